-- By this session's gen_fnpure.py: the walk of laws.FnPure by hand. Not trusted: Lean checks it.
import Derived.Test.YtbpnjlemjapnnaaKPx39
namespace Go.Proofs.Ytbpnjlemjapnnaa.P
open Go.RowKit Go.Proofs.YtbpnjlemjapnnaaW.PrintWords Go.Proofs.YtbpnjlemjapnnaaW.PrintLast Go.Proofs.YtbpnjlemjapnnaaW.PrintMore
set_option linter.unusedVariables false
/-- Blocks from lo on, below hi. -/
def Iv (lo hi:Nat) (k:Nat):Prop:=lo≤k∧k<hi
/-- Whatever happens above the blocks of W. -/
def Ft (W:World) (P:World→Prop):Prop:=∀W',Below W.heap.size W W'→P W'
section
variable {α:Type}{d:Kd α}{e:Nat}{w W W':World}{ok:Nat→Prop}{v:Value}{xs:List α}{base b:Nat}{P:World→Prop}{A:Option Addr}{n c:Nat}
theorem Ft.step (h:Ft W P) (hb:Below W.heap.size W W'):Ft W' P:=fun W2 h2=>h W2 (bwT hb h2)
theorem Ft.now (h:Ft W P):P W:=h W (Below.refl _ _)
theorem fp_S (h:Kd.S d e W base ok (.slice A n c) xs):Ft W (fun W'=>d.C W' A xs.length xs):=fun W' hb=>(Kd.S_reads' (Kd.S_below h hb)).2.2
theorem fp_R (h:Kd.R d e W base ok (.slice A n c) xs):Ft W (fun W'=>d.C W' A xs.length xs):=fun W' hb=>(Kd.R_reads' (Kd.R_below h hb)).2.2
theorem fp_Q (h:Kd.Q d e W base ok (.slice A n c) xs):Ft W (fun W'=>d.C W' A xs.length xs):=fun W' hb=>(Kd.Q_reads' (Kd.Q_below h hb)).2.2
theorem fp_V (h:Kd.V d e W base ok (.slice A n c) xs):Ft W (fun W'=>d.C W' A xs.length xs):=fun W' hb=>(Kd.V_reads' (Kd.V_below h hb)).2.2
theorem fp_C (h:d.C W A n xs):Ft W (fun W'=>d.C W' A n xs):=fun W' hb=>Kd.C_below h hb
theorem fp_ivS (h:Kd.S d e W base ok v xs) (hb:b≤base):Kd.S d e W b (Iv base W.heap.size) v xs:=Kd.S_lower (Kd.S_mono (Kd.S_bound h) (fun _ hk=>⟨hk.2.1,hk.2.2.1⟩)) hb
theorem fp_ivR (h:Kd.R d e W base ok v xs) (hb:b≤base):Kd.R d e W b (Iv base W.heap.size) v xs:=Kd.R_lower (Kd.R_mono (Kd.R_bound h) (fun _ hk=>⟨hk.2.1,hk.2.2.1⟩)) hb
theorem fp_len (h:Kd.R d e W base ok v xs):xs.length≤maxLen:=by
 obtain⟨inner,ho⟩:=Kd.R_own h
 rcases ho.2 with ⟨_,h0⟩|⟨g,cap,cur,_,_,_,h4,h5,_⟩
 ·omega
 ·omega
theorem fp_w {i:Int}{m:Nat} (h0:0≤i) (h1:i<(m:Int)) (h2:m≤maxLen):wrap64 (i+1)=i+1:=by
 have h3:maxLen≤9223372036854775807:=by decide
 unfold wrap64
 omega
theorem fp_ne {a1 b1 a2 b2 k g:Nat} (h:Iv a1 b1 k) (hg:Iv a2 b2 g) (hd:b1≤a2∨b2≤a1):k≠g:=by
 have:=h.1
 have:=h.2
 have:=hg.1
 have:=hg.2
 omega
end
theorem fp_rd {a:List (List Int)}{i:Int}{r:List Int} (h:i.toNat<a.length):(rd_L1 (a.set i.toNat r) i)=r:=by
 unfold rd_L1
 rw[List.getD_eq_getElem?_getD,List.getElem?_set_self h]
 rfl
set_option maxHeartbeats 16000000 in
set_option maxRecDepth 100000 in
theorem laws_FnPure.calls (k:Nat) (A0:Option Addr) (c0:Nat) (l0:List Int) (w:World) (hr0:Kd.C (Kd.int .u8) w A0 l0.length l0) (hc0:l0.length≤c0) (t g a d e1 h ta sd:List (List Int)) (x m b c v sb:List Int) (ok one:Bool)
  (t0:mB.f l0=some false) (t1:jO.f k l0=some (t,x)) (t2:jJ.f k l0=some g) (t3:jR.f k l0=some m) (t4:fA.f k t=some a) (t5:jT.f k m=some b) (t6:fH.f k t x=some (c,ok)) (t7:jM.f k m=some d) (t8:jH.f k g 0=some (e1,one))
  (t9:fJ.f k t x=some (v,ok)) (t10:gJ.f k g 0=some (h,one)) (t11:fU.f k x x=some true) (t12:fU.f k m m=some true) (t13:fU.f k c v=some true) (t14:gH.f k e1 h=some true) (t15:fD.f k t=some ta) (t16:gH.f k a ta=some true)
  (t17:jW.f k m=some sb) (t18:fU.f k b sb=some true) (t19:jP.f k m=some sd) (t20:gH.f k d sd=some true) (hx44:x.length<17592186044416) (hm44:m.length<17592186044416):
  Calls Try.prog 3 #[.slice A0 l0.length c0] w fun e w'=>e= .returned (.bool true)∧Below w.heap.size w w':=by
 have T0:=Az.mk t0
 have T1:=Az.mk t1
 have T2:=Az.mk t2
 have T3:=Az.mk t3
 have T4:=Az.mk t4
 have T5:=Az.mk t5
 have T6:=Az.mk t6
 have T7:=Az.mk t7
 have T8:=Az.mk t8
 have T9:=Az.mk t9
 have T10:=Az.mk t10
 have T11:=Az.mk t11
 have T12:=Az.mk t12
 have T13:=Az.mk t13
 have T14:=Az.mk t14
 have T15:=Az.mk t15
 have T16:=Az.mk t16
 have T17:=Az.mk t17
 have T18:=Az.mk t18
 have T19:=Az.mk t19
 have T20:=Az.mk t20
 have HX44:=Az.mk hx44
 have HM44:=Az.mk hm44
 have HC0:=Az.mk hc0
 have HR:=Az.mk (fp_C hr0)
 have HB:=Az.mk (Below.refl w.heap.size w)
 clear hr0 hc0 hx44 hm44 t0 t1 t2 t3 t4 t5 t6 t7 t8 t9 t10 t11 t12 t13 t14 t15 t16 t17 t18 t19 t20
 go_enter Try.func3,Try.ntmps3
 -- the draws and the copies
 go_wp2_with (first|(go_at_call 4;refine(mB.calls A0 c0 l0 false _ (HR.out.now) HC0.out T0.out).mono ?_;rintro e W_ ⟨rfl,hd⟩;have hb:=Drawn0.below hd;clear hd T0;have HR_:=Az.mk (HR.out.step hb);have HB_:=Az.mk (bwT HB.out hb);clear HR;have HR:=HR_;clear HR_;clear HB;have HB:=HB_;clear HB_;clear hb)|(go_at_call 5;refine(jO.calls k A0 c0 l0 t x _ (HR.out.now) HC0.out T1.out).mono ?_;rintro e W_ ⟨v3,v4,rfl,h3,h4,hb⟩;clear T1;have HR_:=Az.mk (HR.out.step hb);have HB_:=Az.mk (bwT HB.out hb);clear HR;have HR:=HR_;clear HR_;clear HB;have HB:=HB_;clear HB_;obtain⟨A3,c3,e3⟩:=Kd.S_slice h3;obtain⟨A4,c4,e4,l4⟩:=Kd.Q_slice h4;subst e3;subst e4;have L3:=Az.mk (Kd.S_reads' h3).2.1;have L4:=Az.mk l4;have CT:=Az.mk (fp_S h3);have CX:=Az.mk (fp_Q h4);clear h3 h4 l4 hb)|(go_at_call 6;refine(jJ.calls k A0 c0 l0 g _ (HR.out.now) HC0.out T2.out).mono ?_;rintro e W_ ⟨v5,rfl,h5,hb⟩;clear T2;have HR_:=Az.mk (HR.out.step hb);have HB_:=Az.mk (bwT HB.out hb);have CT_:=Az.mk (CT.out.step hb);have CX_:=Az.mk (CX.out.step hb);clear HR;have HR:=HR_;clear HR_;clear HB;have HB:=HB_;clear HB_;clear CT;have CT:=CT_;clear CT_;clear CX;have CX:=CX_;clear CX_;obtain⟨A5,c5,e5⟩:=Kd.S_slice h5;subst e5;have L5:=Az.mk (Kd.S_reads' h5).2.1;have CG:=Az.mk (fp_S h5);clear h5 hb)|(go_at_call 7;refine(jR.calls k A0 c0 l0 m _ (HR.out.now) HC0.out T3.out).mono ?_;rintro e W_ ⟨v6,rfl,h6,hb⟩;clear T3;have HR_:=Az.mk (HR.out.step hb);have HB_:=Az.mk (bwT HB.out hb);have CT_:=Az.mk (CT.out.step hb);have CX_:=Az.mk (CX.out.step hb);have CG_:=Az.mk (CG.out.step hb);clear HR;have HR:=HR_;clear HR_;clear HB;have HB:=HB_;clear HB_;clear CT;have CT:=CT_;clear CT_;clear CX;have CX:=CX_;clear CX_;clear CG;have CG:=CG_;clear CG_;obtain⟨A6,c6,e6⟩:=Kd.R_slice h6;subst e6;have L6:=Az.mk (Kd.R_reads' h6).2.1;have CM:=Az.mk (fp_R h6);clear h6 hb)|((with_reducible refine gtD (N:=43) rfl ?_);refine Kd.R_lit (Kd.int .i64) _ 3 ?hg (N:=43) ?hd (xs:=([]:List Int)) (inner:=[]) (ok:=fun _=>True) (okp:=fun _=>True) ?hr ?hp (fun _ hk=>hk) trivial (Below.refl _ _) (Nat.le_refl _) (by simp) ?_;(case hd=>rfl);(case hg=>rfl);(case hr=>first|(go_simp;done)|(go_simp;rfl));(case hp=>exact Reps.none _ _);intro v43 W43 ho43 hb43 hg_ hnew_;clear hg_ hnew_;have HO43:=Az.mk ho43;have HL43:=Az.mk hb43;clear ho43 hb43)|((with_reducible refine gate_builtin (b:= .append) (xs:= #[.tmp 43, .tmp 44]) rfl ?_);at_builtin;refine Kd.R_append_rows (Kd.int .i64) W_.heap.size rfl (.tmp 43) (.tmp 44) 25 3 (.int .i64 0) 8 rfl Try.underlying25 info3 rfl (by decide) (by omega) v43 [] x _ _ _ (fun _=>True) (fun _=>False) rfl rfl ?aO ?aR (fun _ _ h=>h) (fun _ h=>h.elim) (fun _ _=>trivial) (Below.refl _ _) ?aS ?aL ?_;(case aO=>exact HO43.out);(case aR=>exact CX.out _ HL43.out);(case aS=>exact HL43.out.size);(case aL=>have:=HX44.out;simp only[List.length_nil];omega);intro v_CE W_ ho hb_ hg hat;have hb:=(HL43.out).grown hg HL43.out.size (fun k_ hk_=>Kd.R_base HO43.out k_ hk_);have HR_:=Az.mk (HR.out.step hb);have HB_:=Az.mk (bwT HB.out hb);have CT_:=Az.mk (CT.out.step hb);have CX_:=Az.mk (CX.out.step hb);have CG_:=Az.mk (CG.out.step hb);have CM_:=Az.mk (CM.out.step hb);clear HR;have HR:=HR_;clear HR_;clear HB;have HB:=HB_;clear HB_;clear CT;have CT:=CT_;clear CT_;clear CX;have CX:=CX_;clear CX_;clear CG;have CG:=CG_;clear CG_;clear CM;have CM:=CM_;clear CM_;rw[List.nil_append]at ho;obtain⟨A7,c7,e7⟩:=Kd.R_slice ho;subst e7;have L7:=Az.mk (Kd.R_reads' ho).2.1;have CE:=Az.mk (fp_R ho);clear ho hb hb_ hg hat HO43 HL43)|((with_reducible refine gtD (N:=46) rfl ?_);refine Kd.R_lit (Kd.int .i64) _ 3 ?hg (N:=46) ?hd (xs:=([]:List Int)) (inner:=[]) (ok:=fun _=>True) (okp:=fun _=>True) ?hr ?hp (fun _ hk=>hk) trivial (Below.refl _ _) (Nat.le_refl _) (by simp) ?_;(case hd=>rfl);(case hg=>rfl);(case hr=>first|(go_simp;done)|(go_simp;rfl));(case hp=>exact Reps.none _ _);intro v46 W46 ho46 hb46 hg_ hnew_;clear hg_ hnew_;have HO46:=Az.mk ho46;have HL46:=Az.mk hb46;clear ho46 hb46)|((with_reducible refine gate_builtin (b:= .append) (xs:= #[.tmp 46, .tmp 47]) rfl ?_);at_builtin;refine Kd.R_append_rows (Kd.int .i64) W_.heap.size rfl (.tmp 46) (.tmp 47) 25 3 (.int .i64 0) 8 rfl Try.underlying25 info3 rfl (by decide) (by omega) v46 [] m _ _ _ (fun _=>True) (fun _=>False) rfl rfl ?aO ?aR (fun _ _ h=>h) (fun _ h=>h.elim) (fun _ _=>trivial) (Below.refl _ _) ?aS ?aL ?_;(case aO=>exact HO46.out);(case aR=>exact CM.out _ HL46.out);(case aS=>exact HL46.out.size);(case aL=>have:=HM44.out;simp only[List.length_nil];omega);intro v_CF Wd ho hb_ hg hat;have hb:=(HL46.out).grown hg HL46.out.size (fun k_ hk_=>Kd.R_base HO46.out k_ hk_);have HR_:=Az.mk (HR.out.step hb);have HB_:=Az.mk (bwT HB.out hb);have CT_:=Az.mk (CT.out.step hb);have CX_:=Az.mk (CX.out.step hb);have CG_:=Az.mk (CG.out.step hb);have CM_:=Az.mk (CM.out.step hb);have CE_:=Az.mk (CE.out.step hb);clear HR;have HR:=HR_;clear HR_;clear HB;have HB:=HB_;clear HB_;clear CT;have CT:=CT_;clear CT_;clear CX;have CX:=CX_;clear CX_;clear CG;have CG:=CG_;clear CG_;clear CM;have CM:=CM_;clear CM_;clear CE;have CE:=CE_;clear CE_;rw[List.nil_append]at ho;obtain⟨A8,c8,e8⟩:=Kd.R_slice ho;subst e8;have L8:=Az.mk (Kd.R_reads' ho).2.1;have CF:=Az.mk (fp_R ho);clear ho hb hb_ hg hat HO46 HL46;have HB0:=HB;clear HB;have HBD:=Az.mk (Below.refl Wd.heap.size Wd);have HSZ:=Az.mk (Nat.le_refl Wd.heap.size);clear HR)|(go_at_call 8;refine(fA.calls k A3 c3 t a _ (CT.out _ HBD.out) L3.out T4.out).mono ?_;rintro e W_ ⟨v9,rfl,h,hb⟩;have HBD_:=Az.mk (bwT HBD.out hb);clear HBD;have HBD:=HBD_;clear HBD_;obtain⟨A9,c9,e9⟩:=Kd.S_slice h;subst e9;have Z9:=Az.mk hb.size;have R9:=Az.mk (fp_ivS h HSZ.out);have L9:=Az.mk (Kd.S_reads' h).2.1;have HSZ_:=Az.mk (Nat.le_trans HSZ.out hb.size);clear HSZ;have HSZ:=HSZ_;clear HSZ_ h hb)|(go_at_call 9;refine(jT.calls k A6 c6 m b _ (CM.out _ HBD.out) L6.out T5.out).mono ?_;rintro e W_ ⟨v10,rfl,h,hb⟩;have HBD_:=Az.mk (bwT HBD.out hb);have R9_:=Az.mk (Kd.S_below R9.out hb);clear HBD;have HBD:=HBD_;clear HBD_;clear R9;have R9:=R9_;clear R9_;obtain⟨A10,c10,e10⟩:=Kd.R_slice h;subst e10;have Z10:=Az.mk hb.size;have R10:=Az.mk (fp_ivR h HSZ.out);have L10:=Az.mk (Kd.R_reads' h).2.1;have HSZ_:=Az.mk (Nat.le_trans HSZ.out hb.size);clear HSZ;have HSZ:=HSZ_;clear HSZ_ h hb)|(go_at_call 10;refine(fH.calls k A3 c3 t A4 c4 x c ok _ (CT.out _ HBD.out) L3.out (CX.out _ HBD.out) L4.out T6.out).mono ?_;rintro e W_ ⟨v11,rfl,h,hb⟩;have HBD_:=Az.mk (bwT HBD.out hb);have R9_:=Az.mk (Kd.S_below R9.out hb);have R10_:=Az.mk (Kd.R_below R10.out hb);clear HBD;have HBD:=HBD_;clear HBD_;clear R9;have R9:=R9_;clear R9_;clear R10;have R10:=R10_;clear R10_;obtain⟨A11,c11,e11⟩:=Kd.R_slice h;subst e11;have Z11:=Az.mk hb.size;have R11:=Az.mk (fp_ivR h HSZ.out);have L11:=Az.mk (Kd.R_reads' h).2.1;have HSZ_:=Az.mk (Nat.le_trans HSZ.out hb.size);clear HSZ;have HSZ:=HSZ_;clear HSZ_ h hb)|(go_at_call 11;refine(jM.calls k A6 c6 m d _ (CM.out _ HBD.out) L6.out T7.out).mono ?_;rintro e W_ ⟨v13,rfl,h,hb⟩;have HBD_:=Az.mk (bwT HBD.out hb);have R9_:=Az.mk (Kd.S_below R9.out hb);have R10_:=Az.mk (Kd.R_below R10.out hb);have R11_:=Az.mk (Kd.R_below R11.out hb);clear HBD;have HBD:=HBD_;clear HBD_;clear R9;have R9:=R9_;clear R9_;clear R10;have R10:=R10_;clear R10_;clear R11;have R11:=R11_;clear R11_;obtain⟨A13,c13,e13⟩:=Kd.S_slice h;subst e13;have Z13:=Az.mk hb.size;have R13:=Az.mk (fp_ivS h HSZ.out);have L13:=Az.mk (Kd.S_reads' h).2.1;have HSZ_:=Az.mk (Nat.le_trans HSZ.out hb.size);clear HSZ;have HSZ:=HSZ_;clear HSZ_ h hb)|(go_at_call 12;refine(jH.calls k A5 c5 g 0 e1 one _ (CG.out _ HBD.out) L5.out T8.out).mono ?_;rintro e Wm ⟨v14,rfl,h,hb⟩;have HBD_:=Az.mk (bwT HBD.out hb);have R9_:=Az.mk (Kd.S_below R9.out hb);have R10_:=Az.mk (Kd.R_below R10.out hb);have R11_:=Az.mk (Kd.R_below R11.out hb);have R13_:=Az.mk (Kd.S_below R13.out hb);clear HBD;have HBD:=HBD_;clear HBD_;clear R9;have R9:=R9_;clear R9_;clear R10;have R10:=R10_;clear R10_;clear R11;have R11:=R11_;clear R11_;clear R13;have R13:=R13_;clear R13_;obtain⟨A14,c14,e14⟩:=Kd.S_slice h;subst e14;have Z14:=Az.mk hb.size;have R14:=Az.mk (fp_ivS h HSZ.out);have L14:=Az.mk (Kd.S_reads' h).2.1;have HSZ_:=Az.mk (Nat.le_trans HSZ.out hb.size);clear HSZ;have HSZ:=HSZ_;clear HSZ_ h hb))
 obtain⟨N0,N1,N2,N3,N4,N5,HN,R9_,R10_,R11_,R13_,R14_⟩:∃N0 N1 N2 N3 N4 N5:Nat,Az (N0≤N1∧N1≤N2∧N2≤N3∧N3≤N4∧N4≤N5)∧Az (Kd.S (Kd.slice 3 (Kd.int .i64)) 25 Wm Wd.heap.size (Iv N0 N1) (.slice A9 a.length c9) a)∧Az (Kd.R (Kd.int .i64) 3 Wm Wd.heap.size (Iv N1 N2) (.slice A10 b.length c10) b)∧Az (Kd.R (Kd.int .i64) 3 Wm Wd.heap.size (Iv N2 N3) (.slice A11 c.length c11) c)∧Az (Kd.S (Kd.slice 3 (Kd.int .i64)) 25 Wm Wd.heap.size (Iv N3 N4) (.slice A13 d.length c13) d)∧Az (Kd.S (Kd.slice 3 (Kd.int .i64)) 25 Wm Wd.heap.size (Iv N4 N5) (.slice A14 e1.length c14) e1):=⟨_,_,_,_,_,_,⟨Z9.out,Z10.out,Z11.out,Z13.out,Z14.out⟩,R9,R10,R11,R13,R14⟩
 clear R9 Z9
 have R9:=R9_
 clear R9_
 clear R10 Z10
 have R10:=R10_
 clear R10_
 clear R11 Z11
 have R11:=R11_
 clear R11_
 clear R13 Z13
 have R13:=R13_
 clear R13_
 clear R14 Z14
 have R14:=R14_
 clear R14_
 go_loopg [16] (a.length+1) (fun kq v16 w'=>∃(i:Int) (y:List (List Int)),v16= .int .i64 i∧Az (0≤i∧i≤(a.length:Int)∧i+(kq:Int)=(a.length:Int)+1)∧Az (Kd.S (Kd.slice 3 (Kd.int .i64)) 25 w' Wd.heap.size (Iv N0 N1) (.slice A9 a.length c9) y)∧Az (Kd.R (Kd.int .i64) 3 w' Wd.heap.size (Iv N1 N2) (.slice A10 b.length c10) b)∧Az (Kd.R (Kd.int .i64) 3 w' Wd.heap.size (Iv N2 N3) (.slice A11 c.length c11) c)∧Az (Kd.S (Kd.slice 3 (Kd.int .i64)) 25 w' Wd.heap.size (Iv N3 N4) (.slice A13 d.length c13) d)∧Az (Kd.S (Kd.slice 3 (Kd.int .i64)) 25 w' Wd.heap.size (Iv N4 N5) (.slice A14 e1.length c14) e1)∧Az (Below Wd.heap.size Wd w'))
 case atStart=>exact⟨0,a,rfl,⟨by omega⟩,R9,R10,R11,R13,R14,HBD⟩
 case round=>
  clear R9 R10 R11 R13 R14 HBD
  obtain⟨i9,y9,rfl,HI9,R9,R10,R11,R13,R14,HBD⟩:=hrel
  have HY9:=Az.mk (Kd.S_reads' R9.out).1
  have HM9:=Az.mk (fp_len (Kd.S_R R9.out))
  cases gk with
  |zero=>exact absurd HI9.out (by omega)
  |succ k9=>
   by_cases d9:i9<(a.length:Int)
   ·have d9b:decide (i9<(a.length:Int))=true:=decide_eq_true d9
    have HD9:=Az.mk d9
    have d9c:=eq_true HI9.out.1
    replace d9:=eq_true d9
    go_wp2
    go_loopg [17] ((rd_L1 y9 i9).length+1) (fun kq v17 w'=>∃(j:Int) (z:List (List Int)),v17= .int .i64 j∧Az (0≤j∧j≤((rd_L1 y9 i9).length:Int)∧j+(kq:Int)=((rd_L1 y9 i9).length:Int)+1)∧Az ((rd_L1 z i9).length=(rd_L1 y9 i9).length)∧Az (Kd.S (Kd.slice 3 (Kd.int .i64)) 25 w' Wd.heap.size (Iv N0 N1) (.slice A9 a.length c9) z)∧Az (Kd.R (Kd.int .i64) 3 w' Wd.heap.size (Iv N1 N2) (.slice A10 b.length c10) b)∧Az (Kd.R (Kd.int .i64) 3 w' Wd.heap.size (Iv N2 N3) (.slice A11 c.length c11) c)∧Az (Kd.S (Kd.slice 3 (Kd.int .i64)) 25 w' Wd.heap.size (Iv N3 N4) (.slice A13 d.length c13) d)∧Az (Kd.S (Kd.slice 3 (Kd.int .i64)) 25 w' Wd.heap.size (Iv N4 N5) (.slice A14 e1.length c14) e1)∧Az (Below Wd.heap.size Wd w'))
    case atStart=>exact⟨0,y9,rfl,⟨by omega⟩,⟨rfl⟩,R9,R10,R11,R13,R14,HBD⟩
    case round=>
     clear R9 R10 R11 R13 R14 HBD
     obtain⟨j9,z9,rfl,HJ9,HZ9,R9,R10,R11,R13,R14,HBD⟩:=hrel
     cases gk with
     |zero=>exact absurd HJ9.out (by omega)
     |succ k9i=>
      have HY:=Az.mk (Kd.S_reads' R9.out).1
      obtain⟨gb,cap,eg,hg1,hg2,_⟩:=Kd.S_form R9.out (by have:=HY.out;have:=HI9.out;have:=HD9.out;omega)
      injection eg with ea en ec
      clear en
      subst ea
      subst ec
      obtain⟨oki,cs,hcl,hM,hcc,hfr,hoki,hH⟩:=Kd.S_elem R9.out [] i9 HI9.out.1 HD9.out
      obtain⟨ve,rfl,ge⟩:=hM
      obtain⟨Ar,cr,er⟩:=Kd.R_slice ge
      subst er
      have hx:=hcc 0 _ rfl
      simp only[show((Kd.slice 3 (Kd.int .i64))).sz=1 from rfl,Nat.mul_one,Nat.add_zero]at hx
      have HGE:=Az.mk (show Kd.R (Kd.int .i64) 3 _ Wd.heap.size oki (.slice Ar (rd_L1 z9 i9).length cr) (rd_L1 z9 i9)from ge)
      have hx2:=(show World.cell? _ _=some (.slice Ar (rd_L1 z9 i9).length cr)from hx)
      rw[HZ9.out]at hx2
      have HH:=Az.mk hH
      have HOK:=Az.mk hoki
      have HLR:=Az.mk (fp_len ge)
      clear ge hH hoki hfr hcc hcl hx hg1 hg2
      by_cases f9:j9<((rd_L1 y9 i9).length:Int)
      ·have f9b:decide (j9<((rd_L1 y9 i9).length:Int))=true:=decide_eq_true f9
       obtain⟨gr,cap2,eg2,hb2,_,_⟩:=Kd.R_form HGE.out (by have:=HZ9.out;have:=HJ9.out;omega)
       injection eg2 with ea2 en2 ec2
       clear en2
       subst ea2
       subst ec2
       obtain⟨hy,hfy⟩:=Kd.R_celln 0 HGE.out j9 HJ9.out.1 (by have:=HZ9.out;omega)
       have HG:=Az.mk hb2
       have HW:=Az.mk (fp_w (m:=(rd_L1 z9 i9).length) HJ9.out.1 (by have:=HZ9.out;omega) HLR.out)
       have HF:=Az.mk f9
       have f9c:=eq_true HJ9.out.1
       replace f9:=eq_true f9
       clear hb2
       go_wp2
       go_roundg k9i
       case measure=>omega
       case rel=>exact⟨wrap64 (j9+1),z9.set i9.toNat ((rd_L1 z9 i9).set j9.toNat 99),rfl,⟨by rw[HW.out];have:=HJ9.out;have:=HF.out;omega⟩,⟨by rw[fp_rd (by have:=HY.out;have:=HI9.out;have:=HD9.out;omega),List.length_set];exact HZ9.out⟩,⟨Kd.H_back (Kd.H_step HH.out (fun k_ _ hn_ _=>Below.heap_setCell _ _ _ k_ (fun he_=>hn_ (by rw[he_];exact HGE.out.1 gr rfl)))) (Kd.M_row (Kd.R_putn HGE.out j9 99)) (fun _ h_=>h_)⟩,⟨Kd.R_far R10.out (p:=⟨gr,_,none⟩) (fun k_ hk_=>fp_ne hk_ (HOK.out gr (HGE.out.1 gr rfl)).1 (by have:=HN.out;omega)) _⟩,⟨Kd.R_far R11.out (p:=⟨gr,_,none⟩) (fun k_ hk_=>fp_ne hk_ (HOK.out gr (HGE.out.1 gr rfl)).1 (by have:=HN.out;omega)) _⟩,⟨Kd.S_far R13.out (p:=⟨gr,_,none⟩) (fun k_ hk_=>fp_ne hk_ (HOK.out gr (HGE.out.1 gr rfl)).1 (by have:=HN.out;omega)) _⟩,⟨Kd.S_far R14.out (p:=⟨gr,_,none⟩) (fun k_ hk_=>fp_ne hk_ (HOK.out gr (HGE.out.1 gr rfl)).1 (by have:=HN.out;omega)) _⟩,⟨bwS HBD.out HG.out⟩⟩
      ·have f9b:decide (j9<((rd_L1 y9 i9).length:Int))=false:=decide_eq_false f9
       clear f9
       have HW:=Az.mk (fp_w HI9.out.1 HD9.out (by have:=HY9.out;have:=HM9.out;omega))
       go_wp2
       go_roundg k9
       case measure=>omega
       case rel=>exact⟨wrap64 (i9+1),z9,rfl,⟨by rw[HW.out];have:=HI9.out;have:=HD9.out;omega⟩,R9,R10,R11,R13,R14,HBD⟩
   ·have d9b:decide (i9<(a.length:Int))=false:=decide_eq_false d9
    clear d9 R9 HI9 HY9 HM9
    go_wp2
    go_loopg [18] (b.length+1) (fun kq v18 w'=>∃(i:Int) (y:List Int),v18= .int .i64 i∧Az (0≤i∧i≤(b.length:Int)∧i+(kq:Int)=(b.length:Int)+1)∧Az (Kd.R (Kd.int .i64) 3 w' Wd.heap.size (Iv N1 N2) (.slice A10 b.length c10) y)∧Az (Kd.R (Kd.int .i64) 3 w' Wd.heap.size (Iv N2 N3) (.slice A11 c.length c11) c)∧Az (Kd.S (Kd.slice 3 (Kd.int .i64)) 25 w' Wd.heap.size (Iv N3 N4) (.slice A13 d.length c13) d)∧Az (Kd.S (Kd.slice 3 (Kd.int .i64)) 25 w' Wd.heap.size (Iv N4 N5) (.slice A14 e1.length c14) e1)∧Az (Below Wd.heap.size Wd w'))
    case atStart=>exact⟨0,b,rfl,⟨by omega⟩,R10,R11,R13,R14,HBD⟩
    case round=>
     clear R10 R11 R13 R14 HBD
     obtain⟨i10,y10,rfl,HI10,R10,R11,R13,R14,HBD⟩:=hrel
     have HY10:=Az.mk (Kd.R_reads' R10.out).1
     have HM10:=Az.mk (fp_len R10.out)
     cases gk with
     |zero=>exact absurd HI10.out (by omega)
     |succ k10=>
      by_cases d10:i10<(b.length:Int)
      ·have d10b:decide (i10<(b.length:Int))=true:=decide_eq_true d10
       obtain⟨gb,cap,eg,hg1,hg2,_⟩:=Kd.R_form R10.out (by have:=HY10.out;have:=HI10.out;omega)
       injection eg with ea en ec
       clear en
       subst ea
       subst ec
       obtain⟨hx,hf⟩:=Kd.R_celln 0 R10.out i10 HI10.out.1 d10
       have HG:=Az.mk hg1
       have HW:=Az.mk (fp_w HI10.out.1 d10 (by have:=HY10.out;have:=HM10.out;omega))
       have HD:=Az.mk d10
       have d10c:=eq_true HI10.out.1
       replace d10:=eq_true d10
       clear hg1 hg2
       go_wp2
       go_roundg k10
       case measure=>omega
       case rel=>exact⟨wrap64 (i10+1),y10.set i10.toNat 99,rfl,⟨by rw[HW.out];have:=HI10.out;have:=HD.out;omega⟩,⟨Kd.R_putn R10.out i10 99⟩,⟨Kd.R_far R11.out (p:=⟨gb,_,none⟩) (fun k_ hk_=>fp_ne hk_ (R10.out.1 gb rfl) (by have:=HN.out;omega)) _⟩,⟨Kd.S_far R13.out (p:=⟨gb,_,none⟩) (fun k_ hk_=>fp_ne hk_ (R10.out.1 gb rfl) (by have:=HN.out;omega)) _⟩,⟨Kd.S_far R14.out (p:=⟨gb,_,none⟩) (fun k_ hk_=>fp_ne hk_ (R10.out.1 gb rfl) (by have:=HN.out;omega)) _⟩,⟨bwS HBD.out HG.out⟩⟩
      ·have d10b:decide (i10<(b.length:Int))=false:=decide_eq_false d10
       clear d10 R10 HI10 HY10 HM10
       go_wp2
       go_loopg [19] (c.length+1) (fun kq v19 w'=>∃(i:Int) (y:List Int),v19= .int .i64 i∧Az (0≤i∧i≤(c.length:Int)∧i+(kq:Int)=(c.length:Int)+1)∧Az (Kd.R (Kd.int .i64) 3 w' Wd.heap.size (Iv N2 N3) (.slice A11 c.length c11) y)∧Az (Kd.S (Kd.slice 3 (Kd.int .i64)) 25 w' Wd.heap.size (Iv N3 N4) (.slice A13 d.length c13) d)∧Az (Kd.S (Kd.slice 3 (Kd.int .i64)) 25 w' Wd.heap.size (Iv N4 N5) (.slice A14 e1.length c14) e1)∧Az (Below Wd.heap.size Wd w'))
       case atStart=>exact⟨0,c,rfl,⟨by omega⟩,R11,R13,R14,HBD⟩
       case round=>
        clear R11 R13 R14 HBD
        obtain⟨i11,y11,rfl,HI11,R11,R13,R14,HBD⟩:=hrel
        have HY11:=Az.mk (Kd.R_reads' R11.out).1
        have HM11:=Az.mk (fp_len R11.out)
        cases gk with
        |zero=>exact absurd HI11.out (by omega)
        |succ k11=>
         by_cases d11:i11<(c.length:Int)
         ·have d11b:decide (i11<(c.length:Int))=true:=decide_eq_true d11
          obtain⟨gb,cap,eg,hg1,hg2,_⟩:=Kd.R_form R11.out (by have:=HY11.out;have:=HI11.out;omega)
          injection eg with ea en ec
          clear en
          subst ea
          subst ec
          obtain⟨hx,hf⟩:=Kd.R_celln 0 R11.out i11 HI11.out.1 d11
          have HG:=Az.mk hg1
          have HW:=Az.mk (fp_w HI11.out.1 d11 (by have:=HY11.out;have:=HM11.out;omega))
          have HD:=Az.mk d11
          have d11c:=eq_true HI11.out.1
          replace d11:=eq_true d11
          clear hg1 hg2
          go_wp2
          go_roundg k11
          case measure=>omega
          case rel=>exact⟨wrap64 (i11+1),y11.set i11.toNat 99,rfl,⟨by rw[HW.out];have:=HI11.out;have:=HD.out;omega⟩,⟨Kd.R_putn R11.out i11 99⟩,⟨Kd.S_far R13.out (p:=⟨gb,_,none⟩) (fun k_ hk_=>fp_ne hk_ (R11.out.1 gb rfl) (by have:=HN.out;omega)) _⟩,⟨Kd.S_far R14.out (p:=⟨gb,_,none⟩) (fun k_ hk_=>fp_ne hk_ (R11.out.1 gb rfl) (by have:=HN.out;omega)) _⟩,⟨bwS HBD.out HG.out⟩⟩
         ·have d11b:decide (i11<(c.length:Int))=false:=decide_eq_false d11
          clear d11 R11 HI11 HY11 HM11
          go_wp2
          go_loopg [20] (d.length+1) (fun kq v20 w'=>∃(i:Int) (y:List (List Int)),v20= .int .i64 i∧Az (0≤i∧i≤(d.length:Int)∧i+(kq:Int)=(d.length:Int)+1)∧Az (Kd.S (Kd.slice 3 (Kd.int .i64)) 25 w' Wd.heap.size (Iv N3 N4) (.slice A13 d.length c13) y)∧Az (Kd.S (Kd.slice 3 (Kd.int .i64)) 25 w' Wd.heap.size (Iv N4 N5) (.slice A14 e1.length c14) e1)∧Az (Below Wd.heap.size Wd w'))
          case atStart=>exact⟨0,d,rfl,⟨by omega⟩,R13,R14,HBD⟩
          case round=>
           clear R13 R14 HBD
           obtain⟨i13,y13,rfl,HI13,R13,R14,HBD⟩:=hrel
           have HY13:=Az.mk (Kd.S_reads' R13.out).1
           have HM13:=Az.mk (fp_len (Kd.S_R R13.out))
           cases gk with
           |zero=>exact absurd HI13.out (by omega)
           |succ k13=>
            by_cases d13:i13<(d.length:Int)
            ·have d13b:decide (i13<(d.length:Int))=true:=decide_eq_true d13
             have HD13:=Az.mk d13
             have d13c:=eq_true HI13.out.1
             replace d13:=eq_true d13
             go_wp2
             go_loopg [21] ((rd_L1 y13 i13).length+1) (fun kq v21 w'=>∃(j:Int) (z:List (List Int)),v21= .int .i64 j∧Az (0≤j∧j≤((rd_L1 y13 i13).length:Int)∧j+(kq:Int)=((rd_L1 y13 i13).length:Int)+1)∧Az ((rd_L1 z i13).length=(rd_L1 y13 i13).length)∧Az (Kd.S (Kd.slice 3 (Kd.int .i64)) 25 w' Wd.heap.size (Iv N3 N4) (.slice A13 d.length c13) z)∧Az (Kd.S (Kd.slice 3 (Kd.int .i64)) 25 w' Wd.heap.size (Iv N4 N5) (.slice A14 e1.length c14) e1)∧Az (Below Wd.heap.size Wd w'))
             case atStart=>exact⟨0,y13,rfl,⟨by omega⟩,⟨rfl⟩,R13,R14,HBD⟩
             case round=>
              clear R13 R14 HBD
              obtain⟨j13,z13,rfl,HJ13,HZ13,R13,R14,HBD⟩:=hrel
              cases gk with
              |zero=>exact absurd HJ13.out (by omega)
              |succ k13i=>
               have HY:=Az.mk (Kd.S_reads' R13.out).1
               obtain⟨gb,cap,eg,hg1,hg2,_⟩:=Kd.S_form R13.out (by have:=HY.out;have:=HI13.out;have:=HD13.out;omega)
               injection eg with ea en ec
               clear en
               subst ea
               subst ec
               obtain⟨oki,cs,hcl,hM,hcc,hfr,hoki,hH⟩:=Kd.S_elem R13.out [] i13 HI13.out.1 HD13.out
               obtain⟨ve,rfl,ge⟩:=hM
               obtain⟨Ar,cr,er⟩:=Kd.R_slice ge
               subst er
               have hx:=hcc 0 _ rfl
               simp only[show((Kd.slice 3 (Kd.int .i64))).sz=1 from rfl,Nat.mul_one,Nat.add_zero]at hx
               have HGE:=Az.mk (show Kd.R (Kd.int .i64) 3 _ Wd.heap.size oki (.slice Ar (rd_L1 z13 i13).length cr) (rd_L1 z13 i13)from ge)
               have hx2:=(show World.cell? _ _=some (.slice Ar (rd_L1 z13 i13).length cr)from hx)
               rw[HZ13.out]at hx2
               have HH:=Az.mk hH
               have HOK:=Az.mk hoki
               have HLR:=Az.mk (fp_len ge)
               clear ge hH hoki hfr hcc hcl hx hg1 hg2
               by_cases f13:j13<((rd_L1 y13 i13).length:Int)
               ·have f13b:decide (j13<((rd_L1 y13 i13).length:Int))=true:=decide_eq_true f13
                obtain⟨gr,cap2,eg2,hb2,_,_⟩:=Kd.R_form HGE.out (by have:=HZ13.out;have:=HJ13.out;omega)
                injection eg2 with ea2 en2 ec2
                clear en2
                subst ea2
                subst ec2
                obtain⟨hy,hfy⟩:=Kd.R_celln 0 HGE.out j13 HJ13.out.1 (by have:=HZ13.out;omega)
                have HG:=Az.mk hb2
                have HW:=Az.mk (fp_w (m:=(rd_L1 z13 i13).length) HJ13.out.1 (by have:=HZ13.out;omega) HLR.out)
                have HF:=Az.mk f13
                have f13c:=eq_true HJ13.out.1
                replace f13:=eq_true f13
                clear hb2
                go_wp2
                go_roundg k13i
                case measure=>omega
                case rel=>exact⟨wrap64 (j13+1),z13.set i13.toNat ((rd_L1 z13 i13).set j13.toNat 99),rfl,⟨by rw[HW.out];have:=HJ13.out;have:=HF.out;omega⟩,⟨by rw[fp_rd (by have:=HY.out;have:=HI13.out;have:=HD13.out;omega),List.length_set];exact HZ13.out⟩,⟨Kd.H_back (Kd.H_step HH.out (fun k_ _ hn_ _=>Below.heap_setCell _ _ _ k_ (fun he_=>hn_ (by rw[he_];exact HGE.out.1 gr rfl)))) (Kd.M_row (Kd.R_putn HGE.out j13 99)) (fun _ h_=>h_)⟩,⟨Kd.S_far R14.out (p:=⟨gr,_,none⟩) (fun k_ hk_=>fp_ne hk_ (HOK.out gr (HGE.out.1 gr rfl)).1 (by have:=HN.out;omega)) _⟩,⟨bwS HBD.out HG.out⟩⟩
               ·have f13b:decide (j13<((rd_L1 y13 i13).length:Int))=false:=decide_eq_false f13
                clear f13
                have HW:=Az.mk (fp_w HI13.out.1 HD13.out (by have:=HY13.out;have:=HM13.out;omega))
                go_wp2
                go_roundg k13
                case measure=>omega
                case rel=>exact⟨wrap64 (i13+1),z13,rfl,⟨by rw[HW.out];have:=HI13.out;have:=HD13.out;omega⟩,R13,R14,HBD⟩
            ·have d13b:decide (i13<(d.length:Int))=false:=decide_eq_false d13
             clear d13 R13 HI13 HY13 HM13
             go_wp2
             go_loopg [22] (e1.length+1) (fun kq v22 w'=>∃(i:Int) (y:List (List Int)),v22= .int .i64 i∧Az (0≤i∧i≤(e1.length:Int)∧i+(kq:Int)=(e1.length:Int)+1)∧Az (Kd.S (Kd.slice 3 (Kd.int .i64)) 25 w' Wd.heap.size (Iv N4 N5) (.slice A14 e1.length c14) y)∧Az (Below Wd.heap.size Wd w'))
             case atStart=>exact⟨0,e1,rfl,⟨by omega⟩,R14,HBD⟩
             case round=>
              clear R14 HBD
              obtain⟨i14,y14,rfl,HI14,R14,HBD⟩:=hrel
              have HY14:=Az.mk (Kd.S_reads' R14.out).1
              have HM14:=Az.mk (fp_len (Kd.S_R R14.out))
              cases gk with
              |zero=>exact absurd HI14.out (by omega)
              |succ k14=>
               by_cases d14:i14<(e1.length:Int)
               ·have d14b:decide (i14<(e1.length:Int))=true:=decide_eq_true d14
                have HD14:=Az.mk d14
                have d14c:=eq_true HI14.out.1
                replace d14:=eq_true d14
                go_wp2
                go_loopg [23] ((rd_L1 y14 i14).length+1) (fun kq v23 w'=>∃(j:Int) (z:List (List Int)),v23= .int .i64 j∧Az (0≤j∧j≤((rd_L1 y14 i14).length:Int)∧j+(kq:Int)=((rd_L1 y14 i14).length:Int)+1)∧Az ((rd_L1 z i14).length=(rd_L1 y14 i14).length)∧Az (Kd.S (Kd.slice 3 (Kd.int .i64)) 25 w' Wd.heap.size (Iv N4 N5) (.slice A14 e1.length c14) z)∧Az (Below Wd.heap.size Wd w'))
                case atStart=>exact⟨0,y14,rfl,⟨by omega⟩,⟨rfl⟩,R14,HBD⟩
                case round=>
                 clear R14 HBD
                 obtain⟨j14,z14,rfl,HJ14,HZ14,R14,HBD⟩:=hrel
                 cases gk with
                 |zero=>exact absurd HJ14.out (by omega)
                 |succ k14i=>
                  have HY:=Az.mk (Kd.S_reads' R14.out).1
                  obtain⟨gb,cap,eg,hg1,hg2,_⟩:=Kd.S_form R14.out (by have:=HY.out;have:=HI14.out;have:=HD14.out;omega)
                  injection eg with ea en ec
                  clear en
                  subst ea
                  subst ec
                  obtain⟨oki,cs,hcl,hM,hcc,hfr,hoki,hH⟩:=Kd.S_elem R14.out [] i14 HI14.out.1 HD14.out
                  obtain⟨ve,rfl,ge⟩:=hM
                  obtain⟨Ar,cr,er⟩:=Kd.R_slice ge
                  subst er
                  have hx:=hcc 0 _ rfl
                  simp only[show((Kd.slice 3 (Kd.int .i64))).sz=1 from rfl,Nat.mul_one,Nat.add_zero]at hx
                  have HGE:=Az.mk (show Kd.R (Kd.int .i64) 3 _ Wd.heap.size oki (.slice Ar (rd_L1 z14 i14).length cr) (rd_L1 z14 i14)from ge)
                  have hx2:=(show World.cell? _ _=some (.slice Ar (rd_L1 z14 i14).length cr)from hx)
                  rw[HZ14.out]at hx2
                  have HH:=Az.mk hH
                  have HOK:=Az.mk hoki
                  have HLR:=Az.mk (fp_len ge)
                  clear ge hH hoki hfr hcc hcl hx hg1 hg2
                  by_cases f14:j14<((rd_L1 y14 i14).length:Int)
                  ·have f14b:decide (j14<((rd_L1 y14 i14).length:Int))=true:=decide_eq_true f14
                   obtain⟨gr,cap2,eg2,hb2,_,_⟩:=Kd.R_form HGE.out (by have:=HZ14.out;have:=HJ14.out;omega)
                   injection eg2 with ea2 en2 ec2
                   clear en2
                   subst ea2
                   subst ec2
                   obtain⟨hy,hfy⟩:=Kd.R_celln 0 HGE.out j14 HJ14.out.1 (by have:=HZ14.out;omega)
                   have HG:=Az.mk hb2
                   have HW:=Az.mk (fp_w (m:=(rd_L1 z14 i14).length) HJ14.out.1 (by have:=HZ14.out;omega) HLR.out)
                   have HF:=Az.mk f14
                   have f14c:=eq_true HJ14.out.1
                   replace f14:=eq_true f14
                   clear hb2
                   go_wp2
                   go_roundg k14i
                   case measure=>omega
                   case rel=>exact⟨wrap64 (j14+1),z14.set i14.toNat ((rd_L1 z14 i14).set j14.toNat 99),rfl,⟨by rw[HW.out];have:=HJ14.out;have:=HF.out;omega⟩,⟨by rw[fp_rd (by have:=HY.out;have:=HI14.out;have:=HD14.out;omega),List.length_set];exact HZ14.out⟩,⟨Kd.H_back (Kd.H_step HH.out (fun k_ _ hn_ _=>Below.heap_setCell _ _ _ k_ (fun he_=>hn_ (by rw[he_];exact HGE.out.1 gr rfl)))) (Kd.M_row (Kd.R_putn HGE.out j14 99)) (fun _ h_=>h_)⟩,⟨bwS HBD.out HG.out⟩⟩
                  ·have f14b:decide (j14<((rd_L1 y14 i14).length:Int))=false:=decide_eq_false f14
                   clear f14
                   have HW:=Az.mk (fp_w HI14.out.1 HD14.out (by have:=HY14.out;have:=HM14.out;omega))
                   go_wp2
                   go_roundg k14
                   case measure=>omega
                   case rel=>exact⟨wrap64 (i14+1),z14,rfl,⟨by rw[HW.out];have:=HI14.out;have:=HD14.out;omega⟩,R14,HBD⟩
               ·have d14b:decide (i14<(e1.length:Int))=false:=decide_eq_false d14
                clear d14 R14 HI14 HY14 HM14
                have CT_:=Az.mk (CT.out.step HBD.out)
                have CX_:=Az.mk (CX.out.step HBD.out)
                have CG_:=Az.mk (CG.out.step HBD.out)
                have CM_:=Az.mk (CM.out.step HBD.out)
                have CE_:=Az.mk (CE.out.step HBD.out)
                have CF_:=Az.mk (CF.out.step HBD.out)
                clear CT
                clear CX
                clear CG
                clear CM
                clear CE
                clear CF
                have CT:=CT_
                have CX:=CX_
                have CG:=CG_
                have CM:=CM_
                have CE:=CE_
                have CF:=CF_
                clear CT_ CX_ CG_ CM_ CE_ CF_
                go_wp2_with (first|(go_at_call 10;refine(fH.calls k A3 c3 t A4 c4 x c ok _ (CT.out.now) L3.out (CX.out.now) L4.out T6.out).mono ?_;rintro e W_ ⟨v24,rfl,h_,hb⟩;clear T6;have CT_:=Az.mk (CT.out.step hb);have CX_:=Az.mk (CX.out.step hb);have CG_:=Az.mk (CG.out.step hb);have CM_:=Az.mk (CM.out.step hb);have CE_:=Az.mk (CE.out.step hb);have CF_:=Az.mk (CF.out.step hb);have HBD_:=Az.mk (bwT HBD.out hb);clear CT;have CT:=CT_;clear CT_;clear CX;have CX:=CX_;clear CX_;clear CG;have CG:=CG_;clear CG_;clear CM;have CM:=CM_;clear CM_;clear CE;have CE:=CE_;clear CE_;clear CF;have CF:=CF_;clear CF_;clear HBD;have HBD:=HBD_;clear HBD_;obtain⟨A24,c24,e24⟩:=Kd.R_slice h_;subst e24;have L24:=Az.mk (Kd.R_reads' h_).2.1;have CU:=Az.mk (fp_R h_);clear h_ hb)|(go_at_call 13;refine(fJ.calls k A3 c3 t A4 c4 x v ok _ (CT.out.now) L3.out (CX.out.now) L4.out T9.out).mono ?_;rintro e W_ ⟨v26,rfl,h_,hb⟩;clear T9;have CT_:=Az.mk (CT.out.step hb);have CX_:=Az.mk (CX.out.step hb);have CG_:=Az.mk (CG.out.step hb);have CM_:=Az.mk (CM.out.step hb);have CE_:=Az.mk (CE.out.step hb);have CF_:=Az.mk (CF.out.step hb);have HBD_:=Az.mk (bwT HBD.out hb);have CU_:=Az.mk (CU.out.step hb);clear CT;have CT:=CT_;clear CT_;clear CX;have CX:=CX_;clear CX_;clear CG;have CG:=CG_;clear CG_;clear CM;have CM:=CM_;clear CM_;clear CE;have CE:=CE_;clear CE_;clear CF;have CF:=CF_;clear CF_;clear HBD;have HBD:=HBD_;clear HBD_;clear CU;have CU:=CU_;clear CU_;obtain⟨A26,c26,e26⟩:=Kd.R_slice h_;subst e26;have L26:=Az.mk (Kd.R_reads' h_).2.1;have CV:=Az.mk (fp_R h_);clear h_ hb)|(go_at_call 12;refine(jH.calls k A5 c5 g 0 e1 one _ (CG.out.now) L5.out T8.out).mono ?_;rintro e W_ ⟨v28,rfl,h_,hb⟩;clear T8;have CT_:=Az.mk (CT.out.step hb);have CX_:=Az.mk (CX.out.step hb);have CG_:=Az.mk (CG.out.step hb);have CM_:=Az.mk (CM.out.step hb);have CE_:=Az.mk (CE.out.step hb);have CF_:=Az.mk (CF.out.step hb);have HBD_:=Az.mk (bwT HBD.out hb);have CU_:=Az.mk (CU.out.step hb);have CV_:=Az.mk (CV.out.step hb);clear CT;have CT:=CT_;clear CT_;clear CX;have CX:=CX_;clear CX_;clear CG;have CG:=CG_;clear CG_;clear CM;have CM:=CM_;clear CM_;clear CE;have CE:=CE_;clear CE_;clear CF;have CF:=CF_;clear CF_;clear HBD;have HBD:=HBD_;clear HBD_;clear CU;have CU:=CU_;clear CU_;clear CV;have CV:=CV_;clear CV_;obtain⟨A28,c28,e28⟩:=Kd.S_slice h_;subst e28;have L28:=Az.mk (Kd.S_reads' h_).2.1;have CFF:=Az.mk (fp_S h_);clear h_ hb)|(go_at_call 14;refine(gJ.calls k A5 c5 g 0 h one _ (CG.out.now) L5.out T10.out).mono ?_;rintro e W_ ⟨v30,rfl,h_,hb⟩;clear T10;have CT_:=Az.mk (CT.out.step hb);have CX_:=Az.mk (CX.out.step hb);have CG_:=Az.mk (CG.out.step hb);have CM_:=Az.mk (CM.out.step hb);have CE_:=Az.mk (CE.out.step hb);have CF_:=Az.mk (CF.out.step hb);have HBD_:=Az.mk (bwT HBD.out hb);have CU_:=Az.mk (CU.out.step hb);have CV_:=Az.mk (CV.out.step hb);have CFF_:=Az.mk (CFF.out.step hb);clear CT;have CT:=CT_;clear CT_;clear CX;have CX:=CX_;clear CX_;clear CG;have CG:=CG_;clear CG_;clear CM;have CM:=CM_;clear CM_;clear CE;have CE:=CE_;clear CE_;clear CF;have CF:=CF_;clear CF_;clear HBD;have HBD:=HBD_;clear HBD_;clear CU;have CU:=CU_;clear CU_;clear CV;have CV:=CV_;clear CV_;clear CFF;have CFF:=CFF_;clear CFF_;obtain⟨A30,c30,e30⟩:=Kd.V_slice h_;subst e30;have L30:=Az.mk (Kd.V_reads' h_).2.1;have CH:=Az.mk (fp_V h_);clear h_ hb)|(go_at_call 15;refine(fU.calls k A4 c4 x A7 c7 x true _ (CX.out.now) L4.out (CE.out.now) L7.out T11.out).mono ?_;rintro e W_ ⟨rfl,hd⟩;have hb:=Drawn0.below hd;clear hd T11;have CT_:=Az.mk (CT.out.step hb);have CX_:=Az.mk (CX.out.step hb);have CG_:=Az.mk (CG.out.step hb);have CM_:=Az.mk (CM.out.step hb);have CE_:=Az.mk (CE.out.step hb);have CF_:=Az.mk (CF.out.step hb);have HBD_:=Az.mk (bwT HBD.out hb);have CU_:=Az.mk (CU.out.step hb);have CV_:=Az.mk (CV.out.step hb);have CFF_:=Az.mk (CFF.out.step hb);have CH_:=Az.mk (CH.out.step hb);clear CT;have CT:=CT_;clear CT_;clear CX;have CX:=CX_;clear CX_;clear CG;have CG:=CG_;clear CG_;clear CM;have CM:=CM_;clear CM_;clear CE;have CE:=CE_;clear CE_;clear CF;have CF:=CF_;clear CF_;clear HBD;have HBD:=HBD_;clear HBD_;clear CU;have CU:=CU_;clear CU_;clear CV;have CV:=CV_;clear CV_;clear CFF;have CFF:=CFF_;clear CFF_;clear CH;have CH:=CH_;clear CH_;clear hb)|(go_at_call 15;refine(fU.calls k A6 c6 m A8 c8 m true _ (CM.out.now) L6.out (CF.out.now) L8.out T12.out).mono ?_;rintro e W_ ⟨rfl,hd⟩;have hb:=Drawn0.below hd;clear hd T12;have CT_:=Az.mk (CT.out.step hb);have CX_:=Az.mk (CX.out.step hb);have CG_:=Az.mk (CG.out.step hb);have CM_:=Az.mk (CM.out.step hb);have CE_:=Az.mk (CE.out.step hb);have CF_:=Az.mk (CF.out.step hb);have HBD_:=Az.mk (bwT HBD.out hb);have CU_:=Az.mk (CU.out.step hb);have CV_:=Az.mk (CV.out.step hb);have CFF_:=Az.mk (CFF.out.step hb);have CH_:=Az.mk (CH.out.step hb);clear CT;have CT:=CT_;clear CT_;clear CX;have CX:=CX_;clear CX_;clear CG;have CG:=CG_;clear CG_;clear CM;have CM:=CM_;clear CM_;clear CE;have CE:=CE_;clear CE_;clear CF;have CF:=CF_;clear CF_;clear HBD;have HBD:=HBD_;clear HBD_;clear CU;have CU:=CU_;clear CU_;clear CV;have CV:=CV_;clear CV_;clear CFF;have CFF:=CFF_;clear CFF_;clear CH;have CH:=CH_;clear CH_;clear hb)|(go_at_call 15;refine(fU.calls k A24 c24 c A26 c26 v true _ (CU.out.now) L24.out (CV.out.now) L26.out T13.out).mono ?_;rintro e W_ ⟨rfl,hd⟩;have hb:=Drawn0.below hd;clear hd T13;have CT_:=Az.mk (CT.out.step hb);have CX_:=Az.mk (CX.out.step hb);have CG_:=Az.mk (CG.out.step hb);have CM_:=Az.mk (CM.out.step hb);have CE_:=Az.mk (CE.out.step hb);have CF_:=Az.mk (CF.out.step hb);have HBD_:=Az.mk (bwT HBD.out hb);have CU_:=Az.mk (CU.out.step hb);have CV_:=Az.mk (CV.out.step hb);have CFF_:=Az.mk (CFF.out.step hb);have CH_:=Az.mk (CH.out.step hb);clear CT;have CT:=CT_;clear CT_;clear CX;have CX:=CX_;clear CX_;clear CG;have CG:=CG_;clear CG_;clear CM;have CM:=CM_;clear CM_;clear CE;have CE:=CE_;clear CE_;clear CF;have CF:=CF_;clear CF_;clear HBD;have HBD:=HBD_;clear HBD_;clear CU;have CU:=CU_;clear CU_;clear CV;have CV:=CV_;clear CV_;clear CFF;have CFF:=CFF_;clear CFF_;clear CH;have CH:=CH_;clear CH_;clear hb)|(go_at_call 16;refine(gH.calls k A28 c28 e1 A30 c30 h true _ (CFF.out.now) L28.out (CH.out.now) L30.out T14.out).mono ?_;rintro e W_ ⟨rfl,hd⟩;have hb:=Drawn0.below hd;clear hd T14;have CT_:=Az.mk (CT.out.step hb);have CX_:=Az.mk (CX.out.step hb);have CG_:=Az.mk (CG.out.step hb);have CM_:=Az.mk (CM.out.step hb);have CE_:=Az.mk (CE.out.step hb);have CF_:=Az.mk (CF.out.step hb);have HBD_:=Az.mk (bwT HBD.out hb);have CU_:=Az.mk (CU.out.step hb);have CV_:=Az.mk (CV.out.step hb);have CFF_:=Az.mk (CFF.out.step hb);have CH_:=Az.mk (CH.out.step hb);clear CT;have CT:=CT_;clear CT_;clear CX;have CX:=CX_;clear CX_;clear CG;have CG:=CG_;clear CG_;clear CM;have CM:=CM_;clear CM_;clear CE;have CE:=CE_;clear CE_;clear CF;have CF:=CF_;clear CF_;clear HBD;have HBD:=HBD_;clear HBD_;clear CU;have CU:=CU_;clear CU_;clear CV;have CV:=CV_;clear CV_;clear CFF;have CFF:=CFF_;clear CFF_;clear CH;have CH:=CH_;clear CH_;clear hb)|(go_at_call 8;refine(fA.calls k A3 c3 t a _ (CT.out.now) L3.out T4.out).mono ?_;rintro e W_ ⟨v209,rfl,h_,hb⟩;clear T4;have CT_:=Az.mk (CT.out.step hb);have CX_:=Az.mk (CX.out.step hb);have CG_:=Az.mk (CG.out.step hb);have CM_:=Az.mk (CM.out.step hb);have CE_:=Az.mk (CE.out.step hb);have CF_:=Az.mk (CF.out.step hb);have HBD_:=Az.mk (bwT HBD.out hb);have CU_:=Az.mk (CU.out.step hb);have CV_:=Az.mk (CV.out.step hb);have CFF_:=Az.mk (CFF.out.step hb);have CH_:=Az.mk (CH.out.step hb);clear CT;have CT:=CT_;clear CT_;clear CX;have CX:=CX_;clear CX_;clear CG;have CG:=CG_;clear CG_;clear CM;have CM:=CM_;clear CM_;clear CE;have CE:=CE_;clear CE_;clear CF;have CF:=CF_;clear CF_;clear HBD;have HBD:=HBD_;clear HBD_;clear CU;have CU:=CU_;clear CU_;clear CV;have CV:=CV_;clear CV_;clear CFF;have CFF:=CFF_;clear CFF_;clear CH;have CH:=CH_;clear CH_;obtain⟨A209,c209,e209⟩:=Kd.S_slice h_;subst e209;have L209:=Az.mk (Kd.S_reads' h_).2.1;have CA2:=Az.mk (fp_S h_);clear h_ hb)|(go_at_call 17;refine(fD.calls k A3 c3 t ta _ (CT.out.now) L3.out T15.out).mono ?_;rintro e W_ ⟨v211,rfl,h_,hb⟩;clear T15;have CT_:=Az.mk (CT.out.step hb);have CX_:=Az.mk (CX.out.step hb);have CG_:=Az.mk (CG.out.step hb);have CM_:=Az.mk (CM.out.step hb);have CE_:=Az.mk (CE.out.step hb);have CF_:=Az.mk (CF.out.step hb);have HBD_:=Az.mk (bwT HBD.out hb);have CU_:=Az.mk (CU.out.step hb);have CV_:=Az.mk (CV.out.step hb);have CFF_:=Az.mk (CFF.out.step hb);have CH_:=Az.mk (CH.out.step hb);have CA2_:=Az.mk (CA2.out.step hb);clear CT;have CT:=CT_;clear CT_;clear CX;have CX:=CX_;clear CX_;clear CG;have CG:=CG_;clear CG_;clear CM;have CM:=CM_;clear CM_;clear CE;have CE:=CE_;clear CE_;clear CF;have CF:=CF_;clear CF_;clear HBD;have HBD:=HBD_;clear HBD_;clear CU;have CU:=CU_;clear CU_;clear CV;have CV:=CV_;clear CV_;clear CFF;have CFF:=CFF_;clear CFF_;clear CH;have CH:=CH_;clear CH_;clear CA2;have CA2:=CA2_;clear CA2_;obtain⟨A211,c211,e211⟩:=Kd.S_slice h_;subst e211;have L211:=Az.mk (Kd.S_reads' h_).2.1;have CA3:=Az.mk (fp_S h_);clear h_ hb)|(go_at_call 16;refine(gH.calls k A209 c209 a A211 c211 ta true _ (CA2.out.now) L209.out (CA3.out.now) L211.out T16.out).mono ?_;rintro e W_ ⟨rfl,hd⟩;have hb:=Drawn0.below hd;clear hd T16;have CT_:=Az.mk (CT.out.step hb);have CX_:=Az.mk (CX.out.step hb);have CG_:=Az.mk (CG.out.step hb);have CM_:=Az.mk (CM.out.step hb);have CE_:=Az.mk (CE.out.step hb);have CF_:=Az.mk (CF.out.step hb);have HBD_:=Az.mk (bwT HBD.out hb);have CU_:=Az.mk (CU.out.step hb);have CV_:=Az.mk (CV.out.step hb);have CFF_:=Az.mk (CFF.out.step hb);have CH_:=Az.mk (CH.out.step hb);have CA2_:=Az.mk (CA2.out.step hb);have CA3_:=Az.mk (CA3.out.step hb);clear CT;have CT:=CT_;clear CT_;clear CX;have CX:=CX_;clear CX_;clear CG;have CG:=CG_;clear CG_;clear CM;have CM:=CM_;clear CM_;clear CE;have CE:=CE_;clear CE_;clear CF;have CF:=CF_;clear CF_;clear HBD;have HBD:=HBD_;clear HBD_;clear CU;have CU:=CU_;clear CU_;clear CV;have CV:=CV_;clear CV_;clear CFF;have CFF:=CFF_;clear CFF_;clear CH;have CH:=CH_;clear CH_;clear CA2;have CA2:=CA2_;clear CA2_;clear CA3;have CA3:=CA3_;clear CA3_;clear hb)|(go_at_call 9;refine(jT.calls k A6 c6 m b _ (CM.out.now) L6.out T5.out).mono ?_;rintro e W_ ⟨v216,rfl,h_,hb⟩;clear T5;have CT_:=Az.mk (CT.out.step hb);have CX_:=Az.mk (CX.out.step hb);have CG_:=Az.mk (CG.out.step hb);have CM_:=Az.mk (CM.out.step hb);have CE_:=Az.mk (CE.out.step hb);have CF_:=Az.mk (CF.out.step hb);have HBD_:=Az.mk (bwT HBD.out hb);have CU_:=Az.mk (CU.out.step hb);have CV_:=Az.mk (CV.out.step hb);have CFF_:=Az.mk (CFF.out.step hb);have CH_:=Az.mk (CH.out.step hb);have CA2_:=Az.mk (CA2.out.step hb);have CA3_:=Az.mk (CA3.out.step hb);clear CT;have CT:=CT_;clear CT_;clear CX;have CX:=CX_;clear CX_;clear CG;have CG:=CG_;clear CG_;clear CM;have CM:=CM_;clear CM_;clear CE;have CE:=CE_;clear CE_;clear CF;have CF:=CF_;clear CF_;clear HBD;have HBD:=HBD_;clear HBD_;clear CU;have CU:=CU_;clear CU_;clear CV;have CV:=CV_;clear CV_;clear CFF;have CFF:=CFF_;clear CFF_;clear CH;have CH:=CH_;clear CH_;clear CA2;have CA2:=CA2_;clear CA2_;clear CA3;have CA3:=CA3_;clear CA3_;obtain⟨A216,c216,e216⟩:=Kd.R_slice h_;subst e216;have L216:=Az.mk (Kd.R_reads' h_).2.1;have CB2:=Az.mk (fp_R h_);clear h_ hb)|(go_at_call 18;refine(jW.calls k A6 c6 m sb _ (CM.out.now) L6.out T17.out).mono ?_;rintro e W_ ⟨v218,rfl,h_,hb⟩;clear T17;have CT_:=Az.mk (CT.out.step hb);have CX_:=Az.mk (CX.out.step hb);have CG_:=Az.mk (CG.out.step hb);have CM_:=Az.mk (CM.out.step hb);have CE_:=Az.mk (CE.out.step hb);have CF_:=Az.mk (CF.out.step hb);have HBD_:=Az.mk (bwT HBD.out hb);have CU_:=Az.mk (CU.out.step hb);have CV_:=Az.mk (CV.out.step hb);have CFF_:=Az.mk (CFF.out.step hb);have CH_:=Az.mk (CH.out.step hb);have CA2_:=Az.mk (CA2.out.step hb);have CA3_:=Az.mk (CA3.out.step hb);have CB2_:=Az.mk (CB2.out.step hb);clear CT;have CT:=CT_;clear CT_;clear CX;have CX:=CX_;clear CX_;clear CG;have CG:=CG_;clear CG_;clear CM;have CM:=CM_;clear CM_;clear CE;have CE:=CE_;clear CE_;clear CF;have CF:=CF_;clear CF_;clear HBD;have HBD:=HBD_;clear HBD_;clear CU;have CU:=CU_;clear CU_;clear CV;have CV:=CV_;clear CV_;clear CFF;have CFF:=CFF_;clear CFF_;clear CH;have CH:=CH_;clear CH_;clear CA2;have CA2:=CA2_;clear CA2_;clear CA3;have CA3:=CA3_;clear CA3_;clear CB2;have CB2:=CB2_;clear CB2_;obtain⟨A218,c218,e218⟩:=Kd.R_slice h_;subst e218;have L218:=Az.mk (Kd.R_reads' h_).2.1;have CB3:=Az.mk (fp_R h_);clear h_ hb)|(go_at_call 15;refine(fU.calls k A216 c216 b A218 c218 sb true _ (CB2.out.now) L216.out (CB3.out.now) L218.out T18.out).mono ?_;rintro e W_ ⟨rfl,hd⟩;have hb:=Drawn0.below hd;clear hd T18;have CT_:=Az.mk (CT.out.step hb);have CX_:=Az.mk (CX.out.step hb);have CG_:=Az.mk (CG.out.step hb);have CM_:=Az.mk (CM.out.step hb);have CE_:=Az.mk (CE.out.step hb);have CF_:=Az.mk (CF.out.step hb);have HBD_:=Az.mk (bwT HBD.out hb);have CU_:=Az.mk (CU.out.step hb);have CV_:=Az.mk (CV.out.step hb);have CFF_:=Az.mk (CFF.out.step hb);have CH_:=Az.mk (CH.out.step hb);have CA2_:=Az.mk (CA2.out.step hb);have CA3_:=Az.mk (CA3.out.step hb);have CB2_:=Az.mk (CB2.out.step hb);have CB3_:=Az.mk (CB3.out.step hb);clear CT;have CT:=CT_;clear CT_;clear CX;have CX:=CX_;clear CX_;clear CG;have CG:=CG_;clear CG_;clear CM;have CM:=CM_;clear CM_;clear CE;have CE:=CE_;clear CE_;clear CF;have CF:=CF_;clear CF_;clear HBD;have HBD:=HBD_;clear HBD_;clear CU;have CU:=CU_;clear CU_;clear CV;have CV:=CV_;clear CV_;clear CFF;have CFF:=CFF_;clear CFF_;clear CH;have CH:=CH_;clear CH_;clear CA2;have CA2:=CA2_;clear CA2_;clear CA3;have CA3:=CA3_;clear CA3_;clear CB2;have CB2:=CB2_;clear CB2_;clear CB3;have CB3:=CB3_;clear CB3_;clear hb)|(go_at_call 11;refine(jM.calls k A6 c6 m d _ (CM.out.now) L6.out T7.out).mono ?_;rintro e W_ ⟨v223,rfl,h_,hb⟩;clear T7;have CT_:=Az.mk (CT.out.step hb);have CX_:=Az.mk (CX.out.step hb);have CG_:=Az.mk (CG.out.step hb);have CM_:=Az.mk (CM.out.step hb);have CE_:=Az.mk (CE.out.step hb);have CF_:=Az.mk (CF.out.step hb);have HBD_:=Az.mk (bwT HBD.out hb);have CU_:=Az.mk (CU.out.step hb);have CV_:=Az.mk (CV.out.step hb);have CFF_:=Az.mk (CFF.out.step hb);have CH_:=Az.mk (CH.out.step hb);have CA2_:=Az.mk (CA2.out.step hb);have CA3_:=Az.mk (CA3.out.step hb);have CB2_:=Az.mk (CB2.out.step hb);have CB3_:=Az.mk (CB3.out.step hb);clear CT;have CT:=CT_;clear CT_;clear CX;have CX:=CX_;clear CX_;clear CG;have CG:=CG_;clear CG_;clear CM;have CM:=CM_;clear CM_;clear CE;have CE:=CE_;clear CE_;clear CF;have CF:=CF_;clear CF_;clear HBD;have HBD:=HBD_;clear HBD_;clear CU;have CU:=CU_;clear CU_;clear CV;have CV:=CV_;clear CV_;clear CFF;have CFF:=CFF_;clear CFF_;clear CH;have CH:=CH_;clear CH_;clear CA2;have CA2:=CA2_;clear CA2_;clear CA3;have CA3:=CA3_;clear CA3_;clear CB2;have CB2:=CB2_;clear CB2_;clear CB3;have CB3:=CB3_;clear CB3_;obtain⟨A223,c223,e223⟩:=Kd.S_slice h_;subst e223;have L223:=Az.mk (Kd.S_reads' h_).2.1;have CD2:=Az.mk (fp_S h_);clear h_ hb)|(go_at_call 19;refine(jP.calls k A6 c6 m sd _ (CM.out.now) L6.out T19.out).mono ?_;rintro e W_ ⟨v225,rfl,h_,hb⟩;clear T19;have CT_:=Az.mk (CT.out.step hb);have CX_:=Az.mk (CX.out.step hb);have CG_:=Az.mk (CG.out.step hb);have CM_:=Az.mk (CM.out.step hb);have CE_:=Az.mk (CE.out.step hb);have CF_:=Az.mk (CF.out.step hb);have HBD_:=Az.mk (bwT HBD.out hb);have CU_:=Az.mk (CU.out.step hb);have CV_:=Az.mk (CV.out.step hb);have CFF_:=Az.mk (CFF.out.step hb);have CH_:=Az.mk (CH.out.step hb);have CA2_:=Az.mk (CA2.out.step hb);have CA3_:=Az.mk (CA3.out.step hb);have CB2_:=Az.mk (CB2.out.step hb);have CB3_:=Az.mk (CB3.out.step hb);have CD2_:=Az.mk (CD2.out.step hb);clear CT;have CT:=CT_;clear CT_;clear CX;have CX:=CX_;clear CX_;clear CG;have CG:=CG_;clear CG_;clear CM;have CM:=CM_;clear CM_;clear CE;have CE:=CE_;clear CE_;clear CF;have CF:=CF_;clear CF_;clear HBD;have HBD:=HBD_;clear HBD_;clear CU;have CU:=CU_;clear CU_;clear CV;have CV:=CV_;clear CV_;clear CFF;have CFF:=CFF_;clear CFF_;clear CH;have CH:=CH_;clear CH_;clear CA2;have CA2:=CA2_;clear CA2_;clear CA3;have CA3:=CA3_;clear CA3_;clear CB2;have CB2:=CB2_;clear CB2_;clear CB3;have CB3:=CB3_;clear CB3_;clear CD2;have CD2:=CD2_;clear CD2_;obtain⟨A225,c225,e225⟩:=Kd.S_slice h_;subst e225;have L225:=Az.mk (Kd.S_reads' h_).2.1;have CD3:=Az.mk (fp_S h_);clear h_ hb)|(go_at_call 16;refine(gH.calls k A223 c223 d A225 c225 sd true _ (CD2.out.now) L223.out (CD3.out.now) L225.out T20.out).mono ?_;rintro e W_ ⟨rfl,hd⟩;have hb:=Drawn0.below hd;clear hd T20;have CT_:=Az.mk (CT.out.step hb);have CX_:=Az.mk (CX.out.step hb);have CG_:=Az.mk (CG.out.step hb);have CM_:=Az.mk (CM.out.step hb);have CE_:=Az.mk (CE.out.step hb);have CF_:=Az.mk (CF.out.step hb);have HBD_:=Az.mk (bwT HBD.out hb);have CU_:=Az.mk (CU.out.step hb);have CV_:=Az.mk (CV.out.step hb);have CFF_:=Az.mk (CFF.out.step hb);have CH_:=Az.mk (CH.out.step hb);have CA2_:=Az.mk (CA2.out.step hb);have CA3_:=Az.mk (CA3.out.step hb);have CB2_:=Az.mk (CB2.out.step hb);have CB3_:=Az.mk (CB3.out.step hb);have CD2_:=Az.mk (CD2.out.step hb);have CD3_:=Az.mk (CD3.out.step hb);clear CT;have CT:=CT_;clear CT_;clear CX;have CX:=CX_;clear CX_;clear CG;have CG:=CG_;clear CG_;clear CM;have CM:=CM_;clear CM_;clear CE;have CE:=CE_;clear CE_;clear CF;have CF:=CF_;clear CF_;clear HBD;have HBD:=HBD_;clear HBD_;clear CU;have CU:=CU_;clear CU_;clear CV;have CV:=CV_;clear CV_;clear CFF;have CFF:=CFF_;clear CFF_;clear CH;have CH:=CH_;clear CH_;clear CA2;have CA2:=CA2_;clear CA2_;clear CA3;have CA3:=CA3_;clear CA3_;clear CB2;have CB2:=CB2_;clear CB2_;clear CB3;have CB3:=CB3_;clear CB3_;clear CD2;have CD2:=CD2_;clear CD2_;clear CD3;have CD3:=CD3_;clear CD3_;clear hb))
                go_ret
                exact⟨by first|rfl|simp,HB0.out.trans (HBD.out.mono HB0.out.size)⟩
/-- What the law's functions answer for the code l0. -/
def laws_FnPure.Ans (k:Nat) (l0:List Int):Prop:=∃(t g a d e1 h ta sd:List (List Int)) (x m b c v sb:List Int) (ok one:Bool),jO.f k l0=some (t,x)∧jJ.f k l0=some g∧jR.f k l0=some m∧fA.f k t=some a∧jT.f k m=some b∧fH.f k t x=some (c,ok)∧jM.f k m=some d∧jH.f k g 0=some (e1,one)∧fJ.f k t x=some (v,ok)∧gJ.f k g 0=some (h,one)∧fU.f k x x=some true∧fU.f k m m=some true∧fU.f k c v=some true∧gH.f k e1 h=some true∧fD.f k t=some ta∧gH.f k a ta=some true∧jW.f k m=some sb∧fU.f k b sb=some true∧jP.f k m=some sd∧gH.f k d sd=some true∧x.length<17592186044416∧m.length<17592186044416
def laws_FnPure.Pure:Prop:=∀(l0:List Int),l0.length≤maxLen→l0.length*1≤140737488351232→(∀x∈l0,(Lit.int .u8 x).wf=true)→mB.f l0=some true∨(mB.f l0=some false∧∃k,laws_FnPure.Ans k l0)
set_option maxHeartbeats 8000000 in
set_option maxRecDepth 100000 in
theorem laws_FnPure.early (A0:Option Addr) (c0:Nat) (l0:List Int) (w:World) (hr0:Kd.C (Kd.int .u8) w A0 l0.length l0) (hc0:l0.length≤c0) (t0:mB.f l0=some true):
  Calls Try.prog 3 #[.slice A0 l0.length c0] w fun e w'=>e= .returned (.bool true)∧Below w.heap.size w w':=by
 have T0:=Az.mk t0
 have HC0:=Az.mk hc0
 have HR:=Az.mk hr0
 clear hr0 hc0 t0
 go_enter Try.func3,Try.ntmps3
 go_wp2_with (first|(go_at_call 4;refine(mB.calls A0 c0 l0 true _ HR.out HC0.out T0.out).mono ?_;rintro e W_ ⟨rfl,hd⟩;have HB:=Az.mk (Drawn0.below hd);clear hd))
 go_ret
 exact⟨rfl,HB.out⟩
theorem laws_FnPure.walk (P:laws_FnPure.Pure) (a0:Option Addr) (len0 cap0:Nat) (z0:List Int) (w:World) (w0:(a0=none∧len0=0∧cap0=0∧z0=[])∨∃x,a0=some x∧len0≤cap0∧cap0≤maxLen∧z0.length=cap0∧(∀i,i<z0.length→w.cell? (x.add i)=some (.int .u8 (z0.getD i 0)))∧∀n∈z0,(Lit.int .u8 n).wf=true) (y0:len0*1≤140737488351232):
  Calls Try.prog 3 #[.slice a0 len0 cap0] w fun e w'=>e= .returned (.bool true)∧Below w.heap.size w w':=by
 obtain⟨l0,rfl,Aa,hm0,Ab,Ac⟩:=ReadsInt.ofRowC w0
 have hc:=Kd.C_of_reads (d:=(0:Int)) (h1:=fun _=>rfl) Aa
 rcases P l0 hm0 y0 Ab with h|⟨h,k,t,g,a,d,e1,h_,ta,sd,x,m,b,c,v,sb,ok,one,g1,g2,g3,g4,g5,g6,g7,g8,g9,g10,g11,g12,g13,g14,g15,g16,g17,g18,g19,g20,g21,g22⟩
 ·exact laws_FnPure.early _ _ l0 w hc Ac h
 ·exact laws_FnPure.calls k _ _ l0 w hc Ac t g a d e1 h_ ta sd x m b c v sb ok one h g1 g2 g3 g4 g5 g6 g7 g8 g9 g10 g11 g12 g13 g14 g15 g16 g17 g18 g19 g20 g21 g22
end Go.Proofs.Ytbpnjlemjapnnaa.P

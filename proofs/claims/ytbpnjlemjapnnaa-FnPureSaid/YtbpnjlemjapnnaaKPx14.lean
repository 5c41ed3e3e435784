-- The walks, cut and laid together by this session's tools (prune.py, sq2.py, min.py: shorter names, no needless spaces). Not trusted: Lean checks it.
import Derived.Test.YtbpnjlemjapnnaaKWZip
import Derived.Test.YtbpnjlemjapnnaaKPx13
namespace Go.Proofs.Ytbpnjlemjapnnaa.P
open Go.RowKit Go.Proofs.YtbpnjlemjapnnaaW.PrintWords Go.Proofs.YtbpnjlemjapnnaaW.PrintLast Go.Proofs.YtbpnjlemjapnnaaW.PrintMore
attribute [local go_sem] max2_int min2_int max_two min_two max_three min_three max_four min_four   -- for this text's walks alone
set_option linter.unusedVariables false
set_option linter.unusedSimpArgs false
set_option maxHeartbeats 8000000
set_option maxRecDepth 100000
open Option renaming bind_eq_some_iff → be
section
open Bool renaming true → T, false → F
theorem z14_0 {p:Prop} (h:p:=by first|(rw[add_block];exact Kd.own_blk (IsS63.own_neS HI0.out HO423.out (by decide)))|(show(Addr.add _ _).block≠_;rw[add_block];exact Kd.own_blk (IsS63.own_neS HI0.out HO423.out (by decide)))|exact Kd.own_blk (IsS63.own_neS HI0.out HO423.out (by decide))|(dsimp only;exact Kd.own_blk (IsS63.own_neS HI0.out HO423.out (by decide)))):p:=h
theorem bw_14 {n:Nat}{v v':World} (h:Below n v v':=by repeat(first|(with_reducible first|exact HB.out|apply bwA|apply pbN|apply bwD)|exact HB.out)):Below n v v':=h
theorem ln_14 {P:Prop} (h:P:=by(try simp only[List.map_toArray,List.map_cons,List.map_nil]);first|done|rfl|(simp only[List.length_drop,List.length_take];rfl)):P:=h
def jE.f (k:Nat) (s0_0:List Int) (s0_1:Int) (s0_2:Int):Option ((List (List Int)) × Int × Int):=(fG.f k s0_0 s0_1 s0_2).bind fun bt421=>((fB.f s0_0 bt421.2.1 bt421.2.2 20).bind fun bt426=>(if bt426.1=0 then(if bt421.1.length<5864062014805 then(some ((bt421.1 ++ [(([]:List Int))]),bt426.2.1,bt426.2.2)) else(none)) else(if bt426.1=1 then(if 0<(bt421.1.length:Int) then(if 0<((rd_L1 bt421.1 0).length:Int) then((gK.f s0_0 bt426.2.1 bt426.2.2 (([rd (rd_L1 bt421.1 0) 0,8,9]:List Int))).bind fun bt441=>(if(rd_L1 bt421.1 0).length<17592186044414 then(some ((bt421.1.set (0:Int).toNat ((rd_L1 bt421.1 0) ++ [rd (rd_L1 bt421.1 0) 0,bt441.1])),bt441.2.1,bt441.2.2)) else(none))) else(none)) else(none)) else(if bt426.1=2 then(some ((([]:List (List Int))),bt426.2.1,bt426.2.2)) else(some (bt421.1,bt426.2.1,bt426.2.2))))))
def jE.T6:Bool × List (List Nat × List Nat):=(true,[([],[]),([],[]),([1],[1]),([2],[2]),([],[]),([4],[4]),([5],[5]),([6],[6]),([7],[7]),([],[]),([],[]),([10],[10]),([11],[11]),([12],[12]),([13],[13]),([14],[14]),([9,15],[9,15]),([8,16],[8,16]),([3,17,16],[3,17]),([0,0,1,2,3,4,5,6,7,8,9,10,11,12,13,14,15,16,17,18],[0]),([19,18,18,0,1,2,3,4,5,6,7,8,9,10,11,12,13,14,15,16,17,18],[18,19])])
def jE.B6:List Nat:=[0,0,2,6,0,16,48,112,240,0,0,1024,3072,7168,15360,31744,65024,131056,262142,524287,1048575]
theorem jE.tab6:rtab .any (opsOf Try.f22 6)=jE.T6:=by kernel_rfl
theorem jE.bits6:waitsOk jE.T6.2 jE.B6=true:=by kernel_rfl
theorem jE.calls (k:Nat) (g:Nat) (Ah:List Int) (Bo:Int) (Bp:Int) (r1:List (List Int)) (r2:Int) (r3:Int) (w0 w:World) (hI:IsS63 w0 w g Ah Bo Bp) (hB:Below w0.heap.size w0 w) (h:jE.f k Ah Bo Bp=some (r1,r2,r3)):
  Calls Try.prog 22 #[.pointer (some ⟨g,0,none⟩)] w fun e w'=>∃v0_:Value,e= .returned (v0_)∧Kd.S (Kd.slice 3 (Kd.int .i64)) 25 w' w.heap.size (fun _=>True) v0_ r1∧IsS63 w0 w' g Ah r2 r3∧Below w0.heap.size w0 w'∧KeepBut w w' g none:=by
 have HI0:=Az.mk hI
 have HK:=Az.mk (KeepBut.refl w g none)
 have HL:=Az.mk hB.size
 clear hI
 have HW0:=Az.mk hB.size
 have HB:=Az.mk hB
 clear hB
 have H:((fG.f k Ah Bo Bp).bind fun Am=>((fB.f Ah Am.2.1 Am.2.2 20).bind fun Ao=>(if Ao.1=0 then(if Am.1.length<5864062014805 then(some ((Am.1 ++ [(([]:List Int))]),Ao.2.1,Ao.2.2)) else(none)) else(if Ao.1=1 then(if 0<(Am.1.length:Int) then(if 0<((rd_L1 Am.1 0).length:Int) then((gK.f Ah Ao.2.1 Ao.2.2 (([rd (rd_L1 Am.1 0) 0,8,9]:List Int))).bind fun Bd=>(if(rd_L1 Am.1 0).length<17592186044414 then(some ((Am.1.set (0:Int).toNat ((rd_L1 Am.1 0) ++ [rd (rd_L1 Am.1 0) 0,Bd.1])),Bd.2.1,Bd.2.2)) else(none))) else(none)) else(none)) else(if Ao.1=2 then(some ((([]:List (List Int))),Ao.2.1,Ao.2.2)) else(some (Am.1,Ao.2.1,Ao.2.2)))))))=some (r1,r2,r3):=h
 clear h
 replace H:=bez H
 obtain⟨⟨Ad,Ay,Ba⟩,A2,H⟩:=H
 try dsimp only at H
 replace H:=bez H
 obtain⟨⟨Bq,Av,Ax⟩,A3,H⟩:=H
 try dsimp only at H
 by_cases c4:Bq=0
 ·rw[ip c4]at H
  have Ef:=beq_iff_eq.mpr c4
  have Eg:=bne_eq_false_iff_eq.mpr c4
  clear c4
  obtain⟨Bz,hy⟩:∃y_:List Int,y_=(([]:List Int)):=⟨_,rfl⟩
  replace H:(if Ad.length<5864062014805 then(some ((Ad ++ [Bz]),Av,Ax)) else(none))=some (r1,r2,r3):=rh
  have Cl:=Az.mk hy
  clear hy
  by_cases c5:Ad.length<5864062014805
  rotate_left
  ·rw[ig c5]at H
   exact absurd H (by simp)
  rw[ip c5]at H
  have LMc5:=Az.mk c5
  clear c5
  obtain⟨Eh,hy⟩:∃y_:List (List Int),y_=(Ad ++ [Bz]):=⟨_,rfl⟩
  replace H:(some (Eh,Av,Ax))=some (r1,r2,r3):=rh
  have Db:=Az.mk hy
  clear hy
  simp only[Option.some.injEq,Prod.mk.injEq]at H
  obtain⟨rfl,rfl,rfl⟩:=H
  go_enter Try.func22,Try.ntmps22
  go_wp2_with (first|((with_reducible refine gtC (f:=54) rfl ?_);refine clz Try.func54 (some 5) #[.pointer (some ⟨g,0,none⟩)] ?_;(with_reducible refine(fG.calls k g Ah Bo Bp Ad Ay Ba w0 _ ?Af ?Ag A2.out).mono ?_);(case Af=>exact(kI HI0.out));(case Ag=>exact kG HB.out (IsS63.ge HI0.out));rintro e w6 ⟨Bx,rfl,Ca,hi,hb,hk⟩;refine⟨_,rfl,?_⟩;have HO423:=Az.mk (Kd.S_lower Ca (keep_size (w:=w) (g:=g) (row:=none) (kK HK.out)));replace HK:=Az.mk (KeepBut.trans (kK HK.out) hk (.inl rfl));replace HB:=Az.mk (hb);replace HI0:=Az.mk (hi);(try clear hb);(try clear hk);(try clear hi);(try clear Ca))|((with_reducible refine gtC (f:=51) rfl ?_);refine clz Try.func51 (some 7) #[.pointer (some ⟨g,0,none⟩), .int .i64 20] ?_;(with_reducible refine(fB.calls g Ah Ay Ba 20 Bq Av Ax w0 _ ?Af ?Ag A3.out).mono ?_);(case Af=>exact(kI HI0.out));(case Ag=>exact kG HB.out (IsS63.ge HI0.out));rintro e w7 ⟨rfl,hi,hb,hk⟩;refine⟨_,rfl,?_⟩;replace HO423:=Az.mk (Kd.S_mono (Kd.S_keep (IsS63.apartS (show IsS63 w0 _ g Ah Ay Ba from kI HI0.out) (kS HO423.out) (by decide)) hk (fun _ h=>h.2)) (fun _ h=>h.1));replace HK:=Az.mk (KeepBut.trans (kK HK.out) hk (.inl rfl));replace HB:=Az.mk (hb);replace HI0:=Az.mk (hi);(try clear hb);(try clear hk);(try clear hi))|((with_reducible refine gtD (N:=11) rfl ?_);refine Kd.R_lit (Kd.int .i64) _ 3 ?hg (N:=11) ?hd (xs:=([]:List Int)) (inner:=[]) (ok:=fun _=>True) (okp:=fun _=>True) ?hr ?hp (fun _ hk=>hk) trivial (Below.refl _ _) (Nat.le_refl _) (by simp) ?_;(case hd=>rfl);(case hg=>rfl);(case hr=>first|(go_simp;done)|(go_simp;rfl));(case hp=>exact(Reps.none _ _));intro Gl w8 Da hb hg_ hnew_;clear hg_ hnew_;(first|rw[←Cl.out]at Da|(simp only[Int.reduceToNat]at Da;rw[←Cl.out]at Da));replace HO423:=Az.mk (Kd.S_elder' (kS HO423.out) (Kd.R_base Da) hb);have Bs:=Az.mk (Kd.R_lower Da (keep_size (w:=w) (g:=g) (row:=none) (kK HK.out)));replace HK:=Az.mk (KeepBut.trans (kK HK.out) (KeepBut.of_below hb g none) (.inl rfl));replace HB:=Az.mk (bwT (kG HB.out (IsS63.ge HI0.out)) hb);replace HI0:=Az.mk (IsS63.below (kI HI0.out) hb);clear hb Da;obtain⟨Dc,Dd,Ei⟩:=Kd.R_slice Bs.out;subst Ei)|((with_reducible refine gate_builtin (b:= .append) (xs:= #[.tmp 10, .tmp 12]) rfl ?_);at_builtin;refine Kd.S_append (Kd.slice 3 (Kd.int .i64)) w.heap.size rfl (.tmp 10) (.tmp 12) 24 25 (.slice none 0 0) 24 rfl Try.underlying24 info25 rfl (by decide) (by omega) Bx Ad Bz [.slice Dc Bz.length Dd] (fun _=>True) (fun k_=>some k_=(.slice Dc Bz.length Dd:Value).ownBlock) rfl rfl ?aP (fun k_ hk_=>((Kd.R_mono (ok':=fun k_=>((fun _=>True)) k_∧some k_≠(Bx:Value).ownBlock) (Kd.R_apart' (Bs.out) (Kd.S_typed HO423.out) (by decide)) (fun k_ hk=>⟨trivial,hk.2⟩))).1 k_ hk_.symm) ?aF ?aO (Below.refl _ _) ?aS ?aL ?_;(case aP=>exact Kd.M_row (Kd.R_mono (Kd.R_tight rfl (Kd.R_mono (ok':=fun k_=>((fun _=>True)) k_∧some k_≠(Bx:Value).ownBlock) (Kd.R_apart' (Bs.out) (Kd.S_typed HO423.out) (by decide)) (fun k_ hk=>⟨trivial,hk.2⟩))) (fun _ h_=>h_)));(case aF=>exact(fun _ _=>trivial));(case aO=>exact(by(with_reducible repeat(first|apply Kd.S_alloc|apply Kd.S_drewN|apply Kd.S_drew));exact Kd.S_mono HO423.out (fun k_ hk=>⟨trivial,fun e_=>hk.2 e_⟩)));(case aS=>exact(keep_size (w:=w) (g:=g) (row:=none) (kK HK.out)));(case aL=>have:=LMc5.out;omega);intro Gm Ha ho hb hg hat;rw[←Db.out]at ho;have n0_:=Az.mk (IsS63.grown (kI HI0.out) hg (IsS63.own_neS HI0.out HO423.out (by decide)));have n1_:=Az.mk (below_weaken (kG HB.out (IsS63.ge HI0.out)) HL.out hb);have n2_:=Az.mk (KeepBut.trans (kK HK.out) (KeepBut.of_grown hg g) (Kd.S_base2 HO423.out));have n3_:=Az.mk (ho);clear HI0;clear HB;clear HK;clear HO423;clear Bs;have HI0:=n0_;have HB:=n1_;have HK:=n2_;have De:=n3_;clear n0_ n1_ n2_ n3_;clear ho hb hg hat))
  go_ret
  exact⟨_,rq1,kS De.out,kI HI0.out,kG HB.out (IsS63.ge HI0.out),kK HK.out⟩
 rw[ig c4]at H
 have Ef:=beq_eq_false_iff_ne.mpr c4
 have Eg:=bne_iff_ne.mpr c4
 by_cases Cs:Bq=1
 rotate_left
 ·rw[ig Cs]at H
  have Df:=beq_eq_false_iff_ne.mpr Cs
  have Dg:=bne_iff_ne.mpr Cs
  by_cases Ct:Bq=2
  rotate_left
  ·rw[ig Ct]at H
   have Dh:=beq_eq_false_iff_ne.mpr Ct
   have Di:=bne_iff_ne.mpr Ct
   simp only[Option.some.injEq,Prod.mk.injEq]at H
   obtain⟨rfl,rfl,rfl⟩:=H
   go_enter Try.func22,Try.ntmps22
   go_wp2_with (first|((with_reducible refine gtC (f:=54) rfl ?_);refine clz Try.func54 (some 5) #[.pointer (some ⟨g,0,none⟩)] ?_;(with_reducible refine(fG.calls k g Ah Bo Bp Ad Ay Ba w0 _ ?Af ?Ag A2.out).mono ?_);(case Af=>exact(kI HI0.out));(case Ag=>exact kG HB.out (IsS63.ge HI0.out));rintro e Hb ⟨Bx,rfl,Ca,hi,hb,hk⟩;refine⟨_,rfl,?_⟩;have HO423:=Az.mk (Kd.S_lower Ca (keep_size (w:=w) (g:=g) (row:=none) (kK HK.out)));replace HK:=Az.mk (KeepBut.trans (kK HK.out) hk (.inl rfl));replace HB:=Az.mk (hb);replace HI0:=Az.mk (hi);(try clear hb);(try clear hk);(try clear hi);(try clear Ca))|((with_reducible refine gtC (f:=51) rfl ?_);refine clz Try.func51 (some 7) #[.pointer (some ⟨g,0,none⟩), .int .i64 20] ?_;(with_reducible refine(fB.calls g Ah Ay Ba 20 Bq Av Ax w0 _ ?Af ?Ag A3.out).mono ?_);(case Af=>exact(kI HI0.out));(case Ag=>exact kG HB.out (IsS63.ge HI0.out));rintro e Hc ⟨rfl,hi,hb,hk⟩;refine⟨_,rfl,?_⟩;replace HO423:=Az.mk (Kd.S_mono (Kd.S_keep (IsS63.apartS (show IsS63 w0 _ g Ah Ay Ba from kI HI0.out) (kS HO423.out) (by decide)) hk (fun _ h=>h.2)) (fun _ h=>h.1));replace HK:=Az.mk (KeepBut.trans (kK HK.out) hk (.inl rfl));replace HB:=Az.mk (hb);replace HI0:=Az.mk (hi);(try clear hb);(try clear hk);(try clear hi)))
   go_ret
   exact⟨_,rq1,kS HO423.out,kI HI0.out,kG HB.out (IsS63.ge HI0.out),kK HK.out⟩
  rw[ip Ct]at H
  have Dh:=beq_iff_eq.mpr Ct
  have Di:=bne_eq_false_iff_eq.mpr Ct
  clear Ct
  obtain⟨Ej,hy⟩:∃y_:List (List Int),y_=(([]:List (List Int))):=⟨_,rfl⟩
  replace H:(some (Ej,Av,Ax))=some (r1,r2,r3):=rh
  have Cm:=Az.mk hy
  clear hy
  simp only[Option.some.injEq,Prod.mk.injEq]at H
  obtain⟨rfl,rfl,rfl⟩:=H
  go_enter Try.func22,Try.ntmps22
  go_wp2_with (first|((with_reducible refine gtC (f:=54) rfl ?_);refine clz Try.func54 (some 5) #[.pointer (some ⟨g,0,none⟩)] ?_;(with_reducible refine(fG.calls k g Ah Bo Bp Ad Ay Ba w0 _ ?Af ?Ag A2.out).mono ?_);(case Af=>exact(kI HI0.out));(case Ag=>exact kG HB.out (IsS63.ge HI0.out));rintro e Hd ⟨Bx,rfl,Ca,hi,hb,hk⟩;refine⟨_,rfl,?_⟩;have HO423:=Az.mk (Kd.S_lower Ca (keep_size (w:=w) (g:=g) (row:=none) (kK HK.out)));replace HK:=Az.mk (KeepBut.trans (kK HK.out) hk (.inl rfl));replace HB:=Az.mk (hb);replace HI0:=Az.mk (hi);(try clear hb);(try clear hk);(try clear hi);(try clear Ca))|((with_reducible refine gtC (f:=51) rfl ?_);refine clz Try.func51 (some 7) #[.pointer (some ⟨g,0,none⟩), .int .i64 20] ?_;(with_reducible refine(fB.calls g Ah Ay Ba 20 Bq Av Ax w0 _ ?Af ?Ag A3.out).mono ?_);(case Af=>exact(kI HI0.out));(case Ag=>exact kG HB.out (IsS63.ge HI0.out));rintro e He ⟨rfl,hi,hb,hk⟩;refine⟨_,rfl,?_⟩;replace HO423:=Az.mk (Kd.S_mono (Kd.S_keep (IsS63.apartS (show IsS63 w0 _ g Ah Ay Ba from kI HI0.out) (kS HO423.out) (by decide)) hk (fun _ h=>h.2)) (fun _ h=>h.1));replace HK:=Az.mk (KeepBut.trans (kK HK.out) hk (.inl rfl));replace HB:=Az.mk (hb);replace HI0:=Az.mk (hi);(try clear hb);(try clear hk);(try clear hi))|((with_reducible refine gtD (N:=38) rfl ?_);refine Kd.S_lit (Kd.slice 3 (Kd.int .i64)) _ 25 ?hg (N:=38) ?hd (xs:=([]:List (List Int))) (inner:=[]) (ok:=fun _=>True) (okp:=fun _=>True) ?hr ?hp (fun _ hk=>hk) trivial (Below.refl _ _) (Nat.le_refl _) (by simp) ?_;(case hd=>rfl);(case hg=>rfl);(case hr=>first|(go_simp;done)|(go_simp;rfl));(case hp=>exact(Reps.none _ _));intro Gn Hf By hb hg_ hnew_;clear hg_ hnew_;(first|rw[←Cm.out]at By|(simp only[Int.reduceToNat]at By;rw[←Cm.out]at By));have Dj:=Az.mk (Kd.S_lower (Kd.S_new' By (Kd.S_lt (kS HO423.out))) (keep_size (w:=w) (g:=g) (row:=none) (kK HK.out)));replace HO423:=Az.mk (Kd.S_elder' (kS HO423.out) (Kd.S_base By) hb);replace HK:=Az.mk (KeepBut.trans (kK HK.out) (KeepBut.of_below hb g none) (.inl rfl));replace HB:=Az.mk (bwT (kG HB.out (IsS63.ge HI0.out)) hb);replace HI0:=Az.mk (IsS63.below (kI HI0.out) hb);clear hb By))
  go_ret
  exact⟨_,rq1,by(with_reducible repeat(first|apply Kd.S_alloc|apply Kd.S_drewN|apply Kd.S_drew));exact Kd.S_mono Dj.out (fun _ hk=>trivial),kI HI0.out,kG HB.out (IsS63.ge HI0.out),kK HK.out⟩
 rw[ip Cs]at H
 have Df:=beq_iff_eq.mpr Cs
 have Dg:=bne_eq_false_iff_eq.mpr Cs
 clear Cs
 by_cases Dy:0<(Ad.length:Int)
 rotate_left
 ·rw[ig Dy]at H
  exact absurd H (by simp)
 rw[ip Dy]at H
 have Ga:=ode Dy
 have Gb:decide (0<Ad.length)=true:=ode (by omega)
 clear Dy
 by_cases Dz:0<((rd_L1 Ad 0).length:Int)
 rotate_left
 ·rw[ig Dz]at H
  exact absurd H (by simp)
 rw[ip Dz]at H
 have Gc:=ode Dz
 have Gd:decide (0<(rd_L1 Ad 0).length)=true:=ode (by omega)
 clear Dz
 obtain⟨Cu,hy⟩:∃y_:List Int,y_=(([rd (rd_L1 Ad 0) 0,8,9]:List Int)):=⟨_,rfl⟩
 replace H:((gK.f Ah Av Ax Cu).bind fun Bd=>(if(rd_L1 Ad 0).length<17592186044414 then(some ((Ad.set (0:Int).toNat ((rd_L1 Ad 0) ++ [rd (rd_L1 Ad 0) 0,Bd.1])),Bd.2.1,Bd.2.2)) else(none)))=some (r1,r2,r3):=rh
 have Cn:=Az.mk hy
 clear hy
 replace H:=bez H
 obtain⟨⟨Br,Cv,Cw⟩,Gp,H⟩:=H
 try dsimp only at H
 by_cases Ea:(rd_L1 Ad 0).length<17592186044414
 rotate_left
 ·rw[ig Ea]at H
  exact absurd H (by simp)
 rw[ip Ea]at H
 have LMc16:=Az.mk Ea
 clear Ea
 obtain⟨Cg,hy⟩:∃y_:List Int,y_=((rd_L1 Ad 0) ++ [rd (rd_L1 Ad 0) 0,Br]):=⟨_,rfl⟩
 replace H:(some ((Ad.set (0:Int).toNat Cg),Cv,Cw))=some (r1,r2,r3):=rh
 have Dk:=Az.mk hy
 clear hy
 obtain⟨Ek,hy⟩:∃y_:List (List Int),y_=(Ad.set (0:Int).toNat Cg):=⟨_,rfl⟩
 replace H:(some (Ek,Cv,Cw))=some (r1,r2,r3):=rh
 have Dl:=Az.mk hy
 clear hy
 simp only[Option.some.injEq,Prod.mk.injEq]at H
 obtain⟨rfl,rfl,rfl⟩:=H
 go_enter Try.func22,Try.ntmps22
 try go_wp2_with (first|((with_reducible refine gtC (f:=54) rfl ?_);refine clz Try.func54 (some 5) #[.pointer (some ⟨g,0,none⟩)] ?_;(with_reducible refine(fG.calls k g Ah Bo Bp Ad Ay Ba w0 _ ?Af ?Ag A2.out).mono ?_);(case Af=>exact(kI HI0.out));(case Ag=>exact kG HB.out (IsS63.ge HI0.out));rintro e Hg ⟨Bx,rfl,Ca,hi,hb,hk⟩;refine⟨_,rfl,?_⟩;have HO423:=Az.mk (Kd.S_lower Ca (keep_size (w:=w) (g:=g) (row:=none) (kK HK.out)));replace HK:=Az.mk (KeepBut.trans (kK HK.out) hk (.inl rfl));replace HB:=Az.mk (hb);replace HI0:=Az.mk (hi);(try clear hb);(try clear hk);(try clear hi);(try clear Ca))|((with_reducible refine gtC (f:=51) rfl ?_);refine clz Try.func51 (some 7) #[.pointer (some ⟨g,0,none⟩), .int .i64 20] ?_;(with_reducible refine(fB.calls g Ah Ay Ba 20 Bq Av Ax w0 _ ?Af ?Ag A3.out).mono ?_);(case Af=>exact(kI HI0.out));(case Ag=>exact kG HB.out (IsS63.ge HI0.out));rintro e Gq ⟨rfl,hi,hb,hk⟩;refine⟨_,rfl,?_⟩;replace HO423:=Az.mk (Kd.S_mono (Kd.S_keep (IsS63.apartS (show IsS63 w0 _ g Ah Ay Ba from kI HI0.out) (kS HO423.out) (by decide)) hk (fun _ h=>h.2)) (fun _ h=>h.1));replace HK:=Az.mk (KeepBut.trans (kK HK.out) hk (.inl rfl));replace HB:=Az.mk (hb);replace HI0:=Az.mk (hi);(try clear hb);(try clear hk);(try clear hi)))
 replace HO423:=Az.mk (Kd.S_drew HO423.out);replace HI0:=Az.mk (IsS63.drew HI0.out);replace HK:=Az.mk (keep_drew HK.out);replace HB:=Az.mk (bwD HB.out)
 obtain⟨Gr,Gs,Dm⟩:=Kd.S_slice HO423.out
 (first|subst Dm|(injection Dm with f1_ f2_ f3_;have f4_:=f1_.symm;have f5_:=f3_.symm;clear f1_ f2_ f3_;subst f4_;subst f5_))
 have Ch:0≤(0:Int):=(by omega)
 have Ci:0<(Ad.length:Int):=od
 obtain⟨Cb,El,Bh,Em,Ai,Bt,Bu⟩:=at_L1 (Kd.S_reads' HO423.out).2.2 0 Ch Ci
 cases Em
 obtain⟨Ge,hce435,hMe435,Cc⟩:=Kd.S_get HO423.out [] 0 Ch (by first|exact Ci|exact od|(have e_:=(Kd.S_reads' HO423.out).1;omega))
 obtain⟨Eb,rfl,Bi⟩:=hMe435
 have As:=Cc 0 _ rfl
 rw[Nat.add_zero,show((Kd.slice 3 (Kd.int .i64))).sz=1 from rfl,Nat.mul_one]at As
 replace As:=Option.some.inj (As.symm.trans Ai)
 rw[As]at Bi
 have Ak:=Az.mk (show Kd.R (Kd.int .i64) 3 _ _ _ _ (rd_L1 Ad 0)from Bi)
 clear As Bi
 have Al:=Az.mk Ai
 clear Cc hce435
 have Gf:(0<Ad.length)=True:=ets (by omega)
 (try rw[show((0:Int)).toNat=0 from rfl]at Ai)
 (try rw[Addr.add_zero']at Ai)
 have Bb:=Az.mk Bu
 have Ec:=Az.mk Bt
 clear Bu Bt
 replace Ch:=ets Ch
 replace Ci:=ets Ci
 have Cj:0≤(0:Int):=(by omega)
 have Ck:0<(Ad.length:Int):=od
 obtain⟨Dn,Eo,Ep,Er,Aj,Bv,Bw⟩:=at_L1 (Kd.S_reads' HO423.out).2.2 0 Cj Ck
 obtain rfl:Cb=Dn:=(by injection Er)
 obtain⟨Gg,hce436,hMe436,Cd⟩:=Kd.S_get HO423.out [] 0 Cj (by first|exact Ck|exact od|(have e_:=(Kd.S_reads' HO423.out).1;omega))
 obtain⟨Ed,rfl,Bj⟩:=hMe436
 have Au:=Cd 0 _ rfl
 rw[Nat.add_zero,show((Kd.slice 3 (Kd.int .i64))).sz=1 from rfl,Nat.mul_one]at Au
 replace Au:=Option.some.inj (Au.symm.trans Aj)
 rw[Au]at Bj
 have Ae:=Az.mk (show Kd.R (Kd.int .i64) 3 _ _ _ _ (rd_L1 Ad 0)from Bj)
 clear Au Bj
 have Ap:=Az.mk Aj
 clear Cd hce436
 have Gh:(0<Ad.length)=True:=ets (by omega)
 (try rw[show((0:Int)).toNat=0 from rfl]at Aj)
 (try rw[Addr.add_zero']at Aj)
 have Aq:=Az.mk Bw
 have Ee:=Az.mk Bv
 clear Bw Bv
 replace Cj:=ets Cj
 replace Ck:=ets Ck
 have ea_:=Option.some.inj (Ai.symm.trans Aj)
 injection ea_ with ea_ en_ ec_
 subst ea_
 subst ec_
 clear en_
 have Cx:0≤(0:Int):=(by omega)
 have Cy:0<((rd_L1 Ad 0).length:Int):=od
 obtain⟨Bm,Es,Bc⟩:=Kd.at_int (by repeat(first|(with_reducible exact Aq.out)|(with_reducible refine Kd.C_alloc ?_ _)|(with_reducible refine Kd.C_drewN ?_ _)|(with_reducible refine Kd.C_drew ?_)|exact Aq.out)) 0 Cx Cy
 cases Es
 have Gi:(0<(rd_L1 Ad 0).length)=True:=ets (by omega)
 (try rw[show((0:Int)).toNat=0 from rfl]at Bc)
 (try rw[Addr.add_zero']at Bc)
 replace Cx:=ets Cx
 replace Cy:=ets Cy
 refine start_ (n:=21) (S:=fun w'=>w'.cell? Cb=some (.slice (some Bm) (rd_L1 Ad 0).length Bh)∧w'.cell? Cb=some (.slice (some Bm) (rd_L1 Ad 0).length Bh)∧w'.cell? Bm=some (.int .i64 (rd (rd_L1 Ad 0) 0))) (ds:=[18,20]) #[F,F,F,F,F,F,F,F,F,F,F,F,F,F,F,F,F,F,F,F,F] (by kernel_rfl) rfl rfl ⟨Ai,Aj,Bc⟩ (fun hHeld=>?_);refine with_tabW jE.tab6 jE.bits6 (fun HT_ HW_=>?_)
 generalize Gq.drew=Hh at HO423 HI0 HK HB Ak Ae Bb Aq Al Ap Ai Aj Bc hHeld ⊢
 refine pu (i:=0) (N:=some 16) #[T,F,F,F,F,F,F,F,F,F,F,F,F,F,F,F,F,F,F,F,F] (any_of HT_.out (by kernel_rfl)) ?_
 refine pu (i:=1) (N:=some 17) #[T,T,F,F,F,F,F,F,F,F,F,F,F,F,F,F,F,F,F,F,F] (any_of HT_.out (by kernel_rfl)) ?_
 refine pu (i:=2) (N:=some 18) #[T,T,T,F,F,F,F,F,F,F,F,F,F,F,F,F,F,F,F,F,F] (any_of HT_.out (by kernel_rfl)) ?_
 refine pu (i:=4) (N:=some 20) #[T,T,T,F,T,F,F,F,F,F,F,F,F,F,F,F,F,F,F,F,F] (any_of HT_.out (by kernel_rfl)) ?_
 refine pu (i:=5) (N:=some 21) #[T,T,T,F,T,T,F,F,F,F,F,F,F,F,F,F,F,F,F,F,F] (any_of HT_.out (by kernel_rfl)) ?_
 refine pu (i:=9) (N:=some 25) #[T,T,T,F,T,T,F,F,F,T,F,F,F,F,F,F,F,F,F,F,F] (any_of HT_.out (by kernel_rfl)) ?_
 refine pu (i:=10) (N:=some 26) #[T,T,T,F,T,T,F,F,F,T,T,F,F,F,F,F,F,F,F,F,F] (any_of HT_.out (by kernel_rfl)) ?_
 refine pu (i:=11) (N:=some 27) #[T,T,T,F,T,T,F,F,F,T,T,T,F,F,F,F,F,F,F,F,F] (any_of HT_.out (by kernel_rfl)) ?_
 refine take_ (i:=3) (N:=some 19) (v:=?_) (a':=?_) #[T,T,T,T,T,T,F,F,F,T,T,T,F,F,F,F,F,F,F,F,F] rfl rfl (take_ofW HT_.out HW_.out (by kernel_rfl)) (fun _ _ _ h=>h) (Or.inl ⟨by rfl,?_⟩) hHeld ?_ ?_
 rotate_left
 ·rintro w' ⟨s0,s1,s2⟩
  go_simp
  with_reducible rfl
 rotate_left
 ·exact acq
 refine take_ (i:=6) (N:=some 22) (v:=?_) (a':=?_) #[T,T,T,T,T,T,T,F,F,T,T,T,F,F,F,F,F,F,F,F,F] rfl rfl (take_ofW HT_.out HW_.out (by kernel_rfl)) (fun _ _ _ h=>h) (Or.inl ⟨by rfl,?_⟩) hHeld ?_ ?_
 rotate_left
 ·rintro w' ⟨s0,s1,s2⟩
  go_simp
  with_reducible rfl
 rotate_left
 ·exact acq
 refine pu (i:=7) (N:=some 23) #[T,T,T,T,T,T,T,T,F,T,T,T,F,F,F,F,F,F,F,F,F] (any_of HT_.out (by kernel_rfl)) ?_
 refine take_ (i:=8) (N:=some 24) (v:=?_) (a':=?_) #[T,T,T,T,T,T,T,T,T,T,T,T,F,F,F,F,F,F,F,F,F] rfl rfl (take_ofW HT_.out HW_.out (by kernel_rfl)) (fun _ _ _ h=>h) (Or.inl ⟨by rfl,?_⟩) hHeld ?_ ?_
 rotate_left
 ·rintro w' ⟨s0,s1,s2⟩
  go_simp
  with_reducible rfl
 rotate_left
 ·exact acq
 refine take_ (i:=12) (N:=some 28) (v:=?_) (a':=?_) #[T,T,T,T,T,T,T,T,T,T,T,T,T,F,F,F,F,F,F,F,F] rfl rfl (take_ofW HT_.out HW_.out (by kernel_rfl)) (fun _ _ _ h=>h) (Or.inl ⟨by rfl,?_⟩) hHeld ?_ ?_
 rotate_left
 ·rintro w' ⟨s0,s1,s2⟩
  go_simp
  with_reducible rfl
 rotate_left
 ·exact acq
 refine pu (i:=13) (N:=some 29) #[T,T,T,T,T,T,T,T,T,T,T,T,T,T,F,F,F,F,F,F,F] (any_of HT_.out (by kernel_rfl)) ?_
 refine take_ (i:=14) (N:=some 30) (v:=?_) (a':=?_) #[T,T,T,T,T,T,T,T,T,T,T,T,T,T,T,F,F,F,F,F,F] rfl rfl (take_ofW HT_.out HW_.out (by kernel_rfl)) (fun _ _ _ h=>h) (Or.inl ⟨by rfl,?_⟩) hHeld ?_ ?_
 rotate_left
 ·rintro w' ⟨s0,s1,s2⟩
  go_simp
  with_reducible rfl
 rotate_left
 ·exact acq
 refine one_ (i:=15) (N:=some 31) #[T,T,T,T,T,T,T,T,T,T,T,T,T,T,T,T,F,F,F,F,F] rfl rfl (one_of HT_.out (by kernel_rfl)) (by decide) (fun K hK=>?_)
 refine Kd.R_lit_step (Kd.int .i64) _ 3 ?hg (N:=31) ?hd (xs:=([rd (rd_L1 Ad 0) 0,8,9]:List Int)) (inner:=[.int .i64 (rd (rd_L1 Ad 0) 0), .int .i64 8, .int .i64 9]) (ok:=fun _=>True) (okp:=fun _=>True) ?hr ?hp (fun _ hk=>hk) trivial (Below.refl _ _) (Nat.le_refl _) (by simp) ?_;(case hd=>rfl);(case hg=>rfl);(case hr=>first|(go_simp;done)|(go_simp;rfl));(case hp=>exact(Reps.one (show Kd.M (Kd.int .i64) _ _ _ (rd (rd_L1 Ad 0) 0) [.int .i64 (rd (rd_L1 Ad 0) 0)]from rfl) (Reps.one (show Kd.M (Kd.int .i64) _ _ _ 8 [.int .i64 8]from rfl) (Reps.one (show Kd.M (Kd.int .i64) _ _ _ 9 [.int .i64 9]from rfl) (Reps.none _ _)))))
 intro Gt Hi Bn hb hg_ hnew_
 have HS0_:=(hb.cell (World.block_lt_of_cell? _ _ (hHeld.1))).trans (hHeld.1)
 have HS1_:=(hb.cell (World.block_lt_of_cell? _ _ (hHeld.2.1))).trans (hHeld.2.1)
 have HS2_:=(hb.cell (World.block_lt_of_cell? _ _ (hHeld.2.2))).trans (hHeld.2.2)
 clear hg_ hnew_
 (first|rw[←Cn.out]at Bn|(simp only[Int.reduceToNat]at Bn;rw[←Cn.out]at Bn))
 replace HO423:=Az.mk (Kd.S_elder' (kS HO423.out) (Kd.R_base Bn) hb);have Bf:=Az.mk (Kd.R_lower (Kd.R_new' (Kd.R_new' Bn (Kd.R_lt (kR Ak.out))) (Kd.R_lt (kR Ae.out))) (keep_size (w:=w) (g:=g) (row:=none) (kK HK.out)));replace Ak:=Az.mk (Kd.R_elder' (kR Ak.out) (Kd.R_base Bn) hb);replace Ae:=Az.mk (Kd.R_elder' (kR Ae.out) (Kd.R_base Bn) hb);replace Bb:=Az.mk (Kd.C_below (by repeat(first|(with_reducible exact Bb.out)|(with_reducible refine Kd.C_alloc ?_ _)|(with_reducible refine Kd.C_drewN ?_ _)|(with_reducible refine Kd.C_drew ?_)|exact Bb.out)) hb);replace Al:=Az.mk (pw_cell_below hb Al.out);replace Aq:=Az.mk (Kd.C_below (by repeat(first|(with_reducible exact Aq.out)|(with_reducible refine Kd.C_alloc ?_ _)|(with_reducible refine Kd.C_drewN ?_ _)|(with_reducible refine Kd.C_drew ?_)|exact Aq.out)) hb);replace Ap:=Az.mk (pw_cell_below hb Ap.out);replace HK:=Az.mk (KeepBut.trans (kK HK.out) (KeepBut.of_below hb g none) (.inl rfl));replace HB:=Az.mk (bwT (kG HB.out (IsS63.ge HI0.out)) hb);replace HI0:=Az.mk (IsS63.below (kI HI0.out) hb)
 clear hb Bn
 obtain⟨Et,Eu,Do⟩:=Kd.R_slice Bf.out
 (first|subst Do|(injection Do with f1_ f2_ f3_;have f4_:=f1_.symm;have f5_:=f3_.symm;clear f1_ f2_ f3_;subst f4_;subst f5_))
 refine hK.out _ _ ⟨HS0_,HS1_,HS2_⟩ (fun hHeld=>?_)
 clear hK K
 refine norm_ (a':=?_) ?_ ?_
 rotate_left
 ·show Act.put _ (some 31) _=_
  exact acq
 refine one_ (i:=16) (N:=some 32) #[T,T,T,T,T,T,T,T,T,T,T,T,T,T,T,T,T,F,F,F,F] rfl rfl (one_of HT_.out (by kernel_rfl)) (by decide) (fun K hK=>?_)
 refine goes_ Try.func53 (by kernel_rfl) rfl #[.pointer (some ⟨g,0,none⟩), .slice Et Cu.length Eu] (by rfl) rfl rfl ln_14 ?_
 with_reducible refine(gK.calls g Ah Av Ax _ _ Cu Br Cv Cw w0 _ ?Af ?Ag ?Dp ?Dq ?Dr Gp.out).mono ?_
 (case Af=>exact(kI HI0.out))
 (case Ag=>exact kG HB.out (IsS63.ge HI0.out))
 (case Dp=>exact kC (Kd.R_reads' Bf.out).2.2)
 (case Dq=>exact(Kd.R_reads' Bf.out).2.1)
 (case Dr=>exact far_slice (IsS63.own_ne HI0.out Bf.out (by decide)))
 rintro e Gu ⟨rfl,hi,hb,hk⟩
 have HS0_:=keep_cell hk (hHeld.1) (by first|(rw[add_block];exact Kd.own_blk (IsS63.own_neS HI0.out HO423.out (by decide)))|(show(Addr.add _ _).block≠_;rw[add_block];exact Kd.own_blk (IsS63.own_neS HI0.out HO423.out (by decide)))|exact Kd.own_blk (IsS63.own_neS HI0.out HO423.out (by decide)))
 have HS1_:=keep_cell hk (hHeld.2.1) (by first|(rw[add_block];exact Kd.own_blk (IsS63.own_neS HI0.out HO423.out (by decide)))|(show(Addr.add _ _).block≠_;rw[add_block];exact Kd.own_blk (IsS63.own_neS HI0.out HO423.out (by decide)))|exact Kd.own_blk (IsS63.own_neS HI0.out HO423.out (by decide)))
 have HS2_:=keep_cell hk (hHeld.2.2) (by first|(rw[add_block];exact Kd.own_blk (IsS63.own_ne HI0.out Ae.out (by decide)))|(show(Addr.add _ _).block≠_;rw[add_block];exact Kd.own_blk (IsS63.own_ne HI0.out Ae.out (by decide)))|exact Kd.own_blk (IsS63.own_ne HI0.out Ae.out (by decide)))
 refine⟨_,rfl,?_⟩
 replace Ak:=Az.mk (Kd.R_mono (Kd.R_keep (IsS63.apart (show IsS63 w0 _ g Ah Av Ax from kI HI0.out) (kR Ak.out) (by decide)) hk (fun _ h=>h.2)) (fun _ h=>h.1));replace Al:=Az.mk (keep_cell hk Al.out z14_0);replace Ae:=Az.mk (Kd.R_mono (Kd.R_keep (IsS63.apart (show IsS63 w0 _ g Ah Av Ax from kI HI0.out) (kR Ae.out) (by decide)) hk (fun _ h=>h.2)) (fun _ h=>h.1));replace Ap:=Az.mk (keep_cell hk Ap.out z14_0);replace HO423:=Az.mk (Kd.S_mono (Kd.S_keep (IsS63.apartS (show IsS63 w0 _ g Ah Av Ax from kI HI0.out) (kS HO423.out) (by decide)) hk (fun _ h=>h.2)) (fun _ h=>h.1));replace Bf:=Az.mk (Kd.R_mono (Kd.R_keep (IsS63.apart (show IsS63 w0 _ g Ah Av Ax from kI HI0.out) (kR Bf.out) (by decide)) hk (fun _ h=>h.2)) (fun _ h=>h.1));replace HK:=Az.mk (KeepBut.trans (kK HK.out) hk (.inl rfl));replace HB:=Az.mk (hb);replace HI0:=Az.mk (hi)
 (try clear hb)
 (try clear hb2)
 (try clear hk)
 (try clear hi)
 have n_:=Az.mk (Kd.S_mono (ok':=(fun _=>True)) HO423.out (fun _ _=>trivial))
 clear HO423
 have HO423:=n_
 clear n_
 obtain⟨Ds,Gv,Dt,Du,gl26,Gw,HG26⟩:=Kd.S_form HO423.out (by have h_:(0:Int)<((Ad.length:Int):Int):=od;have h2_:0≤(0:Int):=(by omega);omega)
 (first|cases Dt|(injection Dt with ea_ en_ ec_;(first|subst ea_|(injection ea_ with ea_;subst ea_));subst ec_;clear en_))
 have Dv:=Az.mk Du
 have Gx:=Az.mk HG26
 clear Du gl26 HG26
 (first|simp only[add_plain]at Ai|skip)
 (first|simp only[add_plain]at Aj|skip)
 obtain⟨oki26,Gy,Dw,Ev,Co,_,_,hH26⟩:=Kd.S_elem HO423.out [] (0:Int) (by omega) (by have h_:(0:Int)<((Ad.length:Int):Int):=od;first|exact h_|(have e_:=(Kd.S_reads' HO423.out).1;omega)|simpa using h_)
 obtain⟨Ew,rfl,Ce⟩:=Ev
 have Cf:=Co 0 _ rfl
 have hX26:=Al.out
 (try simp only[add_plain]at hX26)
 (try simp only[Nat.add_zero]at Cf)
 (try rw[show((Kd.slice 3 (Kd.int .i64))).sz=1 from rfl,Nat.mul_one]at Cf)
 replace Cf:=Option.some.inj (Cf.symm.trans hX26)
 subst Cf
 clear hX26 Co Dw
 have UU26:=Az.mk (show Kd.R (Kd.int .i64) 3 _ w.heap.size oki26 (.slice (some Bm) (rd_L1 Ad 0).length Bh) (rd_L1 Ad 0)from Ce)
 have HH26:=Az.mk (Kd.H_widen hH26)
 have HN26:=Az.mk (Kd.S_reads' HO423.out).1
 clear hH26 Ce
 refine hK.out _ _ ⟨HS0_,HS1_,HS2_⟩ (fun hHeld=>?_)
 clear hK K
 refine norm_ (a':=?_) ?_ ?_
 rotate_left
 ·show Act.put _ (some 32) _=_
  exact acq
 refine one_ (i:=17) (N:=some 33) #[T,T,T,T,T,T,T,T,T,T,T,T,T,T,T,T,T,T,F,F,F] rfl rfl (one_of HT_.out (by kernel_rfl)) (by decide) (fun K hK=>?_)
 refine Kd.R_lit_step (Kd.int .i64) _ 3 ?hg (N:=33) ?hd (xs:=([rd (rd_L1 Ad 0) 0,Br]:List Int)) (inner:=[.int .i64 (rd (rd_L1 Ad 0) 0), .int .i64 Br]) (ok:=fun _=>True) (okp:=fun _=>True) ?hr ?hp (fun _ hk=>hk) trivial (Below.refl _ _) (Nat.le_refl _) (by simp) ?_;(case hd=>rfl);(case hg=>rfl);(case hr=>first|(go_simp;done)|(go_simp;rfl));(case hp=>exact(Reps.one (show Kd.M (Kd.int .i64) _ _ _ (rd (rd_L1 Ad 0) 0) [.int .i64 (rd (rd_L1 Ad 0) 0)]from rfl) (Reps.one (show Kd.M (Kd.int .i64) _ _ _ Br [.int .i64 Br]from rfl) (Reps.none _ _))))
 intro vB wB hoB hb hg_ hnew_
 have HS0_:=(hb.cell (World.block_lt_of_cell? _ _ (hHeld.1))).trans (hHeld.1)
 have HS1_:=(hb.cell (World.block_lt_of_cell? _ _ (hHeld.2.1))).trans (hHeld.2.1)
 have HS2_:=(hb.cell (World.block_lt_of_cell? _ _ (hHeld.2.2))).trans (hHeld.2.2)
 clear hg_ hnew_
 have n0_:=Az.mk (Kd.R_below UU26.out hb)
 have n1_:=Az.mk (Kd.H_below HH26.out hb)
 have n2_:=Az.mk (Kd.R_lower hoB (keep_size (w:=w) (g:=g) (row:=none) (kK HK.out)))
 have n3_:=Az.mk (IsS63.below (kI HI0.out) hb)
 have n4_:=Az.mk (KeepBut.trans (kK HK.out) (KeepBut.of_below hb g none) (.inl rfl))
 have n5_:=Az.mk (bwT (kG HB.out (IsS63.ge HI0.out)) hb)
 have HSZ:=Az.mk hb.size
 clear UU26
 clear HH26
 clear HO423
 clear Ak
 clear Al
 clear Ae
 clear Ap
 clear Bf
 clear HI0
 clear HK
 clear HB
 have UU26:=n0_
 have HH26:=n1_
 have HOB:=n2_
 have HI0:=n3_
 have HK:=n4_
 have HB:=n5_
 clear n0_ n1_ n2_ n3_ n4_ n5_ hb hoB
 obtain⟨AoB,coB,eoB⟩:=Kd.R_slice HOB.out
 subst eoB
 refine hK.out _ _ ⟨HS0_,HS1_,HS2_⟩ (fun hHeld=>?_)
 clear hK K
 refine norm_ (a':=?_) ?_ ?_
 rotate_left
 ·show Act.put _ (some 33) _=_
  exact acq
 refine last_ (i:=18) (N:=some 34) #[T,T,T,T,T,T,T,T,T,T,T,T,T,T,T,T,T,T,T,F,F] rfl rfl (one_of HT_.out (by kernel_rfl)) (by decide) (fun K hK=>?_)
 refine Kd.R_append_rows_step (Kd.int .i64) w.heap.size (by rfl) (.tmp 19) (.tmp 33) 25 3 (.int .i64 0) 8 rfl Try.underlying25 info3 rfl (by decide) (by omega) (.slice (some Bm) (rd_L1 Ad 0).length Bh) (rd_L1 Ad 0) [rd (rd_L1 Ad 0) 0,Br] _ _ _ (fun k_=>oki26 k_∨(fun _=>True) k_∧Gu.heap.size≤k_) (fun _=>False) rfl rfl ?aO ?aR (fun _ _ h=>h) (fun _ h=>h.elim) ?aF (Below.refl _ _) ?aS ?aL ?_
 (case aR=>exact(Kd.R_reads' HOB.out).2.2)
 (case aF=>exact(fun k_ hk=> .inr ⟨trivial,Nat.le_trans HSZ.out hk⟩))
 (case aO=>exact Kd.R_mono UU26.out (fun _ hk=> .inl hk))
 (case aS=>exact(keep_size (w:=w) (g:=g) (row:=none) (kK HK.out)))
 (case aL=>have:=LMc16.out;show((rd_L1 Ad 0).length+2)*8≤_;omega)
 intro Gz Hj ho hb hg hat
 rw[←Dk.out]at ho
 have n0_:=Az.mk (IsS63.grown (kI HI0.out) hg (IsS63.own_ne HI0.out UU26.out (by decide)))
 have n2_:=Az.mk (below_weaken (kG HB.out (IsS63.ge HI0.out)) HL.out hb)
 have n3_:=Az.mk (KeepBut.trans (kK HK.out) (KeepBut.of_grown hg g) (Kd.R_base2 UU26.out))
 have n4_:=Az.mk (Kd.H_grown HH26.out hg (fun k_ e_=> .inl (UU26.out.1 k_ e_)))
 have n5_:=Az.mk (ho)
 clear HI0 HB HK HH26 UU26 HOB
 have HI0:=n0_
 have HB:=n2_
 have HK:=n3_
 have HH26:=n4_
 have Cp:=n5_
 clear n0_ n2_ n3_ n4_ n5_
 clear ho hb hg hat
 have Gj:0≤(0:Int):=(by omega)
 have Gk:(0:Int)<((Ad.length:Int):Int):=od
 replace Gj:=ets Gj
 replace Gk:=ets Gk
 obtain⟨Ex,Ey,Dx⟩:=Kd.R_slice Cp.out
 (first|subst Dx|(injection Dx with f1_ f2_ f3_;have f4_:=f1_.symm;have f5_:=f3_.symm;clear f1_ f2_ f3_;subst f4_;subst f5_))
 obtain⟨_,_,hraw28,_,_,Cq,_⟩:=Kd.H_raw HH26.out (by omega) (by have h_:(0:Int)<((Ad.length:Int):Int):=od;first|exact h_|(have e_:=(HN26.out);omega)|simpa using h_)
 obtain⟨_,Cr⟩:=Kd.H_at HH26.out (by omega) (by have h_:(0:Int)<((Ad.length:Int):Int):=od;first|exact h_|(have e_:=(HN26.out);omega)|simpa using h_)
 have Bk:=Cq 0 _ rfl
 have Bl:=Cr 0
 (try simp only[Nat.add_zero]at Bk Bl)
 (try rw[show((Kd.slice 3 (Kd.int .i64))).sz=1 from rfl,Nat.mul_one]at Bk)
 (try rw[show((Kd.slice 3 (Kd.int .i64))).sz=1 from rfl,Nat.mul_one]at Bl)
 (try rw[show((0:Int)).toNat=0 from rfl]at Bk)
 (try simp only[Nat.reduceMul,Nat.zero_mul,Nat.zero_add,Nat.reduceAdd]at Bk)
 (try rw[show((0:Int)).toNat=0 from rfl]at Bl)
 (try simp only[Nat.reduceMul,Nat.zero_mul,Nat.zero_add,Nat.reduceAdd]at Bl)
 have Cz:=Kd.S_seg0 HH26.out (by omega) (by have h_:(0:Int)<((Ad.length:Int):Int):=od;first|exact h_|(have e_:=(HN26.out);omega)|simpa using h_) (seg:=[.slice Ex Cg.length Ey]) (j:=0) (show 1≤1 from by decide) (x':=Cg) (Kd.M_row Cp.out) (fun _ hk=>hk)
 (try simp only[show((Kd.slice 3 (Kd.int .i64))).sz=1 from rfl,Nat.mul_one,Nat.add_zero]at Cz)
 clear Cq Cr
 have HN0_go26:=Az.mk (show g≠Ds from by have h_:=IsS63.own_ne HI0.out hraw28 (by decide);intro e_;exact h_ (by rw[e_];rfl))
 have HS28:=Cz.1
 rw[←Dl.out]at HS28
 have Ez:=Az.mk HS28
 obtain⟨_,hgg28⟩:=Kd.R_typed hraw28 Ds rfl
 have GG28_:=Az.mk hgg28
 clear Cz HS28 hgg28
 refine hK.out _ _ ?_
 clear hK K
 refine norm_ (a':=?_) ?_ ?_
 rotate_left
 ·show Act.put _ (some 34) _=_
  exact acq
 refine pu (i:=19) (N:=some 35) #[T,T,T,T,T,T,T,T,T,T,T,T,T,T,T,T,T,T,T,T,F] (any_of HT_.out (by kernel_rfl)) ?_
 refine last_ (i:=20) (N:=none) #[T,T,T,T,T,T,T,T,T,T,T,T,T,T,T,T,T,T,T,T,T] rfl rfl (one_of HT_.out (by kernel_rfl)) (by decide) (fun K hK=>?_)
 refine skip_ (w1:=?_) (by rfl) rfl ?_ ?_
 rotate_left
 ·go_simp
  rfl
 refine hK.out _ _ ?_
 clear hK K
 refine done_ (done_of HT_.out (by kernel_rfl)) ?_
 try go_wp2
 go_ret
 exact⟨_,rq1,by(with_reducible repeat(first|apply Kd.S_alloc|apply Kd.S_drewN|apply Kd.S_drew));exact Kd.S_mono Ez.out (fun _ hk=>trivial),by repeat(first|(with_reducible first|exact HI0.out|apply IsS63.alloc|apply IsS63.drewN|apply IsS63.drew|apply IsS63.set_1|apply IsS63.set_2|refine IsS63.far ?_ HN0_go26.out _)|exact HI0.out),by repeat(first|(with_reducible first|exact HB.out|apply bwA|apply pbN|apply bwD|refine bwS ?_ (Nat.le_trans HL.out Dv.out)|refine bwS ?_ (IsS63.ge HI0.out))|exact HB.out),by repeat(first|(with_reducible first|exact HK.out|apply KeepBut.set_|apply keep_drewN|apply keep_drew|apply keep_alloc|refine keep_far ?_ Dv.out _)|exact HK.out)⟩
def jJ.f (k:Nat) (l0:List Int):Option ((List (List Int))):=(gS.f k l0).bind fun bt340=>((jE.f k bt340.1 bt340.2.1 bt340.2.2).bind fun bt344=>(some bt344.1))
theorem jJ.calls (k:Nat) (A0:Option Addr) (c0:Nat) (l0:List Int) (r:List (List Int)) (w:World) (As:Kd.C (Kd.int .u8) w A0 l0.length l0) (Au:l0.length≤c0) (h:jJ.f k l0=some r):
  Calls Try.prog 6 #[.slice A0 l0.length c0] w fun e w'=>∃v0_:Value,e= .returned (v0_)∧Kd.S (Kd.slice 3 (Kd.int .i64)) 25 w' w.heap.size (fun _=>True) v0_ r∧Below w.heap.size w w':=by
 have Ax:=Az.mk As
 have Ay:=Az.mk Au
 clear As Au
 have HB:=Az.mk (Below.refl w.heap.size w)
 have H:((gS.f k l0).bind fun Ad=>((jE.f k Ad.1 Ad.2.1 Ad.2.2).bind fun Ag=>(some Ag.1)))=some r:=h
 clear h
 replace H:=bez H
 obtain⟨⟨Ah,Ai,Aj⟩,A2,H⟩:=H
 try dsimp only at H
 replace H:=bez H
 obtain⟨⟨Ak,Ap,Aq⟩,A3,H⟩:=H
 replace H:(some Ak)=some r:=H
 obtain rfl:=Option.some.inj H
 go_enter Try.func6,Try.ntmps6
 go_wp2_with (first|((with_reducible refine gtC (f:=21) rfl ?_);refine clz Try.func21 (some 4) #[.slice A0 l0.length c0] ?_;(with_reducible refine(gS.calls k _ _ l0 Ah Ai Aj w _ ?Ae ?Af ?Al A2.out).mono ?_);(case Ae=>exact bw_14);(case Af=>exact Ax.out);(case Al=>exact Ay.out);rintro e w4 ⟨Am,rfl,hi,hb,hb2⟩;refine⟨_,rfl,?_⟩;replace HB:=Az.mk (hb);have HI343:=Az.mk (hi);(try clear hb);(try clear hb2);(try clear hi))|((with_reducible refine gtC (f:=22) rfl ?_);refine clz Try.func22 (some 5) #[.pointer (some ⟨Am,0,none⟩)] ?_;(with_reducible refine(jE.calls k Am Ah Ai Aj Ak Ap Aq w _ ?Ae ?Af A3.out).mono ?_);(case Ae=>exact(kI HI343.out));(case Af=>exact kG HB.out (IsS63.ge HI343.out));rintro e w5 ⟨Ba,rfl,Av,hi,hb,hk⟩;refine⟨_,rfl,?_⟩;have Ao:=Az.mk (Kd.S_lower Av (bwZ (kG HB.out (IsS63.ge HI343.out))));replace HB:=Az.mk (hb);replace HI343:=Az.mk (hi);(try clear hb);(try clear hk);(try clear hi);(try clear Av)))
 go_ret
 exact⟨_,rq1,kS Ao.out,kG HB.out (IsS63.ge HI343.out)⟩
def gV.l0:Nat→List Int→List Bool→Int→Option (Bool)
 |0,_,_,_=>none
 |k+1,x0,x3,x4=>if x4<(x0.length:Int) then(if 0≤x4 then((fR.f (rd x0 x4) 0 (wrap64 ((x0.length:Int) - 1))).bind fun t353=>(if t353=true then(if 0≤(rd x0 x4) then(if(rd x0 x4)<(x3.length:Int) then(if rdOf false x3 (rd x0 x4)=true then(some false) else(gV.l0 k x0 (x3.set ((rd x0 x4):Int).toNat true) (wrap64 (x4+1)))) else(none)) else(none)) else(some false))) else(none)) else(some true)
def gV.f (k:Nat) (l0:List Int):Option (Bool):=if 0≤(l0.length:Int) then(if((l0.length:Int):Int).toNat≤281474976710656 then(gV.l0 k l0 (List.replicate ((l0.length:Int):Int).toNat false) 0) else(none)) else(none)
theorem gV.calls (k:Nat) (A0:Option Addr) (c0:Nat) (l0:List Int) (r:Bool) (w:World) (Cl:Kd.C (Kd.int .i64) w A0 l0.length l0) (Cm:l0.length≤c0) (h:gV.f k l0=some r):
  Calls Try.prog 76 #[.slice A0 l0.length c0] w fun e w'=>e= .returned (.bool r)∧Below w.heap.size w w':=by
 have Bi:=Az.mk Cl
 have Cw:=Az.mk Cm
 clear Cl Cm
 have HB:=Az.mk (Below.refl w.heap.size w)
 have H:(if 0≤(l0.length:Int) then(if((l0.length:Int):Int).toNat≤281474976710656 then(gV.l0 k l0 (List.replicate ((l0.length:Int):Int).toNat false) 0) else(none)) else(none))=some r:=h
 clear h
 by_cases c2:0≤(l0.length:Int)
 rotate_left
 ·rw[ig c2]at H
  exact absurd H (by simp)
 rw[ip c2]at H
 have Bv:=ets c2
 have Bw:=ode c2
 clear c2
 by_cases c3:((l0.length:Int):Int).toNat≤281474976710656
 rotate_left
 ·rw[ig c3]at H
  exact absurd H (by simp)
 rw[ip c3]at H
 have Bx:=ets c3
 have By:=ode c3
 clear c3
 obtain⟨Bj,hy⟩:∃y_:List Bool,y_=(List.replicate ((l0.length:Int):Int).toNat false):=⟨_,rfl⟩
 replace H:(gV.l0 k l0 Bj 0)=some r:=rh
 have Ax:=Az.mk hy
 clear hy
 have H':=Az.mk H
 clear H
 go_enter Try.func76,Try.ntmps76
 go_wp2_with (first|((with_reducible refine gtD (N:=7) rfl ?_);refine Kd.R_make Kd.bool _ 4 rfl (N:=7) rfl 72 _ _ rfl (l0.length:Int) rfl rfl Try.underlying72 (.bool false) 1 info4 rfl (by decide) (by omega) false (ok:=fun _=>True) (okp:=fun _=>True) rfl (fun _ hk=>hk) trivial (od) (Nat.le_trans (Nat.mul_le_mul_right _ (od:(l0.length:Int).toNat≤281474976710656)) (by omega)) (Below.refl _ _) (Nat.le_refl _) ?_;intro Bk w4 Bl hb hg_ hnew_;clear hg_ hnew_;(first|rw[←Ax.out]at Bl|(simp only[Int.reduceToNat]at Bl;rw[←Ax.out]at Bl));have Bm:=Az.mk (Kd.R_lower Bl (bwZ bw_14));replace HB:=Az.mk (bwT bw_14 hb);clear hb Bl))
 go_loopg [4] k (fun kq v4 w'=>∃(Ah:List Bool) (Ad:Int),v4= .int .i64 Ad∧Az (gV.l0 kq l0 Ah Ad=some r)∧Az (kq≤k)∧Az (Kd.R Kd.bool 4 w' w.heap.size (fun _=>True) Bk Ah)∧Az (Below w.heap.size w w'))
 case atStart=>exact⟨(Bj),(0),rq2,H',⟨Nat.le_refl _⟩,⟨kR Bm.out⟩,⟨bw_14⟩⟩
 clear H'
 try clear c2
 try clear Bv
 try clear Bw
 try clear c3
 try clear Bx
 try clear By
 obtain⟨Ah,Ad,rfl,HA,HK1,Ag,HB⟩:=hrel
 cases gk with
 |zero=>exact absurd HA.out (by simp[gV.l0])
 |succ k1=>
  have H:=HA.out
  clear HA
  simp only[gV.l0]at H
  by_cases c6:Ad<(l0.length:Int)
  rotate_left
  ·rw[ig c6]at H
   have Bz:=decide_eq_false c6
   clear c6
   obtain rfl:=Option.some.inj H
   go_wp2
   go_ret
   exact⟨rq1,bw_14⟩
  rw[ip c6]at H
  have Bz:=ode c6
  clear c6
  by_cases c7:0≤Ad
  rotate_left
  ·rw[ig c7]at H
   exact absurd H (by simp)
  rw[ip c7]at H
  have Cp:=ode c7
  clear c7
  replace H:=bez H
  obtain⟨Ca,A8,H⟩:=H
  try dsimp only at H
  by_cases c9:Ca=true
  rotate_left
  ·replace c9:=Bool.eq_false_iff.mpr c9
   subst c9
   rw[ig ff]at H
   obtain rfl:=Option.some.inj H
   have Aj:0≤(Ad:Int):=od
   have Ak:Ad<(l0.length:Int):=od
   obtain⟨Al,Au,Ae⟩:=Kd.at_int Bi.out Ad Aj Ak
   cases Au
   replace Ae:=kc HB Ae
   replace Aj:=ets Aj
   replace Ak:=ets Ak
   go_wp2_with (first|((with_reducible refine gtC (f:=42) rfl ?_);refine clz Try.func42 (some 21) #[.int .i64 (rd l0 Ad), .int .i64 0, .int .i64 (wrap64 ((l0.length:Int) - 1))] ?_;(with_reducible refine(fR.calls (rd l0 Ad) 0 (wrap64 ((l0.length:Int) - 1)) false _ A8.out).mono ?_);rintro e w' ⟨rfl,⟨nd,rfl⟩⟩;refine⟨_,rfl,?_⟩))
   go_ret
   exact⟨rq1,bw_14⟩
  subst c9
  rw[ip rfl]at H
  by_cases Bs:0≤(rd l0 Ad)
  rotate_left
  ·rw[ig Bs]at H
   exact absurd H (by simp)
  rw[ip Bs]at H
  have Cn:=ode Bs
  clear Bs
  by_cases Bt:(rd l0 Ad)<(Ah.length:Int)
  rotate_left
  ·rw[ig Bt]at H
   exact absurd H (by simp)
  rw[ip Bt]at H
  have Co:=ode Bt
  clear Bt
  obtain⟨bq12,hbq12⟩:∃b_:Bool,b_=(rdOf false Ah (rd l0 Ad)):=⟨_,rfl⟩
  replace H:(if bq12=true then(some false) else(gV.l0 k1 l0 (Ah.set ((rd l0 Ad):Int).toNat true) (wrap64 (Ad+1))))=some r:=by rw[←hbq12]at H;exact H
  have Nbq12:=Az.mk hbq12
  clear hbq12
  by_cases Bu:bq12=true
  ·subst Bu
   rw[ip rfl]at H
   obtain rfl:=Option.some.inj H
   have Aj:0≤(Ad:Int):=od
   have Ak:Ad<(l0.length:Int):=od
   obtain⟨Al,Au,Ae⟩:=Kd.at_int Bi.out Ad Aj Ak
   cases Au
   replace Ae:=kc HB Ae
   replace Aj:=ets Aj
   replace Ak:=ets Ak
   go_wp2_with (first|((with_reducible refine gtC (f:=42) rfl ?_);refine clz Try.func42 (some 21) #[.int .i64 (rd l0 Ad), .int .i64 0, .int .i64 (wrap64 ((l0.length:Int) - 1))] ?_;(with_reducible refine(fR.calls (rd l0 Ad) 0 (wrap64 ((l0.length:Int) - 1)) true _ A8.out).mono ?_);rintro e w' ⟨rfl,⟨nd,rfl⟩⟩;refine⟨_,rfl,?_⟩;have Am:0≤(Ad:Int):=od;have Ao:Ad<(l0.length:Int):=od;obtain⟨Av,Ay,Af⟩:=Kd.at_int Bi.out Ad Am Ao;obtain rfl:Al=Av:=(by injection Ay);replace Af:=kc HB Af;replace Am:=ets Am;replace Ao:=ets Ao;obtain⟨Cq,Cr,Cb⟩:=Kd.R_slice Ag.out;subst Cb;have Ap:0≤((rd l0 Ad):Int):=od;have Aq:(rd l0 Ad)<(Ah.length:Int):=od;obtain⟨Bn,Ba,Ai⟩:=Kd.at_bool (Kd.R_reads' Ag.out).2.2 (rd l0 Ad) Ap Aq;(try rw[←Nbq12.out]at Ai);cases Ba;replace Ap:=ets Ap;replace Aq:=ets Aq))
   go_ret
   exact⟨rq1,bw_14⟩
  replace Bu:=Bool.eq_false_iff.mpr Bu
  subst Bu
  rw[ig ff]at H
  obtain⟨Bb,hy⟩:∃y_:List Bool,y_=(Ah.set ((rd l0 Ad):Int).toNat true):=⟨_,rfl⟩
  replace H:(gV.l0 k1 l0 Bb (wrap64 (Ad+1)))=some r:=rh
  have Bo:=Az.mk hy
  clear hy
  have H':=Az.mk H
  clear H
  have Aj:0≤(Ad:Int):=od
  have Ak:Ad<(l0.length:Int):=od
  obtain⟨Al,Au,Ae⟩:=Kd.at_int Bi.out Ad Aj Ak
  cases Au
  replace Ae:=kc HB Ae
  replace Aj:=ets Aj
  replace Ak:=ets Ak
  go_wp2_with (first|((with_reducible refine gtC (f:=42) rfl ?_);refine clz Try.func42 (some 21) #[.int .i64 (rd l0 Ad), .int .i64 0, .int .i64 (wrap64 ((l0.length:Int) - 1))] ?_;(with_reducible refine(fR.calls (rd l0 Ad) 0 (wrap64 ((l0.length:Int) - 1)) true _ A8.out).mono ?_);rintro e w' ⟨rfl,⟨nd,rfl⟩⟩;refine⟨_,rfl,?_⟩;(try(rw[drewN_self wr];generalize hq_:World.drewN wr _=wr;have n0_:Az (Kd.R Kd.bool 4 wr w.heap.size (fun _=>True) Bk Ah):=⟨by rw[←hq_];exact(kR Ag.out)⟩;have n1_:Az (Below w.heap.size w wr):=⟨by rw[←hq_];exact bw_14⟩;clear Ag HB hq_;have Ag:=n0_;have HB:=n1_;clear n0_ n1_));have Am:0≤(Ad:Int):=od;have Ao:Ad<(l0.length:Int):=od;obtain⟨Av,Ay,Af⟩:=Kd.at_int Bi.out Ad Am Ao;obtain rfl:Al=Av:=(by injection Ay);replace Af:=kc HB Af;replace Am:=ets Am;replace Ao:=ets Ao;obtain⟨Cs,Cc,Cd⟩:=Kd.R_slice Ag.out;subst Cd;have Ap:0≤((rd l0 Ad):Int):=od;have Aq:(rd l0 Ad)<(Ah.length:Int):=od;obtain⟨Bn,Ba,Ai⟩:=Kd.at_bool (Kd.R_reads' Ag.out).2.2 (rd l0 Ad) Ap Aq;(try rw[←Nbq12.out]at Ai);cases Ba;replace Ap:=ets Ap;replace Aq:=ets Aq;have Bc:0≤(Ad:Int):=od;have Bd:Ad<(l0.length:Int):=od;obtain⟨Bp,Ce,As⟩:=Kd.at_int Bi.out Ad Bc Bd;obtain rfl:Al=Bp:=(by injection Ce);replace As:=kc HB As;replace Bc:=ets Bc;replace Bd:=ets Bd;have Cf:0≤((rd l0 Ad):Int):=od;have Cg:((rd l0 Ad):Int)<((Ah.length:Int):Int):=od;obtain⟨Bf,Ct,Bq,Br,gl15,Cu,HG15⟩:=Kd.R_form Ag.out (by omega);(first|cases Bq|(injection Bq with ea_ en_ ec_;(first|subst ea_|(injection ea_ with ea_;subst ea_));subst ec_;clear en_));have Ch:=Az.mk Br;have Cv:=Az.mk HG15;clear Br gl15 HG15;(first|simp only[add_plain]at Ai|skip);obtain⟨Ci,Cj⟩:=Kd.R_celln false Ag.out ((rd l0 Ad):Int) Cf Cg;replace Cf:=ets Cf;replace Cg:=ets Cg;obtain⟨hy17_,hz17_⟩:=Kd.R_celln false Ag.out ((rd l0 Ad):Int) (od) (od);have Bh:=Kd.R_putg Ag.out ((rd l0 Ad):Int) true)|((with_reducible refine gate_store (t:=4) (p:=37) rfl ?_);refine store_event (t:=4) (p:=37) (v:=?vo_w18) (w1:=(wr.setCell ⟨Bf,((rd l0 Ad):Int).toNat,none⟩ (.bool true))) ?hg ?ho ?hn ?hr ?_;(case ho=>rfl);(case hg=>rfl);(case hn=>rfl);(case hr=>first|(go_simp;done)|(go_simp;rfl));intro Ck hw;have hg:wr.grownBy Ck (some Bf):=(by rw[hw];exact Bh.2);have hp_:Kd.R Kd.bool 4 Ck w.heap.size (fun _=>True) (.slice (some ⟨Bf,0,none⟩) Ah.length Cc) Bb:=(by rw[hw,Bo.out];exact Bh.1);clear Bh;replace Ag:=Az.mk (hp_);replace HB:=Az.mk ((by rw[hw];exact bwS (HB.out) Ch.out:Below w.heap.size w Ck));clear hg hw hp_))
  go_roundg k1
  case measure=>have:=HK1.out;omega
  case rel=>exact⟨(Bb),(wrap64 (Ad+1)),rq2,H',⟨by have:=HK1.out;omega⟩,⟨kR Ag.out⟩,⟨bw_14⟩⟩
def jA.f (k:Nat) (l0:List Int):Option (Bool):=(fR.f (l0.length:Int) 2 24).bind fun t358=>(if t358=true then(if((l0.length:Int) % 2)=0 then((gV.f k l0).bind fun t359=>(some t359)) else(some false)) else(some false))
theorem jA.calls (k:Nat) (A0:Option Addr) (c0:Nat) (l0:List Int) (r:Bool) (w:World) (Aj:Kd.C (Kd.int .i64) w A0 l0.length l0) (Ak:l0.length≤c0) (h:jA.f k l0=some r):
  Calls Try.prog 47 #[.slice A0 l0.length c0] w fun e w'=>e= .returned (.bool r)∧Below w.heap.size w w':=by
 have Al:=Az.mk Aj
 have Am:=Az.mk Ak
 clear Aj Ak
 have HB:=Az.mk (Below.refl w.heap.size w)
 have H:((fR.f (l0.length:Int) 2 24).bind fun Ae=>(if Ae=true then(if((l0.length:Int) % 2)=0 then((gV.f k l0).bind fun Ad=>(some Ad)) else(some false)) else(some false)))=some r:=h
 clear h
 replace H:=bez H
 obtain⟨Ae,A2,H⟩:=H
 try dsimp only at H
 by_cases c3:Ae=true
 rotate_left
 ·replace c3:=Bool.eq_false_iff.mpr c3
  subst c3
  rw[ig ff]at H
  obtain rfl:=Option.some.inj H
  go_enter Try.func47,Try.ntmps47
  go_wp2_with (first|((with_reducible refine gtC (f:=42) rfl ?_);refine clz Try.func42 (some 5) #[.int .i64 (l0.length:Int), .int .i64 2, .int .i64 24] ?_;(with_reducible refine(fR.calls (l0.length:Int) 2 24 false _ A2.out).mono ?_);rintro e w' ⟨rfl,⟨nd,rfl⟩⟩;refine⟨_,rfl,?_⟩))
  go_ret
  exact⟨rq1,bw_14⟩
 subst c3
 rw[ip rfl]at H
 by_cases c4:((l0.length:Int) % 2)=0
 rotate_left
 ·rw[ig c4]at H
  have Ah:=beq_eq_false_iff_ne.mpr c4
  have Ai:=bne_iff_ne.mpr c4
  obtain rfl:=Option.some.inj H
  go_enter Try.func47,Try.ntmps47
  go_wp2_with (first|((with_reducible refine gtC (f:=42) rfl ?_);refine clz Try.func42 (some 5) #[.int .i64 (l0.length:Int), .int .i64 2, .int .i64 24] ?_;(with_reducible refine(fR.calls (l0.length:Int) 2 24 true _ A2.out).mono ?_);rintro e w' ⟨rfl,⟨nd,rfl⟩⟩;refine⟨_,rfl,?_⟩))
  go_ret
  exact⟨rq1,bw_14⟩
 rw[ip c4]at H
 have Ah:=beq_iff_eq.mpr c4
 have Ai:=bne_eq_false_iff_eq.mpr c4
 clear c4
 replace H:=bez H
 obtain⟨Ad,A5,H⟩:=H
 replace H:(some Ad)=some r:=H
 obtain rfl:=Option.some.inj H
 go_enter Try.func47,Try.ntmps47
 go_wp2_with (first|((with_reducible refine gtC (f:=42) rfl ?_);refine clz Try.func42 (some 5) #[.int .i64 (l0.length:Int), .int .i64 2, .int .i64 24] ?_;(with_reducible refine(fR.calls (l0.length:Int) 2 24 true _ A2.out).mono ?_);rintro e w' ⟨rfl,⟨nd,rfl⟩⟩;refine⟨_,rfl,?_⟩)|(go_at_call 76;(with_reducible refine(gV.calls k _ _ l0 Ad _ ?Af ?Ag A5.out).mono ?_);(case Af=>exact kC Al.out);(case Ag=>exact Am.out);rintro e w6 ⟨rfl,hb⟩;replace HB:=Az.mk (bwT bw_14 hb);(try clear hb)))
 go_ret
 exact⟨rq1,bw_14⟩
end
theorem bw_15 {n:Nat}{v v':World} (h:Below n v v':=by repeat(first|(with_reducible first|exact HB.out|apply bwA|apply pbN|apply bwD)|exact HB.out)):Below n v v':=h
theorem ln_15 {P:Prop} (h:P:=by(try simp only[List.map_toArray,List.map_cons,List.map_nil]);first|done|rfl|(simp only[List.length_drop,List.length_take];rfl)):P:=h
def gQ.j0:Nat→List Int→Int→Int→Bool→Option (List Int × Bool)
 |0,_,_,_,_=>none
 |k+1,x0,x1,x2,x34=>if x34=true then(some ((([]:List Int)),false)) else((some (([]:List Int):List Int)).bind fun y366=>(if y366.length+x0.length<17592186044416 then((some (y366 ++ x0:List Int)).bind fun y369=>((some (([0,0]:List Int):List Int)).bind fun y372=>(if y369.length+y372.length<17592186044416 then((some (y369 ++ y372:List Int)).bind fun y375=>(if 0≤x1 then(if x1<(y375.length:Int) then(if 0≤(x0.length:Int) then(if(x0.length:Int)<(y375.length:Int) then((some ((y375.set ((x0.length:Int):Int).toNat (rd y375 x1)).set (x1:Int).toNat (x0.length:Int):List Int)).bind fun y380=>(if x1=x2 then(if 0≤(wrap64 ((x0.length:Int)+1)) then(if(wrap64 ((x0.length:Int)+1))<(y375.length:Int) then(some (((y380.set ((wrap64 ((x0.length:Int)+1)):Int).toNat (rd y380 (x0.length:Int))).set ((x0.length:Int):Int).toNat (wrap64 ((x0.length:Int)+1))),true)) else(none)) else(none)) else(if 0≤x2 then(if x2<(y375.length:Int) then(if 0≤(wrap64 ((x0.length:Int)+1)) then(if(wrap64 ((x0.length:Int)+1))<(y375.length:Int) then(some (((y380.set ((wrap64 ((x0.length:Int)+1)):Int).toNat (rd y380 x2)).set (x2:Int).toNat (wrap64 ((x0.length:Int)+1))),true)) else(none)) else(none)) else(none)) else(none)))) else(none)) else(none)) else(none)) else(none))) else(none)))) else(none)))
def gQ.f (k:Nat) (l0:List Int) (a1:Int) (a2:Int):Option (List Int × Bool):=(jA.f k l0).bind fun t360=>(if t360=true then((fR.f a1 0 (wrap64 ((l0.length:Int) - 1))).bind fun t361=>(if t361=true then((fR.f a2 0 (wrap64 ((l0.length:Int) - 1))).bind fun t362=>(if t362=true then(gQ.j0 k l0 a1 a2 (decide ((wrap64 ((l0.length:Int)+2))>24))) else(gQ.j0 k l0 a1 a2 true))) else(gQ.j0 k l0 a1 a2 true))) else(gQ.j0 k l0 a1 a2 true))
theorem gQ.calls (k:Nat) (A0:Option Addr) (c0:Nat) (l0:List Int) (a1:Int) (a2:Int) (r1:List Int) (r2:Bool) (w:World) (Gv:Kd.C (Kd.int .i64) w A0 l0.length l0) (Gw:l0.length≤c0) (h:gQ.f k l0 a1 a2=some (r1,r2)):
  Calls Try.prog 82 #[.slice A0 l0.length c0, .int .i64 a1, .int .i64 a2] w fun e w'=>∃v0_:Value,e= .returned (.tuple #[v0_, .bool r2])∧Kd.R (Kd.int .i64) 3 w' w.heap.size (fun _=>True) v0_ r1∧Below w.heap.size w w':=by
 have Df:=Az.mk Gv
 have Ea:=Az.mk Gw
 clear Gv Gw
 have HB:=Az.mk (Below.refl w.heap.size w)
 have H:((jA.f k l0).bind fun Cc=>(if Cc=true then((fR.f a1 0 (wrap64 ((l0.length:Int) - 1))).bind fun Cd=>(if Cd=true then((fR.f a2 0 (wrap64 ((l0.length:Int) - 1))).bind fun Ce=>(if Ce=true then(gQ.j0 k l0 a1 a2 (decide ((wrap64 ((l0.length:Int)+2))>24))) else(gQ.j0 k l0 a1 a2 true))) else(gQ.j0 k l0 a1 a2 true))) else(gQ.j0 k l0 a1 a2 true)))=some (r1,r2):=h
 clear h
 have Eo:=Az.mk H
 clear H
 go_enter Try.func82,Try.ntmps82
 go_upto_region 1 with (fail)
 go_cut [34] (fun Hl wc=>∃(kq:Nat) (Bd:Bool),Hl= .bool Bd∧Az (gQ.j0 kq l0 a1 a2 Bd=some (r1,r2))∧Az (kq≤k)∧Az (Below w.heap.size w wc))
 case first=>
  have H:=Eo.out
  clear Eo
  replace H:=bez H
  obtain⟨Cc,A5,H⟩:=H
  try dsimp only at H
  by_cases c6:Cc=true
  rotate_left
  ·replace c6:=Bool.eq_false_iff.mpr c6
   subst c6
   rw[ig ff]at H
   have H':=Az.mk H
   clear H
   go_wp2_with (first|((with_reducible refine gtC (f:=47) rfl ?_);refine clz Try.func47 (some 11) #[.slice A0 l0.length c0] ?_;(with_reducible refine(jA.calls k _ _ l0 false _ ?Aq ?As A5.out).mono ?_);(case Aq=>exact kC (Kd.C_below Df.out HB.out));(case As=>exact Ea.out);rintro e Hp ⟨rfl,hb⟩;refine⟨_,rfl,?_⟩;replace HB:=Az.mk (bwT bw_15 hb);(try clear hb)))
   go_meet
   case rel=>exact⟨_,(true),rq2,H',⟨by first|omega|exact Nat.le_refl _⟩,⟨bw_15⟩⟩
  subst c6
  rw[ip rfl]at H
  replace H:=bez H
  obtain⟨Cd,A7,H⟩:=H
  try dsimp only at H
  by_cases c8:Cd=true
  rotate_left
  ·replace c8:=Bool.eq_false_iff.mpr c8
   subst c8
   rw[ig ff]at H
   have H':=Az.mk H
   clear H
   go_wp2_with (first|((with_reducible refine gtC (f:=47) rfl ?_);refine clz Try.func47 (some 11) #[.slice A0 l0.length c0] ?_;(with_reducible refine(jA.calls k _ _ l0 true _ ?Aq ?As A5.out).mono ?_);(case Aq=>exact kC (Kd.C_below Df.out HB.out));(case As=>exact Ea.out);rintro e Hq ⟨rfl,hb⟩;refine⟨_,rfl,?_⟩;replace HB:=Az.mk (bwT bw_15 hb);(try clear hb))|(go_at_call 42;(with_reducible refine(fR.calls a1 0 (wrap64 ((l0.length:Int) - 1)) false _ A7.out).mono ?_);rintro e w' ⟨rfl,⟨nd,rfl⟩⟩))
   go_meet
   case rel=>exact⟨_,(true),rq2,H',⟨by first|omega|exact Nat.le_refl _⟩,⟨bw_15⟩⟩
  subst c8
  rw[ip rfl]at H
  replace H:=bez H
  obtain⟨Ce,A9,H⟩:=H
  try dsimp only at H
  by_cases Dg:Ce=true
  ·subst Dg
   rw[ip rfl]at H
   have H':=Az.mk H
   clear H
   go_wp2_with (first|((with_reducible refine gtC (f:=47) rfl ?_);refine clz Try.func47 (some 11) #[.slice A0 l0.length c0] ?_;(with_reducible refine(jA.calls k _ _ l0 true _ ?Aq ?As A5.out).mono ?_);(case Aq=>exact kC (Kd.C_below Df.out HB.out));(case As=>exact Ea.out);rintro e Hr ⟨rfl,hb⟩;refine⟨_,rfl,?_⟩;replace HB:=Az.mk (bwT bw_15 hb);(try clear hb))|(go_at_call 42;(with_reducible refine(fR.calls a1 0 (wrap64 ((l0.length:Int) - 1)) true _ A7.out).mono ?_);rintro e w' ⟨rfl,⟨nd,rfl⟩⟩)|(go_at_call 42;(with_reducible refine(fR.calls a2 0 (wrap64 ((l0.length:Int) - 1)) true _ A9.out).mono ?_);rintro e w' ⟨rfl,⟨nd,rfl⟩⟩))
   go_meet
   case rel=>exact⟨_,(decide ((wrap64 ((l0.length:Int)+2))>24)),rq2,H',⟨by first|omega|exact Nat.le_refl _⟩,⟨bw_15⟩⟩
  replace Dg:=Bool.eq_false_iff.mpr Dg
  subst Dg
  rw[ig ff]at H
  have H':=Az.mk H
  clear H
  go_wp2_with (first|((with_reducible refine gtC (f:=47) rfl ?_);refine clz Try.func47 (some 11) #[.slice A0 l0.length c0] ?_;(with_reducible refine(jA.calls k _ _ l0 true _ ?Aq ?As A5.out).mono ?_);(case Aq=>exact kC (Kd.C_below Df.out HB.out));(case As=>exact Ea.out);rintro e Hs ⟨rfl,hb⟩;refine⟨_,rfl,?_⟩;replace HB:=Az.mk (bwT bw_15 hb);(try clear hb))|(go_at_call 42;(with_reducible refine(fR.calls a1 0 (wrap64 ((l0.length:Int) - 1)) true _ A7.out).mono ?_);rintro e w' ⟨rfl,⟨nd,rfl⟩⟩)|(go_at_call 42;(with_reducible refine(fR.calls a2 0 (wrap64 ((l0.length:Int) - 1)) false _ A9.out).mono ?_);rintro e w' ⟨rfl,⟨nd,rfl⟩⟩))
  go_meet
  case rel=>exact⟨_,(true),rq2,H',⟨by first|omega|exact Nat.le_refl _⟩,⟨bw_15⟩⟩
 clear Eo
 try clear c6
 try clear c8
 try clear Dg
 obtain⟨kq,Bd,rfl,HA,Ht,HB⟩:=hcut
 cases kq with
 |zero=>exact absurd HA.out (by simp[gQ.j0])
 |succ Hu=>
  have H:=HA.out
  clear HA
  simp only[gQ.j0]at H
  by_cases Eb:Bd=true
  ·subst Eb
   rw[ip rfl]at H
   obtain⟨Ep,hy⟩:∃y_:List Int,y_=(([]:List Int)):=⟨_,rfl⟩
   replace H:(some (Ep,false))=some (r1,r2):=rh
   have Bz:=Az.mk hy
   clear hy
   simp only[Option.some.injEq,Prod.mk.injEq]at H
   obtain⟨rfl,rfl⟩:=H
   go_wp2_with (first|((with_reducible refine gtD (N:=35) rfl ?_);(try(refine gate_guard (by rfl) ?_;dsimp only));refine Kd.R_lit (Kd.int .i64) _ 3 ?hg (N:=35) ?hd (xs:=([]:List Int)) (inner:=[]) (ok:=fun _=>True) (okp:=fun _=>True) ?hr ?hp (fun _ hk=>hk) trivial (Below.refl _ _) (Nat.le_refl _) (by simp) ?_;(case hd=>rfl);(case hg=>rfl);(case hr=>first|(go_simp;done)|(go_simp;rfl));(case hp=>exact(Reps.none _ _));intro Hm Hv Bp hb hg_ hnew_;clear hg_ hnew_;(first|rw[←Bz.out]at Bp|(simp only[Int.reduceToNat]at Bp;rw[←Bz.out]at Bp));have Dh:=Az.mk (Kd.R_lower Bp (bwZ bw_15));replace HB:=Az.mk (bwT bw_15 hb);clear hb Bp))
   go_ret2
   exact⟨_,rq1,kR Dh.out,bw_15⟩
  replace Eb:=Bool.eq_false_iff.mpr Eb
  subst Eb
  rw[ig ff]at H
  obtain⟨Bm,hy⟩:∃y_:List Int,y_=(([]:List Int)):=⟨_,rfl⟩
  replace H:(if Bm.length+l0.length<17592186044416 then((some (Bm ++ l0:List Int)).bind fun Au=>((some (([0,0]:List Int):List Int)).bind fun Ai=>(if Au.length+Ai.length<17592186044416 then((some (Au ++ Ai:List Int)).bind fun Ad=>(if 0≤a1 then(if a1<(Ad.length:Int) then(if 0≤(l0.length:Int) then(if(l0.length:Int)<(Ad.length:Int) then((some ((Ad.set ((l0.length:Int):Int).toNat (rd Ad a1)).set (a1:Int).toNat (l0.length:Int):List Int)).bind fun Af=>(if a1=a2 then(if 0≤(wrap64 ((l0.length:Int)+1)) then(if(wrap64 ((l0.length:Int)+1))<(Ad.length:Int) then(some (((Af.set ((wrap64 ((l0.length:Int)+1)):Int).toNat (rd Af (l0.length:Int))).set ((l0.length:Int):Int).toNat (wrap64 ((l0.length:Int)+1))),true)) else(none)) else(none)) else(if 0≤a2 then(if a2<(Ad.length:Int) then(if 0≤(wrap64 ((l0.length:Int)+1)) then(if(wrap64 ((l0.length:Int)+1))<(Ad.length:Int) then(some (((Af.set ((wrap64 ((l0.length:Int)+1)):Int).toNat (rd Af a2)).set (a2:Int).toNat (wrap64 ((l0.length:Int)+1))),true)) else(none)) else(none)) else(none)) else(none)))) else(none)) else(none)) else(none)) else(none))) else(none)))) else(none))=some (r1,r2):=rh
  have Bf:=Az.mk hy
  clear hy
  by_cases Ec:Bm.length+l0.length<17592186044416
  rotate_left
  ·rw[ig Ec]at H
   exact absurd H (by simp)
  rw[ip Ec]at H
  have LMc18:=Az.mk Ec
  clear Ec
  obtain⟨Au,hy⟩:∃y_:List Int,y_=(Bm ++ l0):=⟨_,rfl⟩
  replace H:((some (([0,0]:List Int):List Int)).bind fun Ai=>(if Au.length+Ai.length<17592186044416 then((some (Au ++ Ai:List Int)).bind fun Ad=>(if 0≤a1 then(if a1<(Ad.length:Int) then(if 0≤(l0.length:Int) then(if(l0.length:Int)<(Ad.length:Int) then((some ((Ad.set ((l0.length:Int):Int).toNat (rd Ad a1)).set (a1:Int).toNat (l0.length:Int):List Int)).bind fun Af=>(if a1=a2 then(if 0≤(wrap64 ((l0.length:Int)+1)) then(if(wrap64 ((l0.length:Int)+1))<(Ad.length:Int) then(some (((Af.set ((wrap64 ((l0.length:Int)+1)):Int).toNat (rd Af (l0.length:Int))).set ((l0.length:Int):Int).toNat (wrap64 ((l0.length:Int)+1))),true)) else(none)) else(none)) else(if 0≤a2 then(if a2<(Ad.length:Int) then(if 0≤(wrap64 ((l0.length:Int)+1)) then(if(wrap64 ((l0.length:Int)+1))<(Ad.length:Int) then(some (((Af.set ((wrap64 ((l0.length:Int)+1)):Int).toNat (rd Af a2)).set (a2:Int).toNat (wrap64 ((l0.length:Int)+1))),true)) else(none)) else(none)) else(none)) else(none)))) else(none)) else(none)) else(none)) else(none))) else(none)))=some (r1,r2):=rh
  have Ca:=Az.mk hy
  clear hy
  obtain⟨Ai,hy⟩:∃y_:List Int,y_=(([0,0]:List Int)):=⟨_,rfl⟩
  replace H:(if Au.length+Ai.length<17592186044416 then((some (Au ++ Ai:List Int)).bind fun Ad=>(if 0≤a1 then(if a1<(Ad.length:Int) then(if 0≤(l0.length:Int) then(if(l0.length:Int)<(Ad.length:Int) then((some ((Ad.set ((l0.length:Int):Int).toNat (rd Ad a1)).set (a1:Int).toNat (l0.length:Int):List Int)).bind fun Af=>(if a1=a2 then(if 0≤(wrap64 ((l0.length:Int)+1)) then(if(wrap64 ((l0.length:Int)+1))<(Ad.length:Int) then(some (((Af.set ((wrap64 ((l0.length:Int)+1)):Int).toNat (rd Af (l0.length:Int))).set ((l0.length:Int):Int).toNat (wrap64 ((l0.length:Int)+1))),true)) else(none)) else(none)) else(if 0≤a2 then(if a2<(Ad.length:Int) then(if 0≤(wrap64 ((l0.length:Int)+1)) then(if(wrap64 ((l0.length:Int)+1))<(Ad.length:Int) then(some (((Af.set ((wrap64 ((l0.length:Int)+1)):Int).toNat (rd Af a2)).set (a2:Int).toNat (wrap64 ((l0.length:Int)+1))),true)) else(none)) else(none)) else(none)) else(none)))) else(none)) else(none)) else(none)) else(none))) else(none))=some (r1,r2):=rh
  have Bh:=Az.mk hy
  clear hy
  by_cases Ed:Au.length+Ai.length<17592186044416
  rotate_left
  ·rw[ig Ed]at H
   exact absurd H (by simp)
  rw[ip Ed]at H
  have LMc19:=Az.mk Ed
  clear Ed
  obtain⟨Ad,hy⟩:∃y_:List Int,y_=(Au ++ Ai):=⟨_,rfl⟩
  replace H:(if 0≤a1 then(if a1<(Ad.length:Int) then(if 0≤(l0.length:Int) then(if(l0.length:Int)<(Ad.length:Int) then((some ((Ad.set ((l0.length:Int):Int).toNat (rd Ad a1)).set (a1:Int).toNat (l0.length:Int):List Int)).bind fun Af=>(if a1=a2 then(if 0≤(wrap64 ((l0.length:Int)+1)) then(if(wrap64 ((l0.length:Int)+1))<(Ad.length:Int) then(some (((Af.set ((wrap64 ((l0.length:Int)+1)):Int).toNat (rd Af (l0.length:Int))).set ((l0.length:Int):Int).toNat (wrap64 ((l0.length:Int)+1))),true)) else(none)) else(none)) else(if 0≤a2 then(if a2<(Ad.length:Int) then(if 0≤(wrap64 ((l0.length:Int)+1)) then(if(wrap64 ((l0.length:Int)+1))<(Ad.length:Int) then(some (((Af.set ((wrap64 ((l0.length:Int)+1)):Int).toNat (rd Af a2)).set (a2:Int).toNat (wrap64 ((l0.length:Int)+1))),true)) else(none)) else(none)) else(none)) else(none)))) else(none)) else(none)) else(none)) else(none))=some (r1,r2):=rh
  have Cb:=Az.mk hy
  clear hy
  by_cases Ee:0≤a1
  rotate_left
  ·rw[ig Ee]at H
   exact absurd H (by simp)
  rw[ip Ee]at H
  have Gx:=ode Ee
  clear Ee
  by_cases Ef:a1<(Ad.length:Int)
  rotate_left
  ·rw[ig Ef]at H
   exact absurd H (by simp)
  rw[ip Ef]at H
  have Gy:=ode Ef
  clear Ef
  by_cases Eg:0≤(l0.length:Int)
  rotate_left
  ·rw[ig Eg]at H
   exact absurd H (by simp)
  rw[ip Eg]at H
  have Gz:=ode Eg
  have Ha:decide (0≤l0.length)=true:=ode (by omega)
  clear Eg
  by_cases Di:(l0.length:Int)<(Ad.length:Int)
  rotate_left
  ·rw[ig Di]at H
   exact absurd H (by simp)
  rw[ip Di]at H
  have Hb:=ode Di
  have Hc:decide (l0.length<Ad.length)=true:=ode (Int.ofNat_lt.mp Di)
  clear Di
  obtain⟨By,hy⟩:∃y_:List Int,y_=(Ad.set ((l0.length:Int):Int).toNat (rd Ad a1)):=⟨_,rfl⟩
  replace H:((some (By.set (a1:Int).toNat (l0.length:Int):List Int)).bind fun Af=>(if a1=a2 then(if 0≤(wrap64 ((l0.length:Int)+1)) then(if(wrap64 ((l0.length:Int)+1))<(Ad.length:Int) then(some (((Af.set ((wrap64 ((l0.length:Int)+1)):Int).toNat (rd Af (l0.length:Int))).set ((l0.length:Int):Int).toNat (wrap64 ((l0.length:Int)+1))),true)) else(none)) else(none)) else(if 0≤a2 then(if a2<(Ad.length:Int) then(if 0≤(wrap64 ((l0.length:Int)+1)) then(if(wrap64 ((l0.length:Int)+1))<(Ad.length:Int) then(some (((Af.set ((wrap64 ((l0.length:Int)+1)):Int).toNat (rd Af a2)).set (a2:Int).toNat (wrap64 ((l0.length:Int)+1))),true)) else(none)) else(none)) else(none)) else(none))))=some (r1,r2):=rh
  have Bi:=Az.mk hy
  clear hy
  obtain⟨Af,hy⟩:∃y_:List Int,y_=(By.set (a1:Int).toNat (l0.length:Int)):=⟨_,rfl⟩
  replace H:(if a1=a2 then(if 0≤(wrap64 ((l0.length:Int)+1)) then(if(wrap64 ((l0.length:Int)+1))<(Ad.length:Int) then(some (((Af.set ((wrap64 ((l0.length:Int)+1)):Int).toNat (rd Af (l0.length:Int))).set ((l0.length:Int):Int).toNat (wrap64 ((l0.length:Int)+1))),true)) else(none)) else(none)) else(if 0≤a2 then(if a2<(Ad.length:Int) then(if 0≤(wrap64 ((l0.length:Int)+1)) then(if(wrap64 ((l0.length:Int)+1))<(Ad.length:Int) then(some (((Af.set ((wrap64 ((l0.length:Int)+1)):Int).toNat (rd Af a2)).set (a2:Int).toNat (wrap64 ((l0.length:Int)+1))),true)) else(none)) else(none)) else(none)) else(none)))=some (r1,r2):=rh
  have Bj:=Az.mk hy
  clear hy
  by_cases Cf:a1=a2
  ·rw[ip Cf]at H
   have Dj:=beq_iff_eq.mpr Cf
   have Dk:=bne_eq_false_iff_eq.mpr Cf
   clear Cf
   obtain⟨Aj,Bk⟩:∃j_:Int,(wrap64 ((l0.length:Int)+1))=j_:=⟨_,rfl⟩
   replace H:(if 0≤(Aj) then(if(Aj)<(Ad.length:Int) then(some (((Af.set ((Aj):Int).toNat (rd Af (l0.length:Int))).set ((l0.length:Int):Int).toNat (Aj)),true)) else(none)) else(none))=some (r1,r2):=by first|(rw[Bk]at H;exact H)|(simp only[Bk]at H ⊢;exact H)
   have hji27w:(IntKind.i64.wrap ((l0.length:Int)+1))=Aj:=(i64_w _).trans Bk
   by_cases Eh:0≤(Aj)
   rotate_left
   ·rw[ig Eh]at H
    exact absurd H (by simp)
   rw[ip Eh]at H
   have Hd:=ode Eh
   clear Eh
   by_cases Ei:(Aj)<(Ad.length:Int)
   rotate_left
   ·rw[ig Ei]at H
    exact absurd H (by simp)
   rw[ip Ei]at H
   have He:=ode Ei
   clear Ei
   obtain⟨Cg,hy⟩:∃y_:List Int,y_=(Af.set ((Aj):Int).toNat (rd Af (l0.length:Int))):=⟨_,rfl⟩
   replace H:(some ((Cg.set ((l0.length:Int):Int).toNat (Aj)),true))=some (r1,r2):=rh
   have Dl:=Az.mk hy
   clear hy
   obtain⟨Dm,hy⟩:∃y_:List Int,y_=(Cg.set ((l0.length:Int):Int).toNat (Aj)):=⟨_,rfl⟩
   replace H:(some (Dm,true))=some (r1,r2):=rh
   have Dn:=Az.mk hy
   clear hy
   simp only[Option.some.injEq,Prod.mk.injEq]at H
   obtain⟨rfl,rfl⟩:=H
   go_wp2_with (first|((with_reducible refine gtD (N:=38) rfl ?_);(try(refine gate_guard (by rfl) ?_;dsimp only));refine Kd.R_lit (Kd.int .i64) _ 3 ?hg (N:=38) ?hd (xs:=([]:List Int)) (inner:=[]) (ok:=fun _=>True) (okp:=fun _=>True) ?hr ?hp (fun _ hk=>hk) trivial (Below.refl _ _) (Nat.le_refl _) (by simp) ?_;(case hd=>rfl);(case hg=>rfl);(case hr=>first|(go_simp;done)|(go_simp;rfl));(case hp=>exact(Reps.none _ _));intro Ch Hw Bq hb hg_ hnew_;clear hg_ hnew_;(first|rw[←Bf.out]at Bq|(simp only[Int.reduceToNat]at Bq;rw[←Bf.out]at Bq));have Ba:=Az.mk (Kd.R_lower Bq (bwZ bw_15));replace HB:=Az.mk (bwT bw_15 hb);clear hb Bq)|((with_reducible refine gate_builtin (b:= .append) (xs:= #[.tmp 38, .tmp 39]) rfl ?_);(try(refine gate_guard (by rfl) ?_;dsimp only));at_builtin;refine Kd.R_append_rows (Kd.int .i64) (w0:=w) w.heap.size rfl (.tmp 38) (.tmp 39) 25 3 (.int .i64 0) 8 rfl Try.underlying25 info3 rfl (by decide) (by omega) Ch Bm l0 _ _ _ (fun _=>True) (fun _=>False) rfl rfl ?aO ?aR (fun _ _ h=>h) (fun _ h=>h.elim) ?aF ?aB ?aS ?aL ?_;(case aR=>exact kC (Kd.C_below Df.out HB.out));(case aB=>exact bw_15);(case aF=>exact(fun _ _=>trivial));(case aO=>exact(kR Ba.out));(case aS=>exact(bwZ bw_15));(case aL=>have:=LMc18.out;omega);intro Ci Hx ho hb hg hat;rw[←Ca.out]at ho;have n0_:=Az.mk (hb);have n1_:=Az.mk (ho);clear HB;clear Ba;have HB:=n0_;have Al:=n1_;clear n0_ n1_;clear ho hb hg hat)|((with_reducible refine gtD (N:=41) rfl ?_);(try(refine gate_guard (by rfl) ?_;dsimp only));refine Kd.R_lit (Kd.int .i64) _ 3 ?hg (N:=41) ?hd (xs:=([0,0]:List Int)) (inner:=[.int .i64 0, .int .i64 0]) (ok:=fun _=>True) (okp:=fun _=>True) ?hr ?hp (fun _ hk=>hk) trivial (Below.refl _ _) (Nat.le_refl _) (by simp) ?_;(case hd=>rfl);(case hg=>rfl);(case hr=>first|(go_simp;done)|(go_simp;rfl));(case hp=>exact(Reps.one (show Kd.M (Kd.int .i64) _ _ _ 0 [.int .i64 0]from rfl) (Reps.one (show Kd.M (Kd.int .i64) _ _ _ 0 [.int .i64 0]from rfl) (Reps.none _ _))));intro Er Hy Bn hb hg_ hnew_;clear hg_ hnew_;(first|rw[←Bh.out]at Bn|(simp only[Int.reduceToNat]at Bn;rw[←Bh.out]at Bn));have Ag:=Az.mk (Kd.R_lower (Kd.R_new' Bn (Kd.R_lt (kR Al.out))) (bwZ bw_15));replace Al:=Az.mk (Kd.R_elder' (kR Al.out) (Kd.R_base Bn) hb);replace HB:=Az.mk (bwT bw_15 hb);clear hb Bn;obtain⟨Br,Bs,Es⟩:=Kd.R_slice Ag.out;subst Es)|((with_reducible refine gate_builtin (b:= .append) (xs:= #[.tmp 40, .tmp 41]) rfl ?_);(try(refine gate_guard (by rfl) ?_;dsimp only));at_builtin;refine Kd.R_append_rows (Kd.int .i64) (w0:=w) w.heap.size rfl (.tmp 40) (.tmp 41) 25 3 (.int .i64 0) 8 rfl Try.underlying25 info3 rfl (by decide) (by omega) Ci Au Ai _ _ _ (fun k_=>some k_≠(.slice Br Ai.length Bs:Value).ownBlock) (fun _=>False) rfl rfl ?aO ?aR (fun _ _ h=>h) (fun _ h=>h.elim) ?aF ?aB ?aS ?aL ?_;(case aR=>exact kC (Kd.R_reads' Ag.out).2.2);(case aB=>exact bw_15);(case aF=>exact(fun k_ hk=>Kd.fresh' (Kd.R_lt (kR Ag.out)) k_ hk));(case aO=>exact(by(with_reducible repeat(first|apply Kd.R_alloc|apply Kd.R_drewN|apply Kd.R_drew));exact Kd.R_mono Al.out (fun _ hk=>hk.2)));(case aS=>exact(bwZ bw_15));(case aL=>have:=LMc19.out;omega);intro Et Hf ho hb hg hat;rw[←Cb.out]at ho;have n0_:=Az.mk (Kd.R_after (ok:=(fun _=>True)) (kR Ag.out) hg hat);have n1_:=Az.mk (hb);have n2_:=Az.mk (ho);clear Ag;clear HB;clear Al;have Ag:=n0_;have HB:=n1_;have Ae:=n2_;clear n0_ n1_ n2_;clear ho hb hg hat;obtain⟨Hn,Am,Eu⟩:=Kd.R_slice Ae.out;subst Eu;have Bb:0≤(a1:Int):=od;have Bc:a1<(Ad.length:Int):=od;obtain⟨Do,Cj,Av⟩:=Kd.at_int (Kd.R_reads' Ae.out).2.2 a1 Bb Bc;cases Cj;replace Bb:=ets Bb;replace Bc:=ets Bc;have Ck:0≤((l0.length:Int):Int):=od;have Cl:((l0.length:Int):Int)<((Ad.length:Int):Int):=od;obtain⟨Ah,Ev,Bt,Bu,gl24,Ew,HG24⟩:=Kd.R_form Ae.out (by omega);(first|cases Bt|(injection Bt with ea_ en_ ec_;(first|subst ea_|(injection ea_ with ea_;subst ea_));subst ec_;clear en_));have Ax:=Az.mk Bu;have Ex:=Az.mk HG24;clear Bu gl24 HG24;(first|simp only[add_plain]at Av|skip);obtain⟨Cm,Cn⟩:=Kd.R_celln 0 Ae.out ((l0.length:Int):Int) Ck Cl;replace Ck:=ets Ck;replace Cl:=ets Cl;obtain⟨hy40_,hz40_⟩:=Kd.R_celln 0 Ae.out ((l0.length:Int):Int) (od) (od);(try simp only[Go.IntWalk.toNatUp]at hy40_ hz40_);have Co:=Kd.R_putg Ae.out ((l0.length:Int):Int) (rd Ad a1))|((with_reducible refine gate_store (t:=3) (p:=49) rfl ?_);refine store_event (t:=3) (p:=49) (v:=?vo_w41) (w1:=(Hf.setCell ⟨Ah,((l0.length:Int):Int).toNat,none⟩ (.int .i64 (rd Ad a1)))) ?hg ?ho ?hn ?hr ?_;(case ho=>rfl);(case hg=>rfl);(case hn=>rfl);(case hr=>first|(go_simp;done)|(go_simp;rfl));intro Dp hw;have hg:Hf.grownBy Dp (some Ah):=(by rw[hw];exact Co.2);have hp_:Kd.R (Kd.int .i64) 3 Dp w.heap.size (fun k_=>some k_≠(.slice Br Ai.length Bs:Value).ownBlock) (.slice (some ⟨Ah,0,none⟩) Ad.length Am) By:=(by rw[hw,Bi.out];exact Co.1);clear Co;replace Ag:=Az.mk (Kd.R_after (v:=(.slice (some ⟨Ah,0,none⟩) Ad.length Am)) (v1:=(.slice (some ⟨Ah,0,none⟩) Ad.length Am)) (ok:=(fun _=>True)) (kR Ag.out) hg (.inl rfl));replace Ae:=Az.mk (hp_);replace HB:=Az.mk ((by rw[hw];exact bwS (HB.out) Ax.out:Below w.heap.size w Dp));clear hg hw hp_;have Cp:0≤(a1:Int):=od;have Cq:(a1:Int)<((Ad.length:Int):Int):=od;obtain⟨Cr,Cs⟩:=Kd.R_celln 0 Ae.out (a1:Int) Cp Cq;replace Cp:=ets Cp;replace Cq:=ets Cq;obtain⟨hy42_,hz42_⟩:=Kd.R_celln 0 Ae.out (a1:Int) (od) (od);have Ct:=Kd.R_putg Ae.out (a1:Int) (l0.length:Int))|((with_reducible refine gate_store (t:=3) (p:=53) rfl ?_);refine store_event (t:=3) (p:=53) (v:=?vo_w43) (w1:=(Dp.setCell ⟨Ah,(a1:Int).toNat,none⟩ (.int .i64 (l0.length:Int)))) ?hg ?ho ?hn ?hr ?_;(case ho=>rfl);(case hg=>rfl);(case hn=>rfl);(case hr=>first|(go_simp;done)|(go_simp;rfl));intro Dq hw;have hg:Dp.grownBy Dq (some Ah):=(by rw[hw];exact Ct.2);have hp_:Kd.R (Kd.int .i64) 3 Dq w.heap.size (fun k_=>some k_≠(.slice Br Ai.length Bs:Value).ownBlock) (.slice (some ⟨Ah,0,none⟩) Ad.length Am) Af:=(by rw[hw,Bj.out];exact Ct.1);clear Ct;replace Ag:=Az.mk (Kd.R_after (v:=(.slice (some ⟨Ah,0,none⟩) Ad.length Am)) (v1:=(.slice (some ⟨Ah,0,none⟩) Ad.length Am)) (ok:=(fun _=>True)) (kR Ag.out) hg (.inl rfl));replace Ae:=Az.mk (hp_);replace HB:=Az.mk ((by rw[hw];exact bwS (HB.out) Ax.out:Below w.heap.size w Dq));clear hg hw hp_;have Cu:0≤((l0.length:Int):Int):=od;have Cv:(l0.length:Int)<(Af.length:Int):=(by have h_:((l0.length:Int):Int)<((Ad.length:Int):Int):=od;first|(have e_:=(Kd.R_reads' Ae.out).1;omega)|simpa only[Bi.out,Bj.out,List.length_set] using h_);have ql381:(((l0.length:Int):Int)<((Ad.length:Int):Int))=True:=ets (od);obtain⟨Dr,Ey,Ap⟩:=Kd.at_int (Kd.R_reads' Ae.out).2.2 (l0.length:Int) Cu Cv;obtain rfl:(⟨Ah,0,none⟩:Addr)=Dr:=(by injection Ey);(first|simp only[add_plain]at Ap|simp only[add_at]at Ap|simp only[Addr.add,Nat.zero_add]at Ap|skip);(try simp only[Go.IntWalk.toNatUp]at Ap);replace Cu:=ets Cu;replace Cv:=ets Cv;have Ez:0≤((Aj):Int):=od;have Ga:((Aj):Int)<((Ad.length:Int):Int):=od;obtain⟨Gb,Gc⟩:=Kd.R_celln 0 Ae.out ((Aj):Int) Ez Ga;replace Ez:=ets Ez;replace Ga:=ets Ga;obtain⟨hy44_,hz44_⟩:=Kd.R_celln 0 Ae.out ((Aj):Int) (od) (od);have Cw:=Kd.R_putg Ae.out ((Aj):Int) (rd Af (l0.length:Int)))|((with_reducible refine gate_store (t:=3) (p:=65) rfl ?_);refine store_event (t:=3) (p:=65) (v:=?vo_w45) (w1:=(Dq.setCell ⟨Ah,((Aj):Int).toNat,none⟩ (.int .i64 (rd Af (l0.length:Int))))) ?hg ?ho ?hn ?hr ?_;(case ho=>rfl);(case hg=>rfl);(case hn=>rfl);(case hr=>first|(go_simp;done)|(go_simp;rfl));intro Ds hw;have hg:Dq.grownBy Ds (some Ah):=(by rw[hw];exact Cw.2);have hp_:Kd.R (Kd.int .i64) 3 Ds w.heap.size (fun k_=>some k_≠(.slice Br Ai.length Bs:Value).ownBlock) (.slice (some ⟨Ah,0,none⟩) Ad.length Am) Cg:=(by rw[hw,Dl.out];exact Cw.1);clear Cw;replace Ag:=Az.mk (Kd.R_after (v:=(.slice (some ⟨Ah,0,none⟩) Ad.length Am)) (v1:=(.slice (some ⟨Ah,0,none⟩) Ad.length Am)) (ok:=(fun _=>True)) (kR Ag.out) hg (.inl rfl));replace Ae:=Az.mk (hp_);replace HB:=Az.mk ((by rw[hw];exact bwS (HB.out) Ax.out:Below w.heap.size w Ds));clear hg hw hp_;have Gd:0≤((l0.length:Int):Int):=od;have Ge:((l0.length:Int):Int)<((Ad.length:Int):Int):=od;obtain⟨Gf,Gg⟩:=Kd.R_celln 0 Ae.out ((l0.length:Int):Int) Gd Ge;replace Gd:=ets Gd;replace Ge:=ets Ge;obtain⟨hy46_,hz46_⟩:=Kd.R_celln 0 Ae.out ((l0.length:Int):Int) (od) (od);(try simp only[Go.IntWalk.toNatUp]at hy46_ hz46_);have Cx:=Kd.R_putg Ae.out ((l0.length:Int):Int) Aj)|((with_reducible refine gate_store (t:=3) (p:=70) rfl ?_);refine store_event (t:=3) (p:=70) (v:=?vo_w47) (w1:=(Ds.setCell ⟨Ah,((l0.length:Int):Int).toNat,none⟩ (.int .i64 Aj))) ?hg ?ho ?hn ?hr ?_;(case ho=>rfl);(case hg=>rfl);(case hn=>rfl);(case hr=>first|(go_simp;done)|(go_simp;rfl));intro Gh hw;have hg:Ds.grownBy Gh (some Ah):=(by rw[hw];exact Cx.2);have hp_:Kd.R (Kd.int .i64) 3 Gh w.heap.size (fun k_=>some k_≠(.slice Br Ai.length Bs:Value).ownBlock) (.slice (some ⟨Ah,0,none⟩) Ad.length Am) Dm:=(by rw[hw,Dn.out];exact Cx.1);clear Cx;replace Ag:=Az.mk (Kd.R_after (v:=(.slice (some ⟨Ah,0,none⟩) Ad.length Am)) (v1:=(.slice (some ⟨Ah,0,none⟩) Ad.length Am)) (ok:=(fun _=>True)) (kR Ag.out) hg (.inl rfl));replace Ae:=Az.mk (hp_);replace HB:=Az.mk ((by rw[hw];exact bwS (HB.out) Ax.out:Below w.heap.size w Gh));clear hg hw hp_))
   go_ret2
   exact⟨_,by first|rfl|(simp[eWn,eWs] <;> rfl)|(simp only[←Bk];first|rfl|(simp[eWn,eWs] <;> rfl))|(simp[*,eWn,eWs] <;> rfl),by(with_reducible repeat(first|apply Kd.R_alloc|apply Kd.R_drewN|apply Kd.R_drew));exact Kd.R_mono Ae.out (fun _ hk=>trivial),bw_15⟩
  rw[ig Cf]at H
  have Dj:=beq_eq_false_iff_ne.mpr Cf
  have Dk:=bne_iff_ne.mpr Cf
  by_cases Ej:0≤a2
  rotate_left
  ·rw[ig Ej]at H
   exact absurd H (by simp)
  rw[ip Ej]at H
  have Hg:=ode Ej
  clear Ej
  by_cases Ek:a2<(Ad.length:Int)
  rotate_left
  ·rw[ig Ek]at H
   exact absurd H (by simp)
  rw[ip Ek]at H
  have Hh:=ode Ek
  clear Ek
  obtain⟨Ak,Bl⟩:∃j_:Int,(wrap64 ((l0.length:Int)+1))=j_:=⟨_,rfl⟩
  replace H:(if 0≤(Ak) then(if(Ak)<(Ad.length:Int) then(some (((Af.set ((Ak):Int).toNat (rd Af a2)).set (a2:Int).toNat (Ak)),true)) else(none)) else(none))=some (r1,r2):=by first|(rw[Bl]at H;exact H)|(simp only[Bl]at H ⊢;exact H)
  have hji50w:(IntKind.i64.wrap ((l0.length:Int)+1))=Ak:=(i64_w _).trans Bl
  by_cases El:0≤(Ak)
  rotate_left
  ·rw[ig El]at H
   exact absurd H (by simp)
  rw[ip El]at H
  have Hi:=ode El
  clear El
  by_cases Em:(Ak)<(Ad.length:Int)
  rotate_left
  ·rw[ig Em]at H
   exact absurd H (by simp)
  rw[ip Em]at H
  have Hj:=ode Em
  clear Em
  obtain⟨Cy,hy⟩:∃y_:List Int,y_=(Af.set ((Ak):Int).toNat (rd Af a2)):=⟨_,rfl⟩
  replace H:(some ((Cy.set (a2:Int).toNat (Ak)),true))=some (r1,r2):=rh
  have Dt:=Az.mk hy
  clear hy
  obtain⟨Du,hy⟩:∃y_:List Int,y_=(Cy.set (a2:Int).toNat (Ak)):=⟨_,rfl⟩
  replace H:(some (Du,true))=some (r1,r2):=rh
  have Dv:=Az.mk hy
  clear hy
  simp only[Option.some.injEq,Prod.mk.injEq]at H
  obtain⟨rfl,rfl⟩:=H
  go_wp2_with (first|((with_reducible refine gtD (N:=38) rfl ?_);(try(refine gate_guard (by rfl) ?_;dsimp only));refine Kd.R_lit (Kd.int .i64) _ 3 ?hg (N:=38) ?hd (xs:=([]:List Int)) (inner:=[]) (ok:=fun _=>True) (okp:=fun _=>True) ?hr ?hp (fun _ hk=>hk) trivial (Below.refl _ _) (Nat.le_refl _) (by simp) ?_;(case hd=>rfl);(case hg=>rfl);(case hr=>first|(go_simp;done)|(go_simp;rfl));(case hp=>exact(Reps.none _ _));intro Ch Hz Bv hb hg_ hnew_;clear hg_ hnew_;(first|rw[←Bf.out]at Bv|(simp only[Int.reduceToNat]at Bv;rw[←Bf.out]at Bv));have Ba:=Az.mk (Kd.R_lower Bv (bwZ bw_15));replace HB:=Az.mk (bwT bw_15 hb);clear hb Bv)|((with_reducible refine gate_builtin (b:= .append) (xs:= #[.tmp 38, .tmp 39]) rfl ?_);(try(refine gate_guard (by rfl) ?_;dsimp only));at_builtin;refine Kd.R_append_rows (Kd.int .i64) (w0:=w) w.heap.size rfl (.tmp 38) (.tmp 39) 25 3 (.int .i64 0) 8 rfl Try.underlying25 info3 rfl (by decide) (by omega) Ch Bm l0 _ _ _ (fun _=>True) (fun _=>False) rfl rfl ?aO ?aR (fun _ _ h=>h) (fun _ h=>h.elim) ?aF ?aB ?aS ?aL ?_;(case aR=>exact kC (Kd.C_below Df.out HB.out));(case aB=>exact bw_15);(case aF=>exact(fun _ _=>trivial));(case aO=>exact(kR Ba.out));(case aS=>exact(bwZ bw_15));(case aL=>have:=LMc18.out;omega);intro Ci Ia ho hb hg hat;rw[←Ca.out]at ho;have n0_:=Az.mk (hb);have n1_:=Az.mk (ho);clear HB;clear Ba;have HB:=n0_;have Al:=n1_;clear n0_ n1_;clear ho hb hg hat)|((with_reducible refine gtD (N:=41) rfl ?_);(try(refine gate_guard (by rfl) ?_;dsimp only));refine Kd.R_lit (Kd.int .i64) _ 3 ?hg (N:=41) ?hd (xs:=([0,0]:List Int)) (inner:=[.int .i64 0, .int .i64 0]) (ok:=fun _=>True) (okp:=fun _=>True) ?hr ?hp (fun _ hk=>hk) trivial (Below.refl _ _) (Nat.le_refl _) (by simp) ?_;(case hd=>rfl);(case hg=>rfl);(case hr=>first|(go_simp;done)|(go_simp;rfl));(case hp=>exact(Reps.one (show Kd.M (Kd.int .i64) _ _ _ 0 [.int .i64 0]from rfl) (Reps.one (show Kd.M (Kd.int .i64) _ _ _ 0 [.int .i64 0]from rfl) (Reps.none _ _))));intro Er Ib Bo hb hg_ hnew_;clear hg_ hnew_;(first|rw[←Bh.out]at Bo|(simp only[Int.reduceToNat]at Bo;rw[←Bh.out]at Bo));have Ag:=Az.mk (Kd.R_lower (Kd.R_new' Bo (Kd.R_lt (kR Al.out))) (bwZ bw_15));replace Al:=Az.mk (Kd.R_elder' (kR Al.out) (Kd.R_base Bo) hb);replace HB:=Az.mk (bwT bw_15 hb);clear hb Bo;obtain⟨Bw,Bx,Gi⟩:=Kd.R_slice Ag.out;subst Gi)|((with_reducible refine gate_builtin (b:= .append) (xs:= #[.tmp 40, .tmp 41]) rfl ?_);(try(refine gate_guard (by rfl) ?_;dsimp only));at_builtin;refine Kd.R_append_rows (Kd.int .i64) (w0:=w) w.heap.size rfl (.tmp 40) (.tmp 41) 25 3 (.int .i64 0) 8 rfl Try.underlying25 info3 rfl (by decide) (by omega) Ci Au Ai _ _ _ (fun k_=>some k_≠(.slice Bw Ai.length Bx:Value).ownBlock) (fun _=>False) rfl rfl ?aO ?aR (fun _ _ h=>h) (fun _ h=>h.elim) ?aF ?aB ?aS ?aL ?_;(case aR=>exact kC (Kd.R_reads' Ag.out).2.2);(case aB=>exact bw_15);(case aF=>exact(fun k_ hk=>Kd.fresh' (Kd.R_lt (kR Ag.out)) k_ hk));(case aO=>exact(by(with_reducible repeat(first|apply Kd.R_alloc|apply Kd.R_drewN|apply Kd.R_drew));exact Kd.R_mono Al.out (fun _ hk=>hk.2)));(case aS=>exact(bwZ bw_15));(case aL=>have:=LMc19.out;omega);intro Et Hk ho hb hg hat;rw[←Cb.out]at ho;have n0_:=Az.mk (Kd.R_after (ok:=(fun _=>True)) (kR Ag.out) hg hat);have n1_:=Az.mk (hb);have n2_:=Az.mk (ho);clear Ag;clear HB;clear Al;have Ag:=n0_;have HB:=n1_;have Ae:=n2_;clear n0_ n1_ n2_;clear ho hb hg hat;obtain⟨Ho,Ao,Gj⟩:=Kd.R_slice Ae.out;subst Gj;have Bb:0≤(a1:Int):=od;have Bc:a1<(Ad.length:Int):=od;obtain⟨Do,Cj,Av⟩:=Kd.at_int (Kd.R_reads' Ae.out).2.2 a1 Bb Bc;cases Cj;replace Bb:=ets Bb;replace Bc:=ets Bc;have Ck:0≤((l0.length:Int):Int):=od;have Cl:((l0.length:Int):Int)<((Ad.length:Int):Int):=od;obtain⟨Ah,Ev,Bt,Bu,gl24,Ew,HG24⟩:=Kd.R_form Ae.out (by omega);(first|cases Bt|(injection Bt with ea_ en_ ec_;(first|subst ea_|(injection ea_ with ea_;subst ea_));subst ec_;clear en_));have Ax:=Az.mk Bu;have Ex:=Az.mk HG24;clear Bu gl24 HG24;(first|simp only[add_plain]at Av|skip);obtain⟨Cm,Cn⟩:=Kd.R_celln 0 Ae.out ((l0.length:Int):Int) Ck Cl;replace Ck:=ets Ck;replace Cl:=ets Cl;obtain⟨hy63_,hz63_⟩:=Kd.R_celln 0 Ae.out ((l0.length:Int):Int) (od) (od);(try simp only[Go.IntWalk.toNatUp]at hy63_ hz63_);have Cz:=Kd.R_putg Ae.out ((l0.length:Int):Int) (rd Ad a1))|((with_reducible refine gate_store (t:=3) (p:=49) rfl ?_);refine store_event (t:=3) (p:=49) (v:=?vo_w64) (w1:=(Hk.setCell ⟨Ah,((l0.length:Int):Int).toNat,none⟩ (.int .i64 (rd Ad a1)))) ?hg ?ho ?hn ?hr ?_;(case ho=>rfl);(case hg=>rfl);(case hn=>rfl);(case hr=>first|(go_simp;done)|(go_simp;rfl));intro Dw hw;have hg:Hk.grownBy Dw (some Ah):=(by rw[hw];exact Cz.2);have hp_:Kd.R (Kd.int .i64) 3 Dw w.heap.size (fun k_=>some k_≠(.slice Bw Ai.length Bx:Value).ownBlock) (.slice (some ⟨Ah,0,none⟩) Ad.length Ao) By:=(by rw[hw,Bi.out];exact Cz.1);clear Cz;replace Ag:=Az.mk (Kd.R_after (v:=(.slice (some ⟨Ah,0,none⟩) Ad.length Ao)) (v1:=(.slice (some ⟨Ah,0,none⟩) Ad.length Ao)) (ok:=(fun _=>True)) (kR Ag.out) hg (.inl rfl));replace Ae:=Az.mk (hp_);replace HB:=Az.mk ((by rw[hw];exact bwS (HB.out) Ax.out:Below w.heap.size w Dw));clear hg hw hp_;have Cp:0≤(a1:Int):=od;have Cq:(a1:Int)<((Ad.length:Int):Int):=od;obtain⟨Cr,Cs⟩:=Kd.R_celln 0 Ae.out (a1:Int) Cp Cq;replace Cp:=ets Cp;replace Cq:=ets Cq;obtain⟨hy65_,hz65_⟩:=Kd.R_celln 0 Ae.out (a1:Int) (od) (od);have Da:=Kd.R_putg Ae.out (a1:Int) (l0.length:Int))|((with_reducible refine gate_store (t:=3) (p:=53) rfl ?_);refine store_event (t:=3) (p:=53) (v:=?vo_w66) (w1:=(Dw.setCell ⟨Ah,(a1:Int).toNat,none⟩ (.int .i64 (l0.length:Int)))) ?hg ?ho ?hn ?hr ?_;(case ho=>rfl);(case hg=>rfl);(case hn=>rfl);(case hr=>first|(go_simp;done)|(go_simp;rfl));intro Dx hw;have hg:Dw.grownBy Dx (some Ah):=(by rw[hw];exact Da.2);have hp_:Kd.R (Kd.int .i64) 3 Dx w.heap.size (fun k_=>some k_≠(.slice Bw Ai.length Bx:Value).ownBlock) (.slice (some ⟨Ah,0,none⟩) Ad.length Ao) Af:=(by rw[hw,Bj.out];exact Da.1);clear Da;replace Ag:=Az.mk (Kd.R_after (v:=(.slice (some ⟨Ah,0,none⟩) Ad.length Ao)) (v1:=(.slice (some ⟨Ah,0,none⟩) Ad.length Ao)) (ok:=(fun _=>True)) (kR Ag.out) hg (.inl rfl));replace Ae:=Az.mk (hp_);replace HB:=Az.mk ((by rw[hw];exact bwS (HB.out) Ax.out:Below w.heap.size w Dx));clear hg hw hp_;have Db:0≤(a2:Int):=od;have Dc:a2<(Af.length:Int):=(by have h_:(a2:Int)<((Ad.length:Int):Int):=od;first|(have e_:=(Kd.R_reads' Ae.out).1;omega)|simpa only[Bi.out,Bj.out,List.length_set] using h_);have ql384:((a2:Int)<((Ad.length:Int):Int))=True:=ets (od);obtain⟨Dy,Gk,Ay⟩:=Kd.at_int (Kd.R_reads' Ae.out).2.2 a2 Db Dc;obtain rfl:(⟨Ah,0,none⟩:Addr)=Dy:=(by injection Gk);(first|simp only[add_plain]at Ay|simp only[add_at]at Ay|simp only[Addr.add,Nat.zero_add]at Ay|skip);replace Db:=ets Db;replace Dc:=ets Dc;have Gl:0≤((Ak):Int):=od;have Gm:((Ak):Int)<((Ad.length:Int):Int):=od;obtain⟨Gn,Gp⟩:=Kd.R_celln 0 Ae.out ((Ak):Int) Gl Gm;replace Gl:=ets Gl;replace Gm:=ets Gm;obtain⟨hy67_,hz67_⟩:=Kd.R_celln 0 Ae.out ((Ak):Int) (od) (od);have Dd:=Kd.R_putg Ae.out ((Ak):Int) (rd Af a2))|((with_reducible refine gate_store (t:=3) (p:=65) rfl ?_);refine store_event (t:=3) (p:=65) (v:=?vo_w68) (w1:=(Dx.setCell ⟨Ah,((Ak):Int).toNat,none⟩ (.int .i64 (rd Af a2)))) ?hg ?ho ?hn ?hr ?_;(case ho=>rfl);(case hg=>rfl);(case hn=>rfl);(case hr=>first|(go_simp;done)|(go_simp;rfl));intro Dz hw;have hg:Dx.grownBy Dz (some Ah):=(by rw[hw];exact Dd.2);have hp_:Kd.R (Kd.int .i64) 3 Dz w.heap.size (fun k_=>some k_≠(.slice Bw Ai.length Bx:Value).ownBlock) (.slice (some ⟨Ah,0,none⟩) Ad.length Ao) Cy:=(by rw[hw,Dt.out];exact Dd.1);clear Dd;replace Ag:=Az.mk (Kd.R_after (v:=(.slice (some ⟨Ah,0,none⟩) Ad.length Ao)) (v1:=(.slice (some ⟨Ah,0,none⟩) Ad.length Ao)) (ok:=(fun _=>True)) (kR Ag.out) hg (.inl rfl));replace Ae:=Az.mk (hp_);replace HB:=Az.mk ((by rw[hw];exact bwS (HB.out) Ax.out:Below w.heap.size w Dz));clear hg hw hp_;have Gq:0≤(a2:Int):=od;have Gr:(a2:Int)<((Ad.length:Int):Int):=od;obtain⟨Gs,Gt⟩:=Kd.R_celln 0 Ae.out (a2:Int) Gq Gr;replace Gq:=ets Gq;replace Gr:=ets Gr;obtain⟨hy69_,hz69_⟩:=Kd.R_celln 0 Ae.out (a2:Int) (od) (od);have De:=Kd.R_putg Ae.out (a2:Int) Ak)|((with_reducible refine gate_store (t:=3) (p:=70) rfl ?_);refine store_event (t:=3) (p:=70) (v:=?vo_w70) (w1:=(Dz.setCell ⟨Ah,(a2:Int).toNat,none⟩ (.int .i64 Ak))) ?hg ?ho ?hn ?hr ?_;(case ho=>rfl);(case hg=>rfl);(case hn=>rfl);(case hr=>first|(go_simp;done)|(go_simp;rfl));intro Gu hw;have hg:Dz.grownBy Gu (some Ah):=(by rw[hw];exact De.2);have hp_:Kd.R (Kd.int .i64) 3 Gu w.heap.size (fun k_=>some k_≠(.slice Bw Ai.length Bx:Value).ownBlock) (.slice (some ⟨Ah,0,none⟩) Ad.length Ao) Du:=(by rw[hw,Dv.out];exact De.1);clear De;replace Ag:=Az.mk (Kd.R_after (v:=(.slice (some ⟨Ah,0,none⟩) Ad.length Ao)) (v1:=(.slice (some ⟨Ah,0,none⟩) Ad.length Ao)) (ok:=(fun _=>True)) (kR Ag.out) hg (.inl rfl));replace Ae:=Az.mk (hp_);replace HB:=Az.mk ((by rw[hw];exact bwS (HB.out) Ax.out:Below w.heap.size w Gu));clear hg hw hp_))
  go_ret2
  exact⟨_,by first|rfl|(simp[eWn,eWs] <;> rfl)|(simp only[←Bl];first|rfl|(simp[eWn,eWs] <;> rfl))|(simp[*,eWn,eWs] <;> rfl),by(with_reducible repeat(first|apply Kd.R_alloc|apply Kd.R_drewN|apply Kd.R_drew));exact Kd.R_mono Ae.out (fun _ hk=>trivial),bw_15⟩
theorem bw_16 {n:Nat}{v v':World} (h:Below n v v':=by repeat(first|(with_reducible first|exact HB.out|apply bwA|apply pbN|apply bwD)|exact HB.out)):Below n v v':=h
theorem ln_16 {P:Prop} (h:P:=by(try simp only[List.map_toArray,List.map_cons,List.map_nil]);first|done|rfl|(simp only[List.length_drop,List.length_take];rfl)):P:=h
mutual
def gG.l0:Nat→List Int→Int→List Int→Int→Int→Option (List Int × Int × Int)
 |0,_,_,_,_,_=>none
 |k+1,x5,x6,x1000,x1001,x1002=>if x6>0 then((fB.f x1000 x1001 x1002 (x5.length:Int)).bind fun bt393=>((fB.f x1000 bt393.2.1 bt393.2.2 (x5.length:Int)).bind fun bt396=>((gQ.f k x5 bt393.1 bt396.1).bind fun bt399=>(gG.l0 k bt399.1 (wrap64 (x6 - 1)) x1000 bt396.2.1 bt396.2.2)))) else((jL.f x1000 x1001 x1002 4).bind fun bt403=>(if bt403.1=true then(gG.l1 k x5 0 x1000 bt403.2.1 bt403.2.2) else(some (x5,bt403.2.1,bt403.2.2))))
def gG.l1:Nat→List Int→Int→List Int→Int→Int→Option (List Int × Int × Int)
 |0,_,_,_,_,_=>none
 |k+1,x5,x9,x1000,x1001,x1002=>if x9<3 then((fB.f x1000 x1001 x1002 (x5.length:Int)).bind fun bt406=>((fB.f x1000 bt406.2.1 bt406.2.2 (x5.length:Int)).bind fun bt409=>(if 0≤bt406.1 then(if bt406.1<(x5.length:Int) then(if 0≤bt409.1 then(if bt409.1<(x5.length:Int) then(gG.l1 k ((x5.set (bt406.1:Int).toNat (rd x5 bt409.1)).set (bt409.1:Int).toNat (rd x5 bt406.1)) (wrap64 (x9+1)) x1000 bt409.2.1 bt409.2.2) else(none)) else(none)) else(none)) else(none)))) else(some (x5,x1001,x1002))
end
def gG.f (k:Nat) (s0_0:List Int) (s0_1:Int) (s0_2:Int) (a1:Int):Option (List Int × Int × Int):=(fB.f s0_0 s0_1 s0_2 a1).bind fun bt390=>(gG.l0 k (([0,1]:List Int)) bt390.1 s0_0 bt390.2.1 bt390.2.2)
theorem gG.calls (k:Nat) (g:Nat) (Ae:List Int) (Av:Int) (Ax:Int) (a1:Int) (r1:List Int) (r2:Int) (r3:Int) (w0 w:World) (hI:IsS63 w0 w g Ae Av Ax) (hB:Below w0.heap.size w0 w) (h:gG.f k Ae Av Ax a1=some (r1,r2,r3)):
  Calls Try.prog 55 #[.pointer (some ⟨g,0,none⟩), .int .i64 a1] w fun e w'=>∃v0_:Value,e= .returned (v0_)∧Kd.R (Kd.int .i64) 3 w' w.heap.size (fun _=>True) v0_ r1∧IsS63 w0 w' g Ae r2 r3∧Below w0.heap.size w0 w'∧KeepBut w w' g none:=by
 have HI0:=Az.mk hI
 have HK:=Az.mk (KeepBut.refl w g none)
 have HL:=Az.mk hB.size
 clear hI
 have HW0:=Az.mk hB.size
 have HB:=Az.mk hB
 clear hB
 have H:((fB.f Ae Av Ax a1).bind fun Ap=>(gG.l0 k (([0,1]:List Int)) Ap.1 Ae Ap.2.1 Ap.2.2))=some (r1,r2,r3):=h
 clear h
 obtain⟨Bz,hy⟩:∃y_:List Int,y_=(([0,1]:List Int)):=⟨_,rfl⟩
 replace H:((fB.f Ae Av Ax a1).bind fun Ap=>(gG.l0 k Bz Ap.1 Ae Ap.2.1 Ap.2.2))=some (r1,r2,r3):=rh
 have Bh:=Az.mk hy
 clear hy
 replace H:=bez H
 obtain⟨⟨Ca,Cb,Cc⟩,A3,H⟩:=H
 try dsimp only at H
 have H':=Az.mk H
 clear H
 go_enter Try.func55,Try.ntmps55
 go_wp2_with (first|((with_reducible refine gtD (N:=13) rfl ?_);refine Kd.R_lit (Kd.int .i64) _ 3 ?hg (N:=13) ?hd (xs:=([0,1]:List Int)) (inner:=[.int .i64 0, .int .i64 1]) (ok:=fun _=>True) (okp:=fun _=>True) ?hr ?hp (fun _ hk=>hk) trivial (Below.refl _ _) (Nat.le_refl _) (by simp) ?_;(case hd=>rfl);(case hg=>rfl);(case hr=>first|(go_simp;done)|(go_simp;rfl));(case hp=>exact(Reps.one (show Kd.M (Kd.int .i64) _ _ _ 0 [.int .i64 0]from rfl) (Reps.one (show Kd.M (Kd.int .i64) _ _ _ 1 [.int .i64 1]from rfl) (Reps.none _ _))));intro Dw w4 Cd hb hg_ hnew_;clear hg_ hnew_;(first|rw[←Bh.out]at Cd|(simp only[Int.reduceToNat]at Cd;rw[←Bh.out]at Cd));have Ba:=Az.mk (Kd.R_lower Cd (keep_size (w:=w) (g:=g) (row:=none) (kK HK.out)));replace HK:=Az.mk (KeepBut.trans (kK HK.out) (KeepBut.of_below hb g none) (.inl rfl));replace HB:=Az.mk (bwT (kG HB.out (IsS63.ge HI0.out)) hb);replace HI0:=Az.mk (IsS63.below (kI HI0.out) hb);clear hb Cd)|((with_reducible refine gtC (f:=51) rfl ?_);refine clz Try.func51 (some 16) #[.pointer (some ⟨g,0,none⟩), .int .i64 a1] ?_;(with_reducible refine(fB.calls g Ae Av Ax a1 Ca Cb Cc w0 _ ?Ah ?Ai A3.out).mono ?_);(case Ah=>exact(kI HI0.out));(case Ai=>exact kG HB.out (IsS63.ge HI0.out));rintro e w6 ⟨rfl,hi,hb,hk⟩;refine⟨_,rfl,?_⟩;replace Ba:=Az.mk (Kd.R_mono (Kd.R_keep (IsS63.apart (show IsS63 w0 _ g Ae Av Ax from kI HI0.out) (kR Ba.out) (by decide)) hk (fun _ h=>h.2)) (fun _ h=>h.1));replace HK:=Az.mk (KeepBut.trans (kK HK.out) hk (.inl rfl));replace HB:=Az.mk (hb);replace HI0:=Az.mk (hi);(try clear hb);(try clear hk);(try clear hi)))
 go_loopg [5,6] k (fun kq v5 v6 w'=>∃(Aq:List Int) (As:Int) (Af:Int) (Ag:Int),v6= .int .i64 As∧Az (gG.l0 kq Aq As Ae Af Ag=some (r1,r2,r3))∧Az (kq≤k)∧Az (Kd.R (Kd.int .i64) 3 w' w.heap.size (fun _=>True) v5 Aq)∧Az (IsS63 w0 w' g Ae Af Ag)∧Az (KeepBut w w' g none)∧Az (Below w0.heap.size w0 w'))
 case atStart=>exact⟨(Bz),(Ca),(Cb),(Cc),rq2,H',⟨Nat.le_refl _⟩,⟨kR Ba.out⟩,⟨kI HI0.out⟩,⟨kK HK.out⟩,⟨kG HB.out (IsS63.ge HI0.out)⟩⟩
 clear H'
 obtain⟨Aq,As,Af,Ag,rfl,HA,HK1,Ad,HI0,HK,HB⟩:=hrel
 cases gk with
 |zero=>exact absurd HA.out (by simp[gG.l0])
 |succ k1=>
  have H:=HA.out
  clear HA
  simp only[gG.l0]at H
  by_cases c7:As>0
  ·rw[ip c7]at H
   have Ce:decide (0<As)=true:=ode c7
   clear c7
   replace H:=bez H
   obtain⟨⟨Bi,Bj,Bk⟩,A8,H⟩:=H
   try dsimp only at H
   replace H:=bez H
   obtain⟨⟨Bl,Cf,Cg⟩,A9,H⟩:=H
   try dsimp only at H
   replace H:=bez H
   obtain⟨⟨Ch,Cy⟩,Dx,H⟩:=H
   try dsimp only at H
   have H':=Az.mk H
   clear H
   obtain⟨Cz,Da,Db⟩:=Kd.R_slice Ad.out
   subst Db
   go_wp2_with (first|((with_reducible refine gtC (f:=51) rfl ?_);refine clz Try.func51 (some 26) #[.pointer (some ⟨g,0,none⟩), .int .i64 (Aq.length:Int)] ?_;(with_reducible refine(fB.calls g Ae Af Ag (Aq.length:Int) Bi Bj Bk w0 _ ?Ah ?Ai A8.out).mono ?_);(case Ah=>exact(kI HI0.out));(case Ai=>exact kG HB.out (IsS63.ge HI0.out));rintro e Ef ⟨rfl,hi,hb,hk⟩;refine⟨_,rfl,?_⟩;replace Ad:=Az.mk (Kd.R_mono (Kd.R_keep (IsS63.apart (show IsS63 w0 _ g Ae Af Ag from kI HI0.out) (kR Ad.out) (by decide)) hk (fun _ h=>h.2)) (fun _ h=>h.1));replace HK:=Az.mk (KeepBut.trans (kK HK.out) hk (.inl rfl));replace HB:=Az.mk (hb);replace HI0:=Az.mk (hi);(try clear hb);(try clear hk);(try clear hi))|((with_reducible refine gtC (f:=51) rfl ?_);refine clz Try.func51 (some 30) #[.pointer (some ⟨g,0,none⟩), .int .i64 (Aq.length:Int)] ?_;(with_reducible refine(fB.calls g Ae Bj Bk (Aq.length:Int) Bl Cf Cg w0 _ ?Ah ?Ai A9.out).mono ?_);(case Ah=>exact(kI HI0.out));(case Ai=>exact kG HB.out (IsS63.ge HI0.out));rintro e Eg ⟨rfl,hi,hb,hk⟩;refine⟨_,rfl,?_⟩;replace Ad:=Az.mk (Kd.R_mono (Kd.R_keep (IsS63.apart (show IsS63 w0 _ g Ae Bj Bk from kI HI0.out) (kR Ad.out) (by decide)) hk (fun _ h=>h.2)) (fun _ h=>h.1));replace HK:=Az.mk (KeepBut.trans (kK HK.out) hk (.inl rfl));replace HB:=Az.mk (hb);replace HI0:=Az.mk (hi);(try clear hb);(try clear hk);(try clear hi))|((with_reducible refine gtC (f:=82) rfl ?_);refine clz Try.func82 (some 31) #[.slice Cz Aq.length Da, .int .i64 Bi, .int .i64 Bl] ?_;(with_reducible refine(gQ.calls k1 _ _ Aq Bi Bl Ch Cy _ ?Ah ?Ai Dx.out).mono ?_);(case Ah=>exact kC (Kd.R_reads' Ad.out).2.2);(case Ai=>exact(Kd.R_reads' Ad.out).2.1);rintro e Eh ⟨Dy,rfl,Dc,hb⟩;refine⟨_,rfl,?_⟩;have Ci:=Az.mk (Kd.R_lower (Kd.R_new' Dc (Kd.R_lt (kR Ad.out))) (keep_size (w:=w) (g:=g) (row:=none) (kK HK.out)));replace Ad:=Az.mk (Kd.R_elder' (kR Ad.out) (Kd.R_base Dc) hb);replace HK:=Az.mk (KeepBut.trans (kK HK.out) (KeepBut.of_below hb g none) (.inl rfl));replace HB:=Az.mk (bwT (kG HB.out (IsS63.ge HI0.out)) hb);replace HI0:=Az.mk (IsS63.below (kI HI0.out) hb);(try clear hb);(try clear Dc)))
   go_roundg k1
   case measure=>have:=HK1.out;omega
   case rel=>exact⟨(Ch),(wrap64 (As - 1)),(Cf),(Cg),rq2,H',⟨by have:=HK1.out;omega⟩,⟨by(with_reducible repeat(first|apply Kd.R_alloc|apply Kd.R_drewN|apply Kd.R_drew));exact Kd.R_mono Ci.out (fun _ hk=>trivial)⟩,⟨kI HI0.out⟩,⟨kK HK.out⟩,⟨kG HB.out (IsS63.ge HI0.out)⟩⟩
  rw[ig c7]at H
  have Ce:decide (0<As)=false:=decide_eq_false c7
  clear c7
  replace H:=bez H
  obtain⟨⟨Dd,Bm,Bn⟩,Dq,H⟩:=H
  try dsimp only at H
  by_cases Cj:Dd=true
  rotate_left
  ·replace Cj:=Bool.eq_false_iff.mpr Cj
   subst Cj
   rw[ig ff]at H
   simp only[Option.some.injEq,Prod.mk.injEq]at H
   obtain⟨rfl,rfl,rfl⟩:=H
   go_wp2_with (first|((with_reducible refine gtC (f:=81) rfl ?_);refine clz Try.func81 (some 36) #[.pointer (some ⟨g,0,none⟩), .int .i64 4] ?_;(with_reducible refine(jL.calls g Ae Af Ag 4 false Bm Bn w0 _ ?Ah ?Ai Dq.out).mono ?_);(case Ah=>exact(kI HI0.out));(case Ai=>exact kG HB.out (IsS63.ge HI0.out));rintro e Ei ⟨rfl,hi,hb,hk⟩;refine⟨_,rfl,?_⟩;replace Ad:=Az.mk (Kd.R_mono (Kd.R_keep (IsS63.apart (show IsS63 w0 _ g Ae Af Ag from kI HI0.out) (kR Ad.out) (by decide)) hk (fun _ h=>h.2)) (fun _ h=>h.1));replace HK:=Az.mk (KeepBut.trans (kK HK.out) hk (.inl rfl));replace HB:=Az.mk (hb);replace HI0:=Az.mk (hi);(try clear hb);(try clear hk);(try clear hi)))
   go_ret
   exact⟨_,rq1,kR Ad.out,kI HI0.out,kG HB.out (IsS63.ge HI0.out),kK HK.out⟩
  subst Cj
  rw[ip rfl]at H
  have H':=Az.mk H
  clear H
  go_wp2_with (first|((with_reducible refine gtC (f:=81) rfl ?_);refine clz Try.func81 (some 36) #[.pointer (some ⟨g,0,none⟩), .int .i64 4] ?_;(with_reducible refine(jL.calls g Ae Af Ag 4 true Bm Bn w0 _ ?Ah ?Ai Dq.out).mono ?_);(case Ah=>exact(kI HI0.out));(case Ai=>exact kG HB.out (IsS63.ge HI0.out));rintro e Ej ⟨rfl,hi,hb,hk⟩;refine⟨_,rfl,?_⟩;replace Ad:=Az.mk (Kd.R_mono (Kd.R_keep (IsS63.apart (show IsS63 w0 _ g Ae Af Ag from kI HI0.out) (kR Ad.out) (by decide)) hk (fun _ h=>h.2)) (fun _ h=>h.1));replace HK:=Az.mk (KeepBut.trans (kK HK.out) hk (.inl rfl));replace HB:=Az.mk (hb);replace HI0:=Az.mk (hi);(try clear hb);(try clear hk);(try clear hi)))
  go_loopg [9] k1 (fun kq v9 w'=>∃(Aj:List Int) (Au:Int) (Am:Int) (Ao:Int),v9= .int .i64 Au∧Az (gG.l1 kq Aj Au Ae Am Ao=some (r1,r2,r3))∧Az (kq≤k1)∧Az (Kd.R (Kd.int .i64) 3 w' w.heap.size (fun _=>True) u5 Aj)∧Az (IsS63 w0 w' g Ae Am Ao)∧Az (KeepBut w w' g none)∧Az (Below w0.heap.size w0 w'))
  case atStart=>exact⟨(Aq),(0),(Bm),(Bn),rq2,H',⟨Nat.le_refl _⟩,⟨kR Ad.out⟩,⟨kI HI0.out⟩,⟨kK HK.out⟩,⟨kG HB.out (IsS63.ge HI0.out)⟩⟩
  clear H'
  try clear c7
  try clear Ce
  try clear Cj
  obtain⟨Aj,Au,Am,Ao,rfl,HA,HK2,Ad,HI0,HK,HB⟩:=hrel
  cases gk with
  |zero=>exact absurd HA.out (by simp[gG.l1])
  |succ k2=>
   have H:=HA.out
   clear HA
   simp only[gG.l1]at H
   by_cases By:Au<3
   rotate_left
   ·rw[ig By]at H
    have Ck:=decide_eq_false By
    clear By
    simp only[Option.some.injEq,Prod.mk.injEq]at H
    obtain⟨rfl,rfl,rfl⟩:=H
    go_wp2
    go_ret
    exact⟨_,rq1,kR Ad.out,kI HI0.out,kG HB.out (IsS63.ge HI0.out),kK HK.out⟩
   rw[ip By]at H
   have Ck:=ode By
   clear By
   replace H:=bez H
   obtain⟨⟨Ak,Bo,Bp⟩,Dz,H⟩:=H
   try dsimp only at H
   replace H:=bez H
   obtain⟨⟨Al,Bb,Bc⟩,Ea,H⟩:=H
   try dsimp only at H
   by_cases Cu:0≤Ak
   rotate_left
   ·rw[ig Cu]at H
    exact absurd H (by simp)
   rw[ip Cu]at H
   have Dr:=ode Cu
   clear Cu
   by_cases Cv:Ak<(Aj.length:Int)
   rotate_left
   ·rw[ig Cv]at H
    exact absurd H (by simp)
   rw[ip Cv]at H
   have Ds:=ode Cv
   clear Cv
   by_cases Cw:0≤Al
   rotate_left
   ·rw[ig Cw]at H
    exact absurd H (by simp)
   rw[ip Cw]at H
   have Dt:=ode Cw
   clear Cw
   by_cases Cx:Al<(Aj.length:Int)
   rotate_left
   ·rw[ig Cx]at H
    exact absurd H (by simp)
   rw[ip Cx]at H
   have Du:=ode Cx
   clear Cx
   obtain⟨Bq,hy⟩:∃y_:List Int,y_=(Aj.set (Ak:Int).toNat (rd Aj Al)):=⟨_,rfl⟩
   replace H:(gG.l1 k2 (Bq.set (Al:Int).toNat (rd Aj Ak)) (wrap64 (Au+1)) Ae Bb Bc)=some (r1,r2,r3):=rh
   have Cl:=Az.mk hy
   clear hy
   obtain⟨Br,hy⟩:∃y_:List Int,y_=(Bq.set (Al:Int).toNat (rd Aj Ak)):=⟨_,rfl⟩
   replace H:(gG.l1 k2 Br (wrap64 (Au+1)) Ae Bb Bc)=some (r1,r2,r3):=rh
   have Cm:=Az.mk hy
   clear hy
   have H':=Az.mk H
   clear H
   obtain⟨Eb,Cn,De⟩:=Kd.R_slice Ad.out
   subst De
   go_wp2_with (first|((with_reducible refine gtC (f:=51) rfl ?_);refine clz Try.func51 (some 44) #[.pointer (some ⟨g,0,none⟩), .int .i64 (Aj.length:Int)] ?_;(with_reducible refine(fB.calls g Ae Am Ao (Aj.length:Int) Ak Bo Bp w0 _ ?Ah ?Ai Dz.out).mono ?_);(case Ah=>exact(kI HI0.out));(case Ai=>exact kG HB.out (IsS63.ge HI0.out));rintro e Ek ⟨rfl,hi,hb,hk⟩;refine⟨_,rfl,?_⟩;replace Ad:=Az.mk (Kd.R_mono (Kd.R_keep (IsS63.apart (show IsS63 w0 _ g Ae Am Ao from kI HI0.out) (kR Ad.out) (by decide)) hk (fun _ h=>h.2)) (fun _ h=>h.1));replace HK:=Az.mk (KeepBut.trans (kK HK.out) hk (.inl rfl));replace HB:=Az.mk (hb);replace HI0:=Az.mk (hi);(try clear hb);(try clear hk);(try clear hi))|((with_reducible refine gtC (f:=51) rfl ?_);refine clz Try.func51 (some 48) #[.pointer (some ⟨g,0,none⟩), .int .i64 (Aj.length:Int)] ?_;(with_reducible refine(fB.calls g Ae Bo Bp (Aj.length:Int) Al Bb Bc w0 _ ?Ah ?Ai Ea.out).mono ?_);(case Ah=>exact(kI HI0.out));(case Ai=>exact kG HB.out (IsS63.ge HI0.out));rintro e Dv ⟨rfl,hi,hb,hk⟩;refine⟨_,rfl,?_⟩;replace Ad:=Az.mk (Kd.R_mono (Kd.R_keep (IsS63.apart (show IsS63 w0 _ g Ae Bo Bp from kI HI0.out) (kR Ad.out) (by decide)) hk (fun _ h=>h.2)) (fun _ h=>h.1));replace HK:=Az.mk (KeepBut.trans (kK HK.out) hk (.inl rfl));replace HB:=Az.mk (hb);replace HI0:=Az.mk (hi);(try clear hb);(try clear hk);(try clear hi);have Bs:0≤(Ak:Int):=od;have Bt:Ak<(Aj.length:Int):=od;obtain⟨Co,Df,Bd⟩:=Kd.at_int (Kd.R_reads' Ad.out).2.2 Ak Bs Bt;cases Df;replace Bs:=ets Bs;replace Bt:=ets Bt;have Bu:0≤(Al:Int):=od;have Bv:Al<(Aj.length:Int):=od;obtain⟨Cp,Dg,Bf⟩:=Kd.at_int (Kd.R_reads' Ad.out).2.2 Al Bu Bv;obtain rfl:Co=Cp:=(by injection Dg);replace Bu:=ets Bu;replace Bv:=ets Bv;have Dh:0≤(Ak:Int):=od;have Di:(Ak:Int)<((Aj.length:Int):Int):=od;obtain⟨Ay,Ec,Cq,Cr,gl25,Ed,HG25⟩:=Kd.R_form Ad.out (by omega);(first|cases Cq|(injection Cq with ea_ en_ ec_;(first|subst ea_|(injection ea_ with ea_;subst ea_));subst ec_;clear en_));have Cs:=Az.mk Cr;have Ee:=Az.mk HG25;clear Cr gl25 HG25;(first|simp only[add_plain]at Bd|skip);(first|simp only[add_plain]at Bf|skip);obtain⟨Dj,Dk⟩:=Kd.R_celln 0 Ad.out (Ak:Int) Dh Di;replace Dh:=ets Dh;replace Di:=ets Di;obtain⟨hy30_,hz30_⟩:=Kd.R_celln 0 Ad.out (Ak:Int) (od) (od);have Bw:=Kd.R_putg Ad.out (Ak:Int) (rd Aj Al))|((with_reducible refine gate_store (t:=3) (p:=59) rfl ?_);refine store_event (t:=3) (p:=59) (v:=?vo_w31) (w1:=(Dv.setCell ⟨Ay,(Ak:Int).toNat,none⟩ (.int .i64 (rd Aj Al)))) ?hg ?ho ?hn ?hr ?_;(case ho=>rfl);(case hg=>rfl);(case hn=>rfl);(case hr=>first|(go_simp;done)|(go_simp;rfl));intro Ct hw;have hg:Dv.grownBy Ct (some Ay):=(by rw[hw];exact Bw.2);have hp_:Kd.R (Kd.int .i64) 3 Ct w.heap.size (fun _=>True) (.slice (some ⟨Ay,0,none⟩) Aj.length Cn) Bq:=(by rw[hw,Cl.out];exact Bw.1);clear Bw;replace HI0:=Az.mk (IsS63.grown (kI HI0.out) hg (IsS63.own_ne HI0.out Ad.out (by decide)));replace HB:=Az.mk ((by rw[hw];exact bwS (HB.out) (Nat.le_trans HL.out Cs.out):Below w0.heap.size w0 Ct));replace HK:=Az.mk (KeepBut.trans (kK HK.out) (KeepBut.of_grown hg g) (Kd.R_base2 Ad.out));replace Ad:=Az.mk (hp_);clear hg hw hp_;have Dl:0≤(Al:Int):=od;have Dm:(Al:Int)<((Aj.length:Int):Int):=od;obtain⟨Dn,Do⟩:=Kd.R_celln 0 Ad.out (Al:Int) Dl Dm;replace Dl:=ets Dl;replace Dm:=ets Dm;obtain⟨hy32_,hz32_⟩:=Kd.R_celln 0 Ad.out (Al:Int) (od) (od);have Bx:=Kd.R_putg Ad.out (Al:Int) (rd Aj Ak))|((with_reducible refine gate_store (t:=3) (p:=63) rfl ?_);refine store_event (t:=3) (p:=63) (v:=?vo_w33) (w1:=(Ct.setCell ⟨Ay,(Al:Int).toNat,none⟩ (.int .i64 (rd Aj Ak)))) ?hg ?ho ?hn ?hr ?_;(case ho=>rfl);(case hg=>rfl);(case hn=>rfl);(case hr=>first|(go_simp;done)|(go_simp;rfl));intro Dp hw;have hg:Ct.grownBy Dp (some Ay):=(by rw[hw];exact Bx.2);have hp_:Kd.R (Kd.int .i64) 3 Dp w.heap.size (fun _=>True) (.slice (some ⟨Ay,0,none⟩) Aj.length Cn) Br:=(by rw[hw,Cm.out];exact Bx.1);clear Bx;replace HI0:=Az.mk (IsS63.grown (kI HI0.out) hg (IsS63.own_ne HI0.out Ad.out (by decide)));replace HB:=Az.mk ((by rw[hw];exact bwS (HB.out) (Nat.le_trans HL.out Cs.out):Below w0.heap.size w0 Dp));replace HK:=Az.mk (KeepBut.trans (kK HK.out) (KeepBut.of_grown hg g) (Kd.R_base2 Ad.out));replace Ad:=Az.mk (hp_);clear hg hw hp_))
   go_roundg k2
   case measure=>have:=HK1.out;have:=HK2.out;omega
   case rel=>exact⟨(Br),(wrap64 (Au+1)),(Bb),(Bc),rq2,H',⟨by have:=HK1.out;have:=HK2.out;omega⟩,⟨kR Ad.out⟩,⟨kI HI0.out⟩,⟨kK HK.out⟩,⟨kG HB.out (IsS63.ge HI0.out)⟩⟩
def mC.f (k:Nat) (s0_0:List Int) (s0_1:Int) (s0_2:Int):Option (List Int × Int × Int):=(gG.f k s0_0 s0_1 s0_2 6).bind fun bt416=>((fB.f s0_0 bt416.2.1 bt416.2.2 18).bind fun bt421=>(if bt421.1=0 then((gK.f s0_0 bt421.2.1 bt421.2.2 (([(-1),99,0,1]:List Int))).bind fun bt427=>(if 0<(bt416.1.length:Int) then(some ((bt416.1.set (0:Int).toNat bt427.1),bt427.2.1,bt427.2.2)) else(none))) else(if bt421.1=1 then(if bt416.1.length<17592186044416 then(some ((bt416.1 ++ [(bt416.1.length:Int)]),bt421.2.1,bt421.2.2)) else(none)) else(some (bt416.1,bt421.2.1,bt421.2.2)))))
theorem mC.calls (k:Nat) (g:Nat) (Ah:List Int) (As:Int) (Au:Int) (r1:List Int) (r2:Int) (r3:Int) (w0 w:World) (hI:IsS63 w0 w g Ah As Au) (hB:Below w0.heap.size w0 w) (h:mC.f k Ah As Au=some (r1,r2,r3)):
  Calls Try.prog 23 #[.pointer (some ⟨g,0,none⟩)] w fun e w'=>∃v0_:Value,e= .returned (v0_)∧Kd.R (Kd.int .i64) 3 w' w.heap.size (fun _=>True) v0_ r1∧IsS63 w0 w' g Ah r2 r3∧Below w0.heap.size w0 w'∧KeepBut w w' g none:=by
 have HI0:=Az.mk hI
 have HK:=Az.mk (KeepBut.refl w g none)
 have HL:=Az.mk hB.size
 clear hI
 have HW0:=Az.mk hB.size
 have HB:=Az.mk hB
 clear hB
 have H:((gG.f k Ah As Au 6).bind fun Ai=>((fB.f Ah Ai.2.1 Ai.2.2 18).bind fun Aj=>(if Aj.1=0 then((gK.f Ah Aj.2.1 Aj.2.2 (([(-1),99,0,1]:List Int))).bind fun Al=>(if 0<(Ai.1.length:Int) then(some ((Ai.1.set (0:Int).toNat Al.1),Al.2.1,Al.2.2)) else(none))) else(if Aj.1=1 then(if Ai.1.length<17592186044416 then(some ((Ai.1 ++ [(Ai.1.length:Int)]),Aj.2.1,Aj.2.2)) else(none)) else(some (Ai.1,Aj.2.1,Aj.2.2))))))=some (r1,r2,r3):=h
 clear h
 replace H:=bez H
 obtain⟨⟨Ae,Am,Ao⟩,A2,H⟩:=H
 try dsimp only at H
 replace H:=bez H
 obtain⟨⟨Ax,Ap,Aq⟩,A3,H⟩:=H
 try dsimp only at H
 by_cases c4:Ax=0
 ·rw[ip c4]at H
  have Bz:=beq_iff_eq.mpr c4
  have Ca:=bne_eq_false_iff_eq.mpr c4
  clear c4
  obtain⟨Ay,hy⟩:∃y_:List Int,y_=(([(-1),99,0,1]:List Int)):=⟨_,rfl⟩
  replace H:((gK.f Ah Ap Aq Ay).bind fun Al=>(if 0<(Ae.length:Int) then(some ((Ae.set (0:Int).toNat Al.1),Al.2.1,Al.2.2)) else(none)))=some (r1,r2,r3):=rh
  have Bb:=Az.mk hy
  clear hy
  replace H:=bez H
  obtain⟨⟨Ba,Bl,Bm⟩,A5,H⟩:=H
  try dsimp only at H
  by_cases c6:0<(Ae.length:Int)
  rotate_left
  ·rw[ig c6]at H
   exact absurd H (by simp)
  rw[ip c6]at H
  have Cl:=ode c6
  have Cm:decide (0<Ae.length)=true:=ode (by omega)
  clear c6
  obtain⟨Bn,hy⟩:∃y_:List Int,y_=(Ae.set (0:Int).toNat Ba):=⟨_,rfl⟩
  replace H:(some (Bn,Bl,Bm))=some (r1,r2,r3):=rh
  have Bo:=Az.mk hy
  clear hy
  simp only[Option.some.injEq,Prod.mk.injEq]at H
  obtain⟨rfl,rfl,rfl⟩:=H
  go_enter Try.func23,Try.ntmps23
  go_wp2_with (first|((with_reducible refine gtC (f:=55) rfl ?_);refine clz Try.func55 (some 5) #[.pointer (some ⟨g,0,none⟩), .int .i64 6] ?_;(with_reducible refine(gG.calls k g Ah As Au 6 Ae Am Ao w0 _ ?Af ?Ag A2.out).mono ?_);(case Af=>exact(kI HI0.out));(case Ag=>exact kG HB.out (IsS63.ge HI0.out));rintro e w8 ⟨Bp,rfl,Bc,hi,hb,hk⟩;refine⟨_,rfl,?_⟩;have Ad:=Az.mk (Kd.R_lower Bc (keep_size (w:=w) (g:=g) (row:=none) (kK HK.out)));replace HK:=Az.mk (KeepBut.trans (kK HK.out) hk (.inl rfl));replace HB:=Az.mk (hb);replace HI0:=Az.mk (hi);(try clear hb);(try clear hk);(try clear hi);(try clear Bc))|((with_reducible refine gtC (f:=51) rfl ?_);refine clz Try.func51 (some 7) #[.pointer (some ⟨g,0,none⟩), .int .i64 18] ?_;(with_reducible refine(fB.calls g Ah Am Ao 18 Ax Ap Aq w0 _ ?Af ?Ag A3.out).mono ?_);(case Af=>exact(kI HI0.out));(case Ag=>exact kG HB.out (IsS63.ge HI0.out));rintro e w9 ⟨rfl,hi,hb,hk⟩;refine⟨_,rfl,?_⟩;replace Ad:=Az.mk (Kd.R_mono (Kd.R_keep (IsS63.apart (show IsS63 w0 _ g Ah Am Ao from kI HI0.out) (kR Ad.out) (by decide)) hk (fun _ h=>h.2)) (fun _ h=>h.1));replace HK:=Az.mk (KeepBut.trans (kK HK.out) hk (.inl rfl));replace HB:=Az.mk (hb);replace HI0:=Az.mk (hi);(try clear hb);(try clear hk);(try clear hi))|((with_reducible refine gtD (N:=12) rfl ?_);refine Kd.R_lit (Kd.int .i64) _ 3 ?hg (N:=12) ?hd (xs:=([(-1),99,0,1]:List Int)) (inner:=[.int .i64 (-1), .int .i64 99, .int .i64 0, .int .i64 1]) (ok:=fun _=>True) (okp:=fun _=>True) ?hr ?hp (fun _ hk=>hk) trivial (Below.refl _ _) (Nat.le_refl _) (by simp) ?_;(case hd=>rfl);(case hg=>rfl);(case hr=>first|(go_simp;done)|(go_simp;rfl));(case hp=>exact(Reps.one (show Kd.M (Kd.int .i64) _ _ _ (-1) [.int .i64 (-1)]from rfl) (Reps.one (show Kd.M (Kd.int .i64) _ _ _ 99 [.int .i64 99]from rfl) (Reps.one (show Kd.M (Kd.int .i64) _ _ _ 0 [.int .i64 0]from rfl) (Reps.one (show Kd.M (Kd.int .i64) _ _ _ 1 [.int .i64 1]from rfl) (Reps.none _ _))))));intro Cn Cq Av hb hg_ hnew_;clear hg_ hnew_;(first|rw[←Bb.out]at Av|(simp only[Int.reduceToNat]at Av;rw[←Bb.out]at Av));have Ak:=Az.mk (Kd.R_lower (Kd.R_new' Av (Kd.R_lt (kR Ad.out))) (keep_size (w:=w) (g:=g) (row:=none) (kK HK.out)));replace Ad:=Az.mk (Kd.R_elder' (kR Ad.out) (Kd.R_base Av) hb);replace HK:=Az.mk (KeepBut.trans (kK HK.out) (KeepBut.of_below hb g none) (.inl rfl));replace HB:=Az.mk (bwT (kG HB.out (IsS63.ge HI0.out)) hb);replace HI0:=Az.mk (IsS63.below (kI HI0.out) hb);clear hb Av;obtain⟨Bh,Bi,Cb⟩:=Kd.R_slice Ak.out;subst Cb)|((with_reducible refine gtC (f:=53) rfl ?_);refine clz Try.func53 (some 13) #[.pointer (some ⟨g,0,none⟩), .slice Bh Ay.length Bi] ?_;(with_reducible refine(gK.calls g Ah Ap Aq _ _ Ay Ba Bl Bm w0 _ ?Af ?Ag ?Bq ?Br ?Bs A5.out).mono ?_);(case Af=>exact(kI HI0.out));(case Ag=>exact kG HB.out (IsS63.ge HI0.out));(case Bq=>exact kC (Kd.R_reads' Ak.out).2.2);(case Br=>exact(Kd.R_reads' Ak.out).2.1);(case Bs=>exact far_slice (IsS63.own_ne HI0.out Ak.out (by decide)));rintro e Ci ⟨rfl,hi,hb,hk⟩;refine⟨_,rfl,?_⟩;replace Ad:=Az.mk (Kd.R_mono (Kd.R_keep (IsS63.apart (show IsS63 w0 _ g Ah Ap Aq from kI HI0.out) (kR Ad.out) (by decide)) hk (fun _ h=>h.2)) (fun _ h=>h.1));replace Ak:=Az.mk (Kd.R_mono (Kd.R_keep (IsS63.apart (show IsS63 w0 _ g Ah Ap Aq from kI HI0.out) (kR Ak.out) (by decide)) hk (fun _ h=>h.2)) (fun _ h=>h.1));replace HK:=Az.mk (KeepBut.trans (kK HK.out) hk (.inl rfl));replace HB:=Az.mk (hb);replace HI0:=Az.mk (hi);(try clear hb);(try clear hk);(try clear hi);have p7:0≤(0:Int):=(by omega);have q7:(0:Int)<((Ae.length:Int):Int):=od;have Cr:(0<Ae.length)=True:=ets (by omega);obtain⟨Bt,Cc,Cj,Ck,gl7,Cs,HG7⟩:=Kd.R_form Ad.out (by omega);(first|cases Cj|(injection Cj with ea_ en_ ec_;(first|subst ea_|(injection ea_ with ea_;subst ea_));subst ec_;clear en_));have Co:=Az.mk Ck;have Ct:=Az.mk HG7;clear Ck gl7 HG7;obtain⟨Bd,Bf⟩:=Kd.R_celln 0 Ad.out (0:Int) p7 q7;(try rw[show((0:Int)).toNat=0 from rfl]at Bd);(try simp only[Nat.reduceMul,Nat.zero_mul,Nat.zero_add,Nat.reduceAdd]at Bd);(try rw[show((0:Int)).toNat=0 from rfl]at Bf);(try simp only[Nat.reduceMul,Nat.zero_mul,Nat.zero_add,Nat.reduceAdd]at Bf);replace p7:=ets p7;replace q7:=ets q7;have n_:=Az.mk (Kd.R_mono (ok':=(fun k_=>some k_≠(.slice Bh Ay.length Bi:Value).ownBlock)) Ad.out (fun k_ hk=>hk.2));clear Ad;have Ad:=n_;clear n_;obtain⟨hy14_,hz14_⟩:=Kd.R_celln 0 Ad.out (0:Int) (by omega) (od);(try simp only[Int.reduceToNat,Int.toNat_zero,Int.toNat_ofNat,Nat.reduceMul,Nat.zero_mul,Nat.zero_add]at hy14_ hz14_);(try rw[show((0:Int)).toNat=0 from rfl]at hy14_);(try rw[show((0:Int)).toNat=0 from rfl]at hz14_);have Bj:=Kd.R_putg Ad.out (0:Int) Ba)|((with_reducible refine gate_store (t:=3) (p:=14) rfl ?_);refine store_event (t:=3) (p:=14) (v:=?vo_w15) (w1:=(Ci.setCell ⟨Bt,(0:Int).toNat,none⟩ (.int .i64 Ba))) ?hg ?ho ?hn ?hr ?_;(case ho=>rfl);(case hg=>rfl);(case hn=>rfl);(case hr=>first|(go_simp;done)|(go_simp;rfl));intro Cd hw;have hg:Ci.grownBy Cd (some Bt):=(by rw[hw];exact Bj.2);have hp_:Kd.R (Kd.int .i64) 3 Cd w.heap.size (fun k_=>some k_≠(.slice Bh Ay.length Bi:Value).ownBlock) (.slice (some ⟨Bt,0,none⟩) Ae.length Cc) Bn:=(by rw[hw,Bo.out];exact Bj.1);clear Bj;replace HI0:=Az.mk (IsS63.grown (kI HI0.out) hg (IsS63.own_ne HI0.out Ad.out (by decide)));replace Ak:=Az.mk (Kd.R_after (v:=(.slice (some ⟨Bt,0,none⟩) Ae.length Cc)) (v1:=(.slice (some ⟨Bt,0,none⟩) Ae.length Cc)) (ok:=(fun _=>True)) (kR Ak.out) hg (.inl rfl));replace HB:=Az.mk ((by rw[hw];exact bwS (HB.out) (Nat.le_trans HL.out Co.out):Below w0.heap.size w0 Cd));replace HK:=Az.mk (KeepBut.trans (kK HK.out) (KeepBut.of_grown hg g) (Kd.R_base2 Ad.out));replace Ad:=Az.mk (hp_);clear hg hw hp_))
  go_ret
  exact⟨_,rq1,by(with_reducible repeat(first|apply Kd.R_alloc|apply Kd.R_drewN|apply Kd.R_drew));exact Kd.R_mono Ad.out (fun _ hk=>trivial),kI HI0.out,kG HB.out (IsS63.ge HI0.out),kK HK.out⟩
 rw[ig c4]at H
 have Bz:=beq_eq_false_iff_ne.mpr c4
 have Ca:=bne_iff_ne.mpr c4
 by_cases Bk:Ax=1
 rotate_left
 ·rw[ig Bk]at H
  have Bu:=beq_eq_false_iff_ne.mpr Bk
  have Bv:=bne_iff_ne.mpr Bk
  simp only[Option.some.injEq,Prod.mk.injEq]at H
  obtain⟨rfl,rfl,rfl⟩:=H
  go_enter Try.func23,Try.ntmps23
  go_wp2_with (first|((with_reducible refine gtC (f:=55) rfl ?_);refine clz Try.func55 (some 5) #[.pointer (some ⟨g,0,none⟩), .int .i64 6] ?_;(with_reducible refine(gG.calls k g Ah As Au 6 Ae Am Ao w0 _ ?Af ?Ag A2.out).mono ?_);(case Af=>exact(kI HI0.out));(case Ag=>exact kG HB.out (IsS63.ge HI0.out));rintro e Cu ⟨Bp,rfl,Bc,hi,hb,hk⟩;refine⟨_,rfl,?_⟩;have Ad:=Az.mk (Kd.R_lower Bc (keep_size (w:=w) (g:=g) (row:=none) (kK HK.out)));replace HK:=Az.mk (KeepBut.trans (kK HK.out) hk (.inl rfl));replace HB:=Az.mk (hb);replace HI0:=Az.mk (hi);(try clear hb);(try clear hk);(try clear hi);(try clear Bc))|((with_reducible refine gtC (f:=51) rfl ?_);refine clz Try.func51 (some 7) #[.pointer (some ⟨g,0,none⟩), .int .i64 18] ?_;(with_reducible refine(fB.calls g Ah Am Ao 18 Ax Ap Aq w0 _ ?Af ?Ag A3.out).mono ?_);(case Af=>exact(kI HI0.out));(case Ag=>exact kG HB.out (IsS63.ge HI0.out));rintro e Cv ⟨rfl,hi,hb,hk⟩;refine⟨_,rfl,?_⟩;replace Ad:=Az.mk (Kd.R_mono (Kd.R_keep (IsS63.apart (show IsS63 w0 _ g Ah Am Ao from kI HI0.out) (kR Ad.out) (by decide)) hk (fun _ h=>h.2)) (fun _ h=>h.1));replace HK:=Az.mk (KeepBut.trans (kK HK.out) hk (.inl rfl));replace HB:=Az.mk (hb);replace HI0:=Az.mk (hi);(try clear hb);(try clear hk);(try clear hi)))
  go_ret
  exact⟨_,rq1,kR Ad.out,kI HI0.out,kG HB.out (IsS63.ge HI0.out),kK HK.out⟩
 rw[ip Bk]at H
 have Bu:=beq_iff_eq.mpr Bk
 have Bv:=bne_eq_false_iff_eq.mpr Bk
 clear Bk
 by_cases By:Ae.length<17592186044416
 rotate_left
 ·rw[ig By]at H
  exact absurd H (by simp)
 rw[ip By]at H
 have LMc17:=Az.mk By
 clear By
 obtain⟨Ce,hy⟩:∃y_:List Int,y_=(Ae ++ [(Ae.length:Int)]):=⟨_,rfl⟩
 replace H:(some (Ce,Ap,Aq))=some (r1,r2,r3):=rh
 have Bw:=Az.mk hy
 clear hy
 simp only[Option.some.injEq,Prod.mk.injEq]at H
 obtain⟨rfl,rfl,rfl⟩:=H
 go_enter Try.func23,Try.ntmps23
 go_wp2_with (first|((with_reducible refine gtC (f:=55) rfl ?_);refine clz Try.func55 (some 5) #[.pointer (some ⟨g,0,none⟩), .int .i64 6] ?_;(with_reducible refine(gG.calls k g Ah As Au 6 Ae Am Ao w0 _ ?Af ?Ag A2.out).mono ?_);(case Af=>exact(kI HI0.out));(case Ag=>exact kG HB.out (IsS63.ge HI0.out));rintro e Cw ⟨Bp,rfl,Bc,hi,hb,hk⟩;refine⟨_,rfl,?_⟩;have Ad:=Az.mk (Kd.R_lower Bc (keep_size (w:=w) (g:=g) (row:=none) (kK HK.out)));replace HK:=Az.mk (KeepBut.trans (kK HK.out) hk (.inl rfl));replace HB:=Az.mk (hb);replace HI0:=Az.mk (hi);(try clear hb);(try clear hk);(try clear hi);(try clear Bc))|((with_reducible refine gtC (f:=51) rfl ?_);refine clz Try.func51 (some 7) #[.pointer (some ⟨g,0,none⟩), .int .i64 18] ?_;(with_reducible refine(fB.calls g Ah Am Ao 18 Ax Ap Aq w0 _ ?Af ?Ag A3.out).mono ?_);(case Af=>exact(kI HI0.out));(case Ag=>exact kG HB.out (IsS63.ge HI0.out));rintro e Cx ⟨rfl,hi,hb,hk⟩;refine⟨_,rfl,?_⟩;replace Ad:=Az.mk (Kd.R_mono (Kd.R_keep (IsS63.apart (show IsS63 w0 _ g Ah Am Ao from kI HI0.out) (kR Ad.out) (by decide)) hk (fun _ h=>h.2)) (fun _ h=>h.1));replace HK:=Az.mk (KeepBut.trans (kK HK.out) hk (.inl rfl));replace HB:=Az.mk (hb);replace HI0:=Az.mk (hi);(try clear hb);(try clear hk);(try clear hi);obtain⟨Cf,Cg,Ch⟩:=Kd.R_slice Ad.out;subst Ch)|((with_reducible refine gate_builtin (b:= .append) (xs:= #[.tmp 17, .tmp 20]) rfl ?_);at_builtin;refine Kd.R_append (Kd.int .i64) w.heap.size rfl (.tmp 17) (.tmp 20) 25 3 (.int .i64 0) 8 rfl Try.underlying25 info3 rfl (by decide) (by omega) (.slice Cf Ae.length Cg) Ae (Ae.length:Int) [.int .i64 (Ae.length:Int)] (fun _=>True) (fun _=>False) rfl rfl ?aP (fun _ hk=>hk.elim) ?aF ?aO (Below.refl _ _) ?aS ?aL ?_;(case aP=>exact rfl);(case aF=>exact(fun _ _=>trivial));(case aO=>exact(kR Ad.out));(case aS=>exact(keep_size (w:=w) (g:=g) (row:=none) (kK HK.out)));(case aL=>have:=LMc17.out;omega);intro Cp Cy ho hb hg hat;rw[←Bw.out]at ho;have n0_:=Az.mk (IsS63.grown (kI HI0.out) hg (IsS63.own_ne HI0.out Ad.out (by decide)));have n1_:=Az.mk (below_weaken (kG HB.out (IsS63.ge HI0.out)) HL.out hb);have n2_:=Az.mk (KeepBut.trans (kK HK.out) (KeepBut.of_grown hg g) (Kd.R_base2 Ad.out));have n3_:=Az.mk (ho);clear HI0;clear HB;clear HK;clear Ad;have HI0:=n0_;have HB:=n1_;have HK:=n2_;have Bx:=n3_;clear n0_ n1_ n2_ n3_;clear ho hb hg hat))
 go_ret
 exact⟨_,rq1,kR Bx.out,kI HI0.out,kG HB.out (IsS63.ge HI0.out),kK HK.out⟩
def jR.f (k:Nat) (l0:List Int):Option (List Int):=(gS.f k l0).bind fun bt434=>((mC.f k bt434.1 bt434.2.1 bt434.2.2).bind fun bt438=>(some bt438.1))
theorem jR.calls (k:Nat) (A0:Option Addr) (c0:Nat) (l0:List Int) (r:List Int) (w:World) (As:Kd.C (Kd.int .u8) w A0 l0.length l0) (Au:l0.length≤c0) (h:jR.f k l0=some r):
  Calls Try.prog 7 #[.slice A0 l0.length c0] w fun e w'=>∃v0_:Value,e= .returned (v0_)∧Kd.R (Kd.int .i64) 3 w' w.heap.size (fun _=>True) v0_ r∧Below w.heap.size w w':=by
 have Ax:=Az.mk As
 have Ay:=Az.mk Au
 clear As Au
 have HB:=Az.mk (Below.refl w.heap.size w)
 have H:((gS.f k l0).bind fun Ad=>((mC.f k Ad.1 Ad.2.1 Ad.2.2).bind fun Ag=>(some Ag.1)))=some r:=h
 clear h
 replace H:=bez H
 obtain⟨⟨Ah,Ai,Aj⟩,A2,H⟩:=H
 try dsimp only at H
 replace H:=bez H
 obtain⟨⟨Ak,Ap,Aq⟩,A3,H⟩:=H
 replace H:(some Ak)=some r:=H
 obtain rfl:=Option.some.inj H
 go_enter Try.func7,Try.ntmps7
 go_wp2_with (first|((with_reducible refine gtC (f:=21) rfl ?_);refine clz Try.func21 (some 4) #[.slice A0 l0.length c0] ?_;(with_reducible refine(gS.calls k _ _ l0 Ah Ai Aj w _ ?Ae ?Af ?Al A2.out).mono ?_);(case Ae=>exact bw_16);(case Af=>exact Ax.out);(case Al=>exact Ay.out);rintro e w4 ⟨Am,rfl,hi,hb,hb2⟩;refine⟨_,rfl,?_⟩;replace HB:=Az.mk (hb);have HI437:=Az.mk (hi);(try clear hb);(try clear hb2);(try clear hi))|((with_reducible refine gtC (f:=23) rfl ?_);refine clz Try.func23 (some 5) #[.pointer (some ⟨Am,0,none⟩)] ?_;(with_reducible refine(mC.calls k Am Ah Ai Aj Ak Ap Aq w _ ?Ae ?Af A3.out).mono ?_);(case Ae=>exact(kI HI437.out));(case Af=>exact kG HB.out (IsS63.ge HI437.out));rintro e w5 ⟨Ba,rfl,Av,hi,hb,hk⟩;refine⟨_,rfl,?_⟩;have Ao:=Az.mk (Kd.R_lower Av (bwZ (kG HB.out (IsS63.ge HI437.out))));replace HB:=Az.mk (hb);replace HI437:=Az.mk (hi);(try clear hb);(try clear hk);(try clear hi);(try clear Av)))
 go_ret
 exact⟨_,rq1,kR Ao.out,kG HB.out (IsS63.ge HI437.out)⟩
def gA.f (a0:Int) (a1:Int) (a2:Int):Option (Bool):=if a0 ≥ a1 then(some (decide (a0≤a2))) else(some false)
theorem gA.calls (a0:Int) (a1:Int) (a2:Int) (r:Bool) (w:World) (h:gA.f a0 a1 a2=some r):
  Calls Try.prog 56 #[.int .i64 a0, .int .i64 a1, .int .i64 a2] w fun e w'=>e= .returned (.bool r)∧Drawn0 w w':=by
 have H:(if a0 ≥ a1 then(some (decide (a0≤a2))) else(some false))=some r:=h
 clear h
 by_cases c4:a0 ≥ a1
 ·rw[ip c4]at H
  have Ad:decide (a1≤a0)=true:=ode c4
  clear c4
  obtain rfl:=Option.some.inj H
  go_enter Try.func56,Try.ntmps56
  go_wp2
  go_ret
  exact⟨rq2,kd⟩
 rw[ig c4]at H
 have Ad:decide (a1≤a0)=false:=decide_eq_false c4
 clear c4
 obtain rfl:=Option.some.inj H
 go_enter Try.func56,Try.ntmps56
 go_wp2
 go_ret
 exact⟨rq2,kd⟩
end Go.Proofs.Ytbpnjlemjapnnaa.P

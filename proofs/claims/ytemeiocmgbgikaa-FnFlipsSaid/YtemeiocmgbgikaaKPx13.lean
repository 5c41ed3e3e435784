-- The walks, cut and laid together by this session's tools (prune.py, sq2.py, min.py: shorter names, no needless spaces). Not trusted: Lean checks it.
import Derived.Test.YtemeiocmgbgikaaKWZip
import Derived.Test.YtemeiocmgbgikaaKPx9
namespace Go.Proofs.Ytemeiocmgbgikaa.P
open Go.RowKit Go.Proofs.YtemeiocmgbgikaaW.PrintWords Go.Proofs.YtemeiocmgbgikaaW.PrintLast Go.Proofs.YtemeiocmgbgikaaW.PrintMore
attribute [local go_sem] max2_int min2_int max_two min_two max_three min_three max_four min_four   -- for this text's walks alone
set_option linter.unusedVariables false
set_option linter.unusedSimpArgs false
set_option maxHeartbeats 8000000
set_option maxRecDepth 100000
open Option renaming bind_eq_some_iff → be
theorem ln_13 {P:Prop} (h:P:=by(try simp only[List.map_toArray,List.map_cons,List.map_nil]);first|done|rfl|(simp only[List.length_drop,List.length_take];rfl)):P:=h
mutual
def fQ.l0:Nat→List (List Int)→List Int→Int→List Int→Int→Int→Option ((List (List Int)) × List Int × Int × Int)
 |0,_,_,_,_,_,_=>none
 |k+1,x4,x5,x6,x1000,x1001,x1002=>if x6>0 then((fO.f x1000 x1001 x1002 (x4.length:Int)).bind fun bt268=>((fO.f x1000 bt268.2.1 bt268.2.2 3).bind fun bt271=>((gL.f k x4 bt268.1 bt271.1).bind fun t274=>((fH.f k x5 t274).bind fun bt277=>(fQ.l0 k x4 bt277.1 (wrap64 (x6 - 1)) x1000 bt271.2.1 bt271.2.2))))) else(fQ.l1 k x4 x5 0 x1000 x1001 x1002)
def fQ.l1:Nat→List (List Int)→List Int→Int→List Int→Int→Int→Option ((List (List Int)) × List Int × Int × Int)
 |0,_,_,_,_,_,_=>none
 |k+1,x4,x5,x8,x1000,x1001,x1002=>if x8<12 then((some (([]:List Int):List Int)).bind fun y281=>(if y281.length+x5.length<17592186044416 then((some (y281 ++ x5:List Int)).bind fun y284=>((fO.f x1000 x1001 x1002 (y284.length:Int)).bind fun bt287=>((fO.f x1000 bt287.2.1 bt287.2.2 7).bind fun bt290=>(if 0≤bt287.1 then(if bt287.1<(y284.length:Int) then((fO.f x1000 bt290.2.1 bt290.2.2 (y284.length:Int)).bind fun bt294=>((fO.f x1000 bt294.2.1 bt294.2.2 7).bind fun bt297=>(if 0≤bt294.1 then(if bt294.1<(y284.length:Int) then((some ((y284.set (bt287.1:Int).toNat bt290.1).set (bt294.1:Int).toNat bt297.1:List Int)).bind fun y300=>((fI.f k x4 y300).bind fun t301=>(if t301=true then(fQ.l1 k x4 y300 (wrap64 (x8+1)) x1000 bt297.2.1 bt297.2.2) else(fQ.l1 k x4 x5 (wrap64 (x8+1)) x1000 bt297.2.1 bt297.2.2)))) else(none)) else(none)))) else(none)) else(none))))) else(none))) else((fO.f x1000 x1001 x1002 18).bind fun bt302=>(if bt302.1=0 then((jI.f x1000 bt302.2.1 bt302.2.2 (([(-1),201,1,3]:List Int))).bind fun bt308=>(if 0<(x5.length:Int) then(some (x4,(x5.set (0:Int).toNat bt308.1),bt308.2.1,bt308.2.2)) else(none))) else(if bt302.1=1 then(if 1≤(x5.length:Int) then(some (x4,(x5.drop (1:Int).toNat),bt302.2.1,bt302.2.2)) else(none)) else(if bt302.1=2 then(if 0<(x4.length:Int) then((jI.f x1000 bt302.2.1 bt302.2.2 (([0,2,(-1),9]:List Int))).bind fun bt319=>(if 0<((rd_L1 x4 0).length:Int) then(some ((x4.set (0:Int).toNat ((rd_L1 x4 0).set (0:Int).toNat bt319.1)),x5,bt319.2.1,bt319.2.2)) else(none))) else(none)) else(some (x4,x5,bt302.2.1,bt302.2.2))))))
end
def fQ.f (k:Nat) (s0_0:List Int) (s0_1:Int) (s0_2:Int):Option ((List (List Int)) × List Int × Int × Int):=(jU.f k s0_0 s0_1 s0_2).bind fun bt257=>(if 0≤(wrap64 (Int.tdiv (wrap64 (3*(bt257.1.length:Int))) 2)) then(if(wrap64 (Int.tdiv (wrap64 (3*(bt257.1.length:Int))) 2):Int).toNat≤35184372088832 then((fO.f s0_0 bt257.2.1 bt257.2.2 3).bind fun bt265=>(fQ.l0 k bt257.1 (List.replicate (wrap64 (Int.tdiv (wrap64 (3*(bt257.1.length:Int))) 2):Int).toNat 0) (wrap64 (1+bt265.1)) s0_0 bt265.2.1 bt265.2.2)) else(none)) else(none))
def fQ.T22:Bool × List (List Nat × List Nat):=(true,[([],[]),([0],[0]),([1],[1]),([],[]),([],[]),([3,4],[3,4]),([2,0,1,2,3,4,5],[2]),([6,5,5,0,1,2,3,4,5],[5,6])])
def fQ.B22:List Nat:=[0,1,3,0,0,24,63,127]
theorem fQ.tab22:rtab .any (opsOf Try.f61 22)=fQ.T22:=by kernel_rfl
theorem fQ.bits22:waitsOk fQ.T22.2 fQ.B22=true:=by kernel_rfl
theorem fQ.calls (k:Nat) (g:Nat) (Ac:List Int) (Eu:Int) (Ev:Int) (r1:List (List Int)) (r2:List Int) (r3:Int) (r4:Int) (w0 w:World) (hI:IsS76 w0 w g Ac Eu Ev) (hB:Below w0.heap.size w0 w) (h:fQ.f k Ac Eu Ev=some (r1,r2,r3,r4)):
  Calls Try.prog 61 #[.pointer (some ⟨g,0,none⟩)] w fun e w'=>∃v0_ v1_:Value,e= .returned (.tuple #[v0_,v1_])∧Kd.S (Kd.slice 3 (Kd.int .i64)) 25 w' w.heap.size (fun k_=>some k_≠(v1_:Value).ownBlock) v0_ r1∧Kd.Q (Kd.int .i64) 3 w' w.heap.size (fun _=>True) v1_ r2∧IsS76 w0 w' g Ac r3 r4∧Below w0.heap.size w0 w'∧KeepBut w w' g none:=by
 have HI0:=Az.mk hI
 have HK:=Az.mk (KeepBut.refl w g none)
 have HL:=Az.mk hB.size
 clear hI
 have HW0:=Az.mk hB.size
 have HB:=Az.mk hB
 clear hB
 have H:=h
 unfold fQ.f at H
 clear h
 replace H:=bez H
 obtain⟨⟨Ai,De,Df⟩,A2,H⟩:=H
 try dsimp only at H
 obtain⟨Gz,Cd⟩:∃j_:Int,(wrap64 (Int.tdiv (wrap64 (3*(Ai.length:Int))) 2))=j_:=⟨_,rfl⟩
 first|rw[Cd]at H|simp only[Cd]at H
 (try rw[Cd]at A2)
 have hji3w:(IntKind.i64.wrap (Int.tdiv (wrap64 (3*(Ai.length:Int))) 2))=Gz:=(i64_w _).trans Cd
 by_cases c4:0≤(Gz)
 rotate_left
 ·rw[ig c4]at H
  exact absurd H (by simp)
 rw[ip c4]at H
 have Hb:=ets c4
 have Hc:=ode c4
 clear c4
 by_cases c5:(Gz:Int).toNat≤35184372088832
 rotate_left
 ·rw[ig c5]at H
  exact absurd H (by simp)
 rw[ip c5]at H
 have Hd:=ets c5
 have He:=ode c5
 clear c5
 obtain⟨Hf,hy⟩:∃y_:List Int,y_=(List.replicate (Gz:Int).toNat 0):=⟨_,rfl⟩
 replace H:((fO.f Ac De Df 3).bind fun Dg=>(fQ.l0 k Ai Hf (wrap64 (1+Dg.1)) Ac Dg.2.1 Dg.2.2))=some (r1,r2,r3,r4):=rh
 have Ei:=Az.mk hy
 clear hy
 replace H:=bez H
 obtain⟨⟨Hg,Hh,Hi⟩,A6,H⟩:=H
 try dsimp only at H
 have H':=Az.mk H
 clear H
 go_enter Try.func61,Try.ntmps61
 go_wp2_with (first|((with_reducible refine gtC (f:=71) rfl ?_);refine clz Try.func71 (some 11) #[.pointer (some ⟨g,0,none⟩)] ?_;(with_reducible refine(jU.calls k g Ac Eu Ev Ai De Df w0 _ ?Ae ?Af A2.out).mono ?_);(case Ae=>exact(kI HI0.out));(case Af=>exact kG HB.out (IsS76.ge HI0.out));rintro e w7 ⟨Ln,rfl,Cq,hi,hb,hk⟩;refine⟨_,rfl,?_⟩;have Bx:=Az.mk (Kd.S_lower Cq (keep_size (w:=w) (g:=g) (row:=none) (kK HK.out)));replace HK:=Az.mk (KeepBut.trans (kK HK.out) hk (.inl rfl));replace HB:=Az.mk (hb);replace HI0:=Az.mk (hi);(try clear hb);(try clear hk);(try clear hi);(try clear Cq);obtain⟨Hj,Hk,Lo⟩:=Kd.S_slice Bx.out;subst Lo)|((with_reducible refine gtD (N:=16) rfl ?_);refine Kd.R_make (Kd.int .i64) _ 3 rfl (N:=16) rfl 25 _ _ rfl Gz rfl rfl Try.underlying25 (.int .i64 0) 8 info3 rfl (by decide) (by omega) 0 (ok:=fun _=>True) (okp:=fun _=>True) rfl (fun _ hk=>hk) trivial (od) (Nat.le_trans (Nat.mul_le_mul_right _ (od:Gz.toNat≤35184372088832)) (by omega)) (Below.refl _ _) (Nat.le_refl _) ?_;intro Lp w9 Cr hb hg_ hnew_;clear hg_ hnew_;(first|rw[←Ei.out]at Cr|(simp only[Int.reduceToNat]at Cr;rw[←Ei.out]at Cr));replace Bx:=Az.mk (Kd.S_elder' (kS Bx.out) (Kd.R_base Cr) hb);have Dh:=Az.mk (Kd.R_lower Cr (keep_size (w:=w) (g:=g) (row:=none) (kK HK.out)));replace HK:=Az.mk (KeepBut.trans (kK HK.out) (KeepBut.of_below hb g none) (.inl rfl));replace HB:=Az.mk (bwT (kG HB.out (IsS76.ge HI0.out)) hb);replace HI0:=Az.mk (IsS76.below (kI HI0.out) hb);clear hb Cr)|((with_reducible refine gtC (f:=62) rfl ?_);refine clz Try.func62 (some 18) #[.pointer (some ⟨g,0,none⟩), .int .i64 3] ?_;(with_reducible refine(fO.calls g Ac De Df 3 Hg Hh Hi w0 _ ?Ae ?Af A6.out).mono ?_);(case Ae=>exact(kI HI0.out));(case Af=>exact kG HB.out (IsS76.ge HI0.out));rintro e Mn ⟨rfl,hi,hb,hk⟩;refine⟨_,rfl,?_⟩;replace Bx:=Az.mk (Kd.S_mono (Kd.S_keep (IsS76.apartS (show IsS76 w0 _ g Ac De Df from kI HI0.out) (kS Bx.out) (by decide)) hk (fun _ h=>h.2)) (fun _ h=>h.1));replace Dh:=Az.mk (Kd.R_mono (Kd.R_keep (IsS76.apart (show IsS76 w0 _ g Ac De Df from kI HI0.out) (kR Dh.out) (by decide)) hk (fun _ h=>h.2)) (fun _ h=>h.1));replace HK:=Az.mk (KeepBut.trans (kK HK.out) hk (.inl rfl));replace HB:=Az.mk (hb);replace HI0:=Az.mk (hi);(try clear hb);(try clear hk);(try clear hi)))
 go_loopg [5,6] k (fun kq v5 v6 w'=>∃(Cs:List Int) (Cf:Int) (Au:Int) (Av:Int),v6= .int .i64 Cf∧Az (fQ.l0 kq Ai Cs Cf Ac Au Av=some (r1,r2,r3,r4))∧Az (kq≤k)∧Az (Kd.S (Kd.slice 3 (Kd.int .i64)) 25 w' w.heap.size (fun k_=>some k_≠(v5:Value).ownBlock) (.slice Hj Ai.length Hk) Ai)∧Az (Kd.Q (Kd.int .i64) 3 w' w.heap.size (fun _=>True) v5 Cs)∧Az (IsS76 w0 w' g Ac Au Av)∧Az (KeepBut w w' g none)∧Az (Below w0.heap.size w0 w'))
 case atStart=>exact⟨(Hf),(wrap64 (1+Hg)),(Hh),(Hi),rq2,H',⟨Nat.le_refl _⟩,⟨by(with_reducible repeat(first|apply Kd.S_alloc|apply Kd.S_drewN|apply Kd.S_drew));exact Kd.S_mono Bx.out (fun _ hk=>hk.2)⟩,⟨Kd.Q_of_R (kR Dh.out)⟩,⟨kI HI0.out⟩,⟨kK HK.out⟩,⟨kG HB.out (IsS76.ge HI0.out)⟩⟩
 clear H'
 try clear c4
 try clear Hb
 try clear Hc
 try clear c5
 try clear Hd
 try clear He
 obtain⟨Cs,Cf,Au,Av,rfl,HA,HK1,Ab,Aa,HI0,HK,HB⟩:=hrel
 cases gk with
 |zero=>exact absurd HA.out (by simp[fQ.l0])
 |succ k1=>
  have H:=HA.out
  clear HA
  simp only[fQ.l0]at H
  by_cases Ew:Cf>0
  ·rw[ip Ew]at H
   have Ej:decide (0<Cf)=true:=ode Ew
   clear Ew
   replace H:=bez H
   obtain⟨⟨Ex,Dw,Dx⟩,Lq,H⟩:=H
   try dsimp only at H
   replace H:=bez H
   obtain⟨⟨Ey,Hl,Hm⟩,Lr,H⟩:=H
   try dsimp only at H
   replace H:=bez H
   obtain⟨Ez,Ls,H⟩:=H
   try dsimp only at H
   replace H:=bez H
   obtain⟨⟨Hn,Jb⟩,Lt,H⟩:=H
   try dsimp only at H
   have H':=Az.mk H
   clear H
   go_wp2_with (first|((with_reducible refine gtC (f:=62) rfl ?_);refine clz Try.func62 (some 28) #[.pointer (some ⟨g,0,none⟩), .int .i64 (Ai.length:Int)] ?_;(with_reducible refine(fO.calls g Ac Au Av (Ai.length:Int) Ex Dw Dx w0 _ ?Ae ?Af Lq.out).mono ?_);(case Ae=>exact(kI HI0.out));(case Af=>exact kG HB.out (IsS76.ge HI0.out));rintro e Mo ⟨rfl,hi,hb,hk⟩;refine⟨_,rfl,?_⟩;replace Ab:=Az.mk (Kd.S_mono (Kd.S_keep (IsS76.apartS (show IsS76 w0 _ g Ac Au Av from kI HI0.out) (kS Ab.out) (by decide)) hk (fun _ h=>h.2)) (fun _ h=>h.1));replace Aa:=Az.mk (Kd.Q_mono (Kd.Q_keep (IsS76.apartQ (show IsS76 w0 _ g Ac Au Av from kI HI0.out) (kQ Aa.out) (by decide)) hk (fun _ h=>h.2)) (fun _ h=>h.1));replace HK:=Az.mk (KeepBut.trans (kK HK.out) hk (.inl rfl));replace HB:=Az.mk (hb);replace HI0:=Az.mk (hi);(try clear hb);(try clear hk);(try clear hi))|((with_reducible refine gtC (f:=62) rfl ?_);refine clz Try.func62 (some 30) #[.pointer (some ⟨g,0,none⟩), .int .i64 3] ?_;(with_reducible refine(fO.calls g Ac Dw Dx 3 Ey Hl Hm w0 _ ?Ae ?Af Lr.out).mono ?_);(case Ae=>exact(kI HI0.out));(case Af=>exact kG HB.out (IsS76.ge HI0.out));rintro e Mp ⟨rfl,hi,hb,hk⟩;refine⟨_,rfl,?_⟩;replace Ab:=Az.mk (Kd.S_mono (Kd.S_keep (IsS76.apartS (show IsS76 w0 _ g Ac Dw Dx from kI HI0.out) (kS Ab.out) (by decide)) hk (fun _ h=>h.2)) (fun _ h=>h.1));replace Aa:=Az.mk (Kd.Q_mono (Kd.Q_keep (IsS76.apartQ (show IsS76 w0 _ g Ac Dw Dx from kI HI0.out) (kQ Aa.out) (by decide)) hk (fun _ h=>h.2)) (fun _ h=>h.1));replace HK:=Az.mk (KeepBut.trans (kK HK.out) hk (.inl rfl));replace HB:=Az.mk (hb);replace HI0:=Az.mk (hi);(try clear hb);(try clear hk);(try clear hi))|((with_reducible refine gtC (f:=59) rfl ?_);refine clz Try.func59 (some 31) #[.slice Hj Ai.length Hk, .int .i64 Ex, .int .i64 Ey] ?_;(with_reducible refine(gL.calls k1 _ _ Ai Ex Ey Ez _ ?Ae ?Af Ls.out).mono ?_);(case Ae=>exact kC (Kd.S_reads' Ab.out).2.2);(case Af=>exact(Kd.S_reads' Ab.out).2.1);rintro e Mq ⟨Lu,rfl,Cq,hb⟩;refine⟨_,rfl,?_⟩;replace Ab:=Az.mk (Kd.S_elder' (kS Ab.out) (Kd.R_base Cq) hb);have By:=Az.mk (Kd.R_lower (Kd.R_new' Cq (Kd.Q_lt (kQ Aa.out))) (keep_size (w:=w) (g:=g) (row:=none) (kK HK.out)));replace Aa:=Az.mk (Kd.Q_elder' (kQ Aa.out) (Kd.R_base Cq) hb);replace HK:=Az.mk (KeepBut.trans (kK HK.out) (KeepBut.of_below hb g none) (.inl rfl));replace HB:=Az.mk (bwT (kG HB.out (IsS76.ge HI0.out)) hb);replace HI0:=Az.mk (IsS76.below (kI HI0.out) hb);(try clear hb);(try clear Cq);obtain⟨Jc,Jd,Je,_⟩:=Kd.Q_slice Aa.out;subst Je;obtain⟨Jf,Jg,Jh⟩:=Kd.R_slice By.out;subst Jh)|((with_reducible refine gtC (f:=72) rfl ?_);refine clz Try.func72 (some 35) #[.slice Jc Cs.length Jd, .slice Jf Ez.length Jg] ?_;(with_reducible refine(fH.calls k1 _ _ Cs _ _ Ez Hn Jb _ ?Ae ?Af ?Bh ?Bi Lt.out).mono ?_);(case Ae=>exact kC (Kd.Q_reads' Aa.out).2.2);(case Af=>exact(Kd.Q_reads' Aa.out).2.1);(case Bh=>exact kC (Kd.R_reads' By.out).2.2);(case Bi=>exact(Kd.R_reads' By.out).2.1);rintro e Mr ⟨Lv,rfl,Cq,hb⟩;refine⟨_,rfl,?_⟩;replace Ab:=Az.mk (Kd.S_elder' (kS Ab.out) (Kd.R_base Cq) hb);have Ho:=Az.mk (Kd.R_lower (Kd.R_new' (Kd.R_new' Cq (Kd.Q_lt (kQ Aa.out))) (Kd.R_lt (kR By.out))) (keep_size (w:=w) (g:=g) (row:=none) (kK HK.out)));replace Aa:=Az.mk (Kd.Q_elder' (kQ Aa.out) (Kd.R_base Cq) hb);replace By:=Az.mk (Kd.R_elder' (kR By.out) (Kd.R_base Cq) hb);replace HK:=Az.mk (KeepBut.trans (kK HK.out) (KeepBut.of_below hb g none) (.inl rfl));replace HB:=Az.mk (bwT (kG HB.out (IsS76.ge HI0.out)) hb);replace HI0:=Az.mk (IsS76.below (kI HI0.out) hb);(try clear hb);(try clear Cq)))
   go_roundg k1
   case measure=>have:=HK1.out;omega
   case rel=>exact⟨(Hn),(wrap64 (Cf - 1)),(Hl),(Hm),rq2,H',⟨by have:=HK1.out;omega⟩,⟨by(with_reducible repeat(first|apply Kd.S_alloc|apply Kd.S_drewN|apply Kd.S_drew));exact Kd.S_mono Ab.out (fun _ hk=>hk.2)⟩,⟨Kd.Q_of_R (by(with_reducible repeat(first|apply Kd.R_alloc|apply Kd.R_drewN|apply Kd.R_drew));exact Kd.R_mono Ho.out (fun _ hk=>trivial))⟩,⟨kI HI0.out⟩,⟨kK HK.out⟩,⟨kG HB.out (IsS76.ge HI0.out)⟩⟩
  rw[ig Ew]at H
  have Ej:decide (0<Cf)=false:=decide_eq_false Ew
  clear Ew
  have H':=Az.mk H
  clear H
  go_wp2
  go_loopg [5,8] k1 (fun kq v5 v8 w'=>∃(Ak:List Int) (Bj:Int) (Ag:Int) (Ah:Int),v8= .int .i64 Bj∧Az (fQ.l1 kq Ai Ak Bj Ac Ag Ah=some (r1,r2,r3,r4))∧Az (kq≤k1)∧Az (Kd.S (Kd.slice 3 (Kd.int .i64)) 25 w' w.heap.size (fun k_=>some k_≠(v5:Value).ownBlock) (.slice Hj Ai.length Hk) Ai)∧Az (Kd.Q (Kd.int .i64) 3 w' w.heap.size (fun _=>True) v5 Ak)∧Az (IsS76 w0 w' g Ac Ag Ah)∧Az (KeepBut w w' g none)∧Az (Below w0.heap.size w0 w'))
  case atStart=>exact⟨(Cs),(0),(Au),(Av),rq2,H',⟨Nat.le_refl _⟩,⟨kS Ab.out⟩,⟨kQ Aa.out⟩,⟨kI HI0.out⟩,⟨kK HK.out⟩,⟨kG HB.out (IsS76.ge HI0.out)⟩⟩
  clear H'
  try clear c4
  try clear Hb
  try clear Hc
  try clear c5
  try clear Hd
  try clear He
  try clear Ew
  try clear Ej
  obtain⟨Ak,Bj,Ag,Ah,rfl,HA,HK2,Ab,Aa,HI0,HK,HB⟩:=hrel
  cases gk with
  |zero=>exact absurd HA.out (by simp[fQ.l1])
  |succ k2=>
   have H:=HA.out
   clear HA
   simp only[fQ.l1]at H
   by_cases Ha:Bj<12
   ·rw[ip Ha]at H
    have Hp:=ode Ha
    clear Ha
    obtain⟨Ct,hy⟩:∃y_:List Int,y_=(([]:List Int)):=⟨_,rfl⟩
    replace H:(if Ct.length+Ak.length<17592186044416 then((some (Ct ++ Ak:List Int)).bind fun Aj=>((fO.f Ac Ag Ah (Aj.length:Int)).bind fun Ax=>((fO.f Ac Ax.2.1 Ax.2.2 7).bind fun Bo=>(if 0≤Ax.1 then(if Ax.1<(Aj.length:Int) then((fO.f Ac Bo.2.1 Bo.2.2 (Aj.length:Int)).bind fun Ap=>((fO.f Ac Ap.2.1 Ap.2.2 7).bind fun Aq=>(if 0≤Ap.1 then(if Ap.1<(Aj.length:Int) then((some ((Aj.set (Ax.1:Int).toNat Bo.1).set (Ap.1:Int).toNat Aq.1:List Int)).bind fun As=>((fI.f k2 Ai As).bind fun Ca=>(if Ca=true then(fQ.l1 k2 Ai As (wrap64 (Bj+1)) Ac Aq.2.1 Aq.2.2) else(fQ.l1 k2 Ai Ak (wrap64 (Bj+1)) Ac Aq.2.1 Aq.2.2)))) else(none)) else(none)))) else(none)) else(none))))) else(none))=some (r1,r2,r3,r4):=rh
    have Cn:=Az.mk hy
    clear hy
    by_cases Io:Ct.length+Ak.length<17592186044416
    rotate_left
    ·rw[ig Io]at H
     exact absurd H (by simp)
    rw[ip Io]at H
    have LMc24:=Az.mk Io
    clear Io
    obtain⟨Aj,hy⟩:∃y_:List Int,y_=(Ct ++ Ak):=⟨_,rfl⟩
    replace H:((fO.f Ac Ag Ah (Aj.length:Int)).bind fun Ax=>((fO.f Ac Ax.2.1 Ax.2.2 7).bind fun Bo=>(if 0≤Ax.1 then(if Ax.1<(Aj.length:Int) then((fO.f Ac Bo.2.1 Bo.2.2 (Aj.length:Int)).bind fun Ap=>((fO.f Ac Ap.2.1 Ap.2.2 7).bind fun Aq=>(if 0≤Ap.1 then(if Ap.1<(Aj.length:Int) then((some ((Aj.set (Ax.1:Int).toNat Bo.1).set (Ap.1:Int).toNat Aq.1:List Int)).bind fun As=>((fI.f k2 Ai As).bind fun Ca=>(if Ca=true then(fQ.l1 k2 Ai As (wrap64 (Bj+1)) Ac Aq.2.1 Aq.2.2) else(fQ.l1 k2 Ai Ak (wrap64 (Bj+1)) Ac Aq.2.1 Aq.2.2)))) else(none)) else(none)))) else(none)) else(none))))=some (r1,r2,r3,r4):=rh
    have Ek:=Az.mk hy
    clear hy
    replace H:=bez H
    obtain⟨⟨Ay,Bt,Bu⟩,Ko,H⟩:=H
    try dsimp only at H
    replace H:=bez H
    obtain⟨⟨Cg,Bp,Bq⟩,Kp,H⟩:=H
    try dsimp only at H
    by_cases Ip:0≤Ay
    rotate_left
    ·rw[ig Ip]at H
     exact absurd H (by simp)
    rw[ip Ip]at H
    have Kq:=ode Ip
    clear Ip
    by_cases Iq:Ay<(Aj.length:Int)
    rotate_left
    ·rw[ig Iq]at H
     exact absurd H (by simp)
    rw[ip Iq]at H
    have Kr:=ode Iq
    clear Iq
    obtain⟨Dy,hy⟩:∃y_:List Int,y_=(Aj.set (Ay:Int).toNat Cg):=⟨_,rfl⟩
    replace H:((fO.f Ac Bp Bq (Aj.length:Int)).bind fun Ap=>((fO.f Ac Ap.2.1 Ap.2.2 7).bind fun Aq=>(if 0≤Ap.1 then(if Ap.1<(Aj.length:Int) then((some (Dy.set (Ap.1:Int).toNat Aq.1:List Int)).bind fun As=>((fI.f k2 Ai As).bind fun Ca=>(if Ca=true then(fQ.l1 k2 Ai As (wrap64 (Bj+1)) Ac Aq.2.1 Aq.2.2) else(fQ.l1 k2 Ai Ak (wrap64 (Bj+1)) Ac Aq.2.1 Aq.2.2)))) else(none)) else(none))))=some (r1,r2,r3,r4):=rh
    have El:=Az.mk hy
    clear hy
    replace H:=bez H
    obtain⟨⟨Ba,Bv,Bw⟩,Ks,H⟩:=H
    try dsimp only at H
    replace H:=bez H
    obtain⟨⟨Ch,Cu,Cv⟩,Ku,H⟩:=H
    try dsimp only at H
    by_cases Ir:0≤Ba
    rotate_left
    ·rw[ig Ir]at H
     exact absurd H (by simp)
    rw[ip Ir]at H
    have Kv:=ode Ir
    clear Ir
    by_cases It:Ba<(Aj.length:Int)
    rotate_left
    ·rw[ig It]at H
     exact absurd H (by simp)
    rw[ip It]at H
    have Kw:=ode It
    clear It
    obtain⟨As,hy⟩:∃y_:List Int,y_=(Dy.set (Ba:Int).toNat Ch):=⟨_,rfl⟩
    replace H:((fI.f k2 Ai As).bind fun Ca=>(if Ca=true then(fQ.l1 k2 Ai As (wrap64 (Bj+1)) Ac Cu Cv) else(fQ.l1 k2 Ai Ak (wrap64 (Bj+1)) Ac Cu Cv)))=some (r1,r2,r3,r4):=rh
    have Em:=Az.mk hy
    clear hy
    replace H:=bez H
    obtain⟨Ca,Kx,H⟩:=H
    try dsimp only at H
    by_cases Iu:Ca=true
    ·subst Iu
     rw[ip rfl]at H
     have H':=Az.mk H
     clear H
     go_wp2_with (first|((with_reducible refine gtD (N:=42) rfl ?_);refine Kd.R_lit (Kd.int .i64) _ 3 ?hg (N:=42) ?hd (xs:=([]:List Int)) (inner:=[]) (ok:=fun _=>True) (okp:=fun _=>True) ?hr ?hp (fun _ hk=>hk) trivial (Below.refl _ _) (Nat.le_refl _) (by simp) ?_;(case hd=>rfl);(case hg=>rfl);(case hr=>first|(go_simp;done)|(go_simp;rfl));(case hp=>exact(Reps.none _ _));intro Ga Ms Ci hb hg_ hnew_;clear hg_ hnew_;(first|rw[←Cn.out]at Ci|(simp only[Int.reduceToNat]at Ci;rw[←Cn.out]at Ci));replace Ab:=Az.mk (Kd.S_elder' (kS Ab.out) (Kd.R_base Ci) hb);have Bk:=Az.mk (Kd.R_lower (Kd.R_new' Ci (Kd.Q_lt (kQ Aa.out))) (keep_size (w:=w) (g:=g) (row:=none) (kK HK.out)));replace Aa:=Az.mk (Kd.Q_elder' (kQ Aa.out) (Kd.R_base Ci) hb);replace HK:=Az.mk (KeepBut.trans (kK HK.out) (KeepBut.of_below hb g none) (.inl rfl));replace HB:=Az.mk (bwT (kG HB.out (IsS76.ge HI0.out)) hb);replace HI0:=Az.mk (IsS76.below (kI HI0.out) hb);clear hb Ci;obtain⟨Cw,Cy,Ji,_⟩:=Kd.Q_slice Aa.out;subst Ji)|((with_reducible refine gate_builtin (b:= .append) (xs:= #[.tmp 42, .tmp 43]) rfl ?_);at_builtin;refine Kd.R_append_rows (Kd.int .i64) w.heap.size rfl (.tmp 42) (.tmp 43) 25 3 (.int .i64 0) 8 rfl Try.underlying25 info3 rfl (by decide) (by omega) Ga Ct Ak _ _ _ (fun k_=>some k_≠(.slice Cw Ak.length Cy:Value).ownBlock) (fun _=>False) rfl rfl ?aO ?aR (fun _ _ h=>h) (fun _ h=>h.elim) ?aF (Below.refl _ _) ?aS ?aL ?_;(case aR=>exact kC (Kd.Q_reads' Aa.out).2.2);(case aF=>exact(fun k_ hk=>Kd.fresh' (Kd.Q_lt (kQ Aa.out)) k_ hk));(case aO=>exact(by(with_reducible repeat(first|apply Kd.R_alloc|apply Kd.R_drewN|apply Kd.R_drew));exact Kd.R_mono Bk.out (fun _ hk=>hk.2)));(case aS=>exact(keep_size (w:=w) (g:=g) (row:=none) (kK HK.out)));(case aL=>have:=LMc24.out;omega);intro Jj Mt ho hb hg hat;rw[←Ek.out]at ho;have n0_:=Az.mk (Kd.S_after (ok:=(fun k_=>some k_≠(.slice Cw Ak.length Cy:Value).ownBlock)) (kS Ab.out) hg hat);have n1_:=Az.mk (Kd.Q_after (ok:=(fun _=>True)) (kQ Aa.out) hg hat);have n2_:=Az.mk (IsS76.grown (kI HI0.out) hg (IsS76.own_ne HI0.out Bk.out (by decide)));have n3_:=Az.mk (below_weaken (kG HB.out (IsS76.ge HI0.out)) HL.out hb);have n4_:=Az.mk (KeepBut.trans (kK HK.out) (KeepBut.of_grown hg g) (Kd.R_base2 Bk.out));have n5_:=Az.mk (ho);clear Ab;clear Aa;clear HI0;clear HB;clear HK;clear Bk;have Ab:=n0_;have Aa:=n1_;have HI0:=n2_;have HB:=n3_;have HK:=n4_;have Ad:=n5_;clear n0_ n1_ n2_ n3_ n4_ n5_;clear ho hb hg hat;obtain⟨Lw,Br,Jk⟩:=Kd.R_slice Ad.out;subst Jk)|((with_reducible refine gtC (f:=62) rfl ?_);refine clz Try.func62 (some 49) #[.pointer (some ⟨g,0,none⟩), .int .i64 (Aj.length:Int)] ?_;(with_reducible refine(fO.calls g Ac Ag Ah (Aj.length:Int) Ay Bt Bu w0 _ ?Ae ?Af Ko.out).mono ?_);(case Ae=>exact(kI HI0.out));(case Af=>exact kG HB.out (IsS76.ge HI0.out));rintro e Mu ⟨rfl,hi,hb,hk⟩;refine⟨_,rfl,?_⟩;replace Ab:=Az.mk (Kd.S_mono (Kd.S_keep (IsS76.apartS (show IsS76 w0 _ g Ac Ag Ah from kI HI0.out) (kS Ab.out) (by decide)) hk (fun _ h=>h.2)) (fun _ h=>h.1));replace Aa:=Az.mk (Kd.Q_mono (Kd.Q_keep (IsS76.apartQ (show IsS76 w0 _ g Ac Ag Ah from kI HI0.out) (kQ Aa.out) (by decide)) hk (fun _ h=>h.2)) (fun _ h=>h.1));replace Ad:=Az.mk (Kd.R_mono (Kd.R_keep (IsS76.apart (show IsS76 w0 _ g Ac Ag Ah from kI HI0.out) (kR Ad.out) (by decide)) hk (fun _ h=>h.2)) (fun _ h=>h.1));replace HK:=Az.mk (KeepBut.trans (kK HK.out) hk (.inl rfl));replace HB:=Az.mk (hb);replace HI0:=Az.mk (hi);(try clear hb);(try clear hk);(try clear hi))|((with_reducible refine gtC (f:=62) rfl ?_);refine clz Try.func62 (some 51) #[.pointer (some ⟨g,0,none⟩), .int .i64 7] ?_;(with_reducible refine(fO.calls g Ac Bt Bu 7 Cg Bp Bq w0 _ ?Ae ?Af Kp.out).mono ?_);(case Ae=>exact(kI HI0.out));(case Af=>exact kG HB.out (IsS76.ge HI0.out));rintro e Ky ⟨rfl,hi,hb,hk⟩;refine⟨_,rfl,?_⟩;replace Ab:=Az.mk (Kd.S_mono (Kd.S_keep (IsS76.apartS (show IsS76 w0 _ g Ac Bt Bu from kI HI0.out) (kS Ab.out) (by decide)) hk (fun _ h=>h.2)) (fun _ h=>h.1));replace Aa:=Az.mk (Kd.Q_mono (Kd.Q_keep (IsS76.apartQ (show IsS76 w0 _ g Ac Bt Bu from kI HI0.out) (kQ Aa.out) (by decide)) hk (fun _ h=>h.2)) (fun _ h=>h.1));replace Ad:=Az.mk (Kd.R_mono (Kd.R_keep (IsS76.apart (show IsS76 w0 _ g Ac Bt Bu from kI HI0.out) (kR Ad.out) (by decide)) hk (fun _ h=>h.2)) (fun _ h=>h.1));replace HK:=Az.mk (KeepBut.trans (kK HK.out) hk (.inl rfl));replace HB:=Az.mk (hb);replace HI0:=Az.mk (hi);(try clear hb);(try clear hk);(try clear hi);have Gb:0≤(Ay:Int):=od;have Gc:(Ay:Int)<((Aj.length:Int):Int):=od;obtain⟨Al,Jl,Di,Dj,gl29,Jm,HG29⟩:=Kd.R_form Ad.out (by omega);(first|cases Di|(injection Di with ea_ en_ ec_;(first|subst ea_|(injection ea_ with ea_;subst ea_));subst ec_;clear en_));have Dk:=Az.mk Dj;have Jn:=Az.mk HG29;clear Dj gl29 HG29;obtain⟨Gd,Ge⟩:=Kd.R_celln 0 Ad.out (Ay:Int) Gb Gc;replace Gb:=ets Gb;replace Gc:=ets Gc;obtain⟨hy44_,hz44_⟩:=Kd.R_celln 0 Ad.out (Ay:Int) (od) (od);have Gf:=Kd.R_putg Ad.out (Ay:Int) Cg)|((with_reducible refine gate_store (t:=3) (p:=52) rfl ?_);refine store_event (t:=3) (p:=52) (v:=?vo_w45) (w1:=(Ky.setCell ⟨Al,(Ay:Int).toNat,none⟩ (.int .i64 Cg))) ?hg ?ho ?hn ?hr ?_;(case ho=>rfl);(case hg=>rfl);(case hn=>rfl);(case hr=>first|(go_simp;done)|(go_simp;rfl));intro Jo hw;have hg:Ky.grownBy Jo (some Al):=(by rw[hw];exact Gf.2);have hp_:Kd.R (Kd.int .i64) 3 Jo w.heap.size (fun k_=>some k_≠(.slice Cw Ak.length Cy:Value).ownBlock) (.slice (some ⟨Al,0,none⟩) Aj.length Br) Dy:=(by rw[hw,El.out];exact Gf.1);clear Gf;replace Ab:=Az.mk (Kd.S_after (v:=(.slice (some ⟨Al,0,none⟩) Aj.length Br)) (v1:=(.slice (some ⟨Al,0,none⟩) Aj.length Br)) (ok:=(fun k_=>some k_≠(.slice Cw Ak.length Cy:Value).ownBlock)) (kS Ab.out) hg (.inl rfl));replace Aa:=Az.mk (Kd.Q_after (v:=(.slice (some ⟨Al,0,none⟩) Aj.length Br)) (v1:=(.slice (some ⟨Al,0,none⟩) Aj.length Br)) (ok:=(fun _=>True)) (kQ Aa.out) hg (.inl rfl));replace HI0:=Az.mk (IsS76.grown (kI HI0.out) hg (IsS76.own_ne HI0.out Ad.out (by decide)));replace HB:=Az.mk ((by rw[hw];exact bwS (HB.out) (Nat.le_trans HL.out Dk.out):Below w0.heap.size w0 Jo));replace HK:=Az.mk (KeepBut.trans (kK HK.out) (KeepBut.of_grown hg g) (Kd.R_base2 Ad.out));replace Ad:=Az.mk (hp_);clear hg hw hp_)|((with_reducible refine gtC (f:=62) rfl ?_);refine clz Try.func62 (some 57) #[.pointer (some ⟨g,0,none⟩), .int .i64 (Aj.length:Int)] ?_;(with_reducible refine(fO.calls g Ac Bp Bq (Aj.length:Int) Ba Bv Bw w0 _ ?Ae ?Af Ks.out).mono ?_);(case Ae=>exact(kI HI0.out));(case Af=>exact kG HB.out (IsS76.ge HI0.out));rintro e Mv ⟨rfl,hi,hb,hk⟩;refine⟨_,rfl,?_⟩;replace Ab:=Az.mk (Kd.S_mono (Kd.S_keep (IsS76.apartS (show IsS76 w0 _ g Ac Bp Bq from kI HI0.out) (kS Ab.out) (by decide)) hk (fun _ h=>h.2)) (fun _ h=>h.1));replace Aa:=Az.mk (Kd.Q_mono (Kd.Q_keep (IsS76.apartQ (show IsS76 w0 _ g Ac Bp Bq from kI HI0.out) (kQ Aa.out) (by decide)) hk (fun _ h=>h.2)) (fun _ h=>h.1));replace Ad:=Az.mk (Kd.R_mono (Kd.R_keep (IsS76.apart (show IsS76 w0 _ g Ac Bp Bq from kI HI0.out) (kR Ad.out) (by decide)) hk (fun _ h=>h.2)) (fun _ h=>h.1));replace HK:=Az.mk (KeepBut.trans (kK HK.out) hk (.inl rfl));replace HB:=Az.mk (hb);replace HI0:=Az.mk (hi);(try clear hb);(try clear hk);(try clear hi))|((with_reducible refine gtC (f:=62) rfl ?_);refine clz Try.func62 (some 59) #[.pointer (some ⟨g,0,none⟩), .int .i64 7] ?_;(with_reducible refine(fO.calls g Ac Bv Bw 7 Ch Cu Cv w0 _ ?Ae ?Af Ku.out).mono ?_);(case Ae=>exact(kI HI0.out));(case Af=>exact kG HB.out (IsS76.ge HI0.out));rintro e Kz ⟨rfl,hi,hb,hk⟩;refine⟨_,rfl,?_⟩;replace Ab:=Az.mk (Kd.S_mono (Kd.S_keep (IsS76.apartS (show IsS76 w0 _ g Ac Bv Bw from kI HI0.out) (kS Ab.out) (by decide)) hk (fun _ h=>h.2)) (fun _ h=>h.1));replace Aa:=Az.mk (Kd.Q_mono (Kd.Q_keep (IsS76.apartQ (show IsS76 w0 _ g Ac Bv Bw from kI HI0.out) (kQ Aa.out) (by decide)) hk (fun _ h=>h.2)) (fun _ h=>h.1));replace Ad:=Az.mk (Kd.R_mono (Kd.R_keep (IsS76.apart (show IsS76 w0 _ g Ac Bv Bw from kI HI0.out) (kR Ad.out) (by decide)) hk (fun _ h=>h.2)) (fun _ h=>h.1));replace HK:=Az.mk (KeepBut.trans (kK HK.out) hk (.inl rfl));replace HB:=Az.mk (hb);replace HI0:=Az.mk (hi);(try clear hb);(try clear hk);(try clear hi);have Gg:0≤(Ba:Int):=od;have Gh:(Ba:Int)<((Aj.length:Int):Int):=od;obtain⟨Gi,Gj⟩:=Kd.R_celln 0 Ad.out (Ba:Int) Gg Gh;replace Gg:=ets Gg;replace Gh:=ets Gh;obtain⟨hy48_,hz48_⟩:=Kd.R_celln 0 Ad.out (Ba:Int) (od) (od);have Gk:=Kd.R_putg Ad.out (Ba:Int) Ch)|((with_reducible refine gate_store (t:=3) (p:=60) rfl ?_);refine store_event (t:=3) (p:=60) (v:=?vo_w49) (w1:=(Kz.setCell ⟨Al,(Ba:Int).toNat,none⟩ (.int .i64 Ch))) ?hg ?ho ?hn ?hr ?_;(case ho=>rfl);(case hg=>rfl);(case hn=>rfl);(case hr=>first|(go_simp;done)|(go_simp;rfl));intro Jp hw;have hg:Kz.grownBy Jp (some Al):=(by rw[hw];exact Gk.2);have hp_:Kd.R (Kd.int .i64) 3 Jp w.heap.size (fun k_=>some k_≠(.slice Cw Ak.length Cy:Value).ownBlock) (.slice (some ⟨Al,0,none⟩) Aj.length Br) As:=(by rw[hw,Em.out];exact Gk.1);clear Gk;replace Ab:=Az.mk (Kd.S_after (v:=(.slice (some ⟨Al,0,none⟩) Aj.length Br)) (v1:=(.slice (some ⟨Al,0,none⟩) Aj.length Br)) (ok:=(fun k_=>some k_≠(.slice Cw Ak.length Cy:Value).ownBlock)) (kS Ab.out) hg (.inl rfl));replace Aa:=Az.mk (Kd.Q_after (v:=(.slice (some ⟨Al,0,none⟩) Aj.length Br)) (v1:=(.slice (some ⟨Al,0,none⟩) Aj.length Br)) (ok:=(fun _=>True)) (kQ Aa.out) hg (.inl rfl));replace HI0:=Az.mk (IsS76.grown (kI HI0.out) hg (IsS76.own_ne HI0.out Ad.out (by decide)));replace HB:=Az.mk ((by rw[hw];exact bwS (HB.out) (Nat.le_trans HL.out Dk.out):Below w0.heap.size w0 Jp));replace HK:=Az.mk (KeepBut.trans (kK HK.out) (KeepBut.of_grown hg g) (Kd.R_base2 Ad.out));replace Ad:=Az.mk (hp_);clear hg hw hp_)|((with_reducible refine gtC (f:=29) rfl ?_);refine goesL_ (some 63) rfl rfl Try.func29 (by kernel_rfl) rfl #[.slice Hj Ai.length Hk, .slice (some ⟨Al,0,none⟩) As.length Br] rfl (by(try simp only[List.map_toArray,List.map_cons,List.map_nil]);first|done|(rw[show As.length=Aj.length from(Kd.R_reads' Ad.out).1.symm] <;> rfl)|rfl|(simp only[List.length_drop,List.length_take];rfl)) ?_;(with_reducible refine(fI.calls k2 _ _ Ai _ _ As true _ ?Ae ?Af ?Bh ?Bi Kx.out).mono ?_);(case Ae=>exact kC (Kd.S_reads' Ab.out).2.2);(case Af=>exact(Kd.S_reads' Ab.out).2.1);(case Bh=>exact kC (Kd.R_reads' Ad.out).2.2);(case Bi=>rw[show As.length=Aj.length from(Kd.R_reads' Ad.out).1.symm];exact(Kd.R_reads' Ad.out).2.1);rintro e Mw ⟨rfl,hb⟩;refine⟨_,rfl,?_⟩;replace Ab:=Az.mk (Kd.S_below (kS Ab.out) hb);replace Aa:=Az.mk (Kd.Q_below (kQ Aa.out) hb);replace Ad:=Az.mk (Kd.R_below (kR Ad.out) hb);replace HK:=Az.mk (KeepBut.trans (kK HK.out) (KeepBut.of_below hb g none) (.inl rfl));replace HB:=Az.mk (bwT (kG HB.out (IsS76.ge HI0.out)) hb);replace HI0:=Az.mk (IsS76.below (kI HI0.out) hb);(try clear hb)))
     go_roundg k2
     case measure=>have:=HK1.out;have:=HK2.out;omega
     case rel=>exact⟨(As),(wrap64 (Bj+1)),(Cu),(Cv),rq2,H',⟨by have:=HK1.out;have:=HK2.out;omega⟩,⟨by(with_reducible repeat(first|apply Kd.S_alloc|apply Kd.S_drewN|apply Kd.S_drew));exact Kd.S_mono Ab.out (fun _ hk=>hk.2)⟩,⟨Kd.Q_of_R (by(with_reducible repeat(first|apply Kd.R_alloc|apply Kd.R_drewN|apply Kd.R_drew));exact Kd.R_mono Ad.out (fun _ hk=>trivial))⟩,⟨kI HI0.out⟩,⟨kK HK.out⟩,⟨kG HB.out (IsS76.ge HI0.out)⟩⟩
    replace Iu:=Bool.eq_false_iff.mpr Iu
    subst Iu
    rw[ig ff]at H
    have H':=Az.mk H
    clear H
    go_wp2_with (first|((with_reducible refine gtD (N:=42) rfl ?_);refine Kd.R_lit (Kd.int .i64) _ 3 ?hg (N:=42) ?hd (xs:=([]:List Int)) (inner:=[]) (ok:=fun _=>True) (okp:=fun _=>True) ?hr ?hp (fun _ hk=>hk) trivial (Below.refl _ _) (Nat.le_refl _) (by simp) ?_;(case hd=>rfl);(case hg=>rfl);(case hr=>first|(go_simp;done)|(go_simp;rfl));(case hp=>exact(Reps.none _ _));intro Ga Mx Cj hb hg_ hnew_;clear hg_ hnew_;(first|rw[←Cn.out]at Cj|(simp only[Int.reduceToNat]at Cj;rw[←Cn.out]at Cj));replace Ab:=Az.mk (Kd.S_elder' (kS Ab.out) (Kd.R_base Cj) hb);have Bk:=Az.mk (Kd.R_lower (Kd.R_new' Cj (Kd.Q_lt (kQ Aa.out))) (keep_size (w:=w) (g:=g) (row:=none) (kK HK.out)));replace Aa:=Az.mk (Kd.Q_elder' (kQ Aa.out) (Kd.R_base Cj) hb);replace HK:=Az.mk (KeepBut.trans (kK HK.out) (KeepBut.of_below hb g none) (.inl rfl));replace HB:=Az.mk (bwT (kG HB.out (IsS76.ge HI0.out)) hb);replace HI0:=Az.mk (IsS76.below (kI HI0.out) hb);clear hb Cj;obtain⟨Cz,Da,Jq,_⟩:=Kd.Q_slice Aa.out;subst Jq)|((with_reducible refine gate_builtin (b:= .append) (xs:= #[.tmp 42, .tmp 43]) rfl ?_);at_builtin;refine Kd.R_append_rows (Kd.int .i64) w.heap.size rfl (.tmp 42) (.tmp 43) 25 3 (.int .i64 0) 8 rfl Try.underlying25 info3 rfl (by decide) (by omega) Ga Ct Ak _ _ _ (fun k_=>some k_≠(.slice Cz Ak.length Da:Value).ownBlock) (fun _=>False) rfl rfl ?aO ?aR (fun _ _ h=>h) (fun _ h=>h.elim) ?aF (Below.refl _ _) ?aS ?aL ?_;(case aR=>exact kC (Kd.Q_reads' Aa.out).2.2);(case aF=>exact(fun k_ hk=>Kd.fresh' (Kd.Q_lt (kQ Aa.out)) k_ hk));(case aO=>exact(by(with_reducible repeat(first|apply Kd.R_alloc|apply Kd.R_drewN|apply Kd.R_drew));exact Kd.R_mono Bk.out (fun _ hk=>hk.2)));(case aS=>exact(keep_size (w:=w) (g:=g) (row:=none) (kK HK.out)));(case aL=>have:=LMc24.out;omega);intro Jj My ho hb hg hat;rw[←Ek.out]at ho;have n0_:=Az.mk (Kd.S_after (ok:=(fun k_=>some k_≠(.slice Cz Ak.length Da:Value).ownBlock)) (kS Ab.out) hg hat);have n1_:=Az.mk (Kd.Q_after (ok:=(fun _=>True)) (kQ Aa.out) hg hat);have n2_:=Az.mk (IsS76.grown (kI HI0.out) hg (IsS76.own_ne HI0.out Bk.out (by decide)));have n3_:=Az.mk (below_weaken (kG HB.out (IsS76.ge HI0.out)) HL.out hb);have n4_:=Az.mk (KeepBut.trans (kK HK.out) (KeepBut.of_grown hg g) (Kd.R_base2 Bk.out));have n5_:=Az.mk (ho);clear Ab;clear Aa;clear HI0;clear HB;clear HK;clear Bk;have Ab:=n0_;have Aa:=n1_;have HI0:=n2_;have HB:=n3_;have HK:=n4_;have Ad:=n5_;clear n0_ n1_ n2_ n3_ n4_ n5_;clear ho hb hg hat;obtain⟨Lx,Bs,Jr⟩:=Kd.R_slice Ad.out;subst Jr)|((with_reducible refine gtC (f:=62) rfl ?_);refine clz Try.func62 (some 49) #[.pointer (some ⟨g,0,none⟩), .int .i64 (Aj.length:Int)] ?_;(with_reducible refine(fO.calls g Ac Ag Ah (Aj.length:Int) Ay Bt Bu w0 _ ?Ae ?Af Ko.out).mono ?_);(case Ae=>exact(kI HI0.out));(case Af=>exact kG HB.out (IsS76.ge HI0.out));rintro e Mz ⟨rfl,hi,hb,hk⟩;refine⟨_,rfl,?_⟩;replace Ab:=Az.mk (Kd.S_mono (Kd.S_keep (IsS76.apartS (show IsS76 w0 _ g Ac Ag Ah from kI HI0.out) (kS Ab.out) (by decide)) hk (fun _ h=>h.2)) (fun _ h=>h.1));replace Aa:=Az.mk (Kd.Q_mono (Kd.Q_keep (IsS76.apartQ (show IsS76 w0 _ g Ac Ag Ah from kI HI0.out) (kQ Aa.out) (by decide)) hk (fun _ h=>h.2)) (fun _ h=>h.1));replace Ad:=Az.mk (Kd.R_mono (Kd.R_keep (IsS76.apart (show IsS76 w0 _ g Ac Ag Ah from kI HI0.out) (kR Ad.out) (by decide)) hk (fun _ h=>h.2)) (fun _ h=>h.1));replace HK:=Az.mk (KeepBut.trans (kK HK.out) hk (.inl rfl));replace HB:=Az.mk (hb);replace HI0:=Az.mk (hi);(try clear hb);(try clear hk);(try clear hi))|((with_reducible refine gtC (f:=62) rfl ?_);refine clz Try.func62 (some 51) #[.pointer (some ⟨g,0,none⟩), .int .i64 7] ?_;(with_reducible refine(fO.calls g Ac Bt Bu 7 Cg Bp Bq w0 _ ?Ae ?Af Kp.out).mono ?_);(case Ae=>exact(kI HI0.out));(case Af=>exact kG HB.out (IsS76.ge HI0.out));rintro e La ⟨rfl,hi,hb,hk⟩;refine⟨_,rfl,?_⟩;replace Ab:=Az.mk (Kd.S_mono (Kd.S_keep (IsS76.apartS (show IsS76 w0 _ g Ac Bt Bu from kI HI0.out) (kS Ab.out) (by decide)) hk (fun _ h=>h.2)) (fun _ h=>h.1));replace Aa:=Az.mk (Kd.Q_mono (Kd.Q_keep (IsS76.apartQ (show IsS76 w0 _ g Ac Bt Bu from kI HI0.out) (kQ Aa.out) (by decide)) hk (fun _ h=>h.2)) (fun _ h=>h.1));replace Ad:=Az.mk (Kd.R_mono (Kd.R_keep (IsS76.apart (show IsS76 w0 _ g Ac Bt Bu from kI HI0.out) (kR Ad.out) (by decide)) hk (fun _ h=>h.2)) (fun _ h=>h.1));replace HK:=Az.mk (KeepBut.trans (kK HK.out) hk (.inl rfl));replace HB:=Az.mk (hb);replace HI0:=Az.mk (hi);(try clear hb);(try clear hk);(try clear hi);have Gb:0≤(Ay:Int):=od;have Gc:(Ay:Int)<((Aj.length:Int):Int):=od;obtain⟨Al,Jl,Di,Dj,gl29,Jm,HG29⟩:=Kd.R_form Ad.out (by omega);(first|cases Di|(injection Di with ea_ en_ ec_;(first|subst ea_|(injection ea_ with ea_;subst ea_));subst ec_;clear en_));have Dk:=Az.mk Dj;have Jn:=Az.mk HG29;clear Dj gl29 HG29;obtain⟨Gd,Ge⟩:=Kd.R_celln 0 Ad.out (Ay:Int) Gb Gc;replace Gb:=ets Gb;replace Gc:=ets Gc;obtain⟨hy58_,hz58_⟩:=Kd.R_celln 0 Ad.out (Ay:Int) (od) (od);have Gl:=Kd.R_putg Ad.out (Ay:Int) Cg)|((with_reducible refine gate_store (t:=3) (p:=52) rfl ?_);refine store_event (t:=3) (p:=52) (v:=?vo_w59) (w1:=(La.setCell ⟨Al,(Ay:Int).toNat,none⟩ (.int .i64 Cg))) ?hg ?ho ?hn ?hr ?_;(case ho=>rfl);(case hg=>rfl);(case hn=>rfl);(case hr=>first|(go_simp;done)|(go_simp;rfl));intro Js hw;have hg:La.grownBy Js (some Al):=(by rw[hw];exact Gl.2);have hp_:Kd.R (Kd.int .i64) 3 Js w.heap.size (fun k_=>some k_≠(.slice Cz Ak.length Da:Value).ownBlock) (.slice (some ⟨Al,0,none⟩) Aj.length Bs) Dy:=(by rw[hw,El.out];exact Gl.1);clear Gl;replace Ab:=Az.mk (Kd.S_after (v:=(.slice (some ⟨Al,0,none⟩) Aj.length Bs)) (v1:=(.slice (some ⟨Al,0,none⟩) Aj.length Bs)) (ok:=(fun k_=>some k_≠(.slice Cz Ak.length Da:Value).ownBlock)) (kS Ab.out) hg (.inl rfl));replace Aa:=Az.mk (Kd.Q_after (v:=(.slice (some ⟨Al,0,none⟩) Aj.length Bs)) (v1:=(.slice (some ⟨Al,0,none⟩) Aj.length Bs)) (ok:=(fun _=>True)) (kQ Aa.out) hg (.inl rfl));replace HI0:=Az.mk (IsS76.grown (kI HI0.out) hg (IsS76.own_ne HI0.out Ad.out (by decide)));replace HB:=Az.mk ((by rw[hw];exact bwS (HB.out) (Nat.le_trans HL.out Dk.out):Below w0.heap.size w0 Js));replace HK:=Az.mk (KeepBut.trans (kK HK.out) (KeepBut.of_grown hg g) (Kd.R_base2 Ad.out));replace Ad:=Az.mk (hp_);clear hg hw hp_)|((with_reducible refine gtC (f:=62) rfl ?_);refine clz Try.func62 (some 57) #[.pointer (some ⟨g,0,none⟩), .int .i64 (Aj.length:Int)] ?_;(with_reducible refine(fO.calls g Ac Bp Bq (Aj.length:Int) Ba Bv Bw w0 _ ?Ae ?Af Ks.out).mono ?_);(case Ae=>exact(kI HI0.out));(case Af=>exact kG HB.out (IsS76.ge HI0.out));rintro e Na ⟨rfl,hi,hb,hk⟩;refine⟨_,rfl,?_⟩;replace Ab:=Az.mk (Kd.S_mono (Kd.S_keep (IsS76.apartS (show IsS76 w0 _ g Ac Bp Bq from kI HI0.out) (kS Ab.out) (by decide)) hk (fun _ h=>h.2)) (fun _ h=>h.1));replace Aa:=Az.mk (Kd.Q_mono (Kd.Q_keep (IsS76.apartQ (show IsS76 w0 _ g Ac Bp Bq from kI HI0.out) (kQ Aa.out) (by decide)) hk (fun _ h=>h.2)) (fun _ h=>h.1));replace Ad:=Az.mk (Kd.R_mono (Kd.R_keep (IsS76.apart (show IsS76 w0 _ g Ac Bp Bq from kI HI0.out) (kR Ad.out) (by decide)) hk (fun _ h=>h.2)) (fun _ h=>h.1));replace HK:=Az.mk (KeepBut.trans (kK HK.out) hk (.inl rfl));replace HB:=Az.mk (hb);replace HI0:=Az.mk (hi);(try clear hb);(try clear hk);(try clear hi))|((with_reducible refine gtC (f:=62) rfl ?_);refine clz Try.func62 (some 59) #[.pointer (some ⟨g,0,none⟩), .int .i64 7] ?_;(with_reducible refine(fO.calls g Ac Bv Bw 7 Ch Cu Cv w0 _ ?Ae ?Af Ku.out).mono ?_);(case Ae=>exact(kI HI0.out));(case Af=>exact kG HB.out (IsS76.ge HI0.out));rintro e Lb ⟨rfl,hi,hb,hk⟩;refine⟨_,rfl,?_⟩;replace Ab:=Az.mk (Kd.S_mono (Kd.S_keep (IsS76.apartS (show IsS76 w0 _ g Ac Bv Bw from kI HI0.out) (kS Ab.out) (by decide)) hk (fun _ h=>h.2)) (fun _ h=>h.1));replace Aa:=Az.mk (Kd.Q_mono (Kd.Q_keep (IsS76.apartQ (show IsS76 w0 _ g Ac Bv Bw from kI HI0.out) (kQ Aa.out) (by decide)) hk (fun _ h=>h.2)) (fun _ h=>h.1));replace Ad:=Az.mk (Kd.R_mono (Kd.R_keep (IsS76.apart (show IsS76 w0 _ g Ac Bv Bw from kI HI0.out) (kR Ad.out) (by decide)) hk (fun _ h=>h.2)) (fun _ h=>h.1));replace HK:=Az.mk (KeepBut.trans (kK HK.out) hk (.inl rfl));replace HB:=Az.mk (hb);replace HI0:=Az.mk (hi);(try clear hb);(try clear hk);(try clear hi);have Gg:0≤(Ba:Int):=od;have Gh:(Ba:Int)<((Aj.length:Int):Int):=od;obtain⟨Gi,Gj⟩:=Kd.R_celln 0 Ad.out (Ba:Int) Gg Gh;replace Gg:=ets Gg;replace Gh:=ets Gh;obtain⟨hy62_,hz62_⟩:=Kd.R_celln 0 Ad.out (Ba:Int) (od) (od);have Gm:=Kd.R_putg Ad.out (Ba:Int) Ch)|((with_reducible refine gate_store (t:=3) (p:=60) rfl ?_);refine store_event (t:=3) (p:=60) (v:=?vo_w63) (w1:=(Lb.setCell ⟨Al,(Ba:Int).toNat,none⟩ (.int .i64 Ch))) ?hg ?ho ?hn ?hr ?_;(case ho=>rfl);(case hg=>rfl);(case hn=>rfl);(case hr=>first|(go_simp;done)|(go_simp;rfl));intro Jt hw;have hg:Lb.grownBy Jt (some Al):=(by rw[hw];exact Gm.2);have hp_:Kd.R (Kd.int .i64) 3 Jt w.heap.size (fun k_=>some k_≠(.slice Cz Ak.length Da:Value).ownBlock) (.slice (some ⟨Al,0,none⟩) Aj.length Bs) As:=(by rw[hw,Em.out];exact Gm.1);clear Gm;replace Ab:=Az.mk (Kd.S_after (v:=(.slice (some ⟨Al,0,none⟩) Aj.length Bs)) (v1:=(.slice (some ⟨Al,0,none⟩) Aj.length Bs)) (ok:=(fun k_=>some k_≠(.slice Cz Ak.length Da:Value).ownBlock)) (kS Ab.out) hg (.inl rfl));replace Aa:=Az.mk (Kd.Q_after (v:=(.slice (some ⟨Al,0,none⟩) Aj.length Bs)) (v1:=(.slice (some ⟨Al,0,none⟩) Aj.length Bs)) (ok:=(fun _=>True)) (kQ Aa.out) hg (.inl rfl));replace HI0:=Az.mk (IsS76.grown (kI HI0.out) hg (IsS76.own_ne HI0.out Ad.out (by decide)));replace HB:=Az.mk ((by rw[hw];exact bwS (HB.out) (Nat.le_trans HL.out Dk.out):Below w0.heap.size w0 Jt));replace HK:=Az.mk (KeepBut.trans (kK HK.out) (KeepBut.of_grown hg g) (Kd.R_base2 Ad.out));replace Ad:=Az.mk (hp_);clear hg hw hp_)|((with_reducible refine gtC (f:=29) rfl ?_);refine goesL_ (some 63) rfl rfl Try.func29 (by kernel_rfl) rfl #[.slice Hj Ai.length Hk, .slice (some ⟨Al,0,none⟩) As.length Bs] rfl (by(try simp only[List.map_toArray,List.map_cons,List.map_nil]);first|done|(rw[show As.length=Aj.length from(Kd.R_reads' Ad.out).1.symm] <;> rfl)|rfl|(simp only[List.length_drop,List.length_take];rfl)) ?_;(with_reducible refine(fI.calls k2 _ _ Ai _ _ As false _ ?Ae ?Af ?Bh ?Bi Kx.out).mono ?_);(case Ae=>exact kC (Kd.S_reads' Ab.out).2.2);(case Af=>exact(Kd.S_reads' Ab.out).2.1);(case Bh=>exact kC (Kd.R_reads' Ad.out).2.2);(case Bi=>rw[show As.length=Aj.length from(Kd.R_reads' Ad.out).1.symm];exact(Kd.R_reads' Ad.out).2.1);rintro e Nb ⟨rfl,hb⟩;refine⟨_,rfl,?_⟩;replace Ab:=Az.mk (Kd.S_below (kS Ab.out) hb);replace Aa:=Az.mk (Kd.Q_below (kQ Aa.out) hb);replace Ad:=Az.mk (Kd.R_below (kR Ad.out) hb);replace HK:=Az.mk (KeepBut.trans (kK HK.out) (KeepBut.of_below hb g none) (.inl rfl));replace HB:=Az.mk (bwT (kG HB.out (IsS76.ge HI0.out)) hb);replace HI0:=Az.mk (IsS76.below (kI HI0.out) hb);(try clear hb)))
    go_roundg k2
    case measure=>have:=HK1.out;have:=HK2.out;omega
    case rel=>exact⟨(Ak),(wrap64 (Bj+1)),(Cu),(Cv),rq2,H',⟨by have:=HK1.out;have:=HK2.out;omega⟩,⟨by(with_reducible repeat(first|apply Kd.S_alloc|apply Kd.S_drewN|apply Kd.S_drew));exact Kd.S_mono Ab.out (fun _ hk=>hk.1)⟩,⟨by(with_reducible repeat(first|apply Kd.Q_alloc|apply Kd.Q_drewN|apply Kd.Q_drew));exact Kd.Q_mono Aa.out (fun _ hk=>trivial)⟩,⟨kI HI0.out⟩,⟨kK HK.out⟩,⟨kG HB.out (IsS76.ge HI0.out)⟩⟩
   rw[ig Ha]at H
   have Hp:=decide_eq_false Ha
   clear Ha
   replace H:=bez H
   obtain⟨⟨Ck,Bd,Bf⟩,Iv,H⟩:=H
   try dsimp only at H
   by_cases Gn:Ck=0
   ·rw[ip Gn]at H
    have Hq:=beq_iff_eq.mpr Gn
    have Hr:=bne_eq_false_iff_eq.mpr Gn
    clear Gn
    obtain⟨Db,hy⟩:∃y_:List Int,y_=(([(-1),201,1,3]:List Int)):=⟨_,rfl⟩
    replace H:((jI.f Ac Bd Bf Db).bind fun Dl=>(if 0<(Ak.length:Int) then(some (Ai,(Ak.set (0:Int).toNat Dl.1),Dl.2.1,Dl.2.2)) else(none)))=some (r1,r2,r3,r4):=rh
    have Eo:=Az.mk hy
    clear hy
    replace H:=bez H
    obtain⟨⟨Dz,Hs,Ht⟩,Ly,H⟩:=H
    try dsimp only at H
    by_cases Iw:0<(Ak.length:Int)
    rotate_left
    ·rw[ig Iw]at H
     exact absurd H (by simp)
    rw[ip Iw]at H
    have Lc:=ode Iw
    have Ld:decide (0<Ak.length)=true:=ode (by omega)
    clear Iw
    obtain⟨Hu,hy⟩:∃y_:List Int,y_=(Ak.set (0:Int).toNat Dz):=⟨_,rfl⟩
    replace H:(some (Ai,Hu,Hs,Ht))=some (r1,r2,r3,r4):=rh
    have Hv:=Az.mk hy
    clear hy
    simp only[Option.some.injEq,Prod.mk.injEq]at H
    obtain⟨rfl,rfl,rfl,rfl⟩:=H
    go_wp2_with (first|((with_reducible refine gtC (f:=62) rfl ?_);refine clz Try.func62 (some 66) #[.pointer (some ⟨g,0,none⟩), .int .i64 18] ?_;(with_reducible refine(fO.calls g Ac Ag Ah 18 Ck Bd Bf w0 _ ?Ae ?Af Iv.out).mono ?_);(case Ae=>exact(kI HI0.out));(case Af=>exact kG HB.out (IsS76.ge HI0.out));rintro e Nc ⟨rfl,hi,hb,hk⟩;refine⟨_,rfl,?_⟩;replace Ab:=Az.mk (Kd.S_mono (Kd.S_keep (IsS76.apartS (show IsS76 w0 _ g Ac Ag Ah from kI HI0.out) (kS Ab.out) (by decide)) hk (fun _ h=>h.2)) (fun _ h=>h.1));replace Aa:=Az.mk (Kd.Q_mono (Kd.Q_keep (IsS76.apartQ (show IsS76 w0 _ g Ac Ag Ah from kI HI0.out) (kQ Aa.out) (by decide)) hk (fun _ h=>h.2)) (fun _ h=>h.1));replace HK:=Az.mk (KeepBut.trans (kK HK.out) hk (.inl rfl));replace HB:=Az.mk (hb);replace HI0:=Az.mk (hi);(try clear hb);(try clear hk);(try clear hi))|((with_reducible refine gtD (N:=71) rfl ?_);refine Kd.R_lit (Kd.int .i64) _ 3 ?hg (N:=71) ?hd (xs:=([(-1),201,1,3]:List Int)) (inner:=[.int .i64 (-1), .int .i64 201, .int .i64 1, .int .i64 3]) (ok:=fun _=>True) (okp:=fun _=>True) ?hr ?hp (fun _ hk=>hk) trivial (Below.refl _ _) (Nat.le_refl _) (by simp) ?_;(case hd=>rfl);(case hg=>rfl);(case hr=>first|(go_simp;done)|(go_simp;rfl));(case hp=>exact(Reps.one (show Kd.M (Kd.int .i64) _ _ _ (-1) [.int .i64 (-1)]from rfl) (Reps.one (show Kd.M (Kd.int .i64) _ _ _ 201 [.int .i64 201]from rfl) (Reps.one (show Kd.M (Kd.int .i64) _ _ _ 1 [.int .i64 1]from rfl) (Reps.one (show Kd.M (Kd.int .i64) _ _ _ 3 [.int .i64 3]from rfl) (Reps.none _ _))))));intro Lz Nd Cl hb hg_ hnew_;clear hg_ hnew_;(first|rw[←Eo.out]at Cl|(simp only[Int.reduceToNat]at Cl;rw[←Eo.out]at Cl));replace Ab:=Az.mk (Kd.S_elder' (kS Ab.out) (Kd.R_base Cl) hb);have Bm:=Az.mk (Kd.R_lower (Kd.R_new' Cl (Kd.Q_lt (kQ Aa.out))) (keep_size (w:=w) (g:=g) (row:=none) (kK HK.out)));replace Aa:=Az.mk (Kd.Q_elder' (kQ Aa.out) (Kd.R_base Cl) hb);replace HK:=Az.mk (KeepBut.trans (kK HK.out) (KeepBut.of_below hb g none) (.inl rfl));replace HB:=Az.mk (bwT (kG HB.out (IsS76.ge HI0.out)) hb);replace HI0:=Az.mk (IsS76.below (kI HI0.out) hb);clear hb Cl;obtain⟨Ea,Eb,Ju⟩:=Kd.R_slice Bm.out;subst Ju)|((with_reducible refine gtC (f:=73) rfl ?_);refine clz Try.func73 (some 72) #[.pointer (some ⟨g,0,none⟩), .slice Ea Db.length Eb] ?_;(with_reducible refine(jI.calls g Ac Bd Bf _ _ Db Dz Hs Ht w0 _ ?Ae ?Af ?Bh ?Bi ?Dm Ly.out).mono ?_);(case Ae=>exact(kI HI0.out));(case Af=>exact kG HB.out (IsS76.ge HI0.out));(case Bh=>exact kC (Kd.R_reads' Bm.out).2.2);(case Bi=>exact(Kd.R_reads' Bm.out).2.1);(case Dm=>exact far_slice (IsS76.own_ne HI0.out Bm.out (by decide)));rintro e Le ⟨rfl,hi,hb,hk⟩;refine⟨_,rfl,?_⟩;replace Ab:=Az.mk (Kd.S_mono (Kd.S_keep (IsS76.apartS (show IsS76 w0 _ g Ac Bd Bf from kI HI0.out) (kS Ab.out) (by decide)) hk (fun _ h=>h.2)) (fun _ h=>h.1));replace Aa:=Az.mk (Kd.Q_mono (Kd.Q_keep (IsS76.apartQ (show IsS76 w0 _ g Ac Bd Bf from kI HI0.out) (kQ Aa.out) (by decide)) hk (fun _ h=>h.2)) (fun _ h=>h.1));replace Bm:=Az.mk (Kd.R_mono (Kd.R_keep (IsS76.apart (show IsS76 w0 _ g Ac Bd Bf from kI HI0.out) (kR Bm.out) (by decide)) hk (fun _ h=>h.2)) (fun _ h=>h.1));replace HK:=Az.mk (KeepBut.trans (kK HK.out) hk (.inl rfl));replace HB:=Az.mk (hb);replace HI0:=Az.mk (hi);(try clear hb);(try clear hk);(try clear hi);have Jv:0≤(0:Int):=(by omega);have Jw:(0:Int)<((Ak.length:Int):Int):=od;have Ma:(0<Ak.length)=True:=ets (by omega);obtain⟨Cm,Dc,Dn,Hw,Hx,gl69,Mb,HG69⟩:=Kd.Q_form Aa.out (by omega);(first|cases Hw|(injection Hw with ea_ en_ ec_;(first|subst ea_|(injection ea_ with ea_;subst ea_));subst ec_;clear en_));have Jx:=Az.mk Hx;have Mc:=Az.mk HG69;clear Hx gl69 HG69;obtain⟨Do,Dp⟩:=Kd.Q_cell 0 Aa.out (0:Int) Jv Jw;(try rw[show((0:Int)).toNat=0 from rfl]at Do);(try simp only[Nat.reduceMul,Nat.zero_mul,Nat.zero_add,Nat.reduceAdd]at Do);(try rw[show((0:Int)).toNat=0 from rfl]at Dp);(try simp only[Nat.reduceMul,Nat.zero_mul,Nat.zero_add,Nat.reduceAdd]at Dp);replace Jv:=ets Jv;replace Jw:=ets Jw;have n_:=Az.mk (Kd.Q_mono (ok':=(fun k_=>some k_≠(.slice Ea Db.length Eb:Value).ownBlock)) Aa.out (fun k_ hk=>hk.2));clear Aa;have Aa:=n_;clear n_;obtain⟨hy75_,hz75_⟩:=Kd.Q_cell 0 Aa.out (0:Int) (by omega) (od);(try simp only[Int.reduceToNat,Int.toNat_zero,Int.toNat_ofNat,Nat.reduceMul,Nat.zero_mul,Nat.zero_add]at hy75_ hz75_);(try rw[show((0:Int)).toNat=0 from rfl]at hy75_);(try rw[show((0:Int)).toNat=0 from rfl]at hz75_);(try rw[Nat.add_zero]at hy75_);(try rw[Nat.add_zero]at hz75_);have Gp:=Kd.Q_putg Aa.out (0:Int) (by omega) (by have h_:(0:Int)<((Ak.length:Int):Int):=od;first|exact h_|(have e_:=(Kd.Q_reads' Aa.out).1;omega)|simpa using h_) Dz)|((with_reducible refine gate_store (t:=3) (p:=73) rfl ?_);refine store_event (t:=3) (p:=73) (v:=?vo_w76) (w1:=(Le.setCell ⟨Cm,Dc+(0:Int).toNat,none⟩ (.int .i64 Dz))) ?hg ?ho ?hn ?hr ?_;(case ho=>rfl);(case hg=>rfl);(case hn=>rfl);(case hr=>first|(go_simp;done)|(go_simp;rfl));intro Jy hw;have hg:Le.grownBy Jy (some Cm):=(by rw[hw];exact Gp.2);have hp_:Kd.Q (Kd.int .i64) 3 Jy w.heap.size (fun k_=>some k_≠(.slice Ea Db.length Eb:Value).ownBlock) (.slice (some ⟨Cm,Dc,none⟩) Ak.length Dn) Hu:=(by rw[hw,Hv.out];exact Gp.1);clear Gp;replace Ab:=Az.mk (Kd.S_after (v:=(.slice (some ⟨Cm,Dc,none⟩) Ak.length Dn)) (v1:=(.slice (some ⟨Cm,Dc,none⟩) Ak.length Dn)) (ok:=(fun k_=>some k_≠(.slice Ea Db.length Eb:Value).ownBlock)) (by(with_reducible repeat(first|apply Kd.S_alloc|apply Kd.S_drewN|apply Kd.S_drew));exact Kd.S_mono Ab.out (fun _ hk=>⟨hk.2,hk.1⟩)) hg (.inl rfl));replace HI0:=Az.mk (IsS76.grown (kI HI0.out) hg (IsS76.own_neQ HI0.out Aa.out (by decide)));replace Bm:=Az.mk (Kd.R_after (v:=(.slice (some ⟨Cm,Dc,none⟩) Ak.length Dn)) (v1:=(.slice (some ⟨Cm,Dc,none⟩) Ak.length Dn)) (ok:=(fun _=>True)) (kR Bm.out) hg (.inl rfl));replace HB:=Az.mk ((by rw[hw];exact bwS (HB.out) (Nat.le_trans HL.out Jx.out):Below w0.heap.size w0 Jy));replace HK:=Az.mk (KeepBut.trans (kK HK.out) (KeepBut.of_grown hg g) (Kd.Q_base2 Aa.out));replace Aa:=Az.mk (hp_);clear hg hw hp_))
    go_ret2
    exact⟨_,_,by first|rfl|(simp[eWn,eWs] <;> rfl)|(simp only[←Cd];first|rfl|(simp[eWn,eWs] <;> rfl))|(simp[*,eWn,eWs] <;> rfl),by(with_reducible repeat(first|apply Kd.S_alloc|apply Kd.S_drewN|apply Kd.S_drew));exact Kd.S_mono Ab.out (fun _ hk=>hk.2),by(with_reducible repeat(first|apply Kd.Q_alloc|apply Kd.Q_drewN|apply Kd.Q_drew));exact Kd.Q_mono Aa.out (fun _ hk=>trivial),kI HI0.out,kG HB.out (IsS76.ge HI0.out),kK HK.out⟩
   rw[ig Gn]at H
   have Hq:=beq_eq_false_iff_ne.mpr Gn
   have Hr:=bne_iff_ne.mpr Gn
   by_cases Gq:Ck=1
   ·rw[ip Gq]at H
    have Hy:=beq_iff_eq.mpr Gq
    have Hz:=bne_eq_false_iff_eq.mpr Gq
    clear Gq
    by_cases Ia:1≤(Ak.length:Int)
    rotate_left
    ·rw[ig Ia]at H
     exact absurd H (by simp)
    rw[ip Ia]at H
    have Lf:=ets Ia
    have Lg:=ode Ia
    clear Ia
    obtain⟨Dd,hy⟩:∃y_:List Int,y_=(Ak.drop (1:Int).toNat):=⟨_,rfl⟩
    replace H:(some (Ai,Dd,Bd,Bf))=some (r1,r2,r3,r4):=rh
    have Ep:=Az.mk hy
    clear hy
    simp only[Option.some.injEq,Prod.mk.injEq]at H
    obtain⟨rfl,rfl,rfl,rfl⟩:=H
    go_wp2_with (first|((with_reducible refine gtC (f:=62) rfl ?_);refine clz Try.func62 (some 66) #[.pointer (some ⟨g,0,none⟩), .int .i64 18] ?_;(with_reducible refine(fO.calls g Ac Ag Ah 18 Ck Bd Bf w0 _ ?Ae ?Af Iv.out).mono ?_);(case Ae=>exact(kI HI0.out));(case Af=>exact kG HB.out (IsS76.ge HI0.out));rintro e Md ⟨rfl,hi,hb,hk⟩;refine⟨_,rfl,?_⟩;replace Ab:=Az.mk (Kd.S_mono (Kd.S_keep (IsS76.apartS (show IsS76 w0 _ g Ac Ag Ah from kI HI0.out) (kS Ab.out) (by decide)) hk (fun _ h=>h.2)) (fun _ h=>h.1));replace Aa:=Az.mk (Kd.Q_mono (Kd.Q_keep (IsS76.apartQ (show IsS76 w0 _ g Ac Ag Ah from kI HI0.out) (kQ Aa.out) (by decide)) hk (fun _ h=>h.2)) (fun _ h=>h.1));replace HK:=Az.mk (KeepBut.trans (kK HK.out) hk (.inl rfl));replace HB:=Az.mk (hb);replace HI0:=Az.mk (hi);(try clear hb);(try clear hk);(try clear hi);obtain⟨Dq,Ec,Jz,_⟩:=Kd.Q_slice Aa.out;subst Jz;have Ka:(1:Int)≤((Ak.length:Int):Int):=od;obtain⟨Me,Er,_,hsz81,_⟩:=info_parts info3;have hcut81:=cut_from (P:=Try.prog) 25 3 .i64 Try.underlying25 Er 1 hsz81 Dq Ak.length Ec 1 (by omega) Ka;have Dr:=Kd.Q_drop (k:=(1:Int).toNat) Aa.out (by omega);obtain⟨Kb,hA81⟩:∃A1,A1=(if Ec=(1:Int).toNat then Dq else(Dq:Option Addr).map (·.add ((1:Int).toNat*1))):=⟨_,rfl⟩;obtain⟨Ke,Gr⟩:∃c1,c1=Ec - (1:Int).toNat:=⟨_,rfl⟩;have hy81:Dd.length=Ak.length - (1:Int).toNat:=(by rw[Ep.out,List.length_drop]);rw[←Ep.out]at Dr;rw[←hy81, ←hA81, ←Gr]at hcut81;replace Dr:Kd.Q (Kd.int .i64) 3 Md w.heap.size (fun _=>True) (.slice Kb Dd.length Ke) Dd:=(by rw[hA81,Gr,hy81];exact Dr);have HE81:Az ((Value.slice Kb Dd.length Ke).ownBlock=(.slice Dq Ak.length Ec:Value).ownBlock):=⟨by rw[hA81];split <;> (cases (Dq:Option Addr) <;> rfl)⟩;clear hy81 Er hsz81 Aa hA81 Gr;have Ib:=Az.mk Dr;clear Dr;replace Ka:=ets Ka;have n_:=Az.mk (Kd.S_mono (ok':=fun k_=>some k_≠(.slice Kb Dd.length Ke:Value).ownBlock) Ab.out (fun k_ hk=>(by rw[HE81.out];exact hk)));clear Ab;have Ab:=n_;clear n_))
    go_ret2
    exact⟨_,_,by first|rfl|(simp[eWn,eWs] <;> rfl)|(simp only[←Cd];first|rfl|(simp[eWn,eWs] <;> rfl))|(simp[*,eWn,eWs] <;> rfl),kS Ab.out,kQ Ib.out,kI HI0.out,kG HB.out (IsS76.ge HI0.out),kK HK.out⟩
   rw[ig Gq]at H
   have Hy:=beq_eq_false_iff_ne.mpr Gq
   have Hz:=bne_iff_ne.mpr Gq
   by_cases Gs:Ck=2
   rotate_left
   ·rw[ig Gs]at H
    have Ic:=beq_eq_false_iff_ne.mpr Gs
    have Id:=bne_iff_ne.mpr Gs
    simp only[Option.some.injEq,Prod.mk.injEq]at H
    obtain⟨rfl,rfl,rfl,rfl⟩:=H
    go_wp2_with (first|((with_reducible refine gtC (f:=62) rfl ?_);refine clz Try.func62 (some 66) #[.pointer (some ⟨g,0,none⟩), .int .i64 18] ?_;(with_reducible refine(fO.calls g Ac Ag Ah 18 Ck Bd Bf w0 _ ?Ae ?Af Iv.out).mono ?_);(case Ae=>exact(kI HI0.out));(case Af=>exact kG HB.out (IsS76.ge HI0.out));rintro e Nf ⟨rfl,hi,hb,hk⟩;refine⟨_,rfl,?_⟩;replace Ab:=Az.mk (Kd.S_mono (Kd.S_keep (IsS76.apartS (show IsS76 w0 _ g Ac Ag Ah from kI HI0.out) (kS Ab.out) (by decide)) hk (fun _ h=>h.2)) (fun _ h=>h.1));replace Aa:=Az.mk (Kd.Q_mono (Kd.Q_keep (IsS76.apartQ (show IsS76 w0 _ g Ac Ag Ah from kI HI0.out) (kQ Aa.out) (by decide)) hk (fun _ h=>h.2)) (fun _ h=>h.1));replace HK:=Az.mk (KeepBut.trans (kK HK.out) hk (.inl rfl));replace HB:=Az.mk (hb);replace HI0:=Az.mk (hi);(try clear hb);(try clear hk);(try clear hi)))
    go_ret2
    exact⟨_,_,by first|rfl|(simp[eWn,eWs] <;> rfl)|(simp only[←Cd];first|rfl|(simp[eWn,eWs] <;> rfl))|(simp[*,eWn,eWs] <;> rfl),kS Ab.out,kQ Aa.out,kI HI0.out,kG HB.out (IsS76.ge HI0.out),kK HK.out⟩
   rw[ip Gs]at H
   have Ic:=beq_iff_eq.mpr Gs
   have Id:=bne_eq_false_iff_eq.mpr Gs
   clear Gs
   by_cases Ix:0<(Ai.length:Int)
   rotate_left
   ·rw[ig Ix]at H
    exact absurd H (by simp)
   rw[ip Ix]at H
   have Lh:=ode Ix
   have Li:decide (0<Ai.length)=true:=ode (by omega)
   clear Ix
   obtain⟨Gt,hy⟩:∃y_:List Int,y_=(([0,2,(-1),9]:List Int)):=⟨_,rfl⟩
   replace H:((jI.f Ac Bd Bf Gt).bind fun Ds=>(if 0<((rd_L1 Ai 0).length:Int) then(some ((Ai.set (0:Int).toNat ((rd_L1 Ai 0).set (0:Int).toNat Ds.1)),Ak,Ds.2.1,Ds.2.2)) else(none)))=some (r1,r2,r3,r4):=rh
   have Es:=Az.mk hy
   clear hy
   replace H:=bez H
   obtain⟨⟨Ed,Gu,Gv⟩,Mf,H⟩:=H
   try dsimp only at H
   by_cases Iy:0<((rd_L1 Ai 0).length:Int)
   rotate_left
   ·rw[ig Iy]at H
    exact absurd H (by simp)
   rw[ip Iy]at H
   have Lj:=ode Iy
   have Lk:decide (0<(rd_L1 Ai 0).length)=true:=ode (by omega)
   clear Iy
   obtain⟨Gw,hy⟩:∃y_:List Int,y_=((rd_L1 Ai 0).set (0:Int).toNat Ed):=⟨_,rfl⟩
   replace H:(some ((Ai.set (0:Int).toNat Gw),Ak,Gu,Gv))=some (r1,r2,r3,r4):=rh
   have Ie:=Az.mk hy
   clear hy
   obtain⟨Kf,hy⟩:∃y_:List (List Int),y_=(Ai.set (0:Int).toNat Gw):=⟨_,rfl⟩
   replace H:(some (Kf,Ak,Gu,Gv))=some (r1,r2,r3,r4):=rh
   have Ig:=Az.mk hy
   clear hy
   simp only[Option.some.injEq,Prod.mk.injEq]at H
   obtain⟨rfl,rfl,rfl,rfl⟩:=H
   try go_wp2_with (first|((with_reducible refine gtC (f:=62) rfl ?_);refine clz Try.func62 (some 66) #[.pointer (some ⟨g,0,none⟩), .int .i64 18] ?_;(with_reducible refine(fO.calls g Ac Ag Ah 18 Ck Bd Bf w0 _ ?Ae ?Af Iv.out).mono ?_);(case Ae=>exact(kI HI0.out));(case Af=>exact kG HB.out (IsS76.ge HI0.out));rintro e Mg ⟨rfl,hi,hb,hk⟩;refine⟨_,rfl,?_⟩;replace Ab:=Az.mk (Kd.S_mono (Kd.S_keep (IsS76.apartS (show IsS76 w0 _ g Ac Ag Ah from kI HI0.out) (kS Ab.out) (by decide)) hk (fun _ h=>h.2)) (fun _ h=>h.1));replace Aa:=Az.mk (Kd.Q_mono (Kd.Q_keep (IsS76.apartQ (show IsS76 w0 _ g Ac Ag Ah from kI HI0.out) (kQ Aa.out) (by decide)) hk (fun _ h=>h.2)) (fun _ h=>h.1));replace HK:=Az.mk (KeepBut.trans (kK HK.out) hk (.inl rfl));replace HB:=Az.mk (hb);replace HI0:=Az.mk (hi);(try clear hb);(try clear hk);(try clear hi)))
   replace Ab:=Az.mk (Kd.S_drew Ab.out);replace Aa:=Az.mk (Kd.Q_drew Aa.out);replace HI0:=Az.mk (IsS76.drew HI0.out);replace HK:=Az.mk (keep_drew HK.out);replace HB:=Az.mk (bwD HB.out)
   have Ee:0≤(0:Int):=(by omega)
   have Ef:0<(Ai.length:Int):=od
   obtain⟨Ih,Gx,Gy,Kg,Bb,Co,Cp⟩:=at_L1 (Kd.S_reads' Ab.out).2.2 0 Ee Ef
   cases Kg
   obtain⟨Ll,hce315,hMe315,Dt⟩:=Kd.S_get Ab.out [] 0 Ee (by first|exact Ef|exact od|(have e_:=(Kd.S_reads' Ab.out).1;omega))
   obtain⟨Iz,rfl,Cb⟩:=hMe315
   have Bl:=Dt 0 _ rfl
   rw[Nat.add_zero,show((Kd.slice 3 (Kd.int .i64))).sz=1 from rfl,Nat.mul_one]at Bl
   replace Bl:=Option.some.inj (Bl.symm.trans Bb)
   rw[Bl]at Cb
   have Am:=Az.mk (show Kd.R (Kd.int .i64) 3 _ _ _ _ (rd_L1 Ai 0)from Cb)
   clear Bl Cb
   have Bc:=Az.mk Bb
   clear Dt hce315
   have Lm:(0<Ai.length)=True:=ets (by omega)
   (try rw[show((0:Int)).toNat=0 from rfl]at Bb)
   (try rw[Addr.add_zero']at Bb)
   have Bn:=Az.mk Cp
   have Ja:=Az.mk Co
   clear Cp Co
   replace Ee:=ets Ee
   replace Ef:=ets Ef
   refine start_ (n:=8) (S:=fun w'=>w'.cell? Ih=some (.slice Gx (rd_L1 Ai 0).length Gy)) (ds:=[7]) #[false,false,false,false,false,false,false,false] (by kernel_rfl) rfl rfl (Bb) (fun hHeld=>?_);refine with_tabW fQ.tab22 fQ.bits22 (fun HT_ HW_=>?_)
   generalize Mg.drew=Ng at Ab Aa HI0 HK HB Am Bn Bc Bb hHeld ⊢
   refine pu (i:=0) (N:=some 80) #[true,false,false,false,false,false,false,false] (any_of HT_.out (by kernel_rfl)) ?_
   refine pu (i:=1) (N:=some 81) #[true,true,false,false,false,false,false,false] (any_of HT_.out (by kernel_rfl)) ?_
   refine pu (i:=3) (N:=some 83) #[true,true,false,true,false,false,false,false] (any_of HT_.out (by kernel_rfl)) ?_
   refine take_ (i:=2) (N:=some 82) (v:=?_) (a':=?_) #[true,true,true,true,false,false,false,false] rfl rfl (take_ofW HT_.out HW_.out (by kernel_rfl)) (fun _ _ _ h=>h) (Or.inl ⟨by rfl,?_⟩) hHeld ?_ ?_
   rotate_left
   ·intro w' s0
    go_simp
    with_reducible rfl
   rotate_left
   ·exact acq
   refine one_ (i:=4) (N:=some 84) #[true,true,true,true,true,false,false,false] rfl rfl (one_of HT_.out (by kernel_rfl)) (by decide) (fun K hK=>?_)
   refine Kd.R_lit_step (Kd.int .i64) _ 3 ?hg (N:=84) ?hd (xs:=([0,2,(-1),9]:List Int)) (inner:=[.int .i64 0, .int .i64 2, .int .i64 (-1), .int .i64 9]) (ok:=fun _=>True) (okp:=fun _=>True) ?hr ?hp (fun _ hk=>hk) trivial (Below.refl _ _) (Nat.le_refl _) (by simp) ?_;(case hd=>rfl);(case hg=>rfl);(case hr=>first|(go_simp;done)|(go_simp;rfl));(case hp=>exact(Reps.one (show Kd.M (Kd.int .i64) _ _ _ 0 [.int .i64 0]from rfl) (Reps.one (show Kd.M (Kd.int .i64) _ _ _ 2 [.int .i64 2]from rfl) (Reps.one (show Kd.M (Kd.int .i64) _ _ _ (-1) [.int .i64 (-1)]from rfl) (Reps.one (show Kd.M (Kd.int .i64) _ _ _ 9 [.int .i64 9]from rfl) (Reps.none _ _))))))
   intro Mh Nh Ce hb hg_ hnew_
   have HS0_:=(hb.cell (World.block_lt_of_cell? _ _ (hHeld))).trans (hHeld)
   clear hg_ hnew_
   (first|rw[←Es.out]at Ce|(simp only[Int.reduceToNat]at Ce;rw[←Es.out]at Ce))
   replace Ab:=Az.mk (Kd.S_elder' (kS Ab.out) (Kd.R_base Ce) hb);have Bz:=Az.mk (Kd.R_lower (Kd.R_new' (Kd.R_new' Ce (Kd.Q_lt (kQ Aa.out))) (Kd.R_lt (kR Am.out))) (keep_size (w:=w) (g:=g) (row:=none) (kK HK.out)));replace Aa:=Az.mk (Kd.Q_elder' (kQ Aa.out) (Kd.R_base Ce) hb);replace Am:=Az.mk (Kd.R_elder' (kR Am.out) (Kd.R_base Ce) hb);replace Bn:=Az.mk (Kd.C_below (by repeat(first|(with_reducible exact Bn.out)|(with_reducible refine Kd.C_alloc ?_ _)|(with_reducible refine Kd.C_drewN ?_ _)|(with_reducible refine Kd.C_drew ?_)|exact Bn.out)) hb);replace Bc:=Az.mk (pw_cell_below hb Bc.out);replace HK:=Az.mk (KeepBut.trans (kK HK.out) (KeepBut.of_below hb g none) (.inl rfl));replace HB:=Az.mk (bwT (kG HB.out (IsS76.ge HI0.out)) hb);replace HI0:=Az.mk (IsS76.below (kI HI0.out) hb)
   clear hb Ce
   obtain⟨Kh,Ki,Ii⟩:=Kd.R_slice Bz.out
   (first|subst Ii|(injection Ii with f1_ f2_ f3_;have f4_:=f1_.symm;have f5_:=f3_.symm;clear f1_ f2_ f3_;subst f4_;subst f5_))
   refine hK.out _ _ (HS0_) (fun hHeld=>?_)
   clear hK K
   refine norm_ (a':=?_) ?_ ?_
   rotate_left
   ·show Act.put _ (some 84) _=_
    exact acq
   refine one_ (i:=5) (N:=some 85) #[true,true,true,true,true,true,false,false] rfl rfl (one_of HT_.out (by kernel_rfl)) (by decide) (fun K hK=>?_)
   refine goes_ Try.func73 (by kernel_rfl) rfl #[.pointer (some ⟨g,0,none⟩), .slice Kh Gt.length Ki] (by rfl) rfl rfl ln_13 ?_
   with_reducible refine(jI.calls g Ac Bd Bf _ _ Gt Ed Gu Gv w0 _ ?Ae ?Af ?Bh ?Bi ?Dm Mf.out).mono ?_
   (case Ae=>exact(kI HI0.out))
   (case Af=>exact kG HB.out (IsS76.ge HI0.out))
   (case Bh=>exact kC (Kd.R_reads' Bz.out).2.2)
   (case Bi=>exact(Kd.R_reads' Bz.out).2.1)
   (case Dm=>exact far_slice (IsS76.own_ne HI0.out Bz.out (by decide)))
   rintro e Nl ⟨rfl,hi,hb,hk⟩
   have HS0_:=keep_cell hk (hHeld) (by first|(rw[add_block];exact Kd.own_blk (IsS76.own_neS HI0.out Ab.out (by decide)))|(show(Addr.add _ _).block≠_;rw[add_block];exact Kd.own_blk (IsS76.own_neS HI0.out Ab.out (by decide)))|exact Kd.own_blk (IsS76.own_neS HI0.out Ab.out (by decide)))
   refine⟨_,rfl,?_⟩
   replace Aa:=Az.mk (Kd.Q_mono (Kd.Q_keep (IsS76.apartQ (show IsS76 w0 _ g Ac Bd Bf from kI HI0.out) (kQ Aa.out) (by decide)) hk (fun _ h=>h.2)) (fun _ h=>h.1));replace Am:=Az.mk (Kd.R_mono (Kd.R_keep (IsS76.apart (show IsS76 w0 _ g Ac Bd Bf from kI HI0.out) (kR Am.out) (by decide)) hk (fun _ h=>h.2)) (fun _ h=>h.1));replace Bc:=Az.mk (keep_cell hk Bc.out (by first|(rw[add_block];exact Kd.own_blk (IsS76.own_neS HI0.out Ab.out (by decide)))|(show(Addr.add _ _).block≠_;rw[add_block];exact Kd.own_blk (IsS76.own_neS HI0.out Ab.out (by decide)))|exact Kd.own_blk (IsS76.own_neS HI0.out Ab.out (by decide))|(dsimp only;exact Kd.own_blk (IsS76.own_neS HI0.out Ab.out (by decide)))));replace Ab:=Az.mk (Kd.S_mono (Kd.S_keep (IsS76.apartS (show IsS76 w0 _ g Ac Bd Bf from kI HI0.out) (kS Ab.out) (by decide)) hk (fun _ h=>h.2)) (fun _ h=>h.1));replace Bz:=Az.mk (Kd.R_mono (Kd.R_keep (IsS76.apart (show IsS76 w0 _ g Ac Bd Bf from kI HI0.out) (kR Bz.out) (by decide)) hk (fun _ h=>h.2)) (fun _ h=>h.1));replace HK:=Az.mk (KeepBut.trans (kK HK.out) hk (.inl rfl));replace HB:=Az.mk (hb);replace HI0:=Az.mk (hi)
   (try clear hb)
   (try clear hb2)
   (try clear hk)
   (try clear hi)
   have Kj:0≤(0:Int):=(by omega)
   have Kk:(0:Int)<(((rd_L1 Ai 0).length:Int):Int):=od
   have Mi:(0<(rd_L1 Ai 0).length)=True:=ets (by omega)
   obtain⟨Ij,Mj,Ik,Il,gl86,Mk,HG86⟩:=Kd.R_form Am.out (by omega)
   (first|cases Ik|(injection Ik with ea_ en_ ec_;(first|subst ea_|(injection ea_ with ea_;subst ea_));subst ec_;clear en_))
   have Im:=Az.mk Il
   have Ml:=Az.mk HG86
   clear Il gl86 HG86
   obtain⟨Du,Dv⟩:=Kd.R_celln 0 Am.out (0:Int) Kj Kk
   (try rw[show((0:Int)).toNat=0 from rfl]at Du)
   (try simp only[Nat.reduceMul,Nat.zero_mul,Nat.zero_add,Nat.reduceAdd]at Du)
   (try rw[show((0:Int)).toNat=0 from rfl]at Dv)
   (try simp only[Nat.reduceMul,Nat.zero_mul,Nat.zero_add,Nat.reduceAdd]at Dv)
   replace Kj:=ets Kj
   replace Kk:=ets Kk
   have hq93:(0:Int)<(Ai.length:Int):=(by have h_:(0:Int)<((Ai.length:Int):Int):=od;first|exact h_|(have e_:=(Kd.S_reads' Ab.out).1;omega)|simpa only[List.length_set,List.length_set] using h_)
   obtain⟨oki93,Mm,In,Kl,Et,hok93,hbk93⟩:=Kd.S_borrow Ab.out [] (0:Int) (by omega) hq93
   obtain⟨Km,rfl,Cc⟩:=Kl
   have Eg:=Et 0 _ rfl
   rw[Nat.add_zero,show((Kd.slice 3 (Kd.int .i64))).sz=1 from rfl,Nat.mul_one]at Eg
   replace Eg:=Option.some.inj (Eg.symm.trans Bc.out)
   subst Eg
   clear Et In
   replace Cc:=(show Kd.R (Kd.int .i64) 3 _ _ _ _ (rd_L1 Ai 0)from Cc)
   have Eh:=Kd.R_putg Cc (0:Int) Ed
   have HN0_go86:=Az.mk (show g≠Ij from by have h_:=IsS76.own_ne HI0.out Am.out (by decide);intro e_;exact h_ (by rw[e_];rfl))
   rw[←Ie.out]at Eh
   have HS93:=hbk93 Eh.2 (fun k_ e_=>by injection e_ with e_;subst e_;exact Cc.1 _ rfl) (x':=Gw) (Kd.M_row Eh.1)
   rw[←Ig.out]at HS93
   have Kn:=Az.mk HS93
   clear Eh HS93 hbk93 hok93
   refine hK.out _ _ (HS0_) (fun hHeld=>?_)
   clear hK K
   refine norm_ (a':=?_) ?_ ?_
   rotate_left
   ·show Act.put _ (some 85) _=_
    exact acq
   refine pu (i:=6) (N:=some 86) #[true,true,true,true,true,true,true,false] (any_of HT_.out (by kernel_rfl)) ?_
   refine last_ (i:=7) (N:=none) #[true,true,true,true,true,true,true,true] rfl rfl (one_of HT_.out (by kernel_rfl)) (by decide) (fun K hK=>?_)
   refine skip_ (w1:=?_) (by rfl) rfl ?_ ?_
   rotate_left
   ·go_simp
    rfl
   refine hK.out _ _ ?_
   clear hK K
   refine done_ (done_of HT_.out (by kernel_rfl)) ?_
   try go_wp2
   go_ret2
   exact⟨_,_,by first|rfl|(simp[eWn,eWs] <;> rfl)|(simp only[←Cd];first|rfl|(simp[eWn,eWs] <;> rfl))|(simp[*,eWn,eWs] <;> rfl),by(with_reducible repeat(first|apply Kd.S_alloc|apply Kd.S_drewN|apply Kd.S_drew));exact Kd.S_mono Kn.out (fun _ hk=>hk.1),by(with_reducible repeat(first|apply Kd.Q_alloc|apply Kd.Q_drewN|apply Kd.Q_drew));exact Kd.Q_mono (Kd.Q_far (p:=⟨Ij,0,none⟩) (Kd.Q_far1 Aa.out rfl ((Am.out.1 _ rfl).1.1)) (fun _ hk=>hk.2) (.int .i64 Ed)) (fun _ hk=>trivial),by repeat(first|(with_reducible first|exact HI0.out|apply IsS76.alloc|apply IsS76.drewN|apply IsS76.drew|apply IsS76.set_1|apply IsS76.set_2|refine IsS76.far ?_ HN0_go86.out _)|exact HI0.out),by repeat(first|(with_reducible first|exact HB.out|apply bwA|apply pbN|apply bwD|refine bwS ?_ (Nat.le_trans HL.out Im.out)|refine bwS ?_ (IsS76.ge HI0.out))|exact HB.out),by repeat(first|(with_reducible first|exact HK.out|apply KeepBut.set_|apply keep_drewN|apply keep_drew|apply keep_alloc|refine keep_far ?_ Im.out _)|exact HK.out)⟩
theorem bw_14 {n:Nat}{v v':World} (h:Below n v v':=by repeat(first|(with_reducible first|exact HB.out|apply bwA|apply pbN|apply bwD)|exact HB.out)):Below n v v':=h
theorem ln_14 {P:Prop} (h:P:=by(try simp only[List.map_toArray,List.map_cons,List.map_nil]);first|done|rfl|(simp only[List.length_drop,List.length_take];rfl)):P:=h
def jV.f (s0_0:List Int) (s0_1:Int) (s0_2:Int) (a1:Int):Option (Bool × Int × Int):=(fO.f s0_0 s0_1 s0_2 a1).bind fun bt325=>(some ((bt325.1== 0),bt325.2.1,bt325.2.2))
theorem jV.calls (g:Nat) (Aa:List Int) (Ab:Int) (Ac:Int) (a1:Int) (r1:Bool) (r2:Int) (r3:Int) (w0 w:World) (hI:IsS76 w0 w g Aa Ab Ac) (hB:Below w0.heap.size w0 w) (h:jV.f Aa Ab Ac a1=some (r1,r2,r3)):
  Calls Try.prog 63 #[.pointer (some ⟨g,0,none⟩), .int .i64 a1] w fun e w'=>e= .returned (.bool r1)∧IsS76 w0 w' g Aa r2 r3∧Below w0.heap.size w0 w'∧KeepBut w w' g none:=by
 have HI0:=Az.mk hI
 have HK:=Az.mk (KeepBut.refl w g none)
 have HL:=Az.mk hB.size
 clear hI
 have HW0:=Az.mk hB.size
 have HB:=Az.mk hB
 clear hB
 have H:=h
 unfold jV.f at H
 clear h
 replace H:=bez H
 obtain⟨⟨Af,Ag,Ah⟩,A3,H⟩:=H
 try dsimp only at H
 simp only[Option.some.injEq,Prod.mk.injEq]at H
 obtain⟨rfl,rfl,rfl⟩:=H
 go_enter Try.func63,Try.ntmps63
 go_wp2_with (first|((with_reducible refine gtC (f:=62) rfl ?_);refine clz Try.func62 (some 7) #[.pointer (some ⟨g,0,none⟩), .int .i64 a1] ?_;(with_reducible refine(fO.calls g Aa Ab Ac a1 Af Ag Ah w0 _ ?Ad ?Ae A3.out).mono ?_);(case Ad=>exact(kI HI0.out));(case Ae=>exact kG HB.out (IsS76.ge HI0.out));rintro e w4 ⟨rfl,hi,hb,hk⟩;refine⟨_,rfl,?_⟩;replace HK:=Az.mk (KeepBut.trans (kK HK.out) hk (.inl rfl));replace HB:=Az.mk (hb);replace HI0:=Az.mk (hi);(try clear hb);(try clear hk);(try clear hi)))
 go_ret
 exact⟨rq1,kI HI0.out,kG HB.out (IsS76.ge HI0.out),kK HK.out⟩
def jP.f (k:Nat) (l0:List Int):Option ((List (List Int)) × List Int × Int):=(jG.f k l0).bind fun bt328=>((fQ.f k bt328.1 bt328.2.1 bt328.2.2).bind fun bt332=>((fO.f bt328.1 bt332.2.2.1 bt332.2.2.2 7).bind fun bt340=>((jV.f bt328.1 bt340.2.1 bt340.2.2 14).bind fun bt343=>((gJ.f bt343.1).bind fun t346=>(some (bt332.1,bt332.2.1,wrap64 ((wrap64 (1+bt340.1)) - t346)))))))
theorem jP.calls (k:Nat) (A0:Option Addr) (c0:Nat) (l0:List Int) (r1:List (List Int)) (r2:List Int) (r3:Int) (w:World) (Ba:Kd.C (Kd.int .u8) w A0 l0.length l0) (Bb:l0.length≤c0) (h:jP.f k l0=some (r1,r2,r3)):
  Calls Try.prog 32 #[.slice A0 l0.length c0] w fun e w'=>∃v0_ v1_:Value,e= .returned (.tuple #[v0_,v1_, .int .i64 r3])∧Kd.S (Kd.slice 3 (Kd.int .i64)) 25 w' w.heap.size (fun k_=>some k_≠(v1_:Value).ownBlock) v0_ r1∧Kd.Q (Kd.int .i64) 3 w' w.heap.size (fun _=>True) v1_ r2∧Below w.heap.size w w':=by
 have Bf:=Az.mk Ba
 have Bh:=Az.mk Bb
 clear Ba Bb
 have HB:=Az.mk (Below.refl w.heap.size w)
 have H:=h
 unfold jP.f at H
 clear h
 replace H:=bez H
 obtain⟨⟨Ad,Al,Am⟩,A2,H⟩:=H
 try dsimp only at H
 replace H:=bez H
 obtain⟨⟨Aq,As,Ag,Ah⟩,A3,H⟩:=H
 try dsimp only at H
 replace H:=bez H
 obtain⟨⟨Au,Ai,Aj⟩,A4,H⟩:=H
 try dsimp only at H
 replace H:=bez H
 obtain⟨⟨Ak,Av,Ax⟩,A5,H⟩:=H
 try dsimp only at H
 replace H:=bez H
 obtain⟨Ay,A6,H⟩:=H
 try dsimp only at H
 simp only[Option.some.injEq,Prod.mk.injEq]at H
 obtain⟨rfl,rfl,rfl⟩:=H
 go_enter Try.func32,Try.ntmps32
 go_wp2_with (first|((with_reducible refine gtC (f:=60) rfl ?_);refine clz Try.func60 (some 9) #[.slice A0 l0.length c0] ?_;(with_reducible refine(jG.calls k _ _ l0 Ad Al Am w _ ?Aa ?Ab ?Ap A2.out).mono ?_);(case Aa=>exact bw_14);(case Ab=>exact Bf.out);(case Ap=>exact Bh.out);rintro e w7 ⟨Ac,rfl,hi,hb,hb2⟩;refine⟨_,rfl,?_⟩;replace HB:=Az.mk (hb);have HI331:=Az.mk (hi);(try clear hb);(try clear hb2);(try clear hi))|((with_reducible refine gtC (f:=61) rfl ?_);refine clz Try.func61 (some 12) #[.pointer (some ⟨Ac,0,none⟩)] ?_;(with_reducible refine(fQ.calls k Ac Ad Al Am Aq As Ag Ah w _ ?Aa ?Ab A3.out).mono ?_);(case Aa=>exact(kI HI331.out));(case Ab=>exact kG HB.out (IsS76.ge HI331.out));rintro e w8 ⟨Bi,Bj,rfl,Bc,Bd,hi,hb,hk⟩;refine⟨_,rfl,?_⟩;have Ae:=Az.mk (Kd.S_lower Bc (bwZ (kG HB.out (IsS76.ge HI331.out))));have Af:=Az.mk (Kd.Q_lower Bd (bwZ (kG HB.out (IsS76.ge HI331.out))));replace HB:=Az.mk (hb);replace HI331:=Az.mk (hi);(try clear hb);(try clear hk);(try clear hi);(try clear Bc);(try clear Bd))|((with_reducible refine gtC (f:=62) rfl ?_);refine clz Try.func62 (some 18) #[.pointer (some ⟨Ac,0,none⟩), .int .i64 7] ?_;(with_reducible refine(fO.calls Ac Ad Ag Ah 7 Au Ai Aj w _ ?Aa ?Ab A4.out).mono ?_);(case Aa=>exact(kI HI331.out));(case Ab=>exact kG HB.out (IsS76.ge HI331.out));rintro e w9 ⟨rfl,hi,hb,hk⟩;refine⟨_,rfl,?_⟩;replace Ae:=Az.mk (Kd.S_mono (Kd.S_keep (IsS76.apartS (show IsS76 w _ Ac Ad Ag Ah from kI HI331.out) (kS Ae.out) (by decide)) hk (fun _ h=>h.2)) (fun _ h=>h.1));replace Af:=Az.mk (Kd.Q_mono (Kd.Q_keep (IsS76.apartQ (show IsS76 w _ Ac Ad Ag Ah from kI HI331.out) (kQ Af.out) (by decide)) hk (fun _ h=>h.2)) (fun _ h=>h.1));replace HB:=Az.mk (hb);replace HI331:=Az.mk (hi);(try clear hb);(try clear hk);(try clear hi))|((with_reducible refine gtC (f:=63) rfl ?_);refine clz Try.func63 (some 21) #[.pointer (some ⟨Ac,0,none⟩), .int .i64 14] ?_;(with_reducible refine(jV.calls Ac Ad Ai Aj 14 Ak Av Ax w _ ?Aa ?Ab A5.out).mono ?_);(case Aa=>exact(kI HI331.out));(case Ab=>exact kG HB.out (IsS76.ge HI331.out));rintro e Bk ⟨rfl,hi,hb,hk⟩;refine⟨_,rfl,?_⟩;replace Ae:=Az.mk (Kd.S_mono (Kd.S_keep (IsS76.apartS (show IsS76 w _ Ac Ad Ai Aj from kI HI331.out) (kS Ae.out) (by decide)) hk (fun _ h=>h.2)) (fun _ h=>h.1));replace Af:=Az.mk (Kd.Q_mono (Kd.Q_keep (IsS76.apartQ (show IsS76 w _ Ac Ad Ai Aj from kI HI331.out) (kQ Af.out) (by decide)) hk (fun _ h=>h.2)) (fun _ h=>h.1));replace HB:=Az.mk (hb);replace HI331:=Az.mk (hi);(try clear hb);(try clear hk);(try clear hi))|((with_reducible refine gtC (f:=55) rfl ?_);refine clz Try.func55 (some 22) #[.bool Ak] ?_;(with_reducible refine(gJ.calls Ak Ay _ A6.out).mono ?_);rintro e w' ⟨rfl,⟨nd,rfl⟩⟩;refine⟨_,rfl,?_⟩))
 go_ret3
 exact⟨_,_,rq1,kS Ae.out,kQ Af.out,kG HB.out (IsS76.ge HI331.out)⟩
def jN.f (k:Nat) (l0:List Int):Option ((List (List Int)) × List Int × Int):=(jP.f k l0).bind fun bt347=>(some (bt347.1,bt347.2.1,bt347.2.2))
theorem jN.calls (k:Nat) (A0:Option Addr) (c0:Nat) (l0:List Int) (r1:List (List Int)) (r2:List Int) (r3:Int) (w:World) (Ah:Kd.C (Kd.int .u8) w A0 l0.length l0) (Ai:l0.length≤c0) (h:jN.f k l0=some (r1,r2,r3)):
  Calls Try.prog 5 #[.slice A0 l0.length c0] w fun e w'=>∃v0_ v1_:Value,e= .returned (.tuple #[v0_,v1_, .int .i64 r3])∧Kd.S (Kd.slice 3 (Kd.int .i64)) 25 w' w.heap.size (fun k_=>some k_≠(v1_:Value).ownBlock) v0_ r1∧Kd.Q (Kd.int .i64) 3 w' w.heap.size (fun _=>True) v1_ r2∧Below w.heap.size w w':=by
 have Al:=Az.mk Ah
 have Am:=Az.mk Ai
 clear Ah Ai
 have HB:=Az.mk (Below.refl w.heap.size w)
 have H:=h
 unfold jN.f at H
 clear h
 replace H:=bez H
 obtain⟨⟨Ae,Af,Ag⟩,A2,H⟩:=H
 try dsimp only at H
 simp only[Option.some.injEq,Prod.mk.injEq]at H
 obtain⟨rfl,rfl,rfl⟩:=H
 go_enter Try.func5,Try.ntmps5
 go_wp2_with (first|((with_reducible refine gtC (f:=32) rfl ?_);refine clz Try.func32 (some 10) #[.slice A0 l0.length c0] ?_;(with_reducible refine(jP.calls k _ _ l0 Ae Af Ag _ ?Aa ?Ab A2.out).mono ?_);(case Aa=>exact kC Al.out);(case Ab=>exact Am.out);rintro e w3 ⟨Ap,Aq,rfl,Aj,Ak,hb⟩;refine⟨_,rfl,?_⟩;have Ac:=Az.mk (Kd.S_lower Aj (bwZ bw_14));have Ad:=Az.mk (Kd.Q_lower Ak (bwZ bw_14));replace HB:=Az.mk (bwT bw_14 hb);(try clear hb);(try clear Aj);(try clear Ak)))
 go_ret3
 exact⟨_,_,rq1,kS Ac.out,kQ Ad.out,bw_14⟩
def jB.l0:Nat→Int→List Int→Int→Int→Option (Int)
 |0,_,_,_,_=>none
 |k+1,x1,x7,x8,x9=>if x9<x8 then(if 0≤x9 then(if x9<(x7.length:Int) then(if(rd x7 x9)=x1 then(some x9) else(jB.l0 k x1 x7 x8 (wrap64 (x9+1)))) else(none)) else(none)) else(some (-1))
def jB.f (k:Nat) (l0:List Int) (a1:Int):Option (Int):=jB.l0 k a1 l0 (l0.length:Int) 0
theorem jB.calls (k:Nat) (A0:Option Addr) (c0:Nat) (l0:List Int) (a1:Int) (r:Int) (w:World) (Aj:Kd.C (Kd.int .i64) w A0 l0.length l0) (Ak:l0.length≤c0) (h:jB.f k l0 a1=some r):
  Calls Try.prog 64 #[.slice A0 l0.length c0, .int .i64 a1] w fun e w'=>e= .returned (.int .i64 r)∧Drawn0 w w':=by
 have Al:=Az.mk Aj
 have Aq:=Az.mk Ak
 clear Aj Ak
 have H:=h
 unfold jB.f at H
 clear h
 have H':=Az.mk H
 clear H
 go_enter Try.func64,Try.ntmps64
 go_wp2
 go_loopg [9] k (fun kq v9 w'=>∃(Aa:Int),v9= .int .i64 Aa∧Az (jB.l0 kq a1 l0 (l0.length:Int) Aa=some r)∧Az (kq≤k)∧Drawn0 w w')
 case atStart=>exact⟨(0),rq2,H',⟨Nat.le_refl _⟩,kd⟩
 clear H'
 obtain⟨Aa,rfl,HA,HK1,⟨m1,rfl⟩⟩:=hrel
 cases gk with
 |zero=>exact absurd HA.out (by simp[jB.l0])
 |succ k1=>
  have H:=HA.out
  clear HA
  simp only[jB.l0]at H
  by_cases c3:Aa<(l0.length:Int)
  rotate_left
  ·rw[ig c3]at H
   have Ag:=decide_eq_false c3
   clear c3
   obtain rfl:=Option.some.inj H
   go_wp2
   go_ret
   exact⟨rq2,kd⟩
  rw[ip c3]at H
  have Ag:=ode c3
  clear c3
  by_cases c4:0≤Aa
  rotate_left
  ·rw[ig c4]at H
   exact absurd H (by simp)
  rw[ip c4]at H
  have Am:=ode c4
  clear c4
  by_cases c5:Aa<(l0.length:Int)
  rotate_left
  ·rw[ig c5]at H
   exact absurd H (by simp)
  rw[ip c5]at H
  have Ap:=ode c5
  clear c5
  by_cases c6:(rd l0 Aa)=a1
  ·rw[ip c6]at H
   have Ah:=beq_iff_eq.mpr c6
   have Ai:=bne_eq_false_iff_eq.mpr c6
   clear c6
   obtain rfl:=Option.some.inj H
   have Ab:0≤(Aa:Int):=od
   have Ac:Aa<(l0.length:Int):=od
   obtain⟨Af,Ae,Ad⟩:=Kd.at_int Al.out Aa Ab Ac
   cases Ae
   replace Ab:=ets Ab
   replace Ac:=ets Ac
   go_wp2
   go_ret
   exact⟨rq2,kd⟩
  rw[ig c6]at H
  have Ah:=beq_eq_false_iff_ne.mpr c6
  have Ai:=bne_iff_ne.mpr c6
  have H':=Az.mk H
  clear H
  have Ab:0≤(Aa:Int):=od
  have Ac:Aa<(l0.length:Int):=od
  obtain⟨Af,Ae,Ad⟩:=Kd.at_int Al.out Aa Ab Ac
  cases Ae
  replace Ab:=ets Ab
  replace Ac:=ets Ac
  go_wp2
  go_roundg k1
  case measure=>have:=HK1.out;omega
  case rel=>exact⟨(wrap64 (Aa+1)),rq2,H',⟨by have:=HK1.out;omega⟩,kd⟩
def gP.l0:Nat→Int→List (List Int)→Int→Int→Option (Int × Int)
 |0,_,_,_,_=>none
 |k+1,x1,x9,x10,x11=>if x11<x10 then(if 0≤x11 then(if x11<(x9.length:Int) then((jB.f k (rd_L1 x9 x11) x1).bind fun t356=>(if t356 ≥ 0 then(some (x11,t356)) else(gP.l0 k x1 x9 x10 (wrap64 (x11+1))))) else(none)) else(none)) else(some ((-1),(-1)))
def gP.f (k:Nat) (l0:List (List Int)) (a1:Int):Option (Int × Int):=gP.l0 k a1 l0 (l0.length:Int) 0
theorem gP.calls (k:Nat) (A0:Option Addr) (c0:Nat) (l0:List (List Int)) (a1:Int) (r1:Int) (r2:Int) (w:World) (Av:Kd.C (Kd.slice 3 (Kd.int .i64)) w A0 l0.length l0) (Ax:l0.length≤c0) (h:gP.f k l0 a1=some (r1,r2)):
  Calls Try.prog 33 #[.slice A0 l0.length c0, .int .i64 a1] w fun e w'=>e= .returned (.tuple #[.int .i64 r1, .int .i64 r2])∧Drawn0 w w':=by
 have Ay:=Az.mk Av
 have Bd:=Az.mk Ax
 clear Av Ax
 have H:=h
 unfold gP.f at H
 clear h
 have H':=Az.mk H
 clear H
 go_enter Try.func33,Try.ntmps33
 go_wp2
 go_loopg [11] k (fun kq Ba w'=>∃(Aa:Int),Ba= .int .i64 Aa∧Az (gP.l0 kq a1 l0 (l0.length:Int) Aa=some (r1,r2))∧Az (kq≤k)∧Drawn0 w w')
 case atStart=>exact⟨(0),rq2,H',⟨Nat.le_refl _⟩,kd⟩
 clear H'
 obtain⟨Aa,rfl,HA,HK1,⟨m1,rfl⟩⟩:=hrel
 cases gk with
 |zero=>exact absurd HA.out (by simp[gP.l0])
 |succ k1=>
  have H:=HA.out
  clear HA
  simp only[gP.l0]at H
  by_cases c3:Aa<(l0.length:Int)
  rotate_left
  ·rw[ig c3]at H
   have As:=decide_eq_false c3
   clear c3
   simp only[Option.some.injEq,Prod.mk.injEq]at H
   obtain⟨rfl,rfl⟩:=H
   go_wp2
   go_ret2
   exact⟨rq2,kd⟩
  rw[ip c3]at H
  have As:=ode c3
  clear c3
  by_cases c4:0≤Aa
  rotate_left
  ·rw[ig c4]at H
   exact absurd H (by simp)
  rw[ip c4]at H
  have Bb:=ode c4
  clear c4
  by_cases c5:Aa<(l0.length:Int)
  rotate_left
  ·rw[ig c5]at H
   exact absurd H (by simp)
  rw[ip c5]at H
  have Bc:=ode c5
  clear c5
  replace H:=bez H
  obtain⟨Aj,A6,H⟩:=H
  try dsimp only at H
  by_cases c7:Aj ≥ 0
  ·rw[ip c7]at H
   have Au:decide (0≤Aj)=true:=ode c7
   clear c7
   simp only[Option.some.injEq,Prod.mk.injEq]at H
   obtain⟨rfl,rfl⟩:=H
   have Af:0≤(Aa:Int):=od
   have Ag:Aa<(l0.length:Int):=od
   obtain⟨Aq,Ah,Ai,Ap,Am,Ab,Ac⟩:=at_L1 Ay.out Aa Af Ag
   cases Ap
   have Ad:=Az.mk Ac
   have Ae:=Az.mk Ab
   clear Ac Ab
   replace Af:=ets Af
   replace Ag:=ets Ag
   go_wp2_with (first|((with_reducible refine gtC (f:=64) rfl ?_);refine clz Try.func64 (some 18) #[.slice Ah (rd_L1 l0 Aa).length Ai, .int .i64 a1] ?_;(with_reducible refine(jB.calls k1 _ _ (rd_L1 l0 Aa) a1 Aj _ ?Ak ?Al A6.out).mono ?_);(case Ak=>exact kC Ad.out);(case Al=>exact Ae.out);rintro e w' ⟨rfl,⟨nd,rfl⟩⟩;refine⟨_,rfl,?_⟩))
   go_ret2
   exact⟨rq2,kd⟩
  rw[ig c7]at H
  have Au:decide (0≤Aj)=false:=decide_eq_false c7
  clear c7
  have H':=Az.mk H
  clear H
  have Af:0≤(Aa:Int):=od
  have Ag:Aa<(l0.length:Int):=od
  obtain⟨Aq,Ah,Ai,Ap,Am,Ab,Ac⟩:=at_L1 Ay.out Aa Af Ag
  cases Ap
  have Ad:=Az.mk Ac
  have Ae:=Az.mk Ab
  clear Ac Ab
  replace Af:=ets Af
  replace Ag:=ets Ag
  go_wp2_with (first|((with_reducible refine gtC (f:=64) rfl ?_);refine clz Try.func64 (some 18) #[.slice Ah (rd_L1 l0 Aa).length Ai, .int .i64 a1] ?_;(with_reducible refine(jB.calls k1 _ _ (rd_L1 l0 Aa) a1 Aj _ ?Ak ?Al A6.out).mono ?_);(case Ak=>exact kC Ad.out);(case Al=>exact Ae.out);rintro e w' ⟨rfl,⟨nd,rfl⟩⟩;refine⟨_,rfl,?_⟩))
  go_roundg k1
  case measure=>have:=HK1.out;omega
  case rel=>exact⟨(wrap64 (Aa+1)),rq2,H',⟨by have:=HK1.out;omega⟩,kd⟩
def gY.f (a0:Int) (a1:Int) (a2:Int):Option (Bool):=if a0 ≥ a1 then(some (decide (a0≤a2))) else(some false)
theorem gY.calls (a0:Int) (a1:Int) (a2:Int) (r:Bool) (w:World) (h:gY.f a0 a1 a2=some r):
  Calls Try.prog 46 #[.int .i64 a0, .int .i64 a1, .int .i64 a2] w fun e w'=>e= .returned (.bool r)∧Drawn0 w w':=by
 have H:=h
 unfold gY.f at H
 clear h
 by_cases c4:a0 ≥ a1
 ·rw[ip c4]at H
  have Aa:decide (a1≤a0)=true:=ode c4
  clear c4
  obtain rfl:=Option.some.inj H
  go_enter Try.func46,Try.ntmps46
  go_wp2
  go_ret
  exact⟨rq2,kd⟩
 rw[ig c4]at H
 have Aa:decide (a1≤a0)=false:=decide_eq_false c4
 clear c4
 obtain rfl:=Option.some.inj H
 go_enter Try.func46,Try.ntmps46
 go_wp2
 go_ret
 exact⟨rq2,kd⟩
theorem bw_15 {n:Nat}{v v':World} (h:Below n v v':=by repeat(first|(with_reducible first|exact HB.out|apply bwA|apply pbN|apply bwD)|exact HB.out)):Below n v v':=h
theorem tri_law:Go.Maps.Keyed Try.prog 3:=Go.Maps.int_keyed Try.underlying3
theorem tri_zero (w:World):(zeroValue 4).run Try.prog w= .ok (.bool false) w:=by kernel_rfl
theorem tri_bool_inv {H:Type}{P:Program}{e:TypeId} (he:P.underlying e=some .bool){v:Value}{z:DataW H × List MemPlace} (h:plainElem P e v=some z):∃x,v= .bool x∧z=(.lit (.bool x),[]):=by
 unfold plainElem at h
 rw[he]at h
 cases v <;> simp at h
 exact⟨_,rfl,h.symm⟩
/-- the block B is a map that holds the numbers seen -/
def TriSeen (w:World) (B:Nat) (seen:List Int):Prop:=seen.Nodup∧(∀x∈seen, -9≤x∧x≤9)∧∃D:DataW Unit,w.ownsMap Try.prog 3 (plainElem Try.prog 4) B seen.length D∧Go.Maps.IsMap D∧∀x,D.atKey (.int .i64 x) (.lit (.bool false))= .lit (.bool (decide (x∈seen)))
theorem tri_pigeon:∀(N:Nat) (l:List Nat),l.Nodup→(∀x∈l,x<N)→l.length≤N
 |0,l,_,h=>by
  cases l with
  |nil=>simp
  |cons a l=>exact absurd (h a (by simp)) (by omega)
 |N+1,l,hd,h=>by
  by_cases hN:N∈l
  rotate_left
  ·have h1:=tri_pigeon N l hd (fun x hx=>by
    have h3:=h x hx
    have h4:x≠N:=fun e=>hN (e ▸ hx)
    omega)
   omega
  have h1:=tri_pigeon N (l.erase N) (hd.erase N) (fun x hx=>by
   have h2:=(hd.mem_erase_iff).1 hx
   have h3:=h x h2.2
   have h4:=h2.1
   omega)
  rw[List.length_erase_of_mem hN]at h1
  omega
theorem tri_short {seen:List Int} (hd:seen.Nodup) (hr:∀x∈seen, -9≤x∧x≤9):seen.length≤19:=by
 have h1:=tri_pigeon 19 (seen.map fun x=>(x+9).toNat) (by
  refine List.pairwise_map.2 (List.Pairwise.imp_of_mem ?_ hd)
  intro a b ha hb hab h
  have:=hr a ha
  have:=hr b hb
  omega) (by
  intro x hx
  obtain⟨y,hy,rfl⟩:=List.mem_map.1 hx
  have:=hr y hy
  omega)
 simpa using h1
theorem TriSeen.made (w:World):TriSeen (w.alloc (.map #[] 0)) w.heap.size []:=
 ⟨List.nodup_nil,fun _ h=>by simp at h, .map [],World.ownsMap_made _ _ _ _,Go.Maps.isMap_empty,fun x=>by simp[DataW.atKey]⟩
theorem tri_put {seen:List Int}{D:DataW Unit} (hm:Go.Maps.IsMap D) (hD:∀x,D.atKey (.int .i64 x) (.lit (.bool false))= .lit (.bool (decide (x∈seen)))) (y x:Int):
  (D.put (.int .i64 y) (.lit (.bool true))).atKey (.int .i64 x) (.lit (.bool false))= .lit (.bool (decide (x∈y :: seen))):=by
 by_cases h:x=y
 ·subst h
  rw[Go.Maps.atKey_put_same hm (by simp[WideAt.IsKeyLit])]
  simp
 rw[Go.Maps.atKey_put_other (by simp[h]),hD x]
 simp[h]
theorem TriSeen.drewN {w:World}{B:Nat}{seen:List Int} (h:TriSeen w B seen) (n:Nat):TriSeen (World.drewN w n) B seen:=by
 induction n generalizing w with
 |zero=>exact h
 |succ n ih=>exact ih (w:=w.drew) ⟨h.1,h.2.1,h.2.2⟩
theorem TriSeen.look {w:World}{B:Nat}{seen:List Int} (h:TriSeen w B seen){X:Int} (hw:(Lit.int .i64 X).wf=true):Sem.run Try.prog (Instr.lookup 74 (.map (some B)) (.int .i64 X) false) w= .ok (.bool (decide (X∈seen))) w:=by
 obtain⟨_,_,D,hown,hm,hD⟩:=h
 obtain⟨v,ps,hrun,hat⟩:=hown.lookup tri_law Try.underlying74 (tri_zero w) (plainElem_bool Try.underlying4 false) (Go.Maps.keyOf_int_mk Try.underlying3 hw)
 obtain⟨c',rfl,hz'⟩:=tri_bool_inv Try.underlying4 hat
 simp only[Prod.mk.injEq]at hz'
 have:c'=decide (X∈seen):=by have:=hz'.1.symm.trans (hD X);simpa using this
 subst this
 exact hrun
theorem TriSeen.put {w:World}{B:Nat}{seen:List Int} (h:TriSeen w B seen){X:Int} (hw:(Lit.int .i64 X).wf=true) (hr: -9≤X∧X≤9) (hn:X ∉ seen):∃w',Sem.run Try.prog (Instr.mapUpdate 74 (.map (some B)) (.int .i64 X) (.bool true)) w= .ok () w'∧TriSeen w' B (X :: seen)∧w.grownBy w' (some B):=by
 obtain⟨h1,h2,D,hown,hm,hD⟩:=h
 have hs:=tri_short h1 h2
 obtain⟨w',hrun,hown',hg⟩:=hown.update tri_law Try.underlying74 (by unfold maxLen;omega) (Go.Maps.keyOf_int_mk Try.underlying3 hw) (plainElem_bool Try.underlying4 true)
 exact⟨w',hrun,⟨List.nodup_cons.2 ⟨hn,h1⟩,fun x hx=>by
  rcases List.mem_cons.1 hx with rfl|hx
  ·exact hr
  exact h2 x hx,_,hown',hm.put _ _,tri_put hm hD X⟩,hg⟩
theorem tri_neg {N:Int} (h:N≤9∧3≤N):wrap64 (-N)= -N:=by
 unfold wrap64;omega
theorem tri_within {a b c:Int} (h:gY.f a b c=some true):b≤a∧a≤c:=by
 unfold gY.f at h
 split at h
 ·exact⟨by omega,by simpa using h⟩
 simp at h
mutual
def fC.j0:Nat→List (List Int)→Int→Bool→Option (Bool)
 |0,_,_,_=>none
 |k+1,x0,x3,x20=>if x20=true then(some false) else(fC.l0 k x0 x3 [] 0)
def fC.l0:Nat→List (List Int)→Int→List Int→Int→Option (Bool)
 |0,_,_,_,_=>none
 |k+1,x0,x3,x4,x5=>if x5<(x0.length:Int) then(if 0≤x5 then(if((rd_L1 x0 x5).length:Int)=3 then(fC.l1 k x0 x3 x4 x5 0) else(some false)) else(none)) else(some true)
def fC.l1:Nat→List (List Int)→Int→List Int→Int→Int→Option (Bool)
 |0,_,_,_,_,_=>none
 |k+1,x0,x3,x4,x5,x6=>if x6<((rd_L1 x0 x5).length:Int) then(if 0≤x6 then(if(rd (rd_L1 x0 x5) x6)=0 then(some false) else((gY.f (rd (rd_L1 x0 x5) x6) (wrap64 (-x3)) x3).bind fun t224=>(if t224=true then(if(rd (rd_L1 x0 x5) x6)∈x4 then(some false) else(fC.l1 k x0 x3 ((rd (rd_L1 x0 x5) x6) :: x4) x5 (wrap64 (x6+1)))) else(some false)))) else(none)) else(fC.l0 k x0 x3 x4 (wrap64 (x5+1)))
end
def fC.f (k:Nat) (l0:List (List Int)):Option (Bool):=if((l0.length:Int) % 2)=0 then((gY.f (wrap64 (Int.tdiv (wrap64 (3*(l0.length:Int))) 2)) 3 9).bind fun t217=>(fC.j0 k l0 (wrap64 (Int.tdiv (wrap64 (3*(l0.length:Int))) 2)) (!t217))) else(fC.j0 k l0 (wrap64 (Int.tdiv (wrap64 (3*(l0.length:Int))) 2)) true)
theorem fC.calls (k:Nat) (A0:Option Addr) (c0:Nat) (l0:List (List Int)) (r:Bool) (w:World) (Bw:Kd.C (Kd.slice 3 (Kd.int .i64)) w A0 l0.length l0) (Bx:l0.length≤c0) (h:fC.f k l0=some r):
  Calls Try.prog 45 #[.slice A0 l0.length c0] w fun e w'=>e= .returned (.bool r)∧Below w.heap.size w w':=by
 have Cd:=Az.mk Bw
 have Cf:=Az.mk Bx
 clear Bw Bx
 have HB:=Az.mk (Below.refl w.heap.size w)
 have H:=h
 unfold fC.f at H
 clear h
 have Bp:=Az.mk H
 clear H
 have hmm:=@run_makeMap Try.prog
 go_enter Try.func45,Try.ntmps45
 go_upto_region 2 with (fail)
 go_cut [21] (fun Ce wc=>∃(kq:Nat) (Ae:Bool),Ce= .bool Ae∧Az (fC.j0 kq l0 (wrap64 (Int.tdiv (wrap64 (3*(l0.length:Int))) 2)) Ae=some r)∧Az (Ae=false→wrap64 (Int.tdiv (wrap64 (3*(l0.length:Int))) 2)≤9∧3≤wrap64 (Int.tdiv (wrap64 (3*(l0.length:Int))) 2))∧Az (Below w.heap.size w wc))
 case first=>
  have H:=Bp.out
  clear Bp
  by_cases c3:((l0.length:Int) % 2)=0
  rotate_left
  ·rw[ig c3]at H
   have Ah:=beq_eq_false_iff_ne.mpr c3
   have Bb:=bne_iff_ne.mpr c3
   (first|rw[Ah]|(simp only[i64_w,i32_w];rw[Ah])|skip)
   have H':=Az.mk H
   clear H
   go_wp2
   go_meet
   case rel=>exact⟨_,(true),rq2,H',⟨fun h=>by simp at h⟩,⟨bw_15⟩⟩
  rw[ip c3]at H
  have Ah:=beq_iff_eq.mpr c3
  have Bb:=bne_eq_false_iff_eq.mpr c3
  clear c3
  (first|rw[Ah]|(simp only[i64_w,i32_w];rw[Ah])|skip)
  replace H:=bez H
  obtain⟨Am,A4,H⟩:=H
  try dsimp only at H
  have H':=Az.mk H
  clear H
  go_wp2_with (first|(go_at_call 46;(with_reducible refine(gY.calls (wrap64 (Int.tdiv (wrap64 (3*(l0.length:Int))) 2)) 3 9 Am _ A4.out).mono ?_);rintro e w' ⟨rfl,⟨nd,rfl⟩⟩))
  go_meet
  case rel=>exact⟨_,(!Am),rq2,H',⟨fun h=>by
   have e:Am=true:=by simpa using h
   subst e
   exact(tri_within A4.out).symm⟩,⟨bw_15⟩⟩
 clear Bp
 try clear c3
 try clear Ah
 try clear Bb
 obtain⟨kq,Ae,rfl,HA,HN,HB⟩:=hcut
 cases kq with
 |zero=>exact absurd HA.out (by simp[fC.j0])
 |succ Bq=>
  have H:=HA.out
  clear HA
  simp only[fC.j0]at H
  by_cases c5:Ae=true
  ·subst c5
   rw[ip rfl]at H
   obtain rfl:=Option.some.inj H
   go_wp2
   go_ret
   exact⟨rq1,bw_15⟩
  replace c5:=Bool.eq_false_iff.mpr c5
  subst c5
  have H':Az (fC.l0 Bq l0 (wrap64 (Int.tdiv (wrap64 (3*(l0.length:Int))) 2)) [] 0=some r):=⟨by rw[ig ff]at H;exact H⟩
  clear H
  have HN9:=Az.mk (HN.out rfl)
  clear HN
  go_wp2
  go_loopg [25] Bq (fun kq v5 w'=>∃(Aj:List Int) (Aa:Int),v5= .int .i64 Aa∧Az (fC.l0 kq l0 (wrap64 (Int.tdiv (wrap64 (3*(l0.length:Int))) 2)) Aj Aa=some r)∧Az (kq≤Bq)∧Az (TriSeen w' wc.heap.size Aj)∧Az (Below w.heap.size w w'))
  case atStart=>exact⟨([]),(0),rq2,H',⟨Nat.le_refl _⟩,⟨TriSeen.made wc⟩,⟨bw_15⟩⟩
  clear H'
  have HBC:=Az.mk HB.out.size
  clear HB
  obtain⟨Aj,Aa,rfl,HA,HK2,HS,HB⟩:=hrel
  cases gk with
  |zero=>exact absurd HA.out (by simp[fC.l0])
  |succ k2=>
   have H:=HA.out
   clear HA
   simp only[fC.l0]at H
   by_cases Ax:Aa<(l0.length:Int)
   rotate_left
   ·rw[ig Ax]at H
    have Bc:=decide_eq_false Ax
    clear Ax
    obtain rfl:=Option.some.inj H
    go_wp2
    go_ret
    exact⟨rq1,bw_15⟩
   rw[ip Ax]at H
   have Bc:=ode Ax
   clear Ax
   by_cases Bk:0≤Aa
   rotate_left
   ·rw[ig Bk]at H
    exact absurd H (by simp)
   rw[ip Bk]at H
   have By:=ode Bk
   clear Bk
   have Ap:0≤(Aa:Int):=od
   have Aq:Aa<(l0.length:Int):=od
   obtain⟨Bz,Br,Bs,Bt,Ac,Af,Ag⟩:=at_L1 Cd.out Aa Ap Aq
   cases Bt
   replace Ac:=kc HB Ac
   have Ak:=Az.mk Ag
   have Bl:=Az.mk Af
   clear Ag Af
   replace Ap:=ets Ap
   replace Aq:=ets Aq
   by_cases As:((rd_L1 l0 Aa).length:Int)=3
   rotate_left
   ·rw[ig As]at H
    have Bd:=beq_eq_false_iff_ne.mpr As
    have Bf:=bne_iff_ne.mpr As
    obtain rfl:=Option.some.inj H
    go_wp2
    go_ret
    exact⟨rq1,bw_15⟩
   rw[ip As]at H
   have Bd:=beq_iff_eq.mpr As
   have Bf:=bne_eq_false_iff_eq.mpr As
   clear As
   have H':=Az.mk H
   clear H
   go_wp2
   go_loopg [34] k2 (fun kq v6 w'=>∃(Ai:List Int) (Ab:Int),v6= .int .i64 Ab∧Az (fC.l1 kq l0 (wrap64 (Int.tdiv (wrap64 (3*(l0.length:Int))) 2)) Ai Aa Ab=some r)∧Az (kq≤k2)∧Az (TriSeen w' wc.heap.size Ai)∧Az (Below w.heap.size w w'))
   case atStart=>exact⟨(Aj),(0),rq2,H',⟨Nat.le_refl _⟩,HS,⟨bw_15⟩⟩
   clear H'
   clear HS Ac HB
   obtain⟨Ai,Ab,rfl,HA,HK3,HS,HB⟩:=hrel
   cases gk with
   |zero=>exact absurd HA.out (by simp[fC.l1])
   |succ k3=>
    have H:=HA.out
    clear HA
    simp only[fC.l1]at H
    by_cases Ay:Ab<((rd_L1 l0 Aa).length:Int)
    rotate_left
    ·rw[ig Ay]at H
     have Bh:=decide_eq_false Ay
     clear Ay
     have H':=Az.mk H
     clear H
     go_wp2
     go_roundg k3
     case measure=>have:=HK2.out;have:=HK3.out;omega
     case rel=>exact⟨(Ai),(wrap64 (Aa+1)),rq2,H',⟨by have:=HK2.out;have:=HK3.out;omega⟩,HS,⟨bw_15⟩⟩
    rw[ip Ay]at H
    have Bh:=ode Ay
    clear Ay
    by_cases Bm:0≤Ab
    rotate_left
    ·rw[ig Bm]at H
     exact absurd H (by simp)
    rw[ip Bm]at H
    have Ca:=ode Bm
    clear Bm
    have Au:0≤(Ab:Int):=od
    have Av:Ab<((rd_L1 l0 Aa).length:Int):=od
    obtain⟨Cb,Bu,Ad⟩:=Kd.at_int Ak.out Ab Au Av
    cases Bu
    replace Ad:=kc HB Ad
    replace Au:=ets Au
    replace Av:=ets Av
    obtain⟨X,hX⟩:∃j_:Int,rd (rd_L1 l0 Aa) Ab=j_:=⟨_,rfl⟩
    rw[hX]at H Ad
    clear hX
    by_cases Al:X=0
    ·rw[ip Al]at H
     have Bi:=beq_iff_eq.mpr Al
     have Bj:=bne_eq_false_iff_eq.mpr Al
     clear Al
     obtain rfl:=Option.some.inj H
     go_wp2
     go_ret
     exact⟨rq1,bw_15⟩
    rw[ig Al]at H
    have Bi:=beq_eq_false_iff_ne.mpr Al
    have Bj:=bne_iff_ne.mpr Al
    clear Al
    replace H:=bez H
    obtain⟨Bv,Bn,H⟩:=H
    try dsimp only at H
    by_cases Bo:Bv=true
    rotate_left
    ·replace Bo:=Bool.eq_false_iff.mpr Bo
     subst Bo
     rw[ig ff]at H
     obtain rfl:=Option.some.inj H
     go_wp2_with (first|(go_at_call 46;(with_reducible refine(gY.calls X (wrap64 (-(wrap64 (Int.tdiv (wrap64 (3*(l0.length:Int))) 2)))) (wrap64 (Int.tdiv (wrap64 (3*(l0.length:Int))) 2)) false _ Bn.out).mono ?_);rintro e w' ⟨rfl,⟨nd,rfl⟩⟩))
     go_ret
     exact⟨rq1,bw_15⟩
    subst Bo
    rw[ip rfl]at H
    have HX:=Az.mk (tri_within Bn.out)
    have Cc:Az (-9≤X∧X≤9):=⟨by
     have h1:=HX.out
     have h2:=HN9.out
     rw[tri_neg h2]at h1
     omega⟩
    have HW:Az ((Lit.int .i64 X).wf=true):=⟨WalkArith.wf_i64 (by have:=Cc.out;omega)⟩
    by_cases Ba:X∈Ai
    ·rw[ip Ba]at H
     have C22:=Az.mk Ba
     clear Ba
     obtain rfl:=Option.some.inj H
     go_wp2_with (first|(go_at_call 46;(with_reducible refine(gY.calls X (wrap64 (-(wrap64 (Int.tdiv (wrap64 (3*(l0.length:Int))) 2)))) (wrap64 (Int.tdiv (wrap64 (3*(l0.length:Int))) 2)) true _ Bn.out).mono ?_);rintro e w' ⟨rfl,⟨nd,rfl⟩⟩;have hlk:=(HS.out.drewN nd).look HW.out;rw[ode C22.out]at hlk))
     go_ret
     exact⟨rq1,bw_15⟩
    rw[ig Ba]at H
    have C22:=Az.mk Ba
    clear Ba
    have H':=Az.mk H
    clear H
    go_wp2_with (first|(go_at_call 46;(with_reducible refine(gY.calls X (wrap64 (-(wrap64 (Int.tdiv (wrap64 (3*(l0.length:Int))) 2)))) (wrap64 (Int.tdiv (wrap64 (3*(l0.length:Int))) 2)) true _ Bn.out).mono ?_);rintro e w' ⟨rfl,⟨nd,rfl⟩⟩;have hlk:=(HS.out.drewN nd).look HW.out;rw[decide_eq_false C22.out]at hlk;obtain⟨w1,hup,hs1,hg1⟩:=(HS.out.drewN nd).put HW.out Cc.out C22.out;have HS1:=Az.mk hs1;have HG1:=Az.mk hg1;clear hs1 hg1))
    go_roundg k3
    case measure=>have:=HK2.out;have:=HK3.out;omega
    case rel=>exact⟨(X :: Ai),(wrap64 (Ab+1)),rq2,H',⟨by have:=HK2.out;have:=HK3.out;omega⟩,HS1,⟨by
     refine Below.grown bw_15 HG1.out HB.out.size (fun j hj=>by cases hj;exact HBC.out)⟩⟩
theorem bw_16 {n:Nat}{v v':World} (h:Below n v v':=by repeat(first|(with_reducible first|exact HB.out|apply bwA|apply pbN|apply bwD)|exact HB.out)):Below n v v':=h
theorem ln_16 {P:Prop} (h:P:=by(try simp only[List.map_toArray,List.map_cons,List.map_nil]);first|done|rfl|(simp only[List.length_drop,List.length_take];rfl)):P:=h
def gT.j0:Nat→List (List Int)→Int→Bool→Option (Bool)
 |0,_,_,_=>none
 |k+1,x0,x1,x20=>if x20=true then(some false) else((gP.f k x0 x1).bind fun bt359=>((gP.f k x0 (wrap64 (-x1))).bind fun bt361=>(some (bt359.1 != bt361.1))))
def gT.f (k:Nat) (l0:List (List Int)) (a1:Int):Option (Bool):=(fC.f k l0).bind fun t357=>(if t357=true then((gY.f a1 1 (wrap64 (Int.tdiv (wrap64 (3*(l0.length:Int))) 2))).bind fun t358=>(gT.j0 k l0 a1 (!t358))) else(gT.j0 k l0 a1 true))
theorem gT.calls (k:Nat) (A0:Option Addr) (c0:Nat) (l0:List (List Int)) (a1:Int) (r:Bool) (w:World) (Am:Kd.C (Kd.slice 3 (Kd.int .i64)) w A0 l0.length l0) (Ap:l0.length≤c0) (h:gT.f k l0 a1=some r):
  Calls Try.prog 20 #[.slice A0 l0.length c0, .int .i64 a1] w fun e w'=>e= .returned (.bool r)∧Below w.heap.size w w':=by
 have Ae:=Az.mk Am
 have Af:=Az.mk Ap
 clear Am Ap
 have HB:=Az.mk (Below.refl w.heap.size w)
 have H:=h
 unfold gT.f at H
 clear h
 have Ag:=Az.mk H
 clear H
 go_enter Try.func20,Try.ntmps20
 go_upto_region 1 with (fail)
 go_cut [20] (fun As wc=>∃(kq:Nat) (Ac:Bool),As= .bool Ac∧Az (gT.j0 kq l0 a1 Ac=some r)∧Az (kq≤k)∧Az (Below w.heap.size w wc))
 case first=>
  have H:=Ag.out
  clear Ag
  replace H:=bez H
  obtain⟨Ah,A4,H⟩:=H
  try dsimp only at H
  by_cases c5:Ah=true
  rotate_left
  ·replace c5:=Bool.eq_false_iff.mpr c5
   subst c5
   rw[ig ff]at H
   have H':=Az.mk H
   clear H
   go_wp2_with (first|((with_reducible refine gtC (f:=45) rfl ?_);refine clz Try.func45 (some 10) #[.slice A0 l0.length c0] ?_;(with_reducible refine(fC.calls k _ _ l0 false _ ?Aa ?Ab A4.out).mono ?_);(case Aa=>exact kC (Kd.C_below Ae.out HB.out));(case Ab=>exact Af.out);rintro e w8 ⟨rfl,hb⟩;refine⟨_,rfl,?_⟩;replace HB:=Az.mk (bwT bw_16 hb);(try clear hb)))
   go_meet
   case rel=>exact⟨_,(true),rq2,H',⟨by first|omega|exact Nat.le_refl _⟩,⟨bw_16⟩⟩
  subst c5
  rw[ip rfl]at H
  replace H:=bez H
  obtain⟨Ad,A6,H⟩:=H
  try dsimp only at H
  have H':=Az.mk H
  clear H
  go_wp2_with (first|((with_reducible refine gtC (f:=45) rfl ?_);refine clz Try.func45 (some 10) #[.slice A0 l0.length c0] ?_;(with_reducible refine(fC.calls k _ _ l0 true _ ?Aa ?Ab A4.out).mono ?_);(case Aa=>exact kC (Kd.C_below Ae.out HB.out));(case Ab=>exact Af.out);rintro e w7 ⟨rfl,hb⟩;refine⟨_,rfl,?_⟩;replace HB:=Az.mk (bwT bw_16 hb);(try clear hb))|(go_at_call 46;(with_reducible refine(gY.calls a1 1 (wrap64 (Int.tdiv (wrap64 (3*(l0.length:Int))) 2)) Ad _ A6.out).mono ?_);rintro e w' ⟨rfl,⟨nd,rfl⟩⟩))
  go_meet
  case rel=>exact⟨_,(!Ad),rq2,H',⟨by first|omega|exact Nat.le_refl _⟩,⟨bw_16⟩⟩
 clear Ag
 try clear c5
 obtain⟨kq,Ac,rfl,HA,Ax,HB⟩:=hcut
 cases kq with
 |zero=>exact absurd HA.out (by simp[gT.j0])
 |succ Aq=>
  have H:=HA.out
  clear HA
  simp only[gT.j0]at H
  by_cases c9:Ac=true
  ·subst c9
   rw[ip rfl]at H
   obtain rfl:=Option.some.inj H
   go_wp2
   go_ret
   exact⟨rq1,bw_16⟩
  replace c9:=Bool.eq_false_iff.mpr c9
  subst c9
  rw[ig ff]at H
  replace H:=bez H
  obtain⟨⟨Ai,Aj⟩,Au,H⟩:=H
  try dsimp only at H
  replace H:=bez H
  obtain⟨⟨Ak,Al⟩,Av,H⟩:=H
  try dsimp only at H
  obtain rfl:=Option.some.inj H
  go_wp2_with (first|((with_reducible refine gtC (f:=33) rfl ?_);refine clz Try.func33 (some 24) #[.slice A0 l0.length c0, .int .i64 a1] ?_;(with_reducible refine(gP.calls Aq _ _ l0 a1 Ai Aj _ ?Aa ?Ab Au.out).mono ?_);(case Aa=>exact kC (Kd.C_below Ae.out HB.out));(case Ab=>exact Af.out);rintro e w' ⟨rfl,⟨nd,rfl⟩⟩;refine⟨_,rfl,?_⟩)|((with_reducible refine gtC (f:=33) rfl ?_);refine clz Try.func33 (some 31) #[.slice A0 l0.length c0, .int .i64 (wrap64 (-a1))] ?_;(with_reducible refine(gP.calls Aq _ _ l0 (wrap64 (-a1)) Ak Al _ ?Aa ?Ab Av.out).mono ?_);(case Aa=>exact kC (Kd.C_below Ae.out bw_16));(case Ab=>exact Af.out);rintro e w' ⟨rfl,⟨nd,rfl⟩⟩;refine⟨_,rfl,?_⟩))
  go_ret
  exact⟨rq1,bw_16⟩
def jL.f (l0:List Int):Option (List Int):=(some (([]:List Int):List Int)).bind fun y363=>(if y363.length+l0.length<17592186044416 then(some (y363 ++ l0)) else(none))
theorem jL.calls (A0:Option Addr) (c0:Nat) (l0:List Int) (r:List Int) (w:World) (Ai:Kd.C (Kd.int .i64) w A0 l0.length l0) (Aj:l0.length≤c0) (h:jL.f l0=some r):
  Calls Try.prog 42 #[.slice A0 l0.length c0] w fun e w'=>∃v0_:Value,e= .returned (v0_)∧Kd.R (Kd.int .i64) 3 w' w.heap.size (fun _=>True) v0_ r∧Below w.heap.size w w':=by
 have Ak:=Az.mk Ai
 have Am:=Az.mk Aj
 clear Ai Aj
 have HB:=Az.mk (Below.refl w.heap.size w)
 have H:=h
 unfold jL.f at H
 clear h
 obtain⟨Aa,hy⟩:∃y_:List Int,y_=(([]:List Int)):=⟨_,rfl⟩
 replace H:(if Aa.length+l0.length<17592186044416 then(some (Aa ++ l0)) else(none))=some r:=rh
 have Ab:=Az.mk hy
 clear hy
 by_cases c2:Aa.length+l0.length<17592186044416
 rotate_left
 ·rw[ig c2]at H
  exact absurd H (by simp)
 rw[ip c2]at H
 have LMc2:=Az.mk c2
 clear c2
 obtain⟨Ag,hy⟩:∃y_:List Int,y_=(Aa ++ l0):=⟨_,rfl⟩
 replace H:(some Ag)=some r:=rh
 have Ad:=Az.mk hy
 clear hy
 obtain rfl:=Option.some.inj H
 go_enter Try.func42,Try.ntmps42
 go_wp2_with (first|((with_reducible refine gtD (N:=3) rfl ?_);refine Kd.R_lit (Kd.int .i64) _ 3 ?hg (N:=3) ?hd (xs:=([]:List Int)) (inner:=[]) (ok:=fun _=>True) (okp:=fun _=>True) ?hr ?hp (fun _ hk=>hk) trivial (Below.refl _ _) (Nat.le_refl _) (by simp) ?_;(case hd=>rfl);(case hg=>rfl);(case hr=>first|(go_simp;done)|(go_simp;rfl));(case hp=>exact(Reps.none _ _));intro Ah w3 Ae hb hg_ hnew_;clear hg_ hnew_;(first|rw[←Ab.out]at Ae|(simp only[Int.reduceToNat]at Ae;rw[←Ab.out]at Ae));have Ac:=Az.mk (Kd.R_lower Ae (bwZ bw_16));replace HB:=Az.mk (bwT bw_16 hb);clear hb Ae)|((with_reducible refine gate_builtin (b:= .append) (xs:= #[.tmp 3, .tmp 4]) rfl ?_);at_builtin;refine Kd.R_append_rows (Kd.int .i64) (w0:=w) w.heap.size rfl (.tmp 3) (.tmp 4) 25 3 (.int .i64 0) 8 rfl Try.underlying25 info3 rfl (by decide) (by omega) Ah Aa l0 _ _ _ (fun _=>True) (fun _=>False) rfl rfl ?aO ?aR (fun _ _ h=>h) (fun _ h=>h.elim) ?aF ?aB ?aS ?aL ?_;(case aR=>exact kC (Kd.C_below Ak.out HB.out));(case aB=>exact bw_16);(case aF=>exact(fun _ _=>trivial));(case aO=>exact(kR Ac.out));(case aS=>exact(bwZ bw_16));(case aL=>have:=LMc2.out;omega);intro Al w5 ho hb hg hat;rw[←Ad.out]at ho;have n0_:=Az.mk (hb);have n1_:=Az.mk (ho);clear HB;clear Ac;have HB:=n0_;have Af:=n1_;clear n0_ n1_;clear ho hb hg hat))
 go_ret
 exact⟨_,rq1,kR Af.out,bw_16⟩
def mB.f (a0:Int) (a1:Int):Option (Int):=if a1=0 then(none) else(if(Int.tmod a0 a1)<0 then(some (wrap64 ((Int.tmod a0 a1)+a1))) else(some (Int.tmod a0 a1)))
theorem mB.calls (a0:Int) (a1:Int) (r:Int) (w:World) (h:mB.f a0 a1=some r):
  Calls Try.prog 65 #[.int .i64 a0, .int .i64 a1] w fun e w'=>e= .returned (.int .i64 r)∧Drawn0 w w':=by
 have H:=h
 unfold mB.f at H
 clear h
 by_cases c3:a1=0
 ·rw[ip c3]at H
  exact absurd H (by simp)
 rw[ig c3]at H
 have Ab:=beq_eq_false_iff_ne.mpr c3
 have Ac:=bne_iff_ne.mpr c3
 by_cases c4:(Int.tmod a0 a1)<0
 ·rw[ip c4]at H
  have Aa:=ode c4
  clear c4
  obtain rfl:=Option.some.inj H
  go_enter Try.func65,Try.ntmps65
  go_wp2
  go_ret
  exact⟨rq2,kd⟩
 rw[ig c4]at H
 have Aa:=decide_eq_false c4
 clear c4
 obtain rfl:=Option.some.inj H
 go_enter Try.func65,Try.ntmps65
 go_wp2
 go_ret
 exact⟨rq2,kd⟩
def gU.f (l0:List Int) (a1:Int):Option (List Int):=if(l0.length:Int)=0 then(some (([]:List Int))) else((mB.f a1 (l0.length:Int)).bind fun t372=>(if 0≤t372 then(if t372≤(l0.length:Int) then((jL.f (l0.drop (t372:Int).toNat)).bind fun t374=>(if t374.length+(l0.take (t372:Int).toNat).length<17592186044416 then(some (t374 ++ (l0.take (t372:Int).toNat))) else(none))) else(none)) else(none)))
def gU.T4:Bool × List (List Nat × List Nat):=(true,[([],[]),([],[]),([0,1],[0,1]),([2],[2]),([],[]),([],[]),([4,5],[4,5]),([3,6,3],[3,6]),([7,7,0,1,2,3,4,5,6,7],[7])])
def gU.B4:List Nat:=[0,0,3,7,0,0,48,127,255]
theorem gU.tab4:rtab .any (opsOf Try.f34 4)=gU.T4:=by kernel_rfl
theorem gU.bits4:waitsOk gU.T4.2 gU.B4=true:=by kernel_rfl
theorem gU.calls (A0:Option Addr) (c0:Nat) (l0:List Int) (a1:Int) (r:List Int) (w:World) (Bb:Kd.C (Kd.int .i64) w A0 l0.length l0) (Bc:l0.length≤c0) (h:gU.f l0 a1=some r):
  Calls Try.prog 34 #[.slice A0 l0.length c0, .int .i64 a1] w fun e w'=>∃v0_:Value,e= .returned (v0_)∧Kd.R (Kd.int .i64) 3 w' w.heap.size (fun _=>True) v0_ r∧Below w.heap.size w w':=by
 have Bd:=Az.mk Bb
 have Bf:=Az.mk Bc
 clear Bb Bc
 have HB:=Az.mk (Below.refl w.heap.size w)
 have H:=h
 unfold gU.f at H
 clear h
 by_cases c3:(l0.length:Int)=0
 ·rw[ip c3]at H
  have Au:=beq_iff_eq.mpr c3
  have Av:=bne_eq_false_iff_eq.mpr c3
  clear c3
  obtain⟨Ax,hy⟩:∃y_:List Int,y_=(([]:List Int)):=⟨_,rfl⟩
  replace H:(some Ax)=some r:=rh
  have Ac:=Az.mk hy
  clear hy
  obtain rfl:=Option.some.inj H
  go_enter Try.func34,Try.ntmps34
  go_wp2_with (first|((with_reducible refine gtD (N:=8) rfl ?_);refine Kd.R_lit (Kd.int .i64) _ 3 ?hg (N:=8) ?hd (xs:=([]:List Int)) (inner:=[]) (ok:=fun _=>True) (okp:=fun _=>True) ?hr ?hp (fun _ hk=>hk) trivial (Below.refl _ _) (Nat.le_refl _) (by simp) ?_;(case hd=>rfl);(case hg=>rfl);(case hr=>first|(go_simp;done)|(go_simp;rfl));(case hp=>exact(Reps.none _ _));intro Bl w4 Ah hb hg_ hnew_;clear hg_ hnew_;(first|rw[←Ac.out]at Ah|(simp only[Int.reduceToNat]at Ah;rw[←Ac.out]at Ah));have Ai:=Az.mk (Kd.R_lower Ah (bwZ bw_16));replace HB:=Az.mk (bwT bw_16 hb);clear hb Ah))
  go_ret
  exact⟨_,rq1,kR Ai.out,bw_16⟩
 rw[ig c3]at H
 have Au:=beq_eq_false_iff_ne.mpr c3
 have Av:=bne_iff_ne.mpr c3
 have Bm:¬(l0=[]):=fun h_=>c3 (by rw[h_];rfl)
 replace H:=bez H
 obtain⟨Aa,A6,H⟩:=H
 try dsimp only at H
 by_cases c7:0≤Aa
 rotate_left
 ·rw[ig c7]at H
  exact absurd H (by simp)
 rw[ip c7]at H
 have Bn:=ets c7
 have Bo:=ode c7
 clear c7
 by_cases c8:Aa≤(l0.length:Int)
 rotate_left
 ·rw[ig c8]at H
  exact absurd H (by simp)
 rw[ip c8]at H
 have Bp:=ets c8
 have Bq:=ode c8
 clear c8
 replace H:=bez H
 obtain⟨Ab,A9,H⟩:=H
 try dsimp only at H
 have Bh:=ets (od:0≤Aa)
 have Bi:=ets (od:Aa≤(l0.length:Int))
 by_cases As:Ab.length+(l0.take (Aa:Int).toNat).length<17592186044416
 rotate_left
 ·rw[ig As]at H
  exact absurd H (by simp)
 rw[ip As]at H
 have LMc12:=Az.mk As
 clear As
 obtain⟨Ay,hy⟩:∃y_:List Int,y_=(Ab ++ (l0.take (Aa:Int).toNat)):=⟨_,rfl⟩
 replace H:(some Ay)=some r:=rh
 have Aj:=Az.mk hy
 clear hy
 obtain rfl:=Option.some.inj H
 go_enter Try.func34,Try.ntmps34
 try go_wp2_with (first|((with_reducible refine gtC (f:=65) rfl ?_);refine clz Try.func65 (some 12) #[.int .i64 a1, .int .i64 (l0.length:Int)] ?_;(with_reducible refine(mB.calls a1 (l0.length:Int) Aa _ A6.out).mono ?_);rintro e w' ⟨rfl,⟨nd,rfl⟩⟩;refine⟨_,rfl,?_⟩))
 replace HB:=Az.mk (bwD HB.out)
 obtain⟨Br,Ad,_,hsz14,_⟩:=info_parts info3
 obtain⟨Bs,hcut14,hA14,hC14⟩:=print_drop_of (P:=Try.prog) (Value.int .i64) 0 25 3 .i64 Try.underlying25 Ad hsz14 A0 c0 l0 Aa (od) (od) Bf.out
 have Ak:=Az.mk (Kd.C_of_reads (h1:=fun _=>rfl) (hA14 _ (Kd.reads_of_C Bd.out)))
 have Al:=Az.mk hC14
 clear hA14 hC14 Ad hsz14
 obtain⟨Bt,Ae,_,hsz15,_⟩:=info_parts info3
 obtain⟨hcut15,hA15,hC15⟩:=print_take_of (P:=Try.prog) (Value.int .i64) 0 25 3 .i64 Try.underlying25 Ae hsz15 A0 c0 l0 Aa (od) (od) Bf.out
 have Af:=Az.mk (Kd.C_of_reads (h1:=fun _=>rfl) (hA15 _ (Kd.reads_of_C Bd.out)))
 have Bj:=Az.mk hC15
 clear hA15 hC15 Ae hsz15
 refine start_ (n:=9) (S:=fun w'=>True) (ds:=[]) #[false,false,false,false,false,false,false,false,false] (by kernel_rfl) rfl rfl trivial (fun hHeld=>?_);refine with_tabW gU.tab4 gU.bits4 (fun HT_ HW_=>?_)
 replace HB:=Az.mk (bwD (pbN (Below.refl w.heap.size w) nd))
 generalize (World.drewN w nd).drew=Bv at HB hHeld ⊢
 refine pu (i:=0) (N:=some 13) #[true,false,false,false,false,false,false,false,false] (any_of HT_.out (by kernel_rfl)) ?_
 refine pu (i:=1) (N:=some 14) #[true,true,false,false,false,false,false,false,false] (any_of HT_.out (by kernel_rfl)) ?_
 refine pu (i:=2) (N:=some 15) #[true,true,true,false,false,false,false,false,false] (any_of HT_.out (by kernel_rfl)) ?_
 refine pu (i:=4) (N:=some 17) #[true,true,true,false,true,false,false,false,false] (any_of HT_.out (by kernel_rfl)) ?_
 refine pu (i:=5) (N:=some 18) #[true,true,true,false,true,true,false,false,false] (any_of HT_.out (by kernel_rfl)) ?_
 refine pu (i:=6) (N:=some 19) #[true,true,true,false,true,true,true,false,false] (any_of HT_.out (by kernel_rfl)) ?_
 refine one_ (i:=3) (N:=some 16) #[true,true,true,true,true,true,true,false,false] rfl rfl (one_of HT_.out (by kernel_rfl)) (by decide) (fun K hK=>?_)
 refine goes_ Try.func42 (by kernel_rfl) rfl #[.slice Bs (l0.drop (Aa:Int).toNat).length (c0 - Aa.toNat)] (by rfl) rfl rfl (by(try simp only[List.map_toArray,List.map_cons,List.map_nil]);first|done|(rw[show(l0.drop (Aa:Int).toNat).length=(l0.length - Aa.toNat)from List.length_drop] <;> rfl)|rfl|(simp only[List.length_drop,List.length_take];rfl)) ?_
 with_reducible refine(jL.calls _ _ (l0.drop (Aa:Int).toNat) Ab _ ?Am ?Ap A9.out).mono ?_
 (case Am=>exact kC (Kd.C_below Ak.out HB.out))
 (case Ap=>exact Al.out)
 rintro e Bw ⟨Ba,rfl,Bk,hb⟩
 refine⟨_,rfl,?_⟩
 have Ag:=Az.mk (Kd.R_lower Bk (bwZ bw_16));replace HB:=Az.mk (bwT bw_16 hb)
 (try clear hb)
 (try clear hb2)
 (try clear hk)
 (try clear hi)
 (try clear Bk)
 refine hK.out _ _ trivial (fun hHeld=>?_)
 clear hK K
 refine norm_ (a':=?_) ?_ ?_
 rotate_left
 ·show Act.put _ (some 16) _=_
  exact acq
 refine one_ (i:=7) (N:=some 20) #[true,true,true,true,true,true,true,true,false] rfl rfl (one_of HT_.out (by kernel_rfl)) (by decide) (fun K hK=>?_)
 refine Kd.R_append_rows_step (Kd.int .i64) (w0:=w) w.heap.size (by rfl) (.tmp 16) (.tmp 19) 25 3 (.int .i64 0) 8 rfl Try.underlying25 info3 rfl (by decide) (by omega) Ba Ab (l0.take (Aa:Int).toNat) _ _ _ (fun _=>True) (fun _=>False) rfl rfl ?aO ?aR (fun _ _ h=>h) (fun _ h=>h.elim) ?aF ?aB ?aS ?aL ?_
 (case aR=>first|(refine Eq.mp (congrArg (fun m_=>ReadsRow _ _ _ _ m_ (l0.take (Aa:Int).toNat)) (show(l0.take (Aa:Int).toNat).length=Aa.toNat from(by rw[List.length_take];have h_:(Aa:Int)≤(l0.length:Int):=od;omega))) ?_;repeat(first|exact(Kd.C_below Af.out HB.out)|(with_reducible refine Kd.C_alloc ?_ _)|(with_reducible refine Kd.C_drewN ?_ _)|(with_reducible refine Kd.C_drew ?_)))|(repeat(first|exact(Kd.C_below Af.out HB.out)|(with_reducible refine Kd.C_alloc ?_ _)|(with_reducible refine Kd.C_drewN ?_ _)|(with_reducible refine Kd.C_drew ?_))))
 (case aB=>exact bw_16)
 (case aF=>exact(fun _ _=>trivial))
 (case aO=>exact(kR Ag.out))
 (case aS=>exact(bwZ bw_16))
 (case aL=>have:=LMc12.out;have hlx_:=(show(l0.take (Aa:Int).toNat).length=Aa.toNat from(by rw[List.length_take];have h_:(Aa:Int)≤(l0.length:Int):=od;omega));omega)
 intro Bu Bx ho hb hg hat
 rw[←Aj.out]at ho
 have n0_:=Az.mk (hb)
 have n1_:=Az.mk (ho)
 clear HB
 clear Ag
 have HB:=n0_
 have Aq:=n1_
 clear n0_ n1_
 clear ho hb hg hat
 refine hK.out _ _ trivial (fun hHeld=>?_)
 clear hK K
 refine norm_ (a':=?_) ?_ ?_
 rotate_left
 ·show Act.put _ (some 20) _=_
  exact acq
 refine pu (i:=8) (N:=some 4) #[true,true,true,true,true,true,true,true,true] (any_of HT_.out (by kernel_rfl)) ?_
 refine done_ (done_of HT_.out (by kernel_rfl)) ?_
 try go_wp2
 go_ret
 exact⟨_,rq1,kR Aq.out,bw_16⟩
theorem bw_17 {n:Nat}{v v':World} (h:Below n v v':=by repeat(first|(with_reducible first|exact HB.out|apply bwA|apply pbN|apply bwD)|exact HB.out)):Below n v v':=h
def gN.l0:Nat→List (List Int)→List (List Int)→Int→Int→Option ((List (List Int)))
 |0,_,_,_,_=>none
 |k+1,x3,x7,x8,x9=>if x9<x8 then(if 0≤x9 then(if x9<(x7.length:Int) then((jL.f (rd_L1 x7 x9)).bind fun t385=>(if x3.length<5864062014805 then(gN.l0 k (x3 ++ [t385]) x7 x8 (wrap64 (x9+1))) else(none))) else(none)) else(none)) else(some x3)
def gN.f (k:Nat) (l0:List (List Int)):Option ((List (List Int))):=gN.l0 k (([]:List (List Int))) l0 (l0.length:Int) 0
theorem gN.calls (k:Nat) (A0:Option Addr) (c0:Nat) (l0:List (List Int)) (r:List (List Int)) (w:World) (Bk:Kd.C (Kd.slice 3 (Kd.int .i64)) w A0 l0.length l0) (Bl:l0.length≤c0) (h:gN.f k l0=some r):
  Calls Try.prog 35 #[.slice A0 l0.length c0] w fun e w'=>∃v0_:Value,e= .returned (v0_)∧Kd.S (Kd.slice 3 (Kd.int .i64)) 25 w' w.heap.size (fun _=>True) v0_ r∧Below w.heap.size w w':=by
 have Bn:=Az.mk Bk
 have Bt:=Az.mk Bl
 clear Bk Bl
 have HB:=Az.mk (Below.refl w.heap.size w)
 have H:=h
 unfold gN.f at H
 clear h
 obtain⟨Aq,hy⟩:∃y_:List (List Int),y_=(([]:List (List Int))):=⟨_,rfl⟩
 replace H:(gN.l0 k Aq l0 (l0.length:Int) 0)=some r:=rh
 have Aj:=Az.mk hy
 clear hy
 have H':=Az.mk H
 clear H
 go_enter Try.func35,Try.ntmps35
 go_wp2_with (first|((with_reducible refine gtD (N:=6) rfl ?_);refine Kd.S_lit (Kd.slice 3 (Kd.int .i64)) _ 25 ?hg (N:=6) ?hd (xs:=([]:List (List Int))) (inner:=[]) (ok:=fun _=>True) (okp:=fun _=>True) ?hr ?hp (fun _ hk=>hk) trivial (Below.refl _ _) (Nat.le_refl _) (by simp) ?_;(case hd=>rfl);(case hg=>rfl);(case hr=>first|(go_simp;done)|(go_simp;rfl));(case hp=>exact(Reps.none _ _));intro Bo w2 As hb hg_ hnew_;clear hg_ hnew_;(first|rw[←Aj.out]at As|(simp only[Int.reduceToNat]at As;rw[←Aj.out]at As));have Au:=Az.mk (Kd.S_lower As (bwZ bw_17));replace HB:=Az.mk (bwT bw_17 hb);clear hb As))
 go_loopg [3,9] k (fun kq v3 v9 w'=>∃(Af:List (List Int)) (Aa:Int),v9= .int .i64 Aa∧Az (gN.l0 kq Af l0 (l0.length:Int) Aa=some r)∧Az (kq≤k)∧Az (Kd.S (Kd.slice 3 (Kd.int .i64)) 25 w' w.heap.size (fun _=>True) v3 Af)∧Az (Below w.heap.size w w'))
 case atStart=>exact⟨(Aq),(0),rq2,H',⟨Nat.le_refl _⟩,⟨kS Au.out⟩,⟨bw_17⟩⟩
 clear H'
 obtain⟨Af,Aa,rfl,HA,HK1,HO_3,HB⟩:=hrel
 cases gk with
 |zero=>exact absurd HA.out (by simp[gN.l0])
 |succ k1=>
  have H:=HA.out
  clear HA
  simp only[gN.l0]at H
  by_cases c4:Aa<(l0.length:Int)
  rotate_left
  ·rw[ig c4]at H
   have Bf:=decide_eq_false c4
   clear c4
   obtain rfl:=Option.some.inj H
   go_wp2
   go_ret
   exact⟨_,rq1,kS HO_3.out,bw_17⟩
  rw[ip c4]at H
  have Bf:=ode c4
  clear c4
  by_cases c5:0≤Aa
  rotate_left
  ·rw[ig c5]at H
   exact absurd H (by simp)
  rw[ip c5]at H
  have Bp:=ode c5
  clear c5
  by_cases c6:Aa<(l0.length:Int)
  rotate_left
  ·rw[ig c6]at H
   exact absurd H (by simp)
  rw[ip c6]at H
  have Bq:=ode c6
  clear c6
  replace H:=bez H
  obtain⟨Ag,A7,H⟩:=H
  try dsimp only at H
  by_cases c8:Af.length<5864062014805
  rotate_left
  ·rw[ig c8]at H
   exact absurd H (by simp)
  rw[ip c8]at H
  have LMc8:=Az.mk c8
  clear c8
  obtain⟨Av,hy⟩:∃y_:List (List Int),y_=(Af ++ [Ag]):=⟨_,rfl⟩
  replace H:(gN.l0 k1 Av l0 (l0.length:Int) (wrap64 (Aa+1)))=some r:=rh
  have Ax:=Az.mk hy
  clear hy
  have H':=Az.mk H
  clear H
  have Ak:0≤(Aa:Int):=od
  have Al:Aa<(l0.length:Int):=od
  obtain⟨Bm,Am,Ap,Bh,Ab,Ac,Ad⟩:=at_L1 Bn.out Aa Ak Al
  cases Bh
  replace Ab:=kc HB Ab
  have Ah:=Az.mk Ad
  have Ai:=Az.mk Ac
  clear Ad Ac
  replace Ak:=ets Ak
  replace Al:=ets Al
  go_wp2_with (first|((with_reducible refine gtC (f:=42) rfl ?_);refine clz Try.func42 (some 15) #[.slice Am (rd_L1 l0 Aa).length Ap] ?_;(with_reducible refine(jL.calls _ _ (rd_L1 l0 Aa) Ag _ ?Ay ?Ba A7.out).mono ?_);(case Ay=>exact kC (Kd.C_below Ah.out HB.out));(case Ba=>exact Ai.out);rintro e w9 ⟨Br,rfl,Bi,hb⟩;refine⟨_,rfl,?_⟩;replace HO_3:=Az.mk (Kd.S_elder' (kS HO_3.out) (Kd.R_base Bi) hb);have Ae:=Az.mk (Kd.R_lower Bi (bwZ bw_17));replace HB:=Az.mk (bwT bw_17 hb);(try clear hb);(try clear Bi);obtain⟨Bb,Bc,Bj⟩:=Kd.R_slice Ae.out;subst Bj)|((with_reducible refine gate_builtin (b:= .append) (xs:= #[.tmp 13, .tmp 16]) rfl ?_);at_builtin;refine Kd.S_append (Kd.slice 3 (Kd.int .i64)) (w0:=w) w.heap.size rfl (.tmp 13) (.tmp 16) 24 25 (.slice none 0 0) 24 rfl Try.underlying24 info25 rfl (by decide) (by omega) u3 Af Ag [.slice Bb Ag.length Bc] (fun _=>True) (fun k_=>some k_=(.slice Bb Ag.length Bc:Value).ownBlock) rfl rfl ?aP (fun k_ hk_=>((Kd.R_mono (ok':=fun k_=>((fun _=>True)) k_∧some k_≠(u3:Value).ownBlock) (Kd.R_apart' (Ae.out) (Kd.S_typed HO_3.out) (by decide)) (fun k_ hk=>⟨trivial,hk.2⟩))).1 k_ hk_.symm) ?aF ?aO ?aB ?aS ?aL ?_;(case aP=>exact Kd.M_row (Kd.R_mono (Kd.R_tight rfl (Kd.R_mono (ok':=fun k_=>((fun _=>True)) k_∧some k_≠(u3:Value).ownBlock) (Kd.R_apart' (Ae.out) (Kd.S_typed HO_3.out) (by decide)) (fun k_ hk=>⟨trivial,hk.2⟩))) (fun _ h_=>h_)));(case aB=>exact bw_17);(case aF=>exact(fun _ _=>trivial));(case aO=>exact(by(with_reducible repeat(first|apply Kd.S_alloc|apply Kd.S_drewN|apply Kd.S_drew));exact Kd.S_mono HO_3.out (fun k_ hk=>⟨trivial,fun e_=>hk.2 e_⟩)));(case aS=>exact(bwZ bw_17));(case aL=>have:=LMc8.out;omega);intro Bs Bu ho hb hg hat;rw[←Ax.out]at ho;have n0_:=Az.mk (hb);have n1_:=Az.mk (ho);clear HB;clear HO_3;clear Ae;have HB:=n0_;have Bd:=n1_;clear n0_ n1_;clear ho hb hg hat))
  go_roundg k1
  case measure=>have:=HK1.out;omega
  case rel=>exact⟨(Av),(wrap64 (Aa+1)),rq2,H',⟨by have:=HK1.out;omega⟩,⟨kS Bd.out⟩,⟨bw_17⟩⟩
end Go.Proofs.Ytemeiocmgbgikaa.P

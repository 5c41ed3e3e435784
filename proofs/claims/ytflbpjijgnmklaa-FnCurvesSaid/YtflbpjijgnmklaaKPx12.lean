-- The walks, cut and laid together by this session's tools (prune.py, sq2.py, min.py: shorter names, no needless spaces). Not trusted: Lean checks it.
import Derived.Test.YtflbpjijgnmklaaKWZip
import Derived.Test.YtflbpjijgnmklaaKPx8
namespace Go.Proofs.Ytflbpjijgnmklaa.P
open Go.RowKit Go.Proofs.YtflbpjijgnmklaaW.PrintWords Go.Proofs.YtflbpjijgnmklaaW.PrintLast Go.Proofs.YtflbpjijgnmklaaW.PrintMore
attribute [local go_sem] max2_int min2_int max_two min_two max_three min_three max_four min_four   -- for this text's walks alone
set_option linter.unusedVariables false
set_option linter.unusedSimpArgs false
set_option maxHeartbeats 8000000
set_option maxRecDepth 100000
open Option renaming bind_eq_some_iff → be
theorem ln_12 {P:Prop} (h:P:=by(try simp only[List.map_toArray,List.map_cons,List.map_nil]);first|done|rfl|(simp only[List.length_drop,List.length_take];rfl)):P:=h
mutual
def fO.l0:Nat→List (List Int)→List Int→Int→List Int→Int→Int→Option ((List (List Int)) × List Int × Int × Int)
 |0,_,_,_,_,_,_=>none
 |k+1,x4,x5,x6,x1000,x1001,x1002=>if x6>0 then((fK.f x1000 x1001 x1002 (x4.length:Int)).bind fun bt265=>((fK.f x1000 bt265.2.1 bt265.2.2 3).bind fun bt268=>((gI.f k x4 bt265.1 bt268.1).bind fun t271=>((fG.f k x5 t271).bind fun bt274=>(fO.l0 k x4 bt274.1 (wrap64 (x6 - 1)) x1000 bt268.2.1 bt268.2.2))))) else(fO.l1 k x4 x5 0 x1000 x1001 x1002)
def fO.l1:Nat→List (List Int)→List Int→Int→List Int→Int→Int→Option ((List (List Int)) × List Int × Int × Int)
 |0,_,_,_,_,_,_=>none
 |k+1,x4,x5,x8,x1000,x1001,x1002=>if x8<12 then((some (([]:List Int):List Int)).bind fun y278=>(if y278.length+x5.length<17592186044416 then((some (y278 ++ x5:List Int)).bind fun y281=>((fK.f x1000 x1001 x1002 (y281.length:Int)).bind fun bt284=>((fK.f x1000 bt284.2.1 bt284.2.2 7).bind fun bt287=>(if 0≤bt284.1 then(if bt284.1<(y281.length:Int) then((fK.f x1000 bt287.2.1 bt287.2.2 (y281.length:Int)).bind fun bt291=>((fK.f x1000 bt291.2.1 bt291.2.2 7).bind fun bt294=>(if 0≤bt291.1 then(if bt291.1<(y281.length:Int) then((some ((y281.set (bt284.1:Int).toNat bt287.1).set (bt291.1:Int).toNat bt294.1:List Int)).bind fun y297=>((fL.f k x4 y297).bind fun t298=>(if t298=true then(fO.l1 k x4 y297 (wrap64 (x8+1)) x1000 bt294.2.1 bt294.2.2) else(fO.l1 k x4 x5 (wrap64 (x8+1)) x1000 bt294.2.1 bt294.2.2)))) else(none)) else(none)))) else(none)) else(none))))) else(none))) else((fK.f x1000 x1001 x1002 18).bind fun bt299=>(if bt299.1=0 then((jF.f x1000 bt299.2.1 bt299.2.2 (([(-1),201,1,3]:List Int))).bind fun bt305=>(if 0<(x5.length:Int) then(some (x4,(x5.set (0:Int).toNat bt305.1),bt305.2.1,bt305.2.2)) else(none))) else(if bt299.1=1 then(if 1≤(x5.length:Int) then(some (x4,(x5.drop (1:Int).toNat),bt299.2.1,bt299.2.2)) else(none)) else(if bt299.1=2 then(if 0<(x4.length:Int) then((jF.f x1000 bt299.2.1 bt299.2.2 (([0,2,(-1),9]:List Int))).bind fun bt316=>(if 0<((rd_L1 x4 0).length:Int) then(some ((x4.set (0:Int).toNat ((rd_L1 x4 0).set (0:Int).toNat bt316.1)),x5,bt316.2.1,bt316.2.2)) else(none))) else(none)) else(some (x4,x5,bt299.2.1,bt299.2.2))))))
end
def fO.f (k:Nat) (s0_0:List Int) (s0_1:Int) (s0_2:Int):Option ((List (List Int)) × List Int × Int × Int):=(jP.f k s0_0 s0_1 s0_2).bind fun bt254=>(if 0≤(wrap64 (Int.tdiv (wrap64 (3*(bt254.1.length:Int))) 2)) then(if(wrap64 (Int.tdiv (wrap64 (3*(bt254.1.length:Int))) 2):Int).toNat≤35184372088832 then((fK.f s0_0 bt254.2.1 bt254.2.2 3).bind fun bt262=>(fO.l0 k bt254.1 (List.replicate (wrap64 (Int.tdiv (wrap64 (3*(bt254.1.length:Int))) 2):Int).toNat 0) (wrap64 (1+bt262.1)) s0_0 bt262.2.1 bt262.2.2)) else(none)) else(none))
def fO.T22:Bool × List (List Nat × List Nat):=(true,[([],[]),([0],[0]),([1],[1]),([],[]),([],[]),([3,4],[3,4]),([2,0,1,2,3,4,5],[2]),([6,5,5,0,1,2,3,4,5],[5,6])])
def fO.B22:List Nat:=[0,1,3,0,0,24,63,127]
theorem fO.tab22:rtab .any (opsOf Try.f37 22)=fO.T22:=by kernel_rfl
theorem fO.bits22:waitsOk fO.T22.2 fO.B22=true:=by kernel_rfl
theorem fO.calls (k:Nat) (g:Nat) (Ab:List Int) (Dz:Int) (Ea:Int) (r1:List (List Int)) (r2:List Int) (r3:Int) (r4:Int) (w0 w:World) (hI:IsS96 w0 w g Ab Dz Ea) (hB:Below w0.heap.size w0 w) (h:fO.f k Ab Dz Ea=some (r1,r2,r3,r4)):
  Calls Try.prog 37 #[.pointer (some ⟨g,0,none⟩)] w fun e w'=>∃v0_ v1_:Value,e= .returned (.tuple #[v0_,v1_])∧Kd.S (Kd.slice 3 (Kd.int .i64)) 25 w' w.heap.size (fun k_=>some k_≠(v1_:Value).ownBlock) v0_ r1∧Kd.Q (Kd.int .i64) 3 w' w.heap.size (fun _=>True) v1_ r2∧IsS96 w0 w' g Ab r3 r4∧Below w0.heap.size w0 w'∧KeepBut w w' g none:=by
 have HI0:=Az.mk hI
 have HK:=Az.mk (KeepBut.refl w g none)
 have HL:=Az.mk hB.size
 clear hI
 have HW0:=Az.mk hB.size
 have HB:=Az.mk hB
 clear hB
 have H:((jP.f k Ab Dz Ea).bind fun Bw=>(if 0≤(wrap64 (Int.tdiv (wrap64 (3*(Bw.1.length:Int))) 2)) then(if(wrap64 (Int.tdiv (wrap64 (3*(Bw.1.length:Int))) 2):Int).toNat≤35184372088832 then((fK.f Ab Bw.2.1 Bw.2.2 3).bind fun Av=>(fO.l0 k Bw.1 (List.replicate (wrap64 (Int.tdiv (wrap64 (3*(Bw.1.length:Int))) 2):Int).toNat 0) (wrap64 (1+Av.1)) Ab Av.2.1 Av.2.2)) else(none)) else(none)))=some (r1,r2,r3,r4):=h
 clear h
 replace H:=bez H
 obtain⟨⟨Ai,Cs,Ct⟩,A2,H⟩:=H
 try dsimp only at H
 obtain⟨Eb,Ce⟩:∃j_:Int,(wrap64 (Int.tdiv (wrap64 (3*(Ai.length:Int))) 2))=j_:=⟨_,rfl⟩
 replace H:(if 0≤(Eb) then(if(Eb:Int).toNat≤35184372088832 then((fK.f Ab Cs Ct 3).bind fun Av=>(fO.l0 k Ai (List.replicate (Eb:Int).toNat 0) (wrap64 (1+Av.1)) Ab Av.2.1 Av.2.2)) else(none)) else(none))=some (r1,r2,r3,r4):=by first|(rw[Ce]at H;exact H)|(simp only[Ce]at H ⊢;exact H)
 (try rw[Ce]at A2)
 have hji3w:(IntKind.i64.wrap (Int.tdiv (wrap64 (3*(Ai.length:Int))) 2))=Eb:=(i64_w _).trans Ce
 by_cases c4:0≤(Eb)
 rotate_left
 ·rw[ig c4]at H
  exact absurd H (by simp)
 rw[ip c4]at H
 have Hd:=ets c4
 have Hf:=ode c4
 clear c4
 by_cases c5:(Eb:Int).toNat≤35184372088832
 rotate_left
 ·rw[ig c5]at H
  exact absurd H (by simp)
 rw[ip c5]at H
 have Hg:=ets c5
 have Hh:=ode c5
 clear c5
 obtain⟨Hi,hy⟩:∃y_:List Int,y_=(List.replicate (Eb:Int).toNat 0):=⟨_,rfl⟩
 replace H:((fK.f Ab Cs Ct 3).bind fun Av=>(fO.l0 k Ai Hi (wrap64 (1+Av.1)) Ab Av.2.1 Av.2.2))=some (r1,r2,r3,r4):=rh
 have Ep:=Az.mk hy
 clear hy
 replace H:=bez H
 obtain⟨⟨Hj,Hk,Hl⟩,A6,H⟩:=H
 try dsimp only at H
 have H':=Az.mk H
 clear H
 go_enter Try.func37,Try.ntmps37
 go_wp2_with (first|((with_reducible refine gtC (f:=43) rfl ?_);refine clz Try.func43 (some 11) #[.pointer (some ⟨g,0,none⟩)] ?_;(with_reducible refine(jP.calls k g Ab Dz Ea Ai Cs Ct w0 _ ?Ae ?Af A2.out).mono ?_);(case Ae=>exact(kI HI0.out));(case Af=>exact kG HB.out (IsS96.ge HI0.out));rintro e w7 ⟨Lt,rfl,Cu,hi,hb,hk⟩;refine⟨_,rfl,?_⟩;have Bx:=Az.mk (Kd.S_lower Cu (keep_size (w:=w) (g:=g) (row:=none) (kK HK.out)));replace HK:=Az.mk (KeepBut.trans (kK HK.out) hk (.inl rfl));replace HB:=Az.mk (hb);replace HI0:=Az.mk (hi);(try clear hb);(try clear hk);(try clear hi);(try clear Cu);obtain⟨Hm,Hn,Lu⟩:=Kd.S_slice Bx.out;subst Lu)|((with_reducible refine gtD (N:=16) rfl ?_);refine Kd.R_make (Kd.int .i64) _ 3 rfl (N:=16) rfl 25 _ _ rfl Eb rfl rfl Try.underlying25 (.int .i64 0) 8 info3 rfl (by decide) (by omega) 0 (ok:=fun _=>True) (okp:=fun _=>True) rfl (fun _ hk=>hk) trivial (od) (Nat.le_trans (Nat.mul_le_mul_right _ (od:Eb.toNat≤35184372088832)) (by omega)) (Below.refl _ _) (Nat.le_refl _) ?_;intro Lv w9 Cv hb hg_ hnew_;clear hg_ hnew_;(first|rw[←Ep.out]at Cv|(simp only[Int.reduceToNat]at Cv;rw[←Ep.out]at Cv));replace Bx:=Az.mk (Kd.S_elder' (kS Bx.out) (Kd.R_base Cv) hb);have Dk:=Az.mk (Kd.R_lower Cv (keep_size (w:=w) (g:=g) (row:=none) (kK HK.out)));replace HK:=Az.mk (KeepBut.trans (kK HK.out) (KeepBut.of_below hb g none) (.inl rfl));replace HB:=Az.mk (bwT (kG HB.out (IsS96.ge HI0.out)) hb);replace HI0:=Az.mk (IsS96.below (kI HI0.out) hb);clear hb Cv)|((with_reducible refine gtC (f:=75) rfl ?_);refine clz Try.func75 (some 18) #[.pointer (some ⟨g,0,none⟩), .int .i64 3] ?_;(with_reducible refine(fK.calls g Ab Cs Ct 3 Hj Hk Hl w0 _ ?Ae ?Af A6.out).mono ?_);(case Ae=>exact(kI HI0.out));(case Af=>exact kG HB.out (IsS96.ge HI0.out));rintro e Mt ⟨rfl,hi,hb,hk⟩;refine⟨_,rfl,?_⟩;replace Bx:=Az.mk (Kd.S_mono (Kd.S_keep (IsS96.apartS (show IsS96 w0 _ g Ab Cs Ct from kI HI0.out) (kS Bx.out) (by decide)) hk (fun _ h=>h.2)) (fun _ h=>h.1));replace Dk:=Az.mk (Kd.R_mono (Kd.R_keep (IsS96.apart (show IsS96 w0 _ g Ab Cs Ct from kI HI0.out) (kR Dk.out) (by decide)) hk (fun _ h=>h.2)) (fun _ h=>h.1));replace HK:=Az.mk (KeepBut.trans (kK HK.out) hk (.inl rfl));replace HB:=Az.mk (hb);replace HI0:=Az.mk (hi);(try clear hb);(try clear hk);(try clear hi)))
 go_loopg [5,6] k (fun kq v5 v6 w'=>∃(Cw:List Int) (Cg:Int) (As:Int) (Au:Int),v6= .int .i64 Cg∧Az (fO.l0 kq Ai Cw Cg Ab As Au=some (r1,r2,r3,r4))∧Az (kq≤k)∧Az (Kd.S (Kd.slice 3 (Kd.int .i64)) 25 w' w.heap.size (fun k_=>some k_≠(v5:Value).ownBlock) (.slice Hm Ai.length Hn) Ai)∧Az (Kd.Q (Kd.int .i64) 3 w' w.heap.size (fun _=>True) v5 Cw)∧Az (IsS96 w0 w' g Ab As Au)∧Az (KeepBut w w' g none)∧Az (Below w0.heap.size w0 w'))
 case atStart=>exact⟨(Hi),(wrap64 (1+Hj)),(Hk),(Hl),rq2,H',⟨Nat.le_refl _⟩,⟨by(with_reducible repeat(first|apply Kd.S_alloc|apply Kd.S_drewN|apply Kd.S_drew));exact Kd.S_mono Bx.out (fun _ hk=>hk.2)⟩,⟨Kd.Q_of_R (kR Dk.out)⟩,⟨kI HI0.out⟩,⟨kK HK.out⟩,⟨kG HB.out (IsS96.ge HI0.out)⟩⟩
 clear H'
 try clear c4
 try clear Hd
 try clear Hf
 try clear c5
 try clear Hg
 try clear Hh
 obtain⟨Cw,Cg,As,Au,rfl,HA,HK1,Ac,Aa,HI0,HK,HB⟩:=hrel
 cases gk with
 |zero=>exact absurd HA.out (by simp[fO.l0])
 |succ k1=>
  have H:=HA.out
  clear HA
  simp only[fO.l0]at H
  by_cases Ga:Cg>0
  ·rw[ip Ga]at H
   have Er:decide (0<Cg)=true:=ode Ga
   clear Ga
   replace H:=bez H
   obtain⟨⟨Gb,Ec,Ed⟩,Lw,H⟩:=H
   try dsimp only at H
   replace H:=bez H
   obtain⟨⟨Gc,Ho,Hp⟩,Lx,H⟩:=H
   try dsimp only at H
   replace H:=bez H
   obtain⟨Gd,Ly,H⟩:=H
   try dsimp only at H
   replace H:=bez H
   obtain⟨⟨Hq,Jf⟩,Lz,H⟩:=H
   try dsimp only at H
   have H':=Az.mk H
   clear H
   go_wp2_with (first|((with_reducible refine gtC (f:=75) rfl ?_);refine clz Try.func75 (some 28) #[.pointer (some ⟨g,0,none⟩), .int .i64 (Ai.length:Int)] ?_;(with_reducible refine(fK.calls g Ab As Au (Ai.length:Int) Gb Ec Ed w0 _ ?Ae ?Af Lw.out).mono ?_);(case Ae=>exact(kI HI0.out));(case Af=>exact kG HB.out (IsS96.ge HI0.out));rintro e Mu ⟨rfl,hi,hb,hk⟩;refine⟨_,rfl,?_⟩;replace Ac:=Az.mk (Kd.S_mono (Kd.S_keep (IsS96.apartS (show IsS96 w0 _ g Ab As Au from kI HI0.out) (kS Ac.out) (by decide)) hk (fun _ h=>h.2)) (fun _ h=>h.1));replace Aa:=Az.mk (Kd.Q_mono (Kd.Q_keep (IsS96.apartQ (show IsS96 w0 _ g Ab As Au from kI HI0.out) (kQ Aa.out) (by decide)) hk (fun _ h=>h.2)) (fun _ h=>h.1));replace HK:=Az.mk (KeepBut.trans (kK HK.out) hk (.inl rfl));replace HB:=Az.mk (hb);replace HI0:=Az.mk (hi);(try clear hb);(try clear hk);(try clear hi))|((with_reducible refine gtC (f:=75) rfl ?_);refine clz Try.func75 (some 30) #[.pointer (some ⟨g,0,none⟩), .int .i64 3] ?_;(with_reducible refine(fK.calls g Ab Ec Ed 3 Gc Ho Hp w0 _ ?Ae ?Af Lx.out).mono ?_);(case Ae=>exact(kI HI0.out));(case Af=>exact kG HB.out (IsS96.ge HI0.out));rintro e Mv ⟨rfl,hi,hb,hk⟩;refine⟨_,rfl,?_⟩;replace Ac:=Az.mk (Kd.S_mono (Kd.S_keep (IsS96.apartS (show IsS96 w0 _ g Ab Ec Ed from kI HI0.out) (kS Ac.out) (by decide)) hk (fun _ h=>h.2)) (fun _ h=>h.1));replace Aa:=Az.mk (Kd.Q_mono (Kd.Q_keep (IsS96.apartQ (show IsS96 w0 _ g Ab Ec Ed from kI HI0.out) (kQ Aa.out) (by decide)) hk (fun _ h=>h.2)) (fun _ h=>h.1));replace HK:=Az.mk (KeepBut.trans (kK HK.out) hk (.inl rfl));replace HB:=Az.mk (hb);replace HI0:=Az.mk (hi);(try clear hb);(try clear hk);(try clear hi))|((with_reducible refine gtC (f:=50) rfl ?_);refine clz Try.func50 (some 31) #[.slice Hm Ai.length Hn, .int .i64 Gb, .int .i64 Gc] ?_;(with_reducible refine(gI.calls k1 _ _ Ai Gb Gc Gd _ ?Ae ?Af Ly.out).mono ?_);(case Ae=>exact kC (Kd.S_reads' Ac.out).2.2);(case Af=>exact(Kd.S_reads' Ac.out).2.1);rintro e Mw ⟨Ma,rfl,Cu,hb⟩;refine⟨_,rfl,?_⟩;replace Ac:=Az.mk (Kd.S_elder' (kS Ac.out) (Kd.R_base Cu) hb);have By:=Az.mk (Kd.R_lower (Kd.R_new' Cu (Kd.Q_lt (kQ Aa.out))) (keep_size (w:=w) (g:=g) (row:=none) (kK HK.out)));replace Aa:=Az.mk (Kd.Q_elder' (kQ Aa.out) (Kd.R_base Cu) hb);replace HK:=Az.mk (KeepBut.trans (kK HK.out) (KeepBut.of_below hb g none) (.inl rfl));replace HB:=Az.mk (bwT (kG HB.out (IsS96.ge HI0.out)) hb);replace HI0:=Az.mk (IsS96.below (kI HI0.out) hb);(try clear hb);(try clear Cu);obtain⟨Jg,Ji,Jj,_⟩:=Kd.Q_slice Aa.out;subst Jj;obtain⟨Jk,Jl,Jm⟩:=Kd.R_slice By.out;subst Jm)|((with_reducible refine gtC (f:=16) rfl ?_);refine clz Try.func16 (some 35) #[.slice Jg Cw.length Ji, .slice Jk Gd.length Jl] ?_;(with_reducible refine(fG.calls k1 _ _ Cw _ _ Gd Hq Jf _ ?Ae ?Af ?Bf ?Bh Lz.out).mono ?_);(case Ae=>exact kC (Kd.Q_reads' Aa.out).2.2);(case Af=>exact(Kd.Q_reads' Aa.out).2.1);(case Bf=>exact kC (Kd.R_reads' By.out).2.2);(case Bh=>exact(Kd.R_reads' By.out).2.1);rintro e Mx ⟨Mb,rfl,Cu,hb⟩;refine⟨_,rfl,?_⟩;replace Ac:=Az.mk (Kd.S_elder' (kS Ac.out) (Kd.R_base Cu) hb);have Hr:=Az.mk (Kd.R_lower (Kd.R_new' (Kd.R_new' Cu (Kd.Q_lt (kQ Aa.out))) (Kd.R_lt (kR By.out))) (keep_size (w:=w) (g:=g) (row:=none) (kK HK.out)));replace Aa:=Az.mk (Kd.Q_elder' (kQ Aa.out) (Kd.R_base Cu) hb);replace By:=Az.mk (Kd.R_elder' (kR By.out) (Kd.R_base Cu) hb);replace HK:=Az.mk (KeepBut.trans (kK HK.out) (KeepBut.of_below hb g none) (.inl rfl));replace HB:=Az.mk (bwT (kG HB.out (IsS96.ge HI0.out)) hb);replace HI0:=Az.mk (IsS96.below (kI HI0.out) hb);(try clear hb);(try clear Cu)))
   go_roundg k1
   case measure=>have:=HK1.out;omega
   case rel=>exact⟨(Hq),(wrap64 (Cg - 1)),(Ho),(Hp),rq2,H',⟨by have:=HK1.out;omega⟩,⟨by(with_reducible repeat(first|apply Kd.S_alloc|apply Kd.S_drewN|apply Kd.S_drew));exact Kd.S_mono Ac.out (fun _ hk=>hk.2)⟩,⟨Kd.Q_of_R (by(with_reducible repeat(first|apply Kd.R_alloc|apply Kd.R_drewN|apply Kd.R_drew));exact Kd.R_mono Hr.out (fun _ hk=>trivial))⟩,⟨kI HI0.out⟩,⟨kK HK.out⟩,⟨kG HB.out (IsS96.ge HI0.out)⟩⟩
  rw[ig Ga]at H
  have Er:decide (0<Cg)=false:=decide_eq_false Ga
  clear Ga
  have H':=Az.mk H
  clear H
  go_wp2
  go_loopg [5,8] k1 (fun kq v5 v8 w'=>∃(Ak:List Int) (Bi:Int) (Ag:Int) (Ah:Int),v8= .int .i64 Bi∧Az (fO.l1 kq Ai Ak Bi Ab Ag Ah=some (r1,r2,r3,r4))∧Az (kq≤k1)∧Az (Kd.S (Kd.slice 3 (Kd.int .i64)) 25 w' w.heap.size (fun k_=>some k_≠(v5:Value).ownBlock) (.slice Hm Ai.length Hn) Ai)∧Az (Kd.Q (Kd.int .i64) 3 w' w.heap.size (fun _=>True) v5 Ak)∧Az (IsS96 w0 w' g Ab Ag Ah)∧Az (KeepBut w w' g none)∧Az (Below w0.heap.size w0 w'))
  case atStart=>exact⟨(Cw),(0),(As),(Au),rq2,H',⟨Nat.le_refl _⟩,⟨kS Ac.out⟩,⟨kQ Aa.out⟩,⟨kI HI0.out⟩,⟨kK HK.out⟩,⟨kG HB.out (IsS96.ge HI0.out)⟩⟩
  clear H'
  try clear c4
  try clear Hd
  try clear Hf
  try clear c5
  try clear Hg
  try clear Hh
  try clear Ga
  try clear Er
  obtain⟨Ak,Bi,Ag,Ah,rfl,HA,HK2,Ac,Aa,HI0,HK,HB⟩:=hrel
  cases gk with
  |zero=>exact absurd HA.out (by simp[fO.l1])
  |succ k2=>
   have H:=HA.out
   clear HA
   simp only[fO.l1]at H
   by_cases Hc:Bi<12
   ·rw[ip Hc]at H
    have Hs:=ode Hc
    clear Hc
    obtain⟨Da,hy⟩:∃y_:List Int,y_=(([]:List Int)):=⟨_,rfl⟩
    replace H:(if Da.length+Ak.length<17592186044416 then((some (Da ++ Ak:List Int)).bind fun Aj=>((fK.f Ab Ag Ah (Aj.length:Int)).bind fun Aw=>((fK.f Ab Aw.2.1 Aw.2.2 7).bind fun Bn=>(if 0≤Aw.1 then(if Aw.1<(Aj.length:Int) then((fK.f Ab Bn.2.1 Bn.2.2 (Aj.length:Int)).bind fun Ao=>((fK.f Ab Ao.2.1 Ao.2.2 7).bind fun Ap=>(if 0≤Ao.1 then(if Ao.1<(Aj.length:Int) then((some ((Aj.set (Aw.1:Int).toNat Bn.1).set (Ao.1:Int).toNat Ap.1:List Int)).bind fun Aq=>((fL.f k2 Ai Aq).bind fun Ca=>(if Ca=true then(fO.l1 k2 Ai Aq (wrap64 (Bi+1)) Ab Ap.2.1 Ap.2.2) else(fO.l1 k2 Ai Ak (wrap64 (Bi+1)) Ab Ap.2.1 Ap.2.2)))) else(none)) else(none)))) else(none)) else(none))))) else(none))=some (r1,r2,r3,r4):=rh
    have Co:=Az.mk hy
    clear hy
    by_cases It:Da.length+Ak.length<17592186044416
    rotate_left
    ·rw[ig It]at H
     exact absurd H (by simp)
    rw[ip It]at H
    have LMc24:=Az.mk It
    clear It
    obtain⟨Aj,hy⟩:∃y_:List Int,y_=(Da ++ Ak):=⟨_,rfl⟩
    replace H:((fK.f Ab Ag Ah (Aj.length:Int)).bind fun Aw=>((fK.f Ab Aw.2.1 Aw.2.2 7).bind fun Bn=>(if 0≤Aw.1 then(if Aw.1<(Aj.length:Int) then((fK.f Ab Bn.2.1 Bn.2.2 (Aj.length:Int)).bind fun Ao=>((fK.f Ab Ao.2.1 Ao.2.2 7).bind fun Ap=>(if 0≤Ao.1 then(if Ao.1<(Aj.length:Int) then((some ((Aj.set (Aw.1:Int).toNat Bn.1).set (Ao.1:Int).toNat Ap.1:List Int)).bind fun Aq=>((fL.f k2 Ai Aq).bind fun Ca=>(if Ca=true then(fO.l1 k2 Ai Aq (wrap64 (Bi+1)) Ab Ap.2.1 Ap.2.2) else(fO.l1 k2 Ai Ak (wrap64 (Bi+1)) Ab Ap.2.1 Ap.2.2)))) else(none)) else(none)))) else(none)) else(none))))=some (r1,r2,r3,r4):=rh
    have Es:=Az.mk hy
    clear hy
    replace H:=bez H
    obtain⟨⟨Ax,Bs,Bt⟩,Kv,H⟩:=H
    try dsimp only at H
    replace H:=bez H
    obtain⟨⟨Ch,Bo,Bp⟩,Kw,H⟩:=H
    try dsimp only at H
    by_cases Iu:0≤Ax
    rotate_left
    ·rw[ig Iu]at H
     exact absurd H (by simp)
    rw[ip Iu]at H
    have Kx:=ode Iu
    clear Iu
    by_cases Iv:Ax<(Aj.length:Int)
    rotate_left
    ·rw[ig Iv]at H
     exact absurd H (by simp)
    rw[ip Iv]at H
    have Ky:=ode Iv
    clear Iv
    obtain⟨Ee,hy⟩:∃y_:List Int,y_=(Aj.set (Ax:Int).toNat Ch):=⟨_,rfl⟩
    replace H:((fK.f Ab Bo Bp (Aj.length:Int)).bind fun Ao=>((fK.f Ab Ao.2.1 Ao.2.2 7).bind fun Ap=>(if 0≤Ao.1 then(if Ao.1<(Aj.length:Int) then((some (Ee.set (Ao.1:Int).toNat Ap.1:List Int)).bind fun Aq=>((fL.f k2 Ai Aq).bind fun Ca=>(if Ca=true then(fO.l1 k2 Ai Aq (wrap64 (Bi+1)) Ab Ap.2.1 Ap.2.2) else(fO.l1 k2 Ai Ak (wrap64 (Bi+1)) Ab Ap.2.1 Ap.2.2)))) else(none)) else(none))))=some (r1,r2,r3,r4):=rh
    have Et:=Az.mk hy
    clear hy
    replace H:=bez H
    obtain⟨⟨Ay,Bu,Bv⟩,Kz,H⟩:=H
    try dsimp only at H
    replace H:=bez H
    obtain⟨⟨Ci,Db,Dc⟩,La,H⟩:=H
    try dsimp only at H
    by_cases Iw:0≤Ay
    rotate_left
    ·rw[ig Iw]at H
     exact absurd H (by simp)
    rw[ip Iw]at H
    have Lb:=ode Iw
    clear Iw
    by_cases Ix:Ay<(Aj.length:Int)
    rotate_left
    ·rw[ig Ix]at H
     exact absurd H (by simp)
    rw[ip Ix]at H
    have Lc:=ode Ix
    clear Ix
    obtain⟨Aq,hy⟩:∃y_:List Int,y_=(Ee.set (Ay:Int).toNat Ci):=⟨_,rfl⟩
    replace H:((fL.f k2 Ai Aq).bind fun Ca=>(if Ca=true then(fO.l1 k2 Ai Aq (wrap64 (Bi+1)) Ab Db Dc) else(fO.l1 k2 Ai Ak (wrap64 (Bi+1)) Ab Db Dc)))=some (r1,r2,r3,r4):=rh
    have Eu:=Az.mk hy
    clear hy
    replace H:=bez H
    obtain⟨Ca,Ld,H⟩:=H
    try dsimp only at H
    by_cases Iy:Ca=true
    ·subst Iy
     rw[ip rfl]at H
     have H':=Az.mk H
     clear H
     go_wp2_with (first|((with_reducible refine gtD (N:=42) rfl ?_);refine Kd.R_lit (Kd.int .i64) _ 3 ?hg (N:=42) ?hd (xs:=([]:List Int)) (inner:=[]) (ok:=fun _=>True) (okp:=fun _=>True) ?hr ?hp (fun _ hk=>hk) trivial (Below.refl _ _) (Nat.le_refl _) (by simp) ?_;(case hd=>rfl);(case hg=>rfl);(case hr=>first|(go_simp;done)|(go_simp;rfl));(case hp=>exact(Reps.none _ _));intro Ge My Cj hb hg_ hnew_;clear hg_ hnew_;(first|rw[←Co.out]at Cj|(simp only[Int.reduceToNat]at Cj;rw[←Co.out]at Cj));replace Ac:=Az.mk (Kd.S_elder' (kS Ac.out) (Kd.R_base Cj) hb);have Bj:=Az.mk (Kd.R_lower (Kd.R_new' Cj (Kd.Q_lt (kQ Aa.out))) (keep_size (w:=w) (g:=g) (row:=none) (kK HK.out)));replace Aa:=Az.mk (Kd.Q_elder' (kQ Aa.out) (Kd.R_base Cj) hb);replace HK:=Az.mk (KeepBut.trans (kK HK.out) (KeepBut.of_below hb g none) (.inl rfl));replace HB:=Az.mk (bwT (kG HB.out (IsS96.ge HI0.out)) hb);replace HI0:=Az.mk (IsS96.below (kI HI0.out) hb);clear hb Cj;obtain⟨Dd,De,Jo,_⟩:=Kd.Q_slice Aa.out;subst Jo)|((with_reducible refine gate_builtin (b:= .append) (xs:= #[.tmp 42, .tmp 43]) rfl ?_);at_builtin;refine Kd.R_append_rows (Kd.int .i64) w.heap.size rfl (.tmp 42) (.tmp 43) 25 3 (.int .i64 0) 8 rfl Try.underlying25 info3 rfl (by decide) (by omega) Ge Da Ak _ _ _ (fun k_=>some k_≠(.slice Dd Ak.length De:Value).ownBlock) (fun _=>False) rfl rfl ?aO ?aR (fun _ _ h=>h) (fun _ h=>h.elim) ?aF (Below.refl _ _) ?aS ?aL ?_;(case aR=>exact kC (Kd.Q_reads' Aa.out).2.2);(case aF=>exact(fun k_ hk=>Kd.fresh' (Kd.Q_lt (kQ Aa.out)) k_ hk));(case aO=>exact(by(with_reducible repeat(first|apply Kd.R_alloc|apply Kd.R_drewN|apply Kd.R_drew));exact Kd.R_mono Bj.out (fun _ hk=>hk.2)));(case aS=>exact(keep_size (w:=w) (g:=g) (row:=none) (kK HK.out)));(case aL=>have:=LMc24.out;omega);intro Jp Mz ho hb hg hat;rw[←Es.out]at ho;have n0_:=Az.mk (Kd.S_after (ok:=(fun k_=>some k_≠(.slice Dd Ak.length De:Value).ownBlock)) (kS Ac.out) hg hat);have n1_:=Az.mk (Kd.Q_after (ok:=(fun _=>True)) (kQ Aa.out) hg hat);have n2_:=Az.mk (IsS96.grown (kI HI0.out) hg (IsS96.own_ne HI0.out Bj.out (by decide)));have n3_:=Az.mk (below_weaken (kG HB.out (IsS96.ge HI0.out)) HL.out hb);have n4_:=Az.mk (KeepBut.trans (kK HK.out) (KeepBut.of_grown hg g) (Kd.R_base2 Bj.out));have n5_:=Az.mk (ho);clear Ac;clear Aa;clear HI0;clear HB;clear HK;clear Bj;have Ac:=n0_;have Aa:=n1_;have HI0:=n2_;have HB:=n3_;have HK:=n4_;have Ad:=n5_;clear n0_ n1_ n2_ n3_ n4_ n5_;clear ho hb hg hat;obtain⟨Mc,Bq,Jq⟩:=Kd.R_slice Ad.out;subst Jq)|((with_reducible refine gtC (f:=75) rfl ?_);refine clz Try.func75 (some 49) #[.pointer (some ⟨g,0,none⟩), .int .i64 (Aj.length:Int)] ?_;(with_reducible refine(fK.calls g Ab Ag Ah (Aj.length:Int) Ax Bs Bt w0 _ ?Ae ?Af Kv.out).mono ?_);(case Ae=>exact(kI HI0.out));(case Af=>exact kG HB.out (IsS96.ge HI0.out));rintro e Na ⟨rfl,hi,hb,hk⟩;refine⟨_,rfl,?_⟩;replace Ac:=Az.mk (Kd.S_mono (Kd.S_keep (IsS96.apartS (show IsS96 w0 _ g Ab Ag Ah from kI HI0.out) (kS Ac.out) (by decide)) hk (fun _ h=>h.2)) (fun _ h=>h.1));replace Aa:=Az.mk (Kd.Q_mono (Kd.Q_keep (IsS96.apartQ (show IsS96 w0 _ g Ab Ag Ah from kI HI0.out) (kQ Aa.out) (by decide)) hk (fun _ h=>h.2)) (fun _ h=>h.1));replace Ad:=Az.mk (Kd.R_mono (Kd.R_keep (IsS96.apart (show IsS96 w0 _ g Ab Ag Ah from kI HI0.out) (kR Ad.out) (by decide)) hk (fun _ h=>h.2)) (fun _ h=>h.1));replace HK:=Az.mk (KeepBut.trans (kK HK.out) hk (.inl rfl));replace HB:=Az.mk (hb);replace HI0:=Az.mk (hi);(try clear hb);(try clear hk);(try clear hi))|((with_reducible refine gtC (f:=75) rfl ?_);refine clz Try.func75 (some 51) #[.pointer (some ⟨g,0,none⟩), .int .i64 7] ?_;(with_reducible refine(fK.calls g Ab Bs Bt 7 Ch Bo Bp w0 _ ?Ae ?Af Kw.out).mono ?_);(case Ae=>exact(kI HI0.out));(case Af=>exact kG HB.out (IsS96.ge HI0.out));rintro e Le ⟨rfl,hi,hb,hk⟩;refine⟨_,rfl,?_⟩;replace Ac:=Az.mk (Kd.S_mono (Kd.S_keep (IsS96.apartS (show IsS96 w0 _ g Ab Bs Bt from kI HI0.out) (kS Ac.out) (by decide)) hk (fun _ h=>h.2)) (fun _ h=>h.1));replace Aa:=Az.mk (Kd.Q_mono (Kd.Q_keep (IsS96.apartQ (show IsS96 w0 _ g Ab Bs Bt from kI HI0.out) (kQ Aa.out) (by decide)) hk (fun _ h=>h.2)) (fun _ h=>h.1));replace Ad:=Az.mk (Kd.R_mono (Kd.R_keep (IsS96.apart (show IsS96 w0 _ g Ab Bs Bt from kI HI0.out) (kR Ad.out) (by decide)) hk (fun _ h=>h.2)) (fun _ h=>h.1));replace HK:=Az.mk (KeepBut.trans (kK HK.out) hk (.inl rfl));replace HB:=Az.mk (hb);replace HI0:=Az.mk (hi);(try clear hb);(try clear hk);(try clear hi);have p29:0≤(Ax:Int):=od;have Gf:(Ax:Int)<((Aj.length:Int):Int):=od;obtain⟨Al,Jr,Dl,Dm,gl29,Js,HG29⟩:=Kd.R_form Ad.out (by omega);(first|cases Dl|(injection Dl with ea_ en_ ec_;(first|subst ea_|(injection ea_ with ea_;subst ea_));subst ec_;clear en_));have Dn:=Az.mk Dm;have Jt:=Az.mk HG29;clear Dm gl29 HG29;obtain⟨Gg,Gh⟩:=Kd.R_celln 0 Ad.out (Ax:Int) p29 Gf;replace p29:=ets p29;replace Gf:=ets Gf;obtain⟨hy44_,hz44_⟩:=Kd.R_celln 0 Ad.out (Ax:Int) (od) (od);have Gi:=Kd.R_putg Ad.out (Ax:Int) Ch)|((with_reducible refine gate_store (t:=3) (p:=52) rfl ?_);refine store_event (t:=3) (p:=52) (v:=?vo_w45) (w1:=(Le.setCell ⟨Al,(Ax:Int).toNat,none⟩ (.int .i64 Ch))) ?hg ?ho ?hn ?hr ?_;(case ho=>rfl);(case hg=>rfl);(case hn=>rfl);(case hr=>first|(go_simp;done)|(go_simp;rfl));intro Ju hw;have hg:Le.grownBy Ju (some Al):=(by rw[hw];exact Gi.2);have hp_:Kd.R (Kd.int .i64) 3 Ju w.heap.size (fun k_=>some k_≠(.slice Dd Ak.length De:Value).ownBlock) (.slice (some ⟨Al,0,none⟩) Aj.length Bq) Ee:=(by rw[hw,Et.out];exact Gi.1);clear Gi;replace Ac:=Az.mk (Kd.S_after (v:=(.slice (some ⟨Al,0,none⟩) Aj.length Bq)) (v1:=(.slice (some ⟨Al,0,none⟩) Aj.length Bq)) (ok:=(fun k_=>some k_≠(.slice Dd Ak.length De:Value).ownBlock)) (kS Ac.out) hg (.inl rfl));replace Aa:=Az.mk (Kd.Q_after (v:=(.slice (some ⟨Al,0,none⟩) Aj.length Bq)) (v1:=(.slice (some ⟨Al,0,none⟩) Aj.length Bq)) (ok:=(fun _=>True)) (kQ Aa.out) hg (.inl rfl));replace HI0:=Az.mk (IsS96.grown (kI HI0.out) hg (IsS96.own_ne HI0.out Ad.out (by decide)));replace HB:=Az.mk ((by rw[hw];exact bwS (HB.out) (Nat.le_trans HL.out Dn.out):Below w0.heap.size w0 Ju));replace HK:=Az.mk (KeepBut.trans (kK HK.out) (KeepBut.of_grown hg g) (Kd.R_base2 Ad.out));replace Ad:=Az.mk (hp_);clear hg hw hp_)|((with_reducible refine gtC (f:=75) rfl ?_);refine clz Try.func75 (some 57) #[.pointer (some ⟨g,0,none⟩), .int .i64 (Aj.length:Int)] ?_;(with_reducible refine(fK.calls g Ab Bo Bp (Aj.length:Int) Ay Bu Bv w0 _ ?Ae ?Af Kz.out).mono ?_);(case Ae=>exact(kI HI0.out));(case Af=>exact kG HB.out (IsS96.ge HI0.out));rintro e Nb ⟨rfl,hi,hb,hk⟩;refine⟨_,rfl,?_⟩;replace Ac:=Az.mk (Kd.S_mono (Kd.S_keep (IsS96.apartS (show IsS96 w0 _ g Ab Bo Bp from kI HI0.out) (kS Ac.out) (by decide)) hk (fun _ h=>h.2)) (fun _ h=>h.1));replace Aa:=Az.mk (Kd.Q_mono (Kd.Q_keep (IsS96.apartQ (show IsS96 w0 _ g Ab Bo Bp from kI HI0.out) (kQ Aa.out) (by decide)) hk (fun _ h=>h.2)) (fun _ h=>h.1));replace Ad:=Az.mk (Kd.R_mono (Kd.R_keep (IsS96.apart (show IsS96 w0 _ g Ab Bo Bp from kI HI0.out) (kR Ad.out) (by decide)) hk (fun _ h=>h.2)) (fun _ h=>h.1));replace HK:=Az.mk (KeepBut.trans (kK HK.out) hk (.inl rfl));replace HB:=Az.mk (hb);replace HI0:=Az.mk (hi);(try clear hb);(try clear hk);(try clear hi))|((with_reducible refine gtC (f:=75) rfl ?_);refine clz Try.func75 (some 59) #[.pointer (some ⟨g,0,none⟩), .int .i64 7] ?_;(with_reducible refine(fK.calls g Ab Bu Bv 7 Ci Db Dc w0 _ ?Ae ?Af La.out).mono ?_);(case Ae=>exact(kI HI0.out));(case Af=>exact kG HB.out (IsS96.ge HI0.out));rintro e Lf ⟨rfl,hi,hb,hk⟩;refine⟨_,rfl,?_⟩;replace Ac:=Az.mk (Kd.S_mono (Kd.S_keep (IsS96.apartS (show IsS96 w0 _ g Ab Bu Bv from kI HI0.out) (kS Ac.out) (by decide)) hk (fun _ h=>h.2)) (fun _ h=>h.1));replace Aa:=Az.mk (Kd.Q_mono (Kd.Q_keep (IsS96.apartQ (show IsS96 w0 _ g Ab Bu Bv from kI HI0.out) (kQ Aa.out) (by decide)) hk (fun _ h=>h.2)) (fun _ h=>h.1));replace Ad:=Az.mk (Kd.R_mono (Kd.R_keep (IsS96.apart (show IsS96 w0 _ g Ab Bu Bv from kI HI0.out) (kR Ad.out) (by decide)) hk (fun _ h=>h.2)) (fun _ h=>h.1));replace HK:=Az.mk (KeepBut.trans (kK HK.out) hk (.inl rfl));replace HB:=Az.mk (hb);replace HI0:=Az.mk (hi);(try clear hb);(try clear hk);(try clear hi);have Gj:0≤(Ay:Int):=od;have Gk:(Ay:Int)<((Aj.length:Int):Int):=od;obtain⟨Gl,Gm⟩:=Kd.R_celln 0 Ad.out (Ay:Int) Gj Gk;replace Gj:=ets Gj;replace Gk:=ets Gk;obtain⟨hy48_,hz48_⟩:=Kd.R_celln 0 Ad.out (Ay:Int) (od) (od);have Gn:=Kd.R_putg Ad.out (Ay:Int) Ci)|((with_reducible refine gate_store (t:=3) (p:=60) rfl ?_);refine store_event (t:=3) (p:=60) (v:=?vo_w49) (w1:=(Lf.setCell ⟨Al,(Ay:Int).toNat,none⟩ (.int .i64 Ci))) ?hg ?ho ?hn ?hr ?_;(case ho=>rfl);(case hg=>rfl);(case hn=>rfl);(case hr=>first|(go_simp;done)|(go_simp;rfl));intro Jv hw;have hg:Lf.grownBy Jv (some Al):=(by rw[hw];exact Gn.2);have hp_:Kd.R (Kd.int .i64) 3 Jv w.heap.size (fun k_=>some k_≠(.slice Dd Ak.length De:Value).ownBlock) (.slice (some ⟨Al,0,none⟩) Aj.length Bq) Aq:=(by rw[hw,Eu.out];exact Gn.1);clear Gn;replace Ac:=Az.mk (Kd.S_after (v:=(.slice (some ⟨Al,0,none⟩) Aj.length Bq)) (v1:=(.slice (some ⟨Al,0,none⟩) Aj.length Bq)) (ok:=(fun k_=>some k_≠(.slice Dd Ak.length De:Value).ownBlock)) (kS Ac.out) hg (.inl rfl));replace Aa:=Az.mk (Kd.Q_after (v:=(.slice (some ⟨Al,0,none⟩) Aj.length Bq)) (v1:=(.slice (some ⟨Al,0,none⟩) Aj.length Bq)) (ok:=(fun _=>True)) (kQ Aa.out) hg (.inl rfl));replace HI0:=Az.mk (IsS96.grown (kI HI0.out) hg (IsS96.own_ne HI0.out Ad.out (by decide)));replace HB:=Az.mk ((by rw[hw];exact bwS (HB.out) (Nat.le_trans HL.out Dn.out):Below w0.heap.size w0 Jv));replace HK:=Az.mk (KeepBut.trans (kK HK.out) (KeepBut.of_grown hg g) (Kd.R_base2 Ad.out));replace Ad:=Az.mk (hp_);clear hg hw hp_)|((with_reducible refine gtC (f:=27) rfl ?_);refine goesL_ (some 63) rfl rfl Try.func27 (by kernel_rfl) rfl #[.slice Hm Ai.length Hn, .slice (some ⟨Al,0,none⟩) Aq.length Bq] rfl (by(try simp only[List.map_toArray,List.map_cons,List.map_nil]);first|done|(rw[show Aq.length=Aj.length from(Kd.R_reads' Ad.out).1.symm] <;> rfl)|rfl|(simp only[List.length_drop,List.length_take];rfl)) ?_;(with_reducible refine(fL.calls k2 _ _ Ai _ _ Aq true _ ?Ae ?Af ?Bf ?Bh Ld.out).mono ?_);(case Ae=>exact kC (Kd.S_reads' Ac.out).2.2);(case Af=>exact(Kd.S_reads' Ac.out).2.1);(case Bf=>exact kC (Kd.R_reads' Ad.out).2.2);(case Bh=>rw[show Aq.length=Aj.length from(Kd.R_reads' Ad.out).1.symm];exact(Kd.R_reads' Ad.out).2.1);rintro e Nc ⟨rfl,hb⟩;refine⟨_,rfl,?_⟩;replace Ac:=Az.mk (Kd.S_below (kS Ac.out) hb);replace Aa:=Az.mk (Kd.Q_below (kQ Aa.out) hb);replace Ad:=Az.mk (Kd.R_below (kR Ad.out) hb);replace HK:=Az.mk (KeepBut.trans (kK HK.out) (KeepBut.of_below hb g none) (.inl rfl));replace HB:=Az.mk (bwT (kG HB.out (IsS96.ge HI0.out)) hb);replace HI0:=Az.mk (IsS96.below (kI HI0.out) hb);(try clear hb)))
     go_roundg k2
     case measure=>have:=HK1.out;have:=HK2.out;omega
     case rel=>exact⟨(Aq),(wrap64 (Bi+1)),(Db),(Dc),rq2,H',⟨by have:=HK1.out;have:=HK2.out;omega⟩,⟨by(with_reducible repeat(first|apply Kd.S_alloc|apply Kd.S_drewN|apply Kd.S_drew));exact Kd.S_mono Ac.out (fun _ hk=>hk.2)⟩,⟨Kd.Q_of_R (by(with_reducible repeat(first|apply Kd.R_alloc|apply Kd.R_drewN|apply Kd.R_drew));exact Kd.R_mono Ad.out (fun _ hk=>trivial))⟩,⟨kI HI0.out⟩,⟨kK HK.out⟩,⟨kG HB.out (IsS96.ge HI0.out)⟩⟩
    replace Iy:=Bool.eq_false_iff.mpr Iy
    subst Iy
    rw[ig ff]at H
    have H':=Az.mk H
    clear H
    go_wp2_with (first|((with_reducible refine gtD (N:=42) rfl ?_);refine Kd.R_lit (Kd.int .i64) _ 3 ?hg (N:=42) ?hd (xs:=([]:List Int)) (inner:=[]) (ok:=fun _=>True) (okp:=fun _=>True) ?hr ?hp (fun _ hk=>hk) trivial (Below.refl _ _) (Nat.le_refl _) (by simp) ?_;(case hd=>rfl);(case hg=>rfl);(case hr=>first|(go_simp;done)|(go_simp;rfl));(case hp=>exact(Reps.none _ _));intro Ge Nd Ck hb hg_ hnew_;clear hg_ hnew_;(first|rw[←Co.out]at Ck|(simp only[Int.reduceToNat]at Ck;rw[←Co.out]at Ck));replace Ac:=Az.mk (Kd.S_elder' (kS Ac.out) (Kd.R_base Ck) hb);have Bj:=Az.mk (Kd.R_lower (Kd.R_new' Ck (Kd.Q_lt (kQ Aa.out))) (keep_size (w:=w) (g:=g) (row:=none) (kK HK.out)));replace Aa:=Az.mk (Kd.Q_elder' (kQ Aa.out) (Kd.R_base Ck) hb);replace HK:=Az.mk (KeepBut.trans (kK HK.out) (KeepBut.of_below hb g none) (.inl rfl));replace HB:=Az.mk (bwT (kG HB.out (IsS96.ge HI0.out)) hb);replace HI0:=Az.mk (IsS96.below (kI HI0.out) hb);clear hb Ck;obtain⟨Df,Dg,Jw,_⟩:=Kd.Q_slice Aa.out;subst Jw)|((with_reducible refine gate_builtin (b:= .append) (xs:= #[.tmp 42, .tmp 43]) rfl ?_);at_builtin;refine Kd.R_append_rows (Kd.int .i64) w.heap.size rfl (.tmp 42) (.tmp 43) 25 3 (.int .i64 0) 8 rfl Try.underlying25 info3 rfl (by decide) (by omega) Ge Da Ak _ _ _ (fun k_=>some k_≠(.slice Df Ak.length Dg:Value).ownBlock) (fun _=>False) rfl rfl ?aO ?aR (fun _ _ h=>h) (fun _ h=>h.elim) ?aF (Below.refl _ _) ?aS ?aL ?_;(case aR=>exact kC (Kd.Q_reads' Aa.out).2.2);(case aF=>exact(fun k_ hk=>Kd.fresh' (Kd.Q_lt (kQ Aa.out)) k_ hk));(case aO=>exact(by(with_reducible repeat(first|apply Kd.R_alloc|apply Kd.R_drewN|apply Kd.R_drew));exact Kd.R_mono Bj.out (fun _ hk=>hk.2)));(case aS=>exact(keep_size (w:=w) (g:=g) (row:=none) (kK HK.out)));(case aL=>have:=LMc24.out;omega);intro Jp Nf ho hb hg hat;rw[←Es.out]at ho;have n0_:=Az.mk (Kd.S_after (ok:=(fun k_=>some k_≠(.slice Df Ak.length Dg:Value).ownBlock)) (kS Ac.out) hg hat);have n1_:=Az.mk (Kd.Q_after (ok:=(fun _=>True)) (kQ Aa.out) hg hat);have n2_:=Az.mk (IsS96.grown (kI HI0.out) hg (IsS96.own_ne HI0.out Bj.out (by decide)));have n3_:=Az.mk (below_weaken (kG HB.out (IsS96.ge HI0.out)) HL.out hb);have n4_:=Az.mk (KeepBut.trans (kK HK.out) (KeepBut.of_grown hg g) (Kd.R_base2 Bj.out));have n5_:=Az.mk (ho);clear Ac;clear Aa;clear HI0;clear HB;clear HK;clear Bj;have Ac:=n0_;have Aa:=n1_;have HI0:=n2_;have HB:=n3_;have HK:=n4_;have Ad:=n5_;clear n0_ n1_ n2_ n3_ n4_ n5_;clear ho hb hg hat;obtain⟨Md,Br,Jx⟩:=Kd.R_slice Ad.out;subst Jx)|((with_reducible refine gtC (f:=75) rfl ?_);refine clz Try.func75 (some 49) #[.pointer (some ⟨g,0,none⟩), .int .i64 (Aj.length:Int)] ?_;(with_reducible refine(fK.calls g Ab Ag Ah (Aj.length:Int) Ax Bs Bt w0 _ ?Ae ?Af Kv.out).mono ?_);(case Ae=>exact(kI HI0.out));(case Af=>exact kG HB.out (IsS96.ge HI0.out));rintro e Ng ⟨rfl,hi,hb,hk⟩;refine⟨_,rfl,?_⟩;replace Ac:=Az.mk (Kd.S_mono (Kd.S_keep (IsS96.apartS (show IsS96 w0 _ g Ab Ag Ah from kI HI0.out) (kS Ac.out) (by decide)) hk (fun _ h=>h.2)) (fun _ h=>h.1));replace Aa:=Az.mk (Kd.Q_mono (Kd.Q_keep (IsS96.apartQ (show IsS96 w0 _ g Ab Ag Ah from kI HI0.out) (kQ Aa.out) (by decide)) hk (fun _ h=>h.2)) (fun _ h=>h.1));replace Ad:=Az.mk (Kd.R_mono (Kd.R_keep (IsS96.apart (show IsS96 w0 _ g Ab Ag Ah from kI HI0.out) (kR Ad.out) (by decide)) hk (fun _ h=>h.2)) (fun _ h=>h.1));replace HK:=Az.mk (KeepBut.trans (kK HK.out) hk (.inl rfl));replace HB:=Az.mk (hb);replace HI0:=Az.mk (hi);(try clear hb);(try clear hk);(try clear hi))|((with_reducible refine gtC (f:=75) rfl ?_);refine clz Try.func75 (some 51) #[.pointer (some ⟨g,0,none⟩), .int .i64 7] ?_;(with_reducible refine(fK.calls g Ab Bs Bt 7 Ch Bo Bp w0 _ ?Ae ?Af Kw.out).mono ?_);(case Ae=>exact(kI HI0.out));(case Af=>exact kG HB.out (IsS96.ge HI0.out));rintro e Lg ⟨rfl,hi,hb,hk⟩;refine⟨_,rfl,?_⟩;replace Ac:=Az.mk (Kd.S_mono (Kd.S_keep (IsS96.apartS (show IsS96 w0 _ g Ab Bs Bt from kI HI0.out) (kS Ac.out) (by decide)) hk (fun _ h=>h.2)) (fun _ h=>h.1));replace Aa:=Az.mk (Kd.Q_mono (Kd.Q_keep (IsS96.apartQ (show IsS96 w0 _ g Ab Bs Bt from kI HI0.out) (kQ Aa.out) (by decide)) hk (fun _ h=>h.2)) (fun _ h=>h.1));replace Ad:=Az.mk (Kd.R_mono (Kd.R_keep (IsS96.apart (show IsS96 w0 _ g Ab Bs Bt from kI HI0.out) (kR Ad.out) (by decide)) hk (fun _ h=>h.2)) (fun _ h=>h.1));replace HK:=Az.mk (KeepBut.trans (kK HK.out) hk (.inl rfl));replace HB:=Az.mk (hb);replace HI0:=Az.mk (hi);(try clear hb);(try clear hk);(try clear hi);have p29:0≤(Ax:Int):=od;have Gf:(Ax:Int)<((Aj.length:Int):Int):=od;obtain⟨Al,Jr,Dl,Dm,gl29,Js,HG29⟩:=Kd.R_form Ad.out (by omega);(first|cases Dl|(injection Dl with ea_ en_ ec_;(first|subst ea_|(injection ea_ with ea_;subst ea_));subst ec_;clear en_));have Dn:=Az.mk Dm;have Jt:=Az.mk HG29;clear Dm gl29 HG29;obtain⟨Gg,Gh⟩:=Kd.R_celln 0 Ad.out (Ax:Int) p29 Gf;replace p29:=ets p29;replace Gf:=ets Gf;obtain⟨hy58_,hz58_⟩:=Kd.R_celln 0 Ad.out (Ax:Int) (od) (od);have Gp:=Kd.R_putg Ad.out (Ax:Int) Ch)|((with_reducible refine gate_store (t:=3) (p:=52) rfl ?_);refine store_event (t:=3) (p:=52) (v:=?vo_w59) (w1:=(Lg.setCell ⟨Al,(Ax:Int).toNat,none⟩ (.int .i64 Ch))) ?hg ?ho ?hn ?hr ?_;(case ho=>rfl);(case hg=>rfl);(case hn=>rfl);(case hr=>first|(go_simp;done)|(go_simp;rfl));intro Jy hw;have hg:Lg.grownBy Jy (some Al):=(by rw[hw];exact Gp.2);have hp_:Kd.R (Kd.int .i64) 3 Jy w.heap.size (fun k_=>some k_≠(.slice Df Ak.length Dg:Value).ownBlock) (.slice (some ⟨Al,0,none⟩) Aj.length Br) Ee:=(by rw[hw,Et.out];exact Gp.1);clear Gp;replace Ac:=Az.mk (Kd.S_after (v:=(.slice (some ⟨Al,0,none⟩) Aj.length Br)) (v1:=(.slice (some ⟨Al,0,none⟩) Aj.length Br)) (ok:=(fun k_=>some k_≠(.slice Df Ak.length Dg:Value).ownBlock)) (kS Ac.out) hg (.inl rfl));replace Aa:=Az.mk (Kd.Q_after (v:=(.slice (some ⟨Al,0,none⟩) Aj.length Br)) (v1:=(.slice (some ⟨Al,0,none⟩) Aj.length Br)) (ok:=(fun _=>True)) (kQ Aa.out) hg (.inl rfl));replace HI0:=Az.mk (IsS96.grown (kI HI0.out) hg (IsS96.own_ne HI0.out Ad.out (by decide)));replace HB:=Az.mk ((by rw[hw];exact bwS (HB.out) (Nat.le_trans HL.out Dn.out):Below w0.heap.size w0 Jy));replace HK:=Az.mk (KeepBut.trans (kK HK.out) (KeepBut.of_grown hg g) (Kd.R_base2 Ad.out));replace Ad:=Az.mk (hp_);clear hg hw hp_)|((with_reducible refine gtC (f:=75) rfl ?_);refine clz Try.func75 (some 57) #[.pointer (some ⟨g,0,none⟩), .int .i64 (Aj.length:Int)] ?_;(with_reducible refine(fK.calls g Ab Bo Bp (Aj.length:Int) Ay Bu Bv w0 _ ?Ae ?Af Kz.out).mono ?_);(case Ae=>exact(kI HI0.out));(case Af=>exact kG HB.out (IsS96.ge HI0.out));rintro e Nh ⟨rfl,hi,hb,hk⟩;refine⟨_,rfl,?_⟩;replace Ac:=Az.mk (Kd.S_mono (Kd.S_keep (IsS96.apartS (show IsS96 w0 _ g Ab Bo Bp from kI HI0.out) (kS Ac.out) (by decide)) hk (fun _ h=>h.2)) (fun _ h=>h.1));replace Aa:=Az.mk (Kd.Q_mono (Kd.Q_keep (IsS96.apartQ (show IsS96 w0 _ g Ab Bo Bp from kI HI0.out) (kQ Aa.out) (by decide)) hk (fun _ h=>h.2)) (fun _ h=>h.1));replace Ad:=Az.mk (Kd.R_mono (Kd.R_keep (IsS96.apart (show IsS96 w0 _ g Ab Bo Bp from kI HI0.out) (kR Ad.out) (by decide)) hk (fun _ h=>h.2)) (fun _ h=>h.1));replace HK:=Az.mk (KeepBut.trans (kK HK.out) hk (.inl rfl));replace HB:=Az.mk (hb);replace HI0:=Az.mk (hi);(try clear hb);(try clear hk);(try clear hi))|((with_reducible refine gtC (f:=75) rfl ?_);refine clz Try.func75 (some 59) #[.pointer (some ⟨g,0,none⟩), .int .i64 7] ?_;(with_reducible refine(fK.calls g Ab Bu Bv 7 Ci Db Dc w0 _ ?Ae ?Af La.out).mono ?_);(case Ae=>exact(kI HI0.out));(case Af=>exact kG HB.out (IsS96.ge HI0.out));rintro e Lh ⟨rfl,hi,hb,hk⟩;refine⟨_,rfl,?_⟩;replace Ac:=Az.mk (Kd.S_mono (Kd.S_keep (IsS96.apartS (show IsS96 w0 _ g Ab Bu Bv from kI HI0.out) (kS Ac.out) (by decide)) hk (fun _ h=>h.2)) (fun _ h=>h.1));replace Aa:=Az.mk (Kd.Q_mono (Kd.Q_keep (IsS96.apartQ (show IsS96 w0 _ g Ab Bu Bv from kI HI0.out) (kQ Aa.out) (by decide)) hk (fun _ h=>h.2)) (fun _ h=>h.1));replace Ad:=Az.mk (Kd.R_mono (Kd.R_keep (IsS96.apart (show IsS96 w0 _ g Ab Bu Bv from kI HI0.out) (kR Ad.out) (by decide)) hk (fun _ h=>h.2)) (fun _ h=>h.1));replace HK:=Az.mk (KeepBut.trans (kK HK.out) hk (.inl rfl));replace HB:=Az.mk (hb);replace HI0:=Az.mk (hi);(try clear hb);(try clear hk);(try clear hi);have Gj:0≤(Ay:Int):=od;have Gk:(Ay:Int)<((Aj.length:Int):Int):=od;obtain⟨Gl,Gm⟩:=Kd.R_celln 0 Ad.out (Ay:Int) Gj Gk;replace Gj:=ets Gj;replace Gk:=ets Gk;obtain⟨hy62_,hz62_⟩:=Kd.R_celln 0 Ad.out (Ay:Int) (od) (od);have Gq:=Kd.R_putg Ad.out (Ay:Int) Ci)|((with_reducible refine gate_store (t:=3) (p:=60) rfl ?_);refine store_event (t:=3) (p:=60) (v:=?vo_w63) (w1:=(Lh.setCell ⟨Al,(Ay:Int).toNat,none⟩ (.int .i64 Ci))) ?hg ?ho ?hn ?hr ?_;(case ho=>rfl);(case hg=>rfl);(case hn=>rfl);(case hr=>first|(go_simp;done)|(go_simp;rfl));intro Jz hw;have hg:Lh.grownBy Jz (some Al):=(by rw[hw];exact Gq.2);have hp_:Kd.R (Kd.int .i64) 3 Jz w.heap.size (fun k_=>some k_≠(.slice Df Ak.length Dg:Value).ownBlock) (.slice (some ⟨Al,0,none⟩) Aj.length Br) Aq:=(by rw[hw,Eu.out];exact Gq.1);clear Gq;replace Ac:=Az.mk (Kd.S_after (v:=(.slice (some ⟨Al,0,none⟩) Aj.length Br)) (v1:=(.slice (some ⟨Al,0,none⟩) Aj.length Br)) (ok:=(fun k_=>some k_≠(.slice Df Ak.length Dg:Value).ownBlock)) (kS Ac.out) hg (.inl rfl));replace Aa:=Az.mk (Kd.Q_after (v:=(.slice (some ⟨Al,0,none⟩) Aj.length Br)) (v1:=(.slice (some ⟨Al,0,none⟩) Aj.length Br)) (ok:=(fun _=>True)) (kQ Aa.out) hg (.inl rfl));replace HI0:=Az.mk (IsS96.grown (kI HI0.out) hg (IsS96.own_ne HI0.out Ad.out (by decide)));replace HB:=Az.mk ((by rw[hw];exact bwS (HB.out) (Nat.le_trans HL.out Dn.out):Below w0.heap.size w0 Jz));replace HK:=Az.mk (KeepBut.trans (kK HK.out) (KeepBut.of_grown hg g) (Kd.R_base2 Ad.out));replace Ad:=Az.mk (hp_);clear hg hw hp_)|((with_reducible refine gtC (f:=27) rfl ?_);refine goesL_ (some 63) rfl rfl Try.func27 (by kernel_rfl) rfl #[.slice Hm Ai.length Hn, .slice (some ⟨Al,0,none⟩) Aq.length Br] rfl (by(try simp only[List.map_toArray,List.map_cons,List.map_nil]);first|done|(rw[show Aq.length=Aj.length from(Kd.R_reads' Ad.out).1.symm] <;> rfl)|rfl|(simp only[List.length_drop,List.length_take];rfl)) ?_;(with_reducible refine(fL.calls k2 _ _ Ai _ _ Aq false _ ?Ae ?Af ?Bf ?Bh Ld.out).mono ?_);(case Ae=>exact kC (Kd.S_reads' Ac.out).2.2);(case Af=>exact(Kd.S_reads' Ac.out).2.1);(case Bf=>exact kC (Kd.R_reads' Ad.out).2.2);(case Bh=>rw[show Aq.length=Aj.length from(Kd.R_reads' Ad.out).1.symm];exact(Kd.R_reads' Ad.out).2.1);rintro e Nl ⟨rfl,hb⟩;refine⟨_,rfl,?_⟩;replace Ac:=Az.mk (Kd.S_below (kS Ac.out) hb);replace Aa:=Az.mk (Kd.Q_below (kQ Aa.out) hb);replace Ad:=Az.mk (Kd.R_below (kR Ad.out) hb);replace HK:=Az.mk (KeepBut.trans (kK HK.out) (KeepBut.of_below hb g none) (.inl rfl));replace HB:=Az.mk (bwT (kG HB.out (IsS96.ge HI0.out)) hb);replace HI0:=Az.mk (IsS96.below (kI HI0.out) hb);(try clear hb)))
    go_roundg k2
    case measure=>have:=HK1.out;have:=HK2.out;omega
    case rel=>exact⟨(Ak),(wrap64 (Bi+1)),(Db),(Dc),rq2,H',⟨by have:=HK1.out;have:=HK2.out;omega⟩,⟨by(with_reducible repeat(first|apply Kd.S_alloc|apply Kd.S_drewN|apply Kd.S_drew));exact Kd.S_mono Ac.out (fun _ hk=>hk.1)⟩,⟨by(with_reducible repeat(first|apply Kd.Q_alloc|apply Kd.Q_drewN|apply Kd.Q_drew));exact Kd.Q_mono Aa.out (fun _ hk=>trivial)⟩,⟨kI HI0.out⟩,⟨kK HK.out⟩,⟨kG HB.out (IsS96.ge HI0.out)⟩⟩
   rw[ig Hc]at H
   have Hs:=decide_eq_false Hc
   clear Hc
   replace H:=bez H
   obtain⟨⟨Cl,Bc,Bd⟩,Iz,H⟩:=H
   try dsimp only at H
   by_cases Gr:Cl=0
   ·rw[ip Gr]at H
    have Ht:=beq_iff_eq.mpr Gr
    have Hu:=bne_eq_false_iff_eq.mpr Gr
    clear Gr
    obtain⟨Dh,hy⟩:∃y_:List Int,y_=(([(-1),201,1,3]:List Int)):=⟨_,rfl⟩
    replace H:((jF.f Ab Bc Bd Dh).bind fun Do=>(if 0<(Ak.length:Int) then(some (Ai,(Ak.set (0:Int).toNat Do.1),Do.2.1,Do.2.2)) else(none)))=some (r1,r2,r3,r4):=rh
    have Ev:=Az.mk hy
    clear hy
    replace H:=bez H
    obtain⟨⟨Ef,Hv,Hw⟩,Me,H⟩:=H
    try dsimp only at H
    by_cases Ja:0<(Ak.length:Int)
    rotate_left
    ·rw[ig Ja]at H
     exact absurd H (by simp)
    rw[ip Ja]at H
    have Li:=ode Ja
    have Lj:decide (0<Ak.length)=true:=ode (by omega)
    clear Ja
    obtain⟨Hx,hy⟩:∃y_:List Int,y_=(Ak.set (0:Int).toNat Ef):=⟨_,rfl⟩
    replace H:(some (Ai,Hx,Hv,Hw))=some (r1,r2,r3,r4):=rh
    have Hy:=Az.mk hy
    clear hy
    simp only[Option.some.injEq,Prod.mk.injEq]at H
    obtain⟨rfl,rfl,rfl,rfl⟩:=H
    go_wp2_with (first|((with_reducible refine gtC (f:=75) rfl ?_);refine clz Try.func75 (some 66) #[.pointer (some ⟨g,0,none⟩), .int .i64 18] ?_;(with_reducible refine(fK.calls g Ab Ag Ah 18 Cl Bc Bd w0 _ ?Ae ?Af Iz.out).mono ?_);(case Ae=>exact(kI HI0.out));(case Af=>exact kG HB.out (IsS96.ge HI0.out));rintro e Nm ⟨rfl,hi,hb,hk⟩;refine⟨_,rfl,?_⟩;replace Ac:=Az.mk (Kd.S_mono (Kd.S_keep (IsS96.apartS (show IsS96 w0 _ g Ab Ag Ah from kI HI0.out) (kS Ac.out) (by decide)) hk (fun _ h=>h.2)) (fun _ h=>h.1));replace Aa:=Az.mk (Kd.Q_mono (Kd.Q_keep (IsS96.apartQ (show IsS96 w0 _ g Ab Ag Ah from kI HI0.out) (kQ Aa.out) (by decide)) hk (fun _ h=>h.2)) (fun _ h=>h.1));replace HK:=Az.mk (KeepBut.trans (kK HK.out) hk (.inl rfl));replace HB:=Az.mk (hb);replace HI0:=Az.mk (hi);(try clear hb);(try clear hk);(try clear hi))|((with_reducible refine gtD (N:=71) rfl ?_);refine Kd.R_lit (Kd.int .i64) _ 3 ?hg (N:=71) ?hd (xs:=([(-1),201,1,3]:List Int)) (inner:=[.int .i64 (-1), .int .i64 201, .int .i64 1, .int .i64 3]) (ok:=fun _=>True) (okp:=fun _=>True) ?hr ?hp (fun _ hk=>hk) trivial (Below.refl _ _) (Nat.le_refl _) (by simp) ?_;(case hd=>rfl);(case hg=>rfl);(case hr=>first|(go_simp;done)|(go_simp;rfl));(case hp=>exact(Reps.one (show Kd.M (Kd.int .i64) _ _ _ (-1) [.int .i64 (-1)]from rfl) (Reps.one (show Kd.M (Kd.int .i64) _ _ _ 201 [.int .i64 201]from rfl) (Reps.one (show Kd.M (Kd.int .i64) _ _ _ 1 [.int .i64 1]from rfl) (Reps.one (show Kd.M (Kd.int .i64) _ _ _ 3 [.int .i64 3]from rfl) (Reps.none _ _))))));intro Mf Nn Cm hb hg_ hnew_;clear hg_ hnew_;(first|rw[←Ev.out]at Cm|(simp only[Int.reduceToNat]at Cm;rw[←Ev.out]at Cm));replace Ac:=Az.mk (Kd.S_elder' (kS Ac.out) (Kd.R_base Cm) hb);have Bl:=Az.mk (Kd.R_lower (Kd.R_new' Cm (Kd.Q_lt (kQ Aa.out))) (keep_size (w:=w) (g:=g) (row:=none) (kK HK.out)));replace Aa:=Az.mk (Kd.Q_elder' (kQ Aa.out) (Kd.R_base Cm) hb);replace HK:=Az.mk (KeepBut.trans (kK HK.out) (KeepBut.of_below hb g none) (.inl rfl));replace HB:=Az.mk (bwT (kG HB.out (IsS96.ge HI0.out)) hb);replace HI0:=Az.mk (IsS96.below (kI HI0.out) hb);clear hb Cm;obtain⟨Eg,Eh,Ka⟩:=Kd.R_slice Bl.out;subst Ka)|((with_reducible refine gtC (f:=76) rfl ?_);refine clz Try.func76 (some 72) #[.pointer (some ⟨g,0,none⟩), .slice Eg Dh.length Eh] ?_;(with_reducible refine(jF.calls g Ab Bc Bd _ _ Dh Ef Hv Hw w0 _ ?Ae ?Af ?Bf ?Bh ?Dp Me.out).mono ?_);(case Ae=>exact(kI HI0.out));(case Af=>exact kG HB.out (IsS96.ge HI0.out));(case Bf=>exact kC (Kd.R_reads' Bl.out).2.2);(case Bh=>exact(Kd.R_reads' Bl.out).2.1);(case Dp=>exact far_slice (IsS96.own_ne HI0.out Bl.out (by decide)));rintro e Lk ⟨rfl,hi,hb,hk⟩;refine⟨_,rfl,?_⟩;replace Ac:=Az.mk (Kd.S_mono (Kd.S_keep (IsS96.apartS (show IsS96 w0 _ g Ab Bc Bd from kI HI0.out) (kS Ac.out) (by decide)) hk (fun _ h=>h.2)) (fun _ h=>h.1));replace Aa:=Az.mk (Kd.Q_mono (Kd.Q_keep (IsS96.apartQ (show IsS96 w0 _ g Ab Bc Bd from kI HI0.out) (kQ Aa.out) (by decide)) hk (fun _ h=>h.2)) (fun _ h=>h.1));replace Bl:=Az.mk (Kd.R_mono (Kd.R_keep (IsS96.apart (show IsS96 w0 _ g Ab Bc Bd from kI HI0.out) (kR Bl.out) (by decide)) hk (fun _ h=>h.2)) (fun _ h=>h.1));replace HK:=Az.mk (KeepBut.trans (kK HK.out) hk (.inl rfl));replace HB:=Az.mk (hb);replace HI0:=Az.mk (hi);(try clear hb);(try clear hk);(try clear hi);have Kb:0≤(0:Int):=(by omega);have Ke:(0:Int)<((Ak.length:Int):Int):=od;have Mg:(0<Ak.length)=True:=ets (by omega);obtain⟨Cn,Di,Dq,Hz,Ia,gl69,Mh,HG69⟩:=Kd.Q_form Aa.out (by omega);(first|cases Hz|(injection Hz with ea_ en_ ec_;(first|subst ea_|(injection ea_ with ea_;subst ea_));subst ec_;clear en_));have Kf:=Az.mk Ia;have Mi:=Az.mk HG69;clear Ia gl69 HG69;obtain⟨Dr,Ds⟩:=Kd.Q_cell 0 Aa.out (0:Int) Kb Ke;(try rw[show((0:Int)).toNat=0 from rfl]at Dr);(try simp only[Nat.reduceMul,Nat.zero_mul,Nat.zero_add,Nat.reduceAdd]at Dr);(try rw[show((0:Int)).toNat=0 from rfl]at Ds);(try simp only[Nat.reduceMul,Nat.zero_mul,Nat.zero_add,Nat.reduceAdd]at Ds);replace Kb:=ets Kb;replace Ke:=ets Ke;have n_:=Az.mk (Kd.Q_mono (ok':=(fun k_=>some k_≠(.slice Eg Dh.length Eh:Value).ownBlock)) Aa.out (fun k_ hk=>hk.2));clear Aa;have Aa:=n_;clear n_;obtain⟨hy75_,hz75_⟩:=Kd.Q_cell 0 Aa.out (0:Int) (by omega) (od);(try simp only[Int.reduceToNat,Int.toNat_zero,Int.toNat_ofNat,Nat.reduceMul,Nat.zero_mul,Nat.zero_add]at hy75_ hz75_);(try rw[show((0:Int)).toNat=0 from rfl]at hy75_);(try rw[show((0:Int)).toNat=0 from rfl]at hz75_);(try rw[Nat.add_zero]at hy75_);(try rw[Nat.add_zero]at hz75_);have Gs:=Kd.Q_putg Aa.out (0:Int) (by omega) (by have h_:(0:Int)<((Ak.length:Int):Int):=od;first|exact h_|(have e_:=(Kd.Q_reads' Aa.out).1;omega)|simpa using h_) Ef)|((with_reducible refine gate_store (t:=3) (p:=73) rfl ?_);refine store_event (t:=3) (p:=73) (v:=?vo_w76) (w1:=(Lk.setCell ⟨Cn,Di+(0:Int).toNat,none⟩ (.int .i64 Ef))) ?hg ?ho ?hn ?hr ?_;(case ho=>rfl);(case hg=>rfl);(case hn=>rfl);(case hr=>first|(go_simp;done)|(go_simp;rfl));intro Kg hw;have hg:Lk.grownBy Kg (some Cn):=(by rw[hw];exact Gs.2);have hp_:Kd.Q (Kd.int .i64) 3 Kg w.heap.size (fun k_=>some k_≠(.slice Eg Dh.length Eh:Value).ownBlock) (.slice (some ⟨Cn,Di,none⟩) Ak.length Dq) Hx:=(by rw[hw,Hy.out];exact Gs.1);clear Gs;replace Ac:=Az.mk (Kd.S_after (v:=(.slice (some ⟨Cn,Di,none⟩) Ak.length Dq)) (v1:=(.slice (some ⟨Cn,Di,none⟩) Ak.length Dq)) (ok:=(fun k_=>some k_≠(.slice Eg Dh.length Eh:Value).ownBlock)) (by(with_reducible repeat(first|apply Kd.S_alloc|apply Kd.S_drewN|apply Kd.S_drew));exact Kd.S_mono Ac.out (fun _ hk=>⟨hk.2,hk.1⟩)) hg (.inl rfl));replace HI0:=Az.mk (IsS96.grown (kI HI0.out) hg (IsS96.own_neQ HI0.out Aa.out (by decide)));replace Bl:=Az.mk (Kd.R_after (v:=(.slice (some ⟨Cn,Di,none⟩) Ak.length Dq)) (v1:=(.slice (some ⟨Cn,Di,none⟩) Ak.length Dq)) (ok:=(fun _=>True)) (kR Bl.out) hg (.inl rfl));replace HB:=Az.mk ((by rw[hw];exact bwS (HB.out) (Nat.le_trans HL.out Kf.out):Below w0.heap.size w0 Kg));replace HK:=Az.mk (KeepBut.trans (kK HK.out) (KeepBut.of_grown hg g) (Kd.Q_base2 Aa.out));replace Aa:=Az.mk (hp_);clear hg hw hp_))
    go_ret2
    exact⟨_,_,by first|rfl|(simp[eWn,eWs] <;> rfl)|(simp only[←Ce];first|rfl|(simp[eWn,eWs] <;> rfl))|(simp[*,eWn,eWs] <;> rfl),by(with_reducible repeat(first|apply Kd.S_alloc|apply Kd.S_drewN|apply Kd.S_drew));exact Kd.S_mono Ac.out (fun _ hk=>hk.2),by(with_reducible repeat(first|apply Kd.Q_alloc|apply Kd.Q_drewN|apply Kd.Q_drew));exact Kd.Q_mono Aa.out (fun _ hk=>trivial),kI HI0.out,kG HB.out (IsS96.ge HI0.out),kK HK.out⟩
   rw[ig Gr]at H
   have Ht:=beq_eq_false_iff_ne.mpr Gr
   have Hu:=bne_iff_ne.mpr Gr
   by_cases Gt:Cl=1
   ·rw[ip Gt]at H
    have Ib:=beq_iff_eq.mpr Gt
    have Ic:=bne_eq_false_iff_eq.mpr Gt
    clear Gt
    by_cases Id:1≤(Ak.length:Int)
    rotate_left
    ·rw[ig Id]at H
     exact absurd H (by simp)
    rw[ip Id]at H
    have Ll:=ets Id
    have Lm:=ode Id
    clear Id
    obtain⟨Dj,hy⟩:∃y_:List Int,y_=(Ak.drop (1:Int).toNat):=⟨_,rfl⟩
    replace H:(some (Ai,Dj,Bc,Bd))=some (r1,r2,r3,r4):=rh
    have Ew:=Az.mk hy
    clear hy
    simp only[Option.some.injEq,Prod.mk.injEq]at H
    obtain⟨rfl,rfl,rfl,rfl⟩:=H
    go_wp2_with (first|((with_reducible refine gtC (f:=75) rfl ?_);refine clz Try.func75 (some 66) #[.pointer (some ⟨g,0,none⟩), .int .i64 18] ?_;(with_reducible refine(fK.calls g Ab Ag Ah 18 Cl Bc Bd w0 _ ?Ae ?Af Iz.out).mono ?_);(case Ae=>exact(kI HI0.out));(case Af=>exact kG HB.out (IsS96.ge HI0.out));rintro e Mj ⟨rfl,hi,hb,hk⟩;refine⟨_,rfl,?_⟩;replace Ac:=Az.mk (Kd.S_mono (Kd.S_keep (IsS96.apartS (show IsS96 w0 _ g Ab Ag Ah from kI HI0.out) (kS Ac.out) (by decide)) hk (fun _ h=>h.2)) (fun _ h=>h.1));replace Aa:=Az.mk (Kd.Q_mono (Kd.Q_keep (IsS96.apartQ (show IsS96 w0 _ g Ab Ag Ah from kI HI0.out) (kQ Aa.out) (by decide)) hk (fun _ h=>h.2)) (fun _ h=>h.1));replace HK:=Az.mk (KeepBut.trans (kK HK.out) hk (.inl rfl));replace HB:=Az.mk (hb);replace HI0:=Az.mk (hi);(try clear hb);(try clear hk);(try clear hi);obtain⟨Dt,Ei,Kh,_⟩:=Kd.Q_slice Aa.out;subst Kh;have Ki:(1:Int)≤((Ak.length:Int):Int):=od;obtain⟨Mk,Ex,_,hsz81,_⟩:=info_parts info3;have hcut81:=cut_from (P:=Try.prog) 25 3 .i64 Try.underlying25 Ex 1 hsz81 Dt Ak.length Ei 1 (by omega) Ki;have Du:=Kd.Q_drop (k:=(1:Int).toNat) Aa.out (by omega);obtain⟨Kj,hA81⟩:∃A1,A1=(if Ei=(1:Int).toNat then Dt else(Dt:Option Addr).map (·.add ((1:Int).toNat*1))):=⟨_,rfl⟩;obtain⟨Kk,Gu⟩:∃c1,c1=Ei - (1:Int).toNat:=⟨_,rfl⟩;have hy81:Dj.length=Ak.length - (1:Int).toNat:=(by rw[Ew.out,List.length_drop]);rw[←Ew.out]at Du;rw[←hy81, ←hA81, ←Gu]at hcut81;replace Du:Kd.Q (Kd.int .i64) 3 Mj w.heap.size (fun _=>True) (.slice Kj Dj.length Kk) Dj:=(by rw[hA81,Gu,hy81];exact Du);have HE81:Az ((Value.slice Kj Dj.length Kk).ownBlock=(.slice Dt Ak.length Ei:Value).ownBlock):=⟨by rw[hA81];split <;> (cases (Dt:Option Addr) <;> rfl)⟩;clear hy81 Ex hsz81 Aa hA81 Gu;have Ie:=Az.mk Du;clear Du;replace Ki:=ets Ki;have n_:=Az.mk (Kd.S_mono (ok':=fun k_=>some k_≠(.slice Kj Dj.length Kk:Value).ownBlock) Ac.out (fun k_ hk=>(by rw[HE81.out];exact hk)));clear Ac;have Ac:=n_;clear n_))
    go_ret2
    exact⟨_,_,by first|rfl|(simp[eWn,eWs] <;> rfl)|(simp only[←Ce];first|rfl|(simp[eWn,eWs] <;> rfl))|(simp[*,eWn,eWs] <;> rfl),kS Ac.out,kQ Ie.out,kI HI0.out,kG HB.out (IsS96.ge HI0.out),kK HK.out⟩
   rw[ig Gt]at H
   have Ib:=beq_eq_false_iff_ne.mpr Gt
   have Ic:=bne_iff_ne.mpr Gt
   by_cases Gv:Cl=2
   rotate_left
   ·rw[ig Gv]at H
    have Ig:=beq_eq_false_iff_ne.mpr Gv
    have Ih:=bne_iff_ne.mpr Gv
    simp only[Option.some.injEq,Prod.mk.injEq]at H
    obtain⟨rfl,rfl,rfl,rfl⟩:=H
    go_wp2_with (first|((with_reducible refine gtC (f:=75) rfl ?_);refine clz Try.func75 (some 66) #[.pointer (some ⟨g,0,none⟩), .int .i64 18] ?_;(with_reducible refine(fK.calls g Ab Ag Ah 18 Cl Bc Bd w0 _ ?Ae ?Af Iz.out).mono ?_);(case Ae=>exact(kI HI0.out));(case Af=>exact kG HB.out (IsS96.ge HI0.out));rintro e Np ⟨rfl,hi,hb,hk⟩;refine⟨_,rfl,?_⟩;replace Ac:=Az.mk (Kd.S_mono (Kd.S_keep (IsS96.apartS (show IsS96 w0 _ g Ab Ag Ah from kI HI0.out) (kS Ac.out) (by decide)) hk (fun _ h=>h.2)) (fun _ h=>h.1));replace Aa:=Az.mk (Kd.Q_mono (Kd.Q_keep (IsS96.apartQ (show IsS96 w0 _ g Ab Ag Ah from kI HI0.out) (kQ Aa.out) (by decide)) hk (fun _ h=>h.2)) (fun _ h=>h.1));replace HK:=Az.mk (KeepBut.trans (kK HK.out) hk (.inl rfl));replace HB:=Az.mk (hb);replace HI0:=Az.mk (hi);(try clear hb);(try clear hk);(try clear hi)))
    go_ret2
    exact⟨_,_,by first|rfl|(simp[eWn,eWs] <;> rfl)|(simp only[←Ce];first|rfl|(simp[eWn,eWs] <;> rfl))|(simp[*,eWn,eWs] <;> rfl),kS Ac.out,kQ Aa.out,kI HI0.out,kG HB.out (IsS96.ge HI0.out),kK HK.out⟩
   rw[ip Gv]at H
   have Ig:=beq_iff_eq.mpr Gv
   have Ih:=bne_eq_false_iff_eq.mpr Gv
   clear Gv
   by_cases Jb:0<(Ai.length:Int)
   rotate_left
   ·rw[ig Jb]at H
    exact absurd H (by simp)
   rw[ip Jb]at H
   have Ln:=ode Jb
   have Lo:decide (0<Ai.length)=true:=ode (by omega)
   clear Jb
   obtain⟨Gw,hy⟩:∃y_:List Int,y_=(([0,2,(-1),9]:List Int)):=⟨_,rfl⟩
   replace H:((jF.f Ab Bc Bd Gw).bind fun Dv=>(if 0<((rd_L1 Ai 0).length:Int) then(some ((Ai.set (0:Int).toNat ((rd_L1 Ai 0).set (0:Int).toNat Dv.1)),Ak,Dv.2.1,Dv.2.2)) else(none)))=some (r1,r2,r3,r4):=rh
   have Ey:=Az.mk hy
   clear hy
   replace H:=bez H
   obtain⟨⟨Ej,Gx,Gy⟩,Ml,H⟩:=H
   try dsimp only at H
   by_cases Jc:0<((rd_L1 Ai 0).length:Int)
   rotate_left
   ·rw[ig Jc]at H
    exact absurd H (by simp)
   rw[ip Jc]at H
   have Lp:=ode Jc
   have Lq:decide (0<(rd_L1 Ai 0).length)=true:=ode (by omega)
   clear Jc
   obtain⟨Gz,hy⟩:∃y_:List Int,y_=((rd_L1 Ai 0).set (0:Int).toNat Ej):=⟨_,rfl⟩
   replace H:(some ((Ai.set (0:Int).toNat Gz),Ak,Gx,Gy))=some (r1,r2,r3,r4):=rh
   have Ii:=Az.mk hy
   clear hy
   obtain⟨Kl,hy⟩:∃y_:List (List Int),y_=(Ai.set (0:Int).toNat Gz):=⟨_,rfl⟩
   replace H:(some (Kl,Ak,Gx,Gy))=some (r1,r2,r3,r4):=rh
   have Ij:=Az.mk hy
   clear hy
   simp only[Option.some.injEq,Prod.mk.injEq]at H
   obtain⟨rfl,rfl,rfl,rfl⟩:=H
   try go_wp2_with (first|((with_reducible refine gtC (f:=75) rfl ?_);refine clz Try.func75 (some 66) #[.pointer (some ⟨g,0,none⟩), .int .i64 18] ?_;(with_reducible refine(fK.calls g Ab Ag Ah 18 Cl Bc Bd w0 _ ?Ae ?Af Iz.out).mono ?_);(case Ae=>exact(kI HI0.out));(case Af=>exact kG HB.out (IsS96.ge HI0.out));rintro e Mm ⟨rfl,hi,hb,hk⟩;refine⟨_,rfl,?_⟩;replace Ac:=Az.mk (Kd.S_mono (Kd.S_keep (IsS96.apartS (show IsS96 w0 _ g Ab Ag Ah from kI HI0.out) (kS Ac.out) (by decide)) hk (fun _ h=>h.2)) (fun _ h=>h.1));replace Aa:=Az.mk (Kd.Q_mono (Kd.Q_keep (IsS96.apartQ (show IsS96 w0 _ g Ab Ag Ah from kI HI0.out) (kQ Aa.out) (by decide)) hk (fun _ h=>h.2)) (fun _ h=>h.1));replace HK:=Az.mk (KeepBut.trans (kK HK.out) hk (.inl rfl));replace HB:=Az.mk (hb);replace HI0:=Az.mk (hi);(try clear hb);(try clear hk);(try clear hi)))
   replace Ac:=Az.mk (Kd.S_drew Ac.out);replace Aa:=Az.mk (Kd.Q_drew Aa.out);replace HI0:=Az.mk (IsS96.drew HI0.out);replace HK:=Az.mk (keep_drew HK.out);replace HB:=Az.mk (bwD HB.out)
   have Ek:0≤(0:Int):=(by omega)
   have El:0<(Ai.length:Int):=od
   obtain⟨Ik,Ha,Hb,Km,Ba,Cp,Cq⟩:=at_L1 (Kd.S_reads' Ac.out).2.2 0 Ek El
   cases Km
   obtain⟨Lr,hce312,hMe312,Dw⟩:=Kd.S_get Ac.out [] 0 Ek (by first|exact El|exact od|(have e_:=(Kd.S_reads' Ac.out).1;omega))
   obtain⟨Jd,rfl,Cc⟩:=hMe312
   have Bk:=Dw 0 _ rfl
   rw[Nat.add_zero,show((Kd.slice 3 (Kd.int .i64))).sz=1 from rfl,Nat.mul_one]at Bk
   replace Bk:=Option.some.inj (Bk.symm.trans Ba)
   rw[Bk]at Cc
   have Am:=Az.mk (show Kd.R (Kd.int .i64) 3 _ _ _ _ (rd_L1 Ai 0)from Cc)
   clear Bk Cc
   have Bb:=Az.mk Ba
   clear Dw hce312
   have Ls:(0<Ai.length)=True:=ets (by omega)
   (try rw[show((0:Int)).toNat=0 from rfl]at Ba)
   (try rw[Addr.add_zero']at Ba)
   have Bm:=Az.mk Cq
   have Je:=Az.mk Cp
   clear Cq Cp
   replace Ek:=ets Ek
   replace El:=ets El
   refine start_ (n:=8) (S:=fun w'=>w'.cell? Ik=some (.slice Ha (rd_L1 Ai 0).length Hb)) (ds:=[7]) #[false,false,false,false,false,false,false,false] (by kernel_rfl) rfl rfl (Ba) (fun hHeld=>?_);refine with_tabW fO.tab22 fO.bits22 (fun HT_ HW_=>?_)
   generalize Mm.drew=Nq at Ac Aa HI0 HK HB Am Bm Bb Ba hHeld ⊢
   refine pu (i:=0) (N:=some 80) #[true,false,false,false,false,false,false,false] (any_of HT_.out (by kernel_rfl)) ?_
   refine pu (i:=1) (N:=some 81) #[true,true,false,false,false,false,false,false] (any_of HT_.out (by kernel_rfl)) ?_
   refine pu (i:=3) (N:=some 83) #[true,true,false,true,false,false,false,false] (any_of HT_.out (by kernel_rfl)) ?_
   refine take_ (i:=2) (N:=some 82) (v:=?_) (a':=?_) #[true,true,true,true,false,false,false,false] rfl rfl (take_ofW HT_.out HW_.out (by kernel_rfl)) (fun _ _ _ h=>h) (Or.inl ⟨by rfl,?_⟩) hHeld ?_ ?_
   rotate_left
   ·intro w' s0
    go_simp
    with_reducible rfl
   rotate_left
   ·exact acq
   refine one_ (i:=4) (N:=some 84) #[true,true,true,true,true,false,false,false] rfl rfl (one_of HT_.out (by kernel_rfl)) (by decide) (fun K hK=>?_)
   refine Kd.R_lit_step (Kd.int .i64) _ 3 ?hg (N:=84) ?hd (xs:=([0,2,(-1),9]:List Int)) (inner:=[.int .i64 0, .int .i64 2, .int .i64 (-1), .int .i64 9]) (ok:=fun _=>True) (okp:=fun _=>True) ?hr ?hp (fun _ hk=>hk) trivial (Below.refl _ _) (Nat.le_refl _) (by simp) ?_;(case hd=>rfl);(case hg=>rfl);(case hr=>first|(go_simp;done)|(go_simp;rfl));(case hp=>exact(Reps.one (show Kd.M (Kd.int .i64) _ _ _ 0 [.int .i64 0]from rfl) (Reps.one (show Kd.M (Kd.int .i64) _ _ _ 2 [.int .i64 2]from rfl) (Reps.one (show Kd.M (Kd.int .i64) _ _ _ (-1) [.int .i64 (-1)]from rfl) (Reps.one (show Kd.M (Kd.int .i64) _ _ _ 9 [.int .i64 9]from rfl) (Reps.none _ _))))))
   intro Mn Nr Cf hb hg_ hnew_
   have HS0_:=(hb.cell (World.block_lt_of_cell? _ _ (hHeld))).trans (hHeld)
   clear hg_ hnew_
   (first|rw[←Ey.out]at Cf|(simp only[Int.reduceToNat]at Cf;rw[←Ey.out]at Cf))
   replace Ac:=Az.mk (Kd.S_elder' (kS Ac.out) (Kd.R_base Cf) hb);have Bz:=Az.mk (Kd.R_lower (Kd.R_new' (Kd.R_new' Cf (Kd.Q_lt (kQ Aa.out))) (Kd.R_lt (kR Am.out))) (keep_size (w:=w) (g:=g) (row:=none) (kK HK.out)));replace Aa:=Az.mk (Kd.Q_elder' (kQ Aa.out) (Kd.R_base Cf) hb);replace Am:=Az.mk (Kd.R_elder' (kR Am.out) (Kd.R_base Cf) hb);replace Bm:=Az.mk (Kd.C_below (by repeat(first|(with_reducible exact Bm.out)|(with_reducible refine Kd.C_alloc ?_ _)|(with_reducible refine Kd.C_drewN ?_ _)|(with_reducible refine Kd.C_drew ?_)|exact Bm.out)) hb);replace Bb:=Az.mk (pw_cell_below hb Bb.out);replace HK:=Az.mk (KeepBut.trans (kK HK.out) (KeepBut.of_below hb g none) (.inl rfl));replace HB:=Az.mk (bwT (kG HB.out (IsS96.ge HI0.out)) hb);replace HI0:=Az.mk (IsS96.below (kI HI0.out) hb)
   clear hb Cf
   obtain⟨Kn,Ko,Il⟩:=Kd.R_slice Bz.out
   (first|subst Il|(injection Il with f1_ f2_ f3_;have f4_:=f1_.symm;have f5_:=f3_.symm;clear f1_ f2_ f3_;subst f4_;subst f5_))
   refine hK.out _ _ (HS0_) (fun hHeld=>?_)
   clear hK K
   refine norm_ (a':=?_) ?_ ?_
   rotate_left
   ·show Act.put _ (some 84) _=_
    exact acq
   refine one_ (i:=5) (N:=some 85) #[true,true,true,true,true,true,false,false] rfl rfl (one_of HT_.out (by kernel_rfl)) (by decide) (fun K hK=>?_)
   refine goes_ Try.func76 (by kernel_rfl) rfl #[.pointer (some ⟨g,0,none⟩), .slice Kn Gw.length Ko] (by rfl) rfl rfl ln_12 ?_
   with_reducible refine(jF.calls g Ab Bc Bd _ _ Gw Ej Gx Gy w0 _ ?Ae ?Af ?Bf ?Bh ?Dp Ml.out).mono ?_
   (case Ae=>exact(kI HI0.out))
   (case Af=>exact kG HB.out (IsS96.ge HI0.out))
   (case Bf=>exact kC (Kd.R_reads' Bz.out).2.2)
   (case Bh=>exact(Kd.R_reads' Bz.out).2.1)
   (case Dp=>exact far_slice (IsS96.own_ne HI0.out Bz.out (by decide)))
   rintro e Ns ⟨rfl,hi,hb,hk⟩
   have HS0_:=keep_cell hk (hHeld) (by first|(rw[add_block];exact Kd.own_blk (IsS96.own_neS HI0.out Ac.out (by decide)))|(show(Addr.add _ _).block≠_;rw[add_block];exact Kd.own_blk (IsS96.own_neS HI0.out Ac.out (by decide)))|exact Kd.own_blk (IsS96.own_neS HI0.out Ac.out (by decide)))
   refine⟨_,rfl,?_⟩
   replace Aa:=Az.mk (Kd.Q_mono (Kd.Q_keep (IsS96.apartQ (show IsS96 w0 _ g Ab Bc Bd from kI HI0.out) (kQ Aa.out) (by decide)) hk (fun _ h=>h.2)) (fun _ h=>h.1));replace Am:=Az.mk (Kd.R_mono (Kd.R_keep (IsS96.apart (show IsS96 w0 _ g Ab Bc Bd from kI HI0.out) (kR Am.out) (by decide)) hk (fun _ h=>h.2)) (fun _ h=>h.1));replace Bb:=Az.mk (keep_cell hk Bb.out (by first|(rw[add_block];exact Kd.own_blk (IsS96.own_neS HI0.out Ac.out (by decide)))|(show(Addr.add _ _).block≠_;rw[add_block];exact Kd.own_blk (IsS96.own_neS HI0.out Ac.out (by decide)))|exact Kd.own_blk (IsS96.own_neS HI0.out Ac.out (by decide))|(dsimp only;exact Kd.own_blk (IsS96.own_neS HI0.out Ac.out (by decide)))));replace Ac:=Az.mk (Kd.S_mono (Kd.S_keep (IsS96.apartS (show IsS96 w0 _ g Ab Bc Bd from kI HI0.out) (kS Ac.out) (by decide)) hk (fun _ h=>h.2)) (fun _ h=>h.1));replace Bz:=Az.mk (Kd.R_mono (Kd.R_keep (IsS96.apart (show IsS96 w0 _ g Ab Bc Bd from kI HI0.out) (kR Bz.out) (by decide)) hk (fun _ h=>h.2)) (fun _ h=>h.1));replace HK:=Az.mk (KeepBut.trans (kK HK.out) hk (.inl rfl));replace HB:=Az.mk (hb);replace HI0:=Az.mk (hi)
   (try clear hb)
   (try clear hb2)
   (try clear hk)
   (try clear hi)
   have Kp:0≤(0:Int):=(by omega)
   have Kq:(0:Int)<(((rd_L1 Ai 0).length:Int):Int):=od
   have Mo:(0<(rd_L1 Ai 0).length)=True:=ets (by omega)
   obtain⟨Im,Mp,Io,Ip,gl86,Mq,HG86⟩:=Kd.R_form Am.out (by omega)
   (first|cases Io|(injection Io with ea_ en_ ec_;(first|subst ea_|(injection ea_ with ea_;subst ea_));subst ec_;clear en_))
   have Iq:=Az.mk Ip
   have Mr:=Az.mk HG86
   clear Ip gl86 HG86
   obtain⟨Dx,Dy⟩:=Kd.R_celln 0 Am.out (0:Int) Kp Kq
   (try rw[show((0:Int)).toNat=0 from rfl]at Dx)
   (try simp only[Nat.reduceMul,Nat.zero_mul,Nat.zero_add,Nat.reduceAdd]at Dx)
   (try rw[show((0:Int)).toNat=0 from rfl]at Dy)
   (try simp only[Nat.reduceMul,Nat.zero_mul,Nat.zero_add,Nat.reduceAdd]at Dy)
   replace Kp:=ets Kp
   replace Kq:=ets Kq
   have hq93:(0:Int)<(Ai.length:Int):=(by have h_:(0:Int)<((Ai.length:Int):Int):=od;first|exact h_|(have e_:=(Kd.S_reads' Ac.out).1;omega)|simpa only[List.length_set,List.length_set] using h_)
   obtain⟨oki93,Ms,Ir,Kr,Ez,hok93,hbk93⟩:=Kd.S_borrow Ac.out [] (0:Int) (by omega) hq93
   obtain⟨Ks,rfl,Cd⟩:=Kr
   have Em:=Ez 0 _ rfl
   rw[Nat.add_zero,show((Kd.slice 3 (Kd.int .i64))).sz=1 from rfl,Nat.mul_one]at Em
   replace Em:=Option.some.inj (Em.symm.trans Bb.out)
   subst Em
   clear Ez Ir
   replace Cd:=(show Kd.R (Kd.int .i64) 3 _ _ _ _ (rd_L1 Ai 0)from Cd)
   have Eo:=Kd.R_putg Cd (0:Int) Ej
   have HN0_go86:=Az.mk (show g≠Im from by have h_:=IsS96.own_ne HI0.out Am.out (by decide);intro e_;exact h_ (by rw[e_];rfl))
   rw[←Ii.out]at Eo
   have HS93:=hbk93 Eo.2 (fun k_ e_=>by injection e_ with e_;subst e_;exact Cd.1 _ rfl) (x':=Gz) (Kd.M_row Eo.1)
   rw[←Ij.out]at HS93
   have Ku:=Az.mk HS93
   clear Eo HS93 hbk93 hok93
   refine hK.out _ _ (HS0_) (fun hHeld=>?_)
   clear hK K
   refine norm_ (a':=?_) ?_ ?_
   rotate_left
   ·show Act.put _ (some 85) _=_
    exact acq
   refine pu (i:=6) (N:=some 86) #[true,true,true,true,true,true,true,false] (any_of HT_.out (by kernel_rfl)) ?_
   refine last_ (i:=7) (N:=none) #[true,true,true,true,true,true,true,true] rfl rfl (one_of HT_.out (by kernel_rfl)) (by decide) (fun K hK=>?_)
   refine skip_ (w1:=?_) (by rfl) rfl ?_ ?_
   rotate_left
   ·go_simp
    rfl
   refine hK.out _ _ ?_
   clear hK K
   refine done_ (done_of HT_.out (by kernel_rfl)) ?_
   try go_wp2
   go_ret2
   exact⟨_,_,by first|rfl|(simp[eWn,eWs] <;> rfl)|(simp only[←Ce];first|rfl|(simp[eWn,eWs] <;> rfl))|(simp[*,eWn,eWs] <;> rfl),by(with_reducible repeat(first|apply Kd.S_alloc|apply Kd.S_drewN|apply Kd.S_drew));exact Kd.S_mono Ku.out (fun _ hk=>hk.1),by(with_reducible repeat(first|apply Kd.Q_alloc|apply Kd.Q_drewN|apply Kd.Q_drew));exact Kd.Q_mono (Kd.Q_far (p:=⟨Im,0,none⟩) (Kd.Q_far1 Aa.out rfl ((Am.out.1 _ rfl).1.1)) (fun _ hk=>hk.2) (.int .i64 Ej)) (fun _ hk=>trivial),by repeat(first|(with_reducible first|exact HI0.out|apply IsS96.alloc|apply IsS96.drewN|apply IsS96.drew|apply IsS96.set_1|apply IsS96.set_2|refine IsS96.far ?_ HN0_go86.out _)|exact HI0.out),by repeat(first|(with_reducible first|exact HB.out|apply bwA|apply pbN|apply bwD|refine bwS ?_ (Nat.le_trans HL.out Iq.out)|refine bwS ?_ (IsS96.ge HI0.out))|exact HB.out),by repeat(first|(with_reducible first|exact HK.out|apply KeepBut.set_|apply keep_drewN|apply keep_drew|apply keep_alloc|refine keep_far ?_ Iq.out _)|exact HK.out)⟩
theorem bw_13 {n:Nat}{v v':World} (h:Below n v v':=by repeat(first|(with_reducible first|exact HB.out|apply bwA|apply pbN|apply bwD|refine bwS ?_ GE323.out|refine bwS ?_ GE324.out)|exact HB.out)):Below n v v':=h
def gQ.l0:Nat→List Int→Int→Int→Option (List Int × Int × Int)
 |0,_,_,_=>none
 |k+1,x0,x3,x4=>if x4<(x0.length:Int) then(if x4<4000 then(if 0≤x4 then(gQ.l0 k x0 (Go.bits .and .i64 (wrap64 ((wrap64 ((wrap64 (x3*131))+(wrap64 (rd x0 x4))))+7)) 1073741823) (wrap64 (x4+1))) else(none)) else(some (x0,0,x3))) else(some (x0,0,x3))
def gQ.f (k:Nat) (l0:List Int):Option (List Int × Int × Int):=gQ.l0 k l0 (wrap64 (26583+(l0.length:Int))) 0
theorem gQ.calls (k:Nat) (A0:Option Addr) (c0:Nat) (l0:List Int) (r1:List Int) (r2:Int) (r3:Int) (w0 w:World) (hB:Below w0.heap.size w0 w) (Aq:Kd.C (Kd.int .u8) w0 A0 l0.length l0) (As:l0.length≤c0) (h:gQ.f k l0=some (r1,r2,r3)):
  Calls Try.prog 38 #[.slice A0 l0.length c0] w fun e w'=>∃g_:Nat,e= .returned (.pointer (some ⟨g_,0,none⟩))∧IsS96 w0 w' g_ r1 r2 r3∧Below w0.heap.size w0 w'∧Below w.heap.size w w':=by
 have hu96:=Try.underlying96
 have Al:=Az.mk Aq
 have Aw:=Az.mk As
 clear Aq As
 have HBW:=Az.mk (Below.refl w.heap.size w)
 have HW0:=Az.mk hB.size
 have HB:=Az.mk hB
 clear hB
 have H:(gQ.l0 k l0 (wrap64 (26583+(l0.length:Int))) 0)=some (r1,r2,r3):=h
 clear h
 have H':=Az.mk H
 clear H
 go_enter Try.func38,Try.ntmps38
 go_wp2
 go_loopg [3,4] k (fun kq v3 v4 w'=>∃(Ab:Int) (Aa:Int),v3= .int .i64 Ab∧v4= .int .i64 Aa∧Az (gQ.l0 kq l0 Ab Aa=some (r1,r2,r3))∧Az (kq≤k)∧Az (Below w0.heap.size w0 w')∧Az (Below w.heap.size w w'))
 case atStart=>exact⟨(wrap64 (26583+(l0.length:Int))),(0),rq2,rq2,H',⟨Nat.le_refl _⟩,⟨bw_13⟩,⟨by repeat(first|(with_reducible first|exact HBW.out|apply bwA|apply pbN|apply bwD)|exact HBW.out)⟩⟩
 clear H'
 obtain⟨Ab,Aa,rfl,rfl,HA,HK1,HB,HBW⟩:=hrel
 cases gk with
 |zero=>exact absurd HA.out (by simp[gQ.l0])
 |succ k1=>
  have H:=HA.out
  clear HA
  simp only[gQ.l0]at H
  by_cases c2:Aa<(l0.length:Int)
  rotate_left
  ·rw[ig c2]at H
   have Am:=decide_eq_false c2
   clear c2
   simp only[Option.some.injEq,Prod.mk.injEq]at H
   obtain⟨rfl,rfl,rfl⟩:=H
   go_wp2_with (first|((with_reducible refine gtD (N:=31) rfl ?_);refine bx (N:=31) (cs:= #[.slice A0 l0.length c0, .int .i64 0, .int .i64 Ab]) (t:=96) ?_;intro Ac hg w6 hbox hb;replace HB:=Az.mk (bwT bw_13 hb);have Ah:=Az.mk (hbox);have Ai:=Az.mk ((by rw[hg];exact(bwZ (by repeat(first|(with_reducible first|exact HBW.out|apply bwA|apply pbN|apply bwD)|exact HBW.out))):w.heap.size≤Ac));have GE324:=Az.mk ((Nat.le_trans HW0.out (by rw[hg];exact(bwZ (by repeat(first|(with_reducible first|exact HBW.out|apply bwA|apply pbN|apply bwD)|exact HBW.out))):w.heap.size≤Ac):w0.heap.size≤Ac));replace HBW:=Az.mk (bwT HBW.out hb);clear hb hbox hg))
   go_ret
   exact⟨_,rfl,(show IsS96 w0 _ Ac l0 0 Ab from⟨_,_,by(with_reducible repeat first|apply bkN|apply bkD|apply bkA);exact Ah.out,GE324.out,Al.out⟩),by repeat(first|(with_reducible first|exact HB.out|apply bwA|apply pbN|apply bwD|refine bwS ?_ GE324.out)|exact HB.out),by repeat(first|(with_reducible first|exact HBW.out|apply bwA|apply pbN|apply bwD|refine bwS ?_ Ai.out)|exact HBW.out)⟩
  rw[ip c2]at H
  have Am:=ode c2
  clear c2
  by_cases c3:Aa<4000
  rotate_left
  ·rw[ig c3]at H
   have Ao:=decide_eq_false c3
   clear c3
   simp only[Option.some.injEq,Prod.mk.injEq]at H
   obtain⟨rfl,rfl,rfl⟩:=H
   go_wp2_with (first|((with_reducible refine gtD (N:=31) rfl ?_);refine bx (N:=31) (cs:= #[.slice A0 l0.length c0, .int .i64 0, .int .i64 Ab]) (t:=96) ?_;intro Ad hg w5 hbox hb;replace HB:=Az.mk (bwT bw_13 hb);have Aj:=Az.mk (hbox);have Ak:=Az.mk ((by rw[hg];exact(bwZ (by repeat(first|(with_reducible first|exact HBW.out|apply bwA|apply pbN|apply bwD)|exact HBW.out))):w.heap.size≤Ad));have GE323:=Az.mk ((Nat.le_trans HW0.out (by rw[hg];exact(bwZ (by repeat(first|(with_reducible first|exact HBW.out|apply bwA|apply pbN|apply bwD)|exact HBW.out))):w.heap.size≤Ad):w0.heap.size≤Ad));replace HBW:=Az.mk (bwT HBW.out hb);clear hb hbox hg))
   go_ret
   exact⟨_,rfl,(show IsS96 w0 _ Ad l0 0 Ab from⟨_,_,by(with_reducible repeat first|apply bkN|apply bkD|apply bkA);exact Aj.out,GE323.out,Al.out⟩),by repeat(first|(with_reducible first|exact HB.out|apply bwA|apply pbN|apply bwD|refine bwS ?_ GE323.out)|exact HB.out),by repeat(first|(with_reducible first|exact HBW.out|apply bwA|apply pbN|apply bwD|refine bwS ?_ Ak.out)|exact HBW.out)⟩
  rw[ip c3]at H
  have Ao:=ode c3
  clear c3
  by_cases c4:0≤Aa
  rotate_left
  ·rw[ig c4]at H
   exact absurd H (by simp)
  rw[ip c4]at H
  have Av:=ode c4
  clear c4
  have H':=Az.mk H
  clear H
  have Af:0≤(Aa:Int):=od
  have Ag:Aa<(l0.length:Int):=od
  obtain⟨Au,Ap,Ae⟩:=Kd.at_int Al.out Aa Af Ag
  cases Ap
  replace Ae:=pw_cell_below HB.out Ae
  replace Af:=ets Af
  replace Ag:=ets Ag
  go_wp2
  go_roundg k1
  case measure=>have:=HK1.out;omega
  case rel=>exact⟨(Go.bits .and .i64 (wrap64 ((wrap64 ((wrap64 (Ab*131))+(wrap64 (rd l0 Aa))))+7)) 1073741823),(wrap64 (Aa+1)),rq2,rq2,H',⟨by have:=HK1.out;omega⟩,⟨bw_13⟩,⟨by repeat(first|(with_reducible first|exact HBW.out|apply bwA|apply pbN|apply bwD)|exact HBW.out)⟩⟩
def jD.f (k:Nat) (l0:List Int):Option ((List (List Int)) × List Int):=(gQ.f k l0).bind fun bt325=>((fO.f k bt325.1 bt325.2.1 bt325.2.2).bind fun bt329=>(some (bt329.1,bt329.2.1)))
theorem jD.calls (k:Nat) (A0:Option Addr) (c0:Nat) (l0:List Int) (r1:List (List Int)) (r2:List Int) (w:World) (Aq:Kd.C (Kd.int .u8) w A0 l0.length l0) (As:l0.length≤c0) (h:jD.f k l0=some (r1,r2)):
  Calls Try.prog 5 #[.slice A0 l0.length c0] w fun e w'=>∃v0_ v1_:Value,e= .returned (.tuple #[v0_,v1_])∧Kd.S (Kd.slice 3 (Kd.int .i64)) 25 w' w.heap.size (fun k_=>some k_≠(v1_:Value).ownBlock) v0_ r1∧Kd.Q (Kd.int .i64) 3 w' w.heap.size (fun _=>True) v1_ r2∧Below w.heap.size w w':=by
 have Aw:=Az.mk Aq
 have Ax:=Az.mk As
 clear Aq As
 have HB:=Az.mk (Below.refl w.heap.size w)
 have H:((gQ.f k l0).bind fun Aa=>((fO.f k Aa.1 Aa.2.1 Aa.2.2).bind fun Ad=>(some (Ad.1,Ad.2.1))))=some (r1,r2):=h
 clear h
 replace H:=bez H
 obtain⟨⟨Ae,Af,Ag⟩,A2,H⟩:=H
 try dsimp only at H
 replace H:=bez H
 obtain⟨⟨Al,Am,Ao,Ap⟩,A3,H⟩:=H
 try dsimp only at H
 simp only[Option.some.injEq,Prod.mk.injEq]at H
 obtain⟨rfl,rfl⟩:=H
 go_enter Try.func5,Try.ntmps5
 go_wp2_with (first|((with_reducible refine gtC (f:=38) rfl ?_);refine clz Try.func38 (some 8) #[.slice A0 l0.length c0] ?_;(with_reducible refine(gQ.calls k _ _ l0 Ae Af Ag w _ ?Ab ?Ac ?Ah A2.out).mono ?_);(case Ab=>exact bw_13);(case Ac=>exact Aw.out);(case Ah=>exact Ax.out);rintro e w4 ⟨Ai,rfl,hi,hb,hb2⟩;refine⟨_,rfl,?_⟩;replace HB:=Az.mk (hb);have HI328:=Az.mk (hi);(try clear hb);(try clear hb2);(try clear hi))|((with_reducible refine gtC (f:=37) rfl ?_);refine clz Try.func37 (some 9) #[.pointer (some ⟨Ai,0,none⟩)] ?_;(with_reducible refine(fO.calls k Ai Ae Af Ag Al Am Ao Ap w _ ?Ab ?Ac A3.out).mono ?_);(case Ab=>exact(kI HI328.out));(case Ac=>exact kG HB.out (IsS96.ge HI328.out));rintro e w5 ⟨Ay,Ba,rfl,Au,Av,hi,hb,hk⟩;refine⟨_,rfl,?_⟩;have Aj:=Az.mk (Kd.S_lower Au (bwZ (kG HB.out (IsS96.ge HI328.out))));have Ak:=Az.mk (Kd.Q_lower Av (bwZ (kG HB.out (IsS96.ge HI328.out))));replace HB:=Az.mk (hb);replace HI328:=Az.mk (hi);(try clear hb);(try clear hk);(try clear hi);(try clear Au);(try clear Av)))
 go_ret2
 exact⟨_,_,rq1,kS Aj.out,kQ Ak.out,kG HB.out (IsS96.ge HI328.out)⟩
def fV.f (a0:Int) (a1:Int) (a2:Int):Option (Bool):=if a0 ≥ a1 then(some (decide (a0≤a2))) else(some false)
theorem fV.calls (a0:Int) (a1:Int) (a2:Int) (r:Bool) (w:World) (h:fV.f a0 a1 a2=some r):
  Calls Try.prog 47 #[.int .i64 a0, .int .i64 a1, .int .i64 a2] w fun e w'=>e= .returned (.bool r)∧Drawn0 w w':=by
 have H:(if a0 ≥ a1 then(some (decide (a0≤a2))) else(some false))=some r:=h
 clear h
 by_cases c4:a0 ≥ a1
 ·rw[ip c4]at H
  have Aa:decide (a1≤a0)=true:=ode c4
  clear c4
  obtain rfl:=Option.some.inj H
  go_enter Try.func47,Try.ntmps47
  go_wp2
  go_ret
  exact⟨rq2,kd⟩
 rw[ig c4]at H
 have Aa:decide (a1≤a0)=false:=decide_eq_false c4
 clear c4
 obtain rfl:=Option.some.inj H
 go_enter Try.func47,Try.ntmps47
 go_wp2
 go_ret
 exact⟨rq2,kd⟩
theorem bw_14 {n:Nat}{v v':World} (h:Below n v v':=by repeat(first|(with_reducible first|exact HB.out|apply bwA|apply pbN|apply bwD)|exact HB.out)):Below n v v':=h
theorem tri_law:Go.Maps.Keyed Try.prog 3:=Go.Maps.int_keyed Try.underlying3
theorem tri_zero (w:World):(zeroValue 4).run Try.prog w= .ok (.bool false) w:=by kernel_rfl
theorem tri_bool_inv {H:Type}{P:Program}{e:TypeId} (he:P.underlying e=some .bool){v:Value}{z:DataW H × List MemPlace} (h:plainElem P e v=some z):∃x,v= .bool x∧z=(.lit (.bool x),[]):=by
 unfold plainElem at h
 rw[he]at h
 cases v <;> simp at h
 exact⟨_,rfl,h.symm⟩
/-- the block B is a map that holds the numbers seen -/
def TriSeen (w:World) (B:Nat) (seen:List Int):Prop:=seen.Nodup∧(∀x∈seen, -9≤x∧x≤9)∧∃D:DataW Unit,w.ownsMap Try.prog 3 (plainElem Try.prog 4) B seen.length D∧Go.Maps.IsMap D∧∀x,D.atKey (.int .i64 x) (.lit (.bool false))= .lit (.bool (decide (x∈seen)))
theorem tri_pigeon:∀(N:Nat) (l:List Nat),l.Nodup→(∀x∈l,x<N)→l.length≤N
 |0,l,_,h=>by
  cases l with
  |nil=>simp
  |cons a l=>exact absurd (h a (by simp)) (by omega)
 |N+1,l,hd,h=>by
  by_cases hN:N∈l
  rotate_left
  ·have h1:=tri_pigeon N l hd (fun x hx=>by
    have h3:=h x hx
    have h4:x≠N:=fun e=>hN (e ▸ hx)
    omega)
   omega
  have h1:=tri_pigeon N (l.erase N) (hd.erase N) (fun x hx=>by
   have h2:=(hd.mem_erase_iff).1 hx
   have h3:=h x h2.2
   have h4:=h2.1
   omega)
  rw[List.length_erase_of_mem hN]at h1
  omega
theorem tri_short {seen:List Int} (hd:seen.Nodup) (hr:∀x∈seen, -9≤x∧x≤9):seen.length≤19:=by
 have h1:=tri_pigeon 19 (seen.map fun x=>(x+9).toNat) (by
  refine List.pairwise_map.2 (List.Pairwise.imp_of_mem ?_ hd)
  intro a b ha hb hab h
  have:=hr a ha
  have:=hr b hb
  omega) (by
  intro x hx
  obtain⟨y,hy,rfl⟩:=List.mem_map.1 hx
  have:=hr y hy
  omega)
 simpa using h1
theorem TriSeen.made (w:World):TriSeen (w.alloc (.map #[] 0)) w.heap.size []:=
 ⟨List.nodup_nil,fun _ h=>by simp at h, .map [],World.ownsMap_made _ _ _ _,Go.Maps.isMap_empty,fun x=>by simp[DataW.atKey]⟩
theorem tri_put {seen:List Int}{D:DataW Unit} (hm:Go.Maps.IsMap D) (hD:∀x,D.atKey (.int .i64 x) (.lit (.bool false))= .lit (.bool (decide (x∈seen)))) (y x:Int):
  (D.put (.int .i64 y) (.lit (.bool true))).atKey (.int .i64 x) (.lit (.bool false))= .lit (.bool (decide (x∈y :: seen))):=by
 by_cases h:x=y
 ·subst h
  rw[Go.Maps.atKey_put_same hm (by simp[WideAt.IsKeyLit])]
  simp
 rw[Go.Maps.atKey_put_other (by simp[h]),hD x]
 simp[h]
theorem TriSeen.drewN {w:World}{B:Nat}{seen:List Int} (h:TriSeen w B seen) (n:Nat):TriSeen (World.drewN w n) B seen:=by
 induction n generalizing w with
 |zero=>exact h
 |succ n ih=>exact ih (w:=w.drew) ⟨h.1,h.2.1,h.2.2⟩
theorem TriSeen.look {w:World}{B:Nat}{seen:List Int} (h:TriSeen w B seen){X:Int} (hw:(Lit.int .i64 X).wf=true):Sem.run Try.prog (Instr.lookup 88 (.map (some B)) (.int .i64 X) false) w= .ok (.bool (decide (X∈seen))) w:=by
 obtain⟨_,_,D,hown,hm,hD⟩:=h
 obtain⟨v,ps,hrun,hat⟩:=hown.lookup tri_law Try.underlying88 (tri_zero w) (plainElem_bool Try.underlying4 false) (Go.Maps.keyOf_int_mk Try.underlying3 hw)
 obtain⟨c',rfl,hz'⟩:=tri_bool_inv Try.underlying4 hat
 simp only[Prod.mk.injEq]at hz'
 have:c'=decide (X∈seen):=by have:=hz'.1.symm.trans (hD X);simpa using this
 subst this
 exact hrun
theorem TriSeen.put {w:World}{B:Nat}{seen:List Int} (h:TriSeen w B seen){X:Int} (hw:(Lit.int .i64 X).wf=true) (hr: -9≤X∧X≤9) (hn:X ∉ seen):∃w',Sem.run Try.prog (Instr.mapUpdate 88 (.map (some B)) (.int .i64 X) (.bool true)) w= .ok () w'∧TriSeen w' B (X :: seen)∧w.grownBy w' (some B):=by
 obtain⟨h1,h2,D,hown,hm,hD⟩:=h
 have hs:=tri_short h1 h2
 obtain⟨w',hrun,hown',hg⟩:=hown.update tri_law Try.underlying88 (by unfold maxLen;omega) (Go.Maps.keyOf_int_mk Try.underlying3 hw) (plainElem_bool Try.underlying4 true)
 exact⟨w',hrun,⟨List.nodup_cons.2 ⟨hn,h1⟩,fun x hx=>by
  rcases List.mem_cons.1 hx with rfl|hx
  ·exact hr
  exact h2 x hx,_,hown',hm.put _ _,tri_put hm hD X⟩,hg⟩
theorem tri_neg {N:Int} (h:N≤9∧3≤N):wrap64 (-N)= -N:=by
 unfold wrap64;omega
theorem tri_within {a b c:Int} (h:fV.f a b c=some true):b≤a∧a≤c:=by
 unfold fV.f at h
 split at h
 ·exact⟨by omega,by simpa using h⟩
 simp at h
mutual
def fB.j0:Nat→List (List Int)→Int→Bool→Option (Bool)
 |0,_,_,_=>none
 |k+1,x0,x3,x20=>if x20=true then(some false) else(fB.l0 k x0 x3 [] 0)
def fB.l0:Nat→List (List Int)→Int→List Int→Int→Option (Bool)
 |0,_,_,_,_=>none
 |k+1,x0,x3,x4,x5=>if x5<(x0.length:Int) then(if 0≤x5 then(if((rd_L1 x0 x5).length:Int)=3 then(fB.l1 k x0 x3 x4 x5 0) else(some false)) else(none)) else(some true)
def fB.l1:Nat→List (List Int)→Int→List Int→Int→Int→Option (Bool)
 |0,_,_,_,_,_=>none
 |k+1,x0,x3,x4,x5,x6=>if x6<((rd_L1 x0 x5).length:Int) then(if 0≤x6 then(if(rd (rd_L1 x0 x5) x6)=0 then(some false) else((fV.f (rd (rd_L1 x0 x5) x6) (wrap64 (-x3)) x3).bind fun t224=>(if t224=true then(if(rd (rd_L1 x0 x5) x6)∈x4 then(some false) else(fB.l1 k x0 x3 ((rd (rd_L1 x0 x5) x6) :: x4) x5 (wrap64 (x6+1)))) else(some false)))) else(none)) else(fB.l0 k x0 x3 x4 (wrap64 (x5+1)))
end
def fB.f (k:Nat) (l0:List (List Int)):Option (Bool):=if((l0.length:Int) % 2)=0 then((fV.f (wrap64 (Int.tdiv (wrap64 (3*(l0.length:Int))) 2)) 3 9).bind fun t217=>(fB.j0 k l0 (wrap64 (Int.tdiv (wrap64 (3*(l0.length:Int))) 2)) (!t217))) else(fB.j0 k l0 (wrap64 (Int.tdiv (wrap64 (3*(l0.length:Int))) 2)) true)
theorem fB.calls (k:Nat) (A0:Option Addr) (c0:Nat) (l0:List (List Int)) (r:Bool) (w:World) (Bu:Kd.C (Kd.slice 3 (Kd.int .i64)) w A0 l0.length l0) (Bv:l0.length≤c0) (h:fB.f k l0=some r):
  Calls Try.prog 30 #[.slice A0 l0.length c0] w fun e w'=>e= .returned (.bool r)∧Below w.heap.size w w':=by
 have Cc:=Az.mk Bu
 have Ce:=Az.mk Bv
 clear Bu Bv
 have HB:=Az.mk (Below.refl w.heap.size w)
 have H:(if((l0.length:Int) % 2)=0 then((fV.f (wrap64 (Int.tdiv (wrap64 (3*(l0.length:Int))) 2)) 3 9).bind fun Aj=>(fB.j0 k l0 (wrap64 (Int.tdiv (wrap64 (3*(l0.length:Int))) 2)) (!Aj))) else(fB.j0 k l0 (wrap64 (Int.tdiv (wrap64 (3*(l0.length:Int))) 2)) true))=some r:=h
 clear h
 have Bn:=Az.mk H
 clear H
 have hmm:=@run_makeMap Try.prog
 go_enter Try.func30,Try.ntmps30
 go_upto_region 2 with (fail)
 go_cut [21] (fun Cd wc=>∃(kq:Nat) (Ae:Bool),Cd= .bool Ae∧Az (fB.j0 kq l0 (wrap64 (Int.tdiv (wrap64 (3*(l0.length:Int))) 2)) Ae=some r)∧Az (Ae=false→wrap64 (Int.tdiv (wrap64 (3*(l0.length:Int))) 2)≤9∧3≤wrap64 (Int.tdiv (wrap64 (3*(l0.length:Int))) 2))∧Az (Below w.heap.size w wc))
 case first=>
  have H:=Bn.out
  clear Bn
  by_cases c3:((l0.length:Int) % 2)=0
  rotate_left
  ·rw[ig c3]at H
   have Ah:=beq_eq_false_iff_ne.mpr c3
   have Ay:=bne_iff_ne.mpr c3
   (first|rw[Ah]|(simp only[i64_w,i32_w];rw[Ah])|skip)
   have H':=Az.mk H
   clear H
   go_wp2
   go_meet
   case rel=>exact⟨_,(true),rq2,H',⟨fun h=>by simp at h⟩,⟨bw_14⟩⟩
  rw[ip c3]at H
  have Ah:=beq_iff_eq.mpr c3
  have Ay:=bne_eq_false_iff_eq.mpr c3
  clear c3
  (first|rw[Ah]|(simp only[i64_w,i32_w];rw[Ah])|skip)
  replace H:=bez H
  obtain⟨Aj,A4,H⟩:=H
  try dsimp only at H
  have H':=Az.mk H
  clear H
  go_wp2_with (first|(go_at_call 47;(with_reducible refine(fV.calls (wrap64 (Int.tdiv (wrap64 (3*(l0.length:Int))) 2)) 3 9 Aj _ A4.out).mono ?_);rintro e w' ⟨rfl,⟨nd,rfl⟩⟩))
  go_meet
  case rel=>exact⟨_,(!Aj),rq2,H',⟨fun h=>by
   have e:Aj=true:=by simpa using h
   subst e
   exact(tri_within A4.out).symm⟩,⟨bw_14⟩⟩
 clear Bn
 try clear c3
 try clear Ah
 try clear Ay
 obtain⟨kq,Ae,rfl,HA,HN,HB⟩:=hcut
 cases kq with
 |zero=>exact absurd HA.out (by simp[fB.j0])
 |succ Bo=>
  have H:=HA.out
  clear HA
  simp only[fB.j0]at H
  by_cases c5:Ae=true
  ·subst c5
   rw[ip rfl]at H
   obtain rfl:=Option.some.inj H
   go_wp2
   go_ret
   exact⟨rq1,bw_14⟩
  replace c5:=Bool.eq_false_iff.mpr c5
  subst c5
  have H':Az (fB.l0 Bo l0 (wrap64 (Int.tdiv (wrap64 (3*(l0.length:Int))) 2)) [] 0=some r):=⟨by rw[ig ff]at H;exact H⟩
  clear H
  have HN9:=Az.mk (HN.out rfl)
  clear HN
  go_wp2
  go_loopg [25] Bo (fun kq v5 w'=>∃(Ak:List Int) (Aa:Int),v5= .int .i64 Aa∧Az (fB.l0 kq l0 (wrap64 (Int.tdiv (wrap64 (3*(l0.length:Int))) 2)) Ak Aa=some r)∧Az (kq≤Bo)∧Az (TriSeen w' wc.heap.size Ak)∧Az (Below w.heap.size w w'))
  case atStart=>exact⟨([]),(0),rq2,H',⟨Nat.le_refl _⟩,⟨TriSeen.made wc⟩,⟨bw_14⟩⟩
  clear H'
  have HBC:=Az.mk HB.out.size
  clear HB
  obtain⟨Ak,Aa,rfl,HA,HK2,HS,HB⟩:=hrel
  cases gk with
  |zero=>exact absurd HA.out (by simp[fB.l0])
  |succ k2=>
   have H:=HA.out
   clear HA
   simp only[fB.l0]at H
   by_cases Av:Aa<(l0.length:Int)
   rotate_left
   ·rw[ig Av]at H
    have Ba:=decide_eq_false Av
    clear Av
    obtain rfl:=Option.some.inj H
    go_wp2
    go_ret
    exact⟨rq1,bw_14⟩
   rw[ip Av]at H
   have Ba:=ode Av
   clear Av
   by_cases Bi:0≤Aa
   rotate_left
   ·rw[ig Bi]at H
    exact absurd H (by simp)
   rw[ip Bi]at H
   have Bw:=ode Bi
   clear Bi
   have Ao:0≤(Aa:Int):=od
   have Ap:Aa<(l0.length:Int):=od
   obtain⟨Bx,Bp,Bq,Br,Ac,Af,Ag⟩:=at_L1 Cc.out Aa Ao Ap
   cases Br
   replace Ac:=kc HB Ac
   have Al:=Az.mk Ag
   have Bj:=Az.mk Af
   clear Ag Af
   replace Ao:=ets Ao
   replace Ap:=ets Ap
   by_cases Aq:((rd_L1 l0 Aa).length:Int)=3
   rotate_left
   ·rw[ig Aq]at H
    have Bb:=beq_eq_false_iff_ne.mpr Aq
    have Bc:=bne_iff_ne.mpr Aq
    obtain rfl:=Option.some.inj H
    go_wp2
    go_ret
    exact⟨rq1,bw_14⟩
   rw[ip Aq]at H
   have Bb:=beq_iff_eq.mpr Aq
   have Bc:=bne_eq_false_iff_eq.mpr Aq
   clear Aq
   have H':=Az.mk H
   clear H
   go_wp2
   go_loopg [34] k2 (fun kq v6 w'=>∃(Ai:List Int) (Ab:Int),v6= .int .i64 Ab∧Az (fB.l1 kq l0 (wrap64 (Int.tdiv (wrap64 (3*(l0.length:Int))) 2)) Ai Aa Ab=some r)∧Az (kq≤k2)∧Az (TriSeen w' wc.heap.size Ai)∧Az (Below w.heap.size w w'))
   case atStart=>exact⟨(Ak),(0),rq2,H',⟨Nat.le_refl _⟩,HS,⟨bw_14⟩⟩
   clear H'
   clear HS Ac HB
   obtain⟨Ai,Ab,rfl,HA,HK3,HS,HB⟩:=hrel
   cases gk with
   |zero=>exact absurd HA.out (by simp[fB.l1])
   |succ k3=>
    have H:=HA.out
    clear HA
    simp only[fB.l1]at H
    by_cases Aw:Ab<((rd_L1 l0 Aa).length:Int)
    rotate_left
    ·rw[ig Aw]at H
     have Bd:=decide_eq_false Aw
     clear Aw
     have H':=Az.mk H
     clear H
     go_wp2
     go_roundg k3
     case measure=>have:=HK2.out;have:=HK3.out;omega
     case rel=>exact⟨(Ai),(wrap64 (Aa+1)),rq2,H',⟨by have:=HK2.out;have:=HK3.out;omega⟩,HS,⟨bw_14⟩⟩
    rw[ip Aw]at H
    have Bd:=ode Aw
    clear Aw
    by_cases Bk:0≤Ab
    rotate_left
    ·rw[ig Bk]at H
     exact absurd H (by simp)
    rw[ip Bk]at H
    have By:=ode Bk
    clear Bk
    have As:0≤(Ab:Int):=od
    have Au:Ab<((rd_L1 l0 Aa).length:Int):=od
    obtain⟨Bz,Bs,Ad⟩:=Kd.at_int Al.out Ab As Au
    cases Bs
    replace Ad:=kc HB Ad
    replace As:=ets As
    replace Au:=ets Au
    obtain⟨X,hX⟩:∃j_:Int,rd (rd_L1 l0 Aa) Ab=j_:=⟨_,rfl⟩
    rw[hX]at H Ad
    clear hX
    by_cases Am:X=0
    ·rw[ip Am]at H
     have Bf:=beq_iff_eq.mpr Am
     have Bh:=bne_eq_false_iff_eq.mpr Am
     clear Am
     obtain rfl:=Option.some.inj H
     go_wp2
     go_ret
     exact⟨rq1,bw_14⟩
    rw[ig Am]at H
    have Bf:=beq_eq_false_iff_ne.mpr Am
    have Bh:=bne_iff_ne.mpr Am
    clear Am
    replace H:=bez H
    obtain⟨Bt,Bl,H⟩:=H
    try dsimp only at H
    by_cases Bm:Bt=true
    rotate_left
    ·replace Bm:=Bool.eq_false_iff.mpr Bm
     subst Bm
     rw[ig ff]at H
     obtain rfl:=Option.some.inj H
     go_wp2_with (first|(go_at_call 47;(with_reducible refine(fV.calls X (wrap64 (-(wrap64 (Int.tdiv (wrap64 (3*(l0.length:Int))) 2)))) (wrap64 (Int.tdiv (wrap64 (3*(l0.length:Int))) 2)) false _ Bl.out).mono ?_);rintro e w' ⟨rfl,⟨nd,rfl⟩⟩))
     go_ret
     exact⟨rq1,bw_14⟩
    subst Bm
    rw[ip rfl]at H
    have HX:=Az.mk (tri_within Bl.out)
    have Ca:Az (-9≤X∧X≤9):=⟨by
     have h1:=HX.out
     have h2:=HN9.out
     rw[tri_neg h2]at h1
     omega⟩
    have HW:Az ((Lit.int .i64 X).wf=true):=⟨WalkArith.wf_i64 (by have:=Ca.out;omega)⟩
    by_cases Ax:X∈Ai
    ·rw[ip Ax]at H
     have C22:=Az.mk Ax
     clear Ax
     obtain rfl:=Option.some.inj H
     go_wp2_with (first|(go_at_call 47;(with_reducible refine(fV.calls X (wrap64 (-(wrap64 (Int.tdiv (wrap64 (3*(l0.length:Int))) 2)))) (wrap64 (Int.tdiv (wrap64 (3*(l0.length:Int))) 2)) true _ Bl.out).mono ?_);rintro e w' ⟨rfl,⟨nd,rfl⟩⟩;have hlk:=(HS.out.drewN nd).look HW.out;rw[ode C22.out]at hlk))
     go_ret
     exact⟨rq1,bw_14⟩
    rw[ig Ax]at H
    have C22:=Az.mk Ax
    clear Ax
    have H':=Az.mk H
    clear H
    go_wp2_with (first|(go_at_call 47;(with_reducible refine(fV.calls X (wrap64 (-(wrap64 (Int.tdiv (wrap64 (3*(l0.length:Int))) 2)))) (wrap64 (Int.tdiv (wrap64 (3*(l0.length:Int))) 2)) true _ Bl.out).mono ?_);rintro e w' ⟨rfl,⟨nd,rfl⟩⟩;have hlk:=(HS.out.drewN nd).look HW.out;rw[decide_eq_false C22.out]at hlk;obtain⟨w1,hup,hs1,hg1⟩:=(HS.out.drewN nd).put HW.out Ca.out C22.out;have HS1:=Az.mk hs1;have HG1:=Az.mk hg1;clear hs1 hg1))
    go_roundg k3
    case measure=>have:=HK2.out;have:=HK3.out;omega
    case rel=>exact⟨(X :: Ai),(wrap64 (Ab+1)),rq2,H',⟨by have:=HK2.out;have:=HK3.out;omega⟩,HS1,⟨by
     refine Below.grown bw_14 HG1.out HB.out.size (fun j hj=>by cases hj;exact HBC.out)⟩⟩
theorem bw_15 {n:Nat}{v v':World} (h:Below n v v':=by repeat(first|(with_reducible first|exact HB.out|apply bwA|apply pbN|apply bwD)|exact HB.out)):Below n v v':=h
def fX.l0:Nat→List Int→Int→Int→Option (Bool)
 |0,_,_,_=>none
 |k+1,x5,x6,x7=>if x7<x6 then(if 0≤x7 then(if x7<(x5.length:Int) then((fV.f (rd x5 x7) 0 200).bind fun t338=>(if t338=true then(fX.l0 k x5 x6 (wrap64 (x7+1))) else(some false))) else(none)) else(none)) else(some true)
def fX.f (k:Nat) (l0:List Int):Option (Bool):=fX.l0 k l0 (l0.length:Int) 0
theorem fX.calls (k:Nat) (A0:Option Addr) (c0:Nat) (l0:List Int) (r:Bool) (w:World) (Ai:Kd.C (Kd.int .i64) w A0 l0.length l0) (Aj:l0.length≤c0) (h:fX.f k l0=some r):
  Calls Try.prog 52 #[.slice A0 l0.length c0] w fun e w'=>e= .returned (.bool r)∧Drawn0 w w':=by
 have Ak:=Az.mk Ai
 have Ao:=Az.mk Aj
 clear Ai Aj
 have H:(fX.l0 k l0 (l0.length:Int) 0)=some r:=h
 clear h
 have H':=Az.mk H
 clear H
 go_enter Try.func52,Try.ntmps52
 go_wp2
 go_loopg [7] k (fun kq v7 w'=>∃(Aa:Int),v7= .int .i64 Aa∧Az (fX.l0 kq l0 (l0.length:Int) Aa=some r)∧Az (kq≤k)∧Drawn0 w w')
 case atStart=>exact⟨(0),rq2,H',⟨Nat.le_refl _⟩,kd⟩
 clear H'
 obtain⟨Aa,rfl,HA,HK1,⟨m1,rfl⟩⟩:=hrel
 cases gk with
 |zero=>exact absurd HA.out (by simp[fX.l0])
 |succ k1=>
  have H:=HA.out
  clear HA
  simp only[fX.l0]at H
  by_cases c2:Aa<(l0.length:Int)
  rotate_left
  ·rw[ig c2]at H
   have Ag:=decide_eq_false c2
   clear c2
   obtain rfl:=Option.some.inj H
   go_wp2
   go_ret
   exact⟨rq2,kd⟩
  rw[ip c2]at H
  have Ag:=ode c2
  clear c2
  by_cases c3:0≤Aa
  rotate_left
  ·rw[ig c3]at H
   exact absurd H (by simp)
  rw[ip c3]at H
  have Al:=ode c3
  clear c3
  by_cases c4:Aa<(l0.length:Int)
  rotate_left
  ·rw[ig c4]at H
   exact absurd H (by simp)
  rw[ip c4]at H
  have Am:=ode c4
  clear c4
  replace H:=bez H
  obtain⟨Ah,A5,H⟩:=H
  try dsimp only at H
  by_cases c6:Ah=true
  rotate_left
  ·replace c6:=Bool.eq_false_iff.mpr c6
   subst c6
   rw[ig ff]at H
   obtain rfl:=Option.some.inj H
   have Ab:0≤(Aa:Int):=od
   have Ac:Aa<(l0.length:Int):=od
   obtain⟨Af,Ae,Ad⟩:=Kd.at_int Ak.out Aa Ab Ac
   cases Ae
   replace Ab:=ets Ab
   replace Ac:=ets Ac
   go_wp2_with (first|((with_reducible refine gtC (f:=47) rfl ?_);refine clz Try.func47 (some 12) #[.int .i64 (rd l0 Aa), .int .i64 0, .int .i64 200] ?_;(with_reducible refine(fV.calls (rd l0 Aa) 0 200 false _ A5.out).mono ?_);rintro e w' ⟨rfl,⟨nd,rfl⟩⟩;refine⟨_,rfl,?_⟩))
   go_ret
   exact⟨rq2,kd⟩
  subst c6
  rw[ip rfl]at H
  have H':=Az.mk H
  clear H
  have Ab:0≤(Aa:Int):=od
  have Ac:Aa<(l0.length:Int):=od
  obtain⟨Af,Ae,Ad⟩:=Kd.at_int Ak.out Aa Ab Ac
  cases Ae
  replace Ab:=ets Ab
  replace Ac:=ets Ac
  go_wp2_with (first|((with_reducible refine gtC (f:=47) rfl ?_);refine clz Try.func47 (some 12) #[.int .i64 (rd l0 Aa), .int .i64 0, .int .i64 200] ?_;(with_reducible refine(fV.calls (rd l0 Aa) 0 200 true _ A5.out).mono ?_);rintro e w' ⟨rfl,⟨nd,rfl⟩⟩;refine⟨_,rfl,?_⟩))
  go_roundg k1
  case measure=>have:=HK1.out;omega
  case rel=>exact⟨(wrap64 (Aa+1)),rq2,H',⟨by have:=HK1.out;omega⟩,kd⟩
def gP.f (a0:Int):Option (Int):=some (mx a0 (wrap64 (-a0)))
theorem gP.calls (a0:Int) (r:Int) (w:World) (h:gP.f a0=some r):
  Calls Try.prog 70 #[.int .i64 a0] w fun e w'=>e= .returned (.int .i64 r)∧Below w.heap.size w w':=by
 have HB:=Az.mk (Below.refl w.heap.size w)
 have H:(some (mx a0 (wrap64 (-a0))))=some r:=h
 clear h
 obtain⟨Ab,Aa⟩:∃j_:Int,(mx a0 (wrap64 (-a0)))=j_:=⟨_,rfl⟩
 replace H:(some Ab)=some r:=by first|(rw[Aa]at H;exact H)|(simp only[Aa]at H ⊢;exact H)
 have hji2_:(if a0<(wrap64 (-a0)) then(wrap64 (-a0))else a0)=Ab:=Aa
 obtain rfl:=Option.some.inj H
 go_enter Try.func70,Try.ntmps70
 go_wp2
 go_ret
 exact⟨by first|rfl|(simp[eWn,eWs] <;> rfl)|(simp only[←Aa];first|rfl|(simp[eWn,eWs] <;> rfl))|(simp[*,eWn,eWs] <;> rfl),bw_15⟩
end Go.Proofs.Ytflbpjijgnmklaa.P

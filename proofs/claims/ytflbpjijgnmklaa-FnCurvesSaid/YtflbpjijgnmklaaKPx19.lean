-- The walks, cut and laid together by this session's tools (prune.py, sq2.py, min.py: shorter names, no needless spaces). Not trusted: Lean checks it.
import Derived.Test.YtflbpjijgnmklaaKWZip
import Derived.Test.YtflbpjijgnmklaaKPx16
namespace Go.Proofs.Ytflbpjijgnmklaa.P
open Go.RowKit Go.Proofs.YtflbpjijgnmklaaW.PrintWords Go.Proofs.YtflbpjijgnmklaaW.PrintLast Go.Proofs.YtflbpjijgnmklaaW.PrintMore
attribute [local go_sem] max2_int min2_int max_two min_two max_three min_three max_four min_four   -- for this text's walks alone
set_option linter.unusedVariables false
set_option linter.unusedSimpArgs false
set_option maxHeartbeats 8000000
set_option maxRecDepth 100000
open Option renaming bind_eq_some_iff → be
section
open Bool renaming true → T, false → F
theorem srt_some {w:World}{base:Nat}{ok:Nat→Prop}{A:Option Addr}{n c:Nat}{out:List Int} (HO:Kd.R (Kd.int .i64) 3 w base ok (.slice A n c) out) (h1:0<out.length):∃g:Nat,A=some ⟨g,0,none⟩:=by
 obtain⟨g,cap,eg,_⟩:=Kd.R_form HO h1
 injection eg with ea en ec
 exact⟨g,ea⟩
theorem srt_at {w:World}{base:Nat}{ok:Nat→Prop}{g n c:Nat}{out:List Int}{w0:World} (HO:Kd.R (Kd.int .i64) 3 w base ok (.slice (some ⟨g,0,none⟩) n c) out) (HB:Below base w0 w){Z:Int} (h0:0≤Z) (h1:Z<(out.length:Int)):
  w.cell? ⟨g,Z.toNat,none⟩=some (.int .i64 (rd out Z))∧w.frozen? ⟨g,Z.toNat,none⟩=false∧(Z<(n:Int))∧Az (∀W v,Drawn0 w W→Kd.R (Kd.int .i64) 3 (W.setCell ⟨g,Z.toNat,none⟩ (.int .i64 v)) base ok (.slice (some ⟨g,0,none⟩) n c) (out.set Z.toNat v)∧Below base w0 (W.setCell ⟨g,Z.toNat,none⟩ (.int .i64 v))):=by
 have hn:=(Kd.R_reads' HO).1
 obtain⟨g',cap,eg,hg1,_⟩:=Kd.R_form HO (by omega)
 injection eg with ea en ec
 injection ea with ea
 injection ea with ea
 subst ea
 obtain⟨hx,hf⟩:=Kd.R_celln 0 HO Z h0 (by omega)
 refine⟨hx,hf,by omega,⟨?_⟩⟩
 rintro W v ⟨m,rfl⟩
 exact⟨(Kd.R_putg (Kd.R_drewN HO m) Z v).1,(pbN HB m).setCell hg1 _⟩
theorem srt_w {q:Int}{n:Nat} (h0:0≤q) (h1:q≤(n:Int)) (h2:n<17592186044415):wrap64 (q+1)=q+1:=by
 unfold wrap64
 omega
theorem srt_w1 {q:Int}{n:Nat} (h0:q>0) (h1:q≤(n:Int)) (h2:n<17592186044415):wrap64 (q - 1)=q - 1:=by
 unfold wrap64
 omega
theorem own_cells {w:World}{base g n c:Nat}{ok:Nat→Prop}{out:List Int} (HO:Kd.R (Kd.int .i64) 3 w base ok (.slice (some ⟨g,0,none⟩) n c) out):∃cur:List Value,w.heap[g]?= some (.cells cur.toArray 3 (0,0))∧n≤c∧c≤maxLen∧cur.length=c∧cur.take n=out.map (Value.int .i64)∧base≤g:=by
 have hn:=(Kd.R_reads' HO).1
 obtain⟨h1,h2⟩:=Kd.own_of_R HO
 rcases h2 with ⟨h2,_⟩|⟨g',cap,cur,e1,e2,e3,e4,e5,e6,e7⟩
 ·cases h2
 injection e1 with ea eb ec
 injection ea with ea
 injection ea with ea
 subst ea
 subst ec
 refine⟨cur.toList,by rw[Array.toArray_toList];exact e3,by omega,e5,by rw[Array.length_toList];omega,?_,e2⟩
 rw[←hn,Nat.mul_one]at e7
 exact e7
theorem srt_back {W W4:World}{base g n c q:Nat}{ok:Nat→Prop}{out:List Int}{cur:List Value} (hn:n=out.length+1) (hq:q≤out.length) (HO:Kd.R (Kd.int .i64) 3 W base ok (.slice (some ⟨g,0,none⟩) n c) (out ++ [0])) (h0:W.heap[g]?= some (.cells cur.toArray 3 (0,0))) (h1:n≤c) (h2:c≤maxLen) (h3:cur.length=c) (h4:cur.take n=(out ++ [0]).map (Value.int .i64)) (h5:base≤g)
  (hg:W4.heap[g]?= some (.cells (splice cur (q+1) ((out.drop q).map (Value.int .i64))).toArray 3 (0,0))):Kd.R (Kd.int .i64) 3 W4 base ok (.slice (some ⟨g,0,none⟩) n c) ((out ++ [0]).take (q+1) ++ out.drop q):=by
 have hl:((out ++ [0]).take (q+1) ++ out.drop q).length=n:=by rw[List.length_append,List.length_take,List.length_drop,List.length_append];simp;omega
 refine Kd.R_of_own ?_ HO.1
 refine⟨by rw[encs_length,Nat.mul_one], .inr ⟨g,c,_,by rw[hl],h5,hg,by rw[hl];exact h1,h2,?_,?_⟩⟩
 ·rw[List.size_toArray,length_splice _ _ _ (by rw[List.length_map,List.length_drop];omega),h3,Nat.mul_one]
 rw[hl,Nat.mul_one]
 unfold splice encs
 have e1:cur.take (q+1)=((out ++ [0]).take (q+1)).map (Value.int .i64):=by
  rw[List.map_take, ←h4,List.take_take,Nat.min_eq_left (by omega)]
 rw[List.toList_toArray, ←List.append_assoc,List.take_append_of_le_length (by rw[List.length_append,List.length_take,List.length_map,List.length_drop];omega),e1, ←List.map_append,List.take_of_length_le (by rw[List.length_map,hl];exact Nat.le_refl _)]
theorem srt_put {out:List Int}{q:Nat}{X:Int} (hq:q≤out.length):((out ++ [0]).take (q+1) ++ out.drop q).set q X=out.take q ++ (X :: out.drop q):=by
 have hl:((out ++ [0]).take (q+1)).length=q+1:=by rw[List.length_take,List.length_append];simp;omega
 rw[List.set_append_left _ _ (by omega)]
 have e:(out ++ [0]).take (q+1)=out.take q ++ [(out ++ [0])[q]'(by rw[List.length_append];simp;omega)]:=by
  rw[List.take_succ_eq_append_getElem (by rw[List.length_append];simp;omega),List.take_append_of_le_length hq]
 rw[e,List.set_append_right _ _ (by rw[List.length_take];omega),List.length_take,show q - min q out.length=0 by omega,List.set_cons_zero,List.append_assoc]
 rfl
mutual
def gG.l0:Nat→List Int→List Int→Int→Option (List Int)
 |0,_,_,_=>none
 |k+1,l,out,i=>if i<(l.length:Int) then(if 0≤i then(gG.l1 k l out i (out.length:Int))else none) else(some out)
def gG.l1:Nat→List Int→List Int→Int→Int→Option (List Int)
 |0,_,_,_,_=>none
 |k+1,l,out,i,q=>if 0≤q then(if q≤(out.length:Int) then(if out.length<17592186044415 then(if q>0 then(if rd out (q - 1)>rd l i then(gG.l1 k l out i (q - 1)) else(gG.l0 k l (out.take q.toNat ++ (rd l i :: out.drop q.toNat)) (wrap64 (i+1)))) else(gG.l0 k l (out.take q.toNat ++ (rd l i :: out.drop q.toNat)) (wrap64 (i+1))))else none)else none)else none
end
def gG.f (k:Nat) (l:List Int):Option (List Int):=gG.l0 k l [] 0
def gG.T9:Bool × List (List Nat × List Nat):=(true,[([],[]),([],[]),([1],[1]),([0,2],[0,2]),([],[]),([],[]),([4,5],[4,5]),([3,6],[3,6])])
def gG.B9:List Nat:=[0,0,2,7,0,0,48,127]
theorem gG.tab9:rtab .any (opsOf Try.f41 9)=gG.T9:=by kernel_rfl
theorem gG.bits9:waitsOk gG.T9.2 gG.B9=true:=by kernel_rfl
set_option maxHeartbeats 16000000 in
theorem gG.calls (k:Nat) (A0:Option Addr) (c0:Nat) (l0:List Int) (r:List Int) (w:World) (Al:Kd.C (Kd.int .i64) w A0 l0.length l0) (Am:l0.length≤c0) (h:gG.f k l0=some r):
  Calls Try.prog 41 #[.slice A0 l0.length c0] w fun e w'=>∃v0_:Value,e= .returned (v0_)∧Kd.R (Kd.int .i64) 3 w' w.heap.size (fun _=>True) v0_ r∧Below w.heap.size w w':=by
 have Ao:=Az.mk Al
 have Au:=Az.mk Am
 clear Al Am
 have H':=Az.mk h
 clear h
 have HB:=Az.mk (Below.refl w.heap.size w)
 go_enter Try.func41,Try.ntmps41
 go_wp2_with (first|((with_reducible refine gtD (N:=7) rfl ?_);refine Kd.R_lit (Kd.int .i64) _ 3 ?hg (N:=7) ?hd (xs:=([]:List Int)) (inner:=[]) (ok:=fun _=>True) (okp:=fun _=>True) ?hr ?hp (fun _ hk=>hk) trivial (Below.refl _ _) (Nat.le_refl _) (by simp) ?_;(case hd=>rfl);(case hg=>rfl);(case hr=>first|(go_simp;done)|(go_simp;rfl));(case hp=>exact Reps.none _ _);intro v1 W1 ho hb hg hat;have HO:=Az.mk ho;have HB1:=Az.mk hb;clear ho hb hg hat HB;have HB:=HB1;clear HB1;obtain⟨A,c,e2⟩:=Kd.R_slice HO.out;subst e2))
 go_loopg [3,10] k (fun kq v3 Ap w'=>∃(Aa:List Int) (i_1:Int) (A:Option Addr) (c:Nat),v3= .slice A Aa.length c∧Ap= .int .i64 i_1∧Az (gG.l0 kq l0 Aa i_1=some r)∧Az (kq≤k)∧Az (Kd.R (Kd.int .i64) 3 w' w.heap.size (fun _=>True) (.slice A Aa.length c) Aa)∧Az (Below w.heap.size w w'))
 case atStart=>exact⟨[],0,_,_,rfl,rfl,H',⟨Nat.le_refl _⟩,HO,HB⟩
 clear H' HO HB
 obtain⟨Aa,i_1,A,c,rfl,rfl,HA,HK1,HO,HB⟩:=hrel
 cases gk with
 |zero=>exact absurd HA.out (by simp[gG.l0])
 |succ k1=>
  have H:=HA.out
  clear HA
  simp only[gG.l0]at H
  by_cases b1:i_1<(l0.length:Int)
  rotate_left
  ·rw[ig b1]at H
   have b1b:decide (i_1<(l0.length:Int))=false:=decide_eq_false b1
   clear b1
   obtain rfl:=Option.some.inj H
   go_wp2
   go_ret
   exact⟨_,rfl,by first|exact HO.out|exact Kd.R_drewN HO.out _,by first|exact HB.out|exact pbN HB.out _⟩
  rw[ip b1]at H
  by_cases b0:0≤i_1
  rotate_left
  ·rw[ig b0]at H
   exact absurd H (by simp)
  rw[ip b0]at H
  obtain⟨adx,rfl,Ah⟩:=Kd.at_int Ao.out i_1 b0 b1
  replace Ah:=kc HB Ah
  obtain⟨X,hX⟩:∃j_:Int,rd l0 i_1=j_:=⟨_,rfl⟩
  rw[hX]at Ah
  have b1b:=ode b1
  replace b0:=ets b0
  replace b1:=ets b1
  have H':=Az.mk H
  clear H
  go_wp2
  go_loopg [6] k1 (fun kq v6 w'=>∃(q_1:Int),v6= .int .i64 q_1∧Az (gG.l1 kq l0 Aa i_1 q_1=some r)∧Az (kq≤k1)∧Az (Kd.R (Kd.int .i64) 3 w' w.heap.size (fun _=>True) (.slice A Aa.length c) Aa)∧Az (Below w.heap.size w w'))
  case atStart=>exact⟨_,rfl,H',⟨Nat.le_refl _⟩,⟨by first|exact HO.out|exact Kd.R_drewN HO.out _⟩,⟨by first|exact HB.out|exact pbN HB.out _⟩⟩
  clear H' HO HB Ah
  obtain⟨q_1,rfl,HA,HK2,HO,HB⟩:=hrel
  cases gk with
  |zero=>exact absurd HA.out (by simp[gG.l1])
  |succ k2=>
   have H:=HA.out
   clear HA
   simp only[gG.l1]at H
   rw[hX]at H
   by_cases d0:0≤q_1
   rotate_left
   ·rw[ig d0]at H
    exact absurd H (by simp)
   rw[ip d0]at H
   by_cases d1:q_1≤(Aa.length:Int)
   rotate_left
   ·rw[ig d1]at H
    exact absurd H (by simp)
   rw[ip d1]at H
   by_cases d2:Aa.length<17592186044415
   rotate_left
   ·rw[ig d2]at H
    exact absurd H (by simp)
   rw[ip d2]at H
   have LM:=Az.mk d2
   have hq0:=Az.mk d0
   have hq1:=Az.mk d1
   by_cases d3:q_1>0
   rotate_left
   ·rw[ig d3]at H
    have d3b:decide (q_1>0)=false:=decide_eq_false d3
    have d3c:decide (0<q_1)=false:=decide_eq_false d3
    clear d0 d1 d2 d3
    have H':=Az.mk H
    clear H
    obtain⟨Q,hQ0⟩:∃j_:Int,wrap64 (q_1+1)=j_:=⟨_,rfl⟩
    have hQw:IntKind.i64.wrap (q_1+1)=Q:=(i64_w _).trans hQ0
    have hQ:=Az.mk (show Q=q_1+1 from by rw[←hQ0];exact srt_w hq0.out hq1.out LM.out)
    clear hQ0
    go_wp2_with (first|((with_reducible refine gate_builtin (b:= .append) (xs:= #[.tmp 29, .tmp 30]) rfl ?_);at_builtin;refine Kd.R_append (Kd.int .i64) (w0:=w) w.heap.size rfl (.tmp 29) (.tmp 30) 25 3 (.int .i64 0) 8 rfl Try.underlying25 info3 rfl (by decide) (by omega) (.slice A Aa.length c) Aa 0 [.int .i64 0] (fun _=>True) (fun _=>False) rfl rfl ?aP (fun _ hk=>hk.elim) ?aF ?aO ?aB ?aS ?aL ?_;(case aP=>exact rfl);(case aB=>exact(by repeat(first|(with_reducible first|exact HB.out|apply pbN)|exact HB.out)));(case aF=>exact(fun k_ hk_=>trivial));(case aO=>exact(kR HO.out));(case aS=>exact HB.out.size);(case aL=>have:=LM.out;omega);intro v1 W6 ho hb hg hat;obtain⟨A2,c2,e2⟩:=Kd.R_slice ho;subst e2;have Ab:=Az.mk (show Kd.R (Kd.int .i64) 3 W6 w.heap.size (fun _=>True) (.slice A2 (Aa.length+1) c2) (Aa ++ [0])from by rw[show Aa.length+1=(Aa ++ [0]).length from by simp];exact ho);have HB2:=Az.mk hb;clear ho hb hg hat HO HB;have HB:=HB2;clear HB2;obtain⟨g,eg⟩:=srt_some Ab.out (by rw[List.length_append];simp);subst eg))
    obtain⟨i0,Ai,_,hsz0,_⟩:=info_parts info3
    obtain⟨DD,hDD0⟩:∃D_:Option Addr,(if c2=Q.toNat then some (⟨g,0,none⟩:Addr)else some ⟨g,Q.toNat,none⟩)=D_:=⟨_,rfl⟩
    obtain⟨SS,hSS0⟩:∃D_:Option Addr,(if c2=q_1.toNat then some (⟨g,0,none⟩:Addr)else some ⟨g,q_1.toNat,none⟩)=D_:=⟨_,rfl⟩
    have hnc:=(Kd.R_reads' Ab.out).2.1
    have hDD:=Az.mk (show q_1<(Aa.length:Int)→DD=some ⟨g,q_1.toNat+1,none⟩from fun h_=>by rw[←hDD0,ig (by rw[hQ.out];have:=hq0.out;omega),hQ.out];congr 2;have:=hq0.out;omega)
    have hSS:=Az.mk (show SS=some ⟨g,q_1.toNat,none⟩from by rw[←hSS0,ig (by have:=hq0.out;have:=hq1.out;omega)])
    have zQ0:(0≤Q)=True:=ets (by rw[hQ.out];have:=hq0.out;omega)
    have zQ1:(Q≤(Aa.length:Int)+1)=True:=ets (by rw[hQ.out];have:=hq1.out;omega)
    have zq0:(0≤q_1)=True:=ets hq0.out
    have zq1:(q_1≤(Aa.length:Int)+1)=True:=ets (by have:=hq1.out;omega)
    clear hnc
    refine start_ (n:=8) (S:=fun w'=>True) (ds:=[7]) #[F,F,F,F,F,F,F,F] (by kernel_rfl) rfl rfl trivial (fun hHeld=>?_)
    refine with_tabW gG.tab9 gG.bits9 (fun HT_ HW_=>?_)
    have HBn:=Az.mk (bwD HB.out)
    have HOn:=Az.mk (Kd.R_drew Ab.out)
    clear HB Ab
    have HB:=HBn
    have Ab:=HOn
    clear HBn HOn
    generalize W6.drew=wd at HB Ab hHeld ⊢
    obtain⟨cur,hcur0,Ad,Ae,Af,Ag,Ac⟩:=own_cells Ab.out
    have hcur:=Az.mk hcur0
    have hgB:=Az.mk Ac
    have hcn:=Az.mk (show((Aa.drop q_1.toNat).map (Value.int .i64)).length=Nat.min (Aa.length+1 - q_1.toNat) (Aa.length+1 - Q.toNat)from by rw[List.length_map,List.length_drop];have e2:=hQ.out;have e3:=hq0.out;have e4:=hq1.out;show _=min _ _;omega)
    have hcp:=Az.mk (show 0<((Aa.drop q_1.toNat).map (Value.int .i64)).length→DD=some ⟨g,q_1.toNat+1,none⟩∧∃ad,SS=some ad∧∀j v,((Aa.drop q_1.toNat).map (Value.int .i64))[j]?= some v→wd.cell? (ad.add j)=some v from by
     intro hlen
     rw[List.length_map,List.length_drop]at hlen
     have e2:=hQ.out
     have e3:=hq0.out
     have e4:=hq1.out
     refine⟨?_,⟨g,q_1.toNat,none⟩,hSS.out,fun j v hv=>?_⟩
     ·exact hDD.out (by omega)
     rw[List.getElem?_map,List.getElem?_drop]at hv
     obtain⟨z,hz,rfl⟩:=Option.map_eq_some_iff.1 hv
     have hjl:q_1.toNat+j<Aa.length:=by
      rcases Nat.lt_or_ge (q_1.toNat+j) Aa.length with h'|h'
      ·exact h'
      rw[List.getElem?_eq_none h']at hz;cases hz
     obtain⟨hx,_⟩:=Kd.R_celln 0 Ab.out ((q_1.toNat+j:Nat):Int) (by omega) (by omega)
     have ea:(⟨g,q_1.toNat,none⟩:Addr).add j=⟨g,((q_1.toNat+j:Nat):Int).toNat,none⟩:=by
      rw[Int.toNat_natCast];unfold Addr.add
      by_cases e:j=0
      ·rw[ip e,e,Nat.add_zero]
      rw[ig e]
     rw[ea,hx]
     congr 2
     unfold rdOf
     rw[Int.toNat_natCast,List.getD_eq_getElem?_getD,List.getElem?_append_left hjl,hz]
     rfl)
    have hcf:=Az.mk (show q_1.toNat+1+((Aa.drop q_1.toNat).map (Value.int .i64)).length≤cur.length from by rw[List.length_map,List.length_drop];have e3:=hq0.out;have e4:=hq1.out;omega)
    refine pu (i:=0) (N:=some 32) #[T,F,F,F,F,F,F,F] (any_of HT_.out (by kernel_rfl)) ?_
    refine pu (i:=1) (N:=some 33) #[T,T,F,F,F,F,F,F] (any_of HT_.out (by kernel_rfl)) ?_
    refine pu (i:=2) (N:=some 34) #[T,T,T,F,F,F,F,F] (any_of HT_.out (by kernel_rfl)) ?_
    refine pu (i:=3) (N:=some 35) #[T,T,T,T,F,F,F,F] (any_of HT_.out (by kernel_rfl)) ?_
    refine pu (i:=4) (N:=some 36) #[T,T,T,T,T,F,F,F] (any_of HT_.out (by kernel_rfl)) ?_
    refine pu (i:=5) (N:=some 37) #[T,T,T,T,T,T,F,F] (any_of HT_.out (by kernel_rfl)) ?_
    refine pu (i:=6) (N:=some 38) #[T,T,T,T,T,T,T,F] (any_of HT_.out (by kernel_rfl)) ?_
    refine last_ (i:=7) (N:=some 39) #[T,T,T,T,T,T,T,T] rfl rfl (one_of HT_.out (by kernel_rfl)) (by decide) (fun K hK=>?_)
    refine step_copy_splice rfl (.tmp 35) (.tmp 38) 25 25 rfl 3 Try.underlying25 (by rw[Ai];exact congrArg some hsz0) DD SS _ _ _ _ (by rfl) (by rfl) g (q_1.toNat+1) cur 3 hcur.out ((Aa.drop q_1.toNat).map (Value.int .i64)) hcn.out hcp.out hcf.out (fun v hv=>by obtain⟨z,_,rfl⟩:=List.mem_map.1 hv;rfl) w.heap.size w HB.out hgB.out ?_
    intro W4 hg4 hb4
    have HG4:=Az.mk hg4.out
    have HB4:=Az.mk hb4
    clear hg4 hb4
    refine hK.out _ _ ?_
    clear hK K
    refine done_ (done_of HT_.out (by kernel_rfl)) ?_
    have Aj:=Az.mk (srt_back (q:=q_1.toNat) rfl (by have:=hq0.out;have:=hq1.out;omega) Ab.out hcur.out Ad Ae Af Ag Ac HG4.out)
    clear hDD0 hSS0 hDD hSS zQ0 zQ1 zq0 zq1 hHeld Ab hcur hcn hcp hcf HG4 HB Ad Ae Af Ag Ac hQw
    have Ak:=Az.mk (show((Aa ++ [0]).take (q_1.toNat+1) ++ Aa.drop q_1.toNat).length=Aa.length+1 from by rw[List.length_append,List.length_take,List.length_drop,List.length_append];have:=hq0.out;have:=hq1.out;simp;omega)
    obtain⟨Aq,As,zn4,fin4⟩:=srt_at Aj.out HB4.out hq0.out (show q_1<(((Aa ++ [0]).take (q_1.toNat+1) ++ Aa.drop q_1.toNat).length:Int)from by rw[Ak.out];have:=hq1.out;omega)
    have zq0:=ets hq0.out
    have zq1:=ets zn4
    have zq2:(q_1<(Aa.length:Int)+1)=True:=ets (by have:=hq1.out;omega)
    clear zn4
    go_wp2
    all_goals (go_roundg k2;(case measure=>have:=HK1.out;have:=HK2.out;omega);(case rel=>(have E:=fin4.out _ X (by first|exact⟨_,rfl⟩|exact Drawn0.refl _);have ep:=srt_put (out:=Aa) (q:=q_1.toNat) (X:=X) (by have:=hq0.out;have:=hq1.out;omega);rw[ep]at E;have el:Aa.length+1=(Aa.take q_1.toNat ++ (X :: Aa.drop q_1.toNat)).length:=(by rw[List.length_append,List.length_cons,List.length_take,List.length_drop];have:=hq0.out;have:=hq1.out;omega);exact⟨Aa.take q_1.toNat ++ (X :: Aa.drop q_1.toNat),_,_,c2,(by rw[el]),rfl,H',⟨by have:=HK1.out;have:=HK2.out;omega⟩,⟨(by rw[←el];exact E.1)⟩,⟨E.2⟩⟩)))
   rw[ip d3]at H
   obtain⟨g0,eg0⟩:=srt_some HO.out (by omega)
   subst eg0
   obtain⟨Z,hZ⟩:∃j_:Int,q_1 - 1=j_:=⟨_,rfl⟩
   obtain⟨hxq,_,znq,_⟩:=srt_at HO.out HB.out (show 0≤Z by omega) (by omega)
   have z0:(0≤Z)=True:=ets (by omega)
   have z1:=ets znq
   have d3b:decide (q_1>0)=true:=ode d3
   have d3c:decide (0<q_1)=true:=ode d3
   have hqw:IntKind.i64.wrap (q_1 - 1)=Z:=(i64_w _).trans ((srt_w1 d3 d1 d2).trans hZ)
   have hqw2:wrap64 (q_1 - 1)=Z:=(srt_w1 d3 d1 d2).trans hZ
   rw[hZ]at H
   obtain⟨Y,hY⟩:∃j_:Int,rd Aa Z=j_:=⟨_,rfl⟩
   rw[hY]at hxq H
   clear hY hZ znq d0 d1 d2 d3
   by_cases d4:Y>X
   ·rw[ip d4]at H
    have d4b:decide (Y>X)=true:=ode d4
    have d4c:decide (X<Y)=true:=ode d4
    clear d4
    have H':=Az.mk H
    clear H
    go_wp2
    go_roundg k2
    case measure=>have:=HK1.out;have:=HK2.out;omega
    case rel=>exact⟨_,rfl,H',⟨by have:=HK2.out;omega⟩,⟨by first|exact HO.out|exact Kd.R_drewN HO.out _⟩,⟨by first|exact HB.out|exact pbN HB.out _⟩⟩
   rw[ig d4]at H
   have d4b:decide (Y>X)=false:=decide_eq_false d4
   have d4c:decide (X<Y)=false:=decide_eq_false d4
   clear d4
   have H':=Az.mk H
   clear H
   obtain⟨Q,hQ0⟩:∃j_:Int,wrap64 (q_1+1)=j_:=⟨_,rfl⟩
   have hQw:IntKind.i64.wrap (q_1+1)=Q:=(i64_w _).trans hQ0
   have hQ:=Az.mk (show Q=q_1+1 from by rw[←hQ0];exact srt_w hq0.out hq1.out LM.out)
   clear hQ0
   go_wp2_with (first|((with_reducible refine gate_builtin (b:= .append) (xs:= #[.tmp 29, .tmp 30]) rfl ?_);at_builtin;refine Kd.R_append (Kd.int .i64) (w0:=w) w.heap.size rfl (.tmp 29) (.tmp 30) 25 3 (.int .i64 0) 8 rfl Try.underlying25 info3 rfl (by decide) (by omega) (.slice (some ⟨g0,0,none⟩) Aa.length c) Aa 0 [.int .i64 0] (fun _=>True) (fun _=>False) rfl rfl ?aP (fun _ hk=>hk.elim) ?aF ?aO ?aB ?aS ?aL ?_;(case aP=>exact rfl);(case aB=>exact(by repeat(first|(with_reducible first|exact HB.out|apply pbN)|exact HB.out)));(case aF=>exact(fun k_ hk_=>trivial));(case aO=>exact(kR HO.out));(case aS=>exact HB.out.size);(case aL=>have:=LM.out;omega);intro v1 W6 ho hb hg hat;obtain⟨A2,c2,e2⟩:=Kd.R_slice ho;subst e2;have Ab:=Az.mk (show Kd.R (Kd.int .i64) 3 W6 w.heap.size (fun _=>True) (.slice A2 (Aa.length+1) c2) (Aa ++ [0])from by rw[show Aa.length+1=(Aa ++ [0]).length from by simp];exact ho);have HB2:=Az.mk hb;clear ho hb hg hat HO HB;have HB:=HB2;clear HB2;obtain⟨g,eg⟩:=srt_some Ab.out (by rw[List.length_append];simp);subst eg))
   obtain⟨i0,Ai,_,hsz0,_⟩:=info_parts info3
   obtain⟨DD,hDD0⟩:∃D_:Option Addr,(if c2=Q.toNat then some (⟨g,0,none⟩:Addr)else some ⟨g,Q.toNat,none⟩)=D_:=⟨_,rfl⟩
   obtain⟨SS,hSS0⟩:∃D_:Option Addr,(if c2=q_1.toNat then some (⟨g,0,none⟩:Addr)else some ⟨g,q_1.toNat,none⟩)=D_:=⟨_,rfl⟩
   have hnc:=(Kd.R_reads' Ab.out).2.1
   have hDD:=Az.mk (show q_1<(Aa.length:Int)→DD=some ⟨g,q_1.toNat+1,none⟩from fun h_=>by rw[←hDD0,ig (by rw[hQ.out];have:=hq0.out;omega),hQ.out];congr 2;have:=hq0.out;omega)
   have hSS:=Az.mk (show SS=some ⟨g,q_1.toNat,none⟩from by rw[←hSS0,ig (by have:=hq0.out;have:=hq1.out;omega)])
   have zQ0:(0≤Q)=True:=ets (by rw[hQ.out];have:=hq0.out;omega)
   have zQ1:(Q≤(Aa.length:Int)+1)=True:=ets (by rw[hQ.out];have:=hq1.out;omega)
   have zq0:(0≤q_1)=True:=ets hq0.out
   have zq1:(q_1≤(Aa.length:Int)+1)=True:=ets (by have:=hq1.out;omega)
   clear hnc
   refine start_ (n:=8) (S:=fun w'=>True) (ds:=[7]) #[F,F,F,F,F,F,F,F] (by kernel_rfl) rfl rfl trivial (fun hHeld=>?_)
   refine with_tabW gG.tab9 gG.bits9 (fun HT_ HW_=>?_)
   have HBn:=Az.mk (bwD HB.out)
   have HOn:=Az.mk (Kd.R_drew Ab.out)
   clear HB Ab
   have HB:=HBn
   have Ab:=HOn
   clear HBn HOn
   generalize W6.drew=wd at HB Ab hHeld ⊢
   obtain⟨cur,hcur0,Ad,Ae,Af,Ag,Ac⟩:=own_cells Ab.out
   have hcur:=Az.mk hcur0
   have hgB:=Az.mk Ac
   have hcn:=Az.mk (show((Aa.drop q_1.toNat).map (Value.int .i64)).length=Nat.min (Aa.length+1 - q_1.toNat) (Aa.length+1 - Q.toNat)from by rw[List.length_map,List.length_drop];have e2:=hQ.out;have e3:=hq0.out;have e4:=hq1.out;show _=min _ _;omega)
   have hcp:=Az.mk (show 0<((Aa.drop q_1.toNat).map (Value.int .i64)).length→DD=some ⟨g,q_1.toNat+1,none⟩∧∃ad,SS=some ad∧∀j v,((Aa.drop q_1.toNat).map (Value.int .i64))[j]?= some v→wd.cell? (ad.add j)=some v from by
    intro hlen
    rw[List.length_map,List.length_drop]at hlen
    have e2:=hQ.out
    have e3:=hq0.out
    have e4:=hq1.out
    refine⟨?_,⟨g,q_1.toNat,none⟩,hSS.out,fun j v hv=>?_⟩
    ·exact hDD.out (by omega)
    rw[List.getElem?_map,List.getElem?_drop]at hv
    obtain⟨z,hz,rfl⟩:=Option.map_eq_some_iff.1 hv
    have hjl:q_1.toNat+j<Aa.length:=by
     rcases Nat.lt_or_ge (q_1.toNat+j) Aa.length with h'|h'
     ·exact h'
     rw[List.getElem?_eq_none h']at hz;cases hz
    obtain⟨hx,_⟩:=Kd.R_celln 0 Ab.out ((q_1.toNat+j:Nat):Int) (by omega) (by omega)
    have ea:(⟨g,q_1.toNat,none⟩:Addr).add j=⟨g,((q_1.toNat+j:Nat):Int).toNat,none⟩:=by
     rw[Int.toNat_natCast];unfold Addr.add
     by_cases e:j=0
     ·rw[ip e,e,Nat.add_zero]
     rw[ig e]
    rw[ea,hx]
    congr 2
    unfold rdOf
    rw[Int.toNat_natCast,List.getD_eq_getElem?_getD,List.getElem?_append_left hjl,hz]
    rfl)
   have hcf:=Az.mk (show q_1.toNat+1+((Aa.drop q_1.toNat).map (Value.int .i64)).length≤cur.length from by rw[List.length_map,List.length_drop];have e3:=hq0.out;have e4:=hq1.out;omega)
   refine pu (i:=0) (N:=some 32) #[T,F,F,F,F,F,F,F] (any_of HT_.out (by kernel_rfl)) ?_
   refine pu (i:=1) (N:=some 33) #[T,T,F,F,F,F,F,F] (any_of HT_.out (by kernel_rfl)) ?_
   refine pu (i:=2) (N:=some 34) #[T,T,T,F,F,F,F,F] (any_of HT_.out (by kernel_rfl)) ?_
   refine pu (i:=3) (N:=some 35) #[T,T,T,T,F,F,F,F] (any_of HT_.out (by kernel_rfl)) ?_
   refine pu (i:=4) (N:=some 36) #[T,T,T,T,T,F,F,F] (any_of HT_.out (by kernel_rfl)) ?_
   refine pu (i:=5) (N:=some 37) #[T,T,T,T,T,T,F,F] (any_of HT_.out (by kernel_rfl)) ?_
   refine pu (i:=6) (N:=some 38) #[T,T,T,T,T,T,T,F] (any_of HT_.out (by kernel_rfl)) ?_
   refine last_ (i:=7) (N:=some 39) #[T,T,T,T,T,T,T,T] rfl rfl (one_of HT_.out (by kernel_rfl)) (by decide) (fun K hK=>?_)
   refine step_copy_splice rfl (.tmp 35) (.tmp 38) 25 25 rfl 3 Try.underlying25 (by rw[Ai];exact congrArg some hsz0) DD SS _ _ _ _ (by rfl) (by rfl) g (q_1.toNat+1) cur 3 hcur.out ((Aa.drop q_1.toNat).map (Value.int .i64)) hcn.out hcp.out hcf.out (fun v hv=>by obtain⟨z,_,rfl⟩:=List.mem_map.1 hv;rfl) w.heap.size w HB.out hgB.out ?_
   intro W4 hg4 hb4
   have HG4:=Az.mk hg4.out
   have HB4:=Az.mk hb4
   clear hg4 hb4
   refine hK.out _ _ ?_
   clear hK K
   refine done_ (done_of HT_.out (by kernel_rfl)) ?_
   have Aj:=Az.mk (srt_back (q:=q_1.toNat) rfl (by have:=hq0.out;have:=hq1.out;omega) Ab.out hcur.out Ad Ae Af Ag Ac HG4.out)
   clear hDD0 hSS0 hDD hSS zQ0 zQ1 zq0 zq1 hHeld Ab hcur hcn hcp hcf HG4 HB Ad Ae Af Ag Ac hQw
   have Ak:=Az.mk (show((Aa ++ [0]).take (q_1.toNat+1) ++ Aa.drop q_1.toNat).length=Aa.length+1 from by rw[List.length_append,List.length_take,List.length_drop,List.length_append];have:=hq0.out;have:=hq1.out;simp;omega)
   obtain⟨Aq,As,zn4,fin4⟩:=srt_at Aj.out HB4.out hq0.out (show q_1<(((Aa ++ [0]).take (q_1.toNat+1) ++ Aa.drop q_1.toNat).length:Int)from by rw[Ak.out];have:=hq1.out;omega)
   have zq0:=ets hq0.out
   have zq1:=ets zn4
   have zq2:(q_1<(Aa.length:Int)+1)=True:=ets (by have:=hq1.out;omega)
   clear zn4
   go_wp2
   all_goals (go_roundg k2;(case measure=>have:=HK1.out;have:=HK2.out;omega);(case rel=>(have E:=fin4.out _ X (by first|exact⟨_,rfl⟩|exact Drawn0.refl _);have ep:=srt_put (out:=Aa) (q:=q_1.toNat) (X:=X) (by have:=hq0.out;have:=hq1.out;omega);rw[ep]at E;have el:Aa.length+1=(Aa.take q_1.toNat ++ (X :: Aa.drop q_1.toNat)).length:=(by rw[List.length_append,List.length_cons,List.length_take,List.length_drop];have:=hq0.out;have:=hq1.out;omega);exact⟨Aa.take q_1.toNat ++ (X :: Aa.drop q_1.toNat),_,_,c2,(by rw[el]),rfl,H',⟨by have:=HK1.out;have:=HK2.out;omega⟩,⟨(by rw[←el];exact E.1)⟩,⟨E.2⟩⟩)))
end
theorem bw_20 {n:Nat}{v v':World} (h:Below n v v':=by repeat(first|(with_reducible first|exact HB.out|apply bwA|apply pbN|apply bwD)|exact HB.out)):Below n v v':=h
def fY.l0:Nat→List Int→List Int→Int→Option (List Int)
 |0,_,_,_=>none
 |k+1,up,cnt,i=>if i<(up.length:Int) then((joiner_top.l0 k up i).bind fun t=>(if 0≤t then(if t<(cnt.length:Int)then fY.l0 k up (cnt.set t.toNat (wrap64 (rd cnt t+1))) (wrap64 (i+1))else none)else none))else some cnt
def fY.l1:Nat→List Int→List Int→Int→Option (List Int)
 |0,_,_,_=>none
 |k+1,cnt,out,i=>if i<(cnt.length:Int) then(if 0≤i then(if rd cnt i>0 then(if out.length<17592186044415 then fY.l1 k cnt (out ++ [rd cnt i]) (wrap64 (i+1))else none)else fY.l1 k cnt out (wrap64 (i+1)))else none)else gG.f k out
def fY.f (k:Nat) (t:List (List Int)) (x:List Int):Option (List Int):=(fH.f k t x).bind fun b=>(if b=true then((fM.f k t x).bind fun up=>(if(up.length:Int)≤1000000000000 then((fY.l0 k up (List.replicate up.length 0) 0).bind fun cnt=>fY.l1 k cnt [] 0)else none))else some ([]:List Int))
set_option maxHeartbeats 16000000 in
theorem fY.calls (k:Nat) (A0:Option Addr) (c0:Nat) (l0:List (List Int)) (A1:Option Addr) (c1:Nat) (l1:List Int) (r:List Int) (w:World) (Ae:Kd.C (Kd.slice 3 (Kd.int .i64)) w A0 l0.length l0) (Af:l0.length≤c0) (Ag:Kd.C (Kd.int .i64) w A1 l1.length l1) (Ah:l1.length≤c1) (h:fY.f k l0 l1=some r):
  Calls Try.prog 6 #[.slice A0 l0.length c0, .slice A1 l1.length c1] w fun e w'=>∃v0_:Value,e= .returned (v0_)∧Kd.R (Kd.int .i64) 3 w' w.heap.size (fun _=>True) v0_ r∧Below w.heap.size w w':=by
 have Ab:=Az.mk Ae
 have Ac:=Az.mk Af
 have HR1:=Az.mk Ag
 have Ad:=Az.mk Ah
 clear Ae Af Ag Ah
 have HB:=Az.mk (Below.refl w.heap.size w)
 unfold fY.f at h
 replace h:=be.mp h
 obtain⟨b,T0,h⟩:=h
 have T0:=Az.mk T0
 by_cases p1:b=true
 rotate_left
 ·rw[ig p1]at h
  replace p1:=Bool.eq_false_iff.mpr p1
  subst p1
  obtain rfl:=Option.some.inj h
  go_enter Try.func6,Try.ntmps6
  go_wp2_with (first
   |(go_at_call 26;refine(fH.calls k A0 c0 l0 A1 c1 l1 false _ (by first|exact Kd.C_drewN Ab.out _|exact Ab.out) Ac.out (by first|exact Kd.C_drewN HR1.out _|exact HR1.out) Ad.out T0.out).mono ?_;rintro e W0 ⟨rfl,hb⟩;have HB0:=Az.mk (bwT (by first|exact HB.out|exact pbN HB.out _) hb);clear hb T0))
  go_ret
  exact⟨_,rfl,Kd.R_nil _ _ _ _ _,by first|exact HB0.out|exact pbN HB0.out _⟩
 rw[ip p1]at h
 subst p1
 replace h:=be.mp h
 obtain⟨up,T1,h⟩:=h
 have T1:=Az.mk T1
 by_cases p2:(up.length:Int)≤1000000000000
 rotate_left
 ·rw[ig p2]at h
  exact absurd h (by simp)
 rw[ip p2]at h
 replace h:=be.mp h
 obtain⟨cntF,T2,h⟩:=h
 have T2:=Az.mk T2
 have HM:=Az.mk h
 have N1:=Az.mk p2
 clear h p2
 go_enter Try.func6,Try.ntmps6
 go_wp2_with (first
  |(go_at_call 26;refine(fH.calls k A0 c0 l0 A1 c1 l1 true _ (by first|exact Kd.C_drewN Ab.out _|exact Ab.out) Ac.out (by first|exact Kd.C_drewN HR1.out _|exact HR1.out) Ad.out T0.out).mono ?_;rintro e W0 ⟨rfl,hb⟩;have HB0:=Az.mk (bwT (by first|exact HB.out|exact pbN HB.out _) hb);clear hb T0 HB)
  |(go_at_call 39;refine(fM.calls k A0 c0 l0 A1 c1 l1 up _ (by first|exact Kd.C_drewN (Kd.C_below Ab.out HB0.out) _|exact Kd.C_below Ab.out HB0.out) Ac.out (by first|exact Kd.C_drewN (Kd.C_below HR1.out HB0.out) _|exact Kd.C_below HR1.out HB0.out) Ad.out T1.out).mono ?_;rintro e W1 ⟨p,AJ,cJ,rfl,hj,hb⟩;have Ai:=Az.mk hj;have HB1:=Az.mk (bwT (by first|exact HB0.out|exact pbN HB0.out _) hb);have hpj:=hj.cell;clear hj hb T1 HB0)
  |((with_reducible refine gtD (N:=23) rfl ?_);refine Kd.R_make (Kd.int .i64) (w0:=W1) W1.heap.size 3 rfl (N:=23) rfl 25 _ _ rfl (up.length:Int) ?hx ?hy Try.underlying25 (.int .i64 0) 8 info3 rfl (by decide) (by omega) 0 (ok:=fun _=>True) (okp:=fun _=>True) rfl (fun _ hk=>hk) trivial (by omega) (by have:=N1.out;omega) (by first|exact pbN (Below.refl _ _) _|exact Below.refl _ _) (by first|exact Nat.le_refl _) ?_;(case hx=>rfl);(case hy=>rfl);intro v1 W2 ho hb hg_ hnew_;rw[Int.toNat_natCast]at ho;have HO:=Az.mk ho;have HB:=Az.mk hb;have hpj2:=(hb.cell (World.block_lt_of_cell? W1 _ hpj)).trans hpj;clear hg_ hnew_ ho hb hpj;have hpj:=hpj2;clear hpj2;obtain⟨AO,cO,eO⟩:=Kd.R_slice HO.out;generalize (List.replicate up.length (0:Int)).length=nO at eO;subst eO))
 go_loopg [29] k (fun kq Al w'=>∃(cnt:List Int) (i_1:Int),Al= .int .i64 i_1∧Az (fY.l0 kq up cnt i_1=some cntF)∧Az (kq≤k)∧Az (Kd.R (Kd.int .i64) 3 w' W1.heap.size (fun _=>True) (.slice AO nO cO) cnt)∧Az (Below W1.heap.size W1 w'))
 case atStart=>exact⟨_,0,rfl,T2,⟨Nat.le_refl _⟩,HO,HB⟩
 clear T2 HO HB hpj
 obtain⟨cnt,i_1,rfl,HA,HK1,HO,HB⟩:=hrel
 cases gk with
 |zero=>exact absurd HA.out (by simp[fY.l0])
 |succ k1=>
  have H:=HA.out
  clear HA
  simp only[fY.l0]at H
  by_cases b1:i_1<(up.length:Int)
  ·rw[ip b1]at H
   replace H:=be.mp H
   obtain⟨tt,Tt,H⟩:=H
   by_cases b2:0≤tt
   rotate_left
   ·rw[ig b2]at H
    exact absurd H (by simp)
   rw[ip b2]at H
   by_cases b3:tt<(cnt.length:Int)
   rotate_left
   ·rw[ig b3]at H
    exact absurd H (by simp)
   rw[ip b3]at H
   have Tt:=Az.mk Tt
   have H':=Az.mk H
   clear H
   have HJ:=Az.mk (Ai.out.below HB.out)
   obtain⟨g,eg⟩:=srt_some HO.out (by omega)
   subst eg
   obtain⟨hx,hf,zn,fin⟩:=srt_at HO.out HB.out b2 b3
   have b1b:=ode b1
   replace b2:=ets b2
   replace zn:=ets zn
   clear b1 b3
   go_wp2_with (first
    |(go_at_call 40;refine(joiner_top.calls k1 ⟨p,0,none⟩ AJ cJ up _ _ _ (by first|exact(HJ.out.drewN _).cell|exact HJ.out.cell) (by first|exact(HJ.out.drewN _).C|exact HJ.out.C) Tt.out).mono ?_;rintro e w' ⟨rfl,⟨nd1,rfl⟩⟩;clear Tt))
   go_roundg k1
   case measure=>have:=HK1.out;omega
   case rel=>exact⟨_,_,rfl,H',⟨by have:=HK1.out;omega⟩,⟨(fin.out _ _ (by first|exact⟨_,rfl⟩|exact Drawn0.refl _)).1⟩,⟨(fin.out _ _ (by first|exact⟨_,rfl⟩|exact Drawn0.refl _)).2⟩⟩
  rw[ig b1]at H
  have b1b:decide (i_1<(up.length:Int))=false:=decide_eq_false b1
  clear b1
  obtain rfl:=Option.some.inj H
  rename World=>W2
  have hn:=Az.mk (Kd.R_reads' HO.out).1
  have Am:=Az.mk (Kd.R_reads' HO.out).2.2
  have HBT:=Az.mk (bwT HB1.out HB.out)
  clear HO HB Ai HB1
  go_wp2_with (first|((with_reducible refine gtD (N:=41) rfl ?_);refine Kd.R_lit (Kd.int .i64) _ 3 ?hg (N:=41) ?hd (xs:=([]:List Int)) (inner:=[]) (ok:=fun _=>True) (okp:=fun _=>True) ?hr ?hp (fun _ hk=>hk) trivial (Below.refl _ _) (Nat.le_refl _) (by simp) ?_;(case hd=>rfl);(case hg=>rfl);(case hr=>first|(go_simp;done)|(go_simp;rfl));(case hp=>exact Reps.none _ _);intro v1 W3 ho hb hg hat;have HO:=Az.mk ho;have HB:=Az.mk hb;clear ho hb hg hat;obtain⟨A3,c3,e3⟩:=Kd.R_slice HO.out;subst e3))
  go_loopg [8,44] k (fun kq v8 Ao w'=>∃(Aa:List Int) (i_2:Int) (A:Option Addr) (c:Nat),v8= .slice A Aa.length c∧Ao= .int .i64 i_2∧Az (fY.l1 kq cnt Aa i_2=some r)∧Az (kq≤k)∧Az (Kd.R (Kd.int .i64) 3 w' W2.heap.size (fun _=>True) (.slice A Aa.length c) Aa)∧Az (Below W2.heap.size W2 w'))
  case atStart=>exact⟨[],0,_,_,rfl,rfl,HM,⟨Nat.le_refl _⟩,HO,HB⟩
  clear HM HO HB
  obtain⟨Aa,i_2,A,c,rfl,rfl,HA,HK2,HO,HB⟩:=hrel
  cases gk with
  |zero=>exact absurd HA.out (by simp[fY.l1])
  |succ k2=>
   have H:=HA.out
   clear HA
   simp only[fY.l1]at H
   by_cases d1:i_2<(cnt.length:Int)
   rotate_left
   ·rw[ig d1]at H
    have d1b:decide (i_2<(nO:Int))=false:=decide_eq_false (by have:=hn.out;omega)
    clear d1
    have H':=Az.mk H
    clear H
    go_wp2_with (first
     |(go_at_call 41;refine(gG.calls k2 _ c Aa r _ (by first|exact Kd.C_drewN (Kd.R_reads' HO.out).2.2 _|exact(Kd.R_reads' HO.out).2.2) (Kd.R_reads' HO.out).2.1 H'.out).mono ?_;rintro e W7 ⟨v7,rfl,ho,hb⟩;have Aj:=Az.mk (Kd.R_lower (base':=w.heap.size) ho (by first|exact(bwT HBT.out HB.out).size|exact(pbN (bwT HBT.out HB.out) _).size));have HB7:=Az.mk (bwT (by first|exact bwT HBT.out HB.out|exact pbN (bwT HBT.out HB.out) _) hb);clear ho hb H' HO HB))
    go_ret
    exact⟨_,rfl,by first|exact Aj.out|exact Kd.R_drewN Aj.out _,by first|exact HB7.out|exact pbN HB7.out _⟩
   rw[ip d1]at H
   by_cases d0:0≤i_2
   rotate_left
   ·rw[ig d0]at H
    exact absurd H (by simp)
   rw[ip d0]at H
   obtain⟨adc,ec,hxc⟩:=Kd.at_int Am.out i_2 d0 d1
   subst ec
   replace hxc:=(HB.out.cell (World.block_lt_of_cell? W2 _ hxc)).trans hxc
   obtain⟨Y,hY⟩:∃j_:Int,rd cnt i_2=j_:=⟨_,rfl⟩
   rw[hY]at hxc H
   have d1b:decide (i_2<(nO:Int))=true:=ode (by have:=hn.out;omega)
   have d1c:(i_2<(nO:Int))=True:=ets (by have:=hn.out;omega)
   replace d0:=ets d0
   clear hY d1
   by_cases f1:Y>0
   rotate_left
   ·rw[ig f1]at H
    have f1b:decide (Y>0)=false:=decide_eq_false f1
    have f1c:decide (0<Y)=false:=decide_eq_false f1
    clear f1
    have H':=Az.mk H
    clear H
    go_wp2
    go_roundg k2
    case measure=>have:=HK2.out;omega
    case rel=>exact⟨Aa,_,_,_,rfl,rfl,H',⟨by have:=HK2.out;omega⟩,⟨by first|exact HO.out|exact Kd.R_drewN HO.out _⟩,⟨by first|exact HB.out|exact pbN HB.out _⟩⟩
   rw[ip f1]at H
   have f1b:decide (Y>0)=true:=ode f1
   have f1c:decide (0<Y)=true:=ode f1
   clear f1
   by_cases f2:Aa.length<17592186044415
   rotate_left
   ·rw[ig f2]at H
    exact absurd H (by simp)
   rw[ip f2]at H
   have LM:=Az.mk f2
   have H':=Az.mk H
   clear H f2
   go_wp2_with (first|((with_reducible refine gate_builtin (b:= .append) (xs:= #[.tmp 50, .tmp 52]) rfl ?_);at_builtin;refine Kd.R_append (Kd.int .i64) (w0:=W2) W2.heap.size rfl (.tmp 50) (.tmp 52) 25 3 (.int .i64 0) 8 rfl Try.underlying25 info3 rfl (by decide) (by omega) (.slice A Aa.length c) Aa Y [.int .i64 Y] (fun _=>True) (fun _=>False) rfl rfl ?aP (fun _ hk=>hk.elim) ?aF ?aO ?aB ?aS ?aL ?_;(case aP=>exact rfl);(case aB=>exact(by repeat(first|(with_reducible first|exact HB.out|apply pbN)|exact HB.out)));(case aF=>exact(fun k_ hk_=>trivial));(case aO=>exact(kR HO.out));(case aS=>exact HB.out.size);(case aL=>have:=LM.out;omega);intro v1 W6 ho hb hg hat;obtain⟨A2,c2,e2⟩:=Kd.R_slice ho;subst e2;have Ak:=Az.mk ho;have HB2:=Az.mk hb;clear ho hb hg hat HO HB))
   go_roundg k2
   case measure=>have:=HK2.out;omega
   case rel=>exact⟨Aa ++ [Y],_,A2,c2,by first|rfl|simp,rfl,H',⟨by have:=HK2.out;omega⟩,⟨by first|exact Ak.out|exact Kd.R_drewN Ak.out _⟩,⟨by first|exact HB2.out|exact pbN HB2.out _⟩⟩
def gY.l0:Nat→List ByteArray→ByteArray→List Int→Int→Option (ByteArray)
 |0,_,_,_,_=>none
 |k+1,x0,x1,x5,x6=>if x6<(x0.length:Int) then(if x6>0 then(if x5.length+x1.size<140737488355328 then((some (x5 ++ bytesOf x1:List Int)).bind fun y356=>(if 0≤x6 then(if y356.length+(rdOf ByteArray.empty x0 x6).size<140737488355328 then(gY.l0 k x0 x1 (y356 ++ bytesOf (rdOf ByteArray.empty x0 x6)) (wrap64 (x6+1))) else(none)) else(none))) else(none)) else(if 0≤x6 then(if x5.length+(rdOf ByteArray.empty x0 x6).size<140737488355328 then(gY.l0 k x0 x1 (x5 ++ bytesOf (rdOf ByteArray.empty x0 x6)) (wrap64 (x6+1))) else(none)) else(none))) else(some (strOfNums x5))
def gY.f (k:Nat) (l0:List ByteArray) (a1:ByteArray):Option (ByteArray):=gY.l0 k l0 a1 (([]:List Int)) 0
theorem gY.calls (k:Nat) (A0:Option Addr) (c0:Nat) (l0:List ByteArray) (a1:ByteArray) (r:ByteArray) (w:World) (Bm:Kd.C Kd.string w A0 l0.length l0) (Bn:l0.length≤c0) (h:gY.f k l0 a1=some r):
  Calls Try.prog 73 #[.slice A0 l0.length c0, .string a1] w fun e w'=>e= .returned (.string r)∧Below w.heap.size w w':=by
 have Bo:=Az.mk Bm
 have Bx:=Az.mk Bn
 clear Bm Bn
 have HB:=Az.mk (Below.refl w.heap.size w)
 have H:(gY.l0 k l0 a1 (([]:List Int)) 0)=some r:=h
 clear h
 obtain⟨Aq,hy⟩:∃y_:List Int,y_=(([]:List Int)):=⟨_,rfl⟩
 replace H:(gY.l0 k l0 a1 Aq 0)=some r:=rh
 have Ag:=Az.mk hy
 clear hy
 have H':=Az.mk H
 clear H
 go_enter Try.func73,Try.ntmps73
 go_wp2_with (first|((with_reducible refine gtD (N:=7) rfl ?_);refine Kd.R_lit (Kd.int .u8) _ 5 ?hg (N:=7) ?hd (xs:=([]:List Int)) (inner:=[]) (ok:=fun _=>True) (okp:=fun _=>True) ?hr ?hp (fun _ hk=>hk) trivial (Below.refl _ _) (Nat.le_refl _) (by simp) ?_;(case hd=>rfl);(case hg=>rfl);(case hr=>first|(go_simp;done)|(go_simp;rfl));(case hp=>exact(Reps.none _ _));intro Bs w3 As hb hg_ hnew_;clear hg_ hnew_;(first|rw[←Ag.out]at As|(simp only[Int.reduceToNat]at As;rw[←Ag.out]at As));have Au:=Az.mk (Kd.R_lower As (bwZ bw_20));replace HB:=Az.mk (bwT bw_20 hb);clear hb As))
 go_loopg [5,6] k (fun kq v5 v6 w'=>∃(Ab:List Int) (Aa:Int),v6= .int .i64 Aa∧Az (gY.l0 kq l0 a1 Ab Aa=some r)∧Az (kq≤k)∧Az (Kd.R (Kd.int .u8) 5 w' w.heap.size (fun _=>True) v5 Ab)∧Az (Below w.heap.size w w'))
 case atStart=>exact⟨(Aq),(0),rq2,H',⟨Nat.le_refl _⟩,⟨kR Au.out⟩,⟨bw_20⟩⟩
 clear H'
 obtain⟨Ab,Aa,rfl,HA,HK1,Af,HB⟩:=hrel
 cases gk with
 |zero=>exact absurd HA.out (by simp[gY.l0])
 |succ k1=>
  have H:=HA.out
  clear HA
  simp only[gY.l0]at H
  by_cases c5:Aa<(l0.length:Int)
  rotate_left
  ·rw[ig c5]at H
   have Bf:=decide_eq_false c5
   clear c5
   obtain rfl:=Option.some.inj H
   have hcv15:=own_string (P:=Try.prog) Try.underlying22 Try.underlying5 Try.underlying9 (Kd.own_of_R Af.out)
   go_wp2
   go_ret
   exact⟨rq1,bw_20⟩
  rw[ip c5]at H
  have Bf:=ode c5
  clear c5
  by_cases c6:Aa>0
  rotate_left
  ·rw[ig c6]at H
   have Bh:decide (0<Aa)=false:=decide_eq_false c6
   clear c6
   by_cases Bc:0≤Aa
   rotate_left
   ·rw[ig Bc]at H
    exact absurd H (by simp)
   rw[ip Bc]at H
   have Bp:=ode Bc
   clear Bc
   by_cases Bd:Ab.length+(rdOf ByteArray.empty l0 Aa).size<140737488355328
   rotate_left
   ·rw[ig Bd]at H
    exact absurd H (by simp)
   rw[ip Bd]at H
   have LMc13:=Az.mk Bd
   clear Bd
   obtain⟨Aj,hy⟩:∃y_:List Int,y_=(Ab ++ bytesOf (rdOf ByteArray.empty l0 Aa)):=⟨_,rfl⟩
   replace H:(gY.l0 k1 l0 a1 Aj (wrap64 (Aa+1)))=some r:=rh
   have Av:=Az.mk hy
   clear hy
   have H':=Az.mk H
   clear H
   have Ak:0≤(Aa:Int):=od
   have Al:Aa<(l0.length:Int):=od
   obtain⟨Bq,Bi,Ac⟩:=Kd.at_string Bo.out Aa Ak Al
   cases Bi
   replace Ac:=kc HB Ac
   replace Ak:=ets Ak
   replace Al:=ets Al
   go_wp2_with (first|(at_builtin;refine print_append_str (w0:=w) w.heap.size rfl (.tmp 19) _ 22 9 5 rfl Try.underlying22 Try.underlying9 info5 u5 Ab (rdOf ByteArray.empty l0 Aa) rfl rfl ?aO ?aB ?aS ?aL ?_;(case aB=>exact bw_20);(case aO=>exact(Kd.own_of_R (kR Af.out)));(case aS=>exact(bwZ bw_20));(case aL=>have:=LMc13.out;omega);intro Bj Bt Ah hb hg;have ho:=Kd.R_of_own (h1:=fun _=>rfl) (ok:=fun _=>True) Ah (fun _ _=>trivial);clear Ah;have hat:=True.intro;rw[←Av.out]at ho;change Kd.R (Kd.int .u8) 5 Bt w.heap.size (fun _=>True) Bj Aj at ho;have n0_:=Az.mk (hb);have n1_:=Az.mk (ho);clear HB;clear Af;have HB:=n0_;have Aw:=n1_;clear n0_ n1_;clear ho hb hg hat))
   go_roundg k1
   case measure=>have:=HK1.out;omega
   case rel=>exact⟨(Aj),(wrap64 (Aa+1)),rq2,H',⟨by have:=HK1.out;omega⟩,⟨kR Aw.out⟩,⟨bw_20⟩⟩
  rw[ip c6]at H
  have Bh:decide (0<Aa)=true:=ode c6
  clear c6
  by_cases c7:Ab.length+a1.size<140737488355328
  rotate_left
  ·rw[ig c7]at H
   exact absurd H (by simp)
  rw[ip c7]at H
  have LMc7:=Az.mk c7
  clear c7
  obtain⟨Ae,hy⟩:∃y_:List Int,y_=(Ab ++ bytesOf a1):=⟨_,rfl⟩
  replace H:(if 0≤Aa then(if Ae.length+(rdOf ByteArray.empty l0 Aa).size<140737488355328 then(gY.l0 k1 l0 a1 (Ae ++ bytesOf (rdOf ByteArray.empty l0 Aa)) (wrap64 (Aa+1))) else(none)) else(none))=some r:=rh
  have Ax:=Az.mk hy
  clear hy
  by_cases c8:0≤Aa
  rotate_left
  ·rw[ig c8]at H
   exact absurd H (by simp)
  rw[ip c8]at H
  have Bu:=ode c8
  clear c8
  by_cases c9:Ae.length+(rdOf ByteArray.empty l0 Aa).size<140737488355328
  rotate_left
  ·rw[ig c9]at H
   exact absurd H (by simp)
  rw[ip c9]at H
  have LMc9:=Az.mk c9
  clear c9
  obtain⟨Am,hy⟩:∃y_:List Int,y_=(Ae ++ bytesOf (rdOf ByteArray.empty l0 Aa)):=⟨_,rfl⟩
  replace H:(gY.l0 k1 l0 a1 Am (wrap64 (Aa+1)))=some r:=rh
  have Ay:=Az.mk hy
  clear hy
  have H':=Az.mk H
  clear H
  go_wp2_with (first|(at_builtin;refine print_append_str (w0:=w) w.heap.size rfl (.tmp 16) _ 22 9 5 rfl Try.underlying22 Try.underlying9 info5 u5 Ab a1 rfl rfl ?aO ?aB ?aS ?aL ?_;(case aB=>exact bw_20);(case aO=>exact(Kd.own_of_R (kR Af.out)));(case aS=>exact(bwZ bw_20));(case aL=>have:=LMc7.out;omega);intro Ba Bv Ah hb hg;have ho:=Kd.R_of_own (h1:=fun _=>rfl) (ok:=fun _=>True) Ah (fun _ _=>trivial);clear Ah;have hat:=True.intro;rw[←Ax.out]at ho;change Kd.R (Kd.int .u8) 5 Bv w.heap.size (fun _=>True) Ba Ae at ho;have n0_:=Az.mk (hb);have n1_:=Az.mk (ho);clear HB;clear Af;have HB:=n0_;have Ai:=n1_;clear n0_ n1_;clear ho hb hg hat;have Ao:0≤(Aa:Int):=od;have Ap:Aa<(l0.length:Int):=od;obtain⟨Br,Bk,Ad⟩:=Kd.at_string Bo.out Aa Ao Ap;cases Bk;replace Ad:=kc HB Ad;replace Ao:=ets Ao;replace Ap:=ets Ap)|(at_builtin;refine print_append_str (w0:=w) w.heap.size rfl (.tmp 19) _ 22 9 5 rfl Try.underlying22 Try.underlying9 info5 Ba Ae (rdOf ByteArray.empty l0 Aa) rfl rfl ?aO ?aB ?aS ?aL ?_;(case aB=>exact bw_20);(case aO=>exact(Kd.own_of_R (kR Ai.out)));(case aS=>exact(bwZ bw_20));(case aL=>have:=LMc9.out;omega);intro Bl Bw Ah hb hg;have ho:=Kd.R_of_own (h1:=fun _=>rfl) (ok:=fun _=>True) Ah (fun _ _=>trivial);clear Ah;have hat:=True.intro;rw[←Ay.out]at ho;change Kd.R (Kd.int .u8) 5 Bw w.heap.size (fun _=>True) Bl Am at ho;have n0_:=Az.mk (hb);have n1_:=Az.mk (ho);clear HB;clear Ai;have HB:=n0_;have Bb:=n1_;clear n0_ n1_;clear ho hb hg hat))
  go_roundg k1
  case measure=>have:=HK1.out;omega
  case rel=>exact⟨(Am),(wrap64 (Aa+1)),rq2,H',⟨by have:=HK1.out;omega⟩,⟨kR Bb.out⟩,⟨bw_20⟩⟩
theorem bw_21 {n:Nat}{v v':World} (h:Below n v v':=by repeat(first|(with_reducible first|exact HB.out|apply bwA|apply pbN|apply bwD)|exact HB.out)):Below n v v':=h
mutual
def gA.l0:Nat→List (List Int)→List ByteArray→Int→Option (ByteArray)
 |0,_,_,_=>none
 |k+1,x0,x3,x4=>if x4<(x0.length:Int) then(gA.l1 k x0 x3 x4 (⟨#[]⟩:ByteArray) 0) else((gY.f k x3 (⟨#[32]⟩:ByteArray)).bind fun t371=>(some t371))
def gA.l1:Nat→List (List Int)→List ByteArray→Int→ByteArray→Int→Option (ByteArray)
 |0,_,_,_,_,_=>none
 |k+1,x0,x3,x4,x5,x6=>if x6<3 then(if 0≤x4 then(if x4<(x0.length:Int) then(if 0≤x6 then(if x6<((rd_L1 x0 x4).length:Int) then(if(rd (rd_L1 x0 x4) x6)>0 then(if 0≤(wrap64 ((rd (rd_L1 x0 x4) x6) - 1)) then(if(wrap64 ((rd (rd_L1 x0 x4) x6) - 1))≤(rd (rd_L1 x0 x4) x6) then(if(rd (rd_L1 x0 x4) x6)≤9 then(if x5.size+((⟨#[97,98,99,100,101,102,103,104,105]⟩:ByteArray).extract ((wrap64 ((rd (rd_L1 x0 x4) x6) - 1)):Int).toNat ((rd (rd_L1 x0 x4) x6):Int).toNat).size≤9223372036854775807 then(gA.l1 k x0 x3 x4 (x5 ++ ((⟨#[97,98,99,100,101,102,103,104,105]⟩:ByteArray).extract ((wrap64 ((rd (rd_L1 x0 x4) x6) - 1)):Int).toNat ((rd (rd_L1 x0 x4) x6):Int).toNat)) (wrap64 (x6+1))) else(none)) else(none)) else(none)) else(none)) else(if 0≤(wrap64 ((wrap64 (-(rd (rd_L1 x0 x4) x6))) - 1)) then(if(wrap64 ((wrap64 (-(rd (rd_L1 x0 x4) x6))) - 1))≤(wrap64 (-(rd (rd_L1 x0 x4) x6))) then(if(wrap64 (-(rd (rd_L1 x0 x4) x6)))≤9 then(if x5.size+((⟨#[65,66,67,68,69,70,71,72,73]⟩:ByteArray).extract ((wrap64 ((wrap64 (-(rd (rd_L1 x0 x4) x6))) - 1)):Int).toNat ((wrap64 (-(rd (rd_L1 x0 x4) x6))):Int).toNat).size≤9223372036854775807 then(gA.l1 k x0 x3 x4 (x5 ++ ((⟨#[65,66,67,68,69,70,71,72,73]⟩:ByteArray).extract ((wrap64 ((wrap64 (-(rd (rd_L1 x0 x4) x6))) - 1)):Int).toNat ((wrap64 (-(rd (rd_L1 x0 x4) x6))):Int).toNat)) (wrap64 (x6+1))) else(none)) else(none)) else(none)) else(none))) else(none)) else(none)) else(none)) else(none)) else(if x3.length<8796093022208 then(gA.l0 k x0 (x3 ++ [x5]) (wrap64 (x4+1))) else(none))
end
def gA.f (k:Nat) (l0:List (List Int)):Option (ByteArray):=(fA.f k l0).bind fun t367=>(if t367=true then(gA.l0 k l0 (([]:List ByteArray)) 0) else(some (⟨#[]⟩:ByteArray)))
theorem gA.calls (k:Nat) (A0:Option Addr) (c0:Nat) (l0:List (List Int)) (r:ByteArray) (w:World) (Cl:Kd.C (Kd.slice 3 (Kd.int .i64)) w A0 l0.length l0) (Cm:l0.length≤c0) (h:gA.f k l0=some r):
  Calls Try.prog 33 #[.slice A0 l0.length c0] w fun e w'=>e= .returned (.string r)∧Below w.heap.size w w':=by
 have Cc:=Az.mk Cl
 have Cn:=Az.mk Cm
 clear Cl Cm
 have HB:=Az.mk (Below.refl w.heap.size w)
 have H:((fA.f k l0).bind fun Ba=>(if Ba=true then(gA.l0 k l0 (([]:List ByteArray)) 0) else(some (⟨#[]⟩:ByteArray))))=some r:=h
 clear h
 replace H:=bez H
 obtain⟨Ba,A2,H⟩:=H
 try dsimp only at H
 by_cases c3:Ba=true
 rotate_left
 ·replace c3:=Bool.eq_false_iff.mpr c3
  subst c3
  rw[ig ff]at H
  obtain rfl:=Option.some.inj H
  go_enter Try.func33,Try.ntmps33
  go_wp2_with (first|((with_reducible refine gtC (f:=31) rfl ?_);refine clz Try.func31 (some 9) #[.slice A0 l0.length c0] ?_;(with_reducible refine(fA.calls k _ _ l0 false _ ?Am ?Ao A2.out).mono ?_);(case Am=>exact kC Cc.out);(case Ao=>exact Cn.out);rintro e Dr ⟨rfl,hb⟩;refine⟨_,rfl,?_⟩;replace HB:=Az.mk (bwT bw_21 hb);(try clear hb)))
  go_ret
  exact⟨rq1,bw_21⟩
 subst c3
 rw[ip rfl]at H
 obtain⟨Bi,hy⟩:∃y_:List ByteArray,y_=(([]:List ByteArray)):=⟨_,rfl⟩
 replace H:(gA.l0 k l0 Bi 0)=some r:=rh
 have Ay:=Az.mk hy
 clear hy
 have H':=Az.mk H
 clear H
 go_enter Try.func33,Try.ntmps33
 go_wp2_with (first|((with_reducible refine gtC (f:=31) rfl ?_);refine clz Try.func31 (some 9) #[.slice A0 l0.length c0] ?_;(with_reducible refine(fA.calls k _ _ l0 true _ ?Am ?Ao A2.out).mono ?_);(case Am=>exact kC Cc.out);(case Ao=>exact Cn.out);rintro e w4 ⟨rfl,hb⟩;refine⟨_,rfl,?_⟩;replace HB:=Az.mk (bwT bw_21 hb);(try clear hb))|((with_reducible refine gtD (N:=11) rfl ?_);refine Kd.R_lit Kd.string _ 9 ?hg (N:=11) ?hd (xs:=([]:List ByteArray)) (inner:=[]) (ok:=fun _=>True) (okp:=fun _=>True) ?hr ?hp (fun _ hk=>hk) trivial (Below.refl _ _) (Nat.le_refl _) (by simp) ?_;(case hd=>rfl);(case hg=>rfl);(case hr=>first|(go_simp;done)|(go_simp;rfl));(case hp=>exact(Reps.none _ _));intro Dn w5 Bj hb hg_ hnew_;clear hg_ hnew_;(first|rw[←Ay.out]at Bj|(simp only[Int.reduceToNat]at Bj;rw[←Ay.out]at Bj));have Bk:=Az.mk (Kd.R_lower Bj (bwZ bw_21));replace HB:=Az.mk (bwT bw_21 hb);clear hb Bj))
 go_loopg [3,4] k (fun kq v3 v4 w'=>∃(Ah:List ByteArray) (Aa:Int),v4= .int .i64 Aa∧Az (gA.l0 kq l0 Ah Aa=some r)∧Az (kq≤k)∧Az (Kd.R Kd.string 9 w' w.heap.size (fun _=>True) v3 Ah)∧Az (Below w.heap.size w w'))
 case atStart=>exact⟨(Bi),(0),rq2,H',⟨Nat.le_refl _⟩,⟨kR Bk.out⟩,⟨bw_21⟩⟩
 clear H'
 try clear c3
 obtain⟨Ah,Aa,rfl,HA,HK1,Ai,HB⟩:=hrel
 cases gk with
 |zero=>exact absurd HA.out (by simp[gA.l0])
 |succ k1=>
  have H:=HA.out
  clear HA
  simp only[gA.l0]at H
  by_cases c7:Aa<(l0.length:Int)
  rotate_left
  ·rw[ig c7]at H
   have Bl:=decide_eq_false c7
   clear c7
   replace H:=bez H
   obtain⟨Bm,Do,H⟩:=H
   replace H:(some Bm)=some r:=H
   obtain rfl:=Option.some.inj H
   obtain⟨Ch,Ci,Cj⟩:=Kd.R_slice Ai.out
   subst Cj
   go_wp2_with (first|((with_reducible refine gtC (f:=73) rfl ?_);refine clz Try.func73 (some 50) #[.slice Ch Ah.length Ci, .string (⟨#[32]⟩:ByteArray)] ?_;(with_reducible refine(gY.calls k1 _ _ Ah (⟨#[32]⟩:ByteArray) Bm _ ?Am ?Ao Do.out).mono ?_);(case Am=>exact kC (Kd.R_reads' Ai.out).2.2);(case Ao=>exact(Kd.R_reads' Ai.out).2.1);rintro e Ds ⟨rfl,hb⟩;refine⟨_,rfl,?_⟩;replace Ai:=Az.mk (Kd.R_below (kR Ai.out) hb);replace HB:=Az.mk (bwT bw_21 hb);(try clear hb)))
   go_ret
   exact⟨rq1,bw_21⟩
  rw[ip c7]at H
  have Bl:=ode c7
  clear c7
  have H':=Az.mk H
  clear H
  go_wp2
  go_loopg [5,6] k1 (fun kq v5 v6 w'=>∃(Ac:ByteArray) (Ab:Int),v5= .string Ac∧v6= .int .i64 Ab∧Az (gA.l1 kq l0 Ah Aa Ac Ab=some r)∧Az (kq≤k1)∧Az (Kd.R Kd.string 9 w' w.heap.size (fun _=>True) u3 Ah)∧Az (Below w.heap.size w w'))
  case atStart=>exact⟨((⟨#[]⟩:ByteArray)),(0),rq2,rq2,H',⟨Nat.le_refl _⟩,⟨kR Ai.out⟩,⟨bw_21⟩⟩
  clear H'
  try clear c3
  try clear c7
  try clear Bl
  obtain⟨Ac,Ab,rfl,rfl,HA,HK2,Ai,HB⟩:=hrel
  cases gk with
  |zero=>exact absurd HA.out (by simp[gA.l1])
  |succ k2=>
   have H:=HA.out
   clear HA
   simp only[gA.l1]at H
   by_cases c8:Ab<3
   rotate_left
   ·rw[ig c8]at H
    have Ck:=decide_eq_false c8
    clear c8
    by_cases Cd:Ah.length<8796093022208
    rotate_left
    ·rw[ig Cd]at H
     exact absurd H (by simp)
    rw[ip Cd]at H
    have LMc24:=Az.mk Cd
    clear Cd
    obtain⟨Bn,hy⟩:∃y_:List ByteArray,y_=(Ah ++ [Ac]):=⟨_,rfl⟩
    replace H:(gA.l0 k2 l0 Bn (wrap64 (Aa+1)))=some r:=rh
    have Bo:=Az.mk hy
    clear hy
    have H':=Az.mk H
    clear H
    go_wp2_with (first|((with_reducible refine gate_builtin (b:= .append) (xs:= #[.tmp 45, .tmp 47]) rfl ?_);at_builtin;refine Kd.R_append Kd.string (w0:=w) w.heap.size rfl (.tmp 45) (.tmp 47) 67 9 (.string ⟨#[]⟩) 16 rfl Try.underlying67 info9 rfl (by decide) (by omega) u3 Ah Ac [.string Ac] (fun _=>True) (fun _=>False) rfl rfl ?aP (fun _ hk=>hk.elim) ?aF ?aO ?aB ?aS ?aL ?_;(case aP=>exact rfl);(case aB=>exact bw_21);(case aF=>exact(fun _ _=>trivial));(case aO=>exact(kR Ai.out));(case aS=>exact(bwZ bw_21));(case aL=>have:=LMc24.out;omega);intro Dp Dt ho hb hg hat;rw[←Bo.out]at ho;have n0_:=Az.mk (hb);have n1_:=Az.mk (ho);clear HB;clear Ai;have HB:=n0_;have Bp:=n1_;clear n0_ n1_;clear ho hb hg hat))
    go_roundg k2
    case measure=>have:=HK1.out;have:=HK2.out;omega
    case rel=>exact⟨(Bn),(wrap64 (Aa+1)),rq2,H',⟨by have:=HK1.out;have:=HK2.out;omega⟩,⟨kR Bp.out⟩,⟨bw_21⟩⟩
   rw[ip c8]at H
   have Ck:=ode c8
   clear c8
   by_cases c9:0≤Aa
   rotate_left
   ·rw[ig c9]at H
    exact absurd H (by simp)
   rw[ip c9]at H
   have Dq:=ode c9
   clear c9
   by_cases Ce:Aa<(l0.length:Int)
   rotate_left
   ·rw[ig Ce]at H
    exact absurd H (by simp)
   rw[ip Ce]at H
   have Co:=ode Ce
   clear Ce
   by_cases Cf:0≤Ab
   rotate_left
   ·rw[ig Cf]at H
    exact absurd H (by simp)
   rw[ip Cf]at H
   have Cp:=ode Cf
   clear Cf
   by_cases Cg:Ab<((rd_L1 l0 Aa).length:Int)
   rotate_left
   ·rw[ig Cg]at H
    exact absurd H (by simp)
   rw[ip Cg]at H
   have Cq:=ode Cg
   clear Cg
   by_cases Bh:(rd (rd_L1 l0 Aa) Ab)>0
   ·rw[ip Bh]at H
    have Bq:decide (0<(rd (rd_L1 l0 Aa) Ab))=true:=ode Bh
    clear Bh
    obtain⟨Aj,Av⟩:∃j_:Int,(wrap64 ((rd (rd_L1 l0 Aa) Ab) - 1))=j_:=⟨_,rfl⟩
    replace H:(if 0≤(Aj) then(if(Aj)≤(rd (rd_L1 l0 Aa) Ab) then(if(rd (rd_L1 l0 Aa) Ab)≤9 then(if Ac.size+((⟨#[97,98,99,100,101,102,103,104,105]⟩:ByteArray).extract ((Aj):Int).toNat ((rd (rd_L1 l0 Aa) Ab):Int).toNat).size≤9223372036854775807 then(gA.l1 k2 l0 Ah Aa (Ac ++ ((⟨#[97,98,99,100,101,102,103,104,105]⟩:ByteArray).extract ((Aj):Int).toNat ((rd (rd_L1 l0 Aa) Ab):Int).toNat)) (wrap64 (Ab+1))) else(none)) else(none)) else(none)) else(none))=some r:=by first|(rw[Av]at H;exact H)|(simp only[Av]at H ⊢;exact H)
    have hji14w:(IntKind.i64.wrap ((rd (rd_L1 l0 Aa) Ab) - 1))=Aj:=(i64_w _).trans Av
    by_cases Br:0≤(Aj)
    rotate_left
    ·rw[ig Br]at H
     exact absurd H (by simp)
    rw[ip Br]at H
    have Cs:=ets Br
    have Ct:=ode Br
    clear Br
    by_cases Bs:(Aj)≤(rd (rd_L1 l0 Aa) Ab)
    rotate_left
    ·rw[ig Bs]at H
     exact absurd H (by simp)
    rw[ip Bs]at H
    have Cu:=ets Bs
    have Cv:=ode Bs
    clear Bs
    by_cases Bt:(rd (rd_L1 l0 Aa) Ab)≤9
    rotate_left
    ·rw[ig Bt]at H
     exact absurd H (by simp)
    rw[ip Bt]at H
    have Cw:=ets Bt
    have Da:=ode Bt
    clear Bt
    by_cases Bu:Ac.size+((⟨#[97,98,99,100,101,102,103,104,105]⟩:ByteArray).extract ((Aj):Int).toNat ((rd (rd_L1 l0 Aa) Ab):Int).toNat).size≤9223372036854775807
    rotate_left
    ·rw[ig Bu]at H
     exact absurd H (by simp)
    rw[ip Bu]at H
    have Db:=ets Bu
    have Dc:=ode Bu
    try have Dd:(9223372036854775807<Ac.size+((⟨#[97,98,99,100,101,102,103,104,105]⟩:ByteArray).extract ((Aj):Int).toNat ((rd (rd_L1 l0 Aa) Ab):Int).toNat).size)=False:=eq_false (Nat.not_lt.2 Bu)
    have H':=Az.mk H
    clear H
    have Ap:0≤(Aa:Int):=od
    have Aq:Aa<(l0.length:Int):=od
    obtain⟨Bv,Bb,Bc,Bd,Ad,Ae,Af⟩:=at_L1 Cc.out Aa Ap Aq
    cases Bd
    replace Ad:=kc HB Ad
    have Al:=Az.mk Af
    have Ax:=Az.mk Ae
    clear Af Ae
    replace Ap:=ets Ap
    replace Aq:=ets Aq
    have As:0≤(Ab:Int):=od
    have Au:Ab<((rd_L1 l0 Aa).length:Int):=od
    obtain⟨Bw,Bf,Ag⟩:=Kd.at_int Al.out Ab As Au
    cases Bf
    replace Ag:=kc HB Ag
    replace As:=ets As
    replace Au:=ets Au
    go_wp2
    go_roundg k2
    case measure=>have:=HK1.out;have:=HK2.out;omega
    case rel=>exact⟨(Ac ++ ((⟨#[97,98,99,100,101,102,103,104,105]⟩:ByteArray).extract ((Aj):Int).toNat ((rd (rd_L1 l0 Aa) Ab):Int).toNat)),(wrap64 (Ab+1)),(by first|rfl|(simp;done)|(simp only[←Av] <;> (first|rfl|simp))|(simp[*];done)),rq2,H',⟨by have:=HK1.out;have:=HK2.out;omega⟩,⟨kR Ai.out⟩,⟨bw_21⟩⟩
   rw[ig Bh]at H
   have Bq:decide (0<(rd (rd_L1 l0 Aa) Ab))=false:=decide_eq_false Bh
   clear Bh
   obtain⟨Ak,Aw⟩:∃j_:Int,(wrap64 ((wrap64 (-(rd (rd_L1 l0 Aa) Ab))) - 1))=j_:=⟨_,rfl⟩
   replace H:(if 0≤(Ak) then(if(Ak)≤(wrap64 (-(rd (rd_L1 l0 Aa) Ab))) then(if(wrap64 (-(rd (rd_L1 l0 Aa) Ab)))≤9 then(if Ac.size+((⟨#[65,66,67,68,69,70,71,72,73]⟩:ByteArray).extract ((Ak):Int).toNat ((wrap64 (-(rd (rd_L1 l0 Aa) Ab))):Int).toNat).size≤9223372036854775807 then(gA.l1 k2 l0 Ah Aa (Ac ++ ((⟨#[65,66,67,68,69,70,71,72,73]⟩:ByteArray).extract ((Ak):Int).toNat ((wrap64 (-(rd (rd_L1 l0 Aa) Ab))):Int).toNat)) (wrap64 (Ab+1))) else(none)) else(none)) else(none)) else(none))=some r:=by first|(rw[Aw]at H;exact H)|(simp only[Aw]at H ⊢;exact H)
   have hji19w:(IntKind.i64.wrap ((wrap64 (-(rd (rd_L1 l0 Aa) Ab))) - 1))=Ak:=(i64_w _).trans Aw
   by_cases Bx:0≤(Ak)
   rotate_left
   ·rw[ig Bx]at H
    exact absurd H (by simp)
   rw[ip Bx]at H
   have De:=ets Bx
   have Df:=ode Bx
   clear Bx
   by_cases By:(Ak)≤(wrap64 (-(rd (rd_L1 l0 Aa) Ab)))
   rotate_left
   ·rw[ig By]at H
    exact absurd H (by simp)
   rw[ip By]at H
   have Dg:=ets By
   have Dh:=ode By
   clear By
   by_cases Bz:(wrap64 (-(rd (rd_L1 l0 Aa) Ab)))≤9
   rotate_left
   ·rw[ig Bz]at H
    exact absurd H (by simp)
   rw[ip Bz]at H
   have Di:=ets Bz
   have Dj:=ode Bz
   clear Bz
   by_cases Ca:Ac.size+((⟨#[65,66,67,68,69,70,71,72,73]⟩:ByteArray).extract ((Ak):Int).toNat ((wrap64 (-(rd (rd_L1 l0 Aa) Ab))):Int).toNat).size≤9223372036854775807
   rotate_left
   ·rw[ig Ca]at H
    exact absurd H (by simp)
   rw[ip Ca]at H
   have Dk:=ets Ca
   have Dl:=ode Ca
   try have Dm:(9223372036854775807<Ac.size+((⟨#[65,66,67,68,69,70,71,72,73]⟩:ByteArray).extract ((Ak):Int).toNat ((wrap64 (-(rd (rd_L1 l0 Aa) Ab))):Int).toNat).size)=False:=eq_false (Nat.not_lt.2 Ca)
   have H':=Az.mk H
   clear H
   have Ap:0≤(Aa:Int):=od
   have Aq:Aa<(l0.length:Int):=od
   obtain⟨Bv,Bb,Bc,Bd,Ad,Ae,Af⟩:=at_L1 Cc.out Aa Ap Aq
   cases Bd
   replace Ad:=kc HB Ad
   have Al:=Az.mk Af
   have Ax:=Az.mk Ae
   clear Af Ae
   replace Ap:=ets Ap
   replace Aq:=ets Aq
   have As:0≤(Ab:Int):=od
   have Au:Ab<((rd_L1 l0 Aa).length:Int):=od
   obtain⟨Bw,Bf,Ag⟩:=Kd.at_int Al.out Ab As Au
   cases Bf
   replace Ag:=kc HB Ag
   replace As:=ets As
   replace Au:=ets Au
   go_wp2
   go_roundg k2
   case measure=>have:=HK1.out;have:=HK2.out;omega
   case rel=>exact⟨(Ac ++ ((⟨#[65,66,67,68,69,70,71,72,73]⟩:ByteArray).extract ((Ak):Int).toNat ((wrap64 (-(rd (rd_L1 l0 Aa) Ab))):Int).toNat)),(wrap64 (Ab+1)),(by first|rfl|(simp;done)|(simp only[←Aw] <;> (first|rfl|simp))|(simp[*];done)),rq2,H',⟨by have:=HK1.out;have:=HK2.out;omega⟩,⟨kR Ai.out⟩,⟨bw_21⟩⟩
section
open Bool renaming true → T, false → F
theorem bw_22 {n:Nat}{v v':World} (h:Below n v v':=by repeat(first|(with_reducible first|exact HB.out|apply bwA|apply pbN|apply bwD)|exact HB.out)):Below n v v':=h
theorem ln_22 {P:Prop} (h:P:=by(try simp only[List.map_toArray,List.map_cons,List.map_nil]);first|done|rfl|(simp only[List.length_drop,List.length_take];rfl)):P:=h
def gU.f (s0_0:List Int) (s0_1:Int) (s0_2:Int) (a1:ByteArray) (l2:List ByteArray):Option (ByteArray × Int × Int):=(fK.f s0_0 s0_1 s0_2 (wrap64 ((a1.size:Int)+1))).bind fun bt377=>((fK.f s0_0 bt377.2.1 bt377.2.2 6).bind fun bt380=>(if bt380.1=0 then(if 0≤bt377.1 then(if bt377.1≤(a1.size:Int) then((jI.f s0_0 bt380.2.1 bt380.2.2 l2).bind fun bt383=>(if(a1.extract 0 (bt377.1:Int).toNat).size+bt383.1.size≤9223372036854775807 then(if((a1.extract 0 (bt377.1:Int).toNat) ++ bt383.1).size+(a1.extract (bt377.1:Int).toNat a1.size).size≤9223372036854775807 then(some (((a1.extract 0 (bt377.1:Int).toNat) ++ bt383.1) ++ (a1.extract (bt377.1:Int).toNat a1.size),bt383.2.1,bt383.2.2)) else(none)) else(none))) else(none)) else(none)) else(if bt380.1=1 then(if 0≤bt377.1 then(if bt377.1≤(a1.size:Int) then(some (a1.extract 0 (bt377.1:Int).toNat,bt380.2.1,bt380.2.2)) else(none)) else(none)) else(some (a1,bt380.2.1,bt380.2.2)))))
def gU.T4:Bool × List (List Nat × List Nat):=(true,[([],[]),([],[]),([0,1],[0,1]),([],[]),([],[]),([3,4],[3,4]),([2,5],[2,5]),([],[]),([],[]),([7,8],[7,8]),([6,9],[6,9]),([10,5,0,1,2,3,4,5,6,7,8,9,10],[10])])
def gU.B4:List Nat:=[0,0,3,0,0,24,63,0,0,384,1023,2047]
theorem gU.tab4:rtab .any (opsOf Try.f42 4)=gU.T4:=by kernel_rfl
theorem gU.bits4:waitsOk gU.T4.2 gU.B4=true:=by kernel_rfl
theorem gU.calls (g:Nat) (Ae:List Int) (Ai:Int) (Aj:Int) (a1:ByteArray) (A2:Option Addr) (c2:Nat) (l2:List ByteArray) (r1:ByteArray) (r2:Int) (r3:Int) (w0 w:World) (hI:IsS96 w0 w g Ae Ai Aj) (hB:Below w0.heap.size w0 w) (Bk:Kd.C Kd.string w A2 l2.length l2) (Bl:l2.length≤c2) (Bm:∀ad,A2=some ad→0<l2.length→ad.block≠g) (h:gU.f Ae Ai Aj a1 l2=some (r1,r2,r3)):
  Calls Try.prog 42 #[.pointer (some ⟨g,0,none⟩), .string a1, .slice A2 l2.length c2] w fun e w'=>e= .returned (.string r1)∧IsS96 w0 w' g Ae r2 r3∧Below w0.heap.size w0 w'∧KeepBut w w' g none:=by
 have Cc:=Az.mk Bk
 have Cd:=Az.mk Bl
 clear Bk Bl
 have HI0:=Az.mk hI
 have HK:=Az.mk (KeepBut.refl w g none)
 have HL:=Az.mk hB.size
 clear hI
 have HW0:=Az.mk hB.size
 have HB:=Az.mk hB
 clear hB
 have H:((fK.f Ae Ai Aj (wrap64 ((a1.size:Int)+1))).bind fun Ac=>((fK.f Ae Ac.2.1 Ac.2.2 6).bind fun Af=>(if Af.1=0 then(if 0≤Ac.1 then(if Ac.1≤(a1.size:Int) then((jI.f Ae Af.2.1 Af.2.2 l2).bind fun Ag=>(if(a1.extract 0 (Ac.1:Int).toNat).size+Ag.1.size≤9223372036854775807 then(if((a1.extract 0 (Ac.1:Int).toNat) ++ Ag.1).size+(a1.extract (Ac.1:Int).toNat a1.size).size≤9223372036854775807 then(some (((a1.extract 0 (Ac.1:Int).toNat) ++ Ag.1) ++ (a1.extract (Ac.1:Int).toNat a1.size),Ag.2.1,Ag.2.2)) else(none)) else(none))) else(none)) else(none)) else(if Af.1=1 then(if 0≤Ac.1 then(if Ac.1≤(a1.size:Int) then(some (a1.extract 0 (Ac.1:Int).toNat,Af.2.1,Af.2.2)) else(none)) else(none)) else(some (a1,Af.2.1,Af.2.2))))))=some (r1,r2,r3):=h
 clear h
 replace H:=bez H
 obtain⟨⟨Ad,Ak,Al⟩,A4,H⟩:=H
 try dsimp only at H
 replace H:=bez H
 obtain⟨⟨Am,Ao,Ap⟩,A5,H⟩:=H
 try dsimp only at H
 by_cases c6:Am=0
 rotate_left
 ·rw[ig c6]at H
  have Bf:=beq_eq_false_iff_ne.mpr c6
  have Bh:=bne_iff_ne.mpr c6
  by_cases Aq:Am=1
  rotate_left
  ·rw[ig Aq]at H
   have Av:=beq_eq_false_iff_ne.mpr Aq
   have Aw:=bne_iff_ne.mpr Aq
   simp only[Option.some.injEq,Prod.mk.injEq]at H
   obtain⟨rfl,rfl,rfl⟩:=H
   go_enter Try.func42,Try.ntmps42
   go_wp2_with (first|((with_reducible refine gtC (f:=75) rfl ?_);refine clz Try.func75 (some 12) #[.pointer (some ⟨g,0,none⟩), .int .i64 (wrap64 ((a1.size:Int)+1))] ?_;(with_reducible refine(fK.calls g Ae Ai Aj (wrap64 ((a1.size:Int)+1)) Ad Ak Al w0 _ ?Aa ?Ab A4.out).mono ?_);(case Aa=>exact(kI HI0.out));(case Ab=>exact kG HB.out (IsS96.ge HI0.out));rintro e Ci ⟨rfl,hi,hb,hk⟩;refine⟨_,rfl,?_⟩;replace HK:=Az.mk (KeepBut.trans (kK HK.out) hk (.inl rfl));replace HB:=Az.mk (hb);replace HI0:=Az.mk (hi);(try clear hb);(try clear hk);(try clear hi))|((with_reducible refine gtC (f:=75) rfl ?_);refine clz Try.func75 (some 14) #[.pointer (some ⟨g,0,none⟩), .int .i64 6] ?_;(with_reducible refine(fK.calls g Ae Ak Al 6 Am Ao Ap w0 _ ?Aa ?Ab A5.out).mono ?_);(case Aa=>exact(kI HI0.out));(case Ab=>exact kG HB.out (IsS96.ge HI0.out));rintro e Cj ⟨rfl,hi,hb,hk⟩;refine⟨_,rfl,?_⟩;replace HK:=Az.mk (KeepBut.trans (kK HK.out) hk (.inl rfl));replace HB:=Az.mk (hb);replace HI0:=Az.mk (hi);(try clear hb);(try clear hk);(try clear hi)))
   go_ret
   exact⟨rq1,kI HI0.out,kG HB.out (IsS96.ge HI0.out),kK HK.out⟩
  rw[ip Aq]at H
  have Av:=beq_iff_eq.mpr Aq
  have Aw:=bne_eq_false_iff_eq.mpr Aq
  clear Aq
  by_cases Ax:0≤Ad
  rotate_left
  ·rw[ig Ax]at H
   exact absurd H (by simp)
  rw[ip Ax]at H
  have Bn:=ets Ax
  have Bo:=ode Ax
  clear Ax
  by_cases Ay:Ad≤(a1.size:Int)
  rotate_left
  ·rw[ig Ay]at H
   exact absurd H (by simp)
  rw[ip Ay]at H
  have Bp:=ets Ay
  have Bq:=ode Ay
  clear Ay
  simp only[Option.some.injEq,Prod.mk.injEq]at H
  obtain⟨rfl,rfl,rfl⟩:=H
  go_enter Try.func42,Try.ntmps42
  go_wp2_with (first|((with_reducible refine gtC (f:=75) rfl ?_);refine clz Try.func75 (some 12) #[.pointer (some ⟨g,0,none⟩), .int .i64 (wrap64 ((a1.size:Int)+1))] ?_;(with_reducible refine(fK.calls g Ae Ai Aj (wrap64 ((a1.size:Int)+1)) Ad Ak Al w0 _ ?Aa ?Ab A4.out).mono ?_);(case Aa=>exact(kI HI0.out));(case Ab=>exact kG HB.out (IsS96.ge HI0.out));rintro e Ck ⟨rfl,hi,hb,hk⟩;refine⟨_,rfl,?_⟩;replace HK:=Az.mk (KeepBut.trans (kK HK.out) hk (.inl rfl));replace HB:=Az.mk (hb);replace HI0:=Az.mk (hi);(try clear hb);(try clear hk);(try clear hi))|((with_reducible refine gtC (f:=75) rfl ?_);refine clz Try.func75 (some 14) #[.pointer (some ⟨g,0,none⟩), .int .i64 6] ?_;(with_reducible refine(fK.calls g Ae Ak Al 6 Am Ao Ap w0 _ ?Aa ?Ab A5.out).mono ?_);(case Aa=>exact(kI HI0.out));(case Ab=>exact kG HB.out (IsS96.ge HI0.out));rintro e Cl ⟨rfl,hi,hb,hk⟩;refine⟨_,rfl,?_⟩;replace HK:=Az.mk (KeepBut.trans (kK HK.out) hk (.inl rfl));replace HB:=Az.mk (hb);replace HI0:=Az.mk (hi);(try clear hb);(try clear hk);(try clear hi)))
  go_ret
  exact⟨rq1,kI HI0.out,kG HB.out (IsS96.ge HI0.out),kK HK.out⟩
 rw[ip c6]at H
 have Bf:=beq_iff_eq.mpr c6
 have Bh:=bne_eq_false_iff_eq.mpr c6
 clear c6
 by_cases c7:0≤Ad
 rotate_left
 ·rw[ig c7]at H
  exact absurd H (by simp)
 rw[ip c7]at H
 have Ce:=ets c7
 have Cf:=ode c7
 clear c7
 by_cases c8:Ad≤(a1.size:Int)
 rotate_left
 ·rw[ig c8]at H
  exact absurd H (by simp)
 rw[ip c8]at H
 have Ba:=ets c8
 have Cg:=ode c8
 clear c8
 replace H:=bez H
 obtain⟨⟨Ah,Bi,Bj⟩,A9,H⟩:=H
 try dsimp only at H
 by_cases As:(a1.extract 0 (Ad:Int).toNat).size+Ah.size≤9223372036854775807
 rotate_left
 ·rw[ig As]at H
  exact absurd H (by simp)
 rw[ip As]at H
 have Br:=ets As
 have Bs:=ode As
 try have Bt:(9223372036854775807<(a1.extract 0 (Ad:Int).toNat).size+Ah.size)=False:=eq_false (Nat.not_lt.2 As)
 have Bu:(9223372036854775807<Ad.toNat+Ah.size)=False:=eq_false (by have h_:=As;have g_:=of_eq_true Ba;rw[ByteArray.size_extract]at h_;omega)
 have Bv:=ets (od:0≤Ad)
 have Bw:=ets (od:Ad≤(a1.size:Int))
 by_cases Au:((a1.extract 0 (Ad:Int).toNat) ++ Ah).size+(a1.extract (Ad:Int).toNat a1.size).size≤9223372036854775807
 rotate_left
 ·rw[ig Au]at H
  exact absurd H (by simp)
 rw[ip Au]at H
 have Bx:=ets Au
 have By:=ode Au
 try have Bz:(9223372036854775807<((a1.extract 0 (Ad:Int).toNat) ++ Ah).size+(a1.extract (Ad:Int).toNat a1.size).size)=False:=eq_false (Nat.not_lt.2 Au)
 have Ca:(9223372036854775807<Ad.toNat+Ah.size+(a1.size - Ad.toNat))=False:=eq_false (by have h_:=Au;have g_:=of_eq_true Ba;rw[ByteArray.size_append,ByteArray.size_extract,ByteArray.size_extract]at h_;omega)
 simp only[Option.some.injEq,Prod.mk.injEq]at H
 obtain⟨rfl,rfl,rfl⟩:=H
 go_enter Try.func42,Try.ntmps42
 try go_wp2_with (first|((with_reducible refine gtC (f:=75) rfl ?_);refine clz Try.func75 (some 12) #[.pointer (some ⟨g,0,none⟩), .int .i64 (wrap64 ((a1.size:Int)+1))] ?_;(with_reducible refine(fK.calls g Ae Ai Aj (wrap64 ((a1.size:Int)+1)) Ad Ak Al w0 _ ?Aa ?Ab A4.out).mono ?_);(case Aa=>exact(kI HI0.out));(case Ab=>exact kG HB.out (IsS96.ge HI0.out));rintro e Cm ⟨rfl,hi,hb,hk⟩;refine⟨_,rfl,?_⟩;replace HK:=Az.mk (KeepBut.trans (kK HK.out) hk (.inl rfl));replace HB:=Az.mk (hb);replace HI0:=Az.mk (hi);(try clear hb);(try clear hk);(try clear hi))|((with_reducible refine gtC (f:=75) rfl ?_);refine clz Try.func75 (some 14) #[.pointer (some ⟨g,0,none⟩), .int .i64 6] ?_;(with_reducible refine(fK.calls g Ae Ak Al 6 Am Ao Ap w0 _ ?Aa ?Ab A5.out).mono ?_);(case Aa=>exact(kI HI0.out));(case Ab=>exact kG HB.out (IsS96.ge HI0.out));rintro e Ch ⟨rfl,hi,hb,hk⟩;refine⟨_,rfl,?_⟩;replace HK:=Az.mk (KeepBut.trans (kK HK.out) hk (.inl rfl));replace HB:=Az.mk (hb);replace HI0:=Az.mk (hi);(try clear hb);(try clear hk);(try clear hi)))
 replace HI0:=Az.mk (IsS96.drew HI0.out);replace HK:=Az.mk (keep_drew HK.out);replace HB:=Az.mk (bwD HB.out)
 refine start_ (n:=12) (S:=fun w'=>True) (ds:=[]) #[F,F,F,F,F,F,F,F,F,F,F,F] (by kernel_rfl) rfl rfl trivial (fun hHeld=>?_);refine with_tabW gU.tab4 gU.bits4 (fun HT_ HW_=>?_)
 generalize Ch.drew=Cn at HI0 HK HB hHeld ⊢
 refine pu (i:=0) (N:=some 17) #[T,F,F,F,F,F,F,F,F,F,F,F] (any_of HT_.out (by kernel_rfl)) ?_
 refine pu (i:=1) (N:=some 18) #[T,T,F,F,F,F,F,F,F,F,F,F] (any_of HT_.out (by kernel_rfl)) ?_
 refine pu (i:=2) (N:=some 19) #[T,T,T,F,F,F,F,F,F,F,F,F] (any_of HT_.out (by kernel_rfl)) ?_
 refine pu (i:=3) (N:=some 20) #[T,T,T,T,F,F,F,F,F,F,F,F] (any_of HT_.out (by kernel_rfl)) ?_
 refine pu (i:=4) (N:=some 21) #[T,T,T,T,T,F,F,F,F,F,F,F] (any_of HT_.out (by kernel_rfl)) ?_
 refine pu (i:=7) (N:=some 24) #[T,T,T,T,T,F,F,T,F,F,F,F] (any_of HT_.out (by kernel_rfl)) ?_
 refine pu (i:=8) (N:=some 25) #[T,T,T,T,T,F,F,T,T,F,F,F] (any_of HT_.out (by kernel_rfl)) ?_
 refine pu (i:=9) (N:=some 26) #[T,T,T,T,T,F,F,T,T,T,F,F] (any_of HT_.out (by kernel_rfl)) ?_
 refine one_ (i:=5) (N:=some 22) #[T,T,T,T,T,T,F,T,T,T,F,F] rfl rfl (one_of HT_.out (by kernel_rfl)) (by decide) (fun K hK=>?_)
 refine goes_ Try.func78 (by kernel_rfl) rfl #[.pointer (some ⟨g,0,none⟩), .slice A2 l2.length c2] (by rfl) rfl rfl ln_22 ?_
 with_reducible refine(jI.calls g Ae Ao Ap _ _ l2 Ah Bi Bj w0 _ ?Aa ?Ab ?Bb ?Bc ?Bd A9.out).mono ?_
 (case Aa=>exact(kI HI0.out))
 (case Ab=>exact kG HB.out (IsS96.ge HI0.out))
 (case Bb=>exact Kd.C_keep (⟨#[]⟩:ByteArray) Cc.out (kK HK.out) Bm)
 (case Bc=>exact Cd.out)
 (case Bd=>exact Bm)
 rintro e Co ⟨rfl,hi,hb,hk⟩
 refine⟨_,rfl,?_⟩
 replace HK:=Az.mk (KeepBut.trans (kK HK.out) hk (.inl rfl));replace HB:=Az.mk (hb);replace HI0:=Az.mk (hi)
 (try clear hb)
 (try clear hb2)
 (try clear hk)
 (try clear hi)
 refine hK.out _ _ trivial (fun hHeld=>?_)
 clear hK K
 refine norm_ (a':=?_) ?_ ?_
 rotate_left
 ·show Act.put _ (some 22) _=_
  exact acq
 refine pu (i:=6) (N:=some 23) #[T,T,T,T,T,T,T,T,T,T,F,F] (any_of HT_.out (by kernel_rfl)) ?_
 refine pu (i:=10) (N:=some 27) #[T,T,T,T,T,T,T,T,T,T,T,F] (any_of HT_.out (by kernel_rfl)) ?_
 refine pu (i:=11) (N:=some 6) #[T,T,T,T,T,T,T,T,T,T,T,T] (any_of HT_.out (by kernel_rfl)) ?_
 refine done_ (done_of HT_.out (by kernel_rfl)) ?_
 try go_wp2
 go_ret
 exact⟨rq1,kI HI0.out,kG HB.out (IsS96.ge HI0.out),kK HK.out⟩
def jJ.f (k:Nat) (l0:List Int):Option (ByteArray):=(gQ.f k l0).bind fun bt386=>((jP.f k bt386.1 bt386.2.1 bt386.2.2).bind fun bt390=>((gA.f k bt390.1).bind fun t395=>((gU.f bt386.1 bt390.2.1 bt390.2.2 t395 (([(⟨#[32]⟩:ByteArray),(⟨#[97]⟩:ByteArray),(⟨#[67]⟩:ByteArray),(⟨#[106]⟩:ByteArray),(⟨#[98]⟩:ByteArray)]:List ByteArray))).bind fun bt399=>(some bt399.1))))
theorem jJ.calls (k:Nat) (A0:Option Addr) (c0:Nat) (l0:List Int) (r:ByteArray) (w:World) (Bh:Kd.C (Kd.int .u8) w A0 l0.length l0) (Bi:l0.length≤c0) (h:jJ.f k l0=some r):
  Calls Try.prog 7 #[.slice A0 l0.length c0] w fun e w'=>e= .returned (.string r)∧Below w.heap.size w w':=by
 have Bk:=Az.mk Bh
 have Bl:=Az.mk Bi
 clear Bh Bi
 have HB:=Az.mk (Below.refl w.heap.size w)
 have H:((gQ.f k l0).bind fun Ae=>((jP.f k Ae.1 Ae.2.1 Ae.2.2).bind fun Ai=>((gA.f k Ai.1).bind fun Af=>((gU.f Ae.1 Ai.2.1 Ai.2.2 Af (([(⟨#[32]⟩:ByteArray),(⟨#[97]⟩:ByteArray),(⟨#[67]⟩:ByteArray),(⟨#[106]⟩:ByteArray),(⟨#[98]⟩:ByteArray)]:List ByteArray))).bind fun Aj=>(some Aj.1)))))=some r:=h
 clear h
 replace H:=bez H
 obtain⟨⟨Ag,Au,Av⟩,A2,H⟩:=H
 try dsimp only at H
 replace H:=bez H
 obtain⟨⟨Aq,Ak,Al⟩,A3,H⟩:=H
 try dsimp only at H
 replace H:=bez H
 obtain⟨Af,A4,H⟩:=H
 try dsimp only at H
 obtain⟨As,hy⟩:∃y_:List ByteArray,y_=(([(⟨#[32]⟩:ByteArray),(⟨#[97]⟩:ByteArray),(⟨#[67]⟩:ByteArray),(⟨#[106]⟩:ByteArray),(⟨#[98]⟩:ByteArray)]:List ByteArray)):=⟨_,rfl⟩
 replace H:((gU.f Ag Ak Al Af As).bind fun Aj=>(some Aj.1))=some r:=rh
 have Ap:=Az.mk hy
 clear hy
 replace H:=bez H
 obtain⟨⟨Aw,Ba,Bb⟩,A5,H⟩:=H
 replace H:(some Aw)=some r:=H
 obtain rfl:=Option.some.inj H
 go_enter Try.func7,Try.ntmps7
 go_wp2_with (first|((with_reducible refine gtC (f:=38) rfl ?_);refine clz Try.func38 (some 5) #[.slice A0 l0.length c0] ?_;(with_reducible refine(gQ.calls k _ _ l0 Ag Au Av w _ ?Ab ?Ac ?Am A2.out).mono ?_);(case Ab=>exact bw_22);(case Ac=>exact Bk.out);(case Am=>exact Bl.out);rintro e w6 ⟨Ah,rfl,hi,hb,hb2⟩;refine⟨_,rfl,?_⟩;replace HB:=Az.mk (hb);have HI389:=Az.mk (hi);(try clear hb);(try clear hb2);(try clear hi))|((with_reducible refine gtC (f:=43) rfl ?_);refine clz Try.func43 (some 8) #[.pointer (some ⟨Ah,0,none⟩)] ?_;(with_reducible refine(jP.calls k Ah Ag Au Av Aq Ak Al w _ ?Ab ?Ac A3.out).mono ?_);(case Ab=>exact(kI HI389.out));(case Ac=>exact kG HB.out (IsS96.ge HI389.out));rintro e w7 ⟨Bm,rfl,Bj,hi,hb,hk⟩;refine⟨_,rfl,?_⟩;have Aa:=Az.mk (Kd.S_lower Bj (bwZ (kG HB.out (IsS96.ge HI389.out))));replace HB:=Az.mk (hb);replace HI389:=Az.mk (hi);(try clear hb);(try clear hk);(try clear hi);(try clear Bj);obtain⟨Bn,Bo,Bp⟩:=Kd.S_slice Aa.out;subst Bp)|((with_reducible refine gtC (f:=33) rfl ?_);refine clz Try.func33 (some 9) #[.slice Bn Aq.length Bo] ?_;(with_reducible refine(gA.calls k _ _ Aq Af _ ?Ab ?Ac A4.out).mono ?_);(case Ab=>exact kC (Kd.S_reads' Aa.out).2.2);(case Ac=>exact(Kd.S_reads' Aa.out).2.1);rintro e w9 ⟨rfl,hb⟩;refine⟨_,rfl,?_⟩;replace Aa:=Az.mk (Kd.S_below (kS Aa.out) hb);replace HB:=Az.mk (bwT (kG HB.out (IsS96.ge HI389.out)) hb);replace HI389:=Az.mk (IsS96.below (kI HI389.out) hb);(try clear hb))|((with_reducible refine gtD (N:=10) rfl ?_);refine Kd.R_lit Kd.string _ 9 ?hg (N:=10) ?hd (xs:=([(⟨#[32]⟩:ByteArray),(⟨#[97]⟩:ByteArray),(⟨#[67]⟩:ByteArray),(⟨#[106]⟩:ByteArray),(⟨#[98]⟩:ByteArray)]:List ByteArray)) (inner:=[.string (⟨#[32]⟩:ByteArray), .string (⟨#[97]⟩:ByteArray), .string (⟨#[67]⟩:ByteArray), .string (⟨#[106]⟩:ByteArray), .string (⟨#[98]⟩:ByteArray)]) (ok:=fun _=>True) (okp:=fun _=>True) ?hr ?hp (fun _ hk=>hk) trivial (Below.refl _ _) (Nat.le_refl _) (by simp) ?_;(case hd=>rfl);(case hg=>rfl);(case hr=>first|(go_simp;done)|(go_simp;rfl));(case hp=>exact(Reps.one (show Kd.M Kd.string _ _ _ (⟨#[32]⟩:ByteArray) [.string (⟨#[32]⟩:ByteArray)]from rfl) (Reps.one (show Kd.M Kd.string _ _ _ (⟨#[97]⟩:ByteArray) [.string (⟨#[97]⟩:ByteArray)]from rfl) (Reps.one (show Kd.M Kd.string _ _ _ (⟨#[67]⟩:ByteArray) [.string (⟨#[67]⟩:ByteArray)]from rfl) (Reps.one (show Kd.M Kd.string _ _ _ (⟨#[106]⟩:ByteArray) [.string (⟨#[106]⟩:ByteArray)]from rfl) (Reps.one (show Kd.M Kd.string _ _ _ (⟨#[98]⟩:ByteArray) [.string (⟨#[98]⟩:ByteArray)]from rfl) (Reps.none _ _)))))));intro Bq Br Ao hb hg_ hnew_;clear hg_ hnew_;(first|rw[←Ap.out]at Ao|(simp only[Int.reduceToNat]at Ao;rw[←Ap.out]at Ao));replace Aa:=Az.mk (Kd.S_below (kS Aa.out) hb);have Ad:=Az.mk (Kd.R_lower Ao (bwZ (kG HB.out (IsS96.ge HI389.out))));replace HB:=Az.mk (bwT (kG HB.out (IsS96.ge HI389.out)) hb);replace HI389:=Az.mk (IsS96.below (kI HI389.out) hb);clear hb Ao;obtain⟨Bc,Bd,Bf⟩:=Kd.R_slice Ad.out;subst Bf)|((with_reducible refine gtC (f:=42) rfl ?_);refine clz Try.func42 (some 11) #[.pointer (some ⟨Ah,0,none⟩), .string Af, .slice Bc As.length Bd] ?_;(with_reducible refine(gU.calls Ah Ag Ak Al Af _ _ As Aw Ba Bb w _ ?Ab ?Ac ?Am ?Ax ?Ay A5.out).mono ?_);(case Ab=>exact(kI HI389.out));(case Ac=>exact kG HB.out (IsS96.ge HI389.out));(case Am=>exact kC (Kd.R_reads' Ad.out).2.2);(case Ax=>exact(Kd.R_reads' Ad.out).2.1);(case Ay=>exact far_slice (IsS96.own_ne HI389.out Ad.out (by decide)));rintro e Bs ⟨rfl,hi,hb,hk⟩;refine⟨_,rfl,?_⟩;replace Aa:=Az.mk (Kd.S_mono (Kd.S_keep (IsS96.apartS (show IsS96 w _ Ah Ag Ak Al from kI HI389.out) (kS Aa.out) (by decide)) hk (fun _ h=>h.2)) (fun _ h=>h.1));replace Ad:=Az.mk (Kd.R_mono (Kd.R_keep (IsS96.apart (show IsS96 w _ Ah Ag Ak Al from kI HI389.out) (kR Ad.out) (by decide)) hk (fun _ h=>h.2)) (fun _ h=>h.1));replace HB:=Az.mk (hb);replace HI389:=Az.mk (hi);(try clear hb);(try clear hk);(try clear hi)))
 go_ret
 exact⟨rq1,kG HB.out (IsS96.ge HI389.out)⟩
def gM.l0:Nat→ByteArray→Int→List ByteArray→Int→Int→Int→Option (List ByteArray)
 |0,_,_,_,_,_,_=>none
 |k+1,x0,x1,x5,x6,x10,x11=>if x11<x10 then(if 0≤x11 then(if x11<(x0.size:Int) then(if(bt x0 x11)=x1 then(if 0≤x6 then(if x6≤x11 then(if x11≤(x0.size:Int) then(if x5.length<8796093022208 then(gM.l0 k x0 x1 (x5 ++ [x0.extract (x6:Int).toNat (x11:Int).toNat]) (wrap64 (x11+1)) x10 (wrap64 (x11+1))) else(none)) else(none)) else(none)) else(none)) else(gM.l0 k x0 x1 x5 x6 x10 (wrap64 (x11+1)))) else(none)) else(none)) else(if 0≤x6 then(if x6≤(x0.size:Int) then(if x5.length<8796093022208 then(some (x5 ++ [x0.extract (x6:Int).toNat x0.size])) else(none)) else(none)) else(none))
def gM.f (k:Nat) (a0:ByteArray) (a1:Int):Option (List ByteArray):=gM.l0 k a0 a1 (([]:List ByteArray)) 0 (a0.size:Int) 0
theorem gM.calls (k:Nat) (a0:ByteArray) (a1:Int) (r:List ByteArray) (w:World) (h:gM.f k a0 a1=some r):
  Calls Try.prog 44 #[.string a0, .int .u8 a1] w fun e w'=>∃v0_:Value,e= .returned (v0_)∧Kd.R Kd.string 9 w' w.heap.size (fun _=>True) v0_ r∧Below w.heap.size w w':=by
 have HB:=Az.mk (Below.refl w.heap.size w)
 have H:(gM.l0 k a0 a1 (([]:List ByteArray)) 0 (a0.size:Int) 0)=some r:=h
 clear h
 obtain⟨Af,hy⟩:∃y_:List ByteArray,y_=(([]:List ByteArray)):=⟨_,rfl⟩
 replace H:(gM.l0 k a0 a1 Af 0 (a0.size:Int) 0)=some r:=rh
 have Ae:=Az.mk hy
 clear hy
 have H':=Az.mk H
 clear H
 go_enter Try.func44,Try.ntmps44
 go_wp2_with (first|((with_reducible refine gtD (N:=8) rfl ?_);refine Kd.R_lit Kd.string _ 9 ?hg (N:=8) ?hd (xs:=([]:List ByteArray)) (inner:=[]) (ok:=fun _=>True) (okp:=fun _=>True) ?hr ?hp (fun _ hk=>hk) trivial (Below.refl _ _) (Nat.le_refl _) (by simp) ?_;(case hd=>rfl);(case hg=>rfl);(case hr=>first|(go_simp;done)|(go_simp;rfl));(case hp=>exact(Reps.none _ _));intro Bo w3 Ag hb hg_ hnew_;clear hg_ hnew_;(first|rw[←Ae.out]at Ag|(simp only[Int.reduceToNat]at Ag;rw[←Ae.out]at Ag));have Ah:=Az.mk (Kd.R_lower Ag (bwZ bw_22));replace HB:=Az.mk (bwT bw_22 hb);clear hb Ag))
 go_loopg [5,6,11] k (fun kq v5 v6 Bp w'=>∃(Ac:List ByteArray) (Ab:Int) (Aa:Int),v6= .int .i64 Ab∧Bp= .int .i64 Aa∧Az (gM.l0 kq a0 a1 Ac Ab (a0.size:Int) Aa=some r)∧Az (kq≤k)∧Az (Kd.R Kd.string 9 w' w.heap.size (fun _=>True) v5 Ac)∧Az (Below w.heap.size w w'))
 case atStart=>exact⟨(Af),(0),(0),rq2,rq2,H',⟨Nat.le_refl _⟩,⟨kR Ah.out⟩,⟨bw_22⟩⟩
 clear H'
 obtain⟨Ac,Ab,Aa,rfl,rfl,HA,HK1,Ad,HB⟩:=hrel
 cases gk with
 |zero=>exact absurd HA.out (by simp[gM.l0])
 |succ k1=>
  have H:=HA.out
  clear HA
  simp only[gM.l0]at H
  by_cases c5:Aa<(a0.size:Int)
  rotate_left
  ·rw[ig c5]at H
   have Ax:=decide_eq_false c5
   clear c5
   by_cases Ai:0≤Ab
   rotate_left
   ·rw[ig Ai]at H
    exact absurd H (by simp)
   rw[ip Ai]at H
   have Bc:=ets Ai
   have Bd:=ode Ai
   clear Ai
   by_cases Aj:Ab≤(a0.size:Int)
   rotate_left
   ·rw[ig Aj]at H
    exact absurd H (by simp)
   rw[ip Aj]at H
   have Bf:=ets Aj
   have Bh:=ode Aj
   clear Aj
   by_cases Av:Ac.length<8796093022208
   rotate_left
   ·rw[ig Av]at H
    exact absurd H (by simp)
   rw[ip Av]at H
   have LMc17:=Az.mk Av
   clear Av
   obtain⟨Ay,hy⟩:∃y_:List ByteArray,y_=(Ac ++ [a0.extract (Ab:Int).toNat a0.size]):=⟨_,rfl⟩
   replace H:(some Ay)=some r:=rh
   have Ak:=Az.mk hy
   clear hy
   obtain rfl:=Option.some.inj H
   go_wp2_with (first|((with_reducible refine gate_builtin (b:= .append) (xs:= #[.tmp 29, .tmp 33]) rfl ?_);at_builtin;refine Kd.R_append Kd.string (w0:=w) w.heap.size rfl (.tmp 29) (.tmp 33) 67 9 (.string ⟨#[]⟩) 16 rfl Try.underlying67 info9 rfl (by decide) (by omega) u5 Ac (a0.extract (Ab:Int).toNat a0.size) [.string (a0.extract (Ab:Int).toNat a0.size)] (fun _=>True) (fun _=>False) rfl rfl ?aP (fun _ hk=>hk.elim) ?aF ?aO ?aB ?aS ?aL ?_;(case aP=>exact rfl);(case aB=>exact bw_22);(case aF=>exact(fun _ _=>trivial));(case aO=>exact(kR Ad.out));(case aS=>exact(bwZ bw_22));(case aL=>have:=LMc17.out;omega);intro Bq Bv ho hb hg hat;rw[←Ak.out]at ho;have n0_:=Az.mk (hb);have n1_:=Az.mk (ho);clear HB;clear Ad;have HB:=n0_;have Al:=n1_;clear n0_ n1_;clear ho hb hg hat))
   go_ret
   exact⟨_,rq1,kR Al.out,bw_22⟩
  rw[ip c5]at H
  have Ax:=ode c5
  clear c5
  by_cases c6:0≤Aa
  rotate_left
  ·rw[ig c6]at H
   exact absurd H (by simp)
  rw[ip c6]at H
  have Br:=ode c6
  clear c6
  by_cases c7:Aa<(a0.size:Int)
  rotate_left
  ·rw[ig c7]at H
   exact absurd H (by simp)
  rw[ip c7]at H
  have Bs:=ode c7
  clear c7
  by_cases c9:(bt a0 Aa)=a1
  rotate_left
  ·rw[ig c9]at H
   have Ba:=beq_eq_false_iff_ne.mpr c9
   have Bb:=bne_iff_ne.mpr c9
   have H':=Az.mk H
   clear H
   have p8:0≤(Aa:Int):=od
   have q8:Aa<(a0.size:Int):=od
   have Bt:=bt_at a0 Aa
   replace p8:=ets p8
   replace q8:=ets q8
   go_wp2
   go_roundg k1
   case measure=>have:=HK1.out;omega
   case rel=>exact⟨(Ac),(Ab),(wrap64 (Aa+1)),rq2,rq2,H',⟨by have:=HK1.out;omega⟩,⟨kR Ad.out⟩,⟨bw_22⟩⟩
  rw[ip c9]at H
  have Ba:=beq_iff_eq.mpr c9
  have Bb:=bne_eq_false_iff_eq.mpr c9
  clear c9
  by_cases Am:0≤Ab
  rotate_left
  ·rw[ig Am]at H
   exact absurd H (by simp)
  rw[ip Am]at H
  have Bi:=ets Am
  have Bj:=ode Am
  clear Am
  by_cases Ao:Ab≤Aa
  rotate_left
  ·rw[ig Ao]at H
   exact absurd H (by simp)
  rw[ip Ao]at H
  have Bk:=ets Ao
  have Bl:=ode Ao
  clear Ao
  by_cases Ap:Aa≤(a0.size:Int)
  rotate_left
  ·rw[ig Ap]at H
   exact absurd H (by simp)
  rw[ip Ap]at H
  have Bm:=ets Ap
  have Bn:=ode Ap
  clear Ap
  by_cases Aw:Ac.length<8796093022208
  rotate_left
  ·rw[ig Aw]at H
   exact absurd H (by simp)
  rw[ip Aw]at H
  have LMc13:=Az.mk Aw
  clear Aw
  obtain⟨Aq,hy⟩:∃y_:List ByteArray,y_=(Ac ++ [a0.extract (Ab:Int).toNat (Aa:Int).toNat]):=⟨_,rfl⟩
  replace H:(gM.l0 k1 a0 a1 Aq (wrap64 (Aa+1)) (a0.size:Int) (wrap64 (Aa+1)))=some r:=rh
  have As:=Az.mk hy
  clear hy
  have H':=Az.mk H
  clear H
  have p8:0≤(Aa:Int):=od
  have q8:Aa<(a0.size:Int):=od
  have Bt:=bt_at a0 Aa
  replace p8:=ets p8
  replace q8:=ets q8
  go_wp2_with (first|((with_reducible refine gate_builtin (b:= .append) (xs:= #[.tmp 19, .tmp 24]) rfl ?_);at_builtin;refine Kd.R_append Kd.string (w0:=w) w.heap.size rfl (.tmp 19) (.tmp 24) 67 9 (.string ⟨#[]⟩) 16 rfl Try.underlying67 info9 rfl (by decide) (by omega) u5 Ac (a0.extract (Ab:Int).toNat (Aa:Int).toNat) [.string (a0.extract (Ab:Int).toNat (Aa:Int).toNat)] (fun _=>True) (fun _=>False) rfl rfl ?aP (fun _ hk=>hk.elim) ?aF ?aO ?aB ?aS ?aL ?_;(case aP=>exact rfl);(case aB=>exact bw_22);(case aF=>exact(fun _ _=>trivial));(case aO=>exact(kR Ad.out));(case aS=>exact(bwZ bw_22));(case aL=>have:=LMc13.out;omega);intro Bu Bw ho hb hg hat;rw[←As.out]at ho;have n0_:=Az.mk (hb);have n1_:=Az.mk (ho);clear HB;clear Ad;have HB:=n0_;have Au:=n1_;clear n0_ n1_;clear ho hb hg hat))
  go_roundg k1
  case measure=>have:=HK1.out;omega
  case rel=>exact⟨(Aq),(wrap64 (Aa+1)),(wrap64 (Aa+1)),rq2,rq2,H',⟨by have:=HK1.out;omega⟩,⟨kR Au.out⟩,⟨bw_22⟩⟩
end
theorem bw_23 {n:Nat}{v v':World} (h:Below n v v':=by repeat(first|(with_reducible first|exact HB.out|apply bwA|apply pbN|apply bwD)|exact HB.out)):Below n v v':=h
theorem ln_23 {P:Prop} (h:P:=by(try simp only[List.map_toArray,List.map_cons,List.map_nil]);first|done|rfl|(simp only[List.length_drop,List.length_take];rfl)):P:=h
mutual
def fR.l0:Nat→List (List Int)→List ByteArray→Int→Int→Option ((List (List Int)) × Bool)
 |0,_,_,_,_=>none
 |k+1,x4,x15,x16,x17=>if x17<x16 then(if 0≤x17 then(if x17<(x15.length:Int) then(fR.l1 k x4 (rdOf ByteArray.empty x15 x17) (([]:List Int)) x15 x16 x17 ((rdOf ByteArray.empty x15 x17).size:Int) 0) else(none)) else(none)) else((fB.f k x4).bind fun t417=>(if t417=true then(some (x4,true)) else(some (([]:List (List Int)),false))))
def fR.l1:Nat→List (List Int)→ByteArray→List Int→List ByteArray→Int→Int→Int→Int→Option ((List (List Int)) × Bool)
 |0,_,_,_,_,_,_,_,_=>none
 |k+1,x4,x6,x7,x15,x16,x17,x23,x24=>if x24<x23 then(if 0≤x24 then(if x24<(x6.size:Int) then(if(bt x6 x24) ≥ 97 then(fR.j2 k x4 x6 x7 (bt x6 x24) x15 x16 x17 x23 x24 (decide ((bt x6 x24)<106))) else(fR.j2 k x4 x6 x7 (bt x6 x24) x15 x16 x17 x23 x24 false)) else(none)) else(none)) else(if x4.length<5864062014805 then(fR.l0 k (x4 ++ [x7]) x15 x16 (wrap64 (x17+1))) else(none))
def fR.j2:Nat→List (List Int)→ByteArray→List Int→Int→List ByteArray→Int→Int→Int→Int→Bool→Option ((List (List Int)) × Bool)
 |0,_,_,_,_,_,_,_,_,_,_=>none
 |k+1,x4,x6,x7,x9,x15,x16,x17,x23,x24,x30=>if x30=true then(if x7.length<17592186044416 then(fR.l1 k x4 x6 (x7 ++ [((x9 - 97) % 256)+1]) x15 x16 x17 x23 (wrap64 (x24+1))) else(none)) else(if x9 ≥ 65 then(if x9<74 then(if x7.length<17592186044416 then(fR.l1 k x4 x6 (x7 ++ [(-((x9 - 65) % 256)) - 1]) x15 x16 x17 x23 (wrap64 (x24+1))) else(none)) else(some (([]:List (List Int)),false))) else(some (([]:List (List Int)),false)))
end
def fR.f (k:Nat) (a0:ByteArray):Option ((List (List Int)) × Bool):=if(a0.size:Int)>36 then(some (([]:List (List Int)),false)) else((gM.f k a0 32).bind fun t414=>(fR.l0 k (([]:List (List Int))) t414 (t414.length:Int) 0))
theorem fR.calls (k:Nat) (a0:ByteArray) (r1:List (List Int)) (r2:Bool) (w:World) (h:fR.f k a0=some (r1,r2)):
  Calls Try.prog 8 #[.string a0] w fun e w'=>∃v0_:Value,e= .returned (.tuple #[v0_, .bool r2])∧Kd.S (Kd.slice 3 (Kd.int .i64)) 25 w' w.heap.size (fun _=>True) v0_ r1∧Below w.heap.size w w':=by
 have HB:=Az.mk (Below.refl w.heap.size w)
 have H:(if(a0.size:Int)>36 then(some (([]:List (List Int)),false)) else((gM.f k a0 32).bind fun Ab=>(fR.l0 k (([]:List (List Int))) Ab (Ab.length:Int) 0)))=some (r1,r2):=h
 clear h
 by_cases c2:(a0.size:Int)>36
 ·rw[ip c2]at H
  have Au:decide (36<(a0.size:Int))=true:=ode c2
  have Av:decide (36<a0.size)=true:=ode (by omega)
  clear c2
  simp only[Option.some.injEq,Prod.mk.injEq]at H
  obtain⟨rfl,rfl⟩:=H
  go_enter Try.func8,Try.ntmps8
  go_wp2
  go_ret2
  exact⟨_,rq1,by first|exact Kd.S_nil _ _ _ _ _|exact Kd.N_nil _ _ _ _ _|exact Kd.V_nil _ _ _ _ _|exact Kd.Q_nil _ _ _ _ _|exact Kd.R_nil _ _ _ _ _,bw_23⟩
 rw[ig c2]at H
 have Au:decide (36<(a0.size:Int))=false:=decide_eq_false c2
 have Av:decide (36<a0.size)=false:=decide_eq_false (by omega)
 clear c2
 obtain⟨Bo,hy⟩:∃y_:List (List Int),y_=(([]:List (List Int))):=⟨_,rfl⟩
 replace H:((gM.f k a0 32).bind fun Ab=>(fR.l0 k Bo Ab (Ab.length:Int) 0))=some (r1,r2):=rh
 have Ay:=Az.mk hy
 clear hy
 replace H:=bez H
 obtain⟨Ab,A3,H⟩:=H
 try dsimp only at H
 have H':=Az.mk H
 clear H
 go_enter Try.func8,Try.ntmps8
 go_wp2_with (first|((with_reducible refine gtD (N:=13) rfl ?_);refine Kd.S_lit (Kd.slice 3 (Kd.int .i64)) _ 25 ?hg (N:=13) ?hd (xs:=([]:List (List Int))) (inner:=[]) (ok:=fun _=>True) (okp:=fun _=>True) ?hr ?hp (fun _ hk=>hk) trivial (Below.refl _ _) (Nat.le_refl _) (by simp) ?_;(case hd=>rfl);(case hg=>rfl);(case hr=>first|(go_simp;done)|(go_simp;rfl));(case hp=>exact(Reps.none _ _));intro Dj w4 Bp hb hg_ hnew_;clear hg_ hnew_;(first|rw[←Ay.out]at Bp|(simp only[Int.reduceToNat]at Bp;rw[←Ay.out]at Bp));have Am:=Az.mk (Kd.S_lower Bp (bwZ bw_23));replace HB:=Az.mk (bwT bw_23 hb);clear hb Bp)|((with_reducible refine gtC (f:=44) rfl ?_);refine clz Try.func44 (some 15) #[.string a0, .int .u8 32] ?_;(with_reducible refine(gM.calls k a0 32 Ab _ A3.out).mono ?_);rintro e w6 ⟨Dk,rfl,Dh,hb⟩;refine⟨_,rfl,?_⟩;replace Am:=Az.mk (Kd.S_below (kS Am.out) hb);have Ba:=Az.mk (Kd.R_lower Dh (bwZ bw_23));replace HB:=Az.mk (bwT bw_23 hb);(try clear hb);(try clear Dh);obtain⟨Dl,Ct,Dm⟩:=Kd.R_slice Ba.out;subst Dm))
 go_loopg [4,17] k (fun kq v4 Dn w'=>∃(Af:List (List Int)) (Aa:Int),Dn= .int .i64 Aa∧Az (fR.l0 kq Af Ab (Ab.length:Int) Aa=some (r1,r2))∧Az (kq≤k)∧Az (Kd.S (Kd.slice 3 (Kd.int .i64)) 25 w' w.heap.size (fun _=>True) v4 Af)∧Az (Kd.R Kd.string 9 w' w.heap.size (fun _=>True) (.slice Dl Ab.length Ct) Ab)∧Az (Below w.heap.size w w'))
 case atStart=>exact⟨(Bo),(0),rq2,H',⟨Nat.le_refl _⟩,⟨kS Am.out⟩,⟨kR Ba.out⟩,⟨bw_23⟩⟩
 clear H'
 try clear c2
 try clear Au
 try clear Av
 obtain⟨Af,Aa,rfl,HA,HK1,Ae,Ad,HB⟩:=hrel
 cases gk with
 |zero=>exact absurd HA.out (by simp[fR.l0])
 |succ k1=>
  have H:=HA.out
  clear HA
  simp only[fR.l0]at H
  by_cases c8:Aa<(Ab.length:Int)
  rotate_left
  ·rw[ig c8]at H
   have Bh:=decide_eq_false c8
   clear c8
   replace H:=bez H
   obtain⟨Cu,Di,H⟩:=H
   try dsimp only at H
   by_cases Cl:Cu=true
   ·subst Cl
    rw[ip rfl]at H
    simp only[Option.some.injEq,Prod.mk.injEq]at H
    obtain⟨rfl,rfl⟩:=H
    obtain⟨Cv,Cw,Da⟩:=Kd.S_slice Ae.out
    subst Da
    go_wp2_with (first|((with_reducible refine gtC (f:=30) rfl ?_);refine clz Try.func30 (some 66) #[.slice Cv Af.length Cw] ?_;(with_reducible refine(fB.calls k1 _ _ Af true _ ?Ao ?Ap Di.out).mono ?_);(case Ao=>exact kC (Kd.S_reads' Ae.out).2.2);(case Ap=>exact(Kd.S_reads' Ae.out).2.1);rintro e Du ⟨rfl,hb⟩;refine⟨_,rfl,?_⟩;replace Ae:=Az.mk (Kd.S_below (kS Ae.out) hb);replace Ad:=Az.mk (Kd.R_below (kR Ad.out) hb);replace HB:=Az.mk (bwT bw_23 hb);(try clear hb)))
    go_ret2
    exact⟨_,rq1,kS Ae.out,bw_23⟩
   replace Cl:=Bool.eq_false_iff.mpr Cl
   subst Cl
   rw[ig ff]at H
   simp only[Option.some.injEq,Prod.mk.injEq]at H
   obtain⟨rfl,rfl⟩:=H
   obtain⟨Db,Dc,Dd⟩:=Kd.S_slice Ae.out
   subst Dd
   go_wp2_with (first|((with_reducible refine gtC (f:=30) rfl ?_);refine clz Try.func30 (some 66) #[.slice Db Af.length Dc] ?_;(with_reducible refine(fB.calls k1 _ _ Af false _ ?Ao ?Ap Di.out).mono ?_);(case Ao=>exact kC (Kd.S_reads' Ae.out).2.2);(case Ap=>exact(Kd.S_reads' Ae.out).2.1);rintro e Dv ⟨rfl,hb⟩;refine⟨_,rfl,?_⟩;replace Ae:=Az.mk (Kd.S_below (kS Ae.out) hb);replace Ad:=Az.mk (Kd.R_below (kR Ad.out) hb);replace HB:=Az.mk (bwT bw_23 hb);(try clear hb)))
   go_ret2
   exact⟨_,rq1,by first|exact Kd.S_nil _ _ _ _ _|exact Kd.N_nil _ _ _ _ _|exact Kd.V_nil _ _ _ _ _|exact Kd.Q_nil _ _ _ _ _|exact Kd.R_nil _ _ _ _ _,bw_23⟩
  rw[ip c8]at H
  have Bh:=ode c8
  clear c8
  by_cases c9:0≤Aa
  rotate_left
  ·rw[ig c9]at H
   exact absurd H (by simp)
  rw[ip c9]at H
  have Bq:=ode c9
  clear c9
  by_cases Bl:Aa<(Ab.length:Int)
  rotate_left
  ·rw[ig Bl]at H
   exact absurd H (by simp)
  rw[ip Bl]at H
  have Bb:=ode Bl
  clear Bl
  obtain⟨Br,hy⟩:∃y_:List Int,y_=(([]:List Int)):=⟨_,rfl⟩
  replace H:(fR.l1 k1 Af (rdOf ByteArray.empty Ab Aa) Br Ab (Ab.length:Int) Aa ((rdOf ByteArray.empty Ab Aa).size:Int) 0)=some (r1,r2):=rh
  have Bc:=Az.mk hy
  clear hy
  have H':=Az.mk H
  clear H
  have Aq:0≤(Aa:Int):=od
  have As:Aa<(Ab.length:Int):=od
  obtain⟨Bd,De,Ak⟩:=Kd.at_string (Kd.R_reads' Ad.out).2.2 Aa Aq As
  cases De
  replace Aq:=ets Aq
  replace As:=ets As
  go_wp2_with (first|((with_reducible refine gtD (N:=21) rfl ?_);refine Kd.R_lit (Kd.int .i64) _ 3 ?hg (N:=21) ?hd (xs:=([]:List Int)) (inner:=[]) (ok:=fun _=>True) (okp:=fun _=>True) ?hr ?hp (fun _ hk=>hk) trivial (Below.refl _ _) (Nat.le_refl _) (by simp) ?_;(case hd=>rfl);(case hg=>rfl);(case hr=>first|(go_simp;done)|(go_simp;rfl));(case hp=>exact(Reps.none _ _));intro Do Dw Al hb hg_ hnew_;clear hg_ hnew_;(first|rw[←Bc.out]at Al|(simp only[Int.reduceToNat]at Al;rw[←Bc.out]at Al));replace Ae:=Az.mk (Kd.S_elder' (kS Ae.out) (Kd.R_base Al) hb);replace Ad:=Az.mk (Kd.R_below (kR Ad.out) hb);have Bs:=Az.mk (Kd.R_lower Al (bwZ bw_23));replace HB:=Az.mk (bwT bw_23 hb);clear hb Al))
  go_loopg [7,24] k1 (fun kq v7 Dp w'=>∃(Ag:List Int) (Ac:Int),Dp= .int .i64 Ac∧Az (fR.l1 kq Af (rdOf ByteArray.empty Ab Aa) Ag Ab (Ab.length:Int) Aa ((rdOf ByteArray.empty Ab Aa).size:Int) Ac=some (r1,r2))∧Az (kq≤k1)∧Az (Kd.S (Kd.slice 3 (Kd.int .i64)) 25 w' w.heap.size (fun k_=>some k_≠(v7:Value).ownBlock) u4 Af)∧Az (Kd.R (Kd.int .i64) 3 w' w.heap.size (fun _=>True) v7 Ag)∧Az (Kd.R Kd.string 9 w' w.heap.size (fun _=>True) (.slice (some Bd) Ab.length Ct) Ab)∧Az (Below w.heap.size w w'))
  case atStart=>exact⟨(Br),(0),rq2,H',⟨Nat.le_refl _⟩,⟨by(with_reducible repeat(first|apply Kd.S_alloc|apply Kd.S_drewN|apply Kd.S_drew));exact Kd.S_mono Ae.out (fun _ hk=>hk.2)⟩,⟨kR Bs.out⟩,⟨kR Ad.out⟩,⟨bw_23⟩⟩
  clear H'
  try clear c2
  try clear Au
  try clear Av
  try clear c8
  try clear Bh
  try clear c9
  try clear Bq
  try clear Bl
  try clear Bb
  try clear Ak
  try clear Aq
  try clear As
  obtain⟨Ag,Ac,rfl,HA,HK2,Ae,Ah,Ad,HB⟩:=hrel
  cases gk with
  |zero=>exact absurd HA.out (by simp[fR.l1])
  |succ k2=>
   have H:=HA.out
   clear HA
   simp only[fR.l1]at H
   by_cases Bi:Ac<((rdOf ByteArray.empty Ab Aa).size:Int)
   rotate_left
   ·rw[ig Bi]at H
    have Bf:=decide_eq_false Bi
    clear Bi
    by_cases Cm:Af.length<5864062014805
    rotate_left
    ·rw[ig Cm]at H
     exact absurd H (by simp)
    rw[ip Cm]at H
    have LMc26:=Az.mk Cm
    clear Cm
    obtain⟨Bt,hy⟩:∃y_:List (List Int),y_=(Af ++ [Ag]):=⟨_,rfl⟩
    replace H:(fR.l0 k2 Bt Ab (Ab.length:Int) (wrap64 (Aa+1)))=some (r1,r2):=rh
    have Bu:=Az.mk hy
    clear hy
    have H':=Az.mk H
    clear H
    obtain⟨Bv,Bw,Df⟩:=Kd.R_slice Ah.out
    subst Df
    go_wp2_with (first|((with_reducible refine gate_builtin (b:= .append) (xs:= #[.tmp 60, .tmp 62]) rfl ?_);at_builtin;refine Kd.S_append (Kd.slice 3 (Kd.int .i64)) (w0:=w) w.heap.size rfl (.tmp 60) (.tmp 62) 24 25 (.slice none 0 0) 24 rfl Try.underlying24 info25 rfl (by decide) (by omega) u4 Af Ag [.slice Bv Ag.length Bw] (fun _=>True) (fun k_=>some k_=(.slice Bv Ag.length Bw:Value).ownBlock) rfl rfl ?aP (fun k_ hk_=>((Kd.R_mono (ok':=fun k_=>((fun _=>True)) k_∧some k_≠(u4:Value).ownBlock) (Kd.R_apart' (Ah.out) (Kd.S_typed Ae.out) (by decide)) (fun k_ hk=>⟨trivial,hk.2⟩))).1 k_ hk_.symm) ?aF ?aO ?aB ?aS ?aL ?_;(case aP=>exact Kd.M_row (Kd.R_mono (Kd.R_tight rfl (Kd.R_mono (ok':=fun k_=>((fun _=>True)) k_∧some k_≠(u4:Value).ownBlock) (Kd.R_apart' (Ah.out) (Kd.S_typed Ae.out) (by decide)) (fun k_ hk=>⟨trivial,hk.2⟩))) (fun _ h_=>h_)));(case aB=>exact bw_23);(case aF=>exact(fun _ _=>trivial));(case aO=>exact(by(with_reducible repeat(first|apply Kd.S_alloc|apply Kd.S_drewN|apply Kd.S_drew));exact Kd.S_mono Ae.out (fun k_ hk=>⟨trivial,fun e_=>hk e_⟩)));(case aS=>exact(bwZ bw_23));(case aL=>have:=LMc26.out;omega);intro Dq Dx ho hb hg hat;rw[←Bu.out]at ho;have n0_:=Az.mk (Kd.R_over' (kR Ad.out) (Kd.S_typed (kS Ae.out)) (by decide) hg);have n1_:=Az.mk (hb);have n2_:=Az.mk (ho);clear Ad;clear HB;clear Ae;clear Ah;have Ad:=n0_;have HB:=n1_;have Bx:=n2_;clear n0_ n1_ n2_;clear ho hb hg hat))
    go_roundg k2
    case measure=>have:=HK1.out;have:=HK2.out;omega
    case rel=>exact⟨(Bt),(wrap64 (Aa+1)),rq2,H',⟨by have:=HK1.out;have:=HK2.out;omega⟩,⟨kS Bx.out⟩,⟨kR Ad.out⟩,⟨bw_23⟩⟩
   rw[ip Bi]at H
   have Bf:=ode Bi
   clear Bi
   by_cases By:0≤Ac
   rotate_left
   ·rw[ig By]at H
    exact absurd H (by simp)
   rw[ip By]at H
   have Bz:=ode By
   clear By
   by_cases Ca:Ac<((rdOf ByteArray.empty Ab Aa).size:Int)
   rotate_left
   ·rw[ig Ca]at H
    exact absurd H (by simp)
   rw[ip Ca]at H
   have Cc:=ode Ca
   clear Ca
   have Bj:=Az.mk H
   clear H
   have Cn:0≤(Ac:Int):=od
   have Co:Ac<((rdOf ByteArray.empty Ab Aa).size:Int):=od
   have Dg:=bt_at (rdOf ByteArray.empty Ab Aa) Ac
   replace Cn:=ets Cn
   replace Co:=ets Co
   go_upto_region 13 with (fail)
   go_cut [30] (fun Dr wc=>∃(kq:Nat) (Aj:Bool),Dr= .bool Aj∧Az (fR.j2 kq Af (rdOf ByteArray.empty Ab Aa) Ag (bt (rdOf ByteArray.empty Ab Aa) Ac) Ab (Ab.length:Int) Aa ((rdOf ByteArray.empty Ab Aa).size:Int) Ac Aj=some (r1,r2))∧Az (kq≤k2)∧Az (Kd.S (Kd.slice 3 (Kd.int .i64)) 25 wc w.heap.size (fun k_=>some k_≠(u7:Value).ownBlock) u4 Af)∧Az (Kd.R (Kd.int .i64) 3 wc w.heap.size (fun _=>True) u7 Ag)∧Az (Kd.R Kd.string 9 wc w.heap.size (fun _=>True) (.slice (some Bd) Ab.length Ct) Ab)∧Az (Below w.heap.size w wc))
   case first=>
    have H:=Bj.out
    clear Bj
    by_cases Bk:(bt (rdOf ByteArray.empty Ab Aa) Ac) ≥ 97
    ·rw[ip Bk]at H
     have Ai:decide (97≤(bt (rdOf ByteArray.empty Ab Aa) Ac))=true:=ode Bk
     clear Bk
     (first|rw[Ai]|(simp only[i64_w,i32_w];rw[Ai])|skip)
     have H':=Az.mk H
     clear H
     go_wp2
     go_meet
     case rel=>exact⟨_,(decide ((bt (rdOf ByteArray.empty Ab Aa) Ac)<106)),rq2,H',⟨by have:=HK1.out;have:=HK2.out;first|omega|exact Nat.le_refl _⟩,⟨kS Ae.out⟩,⟨kR Ah.out⟩,⟨kR Ad.out⟩,⟨bw_23⟩⟩
    rw[ig Bk]at H
    have Ai:decide (97≤(bt (rdOf ByteArray.empty Ab Aa) Ac))=false:=decide_eq_false Bk
    clear Bk
    (first|rw[Ai]|(simp only[i64_w,i32_w];rw[Ai])|skip)
    have H':=Az.mk H
    clear H
    go_wp2
    go_meet
    case rel=>exact⟨_,(false),rq2,H',⟨by have:=HK1.out;have:=HK2.out;first|omega|exact Nat.le_refl _⟩,⟨kS Ae.out⟩,⟨kR Ah.out⟩,⟨kR Ad.out⟩,⟨bw_23⟩⟩
   clear Bj
   try clear c2
   try clear Au
   try clear Av
   try clear c8
   try clear Bh
   try clear c9
   try clear Bq
   try clear Bl
   try clear Bb
   try clear Bi
   try clear Bf
   try clear By
   try clear Bz
   try clear Ca
   try clear Cc
   try clear Cn
   try clear Co
   try clear Dg
   try clear Bk
   try clear Ai
   try clear Ak
   try clear Cn
   try clear Aq
   try clear Co
   try clear As
   obtain⟨kq,Aj,rfl,HA,Aw,Ae,Ah,Ad,HB⟩:=hcut
   cases kq with
   |zero=>exact absurd HA.out (by simp[fR.j2])
   |succ Ax=>
    have H:=HA.out
    clear HA
    simp only[fR.j2]at H
    by_cases Cp:Aj=true
    ·subst Cp
     rw[ip rfl]at H
     by_cases Cq:Ag.length<17592186044416
     rotate_left
     ·rw[ig Cq]at H
      exact absurd H (by simp)
     rw[ip Cq]at H
     have LMc20:=Az.mk Cq
     clear Cq
     obtain⟨Cd,hy⟩:∃y_:List Int,y_=(Ag ++ [(((bt (rdOf ByteArray.empty Ab Aa) Ac) - 97) % 256)+1]):=⟨_,rfl⟩
     replace H:(fR.l1 Ax Af (rdOf ByteArray.empty Ab Aa) Cd Ab (Ab.length:Int) Aa ((rdOf ByteArray.empty Ab Aa).size:Int) (wrap64 (Ac+1)))=some (r1,r2):=rh
     have Ce:=Az.mk hy
     clear hy
     have H':=Az.mk H
     clear H
     go_wp2_with (first|((with_reducible refine gate_builtin (b:= .append) (xs:= #[.tmp 37, .tmp 42]) rfl ?_);at_builtin;refine Kd.R_append (Kd.int .i64) (w0:=w) w.heap.size rfl (.tmp 37) (.tmp 42) 25 3 (.int .i64 0) 8 rfl Try.underlying25 info3 rfl (by decide) (by omega) u7 Ag ((((bt (rdOf ByteArray.empty Ab Aa) Ac) - 97) % 256)+1) [.int .i64 ((((bt (rdOf ByteArray.empty Ab Aa) Ac) - 97) % 256)+1)] (fun _=>True) (fun _=>False) rfl rfl ?aP (fun _ hk=>hk.elim) ?aF ?aO ?aB ?aS ?aL ?_;(case aP=>exact rfl);(case aB=>exact bw_23);(case aF=>exact(fun _ _=>trivial));(case aO=>exact(kR Ah.out));(case aS=>exact(bwZ bw_23));(case aL=>have:=LMc20.out;omega);intro Ds Dy ho hb hg hat;rw[←Ce.out]at ho;have n0_:=Az.mk (Kd.S_after (ok:=(fun _=>True)) (by(with_reducible repeat(first|apply Kd.S_alloc|apply Kd.S_drewN|apply Kd.S_drew));exact Kd.S_mono Ae.out (fun _ hk=>⟨trivial,hk⟩)) hg hat);have n1_:=Az.mk (Kd.R_over' (kR Ad.out) (Kd.R_typed (kR Ah.out)) (by decide) hg);have n2_:=Az.mk (hb);have n3_:=Az.mk (ho);clear Ae;clear Ad;clear HB;clear Ah;have Ae:=n0_;have Ad:=n1_;have HB:=n2_;have Cf:=n3_;clear n0_ n1_ n2_ n3_;clear ho hb hg hat))
     go_roundg Ax
     case measure=>have:=HK1.out;have:=HK2.out;have:=Aw.out;omega
     case rel=>exact⟨(Cd),(wrap64 (Ac+1)),rq2,H',⟨by have:=HK1.out;have:=HK2.out;have:=Aw.out;omega⟩,⟨by(with_reducible repeat(first|apply Kd.S_alloc|apply Kd.S_drewN|apply Kd.S_drew));exact Kd.S_mono Ae.out (fun _ hk=>hk.2)⟩,⟨kR Cf.out⟩,⟨kR Ad.out⟩,⟨bw_23⟩⟩
    replace Cp:=Bool.eq_false_iff.mpr Cp
    subst Cp
    rw[ig ff]at H
    by_cases Bm:(bt (rdOf ByteArray.empty Ab Aa) Ac) ≥ 65
    rotate_left
    ·rw[ig Bm]at H
     have Cg:decide (65≤(bt (rdOf ByteArray.empty Ab Aa) Ac))=false:=decide_eq_false Bm
     clear Bm
     simp only[Option.some.injEq,Prod.mk.injEq]at H
     obtain⟨rfl,rfl⟩:=H
     go_wp2
     go_ret2
     exact⟨_,rq1,by first|exact Kd.S_nil _ _ _ _ _|exact Kd.N_nil _ _ _ _ _|exact Kd.V_nil _ _ _ _ _|exact Kd.Q_nil _ _ _ _ _|exact Kd.R_nil _ _ _ _ _,bw_23⟩
    rw[ip Bm]at H
    have Cg:decide (65≤(bt (rdOf ByteArray.empty Ab Aa) Ac))=true:=ode Bm
    clear Bm
    by_cases Bn:(bt (rdOf ByteArray.empty Ab Aa) Ac)<74
    rotate_left
    ·rw[ig Bn]at H
     have Ch:=decide_eq_false Bn
     clear Bn
     simp only[Option.some.injEq,Prod.mk.injEq]at H
     obtain⟨rfl,rfl⟩:=H
     go_wp2
     go_ret2
     exact⟨_,rq1,by first|exact Kd.S_nil _ _ _ _ _|exact Kd.N_nil _ _ _ _ _|exact Kd.V_nil _ _ _ _ _|exact Kd.Q_nil _ _ _ _ _|exact Kd.R_nil _ _ _ _ _,bw_23⟩
    rw[ip Bn]at H
    have Ch:=ode Bn
    clear Bn
    by_cases Cs:Ag.length<17592186044416
    rotate_left
    ·rw[ig Cs]at H
     exact absurd H (by simp)
    rw[ip Cs]at H
    have LMc24:=Az.mk Cs
    clear Cs
    obtain⟨Ci,hy⟩:∃y_:List Int,y_=(Ag ++ [(-(((bt (rdOf ByteArray.empty Ab Aa) Ac) - 65) % 256)) - 1]):=⟨_,rfl⟩
    replace H:(fR.l1 Ax Af (rdOf ByteArray.empty Ab Aa) Ci Ab (Ab.length:Int) Aa ((rdOf ByteArray.empty Ab Aa).size:Int) (wrap64 (Ac+1)))=some (r1,r2):=rh
    have Cj:=Az.mk hy
    clear hy
    have H':=Az.mk H
    clear H
    go_wp2_with (first|((with_reducible refine gate_builtin (b:= .append) (xs:= #[.tmp 51, .tmp 57]) rfl ?_);at_builtin;refine Kd.R_append (Kd.int .i64) (w0:=w) w.heap.size rfl (.tmp 51) (.tmp 57) 25 3 (.int .i64 0) 8 rfl Try.underlying25 info3 rfl (by decide) (by omega) u7 Ag ((-(((bt (rdOf ByteArray.empty Ab Aa) Ac) - 65) % 256)) - 1) [.int .i64 ((-(((bt (rdOf ByteArray.empty Ab Aa) Ac) - 65) % 256)) - 1)] (fun _=>True) (fun _=>False) rfl rfl ?aP (fun _ hk=>hk.elim) ?aF ?aO ?aB ?aS ?aL ?_;(case aP=>exact rfl);(case aB=>exact bw_23);(case aF=>exact(fun _ _=>trivial));(case aO=>exact(kR Ah.out));(case aS=>exact(bwZ bw_23));(case aL=>have:=LMc24.out;omega);intro Dt Dz ho hb hg hat;rw[←Cj.out]at ho;have n0_:=Az.mk (Kd.S_after (ok:=(fun _=>True)) (by(with_reducible repeat(first|apply Kd.S_alloc|apply Kd.S_drewN|apply Kd.S_drew));exact Kd.S_mono Ae.out (fun _ hk=>⟨trivial,hk⟩)) hg hat);have n1_:=Az.mk (Kd.R_over' (kR Ad.out) (Kd.R_typed (kR Ah.out)) (by decide) hg);have n2_:=Az.mk (hb);have n3_:=Az.mk (ho);clear Ae;clear Ad;clear HB;clear Ah;have Ae:=n0_;have Ad:=n1_;have HB:=n2_;have Ck:=n3_;clear n0_ n1_ n2_ n3_;clear ho hb hg hat))
    go_roundg Ax
    case measure=>have:=HK1.out;have:=HK2.out;have:=Aw.out;omega
    case rel=>exact⟨(Ci),(wrap64 (Ac+1)),rq2,H',⟨by have:=HK1.out;have:=HK2.out;have:=Aw.out;omega⟩,⟨by(with_reducible repeat(first|apply Kd.S_alloc|apply Kd.S_drewN|apply Kd.S_drew));exact Kd.S_mono Ae.out (fun _ hk=>hk.2)⟩,⟨kR Ck.out⟩,⟨kR Ad.out⟩,⟨bw_23⟩⟩
def jK.f (s0_0:List Int) (s0_1:Int) (s0_2:Int) (a1:Int):Option (Bool × Int × Int):=(fK.f s0_0 s0_1 s0_2 a1).bind fun bt431=>(some ((bt431.1== 0),bt431.2.1,bt431.2.2))
theorem jK.calls (g:Nat) (Aa:List Int) (Ac:Int) (Ad:Int) (a1:Int) (r1:Bool) (r2:Int) (r3:Int) (w0 w:World) (hI:IsS96 w0 w g Aa Ac Ad) (hB:Below w0.heap.size w0 w) (h:jK.f Aa Ac Ad a1=some (r1,r2,r3)):
  Calls Try.prog 51 #[.pointer (some ⟨g,0,none⟩), .int .i64 a1] w fun e w'=>e= .returned (.bool r1)∧IsS96 w0 w' g Aa r2 r3∧Below w0.heap.size w0 w'∧KeepBut w w' g none:=by
 have HI0:=Az.mk hI
 have HK:=Az.mk (KeepBut.refl w g none)
 have HL:=Az.mk hB.size
 clear hI
 have HW0:=Az.mk hB.size
 have HB:=Az.mk hB
 clear hB
 have H:((fK.f Aa Ac Ad a1).bind fun Ab=>(some ((Ab.1== 0),Ab.2.1,Ab.2.2)))=some (r1,r2,r3):=h
 clear h
 replace H:=bez H
 obtain⟨⟨Ag,Ah,Ai⟩,A3,H⟩:=H
 try dsimp only at H
 simp only[Option.some.injEq,Prod.mk.injEq]at H
 obtain⟨rfl,rfl,rfl⟩:=H
 go_enter Try.func51,Try.ntmps51
 go_wp2_with (first|((with_reducible refine gtC (f:=75) rfl ?_);refine clz Try.func75 (some 7) #[.pointer (some ⟨g,0,none⟩), .int .i64 a1] ?_;(with_reducible refine(fK.calls g Aa Ac Ad a1 Ag Ah Ai w0 _ ?Ae ?Af A3.out).mono ?_);(case Ae=>exact(kI HI0.out));(case Af=>exact kG HB.out (IsS96.ge HI0.out));rintro e w4 ⟨rfl,hi,hb,hk⟩;refine⟨_,rfl,?_⟩;replace HK:=Az.mk (KeepBut.trans (kK HK.out) hk (.inl rfl));replace HB:=Az.mk (hb);replace HI0:=Az.mk (hi);(try clear hb);(try clear hk);(try clear hi)))
 go_ret
 exact⟨rq1,kI HI0.out,kG HB.out (IsS96.ge HI0.out),kK HK.out⟩
end Go.Proofs.Ytflbpjijgnmklaa.P

-- The walks, cut and laid together by this session's tools (prune.py, sq2.py, min.py: shorter names, no needless spaces). Not trusted: Lean checks it.
import Derived.Test.YtbpnjlemjapnnaaKWZip
import Derived.Test.YtbpnjlemjapnnaaKPx14
namespace Go.Proofs.Ytbpnjlemjapnnaa.P
open Go.RowKit Go.Proofs.YtbpnjlemjapnnaaW.PrintWords Go.Proofs.YtbpnjlemjapnnaaW.PrintLast Go.Proofs.YtbpnjlemjapnnaaW.PrintMore
attribute [local go_sem] max2_int min2_int max_two min_two max_three min_three max_four min_four   -- for this text's walks alone
set_option linter.unusedVariables false
set_option linter.unusedSimpArgs false
set_option maxHeartbeats 8000000
set_option maxRecDepth 100000
open Option renaming bind_eq_some_iff → be
theorem bw_17 {n:Nat}{v v':World} (h:Below n v v':=by repeat(first|(with_reducible first|exact HB.out|apply bwA|apply pbN|apply bwD)|exact HB.out)):Below n v v':=h
theorem tri_law:Go.Maps.Keyed Try.prog 3:=Go.Maps.int_keyed Try.underlying3
theorem tri_zero (w:World):(zeroValue 4).run Try.prog w= .ok (.bool false) w:=by kernel_rfl
theorem tri_bool_inv {H:Type}{P:Program}{e:TypeId} (he:P.underlying e=some .bool){v:Value}{z:DataW H × List MemPlace} (h:plainElem P e v=some z):∃x,v= .bool x∧z=(.lit (.bool x),[]):=by
 unfold plainElem at h
 rw[he]at h
 cases v <;> simp at h
 exact⟨_,rfl,h.symm⟩
/-- the block B is a map that holds the numbers seen -/
def TriSeen (w:World) (B:Nat) (seen:List Int):Prop:=seen.Nodup∧(∀x∈seen, -9≤x∧x≤9)∧∃D:DataW Unit,w.ownsMap Try.prog 3 (plainElem Try.prog 4) B seen.length D∧Go.Maps.IsMap D∧∀x,D.atKey (.int .i64 x) (.lit (.bool false))= .lit (.bool (decide (x∈seen)))
theorem tri_pigeon:∀(N:Nat) (l:List Nat),l.Nodup→(∀x∈l,x<N)→l.length≤N
 |0,l,_,h=>by
  cases l with
  |nil=>simp
  |cons a l=>exact absurd (h a (by simp)) (by omega)
 |N+1,l,hd,h=>by
  by_cases hN:N∈l
  rotate_left
  ·have h1:=tri_pigeon N l hd (fun x hx=>by
    have h3:=h x hx
    have h4:x≠N:=fun e=>hN (e ▸ hx)
    omega)
   omega
  have h1:=tri_pigeon N (l.erase N) (hd.erase N) (fun x hx=>by
   have h2:=(hd.mem_erase_iff).1 hx
   have h3:=h x h2.2
   have h4:=h2.1
   omega)
  rw[List.length_erase_of_mem hN]at h1
  omega
theorem tri_short {seen:List Int} (hd:seen.Nodup) (hr:∀x∈seen, -9≤x∧x≤9):seen.length≤19:=by
 have h1:=tri_pigeon 19 (seen.map fun x=>(x+9).toNat) (by
  refine List.pairwise_map.2 (List.Pairwise.imp_of_mem ?_ hd)
  intro a b ha hb hab h
  have:=hr a ha
  have:=hr b hb
  omega) (by
  intro x hx
  obtain⟨y,hy,rfl⟩:=List.mem_map.1 hx
  have:=hr y hy
  omega)
 simpa using h1
theorem TriSeen.made (w:World):TriSeen (w.alloc (.map #[] 0)) w.heap.size []:=
 ⟨List.nodup_nil,fun _ h=>by simp at h, .map [],World.ownsMap_made _ _ _ _,Go.Maps.isMap_empty,fun x=>by simp[DataW.atKey]⟩
theorem tri_put {seen:List Int}{D:DataW Unit} (hm:Go.Maps.IsMap D) (hD:∀x,D.atKey (.int .i64 x) (.lit (.bool false))= .lit (.bool (decide (x∈seen)))) (y x:Int):
  (D.put (.int .i64 y) (.lit (.bool true))).atKey (.int .i64 x) (.lit (.bool false))= .lit (.bool (decide (x∈y :: seen))):=by
 by_cases h:x=y
 ·subst h
  rw[Go.Maps.atKey_put_same hm (by simp[WideAt.IsKeyLit])]
  simp
 rw[Go.Maps.atKey_put_other (by simp[h]),hD x]
 simp[h]
theorem TriSeen.drewN {w:World}{B:Nat}{seen:List Int} (h:TriSeen w B seen) (n:Nat):TriSeen (World.drewN w n) B seen:=by
 induction n generalizing w with
 |zero=>exact h
 |succ n ih=>exact ih (w:=w.drew) ⟨h.1,h.2.1,h.2.2⟩
theorem TriSeen.look {w:World}{B:Nat}{seen:List Int} (h:TriSeen w B seen){X:Int} (hw:(Lit.int .i64 X).wf=true):Sem.run Try.prog (Instr.lookup 65 (.map (some B)) (.int .i64 X) false) w= .ok (.bool (decide (X∈seen))) w:=by
 obtain⟨_,_,D,hown,hm,hD⟩:=h
 obtain⟨v,ps,hrun,hat⟩:=hown.lookup tri_law Try.underlying65 (tri_zero w) (plainElem_bool Try.underlying4 false) (Go.Maps.keyOf_int_mk Try.underlying3 hw)
 obtain⟨c',rfl,hz'⟩:=tri_bool_inv Try.underlying4 hat
 simp only[Prod.mk.injEq]at hz'
 have:c'=decide (X∈seen):=by have:=hz'.1.symm.trans (hD X);simpa using this
 subst this
 exact hrun
theorem TriSeen.put {w:World}{B:Nat}{seen:List Int} (h:TriSeen w B seen){X:Int} (hw:(Lit.int .i64 X).wf=true) (hr: -9≤X∧X≤9) (hn:X ∉ seen):∃w',Sem.run Try.prog (Instr.mapUpdate 65 (.map (some B)) (.int .i64 X) (.bool true)) w= .ok () w'∧TriSeen w' B (X :: seen)∧w.grownBy w' (some B):=by
 obtain⟨h1,h2,D,hown,hm,hD⟩:=h
 have hs:=tri_short h1 h2
 obtain⟨w',hrun,hown',hg⟩:=hown.update tri_law Try.underlying65 (by unfold maxLen;omega) (Go.Maps.keyOf_int_mk Try.underlying3 hw) (plainElem_bool Try.underlying4 true)
 exact⟨w',hrun,⟨List.nodup_cons.2 ⟨hn,h1⟩,fun x hx=>by
  rcases List.mem_cons.1 hx with rfl|hx
  ·exact hr
  exact h2 x hx,_,hown',hm.put _ _,tri_put hm hD X⟩,hg⟩
theorem tri_neg {N:Int} (h:N≤9∧3≤N):wrap64 (-N)= -N:=by
 unfold wrap64;omega
theorem tri_within {a b c:Int} (h:gA.f a b c=some true):b≤a∧a≤c:=by
 unfold gA.f at h
 split at h
 ·exact⟨by omega,by simpa using h⟩
 simp at h
mutual
def fE.j0:Nat→List (List Int)→Int→Bool→Option (Bool)
 |0,_,_,_=>none
 |k+1,x0,x3,x20=>if x20=true then(some false) else(fE.l0 k x0 x3 [] 0)
def fE.l0:Nat→List (List Int)→Int→List Int→Int→Option (Bool)
 |0,_,_,_,_=>none
 |k+1,x0,x3,x4,x5=>if x5<(x0.length:Int) then(if 0≤x5 then(if((rd_L1 x0 x5).length:Int)=3 then(fE.l1 k x0 x3 x4 x5 0) else(some false)) else(none)) else(some true)
def fE.l1:Nat→List (List Int)→Int→List Int→Int→Int→Option (Bool)
 |0,_,_,_,_,_=>none
 |k+1,x0,x3,x4,x5,x6=>if x6<((rd_L1 x0 x5).length:Int) then(if 0≤x6 then(if(rd (rd_L1 x0 x5) x6)=0 then(some false) else((gA.f (rd (rd_L1 x0 x5) x6) (wrap64 (-x3)) x3).bind fun t224=>(if t224=true then(if(rd (rd_L1 x0 x5) x6)∈x4 then(some false) else(fE.l1 k x0 x3 ((rd (rd_L1 x0 x5) x6) :: x4) x5 (wrap64 (x6+1)))) else(some false)))) else(none)) else(fE.l0 k x0 x3 x4 (wrap64 (x5+1)))
end
def fE.f (k:Nat) (l0:List (List Int)):Option (Bool):=if((l0.length:Int) % 2)=0 then((gA.f (wrap64 (Int.tdiv (wrap64 (3*(l0.length:Int))) 2)) 3 9).bind fun t217=>(fE.j0 k l0 (wrap64 (Int.tdiv (wrap64 (3*(l0.length:Int))) 2)) (!t217))) else(fE.j0 k l0 (wrap64 (Int.tdiv (wrap64 (3*(l0.length:Int))) 2)) true)
theorem fE.calls (k:Nat) (A0:Option Addr) (c0:Nat) (l0:List (List Int)) (r:Bool) (w:World) (By:Kd.C (Kd.slice 3 (Kd.int .i64)) w A0 l0.length l0) (Bz:l0.length≤c0) (h:fE.f k l0=some r):
  Calls Try.prog 24 #[.slice A0 l0.length c0] w fun e w'=>e= .returned (.bool r)∧Below w.heap.size w w':=by
 have Cf:=Az.mk By
 have Ch:=Az.mk Bz
 clear By Bz
 have HB:=Az.mk (Below.refl w.heap.size w)
 have H:(if((l0.length:Int) % 2)=0 then((gA.f (wrap64 (Int.tdiv (wrap64 (3*(l0.length:Int))) 2)) 3 9).bind fun Am=>(fE.j0 k l0 (wrap64 (Int.tdiv (wrap64 (3*(l0.length:Int))) 2)) (!Am))) else(fE.j0 k l0 (wrap64 (Int.tdiv (wrap64 (3*(l0.length:Int))) 2)) true))=some r:=h
 clear h
 have Br:=Az.mk H
 clear H
 have hmm:=@run_makeMap Try.prog
 go_enter Try.func24,Try.ntmps24
 go_upto_region 2 with (fail)
 go_cut [21] (fun Cg wc=>∃(kq:Nat) (Ah:Bool),Cg= .bool Ah∧Az (fE.j0 kq l0 (wrap64 (Int.tdiv (wrap64 (3*(l0.length:Int))) 2)) Ah=some r)∧Az (Ah=false→wrap64 (Int.tdiv (wrap64 (3*(l0.length:Int))) 2)≤9∧3≤wrap64 (Int.tdiv (wrap64 (3*(l0.length:Int))) 2))∧Az (Below w.heap.size w wc))
 case first=>
  have H:=Br.out
  clear Br
  by_cases c3:((l0.length:Int) % 2)=0
  rotate_left
  ·rw[ig c3]at H
   have Ak:=beq_eq_false_iff_ne.mpr c3
   have Bd:=bne_iff_ne.mpr c3
   (first|rw[Ak]|(simp only[i64_w,i32_w];rw[Ak])|skip)
   have H':=Az.mk H
   clear H
   go_wp2
   go_meet
   case rel=>exact⟨_,(true),rq2,H',⟨fun h=>by simp at h⟩,⟨bw_17⟩⟩
  rw[ip c3]at H
  have Ak:=beq_iff_eq.mpr c3
  have Bd:=bne_eq_false_iff_eq.mpr c3
  clear c3
  (first|rw[Ak]|(simp only[i64_w,i32_w];rw[Ak])|skip)
  replace H:=bez H
  obtain⟨Am,A4,H⟩:=H
  try dsimp only at H
  have H':=Az.mk H
  clear H
  go_wp2_with (first|(go_at_call 56;(with_reducible refine(gA.calls (wrap64 (Int.tdiv (wrap64 (3*(l0.length:Int))) 2)) 3 9 Am _ A4.out).mono ?_);rintro e w' ⟨rfl,⟨nd,rfl⟩⟩))
  go_meet
  case rel=>exact⟨_,(!Am),rq2,H',⟨fun h=>by
   have e:Am=true:=by simpa using h
   subst e
   exact(tri_within A4.out).symm⟩,⟨bw_17⟩⟩
 clear Br
 try clear c3
 try clear Ak
 try clear Bd
 obtain⟨kq,Ah,rfl,HA,HN,HB⟩:=hcut
 cases kq with
 |zero=>exact absurd HA.out (by simp[fE.j0])
 |succ Bs=>
  have H:=HA.out
  clear HA
  simp only[fE.j0]at H
  by_cases c5:Ah=true
  ·subst c5
   rw[ip rfl]at H
   obtain rfl:=Option.some.inj H
   go_wp2
   go_ret
   exact⟨rq1,bw_17⟩
  replace c5:=Bool.eq_false_iff.mpr c5
  subst c5
  have H':Az (fE.l0 Bs l0 (wrap64 (Int.tdiv (wrap64 (3*(l0.length:Int))) 2)) [] 0=some r):=⟨by rw[ig ff]at H;exact H⟩
  clear H
  have HN9:=Az.mk (HN.out rfl)
  clear HN
  go_wp2
  go_loopg [25] Bs (fun kq v5 w'=>∃(Ao:List Int) (Ad:Int),v5= .int .i64 Ad∧Az (fE.l0 kq l0 (wrap64 (Int.tdiv (wrap64 (3*(l0.length:Int))) 2)) Ao Ad=some r)∧Az (kq≤Bs)∧Az (TriSeen w' wc.heap.size Ao)∧Az (Below w.heap.size w w'))
  case atStart=>exact⟨([]),(0),rq2,H',⟨Nat.le_refl _⟩,⟨TriSeen.made wc⟩,⟨bw_17⟩⟩
  clear H'
  have HBC:=Az.mk HB.out.size
  clear HB
  obtain⟨Ao,Ad,rfl,HA,HK2,HS,HB⟩:=hrel
  cases gk with
  |zero=>exact absurd HA.out (by simp[fE.l0])
  |succ k2=>
   have H:=HA.out
   clear HA
   simp only[fE.l0]at H
   by_cases Ba:Ad<(l0.length:Int)
   rotate_left
   ·rw[ig Ba]at H
    have Bf:=decide_eq_false Ba
    clear Ba
    obtain rfl:=Option.some.inj H
    go_wp2
    go_ret
    exact⟨rq1,bw_17⟩
   rw[ip Ba]at H
   have Bf:=ode Ba
   clear Ba
   by_cases Bm:0≤Ad
   rotate_left
   ·rw[ig Bm]at H
    exact absurd H (by simp)
   rw[ip Bm]at H
   have Ca:=ode Bm
   clear Bm
   have As:0≤(Ad:Int):=od
   have Au:Ad<(l0.length:Int):=od
   obtain⟨Cb,Bt,Bu,Bv,Af,Ai,Aj⟩:=at_L1 Cf.out Ad As Au
   cases Bv
   replace Af:=kc HB Af
   have Ap:=Az.mk Aj
   have Bn:=Az.mk Ai
   clear Aj Ai
   replace As:=ets As
   replace Au:=ets Au
   by_cases Av:((rd_L1 l0 Ad).length:Int)=3
   rotate_left
   ·rw[ig Av]at H
    have Bh:=beq_eq_false_iff_ne.mpr Av
    have Bi:=bne_iff_ne.mpr Av
    obtain rfl:=Option.some.inj H
    go_wp2
    go_ret
    exact⟨rq1,bw_17⟩
   rw[ip Av]at H
   have Bh:=beq_iff_eq.mpr Av
   have Bi:=bne_eq_false_iff_eq.mpr Av
   clear Av
   have H':=Az.mk H
   clear H
   go_wp2
   go_loopg [34] k2 (fun kq v6 w'=>∃(Al:List Int) (Ae:Int),v6= .int .i64 Ae∧Az (fE.l1 kq l0 (wrap64 (Int.tdiv (wrap64 (3*(l0.length:Int))) 2)) Al Ad Ae=some r)∧Az (kq≤k2)∧Az (TriSeen w' wc.heap.size Al)∧Az (Below w.heap.size w w'))
   case atStart=>exact⟨(Ao),(0),rq2,H',⟨Nat.le_refl _⟩,HS,⟨bw_17⟩⟩
   clear H'
   clear HS Af HB
   obtain⟨Al,Ae,rfl,HA,HK3,HS,HB⟩:=hrel
   cases gk with
   |zero=>exact absurd HA.out (by simp[fE.l1])
   |succ k3=>
    have H:=HA.out
    clear HA
    simp only[fE.l1]at H
    by_cases Bb:Ae<((rd_L1 l0 Ad).length:Int)
    rotate_left
    ·rw[ig Bb]at H
     have Bj:=decide_eq_false Bb
     clear Bb
     have H':=Az.mk H
     clear H
     go_wp2
     go_roundg k3
     case measure=>have:=HK2.out;have:=HK3.out;omega
     case rel=>exact⟨(Al),(wrap64 (Ad+1)),rq2,H',⟨by have:=HK2.out;have:=HK3.out;omega⟩,HS,⟨bw_17⟩⟩
    rw[ip Bb]at H
    have Bj:=ode Bb
    clear Bb
    by_cases Bo:0≤Ae
    rotate_left
    ·rw[ig Bo]at H
     exact absurd H (by simp)
    rw[ip Bo]at H
    have Cc:=ode Bo
    clear Bo
    have Ax:0≤(Ae:Int):=od
    have Ay:Ae<((rd_L1 l0 Ad).length:Int):=od
    obtain⟨Cd,Bw,Ag⟩:=Kd.at_int Ap.out Ae Ax Ay
    cases Bw
    replace Ag:=kc HB Ag
    replace Ax:=ets Ax
    replace Ay:=ets Ay
    obtain⟨X,hX⟩:∃j_:Int,rd (rd_L1 l0 Ad) Ae=j_:=⟨_,rfl⟩
    rw[hX]at H Ag
    clear hX
    by_cases Aq:X=0
    ·rw[ip Aq]at H
     have Bk:=beq_iff_eq.mpr Aq
     have Bl:=bne_eq_false_iff_eq.mpr Aq
     clear Aq
     obtain rfl:=Option.some.inj H
     go_wp2
     go_ret
     exact⟨rq1,bw_17⟩
    rw[ig Aq]at H
    have Bk:=beq_eq_false_iff_ne.mpr Aq
    have Bl:=bne_iff_ne.mpr Aq
    clear Aq
    replace H:=bez H
    obtain⟨Bx,Bp,H⟩:=H
    try dsimp only at H
    by_cases Bq:Bx=true
    rotate_left
    ·replace Bq:=Bool.eq_false_iff.mpr Bq
     subst Bq
     rw[ig ff]at H
     obtain rfl:=Option.some.inj H
     go_wp2_with (first|(go_at_call 56;(with_reducible refine(gA.calls X (wrap64 (-(wrap64 (Int.tdiv (wrap64 (3*(l0.length:Int))) 2)))) (wrap64 (Int.tdiv (wrap64 (3*(l0.length:Int))) 2)) false _ Bp.out).mono ?_);rintro e w' ⟨rfl,⟨nd,rfl⟩⟩))
     go_ret
     exact⟨rq1,bw_17⟩
    subst Bq
    rw[ip rfl]at H
    have HX:=Az.mk (tri_within Bp.out)
    have Ce:Az (-9≤X∧X≤9):=⟨by
     have h1:=HX.out
     have h2:=HN9.out
     rw[tri_neg h2]at h1
     omega⟩
    have HW:Az ((Lit.int .i64 X).wf=true):=⟨WalkArith.wf_i64 (by have:=Ce.out;omega)⟩
    by_cases Bc:X∈Al
    ·rw[ip Bc]at H
     have C22:=Az.mk Bc
     clear Bc
     obtain rfl:=Option.some.inj H
     go_wp2_with (first|(go_at_call 56;(with_reducible refine(gA.calls X (wrap64 (-(wrap64 (Int.tdiv (wrap64 (3*(l0.length:Int))) 2)))) (wrap64 (Int.tdiv (wrap64 (3*(l0.length:Int))) 2)) true _ Bp.out).mono ?_);rintro e w' ⟨rfl,⟨nd,rfl⟩⟩;have hlk:=(HS.out.drewN nd).look HW.out;rw[ode C22.out]at hlk))
     go_ret
     exact⟨rq1,bw_17⟩
    rw[ig Bc]at H
    have C22:=Az.mk Bc
    clear Bc
    have H':=Az.mk H
    clear H
    go_wp2_with (first|(go_at_call 56;(with_reducible refine(gA.calls X (wrap64 (-(wrap64 (Int.tdiv (wrap64 (3*(l0.length:Int))) 2)))) (wrap64 (Int.tdiv (wrap64 (3*(l0.length:Int))) 2)) true _ Bp.out).mono ?_);rintro e w' ⟨rfl,⟨nd,rfl⟩⟩;have hlk:=(HS.out.drewN nd).look HW.out;rw[decide_eq_false C22.out]at hlk;obtain⟨w1,hup,hs1,hg1⟩:=(HS.out.drewN nd).put HW.out Ce.out C22.out;have HS1:=Az.mk hs1;have HG1:=Az.mk hg1;clear hs1 hg1))
    go_roundg k3
    case measure=>have:=HK2.out;have:=HK3.out;omega
    case rel=>exact⟨(X :: Al),(wrap64 (Ae+1)),rq2,H',⟨by have:=HK2.out;have:=HK3.out;omega⟩,HS1,⟨by
     refine Below.grown bw_17 HG1.out HB.out.size (fun j hj=>by cases hj;exact HBC.out)⟩⟩
def jK.f (l0:List Int):Option (List Int):=(some (([]:List Int):List Int)).bind fun y443=>(if y443.length+l0.length<17592186044416 then(some (y443 ++ l0)) else(none))
theorem jK.calls (A0:Option Addr) (c0:Nat) (l0:List Int) (r:List Int) (w:World) (Al:Kd.C (Kd.int .i64) w A0 l0.length l0) (Am:l0.length≤c0) (h:jK.f l0=some r):
  Calls Try.prog 30 #[.slice A0 l0.length c0] w fun e w'=>∃v0_:Value,e= .returned (v0_)∧Kd.R (Kd.int .i64) 3 w' w.heap.size (fun _=>True) v0_ r∧Below w.heap.size w w':=by
 have Ao:=Az.mk Al
 have Aq:=Az.mk Am
 clear Al Am
 have HB:=Az.mk (Below.refl w.heap.size w)
 have H:((some (([]:List Int):List Int)).bind fun Ad=>(if Ad.length+l0.length<17592186044416 then(some (Ad ++ l0)) else(none)))=some r:=h
 clear h
 obtain⟨Ad,hy⟩:∃y_:List Int,y_=(([]:List Int)):=⟨_,rfl⟩
 replace H:(if Ad.length+l0.length<17592186044416 then(some (Ad ++ l0)) else(none))=some r:=rh
 have Ae:=Az.mk hy
 clear hy
 by_cases c2:Ad.length+l0.length<17592186044416
 rotate_left
 ·rw[ig c2]at H
  exact absurd H (by simp)
 rw[ip c2]at H
 have LMc2:=Az.mk c2
 clear c2
 obtain⟨Aj,hy⟩:∃y_:List Int,y_=(Ad ++ l0):=⟨_,rfl⟩
 replace H:(some Aj)=some r:=rh
 have Ag:=Az.mk hy
 clear hy
 obtain rfl:=Option.some.inj H
 go_enter Try.func30,Try.ntmps30
 go_wp2_with (first|((with_reducible refine gtD (N:=3) rfl ?_);refine Kd.R_lit (Kd.int .i64) _ 3 ?hg (N:=3) ?hd (xs:=([]:List Int)) (inner:=[]) (ok:=fun _=>True) (okp:=fun _=>True) ?hr ?hp (fun _ hk=>hk) trivial (Below.refl _ _) (Nat.le_refl _) (by simp) ?_;(case hd=>rfl);(case hg=>rfl);(case hr=>first|(go_simp;done)|(go_simp;rfl));(case hp=>exact(Reps.none _ _));intro Ak w3 Ah hb hg_ hnew_;clear hg_ hnew_;(first|rw[←Ae.out]at Ah|(simp only[Int.reduceToNat]at Ah;rw[←Ae.out]at Ah));have Af:=Az.mk (Kd.R_lower Ah (bwZ bw_17));replace HB:=Az.mk (bwT bw_17 hb);clear hb Ah)|((with_reducible refine gate_builtin (b:= .append) (xs:= #[.tmp 3, .tmp 4]) rfl ?_);at_builtin;refine Kd.R_append_rows (Kd.int .i64) (w0:=w) w.heap.size rfl (.tmp 3) (.tmp 4) 25 3 (.int .i64 0) 8 rfl Try.underlying25 info3 rfl (by decide) (by omega) Ak Ad l0 _ _ _ (fun _=>True) (fun _=>False) rfl rfl ?aO ?aR (fun _ _ h=>h) (fun _ h=>h.elim) ?aF ?aB ?aS ?aL ?_;(case aR=>exact kC (Kd.C_below Ao.out HB.out));(case aB=>exact bw_17);(case aF=>exact(fun _ _=>trivial));(case aO=>exact(kR Af.out));(case aS=>exact(bwZ bw_17));(case aL=>have:=LMc2.out;omega);intro Ap w5 ho hb hg hat;rw[←Ag.out]at ho;have n0_:=Az.mk (hb);have n1_:=Az.mk (ho);clear HB;clear Af;have HB:=n0_;have Ai:=n1_;clear n0_ n1_;clear ho hb hg hat))
 go_ret
 exact⟨_,rq1,kR Ai.out,bw_17⟩
def mG.f (a0:Int) (a1:Int):Option (Int):=if a1=0 then(none) else(if(Int.tmod a0 a1)<0 then(some (wrap64 ((Int.tmod a0 a1)+a1))) else(some (Int.tmod a0 a1)))
theorem mG.calls (a0:Int) (a1:Int) (r:Int) (w:World) (h:mG.f a0 a1=some r):
  Calls Try.prog 57 #[.int .i64 a0, .int .i64 a1] w fun e w'=>e= .returned (.int .i64 r)∧Drawn0 w w':=by
 have H:(if a1=0 then(none) else(if(Int.tmod a0 a1)<0 then(some (wrap64 ((Int.tmod a0 a1)+a1))) else(some (Int.tmod a0 a1))))=some r:=h
 clear h
 by_cases c3:a1=0
 ·rw[ip c3]at H
  exact absurd H (by simp)
 rw[ig c3]at H
 have Ae:=beq_eq_false_iff_ne.mpr c3
 have Af:=bne_iff_ne.mpr c3
 by_cases c4:(Int.tmod a0 a1)<0
 ·rw[ip c4]at H
  have Ad:=ode c4
  clear c4
  obtain rfl:=Option.some.inj H
  go_enter Try.func57,Try.ntmps57
  go_wp2
  go_ret
  exact⟨rq2,kd⟩
 rw[ig c4]at H
 have Ad:=decide_eq_false c4
 clear c4
 obtain rfl:=Option.some.inj H
 go_enter Try.func57,Try.ntmps57
 go_wp2
 go_ret
 exact⟨rq2,kd⟩
theorem bw_18 {n:Nat}{v v':World} (h:Below n v v':=by repeat(first|(with_reducible first|exact HB.out|apply bwA|apply pbN|apply bwD)|exact HB.out)):Below n v v':=h
def jI.f (l0:List Int) (a1:Int):Option (List Int):=if(l0.length:Int)=0 then(some (([]:List Int))) else((mG.f a1 (l0.length:Int)).bind fun t452=>(if 0≤t452 then(if t452≤(l0.length:Int) then((jK.f (l0.drop (t452:Int).toNat)).bind fun t454=>(if t454.length+(l0.take (t452:Int).toNat).length<17592186044416 then(some (t454 ++ (l0.take (t452:Int).toNat))) else(none))) else(none)) else(none)))
def jI.T4:Bool × List (List Nat × List Nat):=(true,[([],[]),([],[]),([0,1],[0,1]),([2],[2]),([],[]),([],[]),([4,5],[4,5]),([3,6,3],[3,6]),([7,7,0,1,2,3,4,5,6,7],[7])])
def jI.B4:List Nat:=[0,0,3,7,0,0,48,127,255]
theorem jI.tab4:rtab .any (opsOf Try.f25 4)=jI.T4:=by kernel_rfl
theorem jI.bits4:waitsOk jI.T4.2 jI.B4=true:=by kernel_rfl
theorem jI.calls (A0:Option Addr) (c0:Nat) (l0:List Int) (a1:Int) (r:List Int) (w:World) (Bd:Kd.C (Kd.int .i64) w A0 l0.length l0) (Bf:l0.length≤c0) (h:jI.f l0 a1=some r):
  Calls Try.prog 25 #[.slice A0 l0.length c0, .int .i64 a1] w fun e w'=>∃v0_:Value,e= .returned (v0_)∧Kd.R (Kd.int .i64) 3 w' w.heap.size (fun _=>True) v0_ r∧Below w.heap.size w w':=by
 have Bh:=Az.mk Bd
 have Bi:=Az.mk Bf
 clear Bd Bf
 have HB:=Az.mk (Below.refl w.heap.size w)
 have H:(if(l0.length:Int)=0 then(some (([]:List Int))) else((mG.f a1 (l0.length:Int)).bind fun Ad=>(if 0≤Ad then(if Ad≤(l0.length:Int) then((jK.f (l0.drop (Ad:Int).toNat)).bind fun Ae=>(if Ae.length+(l0.take (Ad:Int).toNat).length<17592186044416 then(some (Ae ++ (l0.take (Ad:Int).toNat))) else(none))) else(none)) else(none))))=some r:=h
 clear h
 by_cases c3:(l0.length:Int)=0
 ·rw[ip c3]at H
  have Ax:=beq_iff_eq.mpr c3
  have Ay:=bne_eq_false_iff_eq.mpr c3
  clear c3
  obtain⟨Ba,hy⟩:∃y_:List Int,y_=(([]:List Int)):=⟨_,rfl⟩
  replace H:(some Ba)=some r:=rh
  have Af:=Az.mk hy
  clear hy
  obtain rfl:=Option.some.inj H
  go_enter Try.func25,Try.ntmps25
  go_wp2_with (first|((with_reducible refine gtD (N:=8) rfl ?_);refine Kd.R_lit (Kd.int .i64) _ 3 ?hg (N:=8) ?hd (xs:=([]:List Int)) (inner:=[]) (ok:=fun _=>True) (okp:=fun _=>True) ?hr ?hp (fun _ hk=>hk) trivial (Below.refl _ _) (Nat.le_refl _) (by simp) ?_;(case hd=>rfl);(case hg=>rfl);(case hr=>first|(go_simp;done)|(go_simp;rfl));(case hp=>exact(Reps.none _ _));intro Bn w4 Ak hb hg_ hnew_;clear hg_ hnew_;(first|rw[←Af.out]at Ak|(simp only[Int.reduceToNat]at Ak;rw[←Af.out]at Ak));have Al:=Az.mk (Kd.R_lower Ak (bwZ bw_18));replace HB:=Az.mk (bwT bw_18 hb);clear hb Ak))
  go_ret
  exact⟨_,rq1,kR Al.out,bw_18⟩
 rw[ig c3]at H
 have Ax:=beq_eq_false_iff_ne.mpr c3
 have Ay:=bne_iff_ne.mpr c3
 have Bo:¬(l0=[]):=fun h_=>c3 (by rw[h_];rfl)
 replace H:=bez H
 obtain⟨Ad,A6,H⟩:=H
 try dsimp only at H
 by_cases c7:0≤Ad
 rotate_left
 ·rw[ig c7]at H
  exact absurd H (by simp)
 rw[ip c7]at H
 have Bp:=ets c7
 have Bq:=ode c7
 clear c7
 by_cases c8:Ad≤(l0.length:Int)
 rotate_left
 ·rw[ig c8]at H
  exact absurd H (by simp)
 rw[ip c8]at H
 have Br:=ets c8
 have Bs:=ode c8
 clear c8
 replace H:=bez H
 obtain⟨Ae,A9,H⟩:=H
 try dsimp only at H
 have Bj:=ets (od:0≤Ad)
 have Bk:=ets (od:Ad≤(l0.length:Int))
 by_cases Av:Ae.length+(l0.take (Ad:Int).toNat).length<17592186044416
 rotate_left
 ·rw[ig Av]at H
  exact absurd H (by simp)
 rw[ip Av]at H
 have LMc12:=Az.mk Av
 clear Av
 obtain⟨Bb,hy⟩:∃y_:List Int,y_=(Ae ++ (l0.take (Ad:Int).toNat)):=⟨_,rfl⟩
 replace H:(some Bb)=some r:=rh
 have Am:=Az.mk hy
 clear hy
 obtain rfl:=Option.some.inj H
 go_enter Try.func25,Try.ntmps25
 try go_wp2_with (first|((with_reducible refine gtC (f:=57) rfl ?_);refine clz Try.func57 (some 12) #[.int .i64 a1, .int .i64 (l0.length:Int)] ?_;(with_reducible refine(mG.calls a1 (l0.length:Int) Ad _ A6.out).mono ?_);rintro e w' ⟨rfl,⟨nd,rfl⟩⟩;refine⟨_,rfl,?_⟩))
 replace HB:=Az.mk (bwD HB.out)
 obtain⟨Bt,Ag,_,hsz14,_⟩:=info_parts info3
 obtain⟨Bu,hcut14,hA14,hC14⟩:=print_drop_of (P:=Try.prog) (Value.int .i64) 0 25 3 .i64 Try.underlying25 Ag hsz14 A0 c0 l0 Ad (od) (od) Bi.out
 have Ao:=Az.mk (Kd.C_of_reads (h1:=fun _=>rfl) (hA14 _ (Kd.reads_of_C Bh.out)))
 have Ap:=Az.mk hC14
 clear hA14 hC14 Ag hsz14
 obtain⟨Bv,Ah,_,hsz15,_⟩:=info_parts info3
 obtain⟨hcut15,hA15,hC15⟩:=print_take_of (P:=Try.prog) (Value.int .i64) 0 25 3 .i64 Try.underlying25 Ah hsz15 A0 c0 l0 Ad (od) (od) Bi.out
 have Ai:=Az.mk (Kd.C_of_reads (h1:=fun _=>rfl) (hA15 _ (Kd.reads_of_C Bh.out)))
 have Bl:=Az.mk hC15
 clear hA15 hC15 Ah hsz15
 refine start_ (n:=9) (S:=fun w'=>True) (ds:=[]) #[false,false,false,false,false,false,false,false,false] (by kernel_rfl) rfl rfl trivial (fun hHeld=>?_);refine with_tabW jI.tab4 jI.bits4 (fun HT_ HW_=>?_)
 replace HB:=Az.mk (bwD (pbN (Below.refl w.heap.size w) nd))
 generalize (World.drewN w nd).drew=Bx at HB hHeld ⊢
 refine pu (i:=0) (N:=some 13) #[true,false,false,false,false,false,false,false,false] (any_of HT_.out (by kernel_rfl)) ?_
 refine pu (i:=1) (N:=some 14) #[true,true,false,false,false,false,false,false,false] (any_of HT_.out (by kernel_rfl)) ?_
 refine pu (i:=2) (N:=some 15) #[true,true,true,false,false,false,false,false,false] (any_of HT_.out (by kernel_rfl)) ?_
 refine pu (i:=4) (N:=some 17) #[true,true,true,false,true,false,false,false,false] (any_of HT_.out (by kernel_rfl)) ?_
 refine pu (i:=5) (N:=some 18) #[true,true,true,false,true,true,false,false,false] (any_of HT_.out (by kernel_rfl)) ?_
 refine pu (i:=6) (N:=some 19) #[true,true,true,false,true,true,true,false,false] (any_of HT_.out (by kernel_rfl)) ?_
 refine one_ (i:=3) (N:=some 16) #[true,true,true,true,true,true,true,false,false] rfl rfl (one_of HT_.out (by kernel_rfl)) (by decide) (fun K hK=>?_)
 refine goes_ Try.func30 (by kernel_rfl) rfl #[.slice Bu (l0.drop (Ad:Int).toNat).length (c0 - Ad.toNat)] (by rfl) rfl rfl (by(try simp only[List.map_toArray,List.map_cons,List.map_nil]);first|done|(rw[show(l0.drop (Ad:Int).toNat).length=(l0.length - Ad.toNat)from List.length_drop] <;> rfl)|rfl|(simp only[List.length_drop,List.length_take];rfl)) ?_
 with_reducible refine(jK.calls _ _ (l0.drop (Ad:Int).toNat) Ae _ ?Aq ?As A9.out).mono ?_
 (case Aq=>exact kC (Kd.C_below Ao.out HB.out))
 (case As=>exact Ap.out)
 rintro e By ⟨Bc,rfl,Bm,hb⟩
 refine⟨_,rfl,?_⟩
 have Aj:=Az.mk (Kd.R_lower Bm (bwZ bw_18));replace HB:=Az.mk (bwT bw_18 hb)
 (try clear hb)
 (try clear hb2)
 (try clear hk)
 (try clear hi)
 (try clear Bm)
 refine hK.out _ _ trivial (fun hHeld=>?_)
 clear hK K
 refine norm_ (a':=?_) ?_ ?_
 rotate_left
 ·show Act.put _ (some 16) _=_
  exact acq
 refine one_ (i:=7) (N:=some 20) #[true,true,true,true,true,true,true,true,false] rfl rfl (one_of HT_.out (by kernel_rfl)) (by decide) (fun K hK=>?_)
 refine Kd.R_append_rows_step (Kd.int .i64) (w0:=w) w.heap.size (by rfl) (.tmp 16) (.tmp 19) 25 3 (.int .i64 0) 8 rfl Try.underlying25 info3 rfl (by decide) (by omega) Bc Ae (l0.take (Ad:Int).toNat) _ _ _ (fun _=>True) (fun _=>False) rfl rfl ?aO ?aR (fun _ _ h=>h) (fun _ h=>h.elim) ?aF ?aB ?aS ?aL ?_
 (case aR=>first|(refine Eq.mp (congrArg (fun m_=>ReadsRow _ _ _ _ m_ (l0.take (Ad:Int).toNat)) (show(l0.take (Ad:Int).toNat).length=Ad.toNat from(by rw[List.length_take];have h_:(Ad:Int)≤(l0.length:Int):=od;omega))) ?_;repeat(first|exact(Kd.C_below Ai.out HB.out)|(with_reducible refine Kd.C_alloc ?_ _)|(with_reducible refine Kd.C_drewN ?_ _)|(with_reducible refine Kd.C_drew ?_)))|(repeat(first|exact(Kd.C_below Ai.out HB.out)|(with_reducible refine Kd.C_alloc ?_ _)|(with_reducible refine Kd.C_drewN ?_ _)|(with_reducible refine Kd.C_drew ?_))))
 (case aB=>exact bw_18)
 (case aF=>exact(fun _ _=>trivial))
 (case aO=>exact(kR Aj.out))
 (case aS=>exact(bwZ bw_18))
 (case aL=>have:=LMc12.out;have hlx_:=(show(l0.take (Ad:Int).toNat).length=Ad.toNat from(by rw[List.length_take];have h_:(Ad:Int)≤(l0.length:Int):=od;omega));omega)
 intro Bw Bz ho hb hg hat
 rw[←Am.out]at ho
 have n0_:=Az.mk (hb)
 have n1_:=Az.mk (ho)
 clear HB
 clear Aj
 have HB:=n0_
 have Au:=n1_
 clear n0_ n1_
 clear ho hb hg hat
 refine hK.out _ _ trivial (fun hHeld=>?_)
 clear hK K
 refine norm_ (a':=?_) ?_ ?_
 rotate_left
 ·show Act.put _ (some 20) _=_
  exact acq
 refine pu (i:=8) (N:=some 4) #[true,true,true,true,true,true,true,true,true] (any_of HT_.out (by kernel_rfl)) ?_
 refine done_ (done_of HT_.out (by kernel_rfl)) ?_
 try go_wp2
 go_ret
 exact⟨_,rq1,kR Au.out,bw_18⟩
section
open Bool renaming true → T, false → F
abbrev tt_k:Kd (List Int × Nat):=Kd.tag (fun k:Nat=>k) (Kd.slice 3 (Kd.int .i64))
theorem tt_some {α:Type}{d:Kd α}{e:Nat}{w:World}{base:Nat}{ok:Nat→Prop}{A:Option Addr}{n c:Nat}{out:List α} (HO:d.R e w base ok (.slice A n c) out) (h1:0<out.length):∃g:Nat,A=some ⟨g,0,none⟩:=by
 obtain⟨g,cap,eg,_⟩:=Kd.R_form HO h1
 injection eg with ea en ec
 exact⟨g,ea⟩
/-- A row of one's own, read: its header, and it. -/
theorem tt_at {w:World}{base:Nat}{ok:Nat→Prop}{g n c:Nat}{out:List (List Int × Nat)} (HO:tt_k.R 25 w base ok (.slice (some ⟨g,0,none⟩) n c) out){Z:Int} (h0:0≤Z) (h1:Z<(out.length:Int)):
  ∃A1 c1,w.cell? ⟨g,Z.toNat,none⟩=some (.slice A1 (rd_L1 (out.map Prod.fst) Z).length c1)∧(Z<(n:Int))∧Kd.R (Kd.int .i64) 3 w base (fun _=>True) (.slice A1 (rd_L1 (out.map Prod.fst) Z).length c1) (rd_L1 (out.map Prod.fst) Z):=by
 have hn:=(Kd.R_reads' HO).1
 obtain⟨cs,hcl,hM,hcc,_⟩:=Kd.R_elem HO (([]:List Int),0) Z h0 (by omega)
 obtain⟨v,rfl,hv⟩:=hM
 have e:rd_L1 (out.map Prod.fst) Z=(out.getD Z.toNat (([]:List Int),0)).1:=by
  unfold rd_L1
  rw[List.getD_eq_getElem?_getD,List.getD_eq_getElem?_getD,List.getElem?_map]
  cases out[Z.toNat]? <;> rfl
 rw[e]
 obtain⟨A1,c1,rfl⟩:=Kd.R_slice hv
 have hc:=hcc 0 _ rfl
 have e2:Z.toNat*tt_k.sz+0=Z.toNat:=by show Z.toNat*1+0=_;omega
 rw[e2]at hc
 exact⟨A1,c1,hc,by omega,Kd.R_mono hv (fun _ _=>trivial)⟩
theorem tt_first {w:World}{base:Nat}{ok:Nat→Prop}{A:Option Addr}{n c:Nat}{x:List Int} (HO:Kd.R (Kd.int .i64) 3 w base ok (.slice A n c) x) (h1:0<x.length):∃g:Nat,A=some ⟨g,0,none⟩∧w.cell? ⟨g,0,none⟩=some (.int .i64 (rd x 0)):=by
 obtain⟨g,rfl⟩:=tt_some HO h1
 have hn:=(Kd.R_reads' HO).1
 exact⟨g,rfl,(Kd.R_celln 0 HO 0 (by omega) (by omega)).1⟩
theorem tt_own {w:World}{base g n c:Nat}{ok:Nat→Prop}{out:List (List Int × Nat)} (HO:tt_k.R 25 w base ok (.slice (some ⟨g,0,none⟩) n c) out):∃(cur inner:List Value),w.heap[g]?= some (.cells cur.toArray 25 (0,0))∧n≤c∧c≤maxLen∧cur.length=c∧cur.take n=inner∧base≤g∧Reps (tt_k.M w base (fun k=>ok k∧some k≠some g)) 1 out inner∧(∀v∈inner,v.oneCell'=true)∧(∀i v,inner[i]?= some v→w.cell? ⟨g,i,none⟩=some v):=by
 have hn:=(Kd.R_reads' HO).1
 obtain⟨h1,inner,h2,hr⟩:=HO
 have hcell:∀i v,inner[i]?= some v→w.cell? ⟨g,i,none⟩=some v:=fun i v hi=>by
  have:=h2.cells (g:=g) (by simp[Value.ownBlock]) _ v hi
  rwa [add_plain]at this
 have hone:∀v∈inner,v.oneCell'=true:=Kd.reps_one hr (Nat.zero_lt_one) (fun p cs h=>tt_k.K_one (tt_k.K_of_M h))
 rcases h2.2 with ⟨h2,_⟩|⟨g',cap,cur,e1,e2,e3,e4,e5,e6,e7⟩
 ·cases h2
 injection e1 with ea eb ec
 injection ea with ea
 injection ea with ea
 subst ea
 subst ec
 have e6':cur.size=c*1:=e6
 have e7':cur.toList.take (out.length*1)=inner:=e7
 refine⟨cur.toList,inner,by rw[Array.toArray_toList];exact e3,by omega,e5,by rw[Array.length_toList];omega,by rw[Nat.mul_one]at e7';rw[hn];exact e7',e2,?_,hone,hcell⟩
 exact hr.imp_ (fun p cs h=>tt_k.M_mono (fun k hk=>⟨hk.1,by simpa[Value.ownBlock] using hk.2⟩) h)
theorem tt_back {W W4:World}{base g n c q:Nat}{out:List (List Int × Nat)}{z:List Int × Nat}{inner cur:List Value} (hn:n=out.length+1) (hq:q≤out.length) (hr:Reps (tt_k.M W base (fun k=>True∧some k≠some g)) 1 (out ++ [z]) inner) (h1:n≤c) (h2:c≤maxLen) (h3:cur.length=c) (h4:cur.take n=inner) (h5:base≤g)
  (hg:W4.heap[g]?= some (.cells (splice cur (q+1) ((inner.take out.length).drop q)).toArray 25 (0,0))) (hw:W.grownBy W4 (some g)):tt_k.R 25 W4 base (fun _=>True) (.slice (some ⟨g,0,none⟩) n c) ((out ++ [z]).take (q+1) ++ out.drop q):=by
 have hil:inner.length=n:=by have:=hr.1;rw[List.length_append]at this;simp at this;omega
 have hl:((out ++ [z]).take (q+1) ++ out.drop q).length=n:=by rw[List.length_append,List.length_take,List.length_drop,List.length_append];simp;omega
 have Ad:Reps (tt_k.M W4 base (fun k=>True∧some k≠(Value.slice (some ⟨g,0,none⟩) n c).ownBlock)) 1 (out ++ [z]) inner:=hr.imp_ (fun p cs h=>tt_k.M_mono (fun k hk=>⟨hk.1,by simpa[Value.ownBlock] using hk.2⟩) (Kd.M_grown h hw (fun k hk=>hk.2)))
 have ra:=Kd.reps_take (m:=q+1) Ad (by rw[List.length_append];simp;omega)
 have rb:=Kd.reps_drop (m:=q) (Kd.reps_take (m:=out.length) Ad (by rw[List.length_append];simp))
 rw[List.take_left' rfl]at rb
 rw[Nat.mul_one]at ra
 rw[Nat.mul_one,Nat.mul_one]at rb
 refine⟨fun _ _=>trivial,inner.take (q+1) ++ (inner.take out.length).drop q,?_,Kd.reps_append ra rb⟩
 have hlc:((inner.take out.length).drop q).length=out.length - q:=by rw[List.length_drop,List.length_take];omega
 refine⟨by show _=_*1;rw[hl,Nat.mul_one,List.length_append,List.length_take,hlc];omega, .inr ⟨g,c,_,by rw[hl],h5,hg,by rw[hl];exact h1,h2,?_,?_⟩⟩
 ·show _=_*1
  rw[List.size_toArray,length_splice _ _ _ (by rw[hlc];omega),h3,Nat.mul_one]
 show List.take (_*1) _=_
 rw[hl,Nat.mul_one]
 unfold splice
 have e1:cur.take (q+1)=inner.take (q+1):=by
  rw[←h4,List.take_take,Nat.min_eq_left (by omega)]
 rw[List.toList_toArray, ←List.append_assoc,List.take_append_of_le_length (by rw[List.length_append,List.length_take,hlc];omega),e1,List.take_of_length_le (by rw[List.length_append,List.length_take,hlc];omega)]
theorem tt_ne {W:World}{base g n c N:Nat}{out:List (List Int × Nat)}{A1:Option Addr}{n1 c1:Nat}{x:List Int} (HO:tt_k.R 25 W base (fun _=>True) (.slice (some ⟨g,0,none⟩) n c) out) (hx:Kd.R (Kd.int .i64) 3 W base (fun _=>True) (.slice A1 n1 c1) x):Kd.R (Kd.int .i64) 3 W base (fun k=>True∧k≠g) (.slice A1 n1 c1) x:=by
 obtain⟨cells,hc⟩:=Kd.R_typed HO g (by simp[Value.ownBlock])
 exact Kd.R_types hx hc (fun q hq=>by
  have:q=3:=by simpa[Kd.int,Kd.scalar] using hq
  subst this
  decide)
/-- A row laid into its place. -/
theorem tt_put {W:World}{base g n c go co:Nat}{w0:World}{out:List (List Int × Nat)}{x:List Int} (HO:tt_k.R 25 W base (fun _=>True) (.slice (some ⟨g,0,none⟩) n c) out) (HB:Below base w0 W) (hx:Kd.R (Kd.int .i64) 3 W base (fun _=>True) (.slice (some ⟨go,0,none⟩) x.length co) x){Z:Int} (h0:0≤Z) (h1:Z<(out.length:Int)):
  Az (∀W',Drawn0 W W'→tt_k.R 25 (W'.setCell ⟨g,Z.toNat,none⟩ (.slice (some ⟨go,0,none⟩) x.length co)) base (fun _=>True) (.slice (some ⟨g,0,none⟩) n c) (out.set Z.toNat (x,go))∧Below base w0 (W'.setCell ⟨g,Z.toNat,none⟩ (.slice (some ⟨go,0,none⟩) x.length co))):=by
 refine⟨?_⟩
 rintro W' ⟨m,rfl⟩
 have HO':=Kd.R_drewN HO m
 have hx':=Kd.R_tight rfl (tt_ne (N:=0) HO' (Kd.R_drewN hx m))
 have hn:=(Kd.R_reads' HO').1
 have hbg:=Kd.R_base HO' g (by simp[Value.ownBlock])
 have hne:go≠g:=by
  have:=(tt_ne (N:=0) HO' (Kd.R_drewN hx m)).1 go (by simp[Value.ownBlock])
  exact this.2
 obtain⟨cs,hcl,_,hcc,_⟩:=Kd.R_elem HO' (([]:List Int),0) Z h0 (by omega)
 have Ad:cs.length=1:=hcl
 obtain⟨u,rfl⟩:=List.length_eq_one_iff.1 Ad
 have hseg:=Kd.R_seg HO' Z h0 (by omega) hcl hcc (j:=0) (seg:=[.slice (some ⟨go,0,none⟩) x.length co]) (by show 0+1≤1;omega) (x':=(x,go)) (okp:=fun k=>k=go) (by
  refine⟨_,rfl,?_⟩
  exact Kd.R_mono hx' (fun k hk=>by
   have:k=go:=by simpa[Value.ownBlock] using hk
   exact⟨this,this⟩)) (fun k hk=>⟨trivial,by rw[hk];exact hne⟩)
 have e2:Z.toNat*tt_k.sz+0=Z.toNat:=by show Z.toNat*1+0=_;omega
 rw[e2]at hseg
 exact⟨hseg.1,(pbN HB m).setCell hbg _⟩
theorem tt_putL {α:Type}{out:List α}{z X:α}{q:Nat} (hq:q≤out.length):((out ++ [z]).take (q+1) ++ out.drop q).set q X=out.take q ++ (X :: out.drop q):=by
 have hl:((out ++ [z]).take (q+1)).length=q+1:=by rw[List.length_take,List.length_append];simp;omega
 rw[List.set_append_left _ _ (by omega)]
 have e:(out ++ [z]).take (q+1)=out.take q ++ [(out ++ [z])[q]'(by rw[List.length_append];simp;omega)]:=by
  rw[List.take_succ_eq_append_getElem (by rw[List.length_append];simp;omega),List.take_append_of_le_length hq]
 rw[e,List.set_append_right _ _ (by rw[List.length_take];omega),List.length_take,show q - min q out.length=0 by omega,List.set_cons_zero,List.append_assoc]
 rfl
/-- Labels that are all different: the rows lie apart. -/
theorem tt_S {w:World}{base:Nat}{v:Value}{out:List (List Int × Nat)} (HO:tt_k.R 25 w base (fun _=>True) v out) (hd:(out.map Prod.snd).Nodup):Kd.S (Kd.slice 3 (Kd.int .i64)) 25 w base (fun _=>True) v (out.map Prod.fst):=by
 obtain⟨h0,inner,ho,hr⟩:=HO
 refine⟨fun k=>(out.map Prod.snd).idxOf k,h0,inner,by rw[List.length_zipIdx,List.length_map];exact ho,by rw[List.length_zipIdx,List.length_map];exact hr.1,fun j p hj=>?_⟩
 rw[List.getElem?_zipIdx,Nat.zero_add,List.getElem?_map]at hj
 obtain⟨x,hx,rfl⟩:=Option.map_eq_some_iff.1 hj
 obtain⟨y,hy,rfl⟩:=Option.map_eq_some_iff.1 hx
 obtain⟨hlt,ey⟩:=List.getElem?_eq_some_iff.1 hy
 have hM:(Kd.slice 3 (Kd.int .i64)).M w base (fun k=>(True∧some k≠v.ownBlock)∧k=y.2) y.1 ((inner.drop (j*1)).take 1):=hr.2 j y hy
 refine(Kd.slice 3 (Kd.int .i64)).M_mono (fun k hk=>⟨hk.1,?_⟩) hM
 rw[hk.2, ←ey]
 have:=hd.idxOf_getElem j (by rw[List.length_map];exact hlt)
 rw[List.getElem_map]at this
 exact this
theorem tt_labels {α:Type}{out:List (α × Nat)}{N go:Nat}{X:α}{q:Nat} (hd:(out.map Prod.snd).Nodup) (hN:∀p∈out,p.2<N) (hg:N≤go):((out.take q ++ ((X,go) :: out.drop q)).map Prod.snd).Nodup∧∀p∈out.take q ++ ((X,go) :: out.drop q),p.2<go+1:=by
 have hp:List.Perm (out.take q ++ ((X,go) :: out.drop q)) ((X,go) :: out):=by
  refine List.perm_middle.trans ?_
  rw[List.take_append_drop]
 refine⟨?_,fun p hp'=>?_⟩
 ·refine(hp.map Prod.snd).nodup_iff.2 ?_
  rw[List.map_cons]
  refine List.nodup_cons.2 ⟨fun h=>?_,hd⟩
  obtain⟨p,hp1,hp2⟩:=List.mem_map.1 h
  have:=hN p hp1
  omega
 rcases List.mem_cons.1 (hp.mem_iff.1 hp')with rfl|h
 ·show go<go+1
  omega
 have:=hN p h
 omega
open Go.RowKit in
theorem step_copy_keep {P:Program}{ops:Array Oper}{o:Oper}{a:Act}{w:World}{K:Act→World→Prop}{Q:Exit→Act→World→Prop}{E:Prop} (hgd:o.guard=none) (d s:Operand) (dT sT:TypeId)
  (ho:o.op= .call { callee:= .builtin .copy,args:= #[d,s],argTypes:= #[dT,sT] }) (elem:TypeId) (hu:P.underlying dT=some (.slice elem)) (hsz:(P.info? elem).map (·.size)=some 1)
  (dp sp:Option Addr) (dLen dCap sLen sCap:Nat) (hd:a.eval d= .slice dp dLen dCap) (hs:a.eval s= .slice sp sLen sCap)
  (g off:Nat) (cur:List Value) (t:TypeId) (hg:w.heap[g]?= some (.cells cur.toArray t (0,0))) (cs:List Value) (hn:cs.length=Nat.min sLen dLen)
  (hpos:0<cs.length→dp=some ⟨g,off,none⟩∧∃ad,sp=some ad∧∀j v,cs[j]?= some v→w.cell? (ad.add j)=some v)
  (hfit:off+cs.length≤cur.length) (h1:∀v∈cs,v.oneCell'=true)
  (h:∀w',Az (w'.heap[g]?= some (.cells (splice cur off cs).toArray t (0,0)))→Az (w.grownBy w' (some g))→K (a.put o.dst (goInt cs.length)) w'):
  if Region.wanted o (yielded ops a.tmps)=true then Oper.wp P o a w K Q else E:=by
 have hw:Region.wanted o (yielded ops a.tmps)=true:=by simp[Region.wanted,hgd]
 rw[ip hw]
 by_cases h0:cs.length=0
 ·obtain rfl:cs=[]:=List.eq_nil_of_length_eq_zero h0
  have hrun:=run_copy_none (P:=P) w dT sT o.type elem dp sp dLen dCap sLen sCap hu hsz (by simpa using hn.symm)
  unfold Oper.wp
  simp[execOp,ho,resolve,invoke,builtin,hd,hs,hrun,Result.andThen]
  exact h w ⟨by simpa[splice] using hg⟩ ⟨⟨rfl,rfl,rfl,Nat.le_refl _,fun _ _ _=>rfl⟩⟩
 obtain⟨rfl,ad,rfl,hsrc⟩:=hpos (by omega)
 have hrun:=run_copy_row (P:=P) w dT sT o.type elem g off dLen dCap ad sLen sCap cur.toArray t cs hu hsz hg hn hsrc (by simpa using hfit) h1
 unfold Oper.wp
 simp[execOp,ho,resolve,invoke,builtin,hd,hs,hrun,Result.andThen]
 exact h _ ⟨by simpa[splice] using setRow_heap w g _ _ t _ hg⟩ ⟨⟨rfl,rfl,rfl,by simp[World.setRow],fun k _ hk=>setRow_other w g k _ (fun e=>hk (by rw[e]))⟩⟩
theorem tt_w {q:Int}{n:Nat} (h0:0≤q) (h1:q≤(n:Int)) (h2:n<5864062014805):wrap64 (q+1)=q+1:=by
 unfold wrap64
 omega
theorem tt_w1 {q:Int}{n:Nat} (h0:q>0) (h1:q≤(n:Int)) (h2:n<5864062014805):wrap64 (q - 1)=q - 1:=by
 unfold wrap64
 omega
theorem tt_ht:∀q,q∈3 :: (Kd.int .i64).E→q≠25:=fun q hq=>by
 have:q=3:=by simpa[Kd.int,Kd.scalar] using hq
 subst this
 decide
theorem tt_cell {w:World}{base:Nat}{ok:Nat→Prop}{g n c:Nat}{out:List (List Int × Nat)} (HO:tt_k.R 25 w base ok (.slice (some ⟨g,0,none⟩) n c) out){Z:Int} (h0:0≤Z) (h1:Z<(out.length:Int)):
  ∃u,w.cell? ⟨g,Z.toNat,none⟩=some u∧w.frozen? ⟨g,Z.toNat,none⟩=false∧(Z<(n:Int)):=by
 have hn:=(Kd.R_reads' HO).1
 obtain⟨cs,hcl,hM,hcc,hf⟩:=Kd.R_elem HO (([]:List Int),0) Z h0 (by omega)
 obtain⟨v,rfl,hv⟩:=hM
 have hc:=hcc 0 _ rfl
 have Ad:=hf 0
 have e2:Z.toNat*tt_k.sz+0=Z.toNat:=by show Z.toNat*1+0=_;omega
 rw[e2]at hc Ad
 exact⟨v,hc,Ad,by omega⟩
theorem tt_head {w:World}{base:Nat}{ok:Nat→Prop}{g n c:Nat}{x:List Int} (HO:Kd.R (Kd.int .i64) 3 w base ok (.slice (some ⟨g,0,none⟩) n c) x) (h1:0<x.length):w.cell? ⟨g,0,none⟩=some (.int .i64 (rd x 0)):=by
 have hn:=(Kd.R_reads' HO).1
 exact(Kd.R_celln 0 HO 0 (by omega) (by omega)).1
/-- Behind the store: the row, what lies below, and the labels. -/
theorem tt_done {W:World}{base g n c go co:Nat}{w0:World}{ps:List (List Int × Nat)}{z:List Int × Nat}{x:List Int}{q:Int} (hq0:0≤q) (hq1:q≤(ps.length:Int)) (HO:tt_k.R 25 W base (fun _=>True) (.slice (some ⟨g,0,none⟩) n c) ((ps ++ [z]).take (q.toNat+1) ++ ps.drop q.toNat)) (HB:Below base w0 W) (hx:Kd.R (Kd.int .i64) 3 W base (fun _=>True) (.slice (some ⟨go,0,none⟩) x.length co) x) (hL:(ps.map Prod.snd).Nodup∧∀p∈ps,p.2<go):
  Az (∀W',Drawn0 W W'→tt_k.R 25 (W'.setCell ⟨g,q.toNat,none⟩ (.slice (some ⟨go,0,none⟩) x.length co)) base (fun _=>True) (.slice (some ⟨g,0,none⟩) n c) (ps.take q.toNat ++ ((x,go) :: ps.drop q.toNat))∧Below base w0 (W'.setCell ⟨g,q.toNat,none⟩ (.slice (some ⟨go,0,none⟩) x.length co))∧((ps.take q.toNat ++ ((x,go) :: ps.drop q.toNat)).map Prod.snd).Nodup∧∀p∈ps.take q.toNat ++ ((x,go) :: ps.drop q.toNat),p.2<(W'.setCell ⟨g,q.toNat,none⟩ (.slice (some ⟨go,0,none⟩) x.length co)).heap.size):=by
 refine⟨fun W' hW=>?_⟩
 have Ad:((ps ++ [z]).take (q.toNat+1) ++ ps.drop q.toNat).length=ps.length+1:=by rw[List.length_append,List.length_take,List.length_drop,List.length_append];simp;omega
 obtain⟨h1,h2⟩:=(tt_put HO HB hx hq0 (by omega)).out W' hW
 rw[tt_putL (by omega)]at h1
 obtain⟨h3,h4⟩:=tt_labels (X:=x) (q:=q.toNat) hL.1 hL.2 (Nat.le_refl go)
 refine⟨h1,h2,h3,fun p hp=>?_⟩
 have h5:=h4 p hp
 have hgo:go<(W'.setCell ⟨g,q.toNat,none⟩ (.slice (some ⟨go,0,none⟩) x.length co)).heap.size:=by
  obtain⟨m,rfl⟩:=hW
  have a1:=Kd.R_lt (Kd.R_drewN hx m) go (by simp[Value.ownBlock])
  have a2:=((Below.refl g (W.drewN m)).setCell (p:=⟨g,q.toNat,none⟩) (Nat.le_refl g) (.slice (some ⟨go,0,none⟩) x.length co)).size
  exact Nat.lt_of_lt_of_le a1 a2
 omega
theorem tt_map {ps:List (List Int × Nat)}{x:List Int}{go q:Nat}:(ps.take q ++ ((x,go) :: ps.drop q)).map Prod.fst=(ps.map Prod.fst).take q ++ (x :: (ps.map Prod.fst).drop q):=by
 rw[List.map_append,List.map_cons,List.map_take,List.map_drop]
mutual
def fA.l0:Nat→List (List Int)→List (List Int)→Int→Option (List (List Int))
 |0,_,_,_=>none
 |k+1,t,out,i=>if i<(t.length:Int) then(if 0≤i then fA.l1 k t out i 0 0 else none)else some out
def fA.l1:Nat→List (List Int)→List (List Int)→Int→Int→Int→Option (List (List Int))
 |0,_,_,_,_,_=>none
 |k+1,t,out,i,m,j=>if j<((rd_L1 t i).length:Int) then(if 0≤j then(if 0≤m then(if m<((rd_L1 t i).length:Int) then(if rd (rd_L1 t i) j<rd (rd_L1 t i) m then fA.l1 k t out i j (wrap64 (j+1))else fA.l1 k t out i m (wrap64 (j+1)))else none)else none)else none) else((jI.f (rd_L1 t i) m).bind fun own=>(if 0<own.length then fA.l2 k t out i own (out.length:Int)else none))
def fA.l2:Nat→List (List Int)→List (List Int)→Int→List Int→Int→Option (List (List Int))
 |0,_,_,_,_,_=>none
 |k+1,t,out,i,own,q=>if 0≤q then(if q≤(out.length:Int) then(if out.length<5864062014805 then(if q>0 then(if 0<(rd_L1 out (q - 1)).length then(if rd (rd_L1 out (q - 1)) 0>rd own 0 then fA.l2 k t out i own (q - 1)else fA.l0 k t (out.take q.toNat ++ (own :: out.drop q.toNat)) (wrap64 (i+1)))else none)else fA.l0 k t (out.take q.toNat ++ (own :: out.drop q.toNat)) (wrap64 (i+1)))else none)else none)else none
end
def fA.f (k:Nat) (t:List (List Int)):Option (List (List Int)):=(fE.f k t).bind fun b=>if b=true then fA.l0 k t [] 0 else some []
def fA.T19:Bool × List (List Nat × List Nat):=(true,[([],[]),([],[]),([1],[1]),([0,2],[0,2]),([],[]),([],[]),([4,5],[4,5]),([3,6],[3,6])])
def fA.B19:List Nat:=[0,0,2,7,0,0,48,127]
theorem fA.tab19:rtab .any (opsOf Try.f8 19)=fA.T19:=by kernel_rfl
theorem fA.bits19:waitsOk fA.T19.2 fA.B19=true:=by kernel_rfl
set_option maxHeartbeats 16000000 in
theorem fA.calls (k:Nat) (A0:Option Addr) (c0:Nat) (l0:List (List Int)) (r:List (List Int)) (w:World) (Ba:Kd.C (Kd.slice 3 (Kd.int .i64)) w A0 l0.length l0) (Bb:l0.length≤c0) (h:fA.f k l0=some r):
  Calls Try.prog 8 #[.slice A0 l0.length c0] w fun e w'=>∃v0_:Value,e= .returned (v0_)∧Kd.S (Kd.slice 3 (Kd.int .i64)) 25 w' w.heap.size (fun _=>True) v0_ r∧Below w.heap.size w w':=by
 have Ai:=Az.mk Ba
 have Bc:=Az.mk Bb
 clear Ba Bb
 have HBs:=Az.mk (Below.refl w.heap.size w)
 unfold fA.f at h
 replace h:=Option.bind_eq_some_iff.mp h
 obtain⟨b,T0,h⟩:=h
 have T0:=Az.mk T0
 by_cases p1:b=true
 rotate_left
 ·rw[ig p1]at h
  replace p1:=Bool.eq_false_iff.mpr p1
  subst p1
  obtain rfl:=Option.some.inj h
  go_enter Try.func8,Try.ntmps8
  go_wp2_with (first
   |(go_at_call 24;refine(fE.calls k A0 c0 l0 false _ (by first|exact Kd.C_drewN Ai.out _|exact Ai.out) Bc.out T0.out).mono ?_;rintro e W0 ⟨rfl,hb⟩;have HB0:=Az.mk (bwT (by first|exact HBs.out|exact pbN HBs.out _) hb);clear hb T0 HBs))
  go_ret
  exact⟨_,rfl,Kd.S_nil _ _ _ _ _,by first|exact HB0.out|exact pbN HB0.out _⟩
 rw[ip p1]at h
 subst p1
 have H':=Az.mk h
 clear h
 go_enter Try.func8,Try.ntmps8
 go_wp2_with (first
  |(go_at_call 24;refine(fE.calls k A0 c0 l0 true _ (by first|exact Kd.C_drewN Ai.out _|exact Ai.out) Bc.out T0.out).mono ?_;rintro e W0 ⟨rfl,hb⟩;have HB0:=Az.mk (bwT (by first|exact HBs.out|exact pbN HBs.out _) hb);clear hb T0 HBs)
  |((with_reducible refine gtD (N:=14) rfl ?_);refine Kd.R_lit tt_k _ 25 ?hg (N:=14) ?hd (xs:=([]:List (List Int × Nat))) (inner:=[]) (ok:=fun _=>True) (okp:=fun _=>True) ?hr ?hp (fun _ hk=>hk) trivial (Below.refl _ _) (Nat.le_refl _) (by simp) ?_;(case hd=>rfl);(case hg=>rfl);(case hr=>first|(go_simp;done)|(go_simp;rfl));(case hp=>exact Reps.none _ _);intro v1 W1 ho hb hg hat;have HO:=Az.mk (Kd.R_lower (base':=w.heap.size) ho (by first|exact HB0.out.size|exact(pbN HB0.out _).size));have HB:=Az.mk (bwT (by first|exact HB0.out|exact pbN HB0.out _) hb);clear ho hb hg hat HB0;obtain⟨A,c,e2⟩:=Kd.R_slice HO.out;subst e2))
 go_loopg [3,17] k (fun kq v3 Bh w'=>∃(ps:List (List Int × Nat)) (i_1:Int) (A:Option Addr) (c:Nat),v3= .slice A ps.length c∧Bh= .int .i64 i_1∧Az (fA.l0 kq l0 (ps.map Prod.fst) i_1=some r)∧Az (kq≤k)∧Az (tt_k.R 25 w' w.heap.size (fun _=>True) (.slice A ps.length c) ps)∧Az (Below w.heap.size w w')∧Az ((ps.map Prod.snd).Nodup∧∀p∈ps,p.2<w'.heap.size))
 case atStart=>exact⟨[],0,_,_,rfl,rfl,H',⟨Nat.le_refl _⟩,HO,HB,⟨List.nodup_nil,fun p hp=>by cases hp⟩⟩
 clear H' HO HB
 obtain⟨ps,i_1,A,c,rfl,rfl,HA,HK1,HO,HB,HLB⟩:=hrel
 cases gk with
 |zero=>exact absurd HA.out (by simp[fA.l0])
 |succ k1=>
  have H:=HA.out
  clear HA
  simp only[fA.l0]at H
  by_cases b1:i_1<(l0.length:Int)
  rotate_left
  ·rw[ig b1]at H
   have b1b:decide (i_1<(l0.length:Int))=false:=decide_eq_false b1
   clear b1
   obtain rfl:=Option.some.inj H
   go_wp2
   go_ret
   exact⟨_,rfl,tt_S (by first|exact HO.out|exact Kd.R_drewN HO.out _) HLB.out.1,by first|exact HB.out|exact pbN HB.out _⟩
  rw[ip b1]at H
  by_cases b0:0≤i_1
  rotate_left
  ·rw[ig b0]at H
   exact absurd H (by simp)
  rw[ip b0]at H
  obtain⟨Bn,A5,c5,e5,Au,Av,Ax⟩:=at_L1 Ai.out i_1 b0 b1
  cases e5
  replace Au:=kc HB Au
  obtain⟨sd,hsd⟩:∃s_:List Int,rd_L1 l0 i_1=s_:=⟨_,rfl⟩
  rw[hsd]at Au Av Ax
  have HCs:=Az.mk Ax
  have HLs:=Az.mk Av
  have HSD:=Az.mk hsd
  have b1b:=ode b1
  replace b0:=ets b0
  replace b1:=ets b1
  have H':=Az.mk H
  clear H hsd Ax Av
  go_wp2
  go_loopg [6,23] k1 (fun kq v6 Bi w'=>∃(m_1 j_1:Int),v6= .int .i64 m_1∧Bi= .int .i64 j_1∧Az (fA.l1 kq l0 (ps.map Prod.fst) i_1 m_1 j_1=some r)∧Az (kq≤k1)∧Az (tt_k.R 25 w' w.heap.size (fun _=>True) (.slice A ps.length c) ps)∧Az (Below w.heap.size w w')∧Az ((ps.map Prod.snd).Nodup∧∀p∈ps,p.2<w'.heap.size))
  case atStart=>exact⟨0,0,rfl,rfl,H',⟨Nat.le_refl _⟩,⟨by first|exact HO.out|exact Kd.R_drewN HO.out _⟩,⟨by first|exact HB.out|exact pbN HB.out _⟩,⟨HLB.out.1,fun p hp=>by first|exact HLB.out.2 p hp|exact Nat.lt_of_lt_of_le (HLB.out.2 p hp) (pbN (Below.refl 0 _) _).size⟩⟩
  clear H' HO HB HLB Au
  obtain⟨m_1,j_1,rfl,rfl,HA,HK2,HO,HB,HLB⟩:=hrel
  cases gk with
  |zero=>exact absurd HA.out (by simp[fA.l1])
  |succ k2=>
   have H:=HA.out
   clear HA
   simp only[fA.l1]at H
   rw[HSD.out]at H
   by_cases c1:j_1<(sd.length:Int)
   ·rw[ip c1]at H
    by_cases c2:0≤j_1
    rotate_left
    ·rw[ig c2]at H
     exact absurd H (by simp)
    rw[ip c2]at H
    by_cases c3:0≤m_1
    rotate_left
    ·rw[ig c3]at H
     exact absurd H (by simp)
    rw[ip c3]at H
    by_cases c4:m_1<(sd.length:Int)
    rotate_left
    ·rw[ig c4]at H
     exact absurd H (by simp)
    rw[ip c4]at H
    obtain⟨adj,ej,hxj⟩:=Kd.at_int HCs.out j_1 c2 c1
    cases ej
    replace hxj:=kc HB hxj
    obtain⟨adm,em,hxm⟩:=Kd.at_int HCs.out m_1 c3 c4
    cases em
    replace hxm:=kc HB hxm
    obtain⟨X,hX⟩:∃j_:Int,rd sd j_1=j_:=⟨_,rfl⟩
    obtain⟨Y,hY⟩:∃j_:Int,rd sd m_1=j_:=⟨_,rfl⟩
    rw[hX]at hxj H
    rw[hY]at hxm H
    have c1b:=ode c1
    replace c1:=ets c1
    replace c2:=ets c2
    replace c3:=ets c3
    replace c4:=ets c4
    clear hX hY
    by_cases c5:X<Y
    ·rw[ip c5]at H
     have c5b:=ode c5
     have H':=Az.mk H
     clear H c5
     go_wp2
     go_roundg k2
     case measure=>have:=HK2.out;omega
     case rel=>exact⟨_,_,rfl,rfl,H',⟨by have:=HK2.out;omega⟩,⟨by first|exact HO.out|exact Kd.R_drewN HO.out _⟩,⟨by first|exact HB.out|exact pbN HB.out _⟩,⟨HLB.out.1,fun p hp=>by first|exact HLB.out.2 p hp|exact Nat.lt_of_lt_of_le (HLB.out.2 p hp) (pbN (Below.refl 0 _) _).size⟩⟩
    rw[ig c5]at H
    have c5b:=decide_eq_false c5
    have H':=Az.mk H
    clear H c5
    go_wp2
    go_roundg k2
    case measure=>have:=HK2.out;omega
    case rel=>exact⟨_,_,rfl,rfl,H',⟨by have:=HK2.out;omega⟩,⟨by first|exact HO.out|exact Kd.R_drewN HO.out _⟩,⟨by first|exact HB.out|exact pbN HB.out _⟩,⟨HLB.out.1,fun p hp=>by first|exact HLB.out.2 p hp|exact Nat.lt_of_lt_of_le (HLB.out.2 p hp) (pbN (Below.refl 0 _) _).size⟩⟩
   rw[ig c1]at H
   have c1b:decide (j_1<(sd.length:Int))=false:=decide_eq_false c1
   clear c1
   replace H:=Option.bind_eq_some_iff.mp H
   obtain⟨own,T2,H⟩:=H
   have T2:=Az.mk T2
   by_cases c6:0<own.length
   rotate_left
   ·rw[ig c6]at H
    exact absurd H (by simp)
   rw[ip c6]at H
   have HP:=Az.mk c6
   have H':=Az.mk H
   clear H c6
   go_wp2_with (first
    |(go_at_call 25;refine(jI.calls A5 c5 sd m_1 own _ (by first|exact Kd.C_drewN (Kd.C_below HCs.out HB.out) _|exact Kd.C_below HCs.out HB.out) HLs.out T2.out).mono ?_;rintro e W3 ⟨v3,rfl,ho,hb⟩;obtain⟨Aw,cw,ew⟩:=Kd.R_slice ho;subst ew;obtain⟨go,ego⟩:=tt_some ho HP.out;subst ego;have Bd:=Az.mk (show(ps.map Prod.snd).Nodup∧∀p∈ps,p.2<go from⟨HLB.out.1,fun p hp=>Nat.lt_of_lt_of_le (by first|exact HLB.out.2 p hp|exact Nat.lt_of_lt_of_le (HLB.out.2 p hp) (pbN (Below.refl 0 _) _).size) (Kd.R_base ho go (by simp[Value.ownBlock]))⟩);have HOw:=Az.mk (Kd.R_lower (base':=w.heap.size) ho (by first|exact HB.out.size|exact(pbN HB.out _).size));have Bf:=Az.mk (Kd.R_below (by first|exact HO.out|exact Kd.R_drewN HO.out _) hb);have HB3:=Az.mk (bwT (by first|exact HB.out|exact pbN HB.out _) hb);clear ho hb HO HB HLB T2;have HO:=Bf;have HB:=HB3;have HLB:=Bd;clear Bf HB3 Bd))
   go_loopg [10] k2 (fun kq Bj w'=>∃(q_1:Int),Bj= .int .i64 q_1∧Az (fA.l2 kq l0 (ps.map Prod.fst) i_1 own q_1=some r)∧Az (kq≤k2)∧Az (tt_k.R 25 w' w.heap.size (fun _=>True) (.slice A ps.length c) ps)∧Az (Below w.heap.size w w')∧Az (Kd.R (Kd.int .i64) 3 w' w.heap.size (fun _=>True) (.slice (some ⟨go,0,none⟩) own.length cw) own))
   case atStart=>exact⟨_,rfl,⟨by have:=H'.out;rw[List.length_map]at this;exact this⟩,⟨Nat.le_refl _⟩,⟨by first|exact HO.out|exact Kd.R_drewN HO.out _⟩,⟨by first|exact HB.out|exact pbN HB.out _⟩,⟨by first|exact HOw.out|exact Kd.R_drewN HOw.out _⟩⟩
   clear H' HO HB HOw
   obtain⟨q_1,rfl,HA,HK3,HO,HB,HOw⟩:=hrel
   cases gk with
   |zero=>exact absurd HA.out (by simp[fA.l2])
   |succ k3=>
    have H:=HA.out
    clear HA
    simp only[fA.l2,List.length_map]at H
    by_cases d0:0≤q_1
    rotate_left
    ·rw[ig d0]at H
     exact absurd H (by simp)
    rw[ip d0]at H
    by_cases d1:q_1≤(ps.length:Int)
    rotate_left
    ·rw[ig d1]at H
     exact absurd H (by simp)
    rw[ip d1]at H
    by_cases d2:ps.length<5864062014805
    rotate_left
    ·rw[ig d2]at H
     exact absurd H (by simp)
    rw[ip d2]at H
    have LM:=Az.mk d2
    have hq0:=Az.mk d0
    have hq1:=Az.mk d1
    by_cases d3:q_1>0
    rotate_left
    ·rw[ig d3]at H
     have d3b:decide (q_1>0)=false:=decide_eq_false d3
     have d3c:decide (0<q_1)=false:=decide_eq_false d3
     clear d0 d1 d2 d3
     have H':=Az.mk H
     clear H
     obtain⟨Q,hQ0⟩:∃j_:Int,wrap64 (q_1+1)=j_:=⟨_,rfl⟩
     have hQw:IntKind.i64.wrap (q_1+1)=Q:=(i64_w _).trans hQ0
     have hQ:=Az.mk (show Q=q_1+1 from by rw[←hQ0];exact tt_w hq0.out hq1.out LM.out)
     clear hQ0
     go_wp2
     go_quiet (fail)
     go_wp2_with (first|((with_reducible refine gate_builtin (b:= .append) (xs:= #[.tmp 58, .tmp 59]) rfl ?_);at_builtin;refine Kd.R_append tt_k (w0:=w) w.heap.size rfl (.tmp 58) (.tmp 59) 24 25 (.slice none 0 0) 24 rfl Try.underlying24 info25 rfl (by decide) (by omega) (.slice A ps.length c) ps (([]:List Int),0) [.slice none 0 0] (fun _=>True) (fun _=>False) rfl rfl ?aP (fun _ hk=>hk.elim) ?aF ?aO ?aB ?aS ?aL ?_;(case aP=>exact⟨_,rfl,Kd.R_nil _ _ _ _ _⟩);(case aB=>exact(by repeat(first|(with_reducible first|exact HB.out|apply pbN)|exact HB.out)));(case aF=>exact(fun k_ hk_=>trivial));(case aO=>exact(kR HO.out));(case aS=>exact HB.out.size);(case aL=>have:=LM.out;omega);intro v1 W6 ho hb hg hat;obtain⟨A2,c2,e2⟩:=Kd.R_slice ho;subst e2;have Ad:=Az.mk (show tt_k.R 25 W6 w.heap.size (fun _=>True) (.slice A2 (ps.length+1) c2) (ps ++ [(([]:List Int),0)])from by rw[show ps.length+1=(ps ++ [(([]:List Int),0)]).length from by simp];exact ho);have HB2:=Az.mk hb;have HOw2:=Az.mk (Kd.R_over (by first|exact HOw.out|exact Kd.R_drewN HOw.out _) (by first|exact HO.out|exact Kd.R_drewN HO.out _) tt_ht hg);clear ho hb hg hat HO HB HOw;have HB:=HB2;have HOw:=HOw2;clear HB2 HOw2;obtain⟨g,eg⟩:=tt_some Ad.out (by rw[List.length_append];simp);subst eg))
     obtain⟨i0,Ay,_,hsz0,_⟩:=info_parts info25
     obtain⟨DD,hDD0⟩:∃D_:Option Addr,(if c2=Q.toNat then some (⟨g,0,none⟩:Addr)else some ⟨g,Q.toNat,none⟩)=D_:=⟨_,rfl⟩
     obtain⟨SS,hSS0⟩:∃D_:Option Addr,(if c2=q_1.toNat then some (⟨g,0,none⟩:Addr)else some ⟨g,q_1.toNat,none⟩)=D_:=⟨_,rfl⟩
     have hnc:=(Kd.R_reads' Ad.out).2.1
     have hDD:=Az.mk (show q_1<(ps.length:Int)→DD=some ⟨g,q_1.toNat+1,none⟩from fun h_=>by rw[←hDD0,ig (by rw[hQ.out];have:=hq0.out;omega),hQ.out];congr 2;have:=hq0.out;omega)
     have hSS:=Az.mk (show SS=some ⟨g,q_1.toNat,none⟩from by rw[←hSS0,ig (by have:=hq0.out;have:=hq1.out;omega)])
     have zQ0:(0≤Q)=True:=ets (by rw[hQ.out];have:=hq0.out;omega)
     have zQ1:(Q≤(ps.length:Int)+1)=True:=ets (by rw[hQ.out];have:=hq1.out;omega)
     have zq0:(0≤q_1)=True:=ets hq0.out
     have zq1:(q_1≤(ps.length:Int)+1)=True:=ets (by have:=hq1.out;omega)
     clear hnc
     refine start_ (n:=8) (S:=fun w'=>True) (ds:=[7]) #[F,F,F,F,F,F,F,F] (by kernel_rfl) rfl rfl trivial (fun hHeld=>?_)
     refine with_tabW fA.tab19 fA.bits19 (fun HT_ HW_=>?_)
     have HBn:=Az.mk (bwD HB.out)
     have HOn:=Az.mk (Kd.R_drew Ad.out)
     have HWn:=Az.mk (Kd.R_drew HOw.out)
     clear HB Ad HOw
     have HB:=HBn
     have Ad:=HOn
     have HOw:=HWn
     clear HBn HOn HWn
     generalize W6.drew=wd at HB Ad HOw hHeld ⊢
     obtain⟨cur,inner,hcur0,Aj,Ak,Al,Am,Ah,Ae,Af,Ag⟩:=tt_own Ad.out
     have hcur:=Az.mk hcur0
     have Ao:=Az.mk Ae
     have Ap:=Az.mk Af
     have Aq:=Az.mk Ag
     have hil:=Az.mk (show inner.length=ps.length+1 from by have:=Ae.1;rw[List.length_append,List.length_singleton,Nat.mul_one]at this;exact this)
     clear hcur0 Ae Af Ag
     have hcl:=Az.mk (show((inner.take ps.length).drop q_1.toNat).length=ps.length - q_1.toNat from by rw[List.length_drop,List.length_take];have:=hil.out;omega)
     have hcn:=Az.mk (show((inner.take ps.length).drop q_1.toNat).length=Nat.min (ps.length+1 - q_1.toNat) (ps.length+1 - Q.toNat)from by rw[hcl.out];have e2:=hQ.out;have e3:=hq0.out;have e4:=hq1.out;show _=min _ _;omega)
     have hcp:=Az.mk (show 0<((inner.take ps.length).drop q_1.toNat).length→DD=some ⟨g,q_1.toNat+1,none⟩∧∃ad,SS=some ad∧∀j v,((inner.take ps.length).drop q_1.toNat)[j]?= some v→wd.cell? (ad.add j)=some v from by
      intro hlen
      rw[hcl.out]at hlen
      have e2:=hQ.out
      have e3:=hq0.out
      have e4:=hq1.out
      refine⟨hDD.out (by omega),⟨g,q_1.toNat,none⟩,hSS.out,fun j v hv=>?_⟩
      rw[List.getElem?_drop,List.getElem?_take]at hv
      split at hv
      ·have ea:(⟨g,q_1.toNat,none⟩:Addr).add j=⟨g,q_1.toNat+j,none⟩:=by
        unfold Addr.add
        by_cases e:j=0
        ·rw[ip e,e,Nat.add_zero]
        rw[ig e]
       rw[ea]
       exact Aq.out _ _ hv
      cases hv)
     have hcf:=Az.mk (show q_1.toNat+1+((inner.take ps.length).drop q_1.toNat).length≤cur.length from by rw[hcl.out];have e3:=hq0.out;have e4:=hq1.out;omega)
     refine pu (i:=0) (N:=some 61) #[T,F,F,F,F,F,F,F] (any_of HT_.out (by kernel_rfl)) ?_
     refine pu (i:=1) (N:=some 62) #[T,T,F,F,F,F,F,F] (any_of HT_.out (by kernel_rfl)) ?_
     refine pu (i:=2) (N:=some 63) #[T,T,T,F,F,F,F,F] (any_of HT_.out (by kernel_rfl)) ?_
     refine pu (i:=3) (N:=some 64) #[T,T,T,T,F,F,F,F] (any_of HT_.out (by kernel_rfl)) ?_
     refine pu (i:=4) (N:=some 65) #[T,T,T,T,T,F,F,F] (any_of HT_.out (by kernel_rfl)) ?_
     refine pu (i:=5) (N:=some 66) #[T,T,T,T,T,T,F,F] (any_of HT_.out (by kernel_rfl)) ?_
     refine pu (i:=6) (N:=some 67) #[T,T,T,T,T,T,T,F] (any_of HT_.out (by kernel_rfl)) ?_
     refine last_ (i:=7) (N:=some 68) #[T,T,T,T,T,T,T,T] rfl rfl (one_of HT_.out (by kernel_rfl)) (by decide) (fun K hK=>?_)
     refine step_copy_keep rfl (.tmp 64) (.tmp 67) 24 24 rfl 25 Try.underlying24 (by rw[Ay];exact congrArg some hsz0) DD SS _ _ _ _ (by rfl) (by rfl) g (q_1.toNat+1) cur 25 hcur.out ((inner.take ps.length).drop q_1.toNat) hcn.out hcp.out hcf.out (fun v hv=>Ap.out v (List.mem_of_mem_take (List.mem_of_mem_drop hv))) ?_
     intro W4 HG4 HB4
     refine hK.out _ _ ?_
     clear hK K
     refine done_ (done_of HT_.out (by kernel_rfl)) ?_
     have As:=Az.mk (tt_back (q:=q_1.toNat) rfl (by have:=hq0.out;have:=hq1.out;omega) Ao.out Aj Ak Al Am Ah HG4.out HB4.out)
     have HB5:=Az.mk (HB.out.grown HB4.out HB.out.size (fun k_ hk_=>by injection hk_ with hk_;rw[←hk_];exact Ah))
     have HOw4:=Az.mk (Kd.R_mono (ok':=fun _=>True) (Kd.R_grown (tt_ne (N:=0) Ad.out HOw.out) HB4.out (fun k_ hk_ e_=>by injection e_ with e_;exact hk_.2 e_)) (fun _ _=>trivial))
     clear hDD0 hSS0 hDD hSS zQ0 zQ1 zq0 zq1 hHeld Ad hcur hcn hcp hcf hcl hil HG4 HB4 HB HOw Aj Ak Al Am Ah Ao Ap Aq hQw
     obtain⟨u4,Bk,Bl,zn4⟩:=tt_cell As.out hq0.out (show q_1<(((ps ++ [(([]:List Int),0)]).take (q_1.toNat+1) ++ ps.drop q_1.toNat).length:Int)from by rw[List.length_append,List.length_take,List.length_drop,List.length_append];have:=hq0.out;have:=hq1.out;simp;omega)
     have fin4:=tt_done hq0.out hq1.out As.out HB5.out HOw4.out HLB.out
     have zq0:=ets hq0.out
     have zq1:=ets zn4
     have zq2:(q_1<(ps.length:Int)+1)=True:=ets (by have:=hq1.out;omega)
     clear zn4
     go_wp2
     all_goals (go_roundg k3;(case measure=>have:=HK1.out;have:=HK2.out;have:=HK3.out;omega);(case rel=>(have E:=fin4.out _ (by first|exact⟨_,rfl⟩|exact Drawn0.refl _);have el:ps.length+1=(ps.take q_1.toNat ++ ((own,go) :: ps.drop q_1.toNat)).length:=(by rw[List.length_append,List.length_cons,List.length_take,List.length_drop];have:=hq0.out;have:=hq1.out;omega);exact⟨ps.take q_1.toNat ++ ((own,go) :: ps.drop q_1.toNat),_,_,c2,(by rw[el]),rfl,⟨by rw[tt_map];exact H'.out⟩,⟨by have:=HK1.out;have:=HK2.out;have:=HK3.out;omega⟩,⟨(by rw[←el];exact E.1)⟩,⟨E.2.1⟩,⟨E.2.2⟩⟩)))
    rw[ip d3]at H
    obtain⟨g0,eg0⟩:=tt_some HO.out (by omega)
    subst eg0
    obtain⟨Z,hZ⟩:∃j_:Int,q_1 - 1=j_:=⟨_,rfl⟩
    obtain⟨A1,c1,hxr,znq,hR1⟩:=tt_at HO.out (show 0≤Z by omega) (by omega)
    have z0:(0≤Z)=True:=ets (by omega)
    have z1:=ets znq
    have d3b:decide (q_1>0)=true:=ode d3
    have d3c:decide (0<q_1)=true:=ode d3
    have hqw:IntKind.i64.wrap (q_1 - 1)=Z:=(i64_w _).trans ((tt_w1 d3 d1 d2).trans hZ)
    have hqw2:wrap64 (q_1 - 1)=Z:=(tt_w1 d3 d1 d2).trans hZ
    rw[hZ]at H
    clear hZ znq d0 d1 d2 d3
    by_cases e1:0<(rd_L1 (ps.map Prod.fst) Z).length
    rotate_left
    ·rw[ig e1]at H
     exact absurd H (by simp)
    rw[ip e1]at H
    obtain⟨g1,eg1,Bm⟩:=tt_first hR1 e1
    subst eg1
    have hxo:=tt_head HOw.out HP.out
    obtain⟨Y,hY⟩:∃j_:Int,rd (rd_L1 (ps.map Prod.fst) Z) 0=j_:=⟨_,rfl⟩
    obtain⟨X,hX⟩:∃j_:Int,rd own 0=j_:=⟨_,rfl⟩
    rw[hY]at Bm H
    rw[hX]at hxo H
    obtain⟨n1,hn1⟩:∃n_:Nat,(rd_L1 (ps.map Prod.fst) Z).length=n_:=⟨_,rfl⟩
    rw[hn1]at hxr e1
    have zn1:((0:Int)<(n1:Int))=True:=ets (by omega)
    have zn2:(0<n1)=True:=ets e1
    have zo1:((0:Int)<(own.length:Int))=True:=ets (by have:=HP.out;omega)
    have zo2:(0<own.length)=True:=ets HP.out
    clear hY hX hn1 hR1 e1
    by_cases d4:Y>X
    ·rw[ip d4]at H
     have d4b:decide (Y>X)=true:=ode d4
     have d4c:decide (X<Y)=true:=ode d4
     clear d4
     have H':=Az.mk H
     clear H
     go_wp2
     go_quiet (fail)
     go_wp2
     go_roundg k3
     case measure=>have:=HK3.out;omega
     case rel=>exact⟨_,rfl,H',⟨by have:=HK3.out;omega⟩,⟨by first|exact HO.out|exact Kd.R_drewN HO.out _⟩,⟨by first|exact HB.out|exact pbN HB.out _⟩,⟨by first|exact HOw.out|exact Kd.R_drewN HOw.out _⟩⟩
    rw[ig d4]at H
    have d4b:decide (Y>X)=false:=decide_eq_false d4
    have d4c:decide (X<Y)=false:=decide_eq_false d4
    clear d4
    have H':=Az.mk H
    clear H
    obtain⟨Q,hQ0⟩:∃j_:Int,wrap64 (q_1+1)=j_:=⟨_,rfl⟩
    have hQw:IntKind.i64.wrap (q_1+1)=Q:=(i64_w _).trans hQ0
    have hQ:=Az.mk (show Q=q_1+1 from by rw[←hQ0];exact tt_w hq0.out hq1.out LM.out)
    clear hQ0
    go_wp2
    go_quiet (fail)
    go_wp2_with (first|((with_reducible refine gate_builtin (b:= .append) (xs:= #[.tmp 58, .tmp 59]) rfl ?_);at_builtin;refine Kd.R_append tt_k (w0:=w) w.heap.size rfl (.tmp 58) (.tmp 59) 24 25 (.slice none 0 0) 24 rfl Try.underlying24 info25 rfl (by decide) (by omega) (.slice (some ⟨g0,0,none⟩) ps.length c) ps (([]:List Int),0) [.slice none 0 0] (fun _=>True) (fun _=>False) rfl rfl ?aP (fun _ hk=>hk.elim) ?aF ?aO ?aB ?aS ?aL ?_;(case aP=>exact⟨_,rfl,Kd.R_nil _ _ _ _ _⟩);(case aB=>exact(by repeat(first|(with_reducible first|exact HB.out|apply pbN)|exact HB.out)));(case aF=>exact(fun k_ hk_=>trivial));(case aO=>exact(kR HO.out));(case aS=>exact HB.out.size);(case aL=>have:=LM.out;omega);intro v1 W6 ho hb hg hat;obtain⟨A2,c2,e2⟩:=Kd.R_slice ho;subst e2;have Ad:=Az.mk (show tt_k.R 25 W6 w.heap.size (fun _=>True) (.slice A2 (ps.length+1) c2) (ps ++ [(([]:List Int),0)])from by rw[show ps.length+1=(ps ++ [(([]:List Int),0)]).length from by simp];exact ho);have HB2:=Az.mk hb;have HOw2:=Az.mk (Kd.R_over (by first|exact HOw.out|exact Kd.R_drewN HOw.out _) (by first|exact HO.out|exact Kd.R_drewN HO.out _) tt_ht hg);clear ho hb hg hat HO HB HOw;have HB:=HB2;have HOw:=HOw2;clear HB2 HOw2;obtain⟨g,eg⟩:=tt_some Ad.out (by rw[List.length_append];simp);subst eg))
    obtain⟨i0,Ay,_,hsz0,_⟩:=info_parts info25
    obtain⟨DD,hDD0⟩:∃D_:Option Addr,(if c2=Q.toNat then some (⟨g,0,none⟩:Addr)else some ⟨g,Q.toNat,none⟩)=D_:=⟨_,rfl⟩
    obtain⟨SS,hSS0⟩:∃D_:Option Addr,(if c2=q_1.toNat then some (⟨g,0,none⟩:Addr)else some ⟨g,q_1.toNat,none⟩)=D_:=⟨_,rfl⟩
    have hnc:=(Kd.R_reads' Ad.out).2.1
    have hDD:=Az.mk (show q_1<(ps.length:Int)→DD=some ⟨g,q_1.toNat+1,none⟩from fun h_=>by rw[←hDD0,ig (by rw[hQ.out];have:=hq0.out;omega),hQ.out];congr 2;have:=hq0.out;omega)
    have hSS:=Az.mk (show SS=some ⟨g,q_1.toNat,none⟩from by rw[←hSS0,ig (by have:=hq0.out;have:=hq1.out;omega)])
    have zQ0:(0≤Q)=True:=ets (by rw[hQ.out];have:=hq0.out;omega)
    have zQ1:(Q≤(ps.length:Int)+1)=True:=ets (by rw[hQ.out];have:=hq1.out;omega)
    have zq0:(0≤q_1)=True:=ets hq0.out
    have zq1:(q_1≤(ps.length:Int)+1)=True:=ets (by have:=hq1.out;omega)
    clear hnc
    refine start_ (n:=8) (S:=fun w'=>True) (ds:=[7]) #[F,F,F,F,F,F,F,F] (by kernel_rfl) rfl rfl trivial (fun hHeld=>?_)
    refine with_tabW fA.tab19 fA.bits19 (fun HT_ HW_=>?_)
    have HBn:=Az.mk (bwD HB.out)
    have HOn:=Az.mk (Kd.R_drew Ad.out)
    have HWn:=Az.mk (Kd.R_drew HOw.out)
    clear HB Ad HOw
    have HB:=HBn
    have Ad:=HOn
    have HOw:=HWn
    clear HBn HOn HWn
    generalize W6.drew=wd at HB Ad HOw hHeld ⊢
    obtain⟨cur,inner,hcur0,Aj,Ak,Al,Am,Ah,Ae,Af,Ag⟩:=tt_own Ad.out
    have hcur:=Az.mk hcur0
    have Ao:=Az.mk Ae
    have Ap:=Az.mk Af
    have Aq:=Az.mk Ag
    have hil:=Az.mk (show inner.length=ps.length+1 from by have:=Ae.1;rw[List.length_append,List.length_singleton,Nat.mul_one]at this;exact this)
    clear hcur0 Ae Af Ag
    have hcl:=Az.mk (show((inner.take ps.length).drop q_1.toNat).length=ps.length - q_1.toNat from by rw[List.length_drop,List.length_take];have:=hil.out;omega)
    have hcn:=Az.mk (show((inner.take ps.length).drop q_1.toNat).length=Nat.min (ps.length+1 - q_1.toNat) (ps.length+1 - Q.toNat)from by rw[hcl.out];have e2:=hQ.out;have e3:=hq0.out;have e4:=hq1.out;show _=min _ _;omega)
    have hcp:=Az.mk (show 0<((inner.take ps.length).drop q_1.toNat).length→DD=some ⟨g,q_1.toNat+1,none⟩∧∃ad,SS=some ad∧∀j v,((inner.take ps.length).drop q_1.toNat)[j]?= some v→wd.cell? (ad.add j)=some v from by
     intro hlen
     rw[hcl.out]at hlen
     have e2:=hQ.out
     have e3:=hq0.out
     have e4:=hq1.out
     refine⟨hDD.out (by omega),⟨g,q_1.toNat,none⟩,hSS.out,fun j v hv=>?_⟩
     rw[List.getElem?_drop,List.getElem?_take]at hv
     split at hv
     ·have ea:(⟨g,q_1.toNat,none⟩:Addr).add j=⟨g,q_1.toNat+j,none⟩:=by
       unfold Addr.add
       by_cases e:j=0
       ·rw[ip e,e,Nat.add_zero]
       rw[ig e]
      rw[ea]
      exact Aq.out _ _ hv
     cases hv)
    have hcf:=Az.mk (show q_1.toNat+1+((inner.take ps.length).drop q_1.toNat).length≤cur.length from by rw[hcl.out];have e3:=hq0.out;have e4:=hq1.out;omega)
    refine pu (i:=0) (N:=some 61) #[T,F,F,F,F,F,F,F] (any_of HT_.out (by kernel_rfl)) ?_
    refine pu (i:=1) (N:=some 62) #[T,T,F,F,F,F,F,F] (any_of HT_.out (by kernel_rfl)) ?_
    refine pu (i:=2) (N:=some 63) #[T,T,T,F,F,F,F,F] (any_of HT_.out (by kernel_rfl)) ?_
    refine pu (i:=3) (N:=some 64) #[T,T,T,T,F,F,F,F] (any_of HT_.out (by kernel_rfl)) ?_
    refine pu (i:=4) (N:=some 65) #[T,T,T,T,T,F,F,F] (any_of HT_.out (by kernel_rfl)) ?_
    refine pu (i:=5) (N:=some 66) #[T,T,T,T,T,T,F,F] (any_of HT_.out (by kernel_rfl)) ?_
    refine pu (i:=6) (N:=some 67) #[T,T,T,T,T,T,T,F] (any_of HT_.out (by kernel_rfl)) ?_
    refine last_ (i:=7) (N:=some 68) #[T,T,T,T,T,T,T,T] rfl rfl (one_of HT_.out (by kernel_rfl)) (by decide) (fun K hK=>?_)
    refine step_copy_keep rfl (.tmp 64) (.tmp 67) 24 24 rfl 25 Try.underlying24 (by rw[Ay];exact congrArg some hsz0) DD SS _ _ _ _ (by rfl) (by rfl) g (q_1.toNat+1) cur 25 hcur.out ((inner.take ps.length).drop q_1.toNat) hcn.out hcp.out hcf.out (fun v hv=>Ap.out v (List.mem_of_mem_take (List.mem_of_mem_drop hv))) ?_
    intro W4 HG4 HB4
    refine hK.out _ _ ?_
    clear hK K
    refine done_ (done_of HT_.out (by kernel_rfl)) ?_
    have As:=Az.mk (tt_back (q:=q_1.toNat) rfl (by have:=hq0.out;have:=hq1.out;omega) Ao.out Aj Ak Al Am Ah HG4.out HB4.out)
    have HB5:=Az.mk (HB.out.grown HB4.out HB.out.size (fun k_ hk_=>by injection hk_ with hk_;rw[←hk_];exact Ah))
    have HOw4:=Az.mk (Kd.R_mono (ok':=fun _=>True) (Kd.R_grown (tt_ne (N:=0) Ad.out HOw.out) HB4.out (fun k_ hk_ e_=>by injection e_ with e_;exact hk_.2 e_)) (fun _ _=>trivial))
    clear hDD0 hSS0 hDD hSS zQ0 zQ1 zq0 zq1 hHeld Ad hcur hcn hcp hcf hcl hil HG4 HB4 HB HOw Aj Ak Al Am Ah Ao Ap Aq hQw
    obtain⟨u4,Bk,Bl,zn4⟩:=tt_cell As.out hq0.out (show q_1<(((ps ++ [(([]:List Int),0)]).take (q_1.toNat+1) ++ ps.drop q_1.toNat).length:Int)from by rw[List.length_append,List.length_take,List.length_drop,List.length_append];have:=hq0.out;have:=hq1.out;simp;omega)
    have fin4:=tt_done hq0.out hq1.out As.out HB5.out HOw4.out HLB.out
    have zq0:=ets hq0.out
    have zq1:=ets zn4
    have zq2:(q_1<(ps.length:Int)+1)=True:=ets (by have:=hq1.out;omega)
    clear zn4
    go_wp2
    all_goals (go_roundg k3;(case measure=>have:=HK1.out;have:=HK2.out;have:=HK3.out;omega);(case rel=>(have E:=fin4.out _ (by first|exact⟨_,rfl⟩|exact Drawn0.refl _);have el:ps.length+1=(ps.take q_1.toNat ++ ((own,go) :: ps.drop q_1.toNat)).length:=(by rw[List.length_append,List.length_cons,List.length_take,List.length_drop];have:=hq0.out;have:=hq1.out;omega);exact⟨ps.take q_1.toNat ++ ((own,go) :: ps.drop q_1.toNat),_,_,c2,(by rw[el]),rfl,⟨by rw[tt_map];exact H'.out⟩,⟨by have:=HK1.out;have:=HK2.out;have:=HK3.out;omega⟩,⟨(by rw[←el];exact E.1)⟩,⟨E.2.1⟩,⟨E.2.2⟩⟩)))
end
theorem bw_20 {n:Nat}{v v':World} (h:Below n v v':=by repeat(first|(with_reducible first|exact HB.out|apply bwA|apply pbN|apply bwD)|exact HB.out)):Below n v v':=h
theorem ln_20 {P:Prop} (h:P:=by(try simp only[List.map_toArray,List.map_cons,List.map_nil]);first|done|rfl|(simp only[List.length_drop,List.length_take];rfl)):P:=h
def gC.l0:Nat→List Int→List Bool→List Int→Int→Int→Option (Bool)
 |0,_,_,_,_,_=>none
 |k+1,x0,x3,x9,x10,x11=>if x11<x10 then(if 0≤x11 then(if x11<(x9.length:Int) then((gA.f (rd x9 x11) 0 (wrap64 ((x0.length:Int) - 1))).bind fun t465=>(if t465=true then(if 0≤(rd x9 x11) then(if(rd x9 x11)<(x3.length:Int) then(if rdOf false x3 (rd x9 x11)=true then(some false) else(gC.l0 k x0 (x3.set ((rd x9 x11):Int).toNat true) x9 x10 (wrap64 (x11+1)))) else(none)) else(none)) else(some false))) else(none)) else(none)) else(some true)
def gC.f (k:Nat) (l0:List Int):Option (Bool):=if 0≤(l0.length:Int) then(if((l0.length:Int):Int).toNat≤281474976710656 then(gC.l0 k l0 (List.replicate ((l0.length:Int):Int).toNat false) l0 (l0.length:Int) 0) else(none)) else(none)
theorem gC.calls (k:Nat) (A0:Option Addr) (c0:Nat) (l0:List Int) (r:Bool) (w:World) (Cb:Kd.C (Kd.int .i64) w A0 l0.length l0) (Cc:l0.length≤c0) (h:gC.f k l0=some r):
  Calls Try.prog 58 #[.slice A0 l0.length c0] w fun e w'=>e= .returned (.bool r)∧Below w.heap.size w w':=by
 have Bm:=Az.mk Cb
 have Co:=Az.mk Cc
 clear Cb Cc
 have HB:=Az.mk (Below.refl w.heap.size w)
 have H:(if 0≤(l0.length:Int) then(if((l0.length:Int):Int).toNat≤281474976710656 then(gC.l0 k l0 (List.replicate ((l0.length:Int):Int).toNat false) l0 (l0.length:Int) 0) else(none)) else(none))=some r:=h
 clear h
 by_cases c2:0≤(l0.length:Int)
 rotate_left
 ·rw[ig c2]at H
  exact absurd H (by simp)
 rw[ip c2]at H
 have Bn:=ets c2
 have Bo:=ode c2
 clear c2
 by_cases c3:((l0.length:Int):Int).toNat≤281474976710656
 rotate_left
 ·rw[ig c3]at H
  exact absurd H (by simp)
 rw[ip c3]at H
 have Bp:=ets c3
 have Bq:=ode c3
 clear c3
 obtain⟨Ax,hy⟩:∃y_:List Bool,y_=(List.replicate ((l0.length:Int):Int).toNat false):=⟨_,rfl⟩
 replace H:(gC.l0 k l0 Ax l0 (l0.length:Int) 0)=some r:=rh
 have Ao:=Az.mk hy
 clear hy
 have H':=Az.mk H
 clear H
 go_enter Try.func58,Try.ntmps58
 go_wp2_with (first|((with_reducible refine gtD (N:=8) rfl ?_);refine Kd.R_make Kd.bool _ 4 rfl (N:=8) rfl 72 _ _ rfl (l0.length:Int) rfl rfl Try.underlying72 (.bool false) 1 info4 rfl (by decide) (by omega) false (ok:=fun _=>True) (okp:=fun _=>True) rfl (fun _ hk=>hk) trivial (od) (Nat.le_trans (Nat.mul_le_mul_right _ (od:(l0.length:Int).toNat≤281474976710656)) (by omega)) (Below.refl _ _) (Nat.le_refl _) ?_;intro Ay w4 Ba hb hg_ hnew_;clear hg_ hnew_;(first|rw[←Ao.out]at Ba|(simp only[Int.reduceToNat]at Ba;rw[←Ao.out]at Ba));have Bb:=Az.mk (Kd.R_lower Ba (bwZ bw_20));replace HB:=Az.mk (bwT bw_20 hb);clear hb Ba))
 go_loopg [11] k (fun kq Cf w'=>∃(Ag:List Bool) (Ad:Int),Cf= .int .i64 Ad∧Az (gC.l0 kq l0 Ag l0 (l0.length:Int) Ad=some r)∧Az (kq≤k)∧Az (Kd.R Kd.bool 4 w' w.heap.size (fun _=>True) Ay Ag)∧Az (Below w.heap.size w w'))
 case atStart=>exact⟨(Ax),(0),rq2,H',⟨Nat.le_refl _⟩,⟨kR Bb.out⟩,⟨bw_20⟩⟩
 clear H'
 try clear c2
 try clear Bn
 try clear Bo
 try clear c3
 try clear Bp
 try clear Bq
 obtain⟨Ag,Ad,rfl,HA,HK1,Af,HB⟩:=hrel
 cases gk with
 |zero=>exact absurd HA.out (by simp[gC.l0])
 |succ k1=>
  have H:=HA.out
  clear HA
  simp only[gC.l0]at H
  by_cases c6:Ad<(l0.length:Int)
  rotate_left
  ·rw[ig c6]at H
   have Br:=decide_eq_false c6
   clear c6
   obtain rfl:=Option.some.inj H
   go_wp2
   go_ret
   exact⟨rq1,bw_20⟩
  rw[ip c6]at H
  have Br:=ode c6
  clear c6
  by_cases c7:0≤Ad
  rotate_left
  ·rw[ig c7]at H
   exact absurd H (by simp)
  rw[ip c7]at H
  have Cg:=ode c7
  clear c7
  by_cases c8:Ad<(l0.length:Int)
  rotate_left
  ·rw[ig c8]at H
   exact absurd H (by simp)
  rw[ip c8]at H
  have Ch:=ode c8
  clear c8
  replace H:=bez H
  obtain⟨Bs,A9,H⟩:=H
  try dsimp only at H
  by_cases Bi:Bs=true
  rotate_left
  ·replace Bi:=Bool.eq_false_iff.mpr Bi
   subst Bi
   rw[ig ff]at H
   obtain rfl:=Option.some.inj H
   have Ai:0≤(Ad:Int):=od
   have Aj:Ad<(l0.length:Int):=od
   obtain⟨Ap,Am,Ae⟩:=Kd.at_int Bm.out Ad Ai Aj
   cases Am
   replace Ae:=kc HB Ae
   replace Ai:=ets Ai
   replace Aj:=ets Aj
   go_wp2_with (first|((with_reducible refine gtC (f:=56) rfl ?_);refine clz Try.func56 (some 19) #[.int .i64 (rd l0 Ad), .int .i64 0, .int .i64 (wrap64 ((l0.length:Int) - 1))] ?_;(with_reducible refine(gA.calls (rd l0 Ad) 0 (wrap64 ((l0.length:Int) - 1)) false _ A9.out).mono ?_);rintro e w' ⟨rfl,⟨nd,rfl⟩⟩;refine⟨_,rfl,?_⟩))
   go_ret
   exact⟨rq1,bw_20⟩
  subst Bi
  rw[ip rfl]at H
  by_cases Bj:0≤(rd l0 Ad)
  rotate_left
  ·rw[ig Bj]at H
   exact absurd H (by simp)
  rw[ip Bj]at H
  have Cd:=ode Bj
  clear Bj
  by_cases Bk:(rd l0 Ad)<(Ag.length:Int)
  rotate_left
  ·rw[ig Bk]at H
   exact absurd H (by simp)
  rw[ip Bk]at H
  have Ce:=ode Bk
  clear Bk
  obtain⟨bq13,hbq13⟩:∃b_:Bool,b_=(rdOf false Ag (rd l0 Ad)):=⟨_,rfl⟩
  replace H:(if bq13=true then(some false) else(gC.l0 k1 l0 (Ag.set ((rd l0 Ad):Int).toNat true) l0 (l0.length:Int) (wrap64 (Ad+1))))=some r:=by rw[←hbq13]at H;exact H
  have Nbq13:=Az.mk hbq13
  clear hbq13
  by_cases Bl:bq13=true
  ·subst Bl
   rw[ip rfl]at H
   obtain rfl:=Option.some.inj H
   have Ai:0≤(Ad:Int):=od
   have Aj:Ad<(l0.length:Int):=od
   obtain⟨Ap,Am,Ae⟩:=Kd.at_int Bm.out Ad Ai Aj
   cases Am
   replace Ae:=kc HB Ae
   replace Ai:=ets Ai
   replace Aj:=ets Aj
   go_wp2_with (first|((with_reducible refine gtC (f:=56) rfl ?_);refine clz Try.func56 (some 19) #[.int .i64 (rd l0 Ad), .int .i64 0, .int .i64 (wrap64 ((l0.length:Int) - 1))] ?_;(with_reducible refine(gA.calls (rd l0 Ad) 0 (wrap64 ((l0.length:Int) - 1)) true _ A9.out).mono ?_);rintro e w' ⟨rfl,⟨nd,rfl⟩⟩;refine⟨_,rfl,?_⟩;obtain⟨Ci,Cj,Bt⟩:=Kd.R_slice Af.out;subst Bt;have Ak:0≤((rd l0 Ad):Int):=od;have Al:(rd l0 Ad)<(Ag.length:Int):=od;obtain⟨Bc,Aq,Ah⟩:=Kd.at_bool (Kd.R_reads' Af.out).2.2 (rd l0 Ad) Ak Al;(try rw[←Nbq13.out]at Ah);cases Aq;replace Ak:=ets Ak;replace Al:=ets Al))
   go_ret
   exact⟨rq1,bw_20⟩
  replace Bl:=Bool.eq_false_iff.mpr Bl
  subst Bl
  rw[ig ff]at H
  obtain⟨As,hy⟩:∃y_:List Bool,y_=(Ag.set ((rd l0 Ad):Int).toNat true):=⟨_,rfl⟩
  replace H:(gC.l0 k1 l0 As l0 (l0.length:Int) (wrap64 (Ad+1)))=some r:=rh
  have Bd:=Az.mk hy
  clear hy
  have H':=Az.mk H
  clear H
  have Ai:0≤(Ad:Int):=od
  have Aj:Ad<(l0.length:Int):=od
  obtain⟨Ap,Am,Ae⟩:=Kd.at_int Bm.out Ad Ai Aj
  cases Am
  replace Ae:=kc HB Ae
  replace Ai:=ets Ai
  replace Aj:=ets Aj
  go_wp2_with (first|((with_reducible refine gtC (f:=56) rfl ?_);refine clz Try.func56 (some 19) #[.int .i64 (rd l0 Ad), .int .i64 0, .int .i64 (wrap64 ((l0.length:Int) - 1))] ?_;(with_reducible refine(gA.calls (rd l0 Ad) 0 (wrap64 ((l0.length:Int) - 1)) true _ A9.out).mono ?_);rintro e w' ⟨rfl,⟨nd,rfl⟩⟩;refine⟨_,rfl,?_⟩;(try(rw[drewN_self wr];generalize hq_:World.drewN wr _=wr;have n0_:Az (Kd.R Kd.bool 4 wr w.heap.size (fun _=>True) Ay Ag):=⟨by rw[←hq_];exact(kR Af.out)⟩;have n1_:Az (Below w.heap.size w wr):=⟨by rw[←hq_];exact bw_20⟩;clear Af HB hq_;have Af:=n0_;have HB:=n1_;clear n0_ n1_));obtain⟨Ck,Bu,Bv⟩:=Kd.R_slice Af.out;subst Bv;have Ak:0≤((rd l0 Ad):Int):=od;have Al:(rd l0 Ad)<(Ag.length:Int):=od;obtain⟨Bc,Aq,Ah⟩:=Kd.at_bool (Kd.R_reads' Af.out).2.2 (rd l0 Ad) Ak Al;(try rw[←Nbq13.out]at Ah);cases Aq;replace Ak:=ets Ak;replace Al:=ets Al;have Bw:0≤((rd l0 Ad):Int):=od;have Bx:((rd l0 Ad):Int)<((Ag.length:Int):Int):=od;obtain⟨Au,Cl,Bf,Bh,gl16,Cm,HG16⟩:=Kd.R_form Af.out (by omega);(first|cases Bf|(injection Bf with ea_ en_ ec_;(first|subst ea_|(injection ea_ with ea_;subst ea_));subst ec_;clear en_));have GB16:=Az.mk Bh;have Cn:=Az.mk HG16;clear Bh gl16 HG16;(first|simp only[add_plain]at Ah|skip);obtain⟨By,Bz⟩:=Kd.R_celln false Af.out ((rd l0 Ad):Int) Bw Bx;replace Bw:=ets Bw;replace Bx:=ets Bx;obtain⟨hy18_,hz18_⟩:=Kd.R_celln false Af.out ((rd l0 Ad):Int) (od) (od);have Av:=Kd.R_putg Af.out ((rd l0 Ad):Int) true)|((with_reducible refine gate_store (t:=4) (p:=29) rfl ?_);refine store_event (t:=4) (p:=29) (v:=?vo_w19) (w1:=(wr.setCell ⟨Au,((rd l0 Ad):Int).toNat,none⟩ (.bool true))) ?hg ?ho ?hn ?hr ?_;(case ho=>rfl);(case hg=>rfl);(case hn=>rfl);(case hr=>first|(go_simp;done)|(go_simp;rfl));intro Ca hw;have hg:wr.grownBy Ca (some Au):=(by rw[hw];exact Av.2);have hp_:Kd.R Kd.bool 4 Ca w.heap.size (fun _=>True) (.slice (some ⟨Au,0,none⟩) Ag.length Bu) As:=(by rw[hw,Bd.out];exact Av.1);clear Av;replace Af:=Az.mk (hp_);replace HB:=Az.mk ((by rw[hw];exact bwS (HB.out) GB16.out:Below w.heap.size w Ca));clear hg hw hp_))
  go_roundg k1
  case measure=>have:=HK1.out;omega
  case rel=>exact⟨(As),(wrap64 (Ad+1)),rq2,H',⟨by have:=HK1.out;omega⟩,⟨kR Af.out⟩,⟨bw_20⟩⟩
def jN.f (k:Nat) (l0:List Int):Option (Bool):=(gA.f (l0.length:Int) 2 24).bind fun t468=>(if t468=true then(if((l0.length:Int) % 2)=0 then((gC.f k l0).bind fun t469=>(some t469)) else(some false)) else(some false))
theorem jN.calls (k:Nat) (A0:Option Addr) (c0:Nat) (l0:List Int) (r:Bool) (w:World) (Aj:Kd.C (Kd.int .i64) w A0 l0.length l0) (Ak:l0.length≤c0) (h:jN.f k l0=some r):
  Calls Try.prog 26 #[.slice A0 l0.length c0] w fun e w'=>e= .returned (.bool r)∧Below w.heap.size w w':=by
 have Al:=Az.mk Aj
 have Am:=Az.mk Ak
 clear Aj Ak
 have HB:=Az.mk (Below.refl w.heap.size w)
 have H:((gA.f (l0.length:Int) 2 24).bind fun Ae=>(if Ae=true then(if((l0.length:Int) % 2)=0 then((gC.f k l0).bind fun Ad=>(some Ad)) else(some false)) else(some false)))=some r:=h
 clear h
 replace H:=bez H
 obtain⟨Ae,A2,H⟩:=H
 try dsimp only at H
 by_cases c3:Ae=true
 rotate_left
 ·replace c3:=Bool.eq_false_iff.mpr c3
  subst c3
  rw[ig ff]at H
  obtain rfl:=Option.some.inj H
  go_enter Try.func26,Try.ntmps26
  go_wp2_with (first|((with_reducible refine gtC (f:=56) rfl ?_);refine clz Try.func56 (some 5) #[.int .i64 (l0.length:Int), .int .i64 2, .int .i64 24] ?_;(with_reducible refine(gA.calls (l0.length:Int) 2 24 false _ A2.out).mono ?_);rintro e w' ⟨rfl,⟨nd,rfl⟩⟩;refine⟨_,rfl,?_⟩))
  go_ret
  exact⟨rq1,bw_20⟩
 subst c3
 rw[ip rfl]at H
 by_cases c4:((l0.length:Int) % 2)=0
 rotate_left
 ·rw[ig c4]at H
  have Ah:=beq_eq_false_iff_ne.mpr c4
  have Ai:=bne_iff_ne.mpr c4
  obtain rfl:=Option.some.inj H
  go_enter Try.func26,Try.ntmps26
  go_wp2_with (first|((with_reducible refine gtC (f:=56) rfl ?_);refine clz Try.func56 (some 5) #[.int .i64 (l0.length:Int), .int .i64 2, .int .i64 24] ?_;(with_reducible refine(gA.calls (l0.length:Int) 2 24 true _ A2.out).mono ?_);rintro e w' ⟨rfl,⟨nd,rfl⟩⟩;refine⟨_,rfl,?_⟩))
  go_ret
  exact⟨rq1,bw_20⟩
 rw[ip c4]at H
 have Ah:=beq_iff_eq.mpr c4
 have Ai:=bne_eq_false_iff_eq.mpr c4
 clear c4
 replace H:=bez H
 obtain⟨Ad,A5,H⟩:=H
 replace H:(some Ad)=some r:=H
 obtain rfl:=Option.some.inj H
 go_enter Try.func26,Try.ntmps26
 go_wp2_with (first|((with_reducible refine gtC (f:=56) rfl ?_);refine clz Try.func56 (some 5) #[.int .i64 (l0.length:Int), .int .i64 2, .int .i64 24] ?_;(with_reducible refine(gA.calls (l0.length:Int) 2 24 true _ A2.out).mono ?_);rintro e w' ⟨rfl,⟨nd,rfl⟩⟩;refine⟨_,rfl,?_⟩)|(go_at_call 58;(with_reducible refine(gC.calls k _ _ l0 Ad _ ?Af ?Ag A5.out).mono ?_);(case Af=>exact kC Al.out);(case Ag=>exact Am.out);rintro e w6 ⟨rfl,hb⟩;replace HB:=Az.mk (bwT bw_20 hb);(try clear hb)))
 go_ret
 exact⟨rq1,bw_20⟩
def jG.l0:Nat→List Int→List Int→Int→Int→Option (List Int)
 |0,_,_,_,_=>none
 |k+1,x0,x3,x9,x10=>if x10<x9 then(if 0≤(Go.bits .xor .i64 x10 1) then(if(Go.bits .xor .i64 x10 1)<(x0.length:Int) then(if 0≤x10 then(if x10<(x3.length:Int) then(jG.l0 k x0 (x3.set (x10:Int).toNat (rd x0 (Go.bits .xor .i64 x10 1))) x9 (wrap64 (x10+1))) else(none)) else(none)) else(none)) else(none)) else(some x3)
def jG.f (k:Nat) (l0:List Int):Option (List Int):=if 0≤(l0.length:Int) then(if((l0.length:Int):Int).toNat≤35184372088832 then(jG.l0 k l0 (List.replicate ((l0.length:Int):Int).toNat 0) (l0.length:Int) 0) else(none)) else(none)
theorem jG.calls (k:Nat) (A0:Option Addr) (c0:Nat) (l0:List Int) (r:List Int) (w:World) (Bp:Kd.C (Kd.int .i64) w A0 l0.length l0) (Bq:l0.length≤c0) (h:jG.f k l0=some r):
  Calls Try.prog 27 #[.slice A0 l0.length c0] w fun e w'=>∃v0_:Value,e= .returned (v0_)∧Kd.R (Kd.int .i64) 3 w' w.heap.size (fun _=>True) v0_ r∧Below w.heap.size w w':=by
 have Bt:=Az.mk Bp
 have Ca:=Az.mk Bq
 clear Bp Bq
 have HB:=Az.mk (Below.refl w.heap.size w)
 have H:(if 0≤(l0.length:Int) then(if((l0.length:Int):Int).toNat≤35184372088832 then(jG.l0 k l0 (List.replicate ((l0.length:Int):Int).toNat 0) (l0.length:Int) 0) else(none)) else(none))=some r:=h
 clear h
 by_cases c2:0≤(l0.length:Int)
 rotate_left
 ·rw[ig c2]at H
  exact absurd H (by simp)
 rw[ip c2]at H
 have Ay:=ets c2
 have Ba:=ode c2
 clear c2
 by_cases c3:((l0.length:Int):Int).toNat≤35184372088832
 rotate_left
 ·rw[ig c3]at H
  exact absurd H (by simp)
 rw[ip c3]at H
 have Bb:=ets c3
 have Bc:=ode c3
 clear c3
 obtain⟨Ao,hy⟩:∃y_:List Int,y_=(List.replicate ((l0.length:Int):Int).toNat 0):=⟨_,rfl⟩
 replace H:(jG.l0 k l0 Ao (l0.length:Int) 0)=some r:=rh
 have Ah:=Az.mk hy
 clear hy
 have H':=Az.mk H
 clear H
 go_enter Try.func27,Try.ntmps27
 go_wp2_with (first|((with_reducible refine gtD (N:=7) rfl ?_);refine Kd.R_make (Kd.int .i64) _ 3 rfl (N:=7) rfl 25 _ _ rfl (l0.length:Int) rfl rfl Try.underlying25 (.int .i64 0) 8 info3 rfl (by decide) (by omega) 0 (ok:=fun _=>True) (okp:=fun _=>True) rfl (fun _ hk=>hk) trivial (od) (Nat.le_trans (Nat.mul_le_mul_right _ (od:(l0.length:Int).toNat≤35184372088832)) (by omega)) (Below.refl _ _) (Nat.le_refl _) ?_;intro Bd w4 Ap hb hg_ hnew_;clear hg_ hnew_;(first|rw[←Ah.out]at Ap|(simp only[Int.reduceToNat]at Ap;rw[←Ah.out]at Ap));have Aq:=Az.mk (Kd.R_lower Ap (bwZ bw_20));replace HB:=Az.mk (bwT bw_20 hb);clear hb Ap))
 go_loopg [10] k (fun kq Bu w'=>∃(Ae:List Int) (Ad:Int),Bu= .int .i64 Ad∧Az (jG.l0 kq l0 Ae (l0.length:Int) Ad=some r)∧Az (kq≤k)∧Az (Kd.R (Kd.int .i64) 3 w' w.heap.size (fun _=>True) Bd Ae)∧Az (Below w.heap.size w w'))
 case atStart=>exact⟨(Ao),(0),rq2,H',⟨Nat.le_refl _⟩,⟨kR Aq.out⟩,⟨bw_20⟩⟩
 clear H'
 try clear c2
 try clear Ay
 try clear Ba
 try clear c3
 try clear Bb
 try clear Bc
 obtain⟨Ae,Ad,rfl,HA,HK1,Ag,HB⟩:=hrel
 cases gk with
 |zero=>exact absurd HA.out (by simp[jG.l0])
 |succ k1=>
  have H:=HA.out
  clear HA
  simp only[jG.l0]at H
  by_cases c6:Ad<(l0.length:Int)
  rotate_left
  ·rw[ig c6]at H
   have Bf:=decide_eq_false c6
   clear c6
   obtain rfl:=Option.some.inj H
   go_wp2
   go_ret
   exact⟨_,rq1,kR Ag.out,bw_20⟩
  rw[ip c6]at H
  have Bf:=ode c6
  clear c6
  by_cases c7:0≤(Go.bits .xor .i64 Ad 1)
  rotate_left
  ·rw[ig c7]at H
   exact absurd H (by simp)
  rw[ip c7]at H
  have Bv:=ode c7
  clear c7
  by_cases c8:(Go.bits .xor .i64 Ad 1)<(l0.length:Int)
  rotate_left
  ·rw[ig c8]at H
   exact absurd H (by simp)
  rw[ip c8]at H
  have Bw:=ode c8
  clear c8
  by_cases c9:0≤Ad
  rotate_left
  ·rw[ig c9]at H
   exact absurd H (by simp)
  rw[ip c9]at H
  have Bx:=ode c9
  clear c9
  by_cases Ax:Ad<(Ae.length:Int)
  rotate_left
  ·rw[ig Ax]at H
   exact absurd H (by simp)
  rw[ip Ax]at H
  have Br:=ode Ax
  clear Ax
  obtain⟨Ai,hy⟩:∃y_:List Int,y_=(Ae.set (Ad:Int).toNat (rd l0 (Go.bits .xor .i64 Ad 1))):=⟨_,rfl⟩
  replace H:(jG.l0 k1 l0 Ai (l0.length:Int) (wrap64 (Ad+1)))=some r:=rh
  have As:=Az.mk hy
  clear hy
  have H':=Az.mk H
  clear H
  have Aj:0≤((Go.bits .xor .i64 Ad 1):Int):=od
  have Ak:(Go.bits .xor .i64 Ad 1)<(l0.length:Int):=od
  obtain⟨Bs,Bh,Af⟩:=Kd.at_int Bt.out (Go.bits .xor .i64 Ad 1) Aj Ak
  cases Bh
  replace Af:=kc HB Af
  replace Aj:=ets Aj
  replace Ak:=ets Ak
  have Bi:0≤(Ad:Int):=od
  have Bj:(Ad:Int)<((Ae.length:Int):Int):=od
  obtain⟨Al,Bk,Au,Av,gl11,By,HG11⟩:=Kd.R_form Ag.out (by omega)
  (first|cases Au|(injection Au with ea_ en_ ec_;(first|subst ea_|(injection ea_ with ea_;subst ea_));subst ec_;clear en_))
  have Bl:=Az.mk Av
  have Bz:=Az.mk HG11
  clear Av gl11 HG11
  obtain⟨Bm,Bn⟩:=Kd.R_celln 0 Ag.out (Ad:Int) Bi Bj
  replace Bi:=ets Bi
  replace Bj:=ets Bj
  have Am:=Kd.R_putg Ag.out (Ad:Int) (rd l0 (Go.bits .xor .i64 Ad 1))
  go_wp2_with (first|((with_reducible refine gate_store (t:=3) (p:=20) rfl ?_);refine store_event (t:=3) (p:=20) (v:=?vo_w13) (w1:=(wr.setCell ⟨Al,(Ad:Int).toNat,none⟩ (.int .i64 (rd l0 (Go.bits .xor .i64 Ad 1))))) ?hg ?ho ?hn ?hr ?_;(case ho=>rfl);(case hg=>rfl);(case hn=>rfl);(case hr=>first|(go_simp;done)|(go_simp;rfl));intro Bo hw;have hg:wr.grownBy Bo (some Al):=(by rw[hw];exact Am.2);have hp_:Kd.R (Kd.int .i64) 3 Bo w.heap.size (fun _=>True) (.slice (some ⟨Al,0,none⟩) Ae.length Bk) Ai:=(by rw[hw,As.out];exact Am.1);clear Am;replace Ag:=Az.mk (hp_);replace HB:=Az.mk ((by rw[hw];exact bwS (HB.out) Bl.out:Below w.heap.size w Bo));clear hg hw hp_))
  go_roundg k1
  case measure=>have:=HK1.out;omega
  case rel=>exact⟨(Ai),(wrap64 (Ad+1)),rq2,H',⟨by have:=HK1.out;omega⟩,⟨kR Ag.out⟩,⟨bw_20⟩⟩
def jT.f (k:Nat) (l0:List Int):Option (List Int):=(jN.f k l0).bind fun t475=>(if t475=true then((jG.f k l0).bind fun t476=>(some t476)) else(some ([]:List Int)))
theorem jT.calls (k:Nat) (A0:Option Addr) (c0:Nat) (l0:List Int) (r:List Int) (w:World) (Ak:Kd.C (Kd.int .i64) w A0 l0.length l0) (Al:l0.length≤c0) (h:jT.f k l0=some r):
  Calls Try.prog 9 #[.slice A0 l0.length c0] w fun e w'=>∃v0_:Value,e= .returned (v0_)∧Kd.R (Kd.int .i64) 3 w' w.heap.size (fun _=>True) v0_ r∧Below w.heap.size w w':=by
 have Ai:=Az.mk Ak
 have Aj:=Az.mk Al
 clear Ak Al
 have HB:=Az.mk (Below.refl w.heap.size w)
 have H:((jN.f k l0).bind fun Ag=>(if Ag=true then((jG.f k l0).bind fun Af=>(some Af)) else(some ([]:List Int))))=some r:=h
 clear h
 replace H:=bez H
 obtain⟨Ag,A2,H⟩:=H
 try dsimp only at H
 by_cases c3:Ag=true
 rotate_left
 ·replace c3:=Bool.eq_false_iff.mpr c3
  subst c3
  rw[ig ff]at H
  obtain rfl:=Option.some.inj H
  go_enter Try.func9,Try.ntmps9
  go_wp2_with (first|((with_reducible refine gtC (f:=26) rfl ?_);refine clz Try.func26 (some 4) #[.slice A0 l0.length c0] ?_;(with_reducible refine(jN.calls k _ _ l0 false _ ?Ad ?Ae A2.out).mono ?_);(case Ad=>exact kC Ai.out);(case Ae=>exact Aj.out);rintro e w7 ⟨rfl,hb⟩;refine⟨_,rfl,?_⟩;replace HB:=Az.mk (bwT bw_20 hb);(try clear hb)))
  go_ret
  exact⟨_,rq1,by first|exact Kd.R_nil _ _ _ _ _|exact Kd.N_nil _ _ _ _ _|exact Kd.V_nil _ _ _ _ _|exact Kd.Q_nil _ _ _ _ _|exact Kd.S_nil _ _ _ _ _,bw_20⟩
 subst c3
 rw[ip rfl]at H
 replace H:=bez H
 obtain⟨Af,A4,H⟩:=H
 replace H:(some Af)=some r:=H
 obtain rfl:=Option.some.inj H
 go_enter Try.func9,Try.ntmps9
 go_wp2_with (first|((with_reducible refine gtC (f:=26) rfl ?_);refine clz Try.func26 (some 4) #[.slice A0 l0.length c0] ?_;(with_reducible refine(jN.calls k _ _ l0 true _ ?Ad ?Ae A2.out).mono ?_);(case Ad=>exact kC Ai.out);(case Ae=>exact Aj.out);rintro e w5 ⟨rfl,hb⟩;refine⟨_,rfl,?_⟩;replace HB:=Az.mk (bwT bw_20 hb);(try clear hb))|((with_reducible refine gtC (f:=27) rfl ?_);refine clz Try.func27 (some 7) #[.slice A0 l0.length c0] ?_;(with_reducible refine(jG.calls k _ _ l0 Af _ ?Ad ?Ae A4.out).mono ?_);(case Ad=>exact kC (Kd.C_below Ai.out HB.out));(case Ae=>exact Aj.out);rintro e w6 ⟨Ao,rfl,Am,hb⟩;refine⟨_,rfl,?_⟩;have Ah:=Az.mk (Kd.R_lower Am (bwZ bw_20));replace HB:=Az.mk (bwT bw_20 hb);(try clear hb);(try clear Am)))
 go_ret
 exact⟨_,rq1,kR Ah.out,bw_20⟩
theorem bw_21 {n:Nat}{v v':World} (h:Below n v v':=by repeat(first|(with_reducible first|exact HB.out|apply bwA|apply pbN|apply bwD)|exact HB.out)):Below n v v':=h
def gE.l0:Nat→List Int→Int→Int→Option (Bool)
 |0,_,_,_=>none
 |k+1,x5,x6,x7=>if x7<x6 then(if 0≤x7 then(if x7<(x5.length:Int) then((gA.f (rd x5 x7) 0 200).bind fun t480=>(if t480=true then(gE.l0 k x5 x6 (wrap64 (x7+1))) else(some false))) else(none)) else(none)) else(some true)
def gE.f (k:Nat) (l0:List Int):Option (Bool):=gE.l0 k l0 (l0.length:Int) 0
theorem gE.calls (k:Nat) (A0:Option Addr) (c0:Nat) (l0:List Int) (r:Bool) (w:World) (Al:Kd.C (Kd.int .i64) w A0 l0.length l0) (Am:l0.length≤c0) (h:gE.f k l0=some r):
  Calls Try.prog 59 #[.slice A0 l0.length c0] w fun e w'=>e= .returned (.bool r)∧Drawn0 w w':=by
 have Ao:=Az.mk Al
 have As:=Az.mk Am
 clear Al Am
 have H:(gE.l0 k l0 (l0.length:Int) 0)=some r:=h
 clear h
 have H':=Az.mk H
 clear H
 go_enter Try.func59,Try.ntmps59
 go_wp2
 go_loopg [7] k (fun kq v7 w'=>∃(Ad:Int),v7= .int .i64 Ad∧Az (gE.l0 kq l0 (l0.length:Int) Ad=some r)∧Az (kq≤k)∧Drawn0 w w')
 case atStart=>exact⟨(0),rq2,H',⟨Nat.le_refl _⟩,kd⟩
 clear H'
 obtain⟨Ad,rfl,HA,HK1,⟨m1,rfl⟩⟩:=hrel
 cases gk with
 |zero=>exact absurd HA.out (by simp[gE.l0])
 |succ k1=>
  have H:=HA.out
  clear HA
  simp only[gE.l0]at H
  by_cases c2:Ad<(l0.length:Int)
  rotate_left
  ·rw[ig c2]at H
   have Aj:=decide_eq_false c2
   clear c2
   obtain rfl:=Option.some.inj H
   go_wp2
   go_ret
   exact⟨rq2,kd⟩
  rw[ip c2]at H
  have Aj:=ode c2
  clear c2
  by_cases c3:0≤Ad
  rotate_left
  ·rw[ig c3]at H
   exact absurd H (by simp)
  rw[ip c3]at H
  have Ap:=ode c3
  clear c3
  by_cases c4:Ad<(l0.length:Int)
  rotate_left
  ·rw[ig c4]at H
   exact absurd H (by simp)
  rw[ip c4]at H
  have Aq:=ode c4
  clear c4
  replace H:=bez H
  obtain⟨Ak,A5,H⟩:=H
  try dsimp only at H
  by_cases c6:Ak=true
  rotate_left
  ·replace c6:=Bool.eq_false_iff.mpr c6
   subst c6
   rw[ig ff]at H
   obtain rfl:=Option.some.inj H
   have Ae:0≤(Ad:Int):=od
   have Af:Ad<(l0.length:Int):=od
   obtain⟨Ai,Ah,Ag⟩:=Kd.at_int Ao.out Ad Ae Af
   cases Ah
   replace Ae:=ets Ae
   replace Af:=ets Af
   go_wp2_with (first|((with_reducible refine gtC (f:=56) rfl ?_);refine clz Try.func56 (some 12) #[.int .i64 (rd l0 Ad), .int .i64 0, .int .i64 200] ?_;(with_reducible refine(gA.calls (rd l0 Ad) 0 200 false _ A5.out).mono ?_);rintro e w' ⟨rfl,⟨nd,rfl⟩⟩;refine⟨_,rfl,?_⟩))
   go_ret
   exact⟨rq2,kd⟩
  subst c6
  rw[ip rfl]at H
  have H':=Az.mk H
  clear H
  have Ae:0≤(Ad:Int):=od
  have Af:Ad<(l0.length:Int):=od
  obtain⟨Ai,Ah,Ag⟩:=Kd.at_int Ao.out Ad Ae Af
  cases Ah
  replace Ae:=ets Ae
  replace Af:=ets Af
  go_wp2_with (first|((with_reducible refine gtC (f:=56) rfl ?_);refine clz Try.func56 (some 12) #[.int .i64 (rd l0 Ad), .int .i64 0, .int .i64 200] ?_;(with_reducible refine(gA.calls (rd l0 Ad) 0 200 true _ A5.out).mono ?_);rintro e w' ⟨rfl,⟨nd,rfl⟩⟩;refine⟨_,rfl,?_⟩))
  go_roundg k1
  case measure=>have:=HK1.out;omega
  case rel=>exact⟨(wrap64 (Ad+1)),rq2,H',⟨by have:=HK1.out;omega⟩,kd⟩
def gM.f (a0:Int):Option (Int):=some (mx a0 (wrap64 (-a0)))
theorem gM.calls (a0:Int) (r:Int) (w:World) (h:gM.f a0=some r):
  Calls Try.prog 60 #[.int .i64 a0] w fun e w'=>e= .returned (.int .i64 r)∧Below w.heap.size w w':=by
 have HB:=Az.mk (Below.refl w.heap.size w)
 have H:(some (mx a0 (wrap64 (-a0))))=some r:=h
 clear h
 obtain⟨Ae,Ad⟩:∃j_:Int,(mx a0 (wrap64 (-a0)))=j_:=⟨_,rfl⟩
 replace H:(some Ae)=some r:=by first|(rw[Ad]at H;exact H)|(simp only[Ad]at H ⊢;exact H)
 have hji2_:(if a0<(wrap64 (-a0)) then(wrap64 (-a0))else a0)=Ae:=Ad
 obtain rfl:=Option.some.inj H
 go_enter Try.func60,Try.ntmps60
 go_wp2
 go_ret
 exact⟨by first|rfl|(simp[eWn,eWs] <;> rfl)|(simp only[←Ad];first|rfl|(simp[eWn,eWs] <;> rfl))|(simp[*,eWn,eWs] <;> rfl),bw_21⟩
end Go.Proofs.Ytbpnjlemjapnnaa.P

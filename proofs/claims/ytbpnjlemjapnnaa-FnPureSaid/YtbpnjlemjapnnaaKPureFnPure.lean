/- FnPure in plain Lean: for each code what the law's functions answer is alike on both sides (arguments drawn: a triangulation with coordinates, a gluing, a map). No condition. -/
import Derived.Test.YtbpnjlemjapnnaaKPx39
import Derived.Test.YtbpnjlemjapnnaaKHelp
import Derived.Test.YtbpnjlemjapnnaaKWlFnPure

namespace Go.Proofs.Ytbpnjlemjapnnaa.L
open Go.RowKit Go.Proofs.Ytbpnjlemjapnnaa.P Go.Proofs.Ytbpnjlemjapnnaa.Help Go.Proofs.YtbpnjlemjapnnaaW.PrintWords
set_option linter.unusedVariables false
set_option linter.unusedSimpArgs false

theorem w_id {a:Int} (h0: -9223372036854775808≤a) (h1:a≤9223372036854775807):wrap64 a=a:=by unfold wrap64;omega
theorem rd_nat (xs:List Int) (i:Nat) (h:i<xs.length):rd xs (i:Int)=xs[i]:=by
 unfold rd
 simp[List.getD_eq_getElem?_getD,List.getElem?_eq_getElem h]
end Go.Proofs.Ytbpnjlemjapnnaa.L

namespace Go.Proofs.Ytbpnjlemjapnnaa.L
open Go Go.RowKit Go.Proofs.Ytbpnjlemjapnnaa.P Go.Proofs.Ytbpnjlemjapnnaa.Help Go.Proofs.YtbpnjlemjapnnaaW.PrintWords
set_option linter.unusedVariables false
set_option linter.unusedSimpArgs false
theorem and255 (x:Int):0≤bits .and .i64 x 255∧bits .and .i64 x 255≤255:=by
 have h:∀n:Nat,n≤255→0≤IntKind.i64.wrap (n:Int)∧IntKind.i64.wrap (n:Int)≤255:=by
  intro n hn
  simp[IntKind.wrap,IntKind.signed,IntKind.bits]
  split <;> omega
 unfold bits
 refine h _ ?_
 show(BitVec.ofInt IntKind.i64.bits x &&& BitVec.ofInt IntKind.i64.bits 255).toNat≤255
 rw[BitVec.toNat_and]
 refine Nat.le_trans Nat.and_le_right ?_
 decide
/-- A cursor over bytes. -/
def Cur (b:List Int) (i:Int):Prop:=0≤i∧i≤4000000000∧(b.length:Int)≤1048576
theorem Cur.start {b:List Int} (h:b.length≤1048576):Cur b 0:=⟨by decide,by decide,by omega⟩
theorem byte_ok {b:List Int}{i:Int} (h:Int) (hc:Cur b i):∃x i' h',gX.f b i h=some (x,i',h')∧0≤x∧x≤255∧Cur b i':=by
 obtain⟨c1,c2,c3⟩:=hc
 unfold gX.f
 by_cases h1:i<(b.length:Int)
 ·rw[ip h1,ip c1]
  refine⟨_,_,_,rfl,(and255 _).1,(and255 _).2,?_⟩
  rw[w_id om om]
  exact⟨by omega,by omega,c3⟩
 ·rw[ig h1]
  exact⟨_,_,_,rfl,(and255 _).1,(and255 _).2,c1,c2,c3⟩
theorem tmod_ok {x n:Int} (hx:0≤x) (hn:0<n):0≤Int.tmod x n∧Int.tmod x n<n:=by
 rw[Int.tmod_eq_emod_of_nonneg hx]
 exact⟨Int.emod_nonneg _ om,Int.emod_lt_of_pos _ hn⟩
theorem below_ok {b:List Int}{i:Int} (h n:Int) (hc:Cur b i) (hn:0<n):∃x i' h',fB.f b i h n=some (x,i',h')∧0≤x∧x<n∧Cur b i':=by
 unfold fB.f
 rw[ig om]
 by_cases h1:n≤256
 ·rw[ip h1]
  obtain⟨x,i',h',e,x0,x1,c'⟩:=byte_ok h hc
  rw[e,Option.bind_some,ig om]
  have:=tmod_ok x0 hn
  exact⟨_,_,_,rfl,this.1,this.2,c'⟩
 ·rw[ig h1]
  obtain⟨x,i1,h1',e1,x0,x1,c1⟩:=byte_ok h hc
  obtain⟨y,i2,h2',e2,y0,y1,c2⟩:=byte_ok h1' c1
  obtain⟨z,i3,h3',e3,z0,z1,c3⟩:=byte_ok h2' c2
  obtain⟨v,i4,h4',e4,v0,v1,c4⟩:=byte_ok h3' c3
  rw[e1,Option.bind_some]
  dsimp only
  rw[e2,Option.bind_some]
  dsimp only
  rw[e3,Option.bind_some]
  dsimp only
  rw[e4,Option.bind_some]
  dsimp only
  rw[ig om,w_id (a:=x*16777216) om om,w_id (a:=y*65536) om om,w_id (a:=z*256) om om,w_id (a:=x*16777216+y*65536) om om,w_id (a:=x*16777216+y*65536+z*256) om om,w_id om om]
  have:=tmod_ok (show 0≤x*16777216+y*65536+z*256+v by omega) hn
  exact⟨_,_,_,rfl,this.1,this.2,c4⟩
theorem once_ok {b:List Int}{i:Int} (h n:Int) (hc:Cur b i) (hn:0<n):∃x i' h',jL.f b i h n=some (x,i',h')∧Cur b i':=by
 obtain⟨x,i',h',e,_,_,c'⟩:=below_ok h n hc hn
 unfold jL.f
 rw[e]
 exact⟨_,_,_,rfl,c'⟩
theorem rd_mem {l:List Int}{x:Int} (h0:0≤x) (h1:x<(l.length:Int)):rd l x∈l:=by
 obtain⟨n,rfl⟩:=Int.eq_ofNat_of_zero_le h0
 rw[rd_nat l n om]
 exact List.getElem_mem _
theorem pickInt_ok {b:List Int}{i:Int} (h:Int) (l:List Int) (hc:Cur b i) (hl:0<l.length):∃x i' h',gK.f b i h l=some (x,i',h')∧x∈l∧Cur b i':=by
 obtain⟨x,i',h',e,x0,x1,c'⟩:=below_ok h (l.length:Int) hc om
 unfold gK.f
 rw[e,Option.bind_some,ip x0,ip x1]
 exact⟨_,_,_,rfl,rd_mem x0 x1,c'⟩
theorem rdOf_mem {α:Type}{d:α}{l:List α}{x:Int} (h0:0≤x) (h1:x<(l.length:Int)):rdOf d l x∈l:=by
 obtain⟨n,rfl⟩:=Int.eq_ofNat_of_zero_le h0
 have hn:n<l.length:=by omega
 unfold rdOf
 simp[List.getD_eq_getElem?_getD,List.getElem?_eq_getElem hn]
theorem pick_ok {b:List Int}{i:Int} (h:Int) (l:List ByteArray) (hc:Cur b i) (hl:0<l.length):∃x i' h',jS.f b i h l=some (x,i',h')∧x∈l∧Cur b i':=by
 obtain⟨x,i',h',e,x0,x1,c'⟩:=below_ok h (l.length:Int) hc om
 unfold jS.f
 rw[e,Option.bind_some,ip x0,ip x1]
 exact⟨_,_,_,rfl,rdOf_mem x0 x1,c'⟩
theorem new_l0 (l:List Int) (hl:l.length≤1048576):∀(d k:Nat) (h i:Int),i+d=4000→0≤i→d<k→∃h',gS.l0 k l h i=some (l,0,h')
 |0,k,h,i,hi,h0,hk=>by
  obtain⟨k,rfl⟩:=sk k
  simp only[gS.l0]
  by_cases c:i<(l.length:Int)
  ·rw[ip c,ig om];exact⟨_,rfl⟩
  ·rw[ig c];exact⟨_,rfl⟩
 |d+1,k,h,i,hi,h0,hk=>by
  obtain⟨k,rfl⟩:=sk k
  simp only[gS.l0]
  by_cases c:i<(l.length:Int)
  ·rw[ip c,ip om,ip h0,w_id (a:=i+1) om om]
   exact new_l0 l hl d k _ (i+1) om om om
  ·rw[ig c];exact⟨_,rfl⟩
theorem new_ok (l:List Int) (hl:l.length≤1048576) (k:Nat) (hk:4000<k):∃h',gS.f k l=some (l,0,h'):=by
 unfold gS.f
 exact new_l0 l hl 4000 k _ 0 om om hk
end Go.Proofs.Ytbpnjlemjapnnaa.L


namespace Go.Proofs.Ytbpnjlemjapnnaa.L
open Go.RowKit Go.Proofs.Ytbpnjlemjapnnaa.P Go.Proofs.Ytbpnjlemjapnnaa.Help Go.Proofs.YtbpnjlemjapnnaaW.PrintWords
set_option linter.unusedVariables false
set_option linter.unusedSimpArgs false

/-- How many numbers. -/
def tot:List (List Int)→Nat
 |[]=>0
 |r :: rs=>r.length+tot rs
theorem rdL_nat (xs:List (List Int)) (i:Nat) (h:i<xs.length):rd_L1 xs (i:Int)=xs[i]:=by
 unfold rd_L1
 simp[List.getD_eq_getElem?_getD,List.getElem?_eq_getElem h]
end Go.Proofs.Ytbpnjlemjapnnaa.L

namespace Go.Proofs.Ytbpnjlemjapnnaa.L
open Go Go.RowKit Go.Proofs.Ytbpnjlemjapnnaa.P Go.Proofs.Ytbpnjlemjapnnaa.Help Go.Proofs.YtbpnjlemjapnnaaW.PrintWords
set_option linter.unusedVariables false
set_option linter.unusedSimpArgs false
/-- What is drawn: rows, none empty where sides are enough. -/
def GoodG (b:List Int) (g:List (List Int)) (i:Int):Prop:=(1≤g.length∧g.length≤20)∧(∀r∈g,r.length≤40)∧(∀r,g[0]?= some r→1≤r.length)∧Cur b i
theorem l3_l3 {b:List Int}{x2:Int}{x3:List Int} (h2:1≤x2∧x2≤20) (h3:x2≤(x3.length:Int)∧x3.length≤30):∀(d k q:Nat) (g:List (List Int)) (i h:Int),q+d=x3.length→2*d<k→Cur b i→(g.length:Int)=x2→(∀r∈g,r.length≤q)→(1≤q→∀r,g[0]?= some r→1≤r.length)→∃g' i' h',fG.l3 k x2 x3 g (q:Int) b i h=some (g',i',h')∧GoodG b g' i'
 |0,k,q,g,i,h,hq,hk,hc,hg,hr,h0=>by
  obtain⟨k,rfl⟩:=sk k
  simp only[fG.l3,Option.bind_some]
  rw[ig om]
  exact⟨_,_,_,rfl,by omega,fun r h1=>by have:=hr r h1;omega,h0 om,hc⟩
 |d+1,k,q,g,i,h,hq,hk,hc,hg,hr,h0=>by
  obtain⟨k,rfl⟩:∃m,k=m+1+1:=⟨k - 2,by omega⟩
  have step:∀(p:Nat) (i h:Int),p<g.length→(q=0→p=0)→Cur b i→∃g' i' h',fG.l4 (k+1) x2 x3 g (q:Int) (p:Int) b i h=some (g',i',h')∧GoodG b g' i':=by
   intro p i h hp hp0 hc
   have hm:=hr _ (List.getElem_mem hp)
   simp only[fG.l4]
   rw[ip om,ip om,rdL_nat g p hp,w_id (a:=(g[p].length:Int)+1) om om]
   obtain⟨a,i1,h1,e1,a0,a1,c1⟩:=below_ok h ((g[p].length:Int)+1) hc om
   rw[e1,Option.bind_some]
   dsimp only
   rw[ip a0,ip om,ip om,ip om,ip om,w_id (a:=(q:Int)+1) om om,show((q:Int)+1)=((q+1:Nat):Int) by omega,Int.toNat_natCast]
   have hl:((g[p].take a.toNat ++ [rd x3 (q:Int)]) ++ g[p].drop a.toNat).length=g[p].length+1:=by simp;omega
   refine l3_l3 h2 h3 d k (q+1) _ i1 h1 om om c1 (by rw[List.length_set];exact hg) (fun r hr2=>?_) (fun _ r hr2=>?_)
   ·rcases List.mem_or_eq_of_mem_set hr2 with hr2|rfl
    ·have:=hr r hr2
     omega
    ·omega
   ·rw[List.getElem?_set]at hr2
    by_cases e:p=0
    ·subst e
     rw[ip rfl,ip hp]at hr2
     injection hr2 with hr2
     rw[←hr2]
     omega
    ·rw[ig e]at hr2
     exact h0 om r hr2
  simp only[fG.l3,Option.bind_some]
  obtain⟨c,i1,h1,e1,c0,c1,cc⟩:=below_ok h x2 hc om
  rw[ip om,e1,Option.bind_some]
  dsimp only
  by_cases hx:(q:Int)<x2
  ·rw[ip hx]
   exact step q i1 h1 om (fun e=>e) cc
  ·rw[ig hx]
   obtain⟨c,rfl⟩:=Int.eq_ofNat_of_zero_le c0
   exact step c i1 h1 om (fun e=>by omega) cc
theorem l3_l2 {b:List Int}{x2:Int}{x3:List Int} (h2:1≤x2∧x2≤20) (h3:x2≤(x3.length:Int)∧x3.length≤30):∀(d k p:Nat) (g:List (List Int)) (i h:Int),(p:Int)+d=x2→100+d<k→Cur b i→g.length=p→(∀r∈g,r.length=0)→∃g' i' h',fG.l2 k x2 x3 g (p:Int) b i h=some (g',i',h')∧GoodG b g' i'
 |0,k,p,g,i,h,hp,hk,hc,hg,hr=>by
  obtain⟨k,rfl⟩:=sk k
  simp only[fG.l2,Option.bind_some]
  rw[ig om]
  exact l3_l3 h2 h3 x3.length k 0 g i h om om hc om (fun r h1=>by have:=hr r h1;omega) (fun h=>by omega)
 |d+1,k,p,g,i,h,hp,hk,hc,hg,hr=>by
  obtain⟨k,rfl⟩:=sk k
  simp only[fG.l2,Option.bind_some]
  rw[ip om,ip om,w_id (a:=(p:Int)+1) om om,show((p:Int)+1)=((p+1:Nat):Int) by omega]
  refine l3_l2 h2 h3 d k (p+1) _ i h om om hc (by simp;omega) (fun r h1=>?_)
  rcases List.mem_append.1 h1 with h1|h1
  ·exact hr r h1
  ·rw[List.mem_singleton.1 h1]
   rfl
theorem l3_l1 {b:List Int}:∀(d k:Nat) (x2:Int) (x3:List Int) (i h:Int),x2≤3+(x3.length:Int)→1≤x2→x2≤20→x3.length+d≤25→(x2≤(x3.length:Int)∨1≤d)→200+d<k→Cur b i→∃g' i' h',fG.l1 k x2 x3 b i h=some (g',i',h')∧GoodG b g' i':=by
 intro d k x2 x3 i h a1 a2 a3 a4 a5 hk hc
 obtain⟨k,rfl⟩:=sk k
 simp only[fG.l1,Option.bind_some]
 have fin:∀(x2:Int) (x3:List Int) (k:Nat),1≤x2→x2≤20→x2≤(x3.length:Int)→x3.length≤30→150<k→∃g' i' h',fG.l2 k x2 x3 [] 0 b i h=some (g',i',h')∧GoodG b g' i':=by
  intro x2 x3 k b1 b2 b3 b4 hk
  obtain⟨n,rfl⟩:=Int.eq_ofNat_of_zero_le (show 0≤x2 by omega)
  exact l3_l2 ⟨b1,b2⟩ ⟨b3,b4⟩ n k 0 [] i h om om hc rfl (by simp)
 by_cases c:(x3.length:Int)<x2
 ·rw[ip c,ip om]
  obtain⟨k,rfl⟩:=sk k
  simp only[fG.l1,Option.bind_some]
  rw[ig om]
  exact fin _ _ k (by simp;omega) (by simp;omega) om (by simp;omega) om
 ·rw[ig c]
  exact fin x2 x3 k a2 a3 om om om
theorem l3_l0 {b:List Int}{x2:Int} (h2:1≤x2∧x2≤3):∀(d k:Nat) (x3:List Int) (x5 i h:Int),x5+(d:Int)=7→1≤x5→(x3.length:Int)≤2*(x5 - 1)→300+d<k→Cur b i→∃g' i' h',fG.l0 k x2 x3 x5 b i h=some (g',i',h')∧GoodG b g' i':=by
 intro d
 induction d with
 |zero=>
  intro k x3 x5 i h hx h1 hl hk hc
  obtain⟨k,rfl⟩:=sk k
  obtain⟨c,i1,h1',e1,c0,c1,cc⟩:=below_ok h 5 hc (by decide)
  simp only[fG.l0,Option.bind_some]
  rw[e1,Option.bind_some]
  dsimp only
  rw[w_id (a:=2+c) om om,ig om]
  exact l3_l1 1 k x2 x3 i1 h1' om om om om (.inr om) om cc
 |succ d ih=>
  intro k x3 x5 i h hx h1 hl hk hc
  obtain⟨k,rfl⟩:=sk k
  obtain⟨c,i1,h1',e1,c0,c1,cc⟩:=below_ok h 5 hc (by decide)
  simp only[fG.l0,Option.bind_some]
  rw[e1,Option.bind_some]
  dsimp only
  rw[w_id (a:=2+c) om om]
  by_cases hp:x5≤2+c
  ·obtain⟨o,i2,h2',e2,cc2⟩:=once_ok h1' 4 cc (by decide)
   rw[ip hp,ip om,e2,Option.bind_some]
   dsimp only
   rw[w_id (a:=x5+1) om om]
   by_cases ho:o=true
   ·rw[ip ho]
    exact ih k _ (x5+1) i2 h2' om om (by simp;omega) om cc2
   ·rw[ig ho]
    obtain⟨v,i3,h3',e3,v0,v1,cc3⟩:=below_ok h2' 2 cc2 (by decide)
    rw[e3,Option.bind_some]
    dsimp only
    rw[ip (by simp;omega)]
    exact ih k _ (x5+1) i3 h3' om om (by simp;omega) om cc3
  ·rw[ig hp]
   exact l3_l1 1 k x2 x3 i1 h1' om om om om (.inr om) om cc
theorem l3Draw_ok {b:List Int}{i:Int} (h:Int) (hc:Cur b i) (k:Nat) (hk:400<k):∃g i' h',fG.f k b i h=some (g,i',h')∧GoodG b g i':=by
 unfold fG.f
 obtain⟨v,i1,h1,e1,hv,c1⟩:=pickInt_ok h [0,0,1,2] hc (by decide)
 have hb:0≤v∧v≤2:=by
  simp only[List.mem_cons,List.not_mem_nil,or_false]at hv
  omega
 rw[e1,Option.bind_some]
 dsimp only
 rw[w_id (a:=1+v) om om]
 exact l3_l0 om 6 k [] 1 i1 h1 (by decide) (by decide) (by decide) om c1
theorem l3Bent_ok {b:List Int}{i:Int} (h:Int) (hc:Cur b i) (k:Nat) (hk:400<k):∃g i' h',jE.f k b i h=some (g,i',h')∧g.length≤100∧∀r∈g,r.length≤100:=by
 unfold jE.f
 obtain⟨g,i1,h1,e1,⟨g1,g2⟩,gr,g0,c1⟩:=l3Draw_ok h hc k hk
 obtain⟨c,i2,h2,e2,_,_,c2⟩:=below_ok h1 20 c1 (by decide)
 rw[e1,Option.bind_some]
 dsimp only
 rw[e2,Option.bind_some]
 dsimp only
 by_cases k0:c=0
 ·rw[ip k0,ip om]
  refine⟨_,_,_,rfl,by simp;omega,fun r hr=>?_⟩
  rcases List.mem_append.1 hr with hr|hr
  ·have:=gr r hr
   omega
  ·rw[List.mem_singleton.1 hr]
   simp
 ·rw[ig k0]
  by_cases k1:c=1
  ·have hg0:0<g.length:=by omega
   have r0:rd_L1 g 0=g[0]:=rdL_nat g 0 hg0
   have l0:=gr _ (List.getElem_mem hg0)
   have l1:=g0 g[0] (List.getElem?_eq_getElem hg0)
   rw[ip k1,ip om,r0,ip om]
   obtain⟨v,i3,h3,e3,_,c3⟩:=pickInt_ok h2 [rd g[0] 0,8,9] c2 (by simp)
   rw[e3,Option.bind_some,ip om]
   refine⟨_,_,_,rfl,by dsimp only;rw[List.length_set];omega,fun r hr=>?_⟩
   rcases List.mem_or_eq_of_mem_set hr with hr|rfl
   ·have:=gr r hr
    omega
   ·simp
    omega
  ·rw[ig k1]
   by_cases k2:c=2
   ·rw[ip k2]
    exact⟨[],_,_,rfl,by simp,by simp⟩
   ·rw[ig k2]
    exact⟨g,_,_,rfl,by omega,fun r hr=>by have:=gr r hr;omega⟩
theorem drawIG_ok (l:List Int) (hl:l.length≤1048576) (k:Nat) (hk:5000<k):∃g,jJ.f k l=some g∧g.length≤100∧∀r∈g,r.length≤100:=by
 unfold jJ.f
 obtain⟨h0,e0⟩:=new_ok l hl k om
 rw[e0,Option.bind_some]
 dsimp only
 obtain⟨g,i',h',e,h1,h2⟩:=l3Bent_ok h0 (Cur.start hl) k om
 rw[e]
 exact⟨g,rfl,h1,h2⟩
end Go.Proofs.Ytbpnjlemjapnnaa.L

namespace Go.Proofs.Ytbpnjlemjapnnaa.L
open Go.RowKit Go.Proofs.Ytbpnjlemjapnnaa.P Go.Proofs.Ytbpnjlemjapnnaa.Help Go.Proofs.YtbpnjlemjapnnaaW.PrintWords
set_option linter.unusedVariables false
set_option linter.unusedSimpArgs false

theorem l1In_eq (a lo hi:Int):fR.f a lo hi=some (decide (lo≤a∧a≤hi)):=by
 unfold fR.f
 by_cases h:lo≤a <;> simp[h]
theorem within_eq (a lo hi:Int):gA.f a lo hi=some (decide (lo≤a∧a≤hi)):=by
 unfold gA.f
 by_cases h:lo≤a <;> simp[h]
end Go.Proofs.Ytbpnjlemjapnnaa.L

namespace Go.Proofs.Ytbpnjlemjapnnaa.L
open Go.RowKit Go.Proofs.Ytbpnjlemjapnnaa.P Go.Proofs.Ytbpnjlemjapnnaa.Help Go.Proofs.YtbpnjlemjapnnaaW.PrintWords Go.Proofs.YtbpnjlemjapnnaaW.PrintLast Go.Proofs.YtbpnjlemjapnnaaW.PrintMore
set_option linter.unusedVariables false
set_option linter.unusedSimpArgs false
def mateN (d:Nat):Nat:=if d % 2=0 then d+1 else d - 1
theorem rdg (m:List Int) (d:Nat):rd m (d:Int)=m.getD d 0:=by
 unfold rd
 rw[Int.toNat_natCast]
theorem rdb (m:List Bool) (d:Nat):rdOf false m (d:Int)=m.getD d false:=by
 unfold rdOf
 rw[Int.toNat_natCast]
/-- How many are not seen. -/
def nos:List Bool→Nat
 |[]=>0
 |b :: t=>(if b=true then 0 else 1)+nos t
theorem nos_le:∀l:List Bool,nos l≤l.length
 |[]=>Nat.le_refl _
 |b :: t=>by
  have:=nos_le t
  rw[nos,List.length_cons]
  split <;> omega
theorem nos_set:∀(l:List Bool) (i:Nat),i<l.length→l.getD i false=false→nos (l.set i true)+1=nos l
 |[],i,h,_=>absurd h (by simp)
 |b :: t,0,h,e=>by
  have e':b=false:=e
  subst e'
  simp[nos]
  omega
 |b :: t,i+1,h,e=>by
  have:=nos_set t i (by simpa using h) e
  rw[List.set_cons_succ,nos,nos]
  omega
theorem cyc {m:List Int} (h2:m.length≤24) (hb:∀d,d<m.length→0≤m.getD d 0∧m.getD d 0<(m.length:Int)):∀b:Nat,
  (∀(out:List (List Int)) (seen:List Bool) (d:Nat),d≤m.length→seen.length=m.length→2*(m.length - d)+nos seen≤b→out.length≤d→(∀r∈out,r.length≤100)→∃C:List (List Int),C.length≤m.length∧(∀r∈C,r.length≤100)∧∀k,b<k→fQ.l0 k m out seen (d:Int)=some C∧fV.l0 k m out seen (m.length:Int) (d:Int)=some C)∧
  (∀(out:List (List Int)) (seen:List Bool) (d:Nat) (own:List Int) (cur:Nat),d<m.length→cur<m.length→seen.length=m.length→2*(m.length - d) - 1+nos seen≤b→out.length≤d→own.length+nos seen≤100→(∀r∈out,r.length≤100)→∃C:List (List Int),C.length≤m.length∧(∀r∈C,r.length≤100)∧∀k,b<k→fQ.l1 k m out seen (d:Int) own (cur:Int)=some C∧fV.l1 k m out seen own (cur:Int) (m.length:Int) (d:Int)=some C)
 |0=>by
  refine⟨?_,?_⟩
  ·intro out seen d hd hs hm ho hR
   refine⟨out,by omega,hR,fun k hk=>?_⟩
   obtain⟨k,rfl⟩:=sk k
   simp only[fQ.l0,fV.l0]
   rw[ig om,ig om]
   exact⟨rfl,rfl⟩
  ·intro out seen d own cur hd hc hs hm ho hw hR
   omega
 |b+1=>by
  obtain⟨ih0,ih1⟩:=cyc h2 hb b
  refine⟨?_,?_⟩
  ·intro out seen d hd hs hm ho hR
   by_cases hlt:d<m.length
   ·by_cases s:seen.getD d false=true
    ·obtain⟨C,hC,hCr,hk0⟩:=ih0 out seen (d+1) om hs om om hR
     refine⟨C,hC,hCr,fun k hk=>?_⟩
     obtain⟨k,rfl⟩:=sk k
     simp only[fQ.l0,fV.l0]
     rw[ip om,ip om,ip om,rdb,ip s,ip om,ip om,ip om,ip s,w_id om om,show((d:Int)+1)=((d+1:Nat):Int) by omega]
     exact hk0 k om
    ·obtain⟨C,hC,hCr,hk0⟩:=ih1 out seen d [] d hlt hlt hs om ho (by have:=nos_le seen;simp;omega) hR
     refine⟨C,hC,hCr,fun k hk=>?_⟩
     obtain⟨k,rfl⟩:=sk k
     simp only[fQ.l0,fV.l0]
     rw[ip om,ip om,ip om,rdb,ig s,ip om,ip om,ip om,ig s]
     exact hk0 k om
   ·refine⟨out,by omega,hR,fun k hk=>?_⟩
    obtain⟨k,rfl⟩:=sk k
    simp only[fQ.l0,fV.l0]
    rw[ig om,ig om]
    exact⟨rfl,rfl⟩
  ·intro out seen d own cur hd hc hs hm ho hw hR
   by_cases s:seen.getD cur false=true
   ·obtain⟨C,hC,hCr,hk0⟩:=ih0 (out ++ [own]) seen (d+1) om hs om (by rw[List.length_append];simp;omega) (fun r hr=>by
     rcases List.mem_append.1 hr with hr|hr
     ·exact hR r hr
     ·rw[List.mem_singleton.1 hr]
      omega)
    refine⟨C,hC,hCr,fun k hk=>?_⟩
    obtain⟨k,rfl⟩:=sk k
    simp only[fQ.l1,fV.l1]
    rw[ip om,ip om,rdb,ip s,ip om,ip om,ip om,ip s,ip om,w_id om om,show((d:Int)+1)=((d+1:Nat):Int) by omega]
    exact hk0 k om
   ·have s':seen.getD cur false=false:=by simpa using s
    have hn:=nos_set seen cur om s'
    have hbd:=hb cur hc
    obtain⟨C,hC,hCr,hk0⟩:=ih1 out (seen.set cur true) d (own ++ [(cur:Int)]) (m.getD cur 0).toNat hd om (by rw[List.length_set];exact hs) om ho (by rw[List.length_append];simp;omega) hR
    refine⟨C,hC,hCr,fun k hk=>?_⟩
    obtain⟨k,rfl⟩:=sk k
    have e:=hk0 k om
    rw[Int.toNat_of_nonneg hbd.1]at e
    simp only[fQ.l1,fV.l1]
    rw[ip om,ip om,rdb,ig s,ip om,ip om,ip om,ip om,ig s,ip om,ip om,rdg,Int.toNat_natCast]
    exact e
theorem cycles_f {m:List Int} (h2:m.length≤24) (hb:∀d,d<m.length→0≤m.getD d 0∧m.getD d 0<(m.length:Int)):∃C:List (List Int),(C.length≤24∧∀r∈C,r.length≤100)∧∀k,100<k→fQ.f k m=some C∧fV.f k m=some C:=by
 have hn:=nos_le (List.replicate m.length false)
 rw[List.length_replicate]at hn
 obtain⟨C,hC,hCr,hk⟩:=(cyc h2 hb 100).1 [] (List.replicate m.length false) 0 om (by simp) om (by simp) (by simp)
 refine⟨C,⟨by omega,hCr⟩,fun k hkk=>?_⟩
 unfold fQ.f fV.f
 rw[ip om,ip om,ip om,ip om,Int.toNat_natCast]
 exact hk k hkk
/-- The mate of a dart, as the program and the reference tell it. -/
theorem xor_eq:∀d:Fin 24,Go.bits .xor .i64 ((d:Nat):Int) 1=(mateN (d:Nat):Int):=by decide+kernel
theorem mate_eq:∀d:Fin 24,mD.f ((d:Nat):Int)=some (mateN (d:Nat):Int):=by decide+kernel
def dualL (m:List Int):List Int:=(List.range m.length).map fun d=>m.getD (mateN d) 0
theorem dualL_len (m:List Int):(dualL m).length=m.length:=by simp[dualL]
theorem dualL_get (m:List Int){i:Nat} (h:i<(dualL m).length):(dualL m)[i]=m.getD (mateN i) 0:=by simp[dualL]
theorem mate_lt {m:List Int} (he:m.length % 2=0){d:Nat} (h:d<m.length):mateN d<m.length:=by
 unfold mateN
 split <;> omega
theorem mN {m:List Int} (h2:m.length≤24) (he:m.length % 2=0):∀(d k i:Nat),i+d=m.length→d<k→gZ.l0 k m ((dualL m).take i) (i:Int)=some (dualL m)
 |0,k,i,hi,hk=>by
  obtain⟨k,rfl⟩:=sk k
  simp only[gZ.l0]
  rw[ig om,List.take_of_length_le (by rw[dualL_len];omega)]
 |d+1,k,i,hi,hk=>by
  obtain⟨k,rfl⟩:=sk k
  have hlt:i<(dualL m).length:=by rw[dualL_len];omega
  have hm:=mate_lt he (show i<m.length by omega)
  have hme:mD.f (i:Int)=some (mateN i:Int):=mate_eq ⟨i,by omega⟩
  simp only[gZ.l0]
  rw[ip om,hme,Option.bind_some,ip om,ip om,ip (by rw[List.length_take];omega),rdg, ←dualL_get m hlt, ←List.take_succ_eq_append_getElem hlt,w_id om om,show((i:Int)+1)=((i+1:Nat):Int) by omega]
  exact mN h2 he d k (i+1) om om
theorem put_take {xs:List Int}{i:Nat} (h:i<xs.length):(xs.take i ++ List.replicate (xs.length - i) 0).set i xs[i]=xs.take (i+1) ++ List.replicate (xs.length - (i+1)) 0:=by
 rw[List.set_append_right _ _ (by rw[List.length_take];omega),List.length_take,show i - min i xs.length=0 by omega,show xs.length - i=(xs.length - (i+1))+1 by omega,List.replicate_succ,List.set_cons_zero,List.take_succ_eq_append_getElem h,List.append_assoc]
 rfl
theorem mK {m:List Int} (h2:m.length≤24) (he:m.length % 2=0):∀(d k i:Nat),i+d=m.length→d<k→jG.l0 k m ((dualL m).take i ++ List.replicate (m.length - i) 0) (m.length:Int) (i:Int)=some (dualL m)
 |0,k,i,hi,hk=>by
  obtain⟨k,rfl⟩:=sk k
  simp only[jG.l0]
  rw[ig om,List.take_of_length_le (by rw[dualL_len];omega),show m.length - i=0 by omega,List.replicate_zero,List.append_nil]
 |d+1,k,i,hi,hk=>by
  obtain⟨k,rfl⟩:=sk k
  have hlt:i<(dualL m).length:=by rw[dualL_len];omega
  have hm:=mate_lt he (show i<m.length by omega)
  have hx:Go.bits .xor .i64 (i:Int) 1=(mateN i:Int):=xor_eq ⟨i,by omega⟩
  have hp:=put_take hlt
  rw[dualL_len]at hp
  simp only[jG.l0]
  rw[ip om,hx,ip om,ip om,ip om,ip (by rw[List.length_append,List.length_take,List.length_replicate,dualL_len];omega),rdg, ←dualL_get m hlt,Int.toNat_natCast,hp,w_id om om,show((i:Int)+1)=((i+1:Nat):Int) by omega]
  exact mK h2 he d k (i+1) om om
theorem dual_f {m:List Int} (h2:m.length≤24) (he:m.length % 2=0) (k:Nat) (hk:30<k):gZ.f k m=some (dualL m)∧jG.f k m=some (dualL m):=by
 constructor
 ·exact mN h2 he m.length k 0 om om
 ·unfold jG.f
  rw[ip om,ip om,Int.toNat_natCast]
  have:=mK h2 he m.length k 0 om om
  rw[List.take_zero,List.nil_append]at this
  exact this
end Go.Proofs.Ytbpnjlemjapnnaa.L

namespace Go.Proofs.Ytbpnjlemjapnnaa.L
open Go Go.RowKit Go.Proofs.Ytbpnjlemjapnnaa.P Go.Proofs.Ytbpnjlemjapnnaa.Help Go.Proofs.YtbpnjlemjapnnaaW.PrintWords Go.Proofs.YtbpnjlemjapnnaaW.PrintLast Go.Proofs.YtbpnjlemjapnnaaW.PrintMore
set_option linter.unusedVariables false
set_option linter.unusedSimpArgs false
/-- Is each number a place, and each place met once? -/
def goP (m:List Int):Nat→Nat→List Bool→Bool
 |0,_,_=>true
 |d+1,i,seen=>if 0≤m.getD i 0∧m.getD i 0≤(m.length:Int) - 1 then(if seen.getD (m.getD i 0).toNat false=true then false else goP m d (i+1) (seen.set (m.getD i 0).toNat true))else false
theorem mP (m:List Int) (hm:m.length≤1000):∀(d k i:Nat) (seen:List Bool),i+d=m.length→d<k→seen.length=m.length→gV.l0 k m seen (i:Int)=some (goP m d i seen)
 |0,k,i,seen,hi,hk,hs=>by
  obtain⟨k,rfl⟩:=sk k
  simp only[gV.l0]
  rw[ig om]
  rfl
 |d+1,k,i,seen,hi,hk,hs=>by
  obtain⟨k,rfl⟩:=sk k
  have ih:=fun s=>mP m hm d k (i+1) s om om
  simp only[gV.l0]
  rw[ip om,ip om,w_id (a:=(m.length:Int) - 1) om om,l1In_eq,Option.bind_some,rdg,goP]
  generalize m.getD i 0=v
  by_cases h:0≤v∧v≤(m.length:Int) - 1
  ·rw[decide_eq_true h,ip rfl,ip h]
   obtain⟨n,rfl⟩:=Int.eq_ofNat_of_zero_le h.1
   rw[ip om,ip om,rdb,Int.toNat_natCast,w_id (a:=(i:Int)+1) om om,show((i:Int)+1)=((i+1:Nat):Int) by omega]
   by_cases s:seen.getD n false=true
   ·rw[ip s,ip s]
   ·rw[ig s,ig s]
    exact ih _ (by rw[List.length_set];exact hs)
  ·rw[decide_eq_false h,ig (by simp),ig h]
theorem mM (m:List Int) (hm:m.length≤1000):∀(d k i:Nat) (seen:List Bool),i+d=m.length→d<k→seen.length=m.length→gC.l0 k m seen m (m.length:Int) (i:Int)=some (goP m d i seen)
 |0,k,i,seen,hi,hk,hs=>by
  obtain⟨k,rfl⟩:=sk k
  simp only[gC.l0]
  rw[ig om]
  rfl
 |d+1,k,i,seen,hi,hk,hs=>by
  obtain⟨k,rfl⟩:=sk k
  have ih:=fun s=>mM m hm d k (i+1) s om om
  simp only[gC.l0]
  rw[ip om,ip om,ip om,w_id (a:=(m.length:Int) - 1) om om,within_eq,Option.bind_some,rdg,goP]
  generalize m.getD i 0=v
  by_cases h:0≤v∧v≤(m.length:Int) - 1
  ·rw[decide_eq_true h,ip rfl,ip h]
   obtain⟨n,rfl⟩:=Int.eq_ofNat_of_zero_le h.1
   rw[ip om,ip om,rdb,Int.toNat_natCast,w_id (a:=(i:Int)+1) om om,show((i:Int)+1)=((i+1:Nat):Int) by omega]
   by_cases s:seen.getD n false=true
   ·rw[ip s,ip s]
   ·rw[ig s,ig s]
    exact ih _ (by rw[List.length_set];exact hs)
  ·rw[decide_eq_false h,ig (by simp),ig h]
def isMp (m:List Int):Bool:=decide (2≤m.length∧m.length≤24) && (decide (m.length % 2=0) && goP m m.length 0 (List.replicate m.length false))
theorem mH (m:List Int) (k:Nat) (hk:30<k):jA.f k m=some (isMp m):=by
 unfold jA.f isMp
 rw[l1In_eq,Option.bind_some]
 by_cases h:2≤(m.length:Int)∧(m.length:Int)≤24
 ·rw[decide_eq_true h,ip rfl,decide_eq_true (show 2≤m.length∧m.length≤24 by omega),Bool.true_and]
  by_cases e:m.length % 2=0
  ·have t:gV.l0 k m (List.replicate m.length false) 0=_:=mP m om m.length k 0 (List.replicate m.length false) om om (by simp)
   rw[ip om,decide_eq_true e,Bool.true_and]
   unfold gV.f
   rw[ip om,ip om,Int.toNat_natCast,t,Option.bind_some]
  ·rw[ig om,decide_eq_false e,Bool.false_and]
 ·rw[decide_eq_false h,ig (by simp),decide_eq_false (show ¬(2≤m.length∧m.length≤24) by omega),Bool.false_and]
theorem mL (m:List Int) (k:Nat) (hk:30<k):jN.f k m=some (isMp m):=by
 unfold jN.f isMp
 rw[within_eq,Option.bind_some]
 by_cases h:2≤(m.length:Int)∧(m.length:Int)≤24
 ·rw[decide_eq_true h,ip rfl,decide_eq_true (show 2≤m.length∧m.length≤24 by omega),Bool.true_and]
  by_cases e:m.length % 2=0
  ·have t:gC.l0 k m (List.replicate m.length false) m (m.length:Int) 0=_:=mM m om m.length k 0 (List.replicate m.length false) om om (by simp)
   rw[ip om,decide_eq_true e,Bool.true_and]
   unfold gC.f
   rw[ip om,ip om,Int.toNat_natCast,t,Option.bind_some]
  ·rw[ig om,decide_eq_false e,Bool.false_and]
 ·rw[decide_eq_false h,ig (by simp),decide_eq_false (show ¬(2≤m.length∧m.length≤24) by omega),Bool.false_and]
theorem getD_set_ne {l:List Bool}{a b:Nat} (h:a≠b) (v:Bool):(l.set a v).getD b false=l.getD b false:=by
 rw[List.getD_eq_getElem?_getD,List.getD_eq_getElem?_getD,List.getElem?_set_ne h]
theorem getD_set_eq {l:List Bool}{a:Nat} (h:a<l.length):(l.set a true).getD a false=true:=by
 rw[List.getD_eq_getElem?_getD,List.getElem?_set_self h]
 rfl
theorem goP_intro (m:List Int):∀(d i:Nat) (seen:List Bool),i+d=m.length→seen.length=m.length→(∀j,i≤j→j<m.length→(0≤m.getD j 0∧m.getD j 0≤(m.length:Int) - 1)∧seen.getD (m.getD j 0).toNat false=false)→(∀j l,i≤j→j<l→l<m.length→m.getD j 0≠m.getD l 0)→goP m d i seen=true
 |0,i,seen,hi,hs,hr,hd=>rfl
 |d+1,i,seen,hi,hs,hr,hd=>by
  obtain⟨a,b⟩:=hr i (Nat.le_refl _) om
  rw[goP,ip a,ig (by rw[b];simp)]
  refine goP_intro m d (i+1) _ om (by rw[List.length_set];exact hs) (fun j h1 h2=>?_) (fun j l h1 h2 h3=>hd j l om h2 h3)
  obtain⟨c,e⟩:=hr j om h2
  have ne:=hd i j (Nat.le_refl _) om h2
  exact⟨c,by rw[getD_set_ne om];exact e⟩
theorem goP_elim (m:List Int):∀(d i:Nat) (seen:List Bool),i+d=m.length→seen.length=m.length→goP m d i seen=true→(∀j,i≤j→j<m.length→(0≤m.getD j 0∧m.getD j 0≤(m.length:Int) - 1)∧seen.getD (m.getD j 0).toNat false=false)∧(∀j l,i≤j→j<l→l<m.length→m.getD j 0≠m.getD l 0)
 |0,i,seen,hi,hs,h=>⟨fun j h1 h2=>by omega,fun j l h1 h2 h3=>by omega⟩
 |d+1,i,seen,hi,hs,h=>by
  rw[goP]at h
  by_cases a:0≤m.getD i 0∧m.getD i 0≤(m.length:Int) - 1
  ·rw[ip a]at h
   by_cases b:seen.getD (m.getD i 0).toNat false=true
   ·rw[ip b]at h
    exact absurd h (by simp)
   ·rw[ig b]at h
    obtain⟨p,q⟩:=goP_elim m d (i+1) _ om (by rw[List.length_set];exact hs) h
    have far:∀j,i+1≤j→j<m.length→(m.getD i 0).toNat≠(m.getD j 0).toNat:=by
     intro j h1 h2 e
     have:=(p j h1 h2).2
     rw[←e,getD_set_eq om]at this
     exact absurd this (by simp)
    refine⟨fun j h1 h2=>?_,fun j l h1 h2 h3=>?_⟩
    ·by_cases e:j=i
     ·subst e
      exact⟨a,by simpa using b⟩
     ·obtain⟨c,f⟩:=p j om h2
      exact⟨c,by rw[getD_set_ne (far j om h2)]at f;exact f⟩
    ·by_cases e:j=i
     ·subst e
      intro e2
      exact far l om h3 (by rw[e2])
     ·exact q j l om h2 h3
  ·rw[ig a]at h
   exact absurd h (by simp)
theorem mpD_at {m:List Int}{j:Nat} (h:j<m.length):m.getD j 0=m[j]:=by
 rw[List.getD_eq_getElem?_getD,List.getElem?_eq_getElem h]
 rfl
theorem rep_false (n j:Nat):(List.replicate n false).getD j false=false:=by
 rw[List.getD_eq_getElem?_getD,List.getElem?_replicate]
 split <;> rfl
theorem isMp_iff {m:List Int}:isMp m=true↔((2≤m.length∧m.length≤24)∧m.length % 2=0)∧m.Nodup∧∀x∈m,0≤x∧x≤(m.length:Int) - 1:=by
 unfold isMp
 rw[Bool.and_eq_true,Bool.and_eq_true,decide_eq_true_iff,decide_eq_true_iff]
 constructor
 ·rintro ⟨a,b,c⟩
  obtain⟨p,q⟩:=goP_elim m m.length 0 _ om (by simp) c
  refine⟨⟨a,b⟩,List.pairwise_iff_getElem.2 fun i j hi hj hij=>?_,fun x hx=>?_⟩
  ·have:=q i j om hij hj
   rwa [mpD_at hi,mpD_at hj]at this
  ·obtain⟨i,hi,rfl⟩:=List.mem_iff_getElem.1 hx
   have:=(p i om hi).1
   rwa [mpD_at hi]at this
 ·rintro ⟨⟨a,b⟩,c,d⟩
  refine⟨a,b,goP_intro m m.length 0 _ om (by simp) (fun j _ h2=>⟨?_,rep_false _ _⟩) (fun j l _ h2 h3=>?_)⟩
  ·rw[mpD_at h2]
   exact d _ (List.getElem_mem h2)
  ·rw[mpD_at h3,mpD_at om]
   exact List.pairwise_iff_getElem.1 c j l om h3 h2
theorem dual_both (m:List Int) (k:Nat) (hk:30<k):∃o:List Int,o.length≤24∧jW.f k m=some o∧jT.f k m=some o:=by
 unfold jW.f jT.f
 rw[mH m k hk,mL m k hk,Option.bind_some,Option.bind_some]
 by_cases h:isMp m=true
 ·obtain⟨⟨⟨_,a⟩,b⟩,_⟩:=isMp_iff.1 h
  obtain⟨e1,e2⟩:=dual_f a b k hk
  rw[ip h,ip h,e1,e2]
  exact⟨_,by rw[dualL_len];exact a,rfl,rfl⟩
 ·rw[ig h,ig h]
  exact⟨[],by simp,rfl,rfl⟩
theorem cycles_both (m:List Int):∃o:List (List Int),(o.length≤24∧∀r∈o,r.length≤100)∧∀k,100<k→jP.f k m=some o∧jM.f k m=some o:=by
 by_cases h:isMp m=true
 ·obtain⟨⟨⟨_,a⟩,b⟩,_,d⟩:=isMp_iff.1 h
  obtain⟨C,hC,e⟩:=cycles_f a (fun j hj=>by
   have:=d _ (List.getElem_mem hj)
   rw[mpD_at hj]
   omega)
  refine⟨C,hC,fun k hk=>?_⟩
  unfold jP.f jM.f
  rw[mH m k om,mL m k om,Option.bind_some,Option.bind_some,ip h,ip h,(e k hk).1,(e k hk).2]
  exact⟨rfl,rfl⟩
 ·refine⟨[],by simp,fun k hk=>?_⟩
  unfold jP.f jM.f
  rw[mH m k om,mL m k om,Option.bind_some,Option.bind_some,ig h,ig h]
  exact⟨rfl,rfl⟩
/-- An edge more: two places more, two numbers exchanged, twice. -/
theorem edge_perm {m:List Int}{a c:Nat} (ha:a<m.length) (hc:c≤m.length) (y:List Int) (hy:y=((m ++ [0,0]).set m.length ((m ++ [0,0]).getD a 0)).set a (m.length:Int)):((y.set (m.length+1) (y.getD c 0)).set c ((m.length:Int)+1)).Perm (m ++ [(m.length:Int),(m.length:Int)+1]):=by
 have hl:(m ++ [(m.length:Int),(m.length:Int)+1]).length=m.length+2:=by simp
 have ha':a<(m ++ [(m.length:Int),(m.length:Int)+1]).length:=by omega
 have hn:m.length<(m ++ [(m.length:Int),(m.length:Int)+1]).length:=by omega
 have p1:=List.set_set_perm ha' hn
 generalize hs:((m ++ [(m.length:Int),(m.length:Int)+1]).set a (m ++ [(m.length:Int),(m.length:Int)+1])[m.length]).set m.length (m ++ [(m.length:Int),(m.length:Int)+1])[a]=s at p1
 have ls:s.length=m.length+2:=by rw[←hs];simp
 have hc':c<s.length:=by omega
 have hn1:m.length+1<s.length:=by omega
 have p2:=List.set_set_perm hc' hn1
 refine List.Perm.trans (List.Perm.of_eq ?_) (p2.trans p1)
 have ly:y.length=m.length+2:=by rw[hy];simp
 have gy:y.getD c 0=s[c]:=by
  rw[mpD_at om]
  subst hy hs
  grind
 have gs:s[m.length+1]=(m.length:Int)+1:=by
  subst hs
  grind
 rw[gy,gs]
 apply List.ext_getElem
 ·simp only[List.length_set];omega
 ·intro j h1 h2
  have:∀(h:j<y.length) (h':j<s.length),j≠m.length+1→y[j]=s[j]:=by
   intro h h' hj
   subst hy hs
   grind
  grind
theorem addEdge_f {m:List Int} (h:isMp m=true) (h24:m.length+2≤24){a b:Nat} (ha:a<m.length) (hb:b<m.length) (k:Nat) (hk:40<k):∃o,gQ.f k m (a:Int) (b:Int)=some (o,true)∧isMp o=true∧o.length=m.length+2:=by
 obtain⟨⟨⟨a2,_⟩,ev⟩,nd,rg⟩:=isMp_iff.1 h
 have fin:∀o:List Int,o.Perm (m ++ [(m.length:Int),(m.length:Int)+1])→isMp o=true∧o.length=m.length+2:=by
  intro o p
  have hl:o.length=m.length+2:=by rw[p.length_eq];simp
  refine⟨isMp_iff.2 ⟨⟨⟨by omega,by omega⟩,by omega⟩,p.nodup_iff.2 ?_,fun x hx=>?_⟩,hl⟩
  ·rw[List.nodup_append]
   refine⟨nd,by simp <;> omega,?_⟩
   intro x hx y hy e
   have:=rg x hx
   simp only[List.mem_cons,List.not_mem_nil,or_false]at hy
   omega
  ·rcases List.mem_append.1 (p.mem_iff.1 hx)with hx|hx
   ·have:=rg x hx
    omega
   ·simp only[List.mem_cons,List.not_mem_nil,or_false]at hx
    omega
 unfold gQ.f
 rw[mH m k om,h,Option.bind_some,ip rfl,w_id (a:=(m.length:Int) - 1) om om,l1In_eq,decide_eq_true (show(0:Int)≤(a:Int)∧(a:Int)≤(m.length:Int) - 1 by omega),Option.bind_some,ip rfl,l1In_eq,decide_eq_true (show(0:Int)≤(b:Int)∧(b:Int)≤(m.length:Int) - 1 by omega),Option.bind_some,ip rfl,w_id (a:=(m.length:Int)+2) om om,decide_eq_false (show ¬(m.length:Int)+2>24 by omega)]
 obtain⟨k,rfl⟩:=sk k
 simp only[gQ.j0]
 rw[ig (by simp),Option.bind_some,ip (by simp <;> omega),Option.bind_some,List.nil_append,Option.bind_some,ip (by simp <;> omega),Option.bind_some,ip om,ip (by simp <;> omega),ip om,ip (by simp <;> omega),Option.bind_some,Int.toNat_natCast,Int.toNat_natCast,rdg,w_id (a:=(m.length:Int)+1) om om]
 generalize hy:((m ++ [0,0]).set m.length ((m ++ [0,0]).getD a 0)).set a (m.length:Int)=y
 by_cases e:(a:Int)=(b:Int)
 ·have p:=edge_perm ha (Nat.le_refl m.length) y hy.symm
  rw[ip e,ip om,ip (by simp <;> omega),rdg,show((m.length:Int)+1).toNat=m.length+1 by omega]
  exact⟨_,rfl,fin _ p⟩
 ·have p:=edge_perm (c:=b) ha om y hy.symm
  rw[ig e,ip om,ip (by simp <;> omega),ip om,ip (by simp <;> omega),rdg,show((m.length:Int)+1).toNat=m.length+1 by omega,Int.toNat_natCast]
  exact⟨_,rfl,fin _ p⟩
theorem l6_l1 {b:List Int}:∀(d k:Nat) (m:List Int) (x9 i h:Int),x9+(d:Int)=3→0≤x9→Cur b i→0<m.length→d<k→∃m' i' h',gG.l1 k m x9 b i h=some (m',i',h')∧m'.length=m.length∧Cur b i'
 |0,k,m,x9,i,h,hx,h0,hc,hm,hk=>by
  obtain⟨k,rfl⟩:=sk k
  simp only[gG.l1]
  rw[ig om]
  exact⟨_,_,_,rfl,rfl,hc⟩
 |d+1,k,m,x9,i,h,hx,h0,hc,hm,hk=>by
  obtain⟨k,rfl⟩:=sk k
  simp only[gG.l1]
  obtain⟨p,i1,h1,e1,p0,p1,c1⟩:=below_ok h (m.length:Int) hc om
  obtain⟨q,i2,h2,e2,q0,q1,c2⟩:=below_ok h1 (m.length:Int) c1 om
  rw[ip om,e1,Option.bind_some]
  dsimp only
  rw[e2,Option.bind_some]
  dsimp only
  rw[ip p0,ip p1,ip q0,ip q1,w_id (a:=x9+1) om om]
  obtain⟨m',i',h',e,l,c⟩:=l6_l1 d k ((m.set p.toNat (rd m q)).set q.toNat (rd m p)) (x9+1) i2 h2 om om c2 (by rw[List.length_set,List.length_set];exact hm) om
  exact⟨m',i',h',e,by rw[l,List.length_set,List.length_set],c⟩
theorem l6_l0 {b:List Int}:∀(d k:Nat) (m:List Int) (x6 i h:Int),x6≤(d:Int)→isMp m=true→m.length+2*d≤24→Cur b i→100+d<k→∃m' i' h',gG.l0 k m x6 b i h=some (m',i',h')∧(2≤m'.length∧m'.length≤24)∧Cur b i':=by
 intro d
 induction d with
 |zero=>
  intro k m x6 i h hx hm hl hc hk
  obtain⟨⟨⟨a2,_⟩,_⟩,_⟩:=isMp_iff.1 hm
  obtain⟨k,rfl⟩:=sk k
  simp only[gG.l0]
  rw[ig om]
  obtain⟨o,i1,h1,e1,c1⟩:=once_ok h 4 hc (by decide)
  rw[e1,Option.bind_some]
  dsimp only
  by_cases ho:o=true
  ·rw[ip ho]
   obtain⟨m',i',h',e,l,c⟩:=l6_l1 3 k m 0 i1 h1 (by decide) (by decide) c1 om om
   exact⟨m',i',h',e,by omega,c⟩
  ·rw[ig ho]
   exact⟨_,_,_,rfl,by omega,c1⟩
 |succ d ih=>
  intro k m x6 i h hx hm hl hc hk
  obtain⟨⟨⟨a2,_⟩,_⟩,_⟩:=isMp_iff.1 hm
  by_cases hp:x6>0
  ·obtain⟨k,rfl⟩:=sk k
   simp only[gG.l0]
   obtain⟨p,i1,h1,e1,p0,p1,c1⟩:=below_ok h (m.length:Int) hc om
   obtain⟨q,i2,h2,e2,q0,q1,c2⟩:=below_ok h1 (m.length:Int) c1 om
   obtain⟨p,rfl⟩:=Int.eq_ofNat_of_zero_le p0
   obtain⟨q,rfl⟩:=Int.eq_ofNat_of_zero_le q0
   obtain⟨o,eo,ho,lo⟩:=addEdge_f hm om (a:=p) (b:=q) om om k om
   rw[ip hp,e1,Option.bind_some]
   dsimp only
   rw[e2,Option.bind_some]
   dsimp only
   rw[eo,Option.bind_some]
   dsimp only
   rw[w_id (a:=x6 - 1) om om]
   exact ih k o (x6 - 1) i2 h2 om ho om c2 om
  ·exact ih k m x6 i h om hm om hc om
theorem drawMap_ok (l:List Int) (hl:l.length≤1048576) (k:Nat) (hk:5000<k):∃m,jR.f k l=some m∧m.length≤25:=by
 unfold jR.f
 obtain⟨h0,e0⟩:=new_ok l hl k om
 rw[e0,Option.bind_some]
 dsimp only
 unfold mC.f gG.f
 obtain⟨p,i1,h1,e1,p0,p1,c1⟩:=below_ok h0 6 (Cur.start hl) (by decide)
 obtain⟨m,i2,h2,e2,⟨l1,l2⟩,c2⟩:=l6_l0 5 k [0,1] p i1 h1 om (by decide) (by decide) c1 om
 rw[e1,Option.bind_some]
 dsimp only
 rw[e2,Option.bind_some]
 dsimp only
 obtain⟨q,i3,h3,e3,_,_,c3⟩:=below_ok h2 18 c2 (by decide)
 rw[e3,Option.bind_some]
 dsimp only
 by_cases q0:q=0
 ·obtain⟨v,i4,h4,e4,_,c4⟩:=pickInt_ok h3 [(-1),99,0,1] c3 (by decide)
  rw[ip q0,e4,Option.bind_some,ip om]
  exact⟨_,rfl,by dsimp only;rw[List.length_set];omega⟩
 ·rw[ig q0]
  by_cases q1:q=1
  ·rw[ip q1,ip om]
   exact⟨_,rfl,by dsimp only;rw[List.length_append];simp;omega⟩
  ·rw[ig q1]
   exact⟨_,rfl,by dsimp only;omega⟩
end Go.Proofs.Ytbpnjlemjapnnaa.L

namespace Go.Proofs.Ytbpnjlemjapnnaa.L
open Go.RowKit Go.Proofs.Ytbpnjlemjapnnaa.P Go.Proofs.Ytbpnjlemjapnnaa.Help Go.Proofs.YtbpnjlemjapnnaaW.PrintWords
set_option linter.unusedVariables false
set_option linter.unusedSimpArgs false

theorem l3Abs_eq {a:Int} (h0: -9223372036854775807≤a) (h1:a≤9223372036854775807):gB.f a=some (a.natAbs:Int):=by
 unfold gB.f mE.f
 rw[w_id om om]
 by_cases h:a> -a
 ·rw[ip h];simp only[Option.bind_some];congr 1;omega
 ·rw[ig h];simp only[Option.bind_some];congr 1;omega
theorem size_eq {a:Int} (h0: -9223372036854775807≤a) (h1:a≤9223372036854775807):gM.f a=some (a.natAbs:Int):=by
 unfold gM.f
 rw[w_id om om]
 congr 1
 unfold mx
 split <;> omega
theorem copyOf_f (r:List Int) (h:r.length≤1048576):jK.f r=some r:=by
 unfold jK.f
 rw[Option.bind_some,ip (by simp;omega),List.nil_append]
end Go.Proofs.Ytbpnjlemjapnnaa.L

namespace Go.Proofs.Ytbpnjlemjapnnaa.L
open Go Go.RowKit Go.Proofs.Ytbpnjlemjapnnaa.P Go.Proofs.Ytbpnjlemjapnnaa.Help Go.Proofs.YtbpnjlemjapnnaaW.PrintWords Go.Proofs.YtbpnjlemjapnnaaW.PrintLast Go.Proofs.YtbpnjlemjapnnaaW.PrintMore
set_option linter.unusedVariables false
set_option linter.unusedSimpArgs false
def ltR (x:Int):Bool:=decide (x≠0∧ -8≤x∧x≤8)
theorem ltR_true {x:Int} (h:ltR x=true):x≠0∧ -8≤x∧x≤8:=of_decide_eq_true h
theorem qK (x:Int):jV.f x=some (ltR x):=by
 unfold jV.f ltR
 rw[l1In_eq,Option.bind_some]
 by_cases h:1≤x∧x≤8
 ·rw[decide_eq_true h,ip rfl,decide_eq_true om]
 ·rw[decide_eq_false h,ig (by simp),l1In_eq,Option.bind_some]
  congr 1
  exact decide_eq_decide.2 om
theorem qH (x:Int):jU.f x=some (ltR x):=by
 unfold jU.f ltR
 by_cases h:x=0
 ·rw[ip h,decide_eq_false om]
 ·rw[ig h,within_eq,Option.bind_some]
  congr 1
  exact decide_eq_decide.2 om
def wdR (r:List Int):Bool:=r.all ltR && decide ((r.length:Int)≤24)
theorem pD (r:List Int) (hr:r.length≤1000):∀(d k i:Nat),i+d=r.length→d<k→jD.l0 k r (i:Int)=some ((r.drop i).all ltR && decide ((r.length:Int)≤24))
 |0,k,i,hi,hk=>by
  obtain⟨k,rfl⟩:=sk k
  simp only[jD.l0]
  rw[ig om,List.drop_of_length_le om]
  simp
 |d+1,k,i,hi,hk=>by
  obtain⟨k,rfl⟩:=sk k
  have hlt:i<r.length:=by omega
  have ih:=pD r hr d k (i+1) om om
  simp only[jD.l0]
  rw[ip om,ip om,rd_nat r i hlt,qK,Option.bind_some,w_id (a:=(i:Int)+1) om om,show((i:Int)+1)=((i+1:Nat):Int) by omega,List.drop_eq_getElem_cons hlt,List.all_cons]
  cases ltR r[i] with
  |true=>rw[ip rfl,ih,Bool.true_and]
  |false=>rw[ig (by simp),Bool.false_and,Bool.false_and]
theorem mX (r:List Int) (hr:r.length≤1000):∀(d k i:Nat),i+d=r.length→d<k→jB.l0 k r r (r.length:Int) (i:Int)=some ((r.drop i).all ltR && decide ((r.length:Int)≤24))
 |0,k,i,hi,hk=>by
  obtain⟨k,rfl⟩:=sk k
  simp only[jB.l0]
  rw[ig om,List.drop_of_length_le om]
  simp
 |d+1,k,i,hi,hk=>by
  obtain⟨k,rfl⟩:=sk k
  have hlt:i<r.length:=by omega
  have ih:=mX r hr d k (i+1) om om
  simp only[jB.l0]
  rw[ip om,ip om,ip om,rd_nat r i hlt,qH,Option.bind_some,w_id (a:=(i:Int)+1) om om,show((i:Int)+1)=((i+1:Nat):Int) by omega,List.drop_eq_getElem_cons hlt,List.all_cons]
  cases ltR r[i] with
  |true=>rw[ip rfl,ih,Bool.true_and]
  |false=>rw[ig (by simp),Bool.false_and,Bool.false_and]
theorem qL (r:List Int) (hr:r.length≤1000) (k:Nat) (hk:1000<k):jD.f k r=some (wdR r):=pD r hr r.length k 0 om om
theorem qI (r:List Int) (hr:r.length≤1000) (k:Nat) (hk:1000<k):jB.f k r=some (wdR r):=mX r hr r.length k 0 om om
/-- One letter more is counted. -/
def cS (c:List Int) (v:Int):List Int:=c.set v.natAbs (wrap64 (c.getD v.natAbs 0+1))
def cG (g:List (List Int)) (c:List Int):List Int:=g.foldl (fun c r=>r.foldl cS c) c
theorem cS_len (c:List Int) (v:Int):(cS c v).length=c.length:=by simp[cS]
theorem cR_len:∀(r c:List Int),(r.foldl cS c).length=c.length
 |[],_=>rfl
 |v :: r,c=>by rw[List.foldl_cons,cR_len r,cS_len]
theorem cG_len:∀(g:List (List Int)) (c:List Int),(cG g c).length=c.length
 |[],_=>rfl
 |r :: g,c=>by
  have:=cG_len g (r.foldl cS c)
  rw[cR_len]at this
  exact this
theorem rdgc (m:List Int) (d:Nat):rd m (d:Int)=m.getD d 0:=by
 unfold rd
 simp
theorem mW (g:List (List Int)) (i:Nat) (hi:i<g.length) (hg:g.length≤1000) (hr:g[i].length≤1000) (hw:∀v∈g[i],ltR v=true):∀(d k j:Nat) (c:List Int),j+d=g[i].length→d<k→c.length=9→fT.l1 k c g (g.length:Int) (i:Int) g[i] (g[i].length:Int) (j:Int)=fT.l0 (k - d - 1) ((g[i].drop j).foldl cS c) g (g.length:Int) ((i+1:Nat):Int)
 |0,k,j,c,hj,hk,hc=>by
  obtain⟨k,rfl⟩:=sk k
  simp only[fT.l1]
  rw[ig om,List.drop_of_length_le om,w_id om om]
  rfl
 |d+1,k,j,c,hj,hk,hc=>by
  obtain⟨k,rfl⟩:=sk k
  have hlt:j<g[i].length:=by omega
  have hv:=ltR_true (hw _ (List.getElem_mem hlt))
  have ih:=mW g i hi hg hr hw d k (j+1) (cS c g[i][j]) om om (by rw[cS_len];exact hc)
  simp only[fT.l1]
  rw[ip om,ip om,ip om,rd_nat g[i] j hlt,size_eq om om,Option.bind_some,ip om,ip om,w_id (a:=(j:Int)+1) om om,show((j:Int)+1)=((j+1:Nat):Int) by omega,Int.toNat_natCast,rdgc,List.drop_eq_getElem_cons hlt,List.foldl_cons,show k+1 - (d+1) - 1=k - d - 1 by omega]
  exact ih
theorem mV (g:List (List Int)) (hg:g.length≤100) (hr:∀r∈g,r.length≤100) (hw:∀r∈g,∀v∈r,ltR v=true):∀(d k i:Nat) (c:List Int),i+d=g.length→102*d<k→c.length=9→fT.l0 k c g (g.length:Int) (i:Int)=some (cG (g.drop i) c)
 |0,k,i,c,hi,hk,hc=>by
  obtain⟨k,rfl⟩:=sk k
  simp only[fT.l0]
  rw[ig om,List.drop_of_length_le om]
  rfl
 |d+1,k,i,c,hi,hk,hc=>by
  obtain⟨k,rfl⟩:=sk k
  have hlt:i<g.length:=by omega
  have h1:=hr _ (List.getElem_mem hlt)
  have h2:=hw _ (List.getElem_mem hlt)
  have e:=mW g i hlt om om h2 g[i].length k 0 c om om hc
  rw[List.drop_zero]at e
  simp only[fT.l0]
  rw[ip om,ip om,ip om,rdL_nat g i hlt,List.drop_eq_getElem_cons hlt]
  refine Eq.trans e ?_
  exact mV g hg hr hw d _ (i+1) _ om om (by rw[cR_len];exact hc)
theorem pC (g:List (List Int)) (i:Nat) (hi:i<g.length) (hg:g.length≤1000) (hr:g[i].length≤1000) (hw:∀v∈g[i],ltR v=true):∀(d k j:Nat) (c:List Int),j+d=g[i].length→d<k→c.length=9→fW.l1 k g c (i:Int) (j:Int)=fW.l0 (k - d - 1) g ((g[i].drop j).foldl cS c) ((i+1:Nat):Int)
 |0,k,j,c,hj,hk,hc=>by
  obtain⟨k,rfl⟩:=sk k
  simp only[fW.l1]
  rw[ip om,ip om,rdL_nat g i hi,ig om,List.drop_of_length_le om,w_id om om]
  rfl
 |d+1,k,j,c,hj,hk,hc=>by
  obtain⟨k,rfl⟩:=sk k
  have hlt:j<g[i].length:=by omega
  have hv:=ltR_true (hw _ (List.getElem_mem hlt))
  have ih:=pC g i hi hg hr hw d k (j+1) (cS c g[i][j]) om om (by rw[cS_len];exact hc)
  simp only[fW.l1]
  rw[ip om,ip om,rdL_nat g i hi,ip om,ip om,rd_nat g[i] j hlt,l3Abs_eq om om,Option.bind_some,Option.bind_some,ip om,ip om,ip om,ip om,w_id (a:=(j:Int)+1) om om,show((j:Int)+1)=((j+1:Nat):Int) by omega,Int.toNat_natCast,rdgc,List.drop_eq_getElem_cons hlt,List.foldl_cons,show k+1 - (d+1) - 1=k - d - 1 by omega]
  exact ih
theorem pB (g:List (List Int)) (hg:g.length≤100) (hr:∀r∈g,r.length≤100) (hw:∀r∈g,∀v∈r,ltR v=true):∀(d k i:Nat) (c:List Int),i+d=g.length→102*d<k→c.length=9→fW.l0 k g c (i:Int)=some (cG (g.drop i) c)
 |0,k,i,c,hi,hk,hc=>by
  obtain⟨k,rfl⟩:=sk k
  simp only[fW.l0]
  rw[ig om,List.drop_of_length_le om]
  rfl
 |d+1,k,i,c,hi,hk,hc=>by
  obtain⟨k,rfl⟩:=sk k
  have hlt:i<g.length:=by omega
  have h1:=hr _ (List.getElem_mem hlt)
  have h2:=hw _ (List.getElem_mem hlt)
  have e:=pC g i hlt om om h2 g[i].length k 0 c om om hc
  rw[List.drop_zero]at e
  simp only[fW.l0]
  rw[ip om,List.drop_eq_getElem_cons hlt]
  refine Eq.trans e ?_
  exact pB g hg hr hw d _ (i+1) _ om om (by rw[cR_len];exact hc)
def cnt9 (g:List (List Int)):List Int:=cG g (List.replicate 9 0)
theorem cnt9_len (g:List (List Int)):(cnt9 g).length=9:=by rw[cnt9,cG_len];simp
theorem qG (g:List (List Int)) (hg:g.length≤100) (hr:∀r∈g,r.length≤100) (hw:∀r∈g,∀v∈r,ltR v=true) (k:Nat) (hk:11000<k):fT.f k g=some (cnt9 g):=by
 unfold fT.f
 rw[ip (by decide)]
 exact mV g hg hr hw g.length k 0 _ om om (by simp)
theorem qJ (g:List (List Int)) (hg:g.length≤100) (hr:∀r∈g,r.length≤100) (hw:∀r∈g,∀v∈r,ltR v=true) (k:Nat) (hk:11000<k):fW.f k g=some (cnt9 g):=by
 unfold fW.f
 rw[ip (by decide)]
 exact pB g hg hr hw g.length k 0 _ om om (by simp)
def two (n:Int):Bool:=decide (n≤2)
theorem mU (c:List Int) (hc:c.length≤1000):∀(d k i:Nat),i+d=c.length→d<k→fX.l1 k c (c.length:Int) (i:Int)=some ((c.drop i).all two)
 |0,k,i,hi,hk=>by
  obtain⟨k,rfl⟩:=sk k
  simp only[fX.l1]
  rw[ig om,List.drop_of_length_le om]
  rfl
 |d+1,k,i,hi,hk=>by
  obtain⟨k,rfl⟩:=sk k
  have hlt:i<c.length:=by omega
  have ih:=mU c hc d k (i+1) om om
  simp only[fX.l1]
  rw[ip om,ip om,ip om,rd_nat c i hlt,w_id (a:=(i:Int)+1) om om,show((i:Int)+1)=((i+1:Nat):Int) by omega,List.drop_eq_getElem_cons hlt,List.all_cons,two]
  by_cases h:c[i]>2
  ·rw[ip h,decide_eq_false om,Bool.false_and]
  ·rw[ig h,decide_eq_true om,Bool.true_and]
   exact ih
theorem pA (c:List Int) (hc:c.length≤1000):∀(d k i:Nat),i+d=c.length→d<k→fS.l1 k c (i:Int)=some ((c.drop i).all two)
 |0,k,i,hi,hk=>by
  obtain⟨k,rfl⟩:=sk k
  simp only[fS.l1]
  rw[ig om,List.drop_of_length_le om]
  rfl
 |d+1,k,i,hi,hk=>by
  obtain⟨k,rfl⟩:=sk k
  have hlt:i<c.length:=by omega
  have ih:=pA c hc d k (i+1) om om
  simp only[fS.l1]
  rw[ip om,ip om,rd_nat c i hlt,w_id (a:=(i:Int)+1) om om,show((i:Int)+1)=((i+1:Nat):Int) by omega,List.drop_eq_getElem_cons hlt,List.all_cons,two]
  by_cases h:c[i]>2
  ·rw[ip h,decide_eq_false om,Bool.false_and]
  ·rw[ig h,decide_eq_true om,Bool.true_and]
   exact ih
/-- How many sides, if each row is a word that is not empty. -/
def goG:List (List Int)→Int→Option Int
 |[],a=>some a
 |r :: g,a=>if(r.length:Int)=0∨wdR r=false then none else goG g (wrap64 (a+(r.length:Int)))
def endG (g:List (List Int)):Option Int→Bool
 |none=>false
 |some s=>if s>20 then false else(cnt9 g).all two
theorem wdR_all {r:List Int} (h:wdR r=true):∀v∈r,ltR v=true:=by
 unfold wdR at h
 rw[Bool.and_eq_true]at h
 exact List.all_eq_true.1 h.1
theorem take_mem {g:List (List Int)}{i:Nat} (hi:i<g.length) (hw:∀r∈g.take i,wdR r=true) (h:wdR g[i]=true):∀r∈g.take (i+1),wdR r=true:=by
 intro r hr
 rw[List.take_succ_eq_append_getElem hi]at hr
 rcases List.mem_append.1 hr with hr|hr
 ·exact hw r hr
 ·rw[List.mem_singleton.1 hr]
  exact h
theorem mT (g:List (List Int)) (hg:g.length≤100) (hr:∀r∈g,r.length≤100):∀(d k i:Nat) (a:Int),i+d=g.length→12000+d<k→(∀r∈g.take i,wdR r=true)→fX.l0 k g a g (g.length:Int) (i:Int)=some (endG g (goG (g.drop i) a))
 |0,k,i,a,hi,hk,hw=>by
  obtain⟨k,rfl⟩:=sk k
  rw[List.take_of_length_le om]at hw
  have c:=cnt9_len g
  have e:=mU (cnt9 g) om 9 k 0 om om
  rw[List.drop_zero]at e
  simp only[fX.l0]
  rw[ig om,List.drop_of_length_le om]
  simp only[goG,endG]
  by_cases h:a>20
  ·rw[ip h,ip h]
  ·rw[ig h,ig h,qG g hg hr (fun r h1=>wdR_all (hw r h1)) k om,Option.bind_some]
   exact e
 |d+1,k,i,a,hi,hk,hw=>by
  obtain⟨k,rfl⟩:=sk k
  have hlt:i<g.length:=by omega
  have h1:=hr _ (List.getElem_mem hlt)
  simp only[fX.l0]
  rw[ip om,ip om,ip om,rdL_nat g i hlt,List.drop_eq_getElem_cons hlt,goG]
  by_cases h:(g[i].length:Int)=0
  ·rw[ip h,ip (.inl h)]
   rfl
  ·rw[ig h,qI _ om k om,Option.bind_some]
   by_cases w:wdR g[i]=true
   ·rw[ip w,ig (fun q=>q.elim h (fun q=>by rw[w]at q;exact absurd q (by simp))),w_id (a:=(i:Int)+1) om om,show((i:Int)+1)=((i+1:Nat):Int) by omega]
    exact mT g hg hr d k (i+1) _ om om (take_mem hlt hw w)
   ·rw[ig w,ip (.inr (by simpa using w))]
    rfl
theorem mZ (g:List (List Int)) (hg:g.length≤100) (hr:∀r∈g,r.length≤100):∀(d k i:Nat) (a:Int),i+d=g.length→12000+d<k→(∀r∈g.take i,wdR r=true)→fS.l0 k g a (i:Int)=some (decide (1≤(g.length:Int)∧(g.length:Int)≤4) && endG g (goG (g.drop i) a))
 |0,k,i,a,hi,hk,hw=>by
  obtain⟨k,rfl⟩:∃q,k=q+1+1:=⟨k - 2,by omega⟩
  rw[List.take_of_length_le om]at hw
  have c:=cnt9_len g
  have e:=pA (cnt9 g) om 9 k 0 om om
  rw[List.drop_zero]at e
  simp only[fS.l0]
  rw[ig om,List.drop_of_length_le om,l1In_eq,Option.bind_some]
  simp only[goG,endG,fS.j1]
  by_cases n:1≤(g.length:Int)∧(g.length:Int)≤4
  ·rw[decide_eq_true n,ip rfl,Bool.true_and]
   by_cases h:a>20
   ·rw[decide_eq_true h,ip rfl,ip h]
   ·rw[decide_eq_false h,ig (by simp),ig h,qJ g hg hr (fun r h1=>wdR_all (hw r h1)) k om,Option.bind_some]
    exact e
  ·rw[decide_eq_false n,ig (by simp),Bool.false_and,ip trivial]
 |d+1,k,i,a,hi,hk,hw=>by
  obtain⟨k,rfl⟩:=sk k
  have hlt:i<g.length:=by omega
  have h1:=hr _ (List.getElem_mem hlt)
  simp only[fS.l0]
  rw[ip om,ip om,rdL_nat g i hlt,List.drop_eq_getElem_cons hlt,goG]
  by_cases h:(g[i].length:Int)=0
  ·rw[ip h,ip (.inl h)]
   simp[endG]
  ·rw[ig h,qL _ om k om,Option.bind_some]
   by_cases w:wdR g[i]=true
   ·rw[ip w,ig (fun q=>q.elim h (fun q=>by rw[w]at q;exact absurd q (by simp))),w_id (a:=(i:Int)+1) om om,show((i:Int)+1)=((i+1:Nat):Int) by omega]
    exact mZ g hg hr d k (i+1) _ om om (take_mem hlt hw w)
   ·rw[ig w,ip (.inr (by simpa using w))]
    simp[endG]
def gluR (g:List (List Int)):Bool:=decide (1≤(g.length:Int)∧(g.length:Int)≤4) && endG g (goG g 0)
theorem pV (g:List (List Int)) (hg:g.length≤100) (hr:∀r∈g,r.length≤100) (k:Nat) (hk:13000<k):fX.f k g=some (gluR g):=by
 unfold fX.f gluR
 rw[within_eq,Option.bind_some]
 by_cases n:1≤(g.length:Int)∧(g.length:Int)≤4
 ·rw[decide_eq_true n,ip rfl,Bool.true_and]
  have:=mT g hg hr g.length k 0 0 om om (by simp)
  rw[List.drop_zero]at this
  exact this
 ·rw[decide_eq_false n,ig (by simp),Bool.false_and]
theorem pW (g:List (List Int)) (hg:g.length≤100) (hr:∀r∈g,r.length≤100) (k:Nat) (hk:13000<k):fS.f k g=some (gluR g):=by
 have:=mZ g hg hr g.length k 0 0 om om (by simp)
 rw[List.drop_zero]at this
 exact this
/-- The inverse of a word. -/
def invW (r:List Int) (n:Nat):List Int:=(r.take n).reverse.map fun x=>wrap64 (-x)
theorem invW_succ (r:List Int) (n:Nat) (h:n<r.length):invW r (n+1)=wrap64 (-r[n]) :: invW r n:=by
 unfold invW
 rw[List.take_succ_eq_append_getElem h,List.reverse_append]
 rfl
theorem mQ (r:List Int) (hr:r.length≤1000):∀(n k:Nat) (o:List Int),n≤r.length→n<k→o.length+n≤2000→gP.l0 k r o ((n:Int) - 1)=some (o ++ invW r n)
 |0,k,o,hn,hk,ho=>by
  obtain⟨k,rfl⟩:=sk k
  simp only[gP.l0]
  rw[ig om]
  simp[invW]
 |n+1,k,o,hn,hk,ho=>by
  obtain⟨k,rfl⟩:=sk k
  have ih:=mQ r hr n k (o ++ [wrap64 (-r[n])]) om om (by simp;omega)
  simp only[gP.l0]
  rw[show(((n+1:Nat):Int) - 1)=(n:Int) by omega,ip om,ip om,ip om,ip om,rd_nat r n om,w_id (a:=(n:Int) - 1) om om,ih,invW_succ r n om,List.append_assoc]
  rfl
theorem mR (r:List Int) (hr:r.length≤1000):∀(n k:Nat) (o:List Int),n≤r.length→n<k→o.length+n≤2000→gN.l0 k r o ((n:Int) - 1)=some (o ++ invW r n)
 |0,k,o,hn,hk,ho=>by
  obtain⟨k,rfl⟩:=sk k
  simp only[gN.l0]
  rw[ig om]
  simp[invW]
 |n+1,k,o,hn,hk,ho=>by
  obtain⟨k,rfl⟩:=sk k
  have ih:=mR r hr n k (o ++ [wrap64 (-r[n])]) om om (by simp;omega)
  simp only[gN.l0]
  rw[show(((n+1:Nat):Int) - 1)=(n:Int) by omega,ip om,ip om,ip om,ip om,rd_nat r n om,w_id (a:=(n:Int) - 1) om om,ih,invW_succ r n om,List.append_assoc]
  rfl
theorem inv_both (r:List Int) (hr:r.length≤1000) (k:Nat) (hk:1000<k):gP.f k r=some (invW r r.length)∧gN.f k r=some (invW r r.length):=by
 unfold gP.f gN.f
 rw[w_id (a:=(r.length:Int) - 1) om om,mQ r hr r.length k [] om om (by simp;omega),mR r hr r.length k [] om om (by simp;omega)]
 exact⟨rfl,rfl⟩
theorem invW_len (r:List Int):(invW r r.length).length=r.length:=by simp[invW]
theorem mS (g:List (List Int)) (hg:g.length≤100) (hr:∀r∈g,r.length≤100):∀(d k i:Nat),i+d=g.length→d<k→gO.l0 k (g.take i) g (g.length:Int) (i:Int)=some g
 |0,k,i,hi,hk=>by
  obtain⟨k,rfl⟩:=sk k
  simp only[gO.l0]
  rw[ig om,List.take_of_length_le om]
 |d+1,k,i,hi,hk=>by
  obtain⟨k,rfl⟩:=sk k
  have hlt:i<g.length:=by omega
  have h1:=hr _ (List.getElem_mem hlt)
  have ih:=mS g hg hr d k (i+1) om om
  rw[List.take_succ_eq_append_getElem hlt]at ih
  simp only[gO.l0]
  rw[ip om,ip om,ip om,rdL_nat g i hlt,copyOf_f _ om,Option.bind_some,ip (by rw[List.length_take];omega),w_id (a:=(i:Int)+1) om om,show((i:Int)+1)=((i+1:Nat):Int) by omega]
  exact ih
theorem mY (g:List (List Int)) (hg:g.length≤100) (hr:∀r∈g,r.length≤100):∀(d k i:Nat),i+d=g.length→d<k→gU.l0 k g (g.take i) (i:Int)=some g
 |0,k,i,hi,hk=>by
  obtain⟨k,rfl⟩:=sk k
  simp only[gU.l0]
  rw[ig om,List.take_of_length_le om]
 |d+1,k,i,hi,hk=>by
  obtain⟨k,rfl⟩:=sk k
  have hlt:i<g.length:=by omega
  have h1:=hr _ (List.getElem_mem hlt)
  have ih:=mY g hg hr d k (i+1) om om
  rw[List.take_succ_eq_append_getElem hlt]at ih
  simp only[gU.l0]
  rw[ip om,Option.bind_some,ip om,rdL_nat g i hlt,ip (by simp;omega),ip (by rw[List.length_take];omega),List.nil_append,w_id (a:=(i:Int)+1) om om,show((i:Int)+1)=((i+1:Nat):Int) by omega]
  exact ih
/-- The gluing with its first polygon turned over. -/
def mirR (g:List (List Int)):List (List Int) × Bool:=if gluR g=true then(if gluR (g.set 0 (invW (g.getD 0 []) (g.getD 0 []).length))=true then(g.set 0 (invW (g.getD 0 []) (g.getD 0 []).length),true) else([],false)) else([],false)
theorem mir_rows {g:List (List Int)} (hr:∀r∈g,r.length≤100) (h0:0<g.length):∀r∈g.set 0 (invW g[0] g[0].length),r.length≤100:=by
 intro r h
 rcases List.mem_or_eq_of_mem_set h with h|rfl
 ·exact hr r h
 ·rw[invW_len]
  exact hr _ (List.getElem_mem h0)
theorem qD (g:List (List Int)) (hg:g.length≤100) (hr:∀r∈g,r.length≤100) (k:Nat) (hk:14000<k):jH.f k g 0=some (mirR g):=by
 unfold jH.f jQ.f mirR
 rw[pV g hg hr k om,Option.bind_some]
 by_cases h:gluR g=true
 ·have h0:0<g.length:=by
   unfold gluR at h
   rw[Bool.and_eq_true,decide_eq_true_iff]at h
   omega
  have e0:g.getD 0 []=g[0]:=by simp[List.getD_eq_getElem?_getD,List.getElem?_eq_getElem h0]
  have r0:rd_L1 g 0=g[0]:=rdL_nat g 0 h0
  have l0:=hr _ (List.getElem_mem h0)
  have iv:=inv_both g[0] om k om
  have c1:gO.f k g=some g:=mS g hg hr g.length k 0 om om
  have ml:(g.set 0 (invW g[0] g[0].length)).length≤100:=by rw[List.length_set];exact hg
  have g1:=pV _ ml (mir_rows hr h0) k om
  rw[e0,ip h,ip h,w_id (a:=(g.length:Int) - 1) om om,within_eq,decide_eq_true (show(0:Int)≤0∧(0:Int)≤(g.length:Int) - 1 by omega),Option.bind_some,Option.bind_some,ip rfl,c1,Option.bind_some,ip (by decide),ip om,r0,iv.1,Option.bind_some,ip om,show((0:Int).toNat)=0 from rfl]
  unfold mA.f
  rw[g1,Option.bind_some]
  by_cases q:gluR (g.set 0 (invW g[0] g[0].length))=true
  ·rw[ip q,ip q]
   rfl
  ·rw[ig q,ig q]
   rfl
 ·rw[ig h,ig h,Option.bind_some,ig (by simp)]
theorem qF (g:List (List Int)) (hg:g.length≤100) (hr:∀r∈g,r.length≤100) (k:Nat) (hk:14000<k):gJ.f k g 0=some (mirR g):=by
 unfold gJ.f mirR
 rw[pW g hg hr k om,Option.bind_some]
 obtain⟨k,rfl⟩:=sk k
 by_cases h:gluR g=true
 ·have h0:0<g.length:=by
   unfold gluR at h
   rw[Bool.and_eq_true,decide_eq_true_iff]at h
   omega
  have e0:g.getD 0 []=g[0]:=by simp[List.getD_eq_getElem?_getD,List.getElem?_eq_getElem h0]
  have r0:rd_L1 g 0=g[0]:=rdL_nat g 0 h0
  have l0:=hr _ (List.getElem_mem h0)
  have iv:=inv_both g[0] om k om
  have c2:gU.f k g=some g:=mY g hg hr g.length k 0 om om
  have ml:(g.set 0 (invW g[0] g[0].length)).length≤100:=by rw[List.length_set];exact hg
  have g2:=pW _ ml (mir_rows hr h0) k om
  rw[e0,ip h,ip h,w_id (a:=(g.length:Int) - 1) om om,l1In_eq,decide_eq_true (show(0:Int)≤0∧(0:Int)≤(g.length:Int) - 1 by omega),Option.bind_some]
  simp only[gJ.j0,Bool.not_true,Bool.false_eq_true,if_false]
  rw[ip (by decide),ip om,r0,iv.2,Option.bind_some]
  unfold mF.f jX.f
  rw[c2,Option.bind_some,ip (by decide),ip om,show((0:Int).toNat)=0 from rfl,g2,Option.bind_some]
  by_cases q:gluR (g.set 0 (invW g[0] g[0].length))=true
  ·rw[ip q,ip q]
   rfl
  ·rw[ig q,ig q]
   rfl
 ·rw[ig h,ig h]
  simp only[gJ.j0]
  rw[ip trivial]
end Go.Proofs.Ytbpnjlemjapnnaa.L

namespace Go.Proofs.Ytbpnjlemjapnnaa.L
open Go.RowKit Go.Proofs.Ytbpnjlemjapnnaa.P Go.Proofs.Ytbpnjlemjapnnaa.Help Go.Proofs.YtbpnjlemjapnnaaW.PrintWords
set_option linter.unusedVariables false
set_option linter.unusedSimpArgs false

/-- The letters of a row, put to those that are seen. -/
def rowR (n:Int):List Int→List Int→Option (List Int)
 |seen,[]=>some seen
 |seen,x :: xs=>if x≠0∧(-n≤x∧x≤n)∧x ∉ seen then rowR n (x :: seen) xs else none
def triR (n:Int):List Int→List (List Int)→Bool
 |_,[]=>true
 |seen,r :: rs=>if r.length=3 then(match rowR n seen r with|some s=>triR n s rs|none=>false)else false
/-- The number of edges. -/
def edges (t:List (List Int)):Int:=wrap64 (Int.tdiv (wrap64 (3*(t.length:Int))) 2)
def isT (t:List (List Int)):Bool:=if(t.length:Int) % 2=0∧3≤edges t∧edges t≤9 then triR (edges t) [] t else false

theorem pR (t:List (List Int)) (n:Int) (hn:3≤n∧n≤9) (i:Nat) (hi:i<t.length) (hl:t[i].length=3):∀(d j k:Nat) (seen:List Int),j+d=3→d<k→
  fE.l1 k t n seen (i:Int) (j:Int)=(match rowR n seen (t[i].drop j) with|some s=>fE.l0 (k - d - 1) t n s (wrap64 ((i:Int)+1))|none=>some false):=by
 intro d
 induction d with
 |zero=>
  intro j k seen hj hk
  obtain⟨k,rfl⟩:=sk k
  simp only[fE.l1]
  rw[rdL_nat t i hi,ig om,List.drop_of_length_le om]
  rfl
 |succ d ih=>
  intro j k seen hj hk
  obtain⟨k,rfl⟩:=sk k
  have hlt:j<t[i].length:=by omega
  simp only[fE.l1]
  rw[rdL_nat t i hi,ip om,ip om,rd_nat _ j hlt,within_eq,Option.bind_some,w_id (a:= -n) om om,List.drop_eq_getElem_cons hlt]
  by_cases h1:t[i][j]=0
  ·rw[ip h1]
   simp[rowR,h1]
  ·rw[ig h1]
   by_cases h2: -n≤t[i][j]∧t[i][j]≤n
   ·rw[ip (by simpa using h2)]
    by_cases h3:t[i][j]∈seen
    ·rw[ip h3]
     simp[rowR,h3]
    ·rw[ig h3,w_id (a:=(j:Int)+1) om om,show((j:Int)+1)=((j+1:Nat):Int) by omega,ih (j+1) k _ om om,rowR,ip ⟨h1,h2,h3⟩,show k+1 - (d+1) - 1=k - d - 1 by omega]
   ·rw[ig (by simpa using h2),rowR,ig (fun h=>h2 h.2.1)]
theorem pQ (t:List (List Int)) (ht:t.length≤1048600) (n:Int) (hn:3≤n∧n≤9):∀(d i k:Nat) (seen:List Int),i+d=t.length→5*d<k→
  fE.l0 k t n seen (i:Int)=some (triR n seen (t.drop i)):=by
 intro d
 induction d with
 |zero=>
  intro i k seen hi hk
  obtain⟨k,rfl⟩:=sk k
  simp only[fE.l0]
  rw[ig om,List.drop_of_length_le om]
  rfl
 |succ d ih=>
  intro i k seen hi hk
  obtain⟨k,rfl⟩:=sk k
  have hlt:i<t.length:=by omega
  simp only[fE.l0]
  rw[ip om,ip om,rdL_nat t i hlt,List.drop_eq_getElem_cons hlt,triR]
  by_cases h1:t[i].length=3
  ·have:=pR t n hn i hlt h1 3 0 k seen om om
   rw[ip om,ip h1,show(0:Int)=((0:Nat):Int)from rfl,this,List.drop_zero]
   cases rowR n seen t[i] with
   |none=>rfl
   |some s=>
    show fE.l0 _ t n s _=some (triR n s _)
    rw[w_id om om,show((i:Int)+1)=((i+1:Nat):Int) by omega,ih (i+1) _ s om om]
  ·rw[ig om,ig h1]
theorem impl_isT' (t:List (List Int)) (ht:t.length≤1048600) (k:Nat) (hk:6000000<k):fE.f k t=some (isT t):=by
 obtain⟨k,rfl⟩:=sk k
 unfold fE.f
 rw[within_eq,Option.bind_some]
 unfold isT edges
 by_cases h1:(t.length:Int) % 2=0
 ·rw[ip h1]
  simp only[fE.j0]
  by_cases h2:3≤wrap64 (Int.tdiv (wrap64 (3*(t.length:Int))) 2)∧wrap64 (Int.tdiv (wrap64 (3*(t.length:Int))) 2)≤9
  ·rw[ig (by simpa using h2),ip ⟨h1,h2⟩]
   have:=pQ t ht _ h2 t.length 0 k [] om om
   rw[List.drop_zero]at this
   exact this
  ·rw[ip (by rw[decide_eq_false h2];rfl),ig (fun h=>h2 h.2)]
 ·rw[ig h1]
  simp only[fE.j0]
  rw[ip trivial,ig (fun h=>h1 h.1)]
/-- What is marked is what is seen. -/
def Marks (n:Int) (x4:List Bool) (seen:List Int):Prop:=(x4.length:Int)=2*n+1∧∀y, -n≤y→y≤n→rdOf false x4 (n+y)=decide (y∈seen)
theorem Marks.put {n:Int}{x4:List Bool}{seen:List Int} (h:Marks n x4 seen){x:Int} (hx: -n≤x∧x≤n):Marks n (x4.set (n+x).toNat true) (x :: seen):=by
 obtain⟨h1,h2⟩:=h
 refine⟨by rw[List.length_set];exact h1,fun y hy1 hy2=>?_⟩
 have h3:=h2 y hy1 hy2
 unfold rdOf at h3 ⊢
 rw[List.getD_eq_getElem?_getD]at h3 ⊢
 rw[List.getElem?_set]
 by_cases e:(n+x).toNat=(n+y).toNat
 ·have:x=y:=by omega
  subst this
  rw[ip rfl,ip om]
  simp
 ·have hne:y≠x:=fun e'=>e (by rw[e'])
  rw[ig e,h3]
  simp[hne]
theorem Marks.made {n:Int} (hn:0≤n):Marks n (List.replicate (2*n+1).toNat false) []:=by
 refine⟨by rw[List.length_replicate];omega,fun y _ _=>?_⟩
 unfold rdOf
 rw[List.getD_eq_getElem?_getD,List.getElem?_replicate]
 split <;> simp
theorem pU (t:List (List Int)) (n:Int) (hn:3≤n∧n≤9) (i:Nat) (hi:i<t.length) (hl:t[i].length=3):∀(d j k:Nat) (x4:List Bool) (seen:List Int),Marks n x4 seen→j+d=3→d<k→
  (rowR n seen (t[i].drop j)=none∧fC.l1 k t n x4 (i:Int) (j:Int)=some false)∨∃s x4',rowR n seen (t[i].drop j)=some s∧Marks n x4' s∧fC.l1 k t n x4 (i:Int) (j:Int)=fC.l0 (k - d - 1) t n x4' (wrap64 ((i:Int)+1)):=by
 intro d
 induction d with
 |zero=>
  intro j k x4 seen hm hj hk
  obtain⟨k,rfl⟩:=sk k
  simp only[fC.l1]
  rw[ig om,List.drop_of_length_le om]
  exact .inr ⟨seen,x4,rfl,hm,rfl⟩
 |succ d ih=>
  intro j k x4 seen hm hj hk
  obtain⟨k,rfl⟩:=sk k
  have hlt:j<t[i].length:=by omega
  simp only[fC.l1]
  rw[ip om,ip om,ip om,ip om,rdL_nat t i hi,ip om,rd_nat _ j hlt,l1In_eq,Option.bind_some,w_id (a:= -n) om om,List.drop_eq_getElem_cons hlt]
  by_cases h1:t[i][j]=0
  ·rw[ip h1]
   exact .inl ⟨by simp[rowR,h1],rfl⟩
  ·rw[ig h1]
   by_cases h2: -n≤t[i][j]∧t[i][j]≤n
   ·have hx:=hm.2 _ h2.1 h2.2
    have hlen:=hm.1
    rw[ip (by simpa using h2),w_id (a:=n+t[i][j]) om om,ip om,ip om,hx]
    by_cases h3:t[i][j]∈seen
    ·rw[ip (by simpa using h3)]
     exact .inl ⟨by simp[rowR,h3],rfl⟩
    ·rw[ig (by simpa using h3),w_id (a:=(j:Int)+1) om om,show((j:Int)+1)=((j+1:Nat):Int) by omega,rowR,ip ⟨h1,h2,h3⟩,show k+1 - (d+1) - 1=k - d - 1 by omega]
     exact ih (j+1) k _ _ (hm.put h2) om om
   ·rw[ig (by simpa using h2),rowR,ig (fun h=>h2 h.2.1)]
    exact .inl ⟨rfl,rfl⟩
theorem pT (t:List (List Int)) (ht:t.length≤1048600) (n:Int) (hn:3≤n∧n≤9):∀(d i k:Nat) (x4:List Bool) (seen:List Int),Marks n x4 seen→i+d=t.length→5*d<k→
  fC.l0 k t n x4 (i:Int)=some (triR n seen (t.drop i)):=by
 intro d
 induction d with
 |zero=>
  intro i k x4 seen hm hi hk
  obtain⟨k,rfl⟩:=sk k
  simp only[fC.l0]
  rw[ig om,List.drop_of_length_le om]
  rfl
 |succ d ih=>
  intro i k x4 seen hm hi hk
  obtain⟨k,rfl⟩:=sk k
  have hlt:i<t.length:=by omega
  simp only[fC.l0]
  rw[ip om,ip om,rdL_nat t i hlt,List.drop_eq_getElem_cons hlt,triR]
  by_cases h1:t[i].length=3
  ·rw[ip om,ip h1,show(0:Int)=((0:Nat):Int)from rfl]
   rcases pU t n hn i hlt h1 3 0 k x4 seen hm om om with ⟨h2,h3⟩|⟨s,x4',h2,h3,h4⟩
   ·rw[h3]
    rw[List.drop_zero]at h2
    rw[h2]
   ·rw[h4]
    rw[List.drop_zero]at h2
    rw[h2,w_id om om,show((i:Int)+1)=((i+1:Nat):Int) by omega]
    exact ih (i+1) _ x4' s h3 om om
  ·rw[ig om,ig h1]
theorem spec_isT' (t:List (List Int)) (ht:t.length≤1048600) (k:Nat) (hk:6000000<k):fC.f k t=some (isT t):=by
 obtain⟨k,rfl⟩:=sk k
 unfold fC.f
 rw[l1In_eq,Option.bind_some]
 unfold isT edges
 by_cases h1:(t.length:Int) % 2=0
 ·rw[ip h1]
  simp only[fC.j0]
  by_cases h2:3≤wrap64 (Int.tdiv (wrap64 (3*(t.length:Int))) 2)∧wrap64 (Int.tdiv (wrap64 (3*(t.length:Int))) 2)≤9
  ·obtain⟨n,hn⟩:∃n:Int,wrap64 (Int.tdiv (wrap64 (3*(t.length:Int))) 2)=n:=⟨_,rfl⟩
   rw[hn]at h2 ⊢
   rw[ig (by simpa using h2),ip (show(t.length:Int) % 2=0∧3≤n∧n≤9 from⟨h1,h2⟩),w_id (a:=2*n) om om,w_id (a:=2*n+1) om om,ip om,ip om]
   have:=pT t ht n h2 t.length 0 k _ [] (Marks.made om) om om
   rw[List.drop_zero]at this
   exact this
  ·rw[ip (by rw[decide_eq_false h2];rfl),ig (fun h=>h2 h.2)]
 ·rw[ig h1]
  simp only[fC.j0]
  rw[ip trivial,ig (fun h=>h1 h.1)]
theorem pL (t:List (List Int)) (ht:t.length≤1048576) (k:Nat) (hk:6000000<k):fE.f k t=some (isT t):=impl_isT' t om k hk
theorem pP (t:List (List Int)) (ht:t.length≤1048576) (k:Nat) (hk:6000000<k):fC.f k t=some (isT t):=spec_isT' t om k hk
theorem rowR_some {n:Int}:∀ {r seen s:List Int},rowR n seen r=some s→(∀x∈r,x≠0∧ -n≤x∧x≤n)∧r.Nodup∧(∀x∈r,x ∉ seen)∧∀x,x∈s↔x∈r∨x∈seen
 |[],seen,s,h=>by
  have e:seen=s:=Option.some.inj h
  subst e
  simp
 |y :: ys,seen,s,h=>by
  rw[rowR]at h
  by_cases c:y≠0∧(-n≤y∧y≤n)∧y ∉ seen
  ·rw[ip c]at h
   obtain⟨h1,h2,h3,h4⟩:=rowR_some h
   refine⟨fun x hx=>?_,List.nodup_cons.2 ⟨fun hy=>h3 y hy List.mem_cons_self,h2⟩,fun x hx hs=>?_,fun x=>?_⟩
   ·rcases List.mem_cons.1 hx with rfl|hx
    ·exact⟨c.1,c.2.1⟩
    ·exact h1 x hx
   ·rcases List.mem_cons.1 hx with rfl|hx
    ·exact c.2.2 hs
    ·exact h3 x hx (List.mem_cons_of_mem _ hs)
   ·rw[h4 x,List.mem_cons,List.mem_cons]
    constructor
    ·rintro (h|h|h)
     ·exact .inl (.inr h)
     ·exact .inl (.inl h)
     ·exact .inr h
    ·rintro ((h|h)|h)
     ·exact .inr (.inl h)
     ·exact .inl h
     ·exact .inr (.inr h)
  ·rw[ig c]at h
   exact absurd h (by simp)
theorem triR_true {n:Int}:∀ {rows:List (List Int)}{seen:List Int},triR n seen rows=true→(∀r∈rows,r.length=3)∧(∀x∈rows.flatten,x≠0∧ -n≤x∧x≤n)∧rows.flatten.Nodup∧∀x∈rows.flatten,x ∉ seen
 |[],seen,_=>by simp
 |r :: rs,seen,h=>by
  rw[triR]at h
  by_cases c:r.length=3
  ·rw[ip c]at h
   cases hr:rowR n seen r with
   |none=>rw[hr]at h;exact absurd h (by simp)
   |some s=>
    rw[hr]at h
    obtain⟨h1,h2,h3,h4⟩:=rowR_some hr
    obtain⟨g1,g2,g3,g4⟩:=triR_true (show triR n s rs=true from h)
    refine⟨fun x hx=>?_,fun x hx=>?_,?_,fun x hx hs=>?_⟩
    ·rcases List.mem_cons.1 hx with rfl|hx
     ·exact c
     ·exact g1 x hx
    ·rw[List.flatten_cons,List.mem_append]at hx
     rcases hx with hx|hx
     ·exact h1 x hx
     ·exact g2 x hx
    ·rw[List.flatten_cons]
     refine List.nodup_append.2 ⟨h2,g3,fun a ha b hb e=>?_⟩
     subst e
     exact g4 a hb ((h4 a).2 (.inl ha))
    ·rw[List.flatten_cons,List.mem_append]at hx
     rcases hx with hx|hx
     ·exact h3 x hx hs
     ·exact g4 x hx ((h4 x).2 (.inr hs))
  ·rw[ig c]at h
   exact absurd h (by simp)
/-- A triangulation with n edges. -/
structure TriOk (t:List (List Int)) (n:Int):Prop where
 n3:3≤n
 n9:n≤9
 len:3*(t.length:Int)=2*n
 row:∀r∈t,r.length=3
 inr:∀x∈t.flatten,x≠0∧ -n≤x∧x≤n
 nodup:t.flatten.Nodup
theorem edges_eq {t:List (List Int)} (ht:t.length≤1048600):edges t=3*(t.length:Int) / 2:=by
 unfold edges
 rw[w_id (a:=3*(t.length:Int)) om om,Int.tdiv_eq_ediv_of_nonneg om,w_id om om]
theorem isT_ok' {t:List (List Int)} (ht:t.length≤1048600) (h:isT t=true):TriOk t (edges t):=by
 unfold isT at h
 by_cases c:(t.length:Int) % 2=0∧3≤edges t∧edges t≤9
 ·rw[ip c]at h
  obtain⟨h1,h2,h3,_⟩:=triR_true h
  have e:=edges_eq ht
  exact⟨c.2.1,c.2.2,by omega,h1,h2,h3⟩
 ·rw[ig c]at h
  exact absurd h (by simp)
theorem isT_ok {t:List (List Int)} (ht:t.length≤1048576) (h:isT t=true):TriOk t (edges t):=isT_ok' om h
theorem TriOk.short {t:List (List Int)}{n:Int} (h:TriOk t n):t.length≤6∧2≤t.length:=by
 have:=h.n3
 have:=h.n9
 have:=h.len
 omega
theorem TriOk.at {t:List (List Int)}{n:Int} (h:TriOk t n){i j:Nat} (hi:i<t.length) (hj:j<t[i].length):t[i][j]≠0∧ -n≤t[i][j]∧t[i][j]≤n:=
 h.inr _ (List.mem_flatten.2 ⟨t[i],List.getElem_mem hi,List.getElem_mem hj⟩)
theorem TriOk.three {t:List (List Int)}{n:Int} (h:TriOk t n){i:Nat} (hi:i<t.length):t[i].length=3:=h.row _ (List.getElem_mem hi)
theorem TriOk.i64 {t:List (List Int)}{n:Int} (h:TriOk t n){r:List Int} (hr:r∈t):∃a b c,r=[a,b,c]∧(a≠0∧ -n≤a∧a≤n)∧(b≠0∧ -n≤b∧b≤n)∧(c≠0∧ -n≤c∧c≤n):=by
 have hl:=h.row r hr
 match r,hl with
 |[a,b,c],_=>
  exact⟨a,b,c,rfl,h.inr _ (List.mem_flatten.2 ⟨_,hr,by simp⟩),h.inr _ (List.mem_flatten.2 ⟨_,hr,by simp⟩),h.inr _ (List.mem_flatten.2 ⟨_,hr,by simp⟩)⟩
/-- The parts of a text between the bytes b, from a place on. -/
def partsR (x:ByteArray) (b:Int):Nat→Nat→Nat→List ByteArray
 |0,a,_=>[x.extract a x.size]
 |d+1,a,i=>if bt x (i:Int)=b then x.extract a i :: partsR x b d (i+1) (i+1)else partsR x b d a (i+1)
theorem parts_len (x:ByteArray) (b:Int):∀(d a i:Nat),(partsR x b d a i).length≤d+1
 |0,_,_=>by simp[partsR]
 |d+1,a,i=>by
  rw[partsR]
  split
  ·have:=parts_len x b d (i+1) (i+1);rw[List.length_cons];omega
  ·have:=parts_len x b d a (i+1);omega
/-- The lengths, one more each. -/
def sizes:List ByteArray→Nat
 |[]=>0
 |p :: ps=>p.size+1+sizes ps
theorem parts_sizes (x:ByteArray) (b:Int):∀(d a i:Nat),i+d=x.size→a≤i→sizes (partsR x b d a i)=x.size - a+1
 |0,a,i,h,ha=>by
  rw[partsR,sizes,sizes,ByteArray.size_extract]
  omega
 |d+1,a,i,h,ha=>by
  rw[partsR]
  split
  ·rw[sizes,ByteArray.size_extract,parts_sizes x b d (i+1) (i+1) om om]
   omega
  ·exact parts_sizes x b d a (i+1) om om
theorem pJ (x:ByteArray) (hx:x.size≤1048576) (b:Int):∀(d k a i:Nat) (out:List ByteArray),i+d=x.size→d+3<k→a≤i→out.length≤i→gI.l0 k x b out (a:Int) (i:Int)=some (out ++ partsR x b d a i):=by
 intro d
 induction d with
 |zero=>
  intro k a i out hi hk ha ho
  obtain⟨k,rfl⟩:∃m,k=m+2:=⟨k - 2,by omega⟩
  rw[show k+2=(k+1)+1 from rfl]
  simp only[gI.l0]
  rw[ip om,ip om,ip om,ip om,ip om,w_id (a:=(i:Int)+1) om om,ig om,Int.toNat_natCast,Int.toNat_natCast,partsR,show i=x.size by omega]
 |succ d ih=>
  intro k a i out hi hk ha ho
  obtain⟨k,rfl⟩:=sk k
  simp only[gI.l0]
  rw[ip om,ig om,ip om,ip om,partsR]
  by_cases h:bt x (i:Int)=b
  ·rw[ip h,ip h,ip om,ip om,ip om,w_id (a:=(i:Int)+1) om om,show((i:Int)+1)=((i+1:Nat):Int) by omega,ih k (i+1) (i+1) _ om om om (by rw[List.length_append];simp;omega),List.append_assoc,Int.toNat_natCast,Int.toNat_natCast]
   rfl
  ·rw[ig h,ig h,w_id (a:=(i:Int)+1) om om,show((i:Int)+1)=((i+1:Nat):Int) by omega,ih k a (i+1) _ om om om om]
theorem qB (x:ByteArray) (hx:x.size≤1048576) (b:Int) (k:Nat) (hk:1048580<k):gI.f k x b=some (partsR x b x.size 0 0):=by
 unfold gI.f
 have:=pJ x hx b x.size k 0 0 [] om om om (by simp)
 rw[List.nil_append]at this
 exact this
/-- A byte's letter. -/
def letP (b:Int):Option Int:=if 97≤b∧b≤105 then some (b - 96)else if 65≤b∧b≤73 then some (64 - b)else none
def bytesP (x:ByteArray):Nat→Nat→Option (List Int)
 |0,_=>some []
 |d+1,j=>match letP (bt x (j:Int)) with|none=>none|some y=>match bytesP x d (j+1) with|none=>none|some r=>some (y :: r)
theorem bytesP_len (x:ByteArray):∀(d j:Nat) (r:List Int),bytesP x d j=some r→r.length=d
 |0,j,r,h=>by have:=Option.some.inj h;subst this;rfl
 |d+1,j,r,h=>by
  rw[bytesP]at h
  cases h1:letP (bt x (j:Int)) with
  |none=>rw[h1]at h;exact absurd h (by simp)
  |some y=>
   rw[h1]at h
   cases h2:bytesP x d (j+1) with
   |none=>rw[h2]at h;exact absurd h (by simp)
   |some s=>
    rw[h2]at h
    have:=Option.some.inj h
    subst this
    rw[List.length_cons,bytesP_len x d (j+1) s h2]
def parseR:List ByteArray→List (List Int)→List (List Int) × Bool
 |[],out=>if isT out=true then(out,true) else([],false)
 |p :: ps,out=>match bytesP p p.size 0 with|none=>([],false)|some r=>parseR ps (out ++ [r])
theorem bt_bd (x:ByteArray) (i:Int):0≤bt x i∧bt x i≤255:=by
 unfold bt
 split
 ·have:=(x[i.toNat]).toNat_lt
  omega
 ·omega
theorem part_at (ps:List ByteArray) (i:Nat) (h:i<ps.length):rdOf ByteArray.empty ps (i:Int)=ps[i]:=by
 unfold rdOf
 simp[List.getD_eq_getElem?_getD,List.getElem?_eq_getElem h]
theorem pI (ps:List ByteArray) (i:Nat) (hi:i<ps.length) (hs:ps[i].size≤1048576) (out:List (List Int)) (ho:out.length≤1048600):∀(d j k:Nat) (row:List Int),j+d=ps[i].size→2*d<k→row.length≤j→
  fL.l1 k out ps (i:Int) row (j:Int)=(match bytesP ps[i] d j with|none=>some ([],false)|some r=>fL.l0 (k - 2*d - 1) (out ++ [row ++ r]) ps (wrap64 ((i:Int)+1))):=by
 intro d
 induction d with
 |zero=>
  intro j k row hj hk hr
  obtain⟨k,rfl⟩:=sk k
  simp only[fL.l1]
  rw[ip om,ip om,part_at ps i hi,ig om,ip om]
  simp[bytesP]
 |succ d ih=>
  intro j k row hj hk hr
  obtain⟨k,rfl⟩:∃m,k=m+2:=⟨k - 2,by omega⟩
  have hb:=bt_bd ps[i] (j:Int)
  rw[show k+2=(k+1)+1 from rfl]
  simp only[fL.l1]
  rw[ip om,ip om,part_at ps i hi,ip om,ip om,bytesP]
  simp only[fL.j2]
  generalize bt ps[i] (j:Int)=c at hb ⊢
  have hgo:∀y:Int,fL.l1 k out ps (i:Int) (row ++ [y]) (wrap64 ((j:Int)+1))=(match (match bytesP ps[i] d (j+1) with|none=>none|some r=>some (y :: r)) with|none=>some ([],false)|some r=>fL.l0 (k+1+1 - 2*(d+1) - 1) (out ++ [row ++ r]) ps (wrap64 ((i:Int)+1))):=by
   intro y
   rw[w_id (a:=(j:Int)+1) om om,show((j:Int)+1)=((j+1:Nat):Int) by omega,ih (j+1) k _ om om (by rw[List.length_append];simp;omega)]
   cases bytesP ps[i] d (j+1) with
   |none=>rfl
   |some r=>
    show fL.l0 _ _ _ _=fL.l0 _ _ _ _
    rw[List.append_assoc,show k+1+1 - 2*(d+1) - 1=k - 2*d - 1 by omega]
    rfl
  unfold letP
  by_cases h1:97≤c
  ·rw[ip h1]
   by_cases h2:c≤105
   ·rw[ip (by simpa using h2),ip (show row.length<17592186044416 by omega),ip (show 97≤c∧c≤105 from⟨h1,h2⟩),w_id (a:=c) om om,w_id (a:=c - 97) om om,w_id om om,hgo,show c - 97+1=c - 96 by omega]
   ·rw[ig (by simpa using h2),ig (show ¬(97≤c∧c≤105)from fun h=>h2 h.2),ip (show c ≥ 65 by omega),ig om,ig (show ¬(65≤c∧c≤73) by omega)]
  ·rw[ig h1,ig (show ¬(false=true) by decide),ig (show ¬(97≤c∧c≤105)from fun h=>h1 h.1)]
   by_cases h3:65≤c
   ·rw[ip h3]
    by_cases h4:c≤73
    ·rw[ip h4,ip (show row.length<17592186044416 by omega),ip (show 65≤c∧c≤73 from⟨h3,h4⟩),w_id (a:=c) om om,w_id (a:=c - 65) om om,w_id (a:=c - 65+1) om om,w_id om om,hgo,show -(c - 65+1)=64 - c by omega]
    ·rw[ig h4,ig (show ¬(65≤c∧c≤73)from fun h=>h4 h.2)]
   ·rw[ig h3,ig (show ¬(65≤c∧c≤73)from fun h=>h3 h.1)]
theorem pH (ps:List ByteArray) (hps:∀p∈ps,p.size≤1048576) (hn:ps.length≤1048590):∀(d i k:Nat) (out:List (List Int)),i+d=ps.length→2*sizes (ps.drop i)+6000002<k→out.length≤i→fL.l0 k out ps (i:Int)=some (parseR (ps.drop i) out):=by
 intro d
 induction d with
 |zero=>
  intro i k out hi hk ho
  obtain⟨k,rfl⟩:=sk k
  simp only[fL.l0]
  rw[ig om,spec_isT' out om k om,Option.bind_some,List.drop_of_length_le om,parseR]
  split <;> rfl
 |succ d ih=>
  intro i k out hi hk ho
  obtain⟨k,rfl⟩:=sk k
  have hlt:i<ps.length:=by omega
  have hs:=hps _ (List.getElem_mem hlt)
  rw[List.drop_eq_getElem_cons hlt,sizes]at hk
  have:=pI ps i hlt hs out om ps[i].size 0 k [] om om (by simp)
  simp only[fL.l0]
  rw[show((0:Nat):Int)=0 from rfl]at this
  rw[ip om,this,List.drop_eq_getElem_cons hlt,parseR]
  cases bytesP ps[i] ps[i].size 0 with
  |none=>rfl
  |some r=>
   show fL.l0 _ _ _ _=some (parseR _ _)
   rw[List.nil_append,w_id om om,show((i:Int)+1)=((i+1:Nat):Int) by omega,ih (i+1) _ _ om om (by rw[List.length_append];simp;omega)]
theorem parse_true:∀(ps:List ByteArray) (out o:List (List Int)),parseR ps out=(o,true)→isT o=true∧o.length=out.length+ps.length∧tot o+o.length=tot out+out.length+sizes ps
 |[],out,o,h=>by
  rw[parseR]at h
  by_cases c:isT out=true
  ·rw[ip c]at h
   injection h with h _
   subst h
   exact⟨c,rfl,rfl⟩
  ·rw[ig c]at h
   injection h with _ h
   exact absurd h (by decide)
 |p :: ps,out,o,h=>by
  rw[parseR]at h
  cases hb:bytesP p p.size 0 with
  |none=>rw[hb]at h;injection h with _ h;exact absurd h (by decide)
  |some r=>
   rw[hb]at h
   obtain⟨h1,h2,h3⟩:=parse_true ps (out ++ [r]) o h
   have hl:=bytesP_len p _ _ r hb
   have ta:∀a:List (List Int),tot (a ++ [r])=tot a+r.length:=by
    intro a
    induction a with
    |nil=>simp[tot]
    |cons x a ih=>rw[List.cons_append,tot,tot,ih];omega
   rw[ta,List.length_append,List.length_singleton]at h3
   rw[List.length_append,List.length_singleton]at h2
   rw[List.length_cons,sizes]
   exact⟨h1,by omega,by omega⟩
theorem parse_false:∀(ps:List ByteArray) (out:List (List Int)),parseR ps out=([],false)∨∃o,parseR ps out=(o,true)
 |[],out=>by
  rw[parseR]
  split
  ·exact .inr ⟨_,rfl⟩
  ·exact .inl rfl
 |p :: ps,out=>by
  rw[parseR]
  split
  ·exact .inl rfl
  ·exact parse_false ps _
/-- The triangulation with a text. -/
def parseT (x:ByteArray):List (List Int) × Bool:=parseR (partsR x 32 x.size 0 0) []
theorem tot_three:∀(o:List (List Int)),(∀r∈o,r.length=3)→tot o=3*o.length
 |[],_=>rfl
 |r :: rs,h=>by
  rw[tot,h r List.mem_cons_self,tot_three rs (fun x hx=>h x (List.mem_cons_of_mem _ hx)),List.length_cons]
  omega
theorem parseT_cases (x:ByteArray) (hx:x.size≤1048576):parseT x=([],false)∨∃o,parseT x=(o,true)∧isT o=true∧o.length≤6∧(∀r∈o,r.length=3)∧x.size≤36:=by
 unfold parseT
 rcases parse_false (partsR x 32 x.size 0 0) []with h|⟨o,h⟩
 ·exact .inl h
 ·obtain⟨h1,h2,h3⟩:=parse_true _ _ _ h
  have hl:=parts_len x 32 x.size 0 0
  have hs:=parts_sizes x 32 x.size 0 0 om om
  rw[List.length_nil]at h2
  have ok:=isT_ok' (t:=o) om h1
  have hsh:=ok.short
  have ht:=tot_three o ok.row
  refine .inr ⟨o,h,h1,hsh.1,ok.row,?_⟩
  rw[hs]at h3
  simp only[tot,List.length_nil]at h3
  omega
theorem part_size (x:ByteArray) (b:Int):∀(d a i:Nat),∀p∈partsR x b d a i,p.size≤x.size
 |0,a,i,p,hp=>by
  rw[partsR,List.mem_singleton]at hp
  rw[hp,ByteArray.size_extract]
  omega
 |d+1,a,i,p,hp=>by
  rw[partsR]at hp
  split at hp
  ·rcases List.mem_cons.1 hp with rfl|hp
   ·rw[ByteArray.size_extract];omega
   ·exact part_size x b d _ _ p hp
  ·exact part_size x b d _ _ p hp
theorem pZ (x:ByteArray) (hx:x.size≤1048576) (k:Nat) (hk:9000000<k):fL.f k x=some (parseT x):=by
 unfold fL.f parseT
 have hl:=parts_len x 32 x.size 0 0
 have hs:=parts_sizes x 32 x.size 0 0 om om
 rw[qB x hx 32 k om,Option.bind_some]
 have:=pH (partsR x 32 x.size 0 0) (fun p hp=>Nat.le_trans (part_size x 32 _ _ _ p hp) hx) om _ 0 k [] (Nat.zero_add _) (by rw[List.drop_zero,hs];omega) (by simp)
 rw[List.drop_zero]at this
 exact this
def co (x:Int):Bool:=decide (0≤x∧x≤200)
theorem areCo_l0 (xs:List Int) (hx:xs.length≤1000000000):∀(d k i:Nat),i+d=xs.length→d<k→gE.l0 k xs (xs.length:Int) (i:Int)=some ((xs.drop i).all co):=by
 intro d
 induction d with
 |zero=>
  intro k i hi hk
  obtain⟨k,rfl⟩:=sk k
  simp only[gE.l0]
  rw[ig om,List.drop_of_length_le om]
  rfl
 |succ d ih=>
  intro k i hi hk
  obtain⟨k,rfl⟩:=sk k
  have hlt:i<xs.length:=by omega
  simp only[gE.l0]
  rw[ip om,ip om,ip om,within_eq,Option.bind_some,w_id om om,show((i:Int)+1)=((i+1:Nat):Int) by omega,ih k (i+1) om om,List.drop_eq_getElem_cons hlt,List.all_cons,rd_nat xs i hlt]
  unfold co
  by_cases h:0≤xs[i]∧xs[i]≤200 <;> simp[h]
theorem areCo (xs:List Int) (hx:xs.length≤1000000000) (k:Nat) (hk:xs.length<k):gE.f k xs=some (xs.all co):=by
 unfold gE.f
 have:=areCo_l0 xs hx xs.length k 0 om hk
 rw[List.drop_zero]at this
 exact this
theorem co_true {x:Int} (h:co x=true):0≤x∧x≤200:=of_decide_eq_true h
/-- The sums, element by element. -/
def addL:List Int→List Int→List Int
 |x :: xs,y :: ys=>(x+y) :: addL xs ys
 |_,_=>[]
theorem pS (xs ys:List Int) (hx:xs.length≤1048576) (hl:ys.length=xs.length):∀(d k i:Nat) (o:List Int),i+d=xs.length→d<k→o.length=i→
  fI.l0 k xs ys o (i:Int)=some (if(xs.drop i).all co=true∧(ys.drop i).all co=true∧(addL (xs.drop i) (ys.drop i)).all co=true then(o ++ addL (xs.drop i) (ys.drop i),true) else([],false)):=by
 intro d
 induction d with
 |zero=>
  intro k i o hi hk ho
  obtain⟨k,rfl⟩:=sk k
  simp only[fI.l0]
  rw[ig om,List.drop_of_length_le om,List.drop_of_length_le om]
  simp[addL]
 |succ d ih=>
  intro k i o hi hk ho
  obtain⟨k,rfl⟩:=sk k
  have hlt:i<xs.length:=by omega
  have hlt2:i<ys.length:=by omega
  simp only[fI.l0]
  rw[ip om,ip om,l1In_eq,l1In_eq,Option.bind_some,Option.bind_some,rd_nat xs i hlt,rd_nat ys i hlt2,List.drop_eq_getElem_cons hlt,List.drop_eq_getElem_cons hlt2,addL,List.all_cons,List.all_cons,List.all_cons]
  by_cases h:0≤xs[i]∧xs[i]≤200
  ·have hc:co xs[i]=true:=decide_eq_true h
   rw[ip (decide_eq_true h),ip om,hc,Bool.true_and]
   by_cases h2:0≤ys[i]∧ys[i]≤200
   ·have hc2:co ys[i]=true:=decide_eq_true h2
    rw[ip (decide_eq_true h2),hc2,Bool.true_and,w_id (a:=xs[i]+ys[i]) om om]
    by_cases h3:xs[i]+ys[i]>200
    ·have hc3:co (xs[i]+ys[i])=false:=decide_eq_false om
     rw[ip h3,hc3,Bool.false_and,ig (fun h=>absurd h.2.2 (by decide))]
    ·have hc3:co (xs[i]+ys[i])=true:=decide_eq_true om
     rw[ig h3,ip om,hc3,Bool.true_and,w_id om om,show((i:Int)+1)=((i+1:Nat):Int) by omega,ih k (i+1) _ om om (by simp;omega),List.append_assoc]
     rfl
   ·have hc2:co ys[i]=false:=decide_eq_false h2
    rw[ig (by simpa using h2),hc2,Bool.false_and,ig (fun h=>absurd h.2.1 (by decide))]
  ·have hc:co xs[i]=false:=decide_eq_false h
   rw[ig (by simpa using h),hc,Bool.false_and,ig (fun h=>absurd h.1 (by decide))]
def addR (xs ys:List Int):List Int × Bool:=if xs.length=ys.length∧xs.all co=true∧ys.all co=true∧(addL xs ys).all co=true then(addL xs ys,true) else([],false)
theorem qE (xs ys:List Int) (hx:xs.length≤1048576) (k:Nat) (hk:1048576<k):fI.f k xs ys=some (addR xs ys):=by
 unfold fI.f addR
 by_cases h:xs.length=ys.length
 ·rw[ip om]
  have:=pS xs ys hx om xs.length k 0 [] om om (by simp)
  rw[List.drop_zero,List.drop_zero,List.nil_append]at this
  refine this.trans ?_
  congr 1
  simp only[h,true_and]
 ·rw[ig om,ig (fun h'=>h h'.1)]
theorem addL_leq:∀(x y:List Int),x.length=y.length→(addL x y).length=x.length
 |[],[],_=>rfl
 |[],_ :: _,h=>by simp at h
 |_ :: _,[],h=>by simp at h
 |a :: x,b :: y,h=>by
  have:=addL_leq x y (by simpa using h)
  simp[addL,this]
end Go.Proofs.Ytbpnjlemjapnnaa.L

namespace Go.Proofs.Ytbpnjlemjapnnaa.UF
open Go.Proofs.YtbpnjlemjapnnaaW.PrintWords (om sk ip ig)
set_option linter.unusedVariables false

/-- The number that a number points to. -/
def P (up:List Int) (i:Int):Int:=up.getD i.toNat 0
/-- The way from i ends at r. -/
inductive Root (up:List Int):Int→Int→Prop
 |here {r:Int} (h:P up r=r):Root up r r
 |step {i r:Int} (h:P up i≠i) (k:Root up (P up i) r):Root up i r
theorem Root.root {up:List Int}{i r:Int} (h:Root up i r):P up r=r:=by
 induction h with
 |here h=>exact h
 |step _ _ ih=>exact ih
theorem Root.uniq {up:List Int}{i r:Int} (h:Root up i r):∀ {s:Int},Root up i s→r=s:=by
 induction h with
 |here h=>
  intro s hs
  cases hs with
  |here _=>rfl
  |step h2 _=>exact absurd h h2
 |step h k ih=>
  intro s hs
  cases hs with
  |here h2=>exact absurd h2 h
  |step _ k2=>exact ih k2
/-- A forest: every number points to a number, every way ends. -/
def Ok (up:List Int):Prop:=∀i:Int,0≤i→i<up.length→(0≤P up i∧P up i<up.length)∧∃r,Root up i r
theorem Ok.bd {up:List Int} (h:Ok up){i r:Int} (hr:Root up i r):0≤i→i<up.length→0≤r∧r<up.length:=by
 induction hr with
 |here _=>exact fun h0 h1=>⟨h0,h1⟩
 |step _ _ ih=>exact fun h0 h1=>ih (h _ h0 h1).1.1 (h _ h0 h1).1.2
theorem P_set {up:List Int}{a b i:Int} (ha:0≤a) (ha1:a<up.length) (hi:0≤i):P (up.set a.toNat b) i=if i=a then b else P up i:=by
 unfold P
 by_cases h:i=a
 ·subst h
  rw[ip rfl,List.getD_eq_getElem?_getD,List.getElem?_set_self om]
  rfl
 ·rw[ig h,List.getD_eq_getElem?_getD,List.getD_eq_getElem?_getD,List.getElem?_set_ne om]
theorem set_other {up:List Int} (hok:Ok up){ra rb:Int} (ha:0≤ra∧ra<up.length) (hra:P up ra=ra){i r:Int} (h:Root up i r):0≤i→i<up.length→r≠ra→Root (up.set ra.toNat rb) i r:=by
 induction h with
 |here h=>
  intro h0 h1 hne
  exact .here (by rw[P_set ha.1 ha.2 h0,ig hne];exact h)
 |@step i r h k ih=>
  intro h0 h1 hne
  have hi:i≠ra:=fun e=>h (by rw[e];exact hra)
  have hp:P (up.set ra.toNat rb) i=P up i:=by rw[P_set ha.1 ha.2 h0,ig hi]
  exact .step (by rw[hp];exact h) (by rw[hp];exact ih (hok i h0 h1).1.1 (hok i h0 h1).1.2 hne)
theorem set_same {up:List Int} (hok:Ok up){ra rb:Int} (ha:0≤ra∧ra<up.length) (hb:0≤rb∧rb<up.length) (hra:P up ra=ra) (hrb:P up rb=rb){i r:Int} (h:Root up i r):0≤i→i<up.length→r=ra→Root (up.set ra.toNat rb) i rb:=by
 induction h with
 |@here r h=>
  intro h0 h1 e
  subst e
  by_cases hab:r=rb
  ·subst hab
   exact .here (by rw[P_set ha.1 ha.2 h0,ip rfl])
  ·have hp:P (up.set r.toNat rb) r=rb:=by rw[P_set ha.1 ha.2 h0,ip rfl]
   refine .step (by rw[hp];exact fun e=>hab e.symm) ?_
   rw[hp]
   exact set_other hok ha hra (.here hrb) hb.1 hb.2 (fun e=>hab e.symm)
 |@step i r h k ih=>
  intro h0 h1 e
  have hi:i≠ra:=fun e=>h (by rw[e];exact hra)
  have hp:P (up.set ra.toNat rb) i=P up i:=by rw[P_set ha.1 ha.2 h0,ig hi]
  exact .step (by rw[hp];exact h) (by rw[hp];exact ih (hok i h0 h1).1.1 (hok i h0 h1).1.2 e)
theorem Ok.set {up:List Int} (hok:Ok up){ra rb:Int} (ha:0≤ra∧ra<up.length) (hb:0≤rb∧rb<up.length) (hra:P up ra=ra) (hrb:P up rb=rb):Ok (up.set ra.toNat rb):=by
 intro i h0 h1
 rw[List.length_set]at h1
 refine⟨?_,?_⟩
 ·rw[P_set ha.1 ha.2 h0,List.length_set]
  split
  ·exact hb
  ·exact(hok i h0 h1).1
 ·obtain⟨r,hr⟩:=(hok i h0 h1).2
  by_cases e:r=ra
  ·exact⟨rb,set_same hok ha hb hra hrb hr h0 h1 e⟩
  ·exact⟨r,set_other hok ha hra hr h0 h1 e⟩
/-- Two numbers of one class. -/
def Same (up:List Int) (i j:Int):Prop:=∃r,Root up i r∧Root up j r
/-- Being of one class, as pairs make it, among the numbers below n. -/
inductive Cls (n:Int) (ps:List (Int × Int)):Int→Int→Prop
 |refl {i:Int} (h0:0≤i) (h1:i<n):Cls n ps i i
 |pair {i j:Int} (h:(i,j)∈ps) (h0:0≤i) (h1:i<n) (h2:0≤j) (h3:j<n):Cls n ps i j
 |symm {i j:Int} (h:Cls n ps i j):Cls n ps j i
 |trans {i j k:Int} (h:Cls n ps i j) (h2:Cls n ps j k):Cls n ps i k
theorem Cls.bd {n:Int}{ps:List (Int × Int)}{i j:Int} (h:Cls n ps i j):(0≤i∧i<n)∧(0≤j∧j<n):=by
 induction h with
 |refl h0 h1=>exact⟨⟨h0,h1⟩,h0,h1⟩
 |pair _ h0 h1 h2 h3=>exact⟨⟨h0,h1⟩,h2,h3⟩
 |symm _ ih=>exact⟨ih.2,ih.1⟩
 |trans _ _ ih1 ih2=>exact⟨ih1.1,ih2.2⟩
theorem Cls.mono {n:Int}{ps qs:List (Int × Int)} (hs:∀p,p∈ps→p∈qs){i j:Int} (h:Cls n ps i j):Cls n qs i j:=by
 induction h with
 |refl h0 h1=>exact .refl h0 h1
 |pair h h0 h1 h2 h3=>exact .pair (hs _ h) h0 h1 h2 h3
 |symm _ ih=>exact .symm ih
 |trans _ _ ih1 ih2=>exact .trans ih1 ih2
/-- The forest that stands for pairs. -/
structure Stands (up:List Int) (n:Int) (ps:List (Int × Int)):Prop where
 ok:Ok up
 len:(up.length:Int)=n
 cls:∀i j,Cls n ps i j↔(0≤i∧i<n)∧(0≤j∧j<n)∧Same up i j
theorem Stands.join {up:List Int}{n:Int}{ps:List (Int × Int)} (h:Stands up n ps){a b ra rb:Int} (ha:0≤a∧a<n) (hb:0≤b∧b<n) (hra:Root up a ra) (hrb:Root up b rb):
  Stands (up.set ra.toNat rb) n (ps ++ [(a,b)])∧Stands (up.set rb.toNat ra) n (ps ++ [(a,b)]):=by
 have hl:=h.len
 have gen:∀(x y rx ry:Int),0≤x∧x<n→0≤y∧y<n→Root up x rx→Root up y ry→(∀i j,Cls n (ps ++ [(a,b)]) i j↔Cls n (ps ++ [(x,y)]) i j)→Stands (up.set rx.toNat ry) n (ps ++ [(a,b)]):=by
  intro x y rx ry hx hy hrx hry heq
  have bx:=h.ok.bd hrx hx.1 om
  have by':=h.ok.bd hry hy.1 om
  have hok:=h.ok.set bx by' hrx.root hry.root
  refine⟨hok,by rw[List.length_set];exact hl,fun i j=>?_⟩
  rw[heq]
  constructor
  ·intro hc
   refine⟨hc.bd.1,hc.bd.2,?_⟩
   induction hc with
   |@refl i h0 h1=>
    obtain⟨r,hr⟩:=(hok i h0 (by rw[List.length_set];omega)).2
    exact⟨r,hr,hr⟩
   |@pair i j hp h0 h1 h2 h3=>
    rcases List.mem_append.1 hp with hp|hp
    ·obtain⟨r,r1,r2⟩:=((h.cls i j).1 (.pair hp h0 h1 h2 h3)).2.2
     by_cases e:r=rx
     ·exact⟨ry,set_same h.ok bx by' hrx.root hry.root r1 h0 om e,set_same h.ok bx by' hrx.root hry.root r2 h2 om e⟩
     ·exact⟨r,set_other h.ok bx hrx.root r1 h0 om e,set_other h.ok bx hrx.root r2 h2 om e⟩
    ·have:(i,j)=(x,y):=by simpa using hp
     obtain⟨rfl,rfl⟩:=Prod.mk.inj this
     refine⟨ry,set_same h.ok bx by' hrx.root hry.root hrx h0 om rfl,?_⟩
     by_cases e:ry=rx
     ·exact set_same h.ok bx by' hrx.root hry.root hry h2 om e
     ·exact set_other h.ok bx hrx.root hry h2 om e
   |symm _ ih=>obtain⟨r,r1,r2⟩:=ih;exact⟨r,r2,r1⟩
   |trans _ _ ih1 ih2=>
    obtain⟨r,r1,r2⟩:=ih1
    obtain⟨s,s1,s2⟩:=ih2
    obtain rfl:=r2.uniq s1
    exact⟨r,r1,s2⟩
  ·rintro ⟨hi,hj,s,s1,s2⟩
   have old:∀i,0≤i∧i<n→Root (up.set rx.toNat ry) i s→∃r,Root up i r∧(r=rx∧s=ry∨r≠rx∧s=r):=by
    intro i hi hs
    obtain⟨r,hr⟩:=(h.ok i hi.1 om).2
    refine⟨r,hr,?_⟩
    by_cases e:r=rx
    ·exact .inl ⟨e,hs.uniq (set_same h.ok bx by' hrx.root hry.root hr hi.1 om e)⟩
    ·exact .inr ⟨e,hs.uniq (set_other h.ok bx hrx.root hr hi.1 om e)⟩
   have up':∀ {i j},Cls n ps i j→Cls n (ps ++ [(x,y)]) i j:=fun hc=>hc.mono (fun p hp=>List.mem_append_left _ hp)
   have hxy:Cls n (ps ++ [(x,y)]) x y:= .pair (by simp) hx.1 hx.2 hy.1 hy.2
   obtain⟨r1,q1,c1⟩:=old i hi s1
   obtain⟨r2,q2,c2⟩:=old j hj s2
   have same:∀ {u v r},0≤u∧u<n→0≤v∧v<n→Root up u r→Root up v r→Cls n (ps ++ [(x,y)]) u v:=fun hu hv a1 a2=>up' ((h.cls _ _).2 ⟨hu,hv,_,a1,a2⟩)
   rcases c1 with ⟨e1,f1⟩|⟨e1,f1⟩
   ·subst e1
    rcases c2 with ⟨e2,f2⟩|⟨e2,f2⟩
    ·subst e2
     exact same hi hj q1 q2
    ·have:r2=ry:=by rw[←f2];exact f1
     subst this
     exact(same hi hx q1 hrx).trans (hxy.trans (same hy hj hry q2))
   ·rcases c2 with ⟨e2,f2⟩|⟨e2,f2⟩
    ·subst e2
     have:r1=ry:=by rw[←f1];exact f2
     subst this
     exact(same hi hy q1 hry).trans (hxy.symm.trans (same hx hj hrx q2))
    ·have:r1=r2:=by rw[←f1];exact f2
     subst this
     exact same hi hj q1 q2
 refine⟨gen a b ra rb ha hb hra hrb (fun _ _=>Iff.rfl),gen b a rb ra hb ha hrb hra (fun i j=>?_)⟩
 have swap:∀ {u v:Int}{i j:Int},Cls n (ps ++ [(u,v)]) i j→Cls n (ps ++ [(v,u)]) i j:=by
  intro u v i j hc
  induction hc with
  |refl h0 h1=>exact .refl h0 h1
  |@pair i j hp h0 h1 h2 h3=>
   rcases List.mem_append.1 hp with hp|hp
   ·exact .pair (List.mem_append_left _ hp) h0 h1 h2 h3
   ·have:(i,j)=(u,v):=by simpa using hp
    obtain⟨rfl,rfl⟩:=Prod.mk.inj this
    exact .symm (.pair (by simp) h2 h3 h0 h1)
  |symm _ ih=>exact .symm ih
  |trans _ _ ih1 ih2=>exact .trans ih1 ih2
 exact⟨swap,swap⟩
/-- The numbers from 0 on, each for itself. -/
def alone (n:Nat):List Int:=(List.range n).map fun (i:Nat)=>(i:Int)
theorem alone_P (n:Nat) (i:Int) (h0:0≤i) (h1:i<n):P (alone n) i=i:=by
 unfold P alone
 rw[List.getD_eq_getElem?_getD,List.getElem?_map,List.getElem?_range om]
 simp
 omega
theorem alone_stands (n:Nat):Stands (alone n) n []:=by
 have hlen:(alone n).length=n:=by simp[alone]
 have hok:Ok (alone n):=by
  intro i h0 h1
  rw[hlen]at h1 ⊢
  have:=alone_P n i h0 h1
  exact⟨by omega,i, .here this⟩
 refine⟨hok,by rw[hlen],fun i j=>?_⟩
 constructor
 ·intro hc
  refine⟨hc.bd.1,hc.bd.2,?_⟩
  have:i=j:=by
   induction hc with
   |refl _ _=>rfl
   |pair h _ _ _ _=>cases h
   |symm _ ih=>exact ih.symm
   |trans _ _ ih1 ih2=>exact ih1.trans ih2
  subst this
  exact⟨i, .here (alone_P n i hc.bd.1.1 hc.bd.1.2), .here (alone_P n i hc.bd.1.1 hc.bd.1.2)⟩
 ·rintro ⟨hi,hj,r,r1,r2⟩
  have e1:=r1.uniq (.here (alone_P n i hi.1 hi.2))
  have e2:=r2.uniq (.here (alone_P n j hj.1 hj.2))
  have:i=j:=by rw[←e1, ←e2]
  subst this
  exact .refl hi.1 hi.2
/-- The root of a number's class. -/
noncomputable def rt (up:List Int) (i:Int):Int:=by
 classical
 exact if h:∃r,Root up i r then h.choose else i
theorem rt_of {up:List Int}{i r:Int} (h:Root up i r):rt up i=r:=by
 have hx:∃r,Root up i r:=⟨r,h⟩
 unfold rt
 rw[dif_pos hx]
 exact hx.choose_spec.uniq h
theorem Ok.rt {up:List Int} (h:Ok up){i:Int} (h0:0≤i) (h1:i<up.length):Root up i (UF.rt up i):=by
 obtain⟨r,hr⟩:=(h i h0 h1).2
 rw[rt_of hr]
 exact hr
theorem map_nodup {α β:Type} (f:α→β):∀ {l:List α},l.Nodup→(∀a b,a∈l→b∈l→f a=f b→a=b)→(l.map f).Nodup
 |[],_,_=>List.nodup_nil
 |x :: t,h,hf=>by
  have h':=List.nodup_cons.1 h
  rw[List.map_cons,List.nodup_cons]
  refine⟨fun hc=>?_,map_nodup f h'.2 (fun a b ha hb=>hf a b (List.mem_cons_of_mem _ ha) (List.mem_cons_of_mem _ hb))⟩
  obtain⟨y,hy,e⟩:=List.mem_map.1 hc
  have:=hf y x (List.mem_cons_of_mem _ hy) List.mem_cons_self e
  subst this
  exact h'.1 hy
theorem Cls.map {n1 n2:Int}{p1 p2:List (Int × Int)} (f:Int→Int) (hf:∀i,0≤i→i<n1→0≤f i∧f i<n2) (hp:∀i j,(i,j)∈p1→0≤i→i<n1→0≤j→j<n1→Cls n2 p2 (f i) (f j)){i j:Int} (h:Cls n1 p1 i j):Cls n2 p2 (f i) (f j):=by
 induction h with
 |refl h0 h1=>
  have:=hf _ h0 h1
  exact .refl this.1 this.2
 |pair h h0 h1 h2 h3=>exact hp _ _ h h0 h1 h2 h3
 |symm _ ih=>exact ih.symm
 |trans _ _ ih1 ih2=>exact ih1.trans ih2
theorem Stands.same_iff {up:List Int}{n:Int}{ps:List (Int × Int)} (h:Stands up n ps){i j:Int} (hi:0≤i∧i<n) (hj:0≤j∧j<n):rt up i=rt up j↔Cls n ps i j:=by
 have hl:=h.len
 have ri:=h.ok.rt hi.1 om
 have rj:=h.ok.rt hj.1 om
 rw[h.cls]
 constructor
 ·intro e
  exact⟨hi,hj,_,ri,by rw[e];exact rj⟩
 ·rintro ⟨_,_,s,s1,s2⟩
  rw[rt_of s1,rt_of s2]
/-- How long a way to a root can be: as long as the forest. -/
inductive Way (up:List Int):Nat→Int→Int→Prop
 |here {r:Int} (h:P up r=r):Way up 0 r r
 |step {k:Nat}{i r:Int} (h:P up i≠i) (w:Way up k (P up i) r):Way up (k+1) i r
theorem Root.way {up:List Int}{i r:Int} (h:Root up i r):∃k,Way up k i r:=by
 induction h with
 |here h=>exact⟨0, .here h⟩
 |step h _ ih=>
  obtain⟨k,hk⟩:=ih
  exact⟨k+1, .step h hk⟩
theorem Way.root {up:List Int}{k:Nat}{i r:Int} (h:Way up k i r):Root up i r:=by
 induction h with
 |here h=>exact .here h
 |step h _ ih=>exact .step h ih
theorem Way.uniq {up:List Int}{k:Nat}{i r:Int} (h:Way up k i r):∀ {m:Nat}{s:Int},Way up m i s→k=m:=by
 induction h with
 |here h=>
  intro m s hs
  cases hs with
  |here _=>rfl
  |step h2 _=>exact absurd h h2
 |step h _ ih=>
  intro m s hs
  cases hs with
  |here h2=>exact absurd h2 h
  |step _ k2=>rw[ih k2]
/-- The numbers on a way. -/
def path (up:List Int):Nat→Int→List Int
 |0,i=>[i]
 |k+1,i=>i :: path up k (P up i)
theorem path_len (up:List Int):∀k i,(path up k i).length=k+1
 |0,_=>rfl
 |k+1,i=>by rw[path,List.length_cons,path_len up k]
theorem Way.nodup {up:List Int}{k:Nat}{i r:Int} (h:Way up k i r):(path up k i).Nodup∧∀x,x∈path up k i→∃m,m≤k∧Way up m x r:=by
 induction h with
 |@here r h=>
  refine⟨by simp[path],fun x hx=>?_⟩
  have:x=r:=by simpa[path] using hx
  subst this
  exact⟨0,Nat.le_refl _, .here h⟩
 |@step k i r h w ih=>
  refine⟨?_,fun x hx=>?_⟩
  ·rw[path,List.nodup_cons]
   refine⟨fun hc=>?_,ih.1⟩
   obtain⟨m,hm,hw⟩:=ih.2 _ hc
   have:=hw.uniq (Way.step h w)
   omega
  ·rw[path]at hx
   rcases List.mem_cons.1 hx with e|e
   ·subst e
    exact⟨k+1,Nat.le_refl _, .step h w⟩
   ·obtain⟨m,hm,hw⟩:=ih.2 _ e
    exact⟨m,by omega,hw⟩
theorem Ok.path_bd {up:List Int} (hok:Ok up):∀(k:Nat) (i:Int),0≤i→i<up.length→∀x,x∈path up k i→0≤x∧x<up.length
 |0,i,h0,h1,x,hx=>by
  have:x=i:=by simpa[path] using hx
  omega
 |k+1,i,h0,h1,x,hx=>by
  rw[path]at hx
  rcases List.mem_cons.1 hx with e|e
  ·omega
  ·exact Ok.path_bd hok k _ (hok i h0 h1).1.1 (hok i h0 h1).1.2 x e
theorem Way.short {up:List Int} (hok:Ok up){k:Nat}{i r:Int} (h:Way up k i r) (h0:0≤i) (h1:i<up.length):k<up.length:=by
 have hb:=hok.path_bd k i h0 h1
 have hn:=map_nodup (fun (x:Int)=>x.toNat) h.nodup.1 (fun a b ha hb' e=>by
  have:=hb a ha
  have:=hb b hb'
  have e':a.toNat=b.toNat:=e
  omega)
 have:=List.Nodup.length_le_of_subset (l₂:=List.range up.length) hn (fun x hx=>by
  obtain⟨a,ha,rfl⟩:=List.mem_map.1 hx
  have:=hb a ha
  exact List.mem_range.2 om)
 rw[List.length_map,path_len,List.length_range]at this
 omega
/-- Every number has a way to its root that is shorter than the forest. -/
theorem Ok.way {up:List Int} (hok:Ok up){i:Int} (h0:0≤i) (h1:i<up.length):∃k,k<up.length∧Way up k i (UF.rt up i):=by
 obtain⟨k,hk⟩:=(hok.rt h0 h1).way
 exact⟨k,hk.short hok h0 h1,hk⟩
end Go.Proofs.Ytbpnjlemjapnnaa.UF

namespace Go.Proofs.Ytbpnjlemjapnnaa.L
open Go.RowKit Go.Proofs.Ytbpnjlemjapnnaa.P Go.Proofs.Ytbpnjlemjapnnaa.Help Go.Proofs.YtbpnjlemjapnnaaW.PrintWords
set_option linter.unusedVariables false
set_option linter.unusedSimpArgs false

theorem top_way {up:List Int} (hok:UF.Ok up){k:Nat}{i r:Int} (h:UF.Way up k i r):∀m,k<m→0≤i→i<up.length→joiner_top.l0 m up i=some r:=by
 induction h with
 |@here r h=>
  intro m hm h0 h1
  obtain⟨m,rfl⟩:=sk m
  simp only[joiner_top.l0]
  rw[ip h0,ip h1,ip (show rd up r=r from h)]
 |@step k i r h w ih=>
  intro m hm h0 h1
  obtain⟨m,rfl⟩:=sk m
  have hb:=(hok i h0 h1).1
  simp only[joiner_top.l0]
  rw[ip h0,ip h1,ig (show ¬rd up i=i from h)]
  exact ih m om hb.1 hb.2
theorem find_way {up:List Int} (hok:UF.Ok up){k:Nat}{i r:Int} (h:UF.Way up k i r):∀m,k<m→0≤i→i<up.length→gD.l0 m up i=some r:=by
 induction h with
 |@here r h=>
  intro m hm h0 h1
  obtain⟨m,rfl⟩:=sk m
  simp only[gD.l0]
  rw[ip h0,ip h1,ip (show rd up r=r from h)]
 |@step k i r h w ih=>
  intro m hm h0 h1
  obtain⟨m,rfl⟩:=sk m
  have hb:=(hok i h0 h1).1
  simp only[gD.l0]
  rw[ip h0,ip h1,ig (show ¬rd up i=i from h)]
  exact ih m om hb.1 hb.2
theorem top_f {up:List Int} (hok:UF.Ok up){i:Int} (h0:0≤i) (h1:i<up.length){m:Nat} (hm:up.length≤m):joiner_top.l0 m up i=some (UF.rt up i):=by
 obtain⟨k,hk,w⟩:=hok.way h0 h1
 exact top_way hok w m om h0 h1
theorem find3_f {up:List Int} (hok:UF.Ok up){i:Int} (h0:0≤i) (h1:i<up.length){m:Nat} (hm:up.length≤m):gD.f m up i=some (UF.rt up i):=by
 obtain⟨k,hk,w⟩:=hok.way h0 h1
 exact find_way hok w m om h0 h1
theorem join_f {up:List Int}{n:Int}{ps:List (Int × Int)} (h:UF.Stands up n ps){a b:Int} (ha:0≤a∧a<n) (hb:0≤b∧b<n){m:Nat} (hm:up.length≤m):∃ys,joiner_join.f m up a b=some ys∧UF.Stands ys n (ps ++ [(a,b)]):=by
 have hl:=h.len
 have ra:=h.ok.rt ha.1 om
 have rb:=h.ok.rt hb.1 om
 have ba:=h.ok.bd ra ha.1 om
 have bb:=h.ok.bd rb hb.1 om
 have J:=h.join ha hb ra rb
 unfold joiner_join.f
 rw[top_f h.ok ha.1 om hm,Option.bind_some,top_f h.ok hb.1 om hm,Option.bind_some]
 unfold joiner_join.put
 by_cases c:UF.rt up a>UF.rt up b
 ·rw[ip c,ip ba.1,ip ba.2]
  exact⟨_,rfl,J.1⟩
 ·rw[ig c,ip bb.1,ip bb.2]
  exact⟨_,rfl,J.2⟩
theorem alone_succ (n:Nat):UF.alone (n+1)=UF.alone n ++ [(n:Int)]:=by
 unfold UF.alone
 rw[List.range_succ,List.map_append]
 rfl
theorem alone_len (n:Nat):(UF.alone n).length=n:=by simp[UF.alone]
theorem newJoiner_l0 (n:Nat) (hn:n≤1000000):∀(d k i:Nat),i+d=n→d<k→jF.l0 k (n:Int) (UF.alone i) (i:Int)=some (UF.alone n):=by
 intro d
 induction d with
 |zero=>
  intro k i hi hk
  obtain⟨k,rfl⟩:=sk k
  simp only[jF.l0]
  rw[ig om,show i=n by omega]
 |succ d ih=>
  intro k i hi hk
  obtain⟨k,rfl⟩:=sk k
  simp only[jF.l0]
  rw[ip om,ip (by rw[alone_len];omega),w_id om om,show((i:Int)+1)=((i+1:Nat):Int) by omega, ←alone_succ,ih k (i+1) om om]
theorem newJoiner_f (n:Nat) (hn:n≤1000000) (k:Nat) (hk:n<k):jF.l0 k (n:Int) [] 0=some (UF.alone n):=newJoiner_l0 n hn n k 0 om hk
/-- The pairs of all triangles, side by side. -/
def rowG (f:Nat→Nat→List (Int × Int)) (i:Nat):Nat→Nat→List (Int × Int)
 |0,_=>[]
 |d+1,j=>f i j ++ rowG f i d (j+1)
def allG (f:Nat→Nat→List (Int × Int)):Nat→Nat→List (Int × Int)
 |0,_=>[]
 |d+1,i=>rowG f i 3 0 ++ allG f d (i+1)
theorem mem_rowG {f:Nat→Nat→List (Int × Int)}{i:Nat}{p:Int × Int}:∀(d j:Nat),p∈rowG f i d j↔∃q,j≤q∧q<j+d∧p∈f i q
 |0,j=>by
  simp only[rowG,List.not_mem_nil,false_iff]
  rintro ⟨q,h1,h2,_⟩
  omega
 |d+1,j=>by
  rw[rowG,List.mem_append,mem_rowG d (j+1)]
  constructor
  ·rintro (h|⟨q,h1,h2,h3⟩)
   ·exact⟨j,by omega,by omega,h⟩
   ·exact⟨q,by omega,by omega,h3⟩
  ·rintro ⟨q,h1,h2,h3⟩
   by_cases e:q=j
   ·subst e;exact .inl h3
   ·exact .inr ⟨q,by omega,by omega,h3⟩
theorem mem_allG {f:Nat→Nat→List (Int × Int)}{p:Int × Int}:∀(d i:Nat),p∈allG f d i↔∃r,i≤r∧r<i+d∧∃q,q<3∧p∈f r q
 |0,i=>by
  simp only[allG,List.not_mem_nil,false_iff]
  rintro ⟨q,h1,h2,_⟩
  omega
 |d+1,i=>by
  rw[allG,List.mem_append,mem_rowG,mem_allG d (i+1)]
  constructor
  ·rintro (⟨q,_,h2,h3⟩|⟨r,h1,h2,h3⟩)
   ·exact⟨i,by omega,by omega,q,by omega,h3⟩
   ·exact⟨r,by omega,by omega,h3⟩
  ·rintro ⟨r,h1,h2,q,h3,h4⟩
   by_cases e:r=i
   ·subst e;exact .inl ⟨q,by omega,by omega,h4⟩
   ·exact .inr ⟨r,by omega,by omega,q,h3,h4⟩
/-- The first place of a number. -/
def idx (x:Int):List Int→Int→Int
 |[],_=> -1
 |y :: ys,j=>if y=x then j else idx x ys (j+1)
def sideR (x:Int):List (List Int)→Int→Int × Int
 |[],_=>(-1, -1)
 |r :: rs,i=>if 0≤idx x r 0 then(i,idx x r 0)else sideR x rs (i+1)
theorem idx_bd (x:Int):∀(ys:List Int) (j:Int),0≤j→idx x ys j= -1∨(j≤idx x ys j∧idx x ys j<j+ys.length)
 |[],j,_=> .inl rfl
 |y :: ys,j,hj=>by
  rw[idx,List.length_cons]
  split
  ·exact .inr om
  ·rcases idx_bd x ys (j+1) om with h|h
   ·exact .inl h
   ·exact .inr om
theorem idx_hit (x:Int):∀(ys:List Int) (j:Int),0≤j→x∈ys→j≤idx x ys j∧idx x ys j<j+ys.length
 |[],j,_,h=>absurd h (by simp)
 |y :: ys,j,hj,h=>by
  rw[idx,List.length_cons]
  by_cases e:y=x
  ·rw[ip e];omega
  ·rw[ig e]
   have:=idx_hit x ys (j+1) om (by
    rcases List.mem_cons.1 h with h|h
    ·exact absurd h.symm e
    ·exact h)
   omega
theorem idx_at (x:Int):∀(ys:List Int) (j:Int),0≤j→0≤idx x ys j→ys[(idx x ys j - j).toNat]?= some x
 |[],j,_,h=>absurd h (by simp[idx])
 |y :: ys,j,hj,h=>by
  rw[idx]at h ⊢
  by_cases e:y=x
  ·rw[ip e]
   simp[e]
  ·rw[ig e]at h ⊢
   have ih:=idx_at x ys (j+1) om h
   rcases idx_bd x ys (j+1) om with h2|h2
   ·omega
   ·rw[show(idx x ys (j+1) - j).toNat=(idx x ys (j+1) - (j+1)).toNat+1 by omega,List.getElem?_cons_succ]
    exact ih
theorem indexOf_l0 (x:Int) (xs:List Int) (hx:xs.length≤1000000000000):∀(d k j:Nat),j+d=xs.length→d<k→gY.l0 k x xs (xs.length:Int) (j:Int)=some (idx x (xs.drop j) (j:Int)):=by
 intro d
 induction d with
 |zero=>
  intro k j hj hk
  obtain⟨k,rfl⟩:=sk k
  simp only[gY.l0]
  rw[ig om,List.drop_of_length_le om]
  rfl
 |succ d ih=>
  intro k j hj hk
  obtain⟨k,rfl⟩:=sk k
  have hlt:j<xs.length:=by omega
  simp only[gY.l0]
  rw[ip om,ip om,ip om,rd_nat xs j hlt,List.drop_eq_getElem_cons hlt,idx]
  by_cases e:xs[j]=x
  ·rw[ip e,ip e]
  ·rw[ig e,ig e,w_id om om,show((j:Int)+1)=((j+1:Nat):Int) by omega,ih k (j+1) om om]
theorem indexOf_f (x:Int) (xs:List Int) (hx:xs.length≤1000000000000) (k:Nat) (hk:xs.length<k):gY.f k xs x=some (idx x xs 0):=by
 unfold gY.f
 have:=indexOf_l0 x xs hx xs.length k 0 om hk
 rw[List.drop_zero]at this
 exact this
theorem sideAt_l0 (x:Int) (t:List (List Int)) (ht:t.length≤1048576) (hr:∀r∈t,r.length≤1048576):∀(d k i:Nat),i+d=t.length→d+1048577<k→jC.l0 k x t (t.length:Int) (i:Int)=some (sideR x (t.drop i) (i:Int)):=by
 intro d
 induction d with
 |zero=>
  intro k i hi hk
  obtain⟨k,rfl⟩:=sk k
  simp only[jC.l0]
  rw[ig om,List.drop_of_length_le om]
  rfl
 |succ d ih=>
  intro k i hi hk
  obtain⟨k,rfl⟩:=sk k
  have hlt:i<t.length:=by omega
  have hl:=hr _ (List.getElem_mem hlt)
  simp only[jC.l0]
  rw[ip om,ip om,ip om,rdL_nat t i hlt,indexOf_f x _ om k om,Option.bind_some,List.drop_eq_getElem_cons hlt,sideR]
  by_cases e:0≤idx x t[i] 0
  ·rw[ip e,ip e]
  ·rw[ig e,ig e,w_id om om,show((i:Int)+1)=((i+1:Nat):Int) by omega,ih k (i+1) om om]
theorem sideAt_f (x:Int) (t:List (List Int)) (ht:t.length≤1048576) (hr:∀r∈t,r.length≤1048576) (k:Nat) (hk:3000000<k):jC.f k t x=some (sideR x t 0):=by
 unfold jC.f
 have:=sideAt_l0 x t ht hr t.length k 0 om om
 rw[List.drop_zero]at this
 exact this
theorem getD_at {α:Type}{l:List α} (d:α){i:Nat} (h:i<l.length):l.getD i d=l[i]:=by
 rw[List.getD_eq_getElem?_getD,List.getElem?_eq_getElem h,Option.getD_some]
/-- The letter of a side, the sides counted on from the last to the first. -/
def sideOf (t:List (List Int)) (i:Nat) (j:Nat):Int:=(t.getD i []).getD (j % 3) 0
theorem sideOf_in {t:List (List Int)}{n:Int} (ok:TriOk t n){i:Nat} (hi:i<t.length) (j:Nat):sideOf t i j≠0∧ -n≤sideOf t i j∧sideOf t i j≤n:=by
 have h3:=ok.three hi
 have hj:j % 3<t[i].length:=by omega
 have:=ok.at hi hj
 unfold sideOf
 rw[getD_at _ hi,getD_at _ hj]
 exact this
theorem sideOf_eq {t:List (List Int)}{i:Nat} (hi:i<t.length){a b c:Int} (e:t[i]=[a,b,c]):sideOf t i 0=a∧sideOf t i 1=b∧sideOf t i 2=c∧sideOf t i 3=a∧sideOf t i 4=b:=by
 unfold sideOf
 rw[getD_at _ hi,e]
 exact⟨rfl,rfl,rfl,rfl,rfl⟩
theorem flat3:∀ {t:List (List Int)},(∀r∈t,r.length=3)→t.flatten.length=3*t.length
 |[],_=>rfl
 |r :: rs,h=>by
  rw[List.flatten_cons,List.length_append,h r List.mem_cons_self,flat3 (fun x hx=>h x (List.mem_cons_of_mem _ hx)),List.length_cons]
  omega
/-- All letters and inverses. -/
def letters (n:Nat):List Int:=(List.range n).map (fun (k:Nat)=>(k:Int)+1) ++ (List.range n).map (fun (k:Nat)=> -(k:Int) - 1)
theorem mem_letters {n:Nat}{x:Int} (h0:x≠0) (h1: -(n:Int)≤x) (h2:x≤n):x∈letters n:=by
 unfold letters
 rw[List.mem_append,List.mem_map,List.mem_map]
 by_cases h:0<x
 ·exact .inl ⟨(x - 1).toNat,List.mem_range.2 om,by omega⟩
 ·exact .inr ⟨(-x - 1).toNat,List.mem_range.2 om,by omega⟩
theorem TriOk.all {t:List (List Int)}{n:Int} (ok:TriOk t n){x:Int} (h0:x≠0) (h1: -n≤x) (h2:x≤n):x∈t.flatten:=by
 apply Classical.byContradiction
 intro hc
 have n3:=ok.n3
 obtain⟨m,rfl⟩:∃m:Nat,n=m:=⟨n.toNat,by omega⟩
 have hx:=mem_letters h0 h1 h2
 have hs:∀y,y∈t.flatten→y∈(letters m).erase x:=by
  intro y hy
  have hb:=ok.inr y hy
  exact(List.mem_erase_of_ne (fun e=>hc (by rw[←e];exact hy))).2 (mem_letters hb.1 hb.2.1 hb.2.2)
 have hl:=List.Nodup.length_le_of_subset ok.nodup hs
 rw[List.length_erase_of_mem hx,flat3 ok.row]at hl
 have:(letters m).length=2*m:=by unfold letters;simp;omega
 have:=ok.len
 omega
theorem sideR_at (x:Int):∀(rs:List (List Int)) (b:Int),0≤b→x∈rs.flatten→∃i j:Nat,i<rs.length∧∃h:i<rs.length,j<rs[i].length∧rs[i][j]?= some x∧sideR x rs b=(b+i,(j:Int))
 |[],b,_,h=>absurd h (by simp)
 |r :: rs,b,hb,h=>by
  rw[sideR]
  by_cases hr:0≤idx x r 0
  ·have h1:=idx_at x r 0 om hr
   have h2:=idx_bd x r 0 om
   rw[ip hr]
   refine⟨0,(idx x r 0).toNat,by simp,by simp,?_,?_,?_⟩
   ·show(idx x r 0).toNat<r.length
    omega
   ·show r[(idx x r 0).toNat]?= some x
    rw[Int.sub_zero]at h1
    exact h1
   ·have e:((idx x r 0).toNat:Int)=idx x r 0:=by omega
    rw[e]
    simp
  ·rw[ig hr]
   rw[List.flatten_cons,List.mem_append]at h
   rcases h with h|h
   ·have:=idx_hit x r 0 om h
    exact absurd this.1 hr
   ·obtain⟨i,j,hi,hi',hj,he,hs⟩:=sideR_at x rs (b+1) om h
    refine⟨i+1,j,by simpa using hi,by simpa using hi,?_,?_,?_⟩
    ·simpa using hj
    ·simpa using he
    ·rw[hs]
     refine Prod.ext ?_ rfl
     show b+1+(i:Int)=b+((i+1:Nat):Int)
     omega
/-- Where a letter stands. -/
theorem TriOk.side {t:List (List Int)}{n:Int} (ok:TriOk t n){x:Int} (h0:x≠0) (h1: -n≤x) (h2:x≤n):∃i j:Nat,i<t.length∧j<3∧sideR x t 0=((i:Int),(j:Int))∧sideOf t i j=x:=by
 obtain⟨i,j,hi,_,hj,he,hs⟩:=sideR_at x t 0 om (ok.all h0 h1 h2)
 have h3:=ok.three hi
 refine⟨i,j,hi,by omega,by rw[hs,Int.zero_add],?_⟩
 unfold sideOf
 rw[getD_at _ hi,List.getD_eq_getElem?_getD,Nat.mod_eq_of_lt om,he]
 rfl
theorem rd_side {t:List (List Int)}{n:Int} (ok:TriOk t n){i:Nat} (hi:i<t.length) (j:Nat):rd (rd_L1 t (i:Int)) (Int.tmod (j:Int) 3)=sideOf t i j:=by
 have h3:=ok.three hi
 rw[rdL_nat t i hi,Int.tmod_eq_emod_of_nonneg om,show((j:Int) % 3)=((j % 3:Nat):Int) by omega,rd_nat _ _ om]
 unfold sideOf
 rw[getD_at _ hi,getD_at _ om]
theorem bit_eq (b:Bool):gR.f b=some (if b=true then 1 else 0):=by
 unfold gR.f
 split <;> rfl
theorem rd_at {t:List (List Int)}{n:Int} (ok:TriOk t n){i:Nat} (hi:i<t.length){j:Nat} (hj:j<3):rd (rd_L1 t (i:Int)) (j:Int)=sideOf t i j:=by
 have:=rd_side ok hi j
 rwa [Int.tmod_eq_emod_of_nonneg om,show(j:Int) % 3=(j:Int) by omega]at this
theorem sideOf_mod (t:List (List Int)) (i j:Nat):sideOf t i (j % 3)=sideOf t i j:=by
 unfold sideOf
 rw[Nat.mod_mod]
theorem flat_at:∀ {t:List (List Int)},(∀r∈t,r.length=3)→∀ {i j:Nat},i<t.length→j<3→t.flatten[3*i+j]?= some (sideOf t i j)
 |[],_,i,j,hi,_=>absurd hi (by simp)
 |r :: rs,h,0,j,hi,hj=>by
  have hl:=h r List.mem_cons_self
  rw[List.flatten_cons,List.getElem?_append_left om,List.getElem?_eq_getElem om]
  unfold sideOf
  rw[List.getD_cons_zero,List.getD_eq_getElem?_getD,List.getElem?_eq_getElem (show j % 3<r.length by omega),Option.getD_some]
  congr 1
  congr 1
  omega
 |r :: rs,h,i+1,j,hi,hj=>by
  have hl:=h r List.mem_cons_self
  have ih:=flat_at (t:=rs) (fun x hx=>h x (List.mem_cons_of_mem _ hx)) (i:=i) (j:=j) (by simpa using hi) hj
  rw[List.flatten_cons,List.getElem?_append_right om,show 3*(i+1)+j - r.length=3*i+j by omega,ih]
  rfl
/-- A letter stands at one place only. -/
theorem side_inj {t:List (List Int)}{n:Int} (ok:TriOk t n){i j k l:Nat} (hi:i<t.length) (hj:j<3) (hk:k<t.length) (hl:l<3) (e:sideOf t i j=sideOf t k l):i=k∧j=l:=by
 have a:=flat_at ok.row hi hj
 have b:=flat_at ok.row hk hl
 rw[e]at a
 obtain⟨a1,a2⟩:=List.getElem?_eq_some_iff.1 a
 obtain⟨b1,b2⟩:=List.getElem?_eq_some_iff.1 b
 have hp:=List.pairwise_iff_getElem.1 ok.nodup
 rcases Nat.lt_trichotomy (3*i+j) (3*k+l)with h|h|h
 ·exact absurd (a2.trans b2.symm) (hp _ _ a1 b1 h)
 ·omega
 ·exact absurd (b2.trans a2.symm) (hp _ _ b1 a1 h)
theorem side_at {t:List (List Int)}{n:Int} (ok:TriOk t n){i j:Nat} (hi:i<t.length) (hj:j<3):sideR (sideOf t i j) t 0=((i:Int),(j:Int)):=by
 have hs:=sideOf_in ok hi j
 obtain⟨o,a,ho,ha,h1,h2⟩:=ok.side hs.1 hs.2.1 hs.2.2
 obtain⟨rfl,rfl⟩:=side_inj ok ho ha hi hj h2
 exact h1
/-- Corners, and the beginnings and ends of edges. -/
def cor (i j:Nat):Int:=3*(i:Int)+((j % 3:Nat):Int)
def Bg (s:Int):Int:=2*(s.natAbs:Int)+(if s<0 then 1 else 0)
def En (s:Int):Int:=2*(s.natAbs:Int)+(if s>0 then 1 else 0)
theorem En_neg {s:Int} (h:s≠0):En s=Bg (-s):=by
 unfold En Bg
 rw[Int.natAbs_neg]
 split <;> split <;> omega
/-- The place of the inverse of a side. -/
def opp (t:List (List Int)) (i j:Nat):Nat × Nat:=((sideR (-(sideOf t i j)) t 0).1.toNat,(sideR (-(sideOf t i j)) t 0).2.toNat)
theorem opp_at {t:List (List Int)}{n:Int} (ok:TriOk t n){i:Nat} (hi:i<t.length) (j:Nat):(opp t i j).1<t.length∧(opp t i j).2<3∧sideOf t (opp t i j).1 (opp t i j).2= -(sideOf t i j)∧sideR (-(sideOf t i j)) t 0=(((opp t i j).1:Int),((opp t i j).2:Int)):=by
 have hs:=sideOf_in ok hi j
 obtain⟨o,a,ho,ha,h1,h2⟩:=ok.side (x:= -(sideOf t i j)) om om om
 unfold opp
 rw[h1]
 exact⟨ho,ha,h2,rfl⟩
def vp (t:List (List Int)) (i j:Nat):List (Int × Int):=[(cor i j,cor (opp t i j).1 ((opp t i j).2+1)),(cor i (j+1),cor (opp t i j).1 (opp t i j).2)]
def ep (t:List (List Int)) (i j:Nat):List (Int × Int):=[(En (sideOf t i j),Bg (sideOf t i (j+1)))]
theorem cor_bd {t:List (List Int)}{i:Nat} (hi:i<t.length) (j:Nat):0≤cor i j∧cor i j<3*(t.length:Int):=by
 unfold cor
 omega
theorem Bg_bd {t:List (List Int)}{n:Int} (ok:TriOk t n){i:Nat} (hi:i<t.length) (j:Nat):0≤Bg (sideOf t i j)∧Bg (sideOf t i j)<3*(t.length:Int)+2:=by
 have hs:=sideOf_in ok hi j
 have:=ok.len
 unfold Bg
 split <;> omega
theorem En_bd {t:List (List Int)}{n:Int} (ok:TriOk t n){i:Nat} (hi:i<t.length) (j:Nat):0≤En (sideOf t i j)∧En (sideOf t i j)<3*(t.length:Int)+2:=by
 have hs:=sideOf_in ok hi j
 have:=ok.len
 unfold En
 split <;> omega
theorem tmod3 (m:Nat):Int.tmod (m:Int) 3=((m % 3:Nat):Int):=by
 rw[Int.tmod_eq_emod_of_nonneg om]
 omega
theorem w_n {a:Int}{m:Nat} (h:a=(m:Int)) (hm:m≤1000000):wrap64 a=(m:Int):=by
 rw[h]
 exact w_id om om
theorem vert_l1 {t:List (List Int)}{n:Int} (ok:TriOk t n) (ht:t.length≤1048576) (hr:∀r∈t,r.length≤1048576){i:Nat} (hi:i<t.length):∀(d j k:Nat) (xs:List Int) (ps:List (Int × Int)),j+d=3→3000100+d<k→UF.Stands xs (3*(t.length:Int)) ps→
  ∃ys,fZ.l1 k t xs (i:Int) (j:Int)=fZ.l0 (k - d - 1) t ys ((i+1:Nat):Int)∧UF.Stands ys (3*(t.length:Int)) (ps ++ rowG (vp t) i d j):=by
 have h3:=ok.three hi
 have hs:=ok.short
 have hl:((rd_L1 t (i:Int)).length:Int)=3:=by rw[rdL_nat t i hi,h3];rfl
 intro d
 induction d with
 |zero=>
  intro j k xs ps hj hk h
  obtain⟨k,rfl⟩:=sk k
  refine⟨xs,?_,by simpa[rowG] using h⟩
  simp only[fZ.l1]
  rw[hl,ig om,w_n (m:=i+1) om om]
  rfl
 |succ d ih=>
  intro j k xs ps hj hk h
  obtain⟨k,rfl⟩:=sk k
  have hn:=h.len
  have hs1:=sideOf_in ok hi j
  have n9:=ok.n9
  obtain⟨o1,o2,o3,o4⟩:=opp_at ok hi j
  obtain⟨ys,e1,S1⟩:=join_f h (a:=cor i j) (b:=cor (opp t i j).1 ((opp t i j).2+1)) (cor_bd hi j) (cor_bd o1 _) (m:=k) om
  have hn1:=S1.len
  obtain⟨zs,e2,S2⟩:=join_f S1 (a:=cor i (j+1)) (b:=cor (opp t i j).1 (opp t i j).2) (cor_bd hi _) (cor_bd o1 _) (m:=k) om
  obtain⟨us,e3,S3⟩:=ih (j+1) k zs _ om om S2
  refine⟨us,?_,?_⟩
  ·simp only[fZ.l1]
   rw[hl,ip om,ip om,rd_at ok hi om,w_id (a:= -(sideOf t i j)) om om,sideAt_f _ t ht hr k om,Option.bind_some,o4]
   dsimp only
   rw[show wrap64 (3*(i:Int))=((3*i:Nat):Int)from w_n om om,show wrap64 (3*((opp t i j).1:Int))=((3*(opp t i j).1:Nat):Int)from w_n om om,
    show wrap64 (((opp t i j).2:Int)+1)=(((opp t i j).2+1:Nat):Int)from w_n om om,show wrap64 ((j:Int)+1)=((j+1:Nat):Int)from w_n om om,tmod3,tmod3,
    show wrap64 (((3*i:Nat):Int)+(j:Int))=cor i j from by rw[w_n (m:=3*i+j) om om];unfold cor;omega,
    show wrap64 (((3*(opp t i j).1:Nat):Int)+(((((opp t i j).2+1) % 3:Nat)):Int))=cor (opp t i j).1 ((opp t i j).2+1)from by rw[w_n (m:=3*(opp t i j).1+((opp t i j).2+1) % 3) om om];unfold cor;omega,
    e1,Option.bind_some,
    show wrap64 (((3*i:Nat):Int)+((((j+1) % 3:Nat)):Int))=cor i (j+1)from by rw[w_n (m:=3*i+(j+1) % 3) om om];unfold cor;omega,
    show wrap64 (((3*(opp t i j).1:Nat):Int)+((opp t i j).2:Int))=cor (opp t i j).1 (opp t i j).2 from by rw[w_n (m:=3*(opp t i j).1+(opp t i j).2) om om];unfold cor;omega,
    e2,Option.bind_some,e3,show k+1 - (d+1) - 1=k - d - 1 by omega]
  ·rw[rowG,show vp t i j=[(cor i j,cor (opp t i j).1 ((opp t i j).2+1)),(cor i (j+1),cor (opp t i j).1 (opp t i j).2)]from rfl]
   simpa[List.append_assoc] using S3
theorem vert_l0 {t:List (List Int)}{n:Int} (ok:TriOk t n) (ht:t.length≤1048576) (hr:∀r∈t,r.length≤1048576):∀(d i k:Nat) (xs:List Int) (ps:List (Int × Int)),i+d=t.length→3000200+5*d<k→UF.Stands xs (3*(t.length:Int)) ps→
  ∃ys,fZ.l0 k t xs (i:Int)=some ys∧UF.Stands ys (3*(t.length:Int)) (ps ++ allG (vp t) d i):=by
 intro d
 induction d with
 |zero=>
  intro i k xs ps hi hk h
  obtain⟨k,rfl⟩:=sk k
  refine⟨xs,?_,by simpa[allG] using h⟩
  simp only[fZ.l0]
  rw[ig om]
 |succ d ih=>
  intro i k xs ps hi hk h
  obtain⟨k,rfl⟩:=sk k
  obtain⟨ys,e1,S1⟩:=vert_l1 ok ht hr (i:=i) om 3 0 k xs ps om om h
  obtain⟨zs,e2,S2⟩:=ih (i+1) (k - 3 - 1) ys _ om om S1
  refine⟨zs,?_,by rw[allG, ←List.append_assoc];exact S2⟩
  simp only[fZ.l0]
  rw[ip om,ip om]
  have e1':fZ.l1 k t xs (i:Int) 0=fZ.l0 (k - 3 - 1) t ys ((i+1:Nat):Int):=e1
  rw[e1',e2]
theorem vert_f {t:List (List Int)}{n:Int} (ok:TriOk t n) (ht:t.length≤1048576) (hr:∀r∈t,r.length≤1048576) (k:Nat) (hk:3000300<k):∃ys,fZ.f k t=some ys∧UF.Stands ys (3*(t.length:Int)) (allG (vp t) t.length 0):=by
 have hs:=ok.short
 have h0:=UF.alone_stands (3*t.length)
 have e0:(((3*t.length:Nat)):Int)=3*(t.length:Int):=by omega
 rw[e0]at h0
 obtain⟨ys,e,S⟩:=vert_l0 ok ht hr t.length 0 k _ [] om om h0
 refine⟨ys,?_,by simpa using S⟩
 unfold fZ.f
 rw[show wrap64 (3*(t.length:Int))=((3*t.length:Nat):Int)from w_n om om,newJoiner_f _ om k om,Option.bind_some]
 exact e
theorem ends_l2 {t:List (List Int)}{n:Int} (ok:TriOk t n){i:Nat} (hi:i<t.length):∀(d j k:Nat) (xs:List Int) (ps:List (Int × Int)),j+d=3→100+d<k→UF.Stands xs (3*(t.length:Int)+2) ps→
  ∃ys,fO.l2 k t xs (i:Int) (j:Int)=fO.l1 (k - d - 1) t ys ((i+1:Nat):Int)∧UF.Stands ys (3*(t.length:Int)+2) (ps ++ rowG (ep t) i d j):=by
 have h3:=ok.three hi
 have hs:=ok.short
 have hl:((rd_L1 t (i:Int)).length:Int)=3:=by rw[rdL_nat t i hi,h3];rfl
 intro d
 induction d with
 |zero=>
  intro j k xs ps hj hk h
  obtain⟨k,rfl⟩:=sk k
  refine⟨xs,?_,by simpa[rowG] using h⟩
  simp only[fO.l2]
  rw[ig om,w_n (m:=i+1) om om]
  rfl
 |succ d ih=>
  intro j k xs ps hj hk h
  obtain⟨k,rfl⟩:=sk k
  have hn:=h.len
  have a1:=sideOf_in ok hi j
  have a2:=sideOf_in ok hi (j+1)
  have n9:=ok.n9
  have b1:=En_bd ok hi j
  have b2:=Bg_bd ok hi (j+1)
  have r1:=h.ok.rt b1.1 om
  have r2:=h.ok.rt b2.1 om
  have c1:=h.ok.bd r1 b1.1 om
  have J:=(h.join b1 b2 r1 r2).1
  obtain⟨us,e3,S3⟩:=ih (j+1) k _ _ om om J
  refine⟨us,?_,?_⟩
  ·have x1:(j:Int)<3:=by omega
   have x2:(0:Int)≤(i:Int):=by omega
   have x3:(i:Int)<(t.length:Int):=by omega
   have x4:(0:Int)≤(j:Int):=by omega
   have x5:j<3:=by omega
   have x6:k+1 - (d+1) - 1=k - d - 1:=by omega
   have y1:=l3Abs_eq (a:=sideOf t i j) om om
   have y2:=l3Abs_eq (a:=sideOf t i (j+1)) om om
   have z1:=find3_f h.ok b1.1 (m:=k) om om
   have z2:=find3_f h.ok b2.1 (m:=k) om om
   have q1:0≤Int.tmod (((j+1:Nat)):Int) 3:=by rw[tmod3];omega
   have q2:Int.tmod (((j+1:Nat)):Int) 3<3:=by rw[tmod3];omega
   have w1:wrap64 ((j:Int)+1)=((j+1:Nat):Int):=w_n om om
   have v1:wrap64 (wrap64 (2*((sideOf t i j).natAbs:Int))+(if decide (sideOf t i j>0)=true then 1 else 0))=En (sideOf t i j):=by
    rw[w_id (a:=2*((sideOf t i j).natAbs:Int)) om om]
    unfold En
    by_cases c:sideOf t i j>0
    ·rw[ip (decide_eq_true c),ip c,w_id om om]
    ·rw[ig (by simpa using c),ig c,w_id om om]
   have v2:wrap64 (wrap64 (2*((sideOf t i (j+1)).natAbs:Int))+(if decide (sideOf t i (j+1)<0)=true then 1 else 0))=Bg (sideOf t i (j+1)):=by
    rw[w_id (a:=2*((sideOf t i (j+1)).natAbs:Int)) om om]
    unfold Bg
    by_cases c:sideOf t i (j+1)<0
    ·rw[ip (decide_eq_true c),ip c,w_id om om]
    ·rw[ig (by simpa using c),ig c,w_id om om]
   simp only[fO.l2]
   rw[w1,hl,ip x1,ip x2,ip x3,ip x4,ip x1,ip q1,ip q2]
   rw[rd_at ok hi x5,rd_side ok hi,y1,Option.bind_some,bit_eq,Option.bind_some,v1,z1,Option.bind_some,y2,Option.bind_some,bit_eq,Option.bind_some,v2,z2,Option.bind_some,ip c1.1,ip c1.2,e3,x6]
  ·rw[rowG,show ep t i j=[(En (sideOf t i j),Bg (sideOf t i (j+1)))]from rfl]
   simpa[List.append_assoc] using S3
theorem ends_l1 {t:List (List Int)}{n:Int} (ok:TriOk t n):∀(d i k:Nat) (xs:List Int) (ps:List (Int × Int)),i+d=t.length→200+5*d<k→UF.Stands xs (3*(t.length:Int)+2) ps→
  ∃ys,fO.l1 k t xs (i:Int)=some ys∧UF.Stands ys (3*(t.length:Int)+2) (ps ++ allG (ep t) d i):=by
 intro d
 induction d with
 |zero=>
  intro i k xs ps hi hk h
  obtain⟨k,rfl⟩:=sk k
  refine⟨xs,?_,by simpa[allG] using h⟩
  simp only[fO.l1]
  rw[ig om]
 |succ d ih=>
  intro i k xs ps hi hk h
  obtain⟨k,rfl⟩:=sk k
  obtain⟨ys,e1,S1⟩:=ends_l2 ok (i:=i) om 3 0 k xs ps om om h
  obtain⟨zs,e2,S2⟩:=ih (i+1) (k - 3 - 1) ys _ om om S1
  refine⟨zs,?_,by rw[allG, ←List.append_assoc];exact S2⟩
  simp only[fO.l1]
  rw[ip om]
  have e1':fO.l2 k t xs (i:Int) 0=fO.l1 (k - 3 - 1) t ys ((i+1:Nat):Int):=e1
  rw[e1',e2]
theorem ends_l0 (t:List (List Int)) (ht:t.length≤1000):∀(d k i:Nat),i+d=3*t.length+2→d<k→fO.l0 k t (UF.alone i) (i:Int)=fO.l1 (k - d - 1) t (UF.alone (3*t.length+2)) 0:=by
 intro d
 induction d with
 |zero=>
  intro k i hi hk
  obtain⟨k,rfl⟩:=sk k
  simp only[fO.l0]
  rw[w_id (a:=3*(t.length:Int)) om om,w_id (a:=3*(t.length:Int)+1) om om,ig om,show i=3*t.length+2 by omega]
  rfl
 |succ d ih=>
  intro k i hi hk
  obtain⟨k,rfl⟩:=sk k
  simp only[fO.l0]
  rw[w_id (a:=3*(t.length:Int)) om om,w_id (a:=3*(t.length:Int)+1) om om,ip om,ip (by rw[alone_len];omega),show wrap64 ((i:Int)+1)=((i+1:Nat):Int)from w_n om om, ←alone_succ,ih k (i+1) om om,show k+1 - (d+1) - 1=k - d - 1 by omega]
theorem ends_f {t:List (List Int)}{n:Int} (ok:TriOk t n) (k:Nat) (hk:1000<k):∃ys,fO.f k t=some ys∧UF.Stands ys (3*(t.length:Int)+2) (allG (ep t) t.length 0):=by
 have hs:=ok.short
 have h0:=UF.alone_stands (3*t.length+2)
 have e0:(((3*t.length+2:Nat)):Int)=3*(t.length:Int)+2:=by omega
 rw[e0]at h0
 obtain⟨ys,e,S⟩:=ends_l1 ok t.length 0 (k - (3*t.length+2) - 1) _ [] om om h0
 refine⟨ys,?_,by simpa using S⟩
 unfold fO.f
 have:=ends_l0 t om (3*t.length+2) k 0 om om
 exact this.trans e
/-- The corner with a beginning. -/
def gm (t:List (List Int)) (e:Int):Int:=if e<2 then 0 else(let x:Int:=if e % 2=0 then e / 2 else -(e / 2);3*(sideR x t 0).1+(sideR x t 0).2)
def fm (t:List (List Int)) (c:Int):Int:=Bg (sideOf t (c / 3).toNat (c % 3).toNat)
theorem fm_cor (t:List (List Int)) (i j:Nat):fm t (cor i j)=Bg (sideOf t i j):=by
 unfold fm cor
 rw[show((3*(i:Int)+((j % 3:Nat):Int)) / 3).toNat=i by omega,show((3*(i:Int)+((j % 3:Nat):Int)) % 3).toNat=j % 3 by omega,sideOf_mod]
theorem gm_Bg {t:List (List Int)}{n:Int} (ok:TriOk t n){i j:Nat} (hi:i<t.length) (hj:j<3):gm t (Bg (sideOf t i j))=cor i j:=by
 have hs:=sideOf_in ok hi j
 have hx:(if Bg (sideOf t i j) % 2=0 then Bg (sideOf t i j) / 2 else -(Bg (sideOf t i j) / 2))=sideOf t i j:=by
  unfold Bg
  by_cases c:sideOf t i j<0
  ·rw[ip c,ig om];omega
  ·rw[ig c,ip om];omega
 unfold gm
 rw[ig (by unfold Bg;split <;> omega),hx]
 dsimp only
 rw[side_at ok hi hj]
 unfold cor
 omega
theorem gm_Bg' {t:List (List Int)}{n:Int} (ok:TriOk t n){i:Nat} (hi:i<t.length) (j:Nat):gm t (Bg (sideOf t i j))=cor i j:=by
 have:=gm_Bg ok hi (j:=j % 3) om
 rw[sideOf_mod]at this
 rw[this]
 unfold cor
 rw[Nat.mod_mod]
theorem gm_bd {t:List (List Int)}{n:Int} (ok:TriOk t n) (e:Int) (h0:0≤e) (h1:e<3*(t.length:Int)+2):0≤gm t e∧gm t e<3*(t.length:Int):=by
 have hs:=ok.short
 have hl:=ok.len
 unfold gm
 by_cases c:e<2
 ·rw[ip c];omega
 ·rw[ig c]
  dsimp only
  obtain⟨o,a,ho,ha,h2,_⟩:=ok.side (x:=if e % 2=0 then e / 2 else -(e / 2)) (by split <;> omega) (by split <;> omega) (by split <;> omega)
  rw[h2]
  dsimp only
  omega
/-- The classes are the same ones. -/
theorem cls_fm {t:List (List Int)}{n:Int} (ok:TriOk t n){c d:Int} (hc:0≤c∧c<3*(t.length:Int)) (hd:0≤d∧d<3*(t.length:Int)):
  UF.Cls (3*(t.length:Int)) (allG (vp t) t.length 0) c d↔UF.Cls (3*(t.length:Int)+2) (allG (ep t) t.length 0) (fm t c) (fm t d):=by
 have corOf:∀c:Int,0≤c→c<3*(t.length:Int)→∃i j:Nat,i<t.length∧j<3∧c=cor i j:=by
  intro c h0 h1
  exact⟨(c / 3).toNat,(c % 3).toNat,by omega,by omega,by unfold cor;omega⟩
 have fb:∀c:Int,0≤c→c<3*(t.length:Int)→0≤fm t c∧fm t c<3*(t.length:Int)+2:=by
  intro c h0 h1
  obtain⟨i,j,hi,hj,rfl⟩:=corOf c h0 h1
  rw[fm_cor]
  exact Bg_bd ok hi j
 have epm:∀i j:Nat,i<t.length→j<3→UF.Cls (3*(t.length:Int)+2) (allG (ep t) t.length 0) (En (sideOf t i j)) (Bg (sideOf t i (j+1))):=by
  intro i j hi hj
  refine .pair ((mem_allG _ _).2 ⟨i,by omega,by omega,j,hj,by simp[ep]⟩) ?_ ?_ ?_ ?_
  ·exact(En_bd ok hi j).1
  ·exact(En_bd ok hi j).2
  ·exact(Bg_bd ok hi (j+1)).1
  ·exact(Bg_bd ok hi (j+1)).2
 have vpm:∀i j:Nat,i<t.length→j<3→∀p,p∈vp t i j→UF.Cls (3*(t.length:Int)) (allG (vp t) t.length 0) p.1 p.2:=by
  intro i j hi hj p hp
  obtain⟨o1,o2,o3,o4⟩:=opp_at ok hi j
  have hm:p∈allG (vp t) t.length 0:=(mem_allG _ _).2 ⟨i,by omega,by omega,j,hj,hp⟩
  have hp':p=(cor i j,cor (opp t i j).1 ((opp t i j).2+1))∨p=(cor i (j+1),cor (opp t i j).1 (opp t i j).2):=by simpa[vp] using hp
  rcases hp' with e|e
  ·subst e
   exact .pair hm (cor_bd hi _).1 (cor_bd hi _).2 (cor_bd o1 _).1 (cor_bd o1 _).2
  ·subst e
   exact .pair hm (cor_bd hi _).1 (cor_bd hi _).2 (cor_bd o1 _).1 (cor_bd o1 _).2
 constructor
 ·intro h
  refine h.map (fm t) (fun i a b=>fb i a b) ?_
  intro a b hm _ _ _ _
  obtain⟨i,_,hi,j,hj,hp⟩:=(mem_allG _ _).1 hm
  have hi':i<t.length:=by omega
  obtain⟨o1,o2,o3,o4⟩:=opp_at ok hi' j
  have hs:=sideOf_in ok hi' j
  have hp':(a,b)=(cor i j,cor (opp t i j).1 ((opp t i j).2+1))∨(a,b)=(cor i (j+1),cor (opp t i j).1 (opp t i j).2):=by simpa[vp] using hp
  rcases hp' with e|e
  ·obtain⟨rfl,rfl⟩:=Prod.mk.inj e
   rw[fm_cor,fm_cor]
   have:=epm _ _ o1 o2
   rw[o3,En_neg om,Int.neg_neg]at this
   exact this
  ·obtain⟨rfl,rfl⟩:=Prod.mk.inj e
   rw[fm_cor,fm_cor,o3, ←En_neg hs.1]
   exact(epm i j hi' hj).symm
 ·intro h
  have:=UF.Cls.map (p2:=allG (vp t) t.length 0) (n2:=3*(t.length:Int)) (gm t) (fun e a b=>gm_bd ok e a b) (fun a b hm _ _ _ _=>by
   obtain⟨i,_,hi,j,hj,hp⟩:=(mem_allG _ _).1 hm
   have hi':i<t.length:=by omega
   obtain⟨o1,o2,o3,o4⟩:=opp_at ok hi' j
   have hs:=sideOf_in ok hi' j
   have hp':(a,b)=(En (sideOf t i j),Bg (sideOf t i (j+1))):=by simpa[ep] using hp
   obtain⟨rfl,rfl⟩:=Prod.mk.inj hp'
   rw[En_neg hs.1, ←o3,gm_Bg' ok o1,gm_Bg' ok hi']
   exact(vpm i j hi' hj (cor i (j+1),cor (opp t i j).1 (opp t i j).2) (by simp[vp])).symm) h
  obtain⟨i,j,hi,hj,rfl⟩:=corOf c hc.1 hc.2
  obtain⟨k,l,hk,hl,rfl⟩:=corOf d hd.1 hd.2
  rwa [fm_cor,fm_cor,gm_Bg' ok hi,gm_Bg' ok hk]at this
/-- Are two corners at one vertex? -/
def SameV (t:List (List Int)) (c d:Int):Prop:=UF.Cls (3*(t.length:Int)) (allG (vp t) t.length 0) c d
noncomputable def vind (t:List (List Int)) (c d:Int):Int:=by
 classical
 exact if SameV t d c then 1 else 0
theorem vind_if {t:List (List Int)}{c d:Int}{P:Prop} [Decidable P] (h:P↔SameV t d c):vind t c d=if P then 1 else 0:=by
 unfold vind
 by_cases p:P
 ·rw[ip p,ip (h.1 p)]
 ·rw[ig p,ig (fun q=>p (h.2 q))]
theorem vind_bd (t:List (List Int)) (c d:Int):0≤vind t c d∧vind t c d≤1:=by
 unfold vind
 split <;> omega
noncomputable def valE (t:List (List Int)) (c e:Int):Int:=vind t c (cor (sideR e t 0).1.toNat (sideR e t 0).2.toNat)+vind t c (cor (sideR e t 0).1.toNat ((sideR e t 0).2.toNat+1))
theorem valE_bd (t:List (List Int)) (c e:Int):0≤valE t c e∧valE t c e≤2:=by
 have:=vind_bd t c (cor (sideR e t 0).1.toNat (sideR e t 0).2.toNat)
 have:=vind_bd t c (cor (sideR e t 0).1.toNat ((sideR e t 0).2.toNat+1))
 unfold valE
 omega
def posE (t:List (List Int)) (e:Int):Nat:=3*(sideR e t 0).1.toNat+(sideR e t 0).2.toNat
noncomputable def aroundR (t:List (List Int)) (n:Nat) (c:Int):List Int:=(List.range n).map fun (q:Nat)=>valE t c ((q:Int)+1)
noncomputable def stO (t:List (List Int)) (n:Nat) (c:Int) (m:Nat):List Int:=(List.range n).map fun (q:Nat)=>if posE t ((q:Int)+1)<m then valE t c ((q:Int)+1)else 0
theorem stO_len (t:List (List Int)) (n:Nat) (c:Int) (m:Nat):(stO t n c m).length=n:=by simp[stO]
theorem stO_at {t:List (List Int)}{n:Nat}{c:Int}{m q:Nat} (h:q<(stO t n c m).length):(stO t n c m)[q]=if posE t ((q:Int)+1)<m then valE t c ((q:Int)+1)else 0:=by
 have h':q<n:=by rw[stO_len]at h;exact h
 have e:(stO t n c m)[q]?= some (if posE t ((q:Int)+1)<m then valE t c ((q:Int)+1)else 0):=by
  unfold stO
  rw[List.getElem?_map,List.getElem?_range h']
  rfl
 rw[List.getElem?_eq_getElem h]at e
 exact Option.some.inj e
theorem posE_at {t:List (List Int)}{n:Int} (ok:TriOk t n){i j:Nat} (hi:i<t.length) (hj:j<3){q:Int} (h0:0<q) (h1:q≤n):posE t q=3*i+j↔sideOf t i j=q:=by
 obtain⟨o,a,ho,ha,s1,s2⟩:=ok.side (x:=q) om om h1
 unfold posE
 rw[s1]
 dsimp only
 rw[Int.toNat_natCast,Int.toNat_natCast]
 constructor
 ·intro e
  obtain⟨rfl,rfl⟩:o=i∧a=j:=by omega
  exact s2
 ·intro e
  obtain⟨rfl,rfl⟩:=side_inj ok hi hj ho ha (e.trans s2.symm)
  rfl
theorem inc1_some {P:Prop} [Decidable P]{out:List Int}{z:Nat} (hz:z<out.length) (h0:0≤out[z]) (h1:out[z]≤10):inc1 P out (z:Int)=some (out.set z (out[z]+(if P then 1 else 0))):=by
 unfold inc1
 by_cases p:P
 ·rw[ip p,ip p,ip om,ip om,rd_nat out z hz,w_id om om,Int.toNat_natCast]
 ·rw[ig p,ig p,Int.add_zero,List.set_getElem_self]
theorem around_l1 {t:List (List Int)}{n:Nat} (ok:TriOk t (n:Int)){up:List Int} (S:UF.Stands up (3*(t.length:Int)) (allG (vp t) t.length 0)){c:Int} (hc:0≤c∧c<3*(t.length:Int)){i:Nat} (hi:i<t.length):∀(d j k:Nat),j+d=3→100+d<k→
  gF.l1 k t up c (stO t n c (3*i+j)) (i:Int) (j:Int)=gF.l0 (k - d - 1) t up c (stO t n c (3*i+3)) ((i+1:Nat):Int):=by
 have h3:=ok.three hi
 have hs:=ok.short
 have n9:=ok.n9
 have hl:((rd_L1 t (i:Int)).length:Int)=3:=by rw[rdL_nat t i hi,h3];rfl
 have hlen:=S.len
 intro d
 induction d with
 |zero=>
  intro j k hj hk
  obtain⟨k,rfl⟩:=sk k
  simp only[gF.l1]
  rw[hl,ig om,w_n (m:=i+1) om om,show 3*i+j=3*i+3 by omega]
  rfl
 |succ d ih=>
  intro j k hj hk
  obtain⟨k,rfl⟩:=sk k
  have hs1:=sideOf_in ok hi j
  have ihh:=ih (j+1) k om om
  have hk':k+1 - (d+1) - 1=k - d - 1:=by omega
  have x1:(j:Int)<3:=by omega
  have x2:(0:Int)≤(j:Int):=by omega
  have x3:j<3:=by omega
  have cb1:=cor_bd hi j
  have cb2:=cor_bd hi (j+1)
  have f1:=top_f S.ok cb1.1 (m:=k) om om
  have f2:=top_f S.ok cb2.1 (m:=k) om om
  have f3:=top_f S.ok hc.1 (m:=k) om om
  have v1:=vind_if (t:=t) (c:=c) (d:=cor i j) (P:=UF.rt up (cor i j)=UF.rt up c) (S.same_iff cb1 hc)
  have v2:=vind_if (t:=t) (c:=c) (d:=cor i (j+1)) (P:=UF.rt up (cor i (j+1))=UF.rt up c) (S.same_iff cb2 hc)
  simp only[gF.l1]
  rw[hl,ip x1,ip x2,rd_at ok hi x3,hk']
  by_cases neg:sideOf t i j<0
  ·have e:stO t n c (3*i+j)=stO t n c (3*i+(j+1)):=by
    unfold stO
    apply List.map_congr_left
    intro q hq
    have hq':=List.mem_range.1 hq
    have hne:posE t ((q:Int)+1)≠3*i+j:=fun e=>by
     have:=(posE_at ok hi x3 (q:=(q:Int)+1) om om).1 e
     omega
    by_cases h:posE t ((q:Int)+1)<3*i+j
    ·rw[ip h,ip om]
    ·rw[ig h,ig om]
   rw[ip neg,show wrap64 ((j:Int)+1)=((j+1:Nat):Int)from w_n om om,e]
   exact ihh
  ·obtain⟨z,hz⟩:∃z:Nat,sideOf t i j=(z:Int)+1:=⟨(sideOf t i j - 1).toNat,by omega⟩
   have hzn:z<n:=by omega
   have hpos:posE t ((z:Int)+1)=3*i+j:=(posE_at ok hi x3 om om).2 hz
   have hzl:z<(stO t n c (3*i+j)).length:=by rw[stO_len];exact hzn
   have g0:(stO t n c (3*i+j))[z]=0:=by
    rw[stO_at,hpos,ig om]
   have bb:∀(P:Prop) [Decidable P],(0:Int)≤(if P then 1 else 0)∧(if P then 1 else 0:Int)≤1:=fun P _=>by split <;> omega
   have b1:=bb (UF.rt up (cor i j)=UF.rt up c)
   have I1:=inc1_some (P:=UF.rt up (cor i j)=UF.rt up c) hzl om om
   rw[g0,Int.zero_add]at I1
   have hzl2:z<((stO t n c (3*i+j)).set z (if UF.rt up (cor i j)=UF.rt up c then 1 else 0)).length:=by rw[List.length_set];exact hzl
   have I2:=inc1_some (P:=UF.rt up (cor i (j+1))=UF.rt up c) hzl2 (by rw[List.getElem_set_self];omega) (by rw[List.getElem_set_self];omega)
   rw[List.getElem_set_self,List.set_set]at I2
   have hv:valE t c ((z:Int)+1)=(if UF.rt up (cor i j)=UF.rt up c then 1 else 0)+(if UF.rt up (cor i (j+1))=UF.rt up c then 1 else 0):=by
    unfold valE
    rw[←hz,side_at ok hi x3]
    dsimp only
    rw[Int.toNat_natCast,Int.toNat_natCast,v1,v2]
   have e:(stO t n c (3*i+j)).set z ((if UF.rt up (cor i j)=UF.rt up c then 1 else 0)+(if UF.rt up (cor i (j+1))=UF.rt up c then 1 else 0))=stO t n c (3*i+(j+1)):=by
    rw[←hv]
    apply List.ext_getElem
    ·rw[List.length_set,stO_len,stO_len]
    ·intro q hq1 hq2
     have hq3:=hq2
     rw[stO_len]at hq3
     by_cases hq:q=z
     ·subst hq
      rw[List.getElem_set_self]
      rw[stO_at,hpos,ip om]
     ·rw[List.getElem_set_ne om]
      rw[stO_at,stO_at]
      have hne:posE t ((q:Int)+1)≠3*i+j:=fun e=>by
       have:=(posE_at ok hi x3 (q:=(q:Int)+1) om om).1 e
       omega
      by_cases h:posE t ((q:Int)+1)<3*i+j
      ·rw[ip h,ip om]
      ·rw[ig h,ig om]
   rw[ig neg,show wrap64 ((j:Int)+1)=((j+1:Nat):Int)from w_n om om,tmod3,show wrap64 (3*(i:Int))=((3*i:Nat):Int)from w_n om om,
    show wrap64 (((3*i:Nat):Int)+(j:Int))=cor i j from by rw[w_n (m:=3*i+j) om om];unfold cor;omega,
    show wrap64 (((3*i:Nat):Int)+((((j+1) % 3:Nat)):Int))=cor i (j+1)from by rw[w_n (m:=3*i+(j+1) % 3) om om];unfold cor;omega,
    f1,Option.bind_some,f3,Option.bind_some,hz,show wrap64 ((z:Int)+1 - 1)=(z:Int)from w_n om om,I1,Option.bind_some,f2,Option.bind_some,Option.bind_some,I2,Option.bind_some,e]
   exact ihh
theorem around_l0 {t:List (List Int)}{n:Nat} (ok:TriOk t (n:Int)){up:List Int} (S:UF.Stands up (3*(t.length:Int)) (allG (vp t) t.length 0)){c:Int} (hc:0≤c∧c<3*(t.length:Int)):∀(d i k:Nat),i+d=t.length→200+5*d<k→
  gF.l0 k t up c (stO t n c (3*i)) (i:Int)=some (stO t n c (3*t.length)):=by
 intro d
 induction d with
 |zero=>
  intro i k hi hk
  obtain⟨k,rfl⟩:=sk k
  simp only[gF.l0]
  rw[ig om,show i=t.length by omega]
 |succ d ih=>
  intro i k hi hk
  obtain⟨k,rfl⟩:=sk k
  have e1:=around_l1 ok S hc (i:=i) om 3 0 k om om
  have e2:=ih (i+1) (k - 3 - 1) om om
  simp only[gF.l0]
  rw[ip om,ip om]
  have e1':gF.l1 k t up c (stO t n c (3*i)) (i:Int) 0=gF.l0 (k - 3 - 1) t up c (stO t n c (3*i+3)) ((i+1:Nat):Int):=e1
  rw[e1',show 3*i+3=3*(i+1) by omega,e2]
theorem pG {t:List (List Int)}{n:Nat} (ok:TriOk t (n:Int)) (ht:t.length≤1048576) (hr:∀r∈t,r.length≤1048576){c:Int} (hc:0≤c∧c<3*(t.length:Int)) (k:Nat) (hk:3000300<k):gF.f k t c=some (aroundR t n c):=by
 obtain⟨up,e,S⟩:=vert_f ok ht hr k hk
 have hs:=ok.short
 have hl:=ok.len
 have hE:wrap64 (Int.tdiv (wrap64 (3*(t.length:Int))) 2)=(n:Int):=by
  rw[show wrap64 (3*(t.length:Int))=((3*t.length:Nat):Int)from w_n om om,Int.tdiv_eq_ediv_of_nonneg om,w_n (m:=n) om om]
 unfold gF.f
 rw[e,Option.bind_some,hE,ip om,ip om,Int.toNat_natCast]
 have h0:List.replicate n (0:Int)=stO t n c (3*0):=by
  unfold stO
  apply List.ext_getElem
  ·simp
  ·intro q h1 h2
   simp
 have h1:stO t n c (3*t.length)=aroundR t n c:=by
  unfold stO aroundR
  apply List.map_congr_left
  intro q hq
  have hq':=List.mem_range.1 hq
  obtain⟨o,a,ho,ha,s1,s2⟩:=ok.side (x:=(q:Int)+1) om om om
  rw[ip (by unfold posE;rw[s1];dsimp only;omega)]
 rw[h0, ←h1]
 exact around_l0 ok S hc t.length 0 k om om
theorem pE {t:List (List Int)}{n:Nat} (ok:TriOk t (n:Int)){u2:List Int} (S:UF.Stands u2 (3*(t.length:Int)+2) (allG (ep t) t.length 0)){i j:Nat} (hi:i<t.length) (hj:j<3):∀(d q k:Nat),q+d=n→100+d<k→
  gL.l0 k t u2 (UF.rt u2 (En (sideOf t i j))) ((List.range q).map fun (q:Nat)=>valE t (cor i (j+1)) ((q:Int)+1)) ((q:Int)+1)=some (aroundR t n (cor i (j+1))):=by
 have hs:=ok.short
 have hl:=ok.len
 have n9:=ok.n9
 have hn:=S.len
 have hE:wrap64 (Int.tdiv (wrap64 (3*(t.length:Int))) 2)=(n:Int):=by
  rw[show wrap64 (3*(t.length:Int))=((3*t.length:Nat):Int)from w_n om om,Int.tdiv_eq_ediv_of_nonneg om,w_n (m:=n) om om]
 have epm:∀a b:Nat,a<t.length→b<3→UF.Cls (3*(t.length:Int)+2) (allG (ep t) t.length 0) (En (sideOf t a b)) (fm t (cor a (b+1))):=by
  intro a b ha hb
  rw[fm_cor]
  exact .pair ((mem_allG _ _).2 ⟨a,by omega,by omega,b,hb,by simp[ep]⟩) (En_bd ok ha b).1 (En_bd ok ha b).2 (Bg_bd ok ha (b+1)).1 (Bg_bd ok ha (b+1)).2
 intro d
 induction d with
 |zero=>
  intro q k hq hk
  obtain⟨k,rfl⟩:=sk k
  simp only[gL.l0]
  rw[hE,ig om,show q=n by omega]
  rfl
 |succ d ih=>
  intro q k hq hk
  obtain⟨k,rfl⟩:=sk k
  obtain⟨o,a,ho,ha,s1,s2⟩:=ok.side (x:=(q:Int)+1) om om om
  have eB:Bg ((q:Int)+1)=2*((q:Int)+1):=by unfold Bg;rw[ig om];omega
  have eE:En ((q:Int)+1)=2*((q:Int)+1)+1:=by unfold En;rw[ip om];omega
  have bB:=Bg_bd ok ho a
  have bE:=En_bd ok ho a
  have bv:=En_bd ok hi j
  rw[s2,eB]at bB
  rw[s2,eE]at bE
  have f1:=find3_f S.ok bB.1 (m:=k) om om
  have f2:=find3_f S.ok bE.1 (m:=k) om om
  have c1:UF.rt u2 (2*((q:Int)+1))=UF.rt u2 (En (sideOf t i j))↔SameV t (cor o a) (cor i (j+1)):=by
   rw[S.same_iff bB bv]
   unfold SameV
   rw[cls_fm ok (cor_bd ho a) (cor_bd hi (j+1)),show fm t (cor o a)=2*((q:Int)+1)from by rw[fm_cor,s2,eB]]
   exact⟨fun h=>h.trans (epm i j hi hj),fun h=>h.trans (epm i j hi hj).symm⟩
  have c2:UF.rt u2 (2*((q:Int)+1)+1)=UF.rt u2 (En (sideOf t i j))↔SameV t (cor o (a+1)) (cor i (j+1)):=by
   rw[S.same_iff bE bv]
   unfold SameV
   rw[cls_fm ok (cor_bd ho (a+1)) (cor_bd hi (j+1))]
   have e0:=epm o a ho ha
   rw[s2,eE]at e0
   exact⟨fun h=>e0.symm.trans (h.trans (epm i j hi hj)),fun h=>e0.trans (h.trans (epm i j hi hj).symm)⟩
  have d1:=vind_if c1
  have d2:=vind_if c2
  have hv:valE t (cor i (j+1)) ((q:Int)+1)=(if UF.rt u2 (2*((q:Int)+1))=UF.rt u2 (En (sideOf t i j))then 1 else 0)+(if UF.rt u2 (2*((q:Int)+1)+1)=UF.rt u2 (En (sideOf t i j))then 1 else 0):=by
   unfold valE
   rw[s1]
   dsimp only
   rw[Int.toNat_natCast,Int.toNat_natCast,d1,d2]
  have vb:=valE_bd t (cor i (j+1)) ((q:Int)+1)
  have hw:wrap64 ((if UF.rt u2 (2*((q:Int)+1))=UF.rt u2 (En (sideOf t i j))then 1 else 0)+(if UF.rt u2 (2*((q:Int)+1)+1)=UF.rt u2 (En (sideOf t i j))then 1 else 0))=valE t (cor i (j+1)) ((q:Int)+1):=by
   rw[←hv]
   exact w_id om om
  have ihh:=ih (q+1) k om om
  have y1:((q:Int)+1)≤(n:Int):=by omega
  have y2:((List.range q).map fun (q:Nat)=>valE t (cor i (j+1)) ((q:Int)+1)).length<17592186044416:=by rw[List.length_map,List.length_range];omega
  have w1:wrap64 (2*((q:Int)+1))=2*((q:Int)+1):=w_id om om
  have w2:wrap64 (2*((q:Int)+1)+1)=2*((q:Int)+1)+1:=by clear w1 hw;exact w_id om om
  have w3:wrap64 ((q:Int)+1+1)=((q+1:Nat):Int)+1:=by clear w1 w2 hw;rw[w_id om om];omega
  simp only[gL.l0]
  rw[hE,ip y1,w1,f1,Option.bind_some,bit_eq,Option.bind_some,w2,f2,Option.bind_some,bit_eq,Option.bind_some,ip y2]
  simp only[beq_iff_eq]
  rw[hw,w3]
  rw[List.range_succ,List.map_append]at ihh
  exact ihh
theorem mJ {t:List (List Int)}{n:Nat} (ok:TriOk t (n:Int)){i j:Nat} (hi:i<t.length) (hj:j<3) (k:Nat) (hk:1000<k):gL.f k t (i:Int) (j:Int)=some (aroundR t n (cor i (j+1))):=by
 obtain⟨u2,e,S⟩:=ends_f ok k hk
 have hn:=S.len
 have h3:=ok.three hi
 have hs:=ok.short
 have n9:=ok.n9
 have hl:((rd_L1 t (i:Int)).length:Int)=3:=by rw[rdL_nat t i hi,h3];rfl
 have hs1:=sideOf_in ok hi j
 have bE:=En_bd ok hi j
 have f1:=find3_f S.ok bE.1 (m:=k) om om
 have x1:(0:Int)≤(i:Int):=by omega
 have x2:(i:Int)<(t.length:Int):=by omega
 have x3:(0:Int)≤(j:Int):=by omega
 have x4:(j:Int)<3:=by omega
 have y1:=l3Abs_eq (a:=sideOf t i j) om om
 have v1:wrap64 (wrap64 (2*((sideOf t i j).natAbs:Int))+(if decide (sideOf t i j>0)=true then 1 else 0))=En (sideOf t i j):=by
  rw[w_id (a:=2*((sideOf t i j).natAbs:Int)) om om]
  unfold En
  by_cases c:sideOf t i j>0
  ·rw[ip (decide_eq_true c),ip c,w_id om om]
  ·rw[ig (by simpa using c),ig c,w_id om om]
 have fin:=pE ok S hi hj n 0 k om om
 unfold gL.f
 rw[e,Option.bind_some,ip x1,ip x2,hl,ip x3,ip x4,rd_at ok hi hj,y1,Option.bind_some,bit_eq,Option.bind_some,v1,f1,Option.bind_some]
 exact fin
theorem aroundR_len (t:List (List Int)) (n:Nat) (c:Int):(aroundR t n c).length=n:=by simp[aroundR]
/-- A side's coordinate. -/
def crd (x:List Int) (s:Int):Int:=rd x ((s.natAbs:Int) - 1)
def fairRow (x:List Int):List Int→Bool
 |[a,b,c]=>decide ((crd x a+crd x b+crd x c) % 2=0∧crd x a≤crd x b+crd x c∧crd x b≤crd x a+crd x c∧crd x c≤crd x a+crd x b)
 |_=>false
def isF (t:List (List Int)) (x:List Int):Bool:=isT t && (decide ((x.length:Int)=edges t) && (x.all co && t.all (fairRow x)))
theorem crd_bd {x:List Int} (hx:x.all co=true) (s:Int):0≤crd x s∧crd x s≤200:=by
 unfold crd rd
 rw[List.getD_eq_getElem?_getD]
 cases h:x[((s.natAbs:Int) - 1).toNat]? with
 |none=>simp
 |some y=>
  have:=List.all_eq_true.1 hx y (List.mem_of_getElem? h)
  unfold co at this
  simpa using this
/-- Twice the arcs at a corner. -/
def twR (x:List Int) (a b c:Int):Int:=crd x a+crd x b - crd x c
theorem twice_eq {t:List (List Int)}{n:Int} (ok:TriOk t n){x:List Int} (hx:(x.length:Int)=n) (hc:x.all co=true){i:Nat} (hi:i<t.length){a b c:Int} (e:t[i]=[a,b,c]):
  gW.f t x (i:Int) 0=some (twR x a b c)∧gW.f t x (i:Int) 1=some (twR x b c a)∧gW.f t x (i:Int) 2=some (twR x c a b):=by
 have n9:=ok.n9
 have hm:∀y∈[a,b,c],y≠0∧ -n≤y∧y≤n:=by
  intro y hy
  rw[←e]at hy
  exact ok.inr y (List.mem_flatten.2 ⟨_,List.getElem_mem hi,hy⟩)
 have ha:=hm a (by simp)
 have hb:=hm b (by simp)
 have hcc:=hm c (by simp)
 have A:=crd_bd hc a
 have B:=crd_bd hc b
 have C:=crd_bd hc c
 have e0:rd [a,b,c] 0=a:=rfl
 have e1:rd [a,b,c] 1=b:=rfl
 have e2:rd [a,b,c] 2=c:=rfl
 have q:∀y:Int,y≠0∧ -n≤y∧y≤n→0≤(y.natAbs:Int) - 1∧(y.natAbs:Int) - 1<x.length∧wrap64 ((y.natAbs:Int) - 1)=(y.natAbs:Int) - 1:=fun y hy=>⟨by omega,by omega,w_id om om⟩
 obtain⟨qa1,qa2,qa3⟩:=q a ha
 obtain⟨qb1,qb2,qb3⟩:=q b hb
 obtain⟨qc1,qc2,qc3⟩:=q c hcc
 have sa:=l3Abs_eq (a:=a) om om
 have sb:=l3Abs_eq (a:=b) om om
 have sc:=l3Abs_eq (a:=c) om om
 have l3:(([a,b,c]:List Int).length:Int)=3:=rfl
 have w01:Int.tmod (wrap64 (0+1)) 3=1:=by decide+kernel
 have w02:Int.tmod (wrap64 (0+2)) 3=2:=by decide+kernel
 have w11:Int.tmod (wrap64 (1+1)) 3=2:=by decide+kernel
 have w12:Int.tmod (wrap64 (1+2)) 3=0:=by decide+kernel
 have w21:Int.tmod (wrap64 (2+1)) 3=0:=by decide+kernel
 have w22:Int.tmod (wrap64 (2+2)) 3=1:=by decide+kernel
 have i0:(0:Int)≤(i:Int):=by omega
 have i1:(i:Int)<(t.length:Int):=by omega
 refine⟨?_,?_,?_⟩
 ·unfold gW.f
  rw[ip i0,ip i1,rdL_nat t i hi,e,l3,w01,w02,ip (by decide),ip (by decide),e0,sa,Option.bind_some,qa3,ip qa1,ip qa2,ip (by decide),ip (by decide),e1,sb,Option.bind_some,qb3,ip qb1,ip qb2,ip (by decide),ip (by decide),e2,sc,Option.bind_some,qc3,ip qc1,ip qc2]
  unfold twR
  unfold crd at A B C ⊢
  rw[w_id (a:=rd x _+rd x _) om om,w_id om om]
 ·unfold gW.f
  rw[ip i0,ip i1,rdL_nat t i hi,e,l3,w11,w12,ip (by decide),ip (by decide),e1,sb,Option.bind_some,qb3,ip qb1,ip qb2,ip (by decide),ip (by decide),e2,sc,Option.bind_some,qc3,ip qc1,ip qc2,ip (by decide),ip (by decide),e0,sa,Option.bind_some,qa3,ip qa1,ip qa2]
  unfold twR
  unfold crd at A B C ⊢
  rw[w_id (a:=rd x _+rd x _) om om,w_id om om]
 ·unfold gW.f
  rw[ip i0,ip i1,rdL_nat t i hi,e,l3,w21,w22,ip (by decide),ip (by decide),e2,sc,Option.bind_some,qc3,ip qc1,ip qc2,ip (by decide),ip (by decide),e0,sa,Option.bind_some,qa3,ip qa1,ip qa2,ip (by decide),ip (by decide),e1,sb,Option.bind_some,qb3,ip qb1,ip qb2]
  unfold twR
  unfold crd at A B C ⊢
  rw[w_id (a:=rd x _+rd x _) om om,w_id om om]
theorem pO {t:List (List Int)}{n:Int} (ok:TriOk t n){x:List Int} (hx:(x.length:Int)=n) (hc:x.all co=true){i:Nat} (hi:i<t.length) (k:Nat):
  fN.l2 (k+4) t x (i:Int) 0=if fairRow x t[i]=true then fN.l1 k t x (wrap64 ((i:Int)+1))else some false:=by
 obtain⟨a,b,c,e,_⟩:=ok.i64 (List.getElem_mem hi)
 obtain⟨h0,h1,h2⟩:=twice_eq ok hx hc hi e
 have A:=crd_bd hc a
 have B:=crd_bd hc b
 have C:=crd_bd hc c
 have hf:fairRow x t[i]=decide ((crd x a+crd x b+crd x c) % 2=0∧crd x a≤crd x b+crd x c∧crd x b≤crd x a+crd x c∧crd x c≤crd x a+crd x b):=by rw[e];rfl
 rw[hf]
 unfold twR at h0 h1 h2
 have no:∀(P:Prop) [Decidable P] (α:Type) (u v:α),¬P→(if decide P=true then u else v)=v:=fun P _ α u v h=>by simp[h]
 simp only[fN.l2]
 rw[ip (by decide),h0,Option.bind_some]
 by_cases c0:crd x a+crd x b - crd x c<0
 ·rw[ip c0,no _ _ _ _ om]
 ·rw[ig c0,Int.tmod_eq_emod_of_nonneg om]
  by_cases d0:(crd x a+crd x b - crd x c) % 2=0
  ·rw[ip d0,show wrap64 (0+1)=1 by decide+kernel]
   rw[ip (by decide),h1,Option.bind_some]
   by_cases c1:crd x b+crd x c - crd x a<0
   ·rw[ip c1,no _ _ _ _ om]
   ·rw[ig c1,Int.tmod_eq_emod_of_nonneg om,ip om,show wrap64 (1+1)=2 by decide+kernel]
    rw[ip (by decide),h2,Option.bind_some]
    by_cases c2:crd x c+crd x a - crd x b<0
    ·rw[ip c2,no _ _ _ _ om]
    ·rw[ig c2,Int.tmod_eq_emod_of_nonneg om,ip om,show wrap64 (2+1)=3 by decide+kernel]
     rw[ig (by decide),ip (by rw[decide_eq_true_iff];omega)]
  ·rw[ig d0,no _ _ _ _ om]
theorem pN {t:List (List Int)}{n:Int} (ok:TriOk t n){x:List Int} (hx:(x.length:Int)=n) (hc:x.all co=true):∀(d i k:Nat),i+d=t.length→6*d<k→fN.l1 k t x (i:Int)=some ((t.drop i).all (fairRow x)):=by
 have hs:=ok.short
 intro d
 induction d with
 |zero=>
  intro i k hi hk
  obtain⟨k,rfl⟩:=sk k
  simp only[fN.l1]
  rw[ig om,List.drop_of_length_le om]
  rfl
 |succ d ih=>
  intro i k hi hk
  obtain⟨k,rfl⟩:∃m,k=m+5:=⟨k - 5,by omega⟩
  have hlt:i<t.length:=by omega
  rw[show k+5=(k+4)+1 from rfl]
  simp only[fN.l1]
  rw[ip om,pO ok hx hc hlt k,w_id om om,show((i:Int)+1)=((i+1:Nat):Int) by omega,ih (i+1) k om om,List.drop_eq_getElem_cons hlt,List.all_cons]
  by_cases h:fairRow x t[i]=true
  ·rw[ip h,h,Bool.true_and]
  ·rw[ig h]
   simp at h
   rw[h,Bool.false_and]
theorem pM {t:List (List Int)}{n:Int} (ok:TriOk t n){x:List Int} (hx:(x.length:Int)=n):∀(d i k:Nat),i+d=x.length→100+d<k→(x.take i).all co=true→fN.l0 k t x (i:Int)=some (x.all co && t.all (fairRow x)):=by
 have hs:=ok.short
 have n9:=ok.n9
 intro d
 induction d with
 |zero=>
  intro i k hi hk ht
  obtain⟨k,rfl⟩:=sk k
  simp only[fN.l0]
  rw[List.take_of_length_le om]at ht
  have:=pN ok hx ht t.length 0 k om om
  rw[List.drop_zero]at this
  rw[ig om,ht,Bool.true_and]
  exact this
 |succ d ih=>
  intro i k hi hk ht
  obtain⟨k,rfl⟩:=sk k
  have hlt:i<x.length:=by omega
  simp only[fN.l0]
  rw[ip om,ip om,rd_nat x i hlt,l1In_eq,Option.bind_some]
  by_cases h:0≤x[i]∧x[i]≤200
  ·rw[ip (by simpa using h),w_id om om,show((i:Int)+1)=((i+1:Nat):Int) by omega]
   refine ih (i+1) k om om ?_
   rw[List.take_succ_eq_append_getElem hlt,List.all_append,ht]
   simp[co,h]
  ·rw[ig (by simpa using h)]
   have:x.all co=false:=by
    rw[List.all_eq_false]
    exact⟨x[i],List.getElem_mem hlt,by unfold co;simpa using h⟩
   rw[this,Bool.false_and]
theorem mO (t:List (List Int)) (ht:t.length≤1048576) (x:List Int) (k:Nat) (hk:6000001<k):fN.f k t x=some (isF t x):=by
 obtain⟨k,rfl⟩:=sk k
 unfold fN.f isF
 rw[pP t ht _ om,Option.bind_some]
 simp only[fN.j0]
 rw[show wrap64 (Int.tdiv (wrap64 (3*(t.length:Int))) 2)=edges t from rfl]
 by_cases h:isT t=true
 ·have ok:=isT_ok ht h
  have n9:=ok.n9
  rw[ip h,h]
  by_cases h2:(x.length:Int)=edges t
  ·have:=pM ok h2 x.length 0 k om om (by simp)
   rw[ig (by simpa using h2),decide_eq_true h2,Bool.true_and,Bool.true_and]
   exact this
  ·rw[ip (by simpa using h2),decide_eq_false h2,Bool.false_and,Bool.and_false]
 ·rw[ig h,ip trivial]
  simp at h
  rw[h,Bool.false_and]
theorem pK {t:List (List Int)}{n:Int} (ok:TriOk t n){x:List Int} (hx:(x.length:Int)=n) (hc:x.all co=true):∀(d i k:Nat),i+d=t.length→d<k→fP.l0 k x t (t.length:Int) (i:Int)=some ((t.drop i).all (fairRow x)):=by
 have hs:=ok.short
 have n9:=ok.n9
 intro d
 induction d with
 |zero=>
  intro i k hi hk
  obtain⟨k,rfl⟩:=sk k
  simp only[fP.l0]
  rw[ig om,List.drop_of_length_le om]
  rfl
 |succ d ih=>
  intro i k hi hk
  obtain⟨k,rfl⟩:=sk k
  have hlt:i<t.length:=by omega
  obtain⟨a,b,c,e,ha,hb,hcc⟩:=ok.i64 (List.getElem_mem hlt)
  have A:=crd_bd hc a
  have B:=crd_bd hc b
  have C:=crd_bd hc c
  have q:∀y:Int,y≠0∧ -n≤y∧y≤n→0≤(y.natAbs:Int) - 1∧(y.natAbs:Int) - 1<x.length∧wrap64 ((y.natAbs:Int) - 1)=(y.natAbs:Int) - 1:=fun y hy=>⟨by omega,by omega,w_id om om⟩
  obtain⟨qa1,qa2,qa3⟩:=q a ha
  obtain⟨qb1,qb2,qb3⟩:=q b hb
  obtain⟨qc1,qc2,qc3⟩:=q c hcc
  have sa:=size_eq (a:=a) om om
  have sb:=size_eq (a:=b) om om
  have sc:=size_eq (a:=c) om om
  have l3:(([a,b,c]:List Int).length:Int)=3:=rfl
  have e0:rd [a,b,c] 0=a:=rfl
  have e1:rd [a,b,c] 1=b:=rfl
  have e2:rd [a,b,c] 2=c:=rfl
  have hf:fairRow x t[i]=decide ((crd x a+crd x b+crd x c) % 2=0∧crd x a≤crd x b+crd x c∧crd x b≤crd x a+crd x c∧crd x c≤crd x a+crd x b):=by rw[e];rfl
  simp only[fP.l0]
  rw[List.drop_eq_getElem_cons hlt,List.all_cons,hf]
  rw[ip om,ip om,ip om,rdL_nat t i hlt,e,l3,e0,e1,e2,ip (by decide),sa,Option.bind_some,qa3,ip qa1,ip qa2,ip (by decide),sb,Option.bind_some,qb3,ip qb1,ip qb2,ip (by decide),sc,Option.bind_some,qc3,ip qc1,ip qc2]
  rw[show rd x ((a.natAbs:Int) - 1)=crd x a from rfl,show rd x ((b.natAbs:Int) - 1)=crd x b from rfl,show rd x ((c.natAbs:Int) - 1)=crd x c from rfl]
  rw[w_id (a:=crd x a+crd x b) om om,w_id (a:=crd x a+crd x b+crd x c) om om,w_id (a:=crd x b+crd x c) om om,w_id (a:=crd x a+crd x c) om om,Int.tmod_eq_emod_of_nonneg om,w_id (a:=(i:Int)+1) om om,show((i:Int)+1)=((i+1:Nat):Int) by omega,ih (i+1) k om om]
  have no:∀(P:Prop) [Decidable P] (u:Bool),¬P→(decide P && u)=false:=fun P _ u h=>by simp[h]
  by_cases c0:(crd x a+crd x b+crd x c) % 2=0
  ·rw[ip c0]
   by_cases c1:crd x a>crd x b+crd x c
   ·rw[ip c1,no _ _ om]
   ·rw[ig c1]
    by_cases c2:crd x b>crd x a+crd x c
    ·rw[ip c2,no _ _ om]
    ·rw[ig c2]
     by_cases c3:crd x c>crd x a+crd x b
     ·rw[ip c3,no _ _ om]
     ·rw[ig c3,decide_eq_true om,Bool.true_and]
  ·rw[ig c0,no _ _ om]
theorem pF (t:List (List Int)) (ht:t.length≤1048576) (x:List Int) (k:Nat) (hk:6000001<k):fP.f k t x=some (isF t x):=by
 obtain⟨k,rfl⟩:=sk k
 unfold fP.f isF
 rw[pL t ht _ om,Option.bind_some]
 simp only[fP.j0]
 rw[show wrap64 (Int.tdiv (wrap64 (3*(t.length:Int))) 2)=edges t from rfl]
 by_cases h:isT t=true
 ·have ok:=isT_ok ht h
  have n9:=ok.n9
  have hs:=ok.short
  rw[ip h,h]
  by_cases h2:(x.length:Int)=edges t
  ·rw[ip h2,decide_eq_true h2,Bool.true_and,Bool.true_and,areCo x om _ om,Option.bind_some]
   by_cases h3:x.all co=true
   ·have:=pK ok h2 h3 t.length 0 k om om
    rw[List.drop_zero]at this
    rw[h3,ig (by decide),Bool.true_and]
    exact this
   ·rw[Bool.eq_false_iff.mpr h3,ip (by decide),Bool.false_and]
  ·rw[ig h2,ip trivial,decide_eq_false h2,Bool.false_and,Bool.and_false]
 ·rw[ig h,ip trivial]
  simp at h
  rw[h,Bool.false_and]
theorem ring_co {t:List (List Int)}{n:Nat}{c:Int}:(aroundR t n c).all co=true:=by
 rw[List.all_eq_true]
 intro a ha
 unfold aroundR at ha
 obtain⟨q,_,rfl⟩:=List.mem_map.1 ha
 have:=valE_bd t c ((q:Int)+1)
 unfold co
 rw[decide_eq_true_iff]
 omega
end Go.Proofs.Ytbpnjlemjapnnaa.L

namespace Go.Proofs.Ytbpnjlemjapnnaa.L
open Go Go.RowKit Go.Proofs.Ytbpnjlemjapnnaa.P Go.Proofs.Ytbpnjlemjapnnaa.Help Go.Proofs.YtbpnjlemjapnnaaW.PrintWords
set_option linter.unusedVariables false
set_option linter.unusedSimpArgs false
/-- The texts of the drawn triangulations. -/
def L6:List ByteArray:=[(⟨#[97,98,99,32,65,66,67]⟩:ByteArray),(⟨#[97,98,99,32,65,67,66]⟩:ByteArray),(⟨#[97,98,99,32,65,100,101,32,66,68,102,32,67,70,69]⟩:ByteArray),(⟨#[97,98,67,32,66,100,101,32,99,68,102,32,65,69,70]⟩:ByteArray),(⟨#[97,98,99,32,65,100,101,32,66,102,68,32,67,70,69]⟩:ByteArray),(⟨#[97,98,99,32,65,100,101,32,102,66,103,32,68,69,104,32,67,72,105,32,70,73,71]⟩:ByteArray)]
theorem L6_ok:∀s∈L6,(parseT s).2=true∧s.size≤100:=by decide+kernel
/-- The drawn triangulations, and those with one letter turned. -/
def T30:List (List (List Int)):=L6.flatMap fun s=>(parseT s).1 :: [0,2,(-1),9].map fun v=>(parseT s).1.set 0 (((parseT s).1.getD 0 []).set 0 v)
theorem T30_mem {s:ByteArray} (h:s∈L6):(parseT s).1∈T30:=List.mem_flatMap.2 ⟨s,h,by simp⟩
theorem T30_set {s:ByteArray} (h:s∈L6){v:Int} (hv:v∈[0,2,(-1),9]):(parseT s).1.set 0 (((parseT s).1.getD 0 []).set 0 v)∈T30:=List.mem_flatMap.2 ⟨s,h,List.mem_cons_of_mem _ (List.mem_map.2 ⟨v,hv,rfl⟩)⟩
theorem tri15_eq (k:Nat) (b:List Int) (i h:Int):jY.f k b i h=(jS.f b i h L6).bind fun bt=>(fL.f k bt.1).bind fun p=>if(p.1.length:Int)=0 then none else some (p.1,bt.2.1,bt.2.2):=rfl
theorem tri15_ok {b:List Int}{i:Int} (h:Int) (hc:Cur b i) (k:Nat) (hk:9000000<k):∃t i' h',jY.f k b i h=some (t,i',h')∧isT t=true∧t.length≤6∧Cur b i'∧∃s∈L6,t=(parseT s).1:=by
 rw[tri15_eq]
 obtain⟨s,i1,h1,e1,hs,c1⟩:=pick_ok h L6 hc (by decide)
 obtain⟨g1,g2⟩:=L6_ok s hs
 rw[e1,Option.bind_some]
 dsimp only
 rw[pZ s om k hk,Option.bind_some]
 rcases parseT_cases s om with p|⟨o,p,q1,q2,_⟩
 ·rw[p]at g1
  exact absurd g1 (by simp)
 ·have:=(isT_ok om q1).short
  rw[p]
  dsimp only
  rw[ig om]
  exact⟨o,i1,h1,rfl,q1,q2,c1,s,hs,by rw[p]⟩
theorem addL_bd:∀(x y:List Int) (p q:Int),(∀a∈x,0≤a∧a≤p)→(∀a∈y,0≤a∧a≤q)→∀a∈addL x y,0≤a∧a≤p+q
 |[],y,p,q,hx,hy,a,ha=>by simp[addL]at ha
 |u :: x,[],p,q,hx,hy,a,ha=>by simp[addL]at ha
 |u :: x,v :: y,p,q,hx,hy,a,ha=>by
  have h1:=hx u (by simp)
  have h2:=hy v (by simp)
  simp only[addL,List.mem_cons]at ha
  rcases ha with rfl|ha
  ·omega
  ·exact addL_bd x y p q (fun z hz=>hx z (by simp[hz])) (fun z hz=>hy z (by simp[hz])) a ha
theorem ring_two {t:List (List Int)}{n:Nat}{c:Int}:∀a∈aroundR t n c,0≤a∧a≤2:=by
 intro a ha
 unfold aroundR at ha
 obtain⟨q,_,rfl⟩:=List.mem_map.1 ha
 have:=valE_bd t c ((q:Int)+1)
 omega
theorem co_all {x:List Int} (h:∀a∈x,0≤a∧a≤200):x.all co=true:=by
 rw[List.all_eq_true]
 intro a ha
 unfold co
 rw[decide_eq_true_iff]
 exact h a ha
theorem getD_tt {t:List (List Int)} (h:0<t.length):t.getD 0 []=t[0]:=by
 simp[List.getD_eq_getElem?_getD,List.getElem?_eq_getElem h]
/-- What a draw tells. -/
structure Good (b:List Int) (t:List (List Int)) (x:List Int) (i:Int):Prop where
 len:t.length≤6
 row:∀r∈t,r.length=3
 xs:x.length≤9
 cur:Cur b i
 mem:t∈T30
theorem draw_end {b:List Int}{t:List (List Int)}{n:Nat} (ok:TriOk t (n:Int)) (ex:∃s∈L6,t=(parseT s).1) (k:Nat) (x:List Int) (i h:Int) (x8:Int) (h8:¬x8<12) (hc:Cur b i) (hx:x.length=n) (hk:0<k):∃t' x' i' h',fM.l1 k t x x8 b i h=some (t',x',i',h')∧Good b t' x' i':=by
 obtain⟨k,rfl⟩:=sk k
 have n3:=ok.n3
 have n9:=ok.n9
 have hs:=ok.short
 obtain⟨z,hz,ez⟩:=ex
 have hm:t∈T30:=by rw[ez];exact T30_mem hz
 simp only[fM.l1]
 rw[ig h8]
 obtain⟨a,i1,h1,e1,_,_,c1⟩:=below_ok h 18 hc (by decide)
 rw[e1,Option.bind_some]
 dsimp only
 by_cases a0:a=0
 ·rw[ip a0]
  obtain⟨v,i2,h2,e2,_,c2⟩:=pickInt_ok h1 [(-1),201,1,3] c1 (by decide)
  rw[e2,Option.bind_some,ip om]
  exact⟨_,_,_,_,rfl,by omega,ok.row,by rw[List.length_set];omega,c2,hm⟩
 ·rw[ig a0]
  by_cases a1:a=1
  ·rw[ip a1,ip om]
   exact⟨_,_,_,_,rfl,by omega,ok.row,by rw[List.length_drop];omega,c1,hm⟩
  ·rw[ig a1]
   by_cases a2:a=2
   ·have r0:rd_L1 t 0=t[0]:=rdL_nat t 0 om
    have l3:t[0].length=3:=ok.three om
    obtain⟨v,i2,h2,e2,hv,c2⟩:=pickInt_ok h1 [0,2,(-1),9] c1 (by decide)
    have ht0:t.set 0 (t[0].set 0 v)∈T30:=by
     have:=T30_set hz hv
     rw[←ez]at this
     rwa [getD_tt om]at this
    rw[ip a2,ip om,e2,Option.bind_some,r0,ip om]
    refine⟨_,_,_,_,rfl,by rw[List.length_set];omega,?_,by omega,c2,ht0⟩
    intro r hr
    rcases List.mem_or_eq_of_mem_set hr with hr|rfl
    ·exact ok.row r hr
    ·rw[List.length_set];exact l3
   ·rw[ig a2]
    exact⟨_,_,_,_,rfl,by omega,ok.row,by omega,c1,hm⟩
theorem set_co {x:List Int}{p:Nat}{v:Int} (h:∀a∈x,0≤a∧a≤200) (hv:0≤v∧v<7):∀a∈x.set p v,0≤a∧a≤200:=by
 intro a ha
 rcases List.mem_or_eq_of_mem_set ha with ha|rfl
 ·exact h a ha
 ·omega
theorem draw_l1 {b:List Int}{t:List (List Int)}{n:Nat} (ok:TriOk t (n:Int)) (ex:∃s∈L6,t=(parseT s).1) (ht:t.length≤1048576):∀(d k:Nat) (x:List Int) (x8 i h:Int),x8+(d:Int)=12→0≤x8→Cur b i→x.length=n→(∀a∈x,0≤a∧a≤200)→9000000+d<k→∃t' x' i' h',fM.l1 k t x x8 b i h=some (t',x',i',h')∧Good b t' x' i'
 |0,k,x,x8,i,h,e8,p8,hc,hx,hb,hk=>draw_end ok ex k x i h x8 om hc hx om
 |d+1,k,x,x8,i,h,e8,p8,hc,hx,hb,hk=>by
  obtain⟨k,rfl⟩:=sk k
  have n3:=ok.n3
  have n9:=ok.n9
  simp only[fM.l1]
  rw[ip om,Option.bind_some,ip (by simp;omega),Option.bind_some,List.nil_append]
  obtain⟨p,i1,h1,e1,p0,p1,c1⟩:=below_ok h (x.length:Int) hc om
  rw[e1,Option.bind_some]
  dsimp only
  obtain⟨v,i2,h2,e2,v0,v1,c2⟩:=below_ok h1 7 c1 (by decide)
  rw[e2,Option.bind_some]
  dsimp only
  rw[ip p0,ip p1]
  obtain⟨q,i3,h3,e3,q0,q1,c3⟩:=below_ok h2 (x.length:Int) c2 om
  rw[e3,Option.bind_some]
  dsimp only
  obtain⟨u,i4,h4,e4,u0,u1,c4⟩:=below_ok h3 7 c3 (by decide)
  rw[e4,Option.bind_some]
  dsimp only
  rw[ip q0,ip q1,Option.bind_some,mO t ht _ k om,Option.bind_some,w_id (a:=x8+1) om om]
  by_cases f:isF t ((x.set p.toNat v).set q.toNat u)=true
  ·rw[ip f]
   exact draw_l1 ok ex ht d k _ (x8+1) i4 h4 om om c4 (by rw[List.length_set,List.length_set];exact hx) (set_co (set_co hb ⟨v0,v1⟩) ⟨u0,u1⟩) om
  ·rw[ig f]
   exact draw_l1 ok ex ht d k _ (x8+1) i4 h4 om om c4 hx hb om
theorem draw_l0 {b:List Int}{t:List (List Int)}{n:Nat} (ok:TriOk t (n:Int)) (ex:∃s∈L6,t=(parseT s).1) (ht:t.length≤1048576):∀(d k:Nat) (x:List Int) (x6 i h:Int),x6≤(d:Int)→d≤3→Cur b i→x.length=n→(∀a∈x,0≤a∧a≤2*(3 - (d:Int)))→9000100+d<k→∃t' x' i' h',fM.l0 k t x x6 b i h=some (t',x',i',h')∧Good b t' x' i':=by
 intro d
 induction d with
 |zero=>
  intro k x x6 i h e6 _ hc hx hb hk
  obtain⟨k,rfl⟩:=sk k
  simp only[fM.l0]
  rw[ig om]
  exact draw_l1 ok ex ht 12 k x 0 i h (by decide) (by decide) hc hx (fun a ha=>by have:=hb a ha;omega) om
 |succ d ih=>
  intro k x x6 i h e6 d3 hc hx hb hk
  obtain⟨k,rfl⟩:=sk k
  have n3:=ok.n3
  have n9:=ok.n9
  have hs:=ok.short
  simp only[fM.l0]
  by_cases c:x6>0
  ·rw[ip c]
   obtain⟨p,i1,h1,e1,p0,p1,c1⟩:=below_ok h (t.length:Int) hc om
   rw[e1,Option.bind_some]
   dsimp only
   obtain⟨q,i2,h2,e2,q0,q1,c2⟩:=below_ok h1 3 c1 (by decide)
   rw[e2,Option.bind_some]
   dsimp only
   obtain⟨p,rfl⟩:=Int.eq_ofNat_of_zero_le p0
   obtain⟨q,rfl⟩:=Int.eq_ofNat_of_zero_le q0
   have hy:=aroundR_len t n (cor p (q+1))
   have hb2:=addL_bd x (aroundR t n (cor p (q+1))) _ 2 hb ring_two
   have ha:addR x (aroundR t n (cor p (q+1)))=(addL x (aroundR t n (cor p (q+1))),true):=by
    unfold addR
    rw[ip ⟨by omega,co_all (fun a ha=>by have:=hb a ha;omega),ring_co,co_all (fun a ha=>by have:=hb2 a ha;omega)⟩]
   rw[mJ ok (i:=p) (j:=q) om om k om,Option.bind_some,qE x _ om k om,ha,Option.bind_some,w_id (a:=x6 - 1) om om]
   dsimp only
   exact ih k _ (x6 - 1) i2 h2 om om c2 (by rw[addL_leq _ _ om];exact hx) (fun a ha=>by have:=hb2 a ha;omega) om
  ·rw[ig c]
   exact draw_l1 ok ex ht 12 k x 0 i h (by decide) (by decide) hc hx (fun a ha=>by have:=hb a ha;omega) om
theorem draw15_ok {b:List Int}{i:Int} (h:Int) (hc:Cur b i) (k:Nat) (hk:9001000<k):∃t x i' h',fM.f k b i h=some (t,x,i',h')∧Good b t x i':=by
 unfold fM.f
 obtain⟨t,i1,h1,e1,hT,hl,c1,ex⟩:=tri15_ok h hc k om
 have ok0:=isT_ok om hT
 obtain⟨n,hn⟩:∃n:Nat,edges t=(n:Int):=⟨(edges t).toNat,by have:=ok0.n3;omega⟩
 have ed:wrap64 (Int.tdiv (wrap64 (3*(t.length:Int))) 2)=(n:Int):=hn
 rw[hn]at ok0
 have n9:=ok0.n9
 clear hn
 rw[e1,Option.bind_some]
 dsimp only
 rw[ed,ip om,ip om]
 obtain⟨a,i2,h2,e2,a0,a1,c2⟩:=below_ok h1 3 c1 (by decide)
 rw[e2,Option.bind_some]
 dsimp only
 rw[w_id (a:=1+a) om om,Int.toNat_natCast]
 exact draw_l0 ok0 ex om 3 k _ _ i2 h2 om om c2 (by simp) (fun z hz=>by obtain⟨_,rfl⟩:=List.mem_replicate.1 hz;omega) om
theorem drawIF_ok (l:List Int) (hl:l.length≤1048576) (k:Nat) (hk:9001000<k):∃t x,jO.f k l=some (t,x)∧Good l t x 0:=by
 unfold jO.f
 obtain⟨h0,e0⟩:=new_ok l hl k om
 rw[e0,Option.bind_some]
 dsimp only
 obtain⟨t,x,i1,h1,e1,g⟩:=draw15_ok h0 (Cur.start hl) k hk
 rw[e1]
 exact⟨t,x,rfl,g.len,g.row,g.xs,Cur.start hl,g.mem⟩
end Go.Proofs.Ytbpnjlemjapnnaa.L

namespace Go.Proofs.Ytbpnjlemjapnnaa.L
open Go.RowKit Go.Proofs.Ytbpnjlemjapnnaa.P Go.Proofs.Ytbpnjlemjapnnaa.Help Go.Proofs.YtbpnjlemjapnnaaW.PrintWords
set_option linter.unusedVariables false
set_option linter.unusedSimpArgs false

/-- The arcs at a corner, twice. -/
def tw (t:List (List Int)) (x:List Int) (i j:Nat):Int:=crd x (sideOf t i j)+crd x (sideOf t i (j+1)) - crd x (sideOf t i (j+2))
theorem isF_ok {t:List (List Int)}{x:List Int} (ht:t.length≤1048576) (h:isF t x=true):TriOk t (edges t)∧(x.length:Int)=edges t∧x.all co=true∧∀r∈t,fairRow x r=true:=by
 unfold isF at h
 rw[Bool.and_eq_true,Bool.and_eq_true,Bool.and_eq_true,decide_eq_true_iff]at h
 exact⟨isT_ok ht h.1,h.2.1,h.2.2.1,fun r hr=>List.all_eq_true.1 h.2.2.2 r hr⟩
theorem tw_even {t:List (List Int)}{x:List Int}{n:Int} (ok:TriOk t n) (hc:x.all co=true){i:Nat} (hi:i<t.length) (hf:fairRow x t[i]=true) (j:Nat) (hj:j<3):0≤tw t x i j∧tw t x i j≤400∧tw t x i j % 2=0:=by
 obtain⟨a,b,c,e,_⟩:=ok.i64 (List.getElem_mem hi)
 have A:=crd_bd hc a
 have B:=crd_bd hc b
 have C:=crd_bd hc c
 have hf2:decide ((crd x a+crd x b+crd x c) % 2=0∧crd x a≤crd x b+crd x c∧crd x b≤crd x a+crd x c∧crd x c≤crd x a+crd x b)=true:=by rw[e]at hf;exact hf
 rw[decide_eq_true_iff]at hf2
 obtain⟨s0,s1,s2,s3,s4⟩:=sideOf_eq hi e
 unfold tw
 match j,hj with
 |0,_=>rw[s0,s1,s2];omega
 |1,_=>rw[s1,s2,s3];omega
 |2,_=>rw[s2,s3,s4];omega
theorem twice_tw {t:List (List Int)}{n:Int} (ok:TriOk t n){x:List Int} (hx:(x.length:Int)=n) (hc:x.all co=true){i:Nat} (hi:i<t.length) (j:Nat) (hj:j<3):gW.f t x (i:Int) (j:Int)=some (tw t x i j):=by
 obtain⟨a,b,c,e,_⟩:=ok.i64 (List.getElem_mem hi)
 obtain⟨h0,h1,h2⟩:=twice_eq ok hx hc hi e
 obtain⟨s0,s1,s2,s3,s4⟩:=sideOf_eq hi e
 unfold tw
 match j,hj with
 |0,_=>rw[s0,s1,s2];exact h0
 |1,_=>rw[s1,s2,s3];exact h1
 |2,_=>rw[s2,s3,s4];exact h2
theorem arcsAt_eq {t:List (List Int)}{n:Int} (ok:TriOk t n){x:List Int} (hx:(x.length:Int)=n){i:Nat} (hi:i<t.length) (j:Nat) (hj:j<1000):arcsAt.f t x (i:Int) (j:Int)=some (crd x (sideOf t i j)):=by
 have n9:=ok.n9
 have h3:=ok.three hi
 have hjl:j % 3<t[i].length:=by omega
 have hs:=sideOf_in ok hi j
 have e:rd (rd_L1 t (i:Int)) (Int.tmod (j:Int) 3)=sideOf t i j:=by
  rw[rdL_nat t i hi,Int.tmod_eq_emod_of_nonneg om,show((j:Int) % 3)=((j % 3:Nat):Int) by omega,rd_nat _ _ hjl]
  unfold sideOf
  rw[getD_at _ hi,getD_at _ hjl]
 unfold arcsAt.f
 rw[ip om,ip om,ip (by rw[Int.tmod_eq_emod_of_nonneg om];omega),ip (by rw[rdL_nat t i hi,Int.tmod_eq_emod_of_nonneg om];omega),e,size_eq om om,Option.bind_some,w_id om om,ip om,ip om]
 rfl
def subL:List Int→List Int→List Int
 |x :: xs,y :: ys=>(x - y) :: subL xs ys
 |_,_=>[]
def sumP:List Int→Int
 |[]=>0
 |x :: xs=>x+sumP xs
theorem subL_len:∀(x y:List Int),x.length=y.length→(subL x y).length=x.length
 |[],[],_=>rfl
 |[],_ :: _,h=>by simp at h
 |_ :: _,[],h=>by simp at h
 |x :: xs,y :: ys,h=>by
  rw[subL,List.length_cons,List.length_cons,subL_len xs ys (by simpa using h)]
theorem subL_at:∀(x y:List Int) (i:Nat),x.length=y.length→(h:i<x.length)→(h2:i<y.length)→(h3:i<(subL x y).length)→(subL x y)[i]=x[i] - y[i]
 |[],[],i,_,h,_,_=>by simp at h
 |[],_ :: _,_,h,_,_,_=>by simp at h
 |_ :: _,[],_,h,_,_,_=>by simp at h
 |x :: xs,y :: ys,0,_,_,_,_=>rfl
 |x :: xs,y :: ys,i+1,h,h1,h2,h3=>by
  have h1':i<xs.length:=by simpa using h1
  have h2':i<ys.length:=by simpa using h2
  have h4:i<(subL xs ys).length:=by rw[subL_len xs ys (by simpa using h)];exact h1'
  have ih:=subL_at xs ys i (by simpa using h) h1' h2' h4
  simp only[subL,List.getElem_cons_succ]
  exact ih
theorem sumP_sub:∀(x y:List Int),x.length=y.length→sumP (subL x y)=sumP x - sumP y
 |[],[],_=>rfl
 |[],_ :: _,h=>by simp at h
 |_ :: _,[],h=>by simp at h
 |x :: xs,y :: ys,h=>by
  rw[subL,sumP,sumP,sumP,sumP_sub xs ys (by simpa using h)]
  omega
theorem sumP_nn:∀(x:List Int),(∀a∈x,0≤a)→0≤sumP x
 |[],_=>by simp[sumP]
 |a :: xs,h=>by
  have:=h a List.mem_cons_self
  have:=sumP_nn xs (fun b hb=>h b (List.mem_cons_of_mem _ hb))
  rw[sumP]
  omega
theorem sumP_pos:∀(x:List Int),(∀a∈x,0≤a)→(∃a∈x,1≤a)→1≤sumP x
 |[],_,h=>by obtain⟨a,ha,_⟩:=h;exact absurd ha (by simp)
 |b :: xs,h,⟨a,ha,h1⟩=>by
  have h0:=h b List.mem_cons_self
  have hn:=sumP_nn xs (fun b hb=>h b (List.mem_cons_of_mem _ hb))
  rw[sumP]
  rcases List.mem_cons.1 ha with e|e
  ·subst e;omega
  ·have:=sumP_pos xs (fun b hb=>h b (List.mem_cons_of_mem _ hb)) ⟨a,e,h1⟩
   omega
theorem sumP_le:∀(x:List Int),(∀a∈x,a≤200)→sumP x≤200*x.length
 |[],_=>by simp[sumP]
 |a :: xs,h=>by
  have:=h a List.mem_cons_self
  have:=sumP_le xs (fun b hb=>h b (List.mem_cons_of_mem _ hb))
  rw[sumP,List.length_cons]
  omega
theorem co_at {x:List Int} (hc:x.all co=true){a:Int} (ha:a∈x):0≤a∧a≤200:=co_true (List.all_eq_true.1 hc a ha)
theorem crd_nat {x:List Int}{s:Int}{e:Nat} (hs:(s.natAbs:Int)=(e:Int)+1) (he:e<x.length):crd x s=x[e]:=by
 unfold crd
 rw[hs,show(e:Int)+1 - 1=(e:Int) by omega,rd_nat x e he]
theorem SameV.symm {t:List (List Int)}{c d:Int} (h:SameV t c d):SameV t d c:=UF.Cls.symm h
theorem SameV.trans {t:List (List Int)}{c d e:Int} (h:SameV t c d) (h2:SameV t d e):SameV t c e:=UF.Cls.trans h h2
theorem vind_same {t:List (List Int)}{c d e:Int} (h:SameV t d e):vind t c d=vind t c e:=by
 unfold vind
 by_cases p:SameV t d c
 ·rw[ip p,ip (h.symm.trans p)]
 ·rw[ig p,ig (fun q=>p (h.trans q))]
theorem cor_mod (i j:Nat):cor i (j % 3)=cor i j:=by
 unfold cor
 rw[Nat.mod_mod]
theorem cor_mod1 (i j:Nat):cor i (j % 3+1)=cor i (j+1):=by
 unfold cor
 rw[show(j % 3+1) % 3=(j+1) % 3 by omega]
/-- What the curve around a vertex says of a side: its two corners at the vertex. -/
theorem around_side {t:List (List Int)}{n:Nat} (ok:TriOk t (n:Int)) (c:Int){a:Nat} (ha:a<t.length) (b:Nat):crd (aroundR t n c) (sideOf t a b)=vind t c (cor a b)+vind t c (cor a (b+1)):=by
 have hs:=sideOf_in ok ha b
 obtain⟨e,he⟩:∃e:Nat,((sideOf t a b).natAbs:Int)=(e:Int)+1:=⟨(sideOf t a b).natAbs - 1,by omega⟩
 have hen:e<n:=by omega
 have hel:e<(aroundR t n c).length:=by rw[aroundR_len];exact hen
 rw[crd_nat he hel]
 have hv:(aroundR t n c)[e]=valE t c ((e:Int)+1):=by
  have h:(aroundR t n c)[e]?= some (valE t c ((e:Int)+1)):=by
   unfold aroundR
   rw[List.getElem?_map,List.getElem?_range hen]
   rfl
  rw[List.getElem?_eq_getElem hel]at h
  exact Option.some.inj h
 rw[hv]
 unfold valE
 by_cases p:0<sideOf t a b
 ·have e1:(e:Int)+1=sideOf t a (b % 3):=by rw[sideOf_mod];omega
  rw[e1,side_at ok ha om]
  dsimp only
  rw[Int.toNat_natCast,Int.toNat_natCast,cor_mod,cor_mod1]
 ·obtain⟨o1,o2,o3,o4⟩:=opp_at ok ha b
  have e1:(e:Int)+1= -(sideOf t a b):=by omega
  rw[e1,o4]
  dsimp only
  rw[Int.toNat_natCast,Int.toNat_natCast]
  have hm:∀p,p∈vp t a (b % 3)→SameV t p.1 p.2:=by
   intro p hp
   obtain⟨q1,q2,_,_⟩:=opp_at ok ha (b % 3)
   have hm:p∈allG (vp t) t.length 0:=(mem_allG _ _).2 ⟨a,by omega,by omega,b % 3,by omega,hp⟩
   have hp':p=(cor a (b % 3),cor (opp t a (b % 3)).1 ((opp t a (b % 3)).2+1))∨p=(cor a (b % 3+1),cor (opp t a (b % 3)).1 (opp t a (b % 3)).2):=by simpa[vp] using hp
   rcases hp' with e|e
   ·subst e
    exact .pair hm (cor_bd ha _).1 (cor_bd ha _).2 (cor_bd q1 _).1 (cor_bd q1 _).2
   ·subst e
    exact .pair hm (cor_bd ha _).1 (cor_bd ha _).2 (cor_bd q1 _).1 (cor_bd q1 _).2
  have eo:opp t a (b % 3)=opp t a b:=by unfold opp;rw[sideOf_mod]
  have m1:=hm _ (show(cor a (b % 3),cor (opp t a (b % 3)).1 ((opp t a (b % 3)).2+1))∈vp t a (b % 3)from by simp[vp])
  have m2:=hm _ (show(cor a (b % 3+1),cor (opp t a (b % 3)).1 (opp t a (b % 3)).2)∈vp t a (b % 3)from by simp[vp])
  dsimp only at m1 m2
  rw[eo,cor_mod]at m1
  rw[eo,cor_mod1]at m2
  rw[←vind_same m1, ←vind_same m2]
  omega
/-- All corners at the vertex of c have arcs. -/
def fineB (t:List (List Int)) (x:List Int) (c:Int) (m j:Nat):Prop:=SameV t (cor m (j+1)) c→2≤tw t x m j
def fineP (t:List (List Int)) (x:List Int) (c:Int):Prop:=∀m,m<t.length→∀j,j<3→fineB t x c m j
structure Inv (t:List (List Int)) (n:Nat) (x:List Int):Prop where
 len:x.length=n
 cs:x.all co=true
 ge:∀i,i<t.length→∀j,j<3→0≤tw t x i j
theorem tw_mod (t:List (List Int)) (x:List Int) (i j:Nat):tw t x i (j % 3)=tw t x i j:=by
 unfold tw
 rw[sideOf_mod, ←sideOf_mod t i (j % 3+1), ←sideOf_mod t i (j % 3+2), ←sideOf_mod t i (j+1), ←sideOf_mod t i (j+2),show(j % 3+1) % 3=(j+1) % 3 by omega,show(j % 3+2) % 3=(j+2) % 3 by omega]
theorem Inv.step {t:List (List Int)}{n:Nat} (ok:TriOk t (n:Int)){x:List Int} (h:Inv t n x){k0 i0:Nat} (hk:k0<t.length) (hi:i0<3) (hf:fineP t x (cor k0 (i0+1))):
  Inv t n (subL x (aroundR t n (cor k0 (i0+1))))∧sumP (subL x (aroundR t n (cor k0 (i0+1))))<sumP x:=by
 have hl:x.length=(aroundR t n (cor k0 (i0+1))).length:=by rw[aroundR_len,h.len]
 have hsl:=subL_len x _ hl
 have n9:=ok.n9
 have hcr:∀a b,a<t.length→crd (subL x (aroundR t n (cor k0 (i0+1)))) (sideOf t a b)=crd x (sideOf t a b) - (vind t (cor k0 (i0+1)) (cor a b)+vind t (cor k0 (i0+1)) (cor a (b+1))):=by
  intro a b ha
  have hs:=sideOf_in ok ha b
  obtain⟨e,he⟩:∃e:Nat,((sideOf t a b).natAbs:Int)=(e:Int)+1:=⟨(sideOf t a b).natAbs - 1,by omega⟩
  have hxl:=h.len
  have h1:e<x.length:=by omega
  have h2:e<(aroundR t n (cor k0 (i0+1))).length:=by rw[←hl];exact h1
  have h3:e<(subL x (aroundR t n (cor k0 (i0+1)))).length:=by rw[hsl];exact h1
  rw[←around_side ok _ ha b,crd_nat he h1,crd_nat he h2,crd_nat he h3]
  exact subL_at x _ e hl h1 h2 h3
 have c3:∀a b,cor a (b+3)=cor a b:=fun a b=>by unfold cor;rw[Nat.add_mod_right]
 have htw:∀a b,a<t.length→tw t (subL x (aroundR t n (cor k0 (i0+1)))) a b=tw t x a b - 2*vind t (cor k0 (i0+1)) (cor a (b+1)):=by
  intro a b ha
  unfold tw
  rw[hcr a b ha,hcr a (b+1) ha,hcr a (b+2) ha,show b+2+1=b+3 from rfl,show b+1+1=b+2 from rfl,c3]
  omega
 have hnn:∀a b,a<t.length→b<3→0≤tw t (subL x (aroundR t n (cor k0 (i0+1)))) a b:=by
  intro a b ha hb
  rw[htw a b ha]
  have:=h.ge a ha b hb
  have vb:=vind_bd t (cor k0 (i0+1)) (cor a (b+1))
  by_cases p:SameV t (cor a (b+1)) (cor k0 (i0+1))
  ·have:=hf a ha b hb p
   omega
  ·have:vind t (cor k0 (i0+1)) (cor a (b+1))=0:=by unfold vind;rw[ig p]
   omega
 have hpos:∀a∈subL x (aroundR t n (cor k0 (i0+1))),0≤a∧a≤200:=by
  intro v hv
  obtain⟨e,he,rfl⟩:=List.mem_iff_getElem.1 hv
  have hxl:=h.len
  rw[hsl]at he
  obtain⟨o,a,ho,ha,s1,s2⟩:=ok.side (x:=(e:Int)+1) om om om
  have h1:=hnn o a ho ha
  have h2:=hnn o ((a+2) % 3) ho om
  rw[tw_mod]at h2
  have hc0:crd (subL x (aroundR t n (cor k0 (i0+1)))) (sideOf t o a)=(subL x (aroundR t n (cor k0 (i0+1))))[e]:=crd_nat (by rw[s2];omega) (by rw[hsl];exact he)
  have s3:sideOf t o (a+3)=sideOf t o a:=by unfold sideOf;rw[Nat.add_mod_right]
  have s4:sideOf t o (a+4)=sideOf t o (a+1):=by rw[←sideOf_mod, ←sideOf_mod t o (a+1),show(a+4) % 3=(a+1) % 3 by omega]
  unfold tw at h1 h2
  rw[show a+2+1=a+3 from rfl,show a+2+2=a+4 from rfl,s3,s4]at h2
  have h5:e<(aroundR t n (cor k0 (i0+1))).length:=by rw[←hl];exact he
  have h6:=subL_at x _ e hl he h5 (by rw[hsl];exact he)
  have h7:=co_at h.cs (List.getElem_mem he)
  have h8:0≤(aroundR t n (cor k0 (i0+1)))[e]:=by
   have q:=around_side ok (cor k0 (i0+1)) ho a
   rw[crd_nat (e:=e) (by rw[s2];omega) h5]at q
   have:=vind_bd t (cor k0 (i0+1)) (cor o a)
   have:=vind_bd t (cor k0 (i0+1)) (cor o (a+1))
   omega
  omega
 refine⟨⟨by rw[hsl];exact h.len,List.all_eq_true.2 (fun a ha=>decide_eq_true (hpos a ha)),fun a ha b hb=>hnn a b ha hb⟩,?_⟩
 rw[sumP_sub x _ hl]
 have h1:1≤sumP (aroundR t n (cor k0 (i0+1))):=by
  refine sumP_pos _ (fun v hv=>?_) ?_
  ·unfold aroundR at hv
   obtain⟨q,_,rfl⟩:=List.mem_map.1 hv
   exact(valE_bd t _ _).1
  ·have hs:=sideOf_in ok hk i0
   obtain⟨e,he⟩:∃e:Nat,((sideOf t k0 i0).natAbs:Int)=(e:Int)+1:=⟨(sideOf t k0 i0).natAbs - 1,by omega⟩
   have hel:e<(aroundR t n (cor k0 (i0+1))).length:=by rw[aroundR_len];omega
   have q:=around_side ok (cor k0 (i0+1)) hk i0
   rw[crd_nat he hel]at q
   have v0:=vind_bd t (cor k0 (i0+1)) (cor k0 i0)
   have v1:vind t (cor k0 (i0+1)) (cor k0 (i0+1))=1:=by
    unfold vind
    rw[ip (.refl (cor_bd hk (i0+1)).1 (cor_bd hk (i0+1)).2)]
   exact⟨_,List.getElem_mem hel,by omega⟩
 omega
theorem arcs_any {t:List (List Int)}{n:Nat} (ok:TriOk t (n:Int)){x:List Int} (h:Inv t n x){i:Nat} (hi:i<t.length) (j:Nat) (hj:j<3):jZ.f t x (i:Int) (j:Int)=some (tw t x i j / 2):=by
 have hx:(x.length:Int)=(n:Int):=by have:=h.len;omega
 have hb:=h.ge i hi j hj
 have A:=crd_bd h.cs (sideOf t i j)
 have B:=crd_bd h.cs (sideOf t i (j+1))
 have C:=crd_bd h.cs (sideOf t i (j+2))
 have e1:=arcsAt_eq ok hx hi j om
 have e2:=arcsAt_eq ok hx hi (j+1) om
 have e3:=arcsAt_eq ok hx hi (j+2) om
 unfold jZ.f
 rw[e1,Option.bind_some,show wrap64 ((j:Int)+1)=((j+1:Nat):Int)from w_n om om,e2,Option.bind_some,show wrap64 ((j:Int)+2)=((j+2:Nat):Int)from w_n om om,e3,Option.bind_some]
 unfold tw at hb ⊢
 rw[w_id (a:=crd x (sideOf t i j)+crd x (sideOf t i (j+1))) om om,w_id (a:=crd x (sideOf t i j)+crd x (sideOf t i (j+1)) - crd x (sideOf t i (j+2))) om om,Int.tdiv_eq_ediv_of_nonneg om,w_id om om]
section
open Classical
theorem isAr_l1 {t:List (List Int)}{n:Nat} (ok:TriOk t (n:Int)){up:List Int} (S:UF.Stands up (3*(t.length:Int)) (allG (vp t) t.length 0)){x:List Int} (h:Inv t n x){c:Int} (hc:0≤c∧c<3*(t.length:Int)){i:Nat} (hi:i<t.length):∀(d j k:Nat),j+d=3→100+d<k→
  fY.l1 k t x up c (i:Int) (j:Int)=if(∀q,j≤q→q<3→fineB t x c i q)then fY.l0 (k - d - 1) t x up c ((i+1:Nat):Int)else some false:=by
 have hs:=ok.short
 have hlen:=S.len
 intro d
 induction d with
 |zero=>
  intro j k hj hk
  obtain⟨k,rfl⟩:=sk k
  simp only[fY.l1]
  rw[ig om,w_n (m:=i+1) om om,ip (fun q h1 h2=>absurd h1 om)]
  rfl
 |succ d ih=>
  intro j k hj hk
  obtain⟨k,rfl⟩:=sk k
  have ihh:=ih (j+1) k om om
  have hk':k+1 - (d+1) - 1=k - d - 1:=by omega
  have x1:(j:Int)<3:=by omega
  have x3:j<3:=by omega
  have cb2:=cor_bd hi (j+1)
  have f2:=top_f S.ok cb2.1 (m:=k) om om
  have f3:=top_f S.ok hc.1 (m:=k) om om
  have ar:=arcs_any ok h hi j x3
  have sm:=S.same_iff cb2 hc
  have split:(∀q,j≤q→q<3→fineB t x c i q)↔fineB t x c i j∧∀q,j+1≤q→q<3→fineB t x c i q:=by
   constructor
   ·exact fun h=>⟨h j (Nat.le_refl _) x3,fun q h1 h2=>h q om h2⟩
   ·rintro ⟨h1,h2⟩ q h3 h4
    by_cases e:q=j
    ·subst e;exact h1
    ·exact h2 q om h4
  have hb:=h.ge i hi j x3
  simp only[fY.l1]
  rw[ip x1,show wrap64 (3*(i:Int))=((3*i:Nat):Int)from w_n om om,show wrap64 ((j:Int)+1)=((j+1:Nat):Int)from w_n om om,tmod3,
   show wrap64 (((3*i:Nat):Int)+((((j+1) % 3:Nat)):Int))=cor i (j+1)from by rw[w_n (m:=3*i+(j+1) % 3) om om];unfold cor;omega,f2,Option.bind_some,f3,Option.bind_some,hk']
  by_cases p:SameV t (cor i (j+1)) c
  ·rw[ip (sm.2 p),ar,Option.bind_some]
   by_cases b:tw t x i j / 2<1
   ·rw[ip b,ig (fun hq=>by have:=(split.1 hq).1 p;omega)]
   ·rw[ig b,ihh]
    have hf:fineB t x c i j:=fun _=>by omega
    by_cases r:∀q,j+1≤q→q<3→fineB t x c i q
    ·rw[ip r,ip (split.2 ⟨hf,r⟩)]
    ·rw[ig r,ig (fun hq=>r (split.1 hq).2)]
  ·rw[ig (fun e=>p (sm.1 e)),ihh]
   have hf:fineB t x c i j:=fun e=>absurd e p
   by_cases r:∀q,j+1≤q→q<3→fineB t x c i q
   ·rw[ip r,ip (split.2 ⟨hf,r⟩)]
   ·rw[ig r,ig (fun hq=>r (split.1 hq).2)]
theorem isAr_l0 {t:List (List Int)}{n:Nat} (ok:TriOk t (n:Int)){up:List Int} (S:UF.Stands up (3*(t.length:Int)) (allG (vp t) t.length 0)){x:List Int} (h:Inv t n x){c:Int} (hc:0≤c∧c<3*(t.length:Int)):∀(d i k:Nat),i+d=t.length→200+5*d<k→
  fY.l0 k t x up c (i:Int)=some (decide (∀m,i≤m→m<t.length→∀j,j<3→fineB t x c m j)):=by
 intro d
 induction d with
 |zero=>
  intro i k hi hk
  obtain⟨k,rfl⟩:=sk k
  simp only[fY.l0]
  rw[ig om,decide_eq_true (fun m h1 h2=>absurd h1 om)]
 |succ d ih=>
  intro i k hi hk
  obtain⟨k,rfl⟩:=sk k
  have hi':i<t.length:=by omega
  have e1:=isAr_l1 ok S h hc hi' 3 0 k om om
  have e2:=ih (i+1) (k - 3 - 1) om om
  have e1':fY.l1 k t x up c (i:Int) 0=if(∀q,0≤q→q<3→fineB t x c i q)then fY.l0 (k - 3 - 1) t x up c ((i+1:Nat):Int)else some false:=e1
  simp only[fY.l0]
  rw[ip om,e1',e2]
  by_cases r:∀q,0≤q→q<3→fineB t x c i q
  ·rw[ip r]
   congr 1
   apply decide_eq_decide.2
   constructor
   ·intro hh m h1 h2 j hj
    by_cases e:m=i
    ·subst e;exact r j (Nat.zero_le _) hj
    ·exact hh m om h2 j hj
   ·exact fun hh m h1 h2=>hh m om h2
  ·rw[ig r,decide_eq_false (fun hh=>r (fun q _ hq=>hh i (Nat.le_refl _) hi' q hq))]
theorem isAr_f {t:List (List Int)}{n:Nat} (ok:TriOk t (n:Int)){up:List Int} (S:UF.Stands up (3*(t.length:Int)) (allG (vp t) t.length 0)){x:List Int} (h:Inv t n x){c:Int} (hc:0≤c∧c<3*(t.length:Int)) (k:Nat) (hk:1000<k):fY.l0 k t x up c 0=some (decide (fineP t x c)):=by
 have hs:=ok.short
 have:=isAr_l0 ok S h hc t.length 0 k om om
 refine Eq.trans this ?_
 congr 1
 exact decide_eq_decide.2 ⟨fun hh m h2=>hh m (Nat.zero_le _) h2,fun hh m _ h2=>hh m h2⟩
/-- The corner behind the c-th side. -/
def cr (c:Nat):Int:=cor (c / 3) (c % 3+1)
noncomputable def firstF (t:List (List Int)) (x:List Int):Nat→Nat→Option Nat
 |0,_=>none
 |d+1,c=>if fineP t x (cr c)then some c else firstF t x d (c+1)
theorem firstF_some {t:List (List Int)}{x:List Int}:∀(d c r:Nat),firstF t x d c=some r→c≤r∧r<c+d∧fineP t x (cr r)
 |0,c,r,h=>by simp[firstF]at h
 |d+1,c,r,h=>by
  rw[firstF]at h
  by_cases p:fineP t x (cr c)
  ·rw[ip p]at h
   obtain rfl:=Option.some.inj h
   exact⟨Nat.le_refl _,by omega,p⟩
  ·rw[ig p]at h
   have:=firstF_some d (c+1) r h
   exact⟨by omega,by omega,this.2.2⟩
theorem loose_l3 {t:List (List Int)}{n:Nat} (ok:TriOk t (n:Int)){u2:List Int} (S:UF.Stands u2 (3*(t.length:Int)+2) (allG (ep t) t.length 0)){x:List Int} (h:Inv t n x){a b:Nat} (ha:a<t.length) (hb:b<3){m:Nat} (hm:m<t.length):∀(d j k:Nat) (fl:Bool),j+d=3→100+d<k→
  fK.l3 k t x u2 (a:Int) (b:Int) (UF.rt u2 (En (sideOf t a b))) fl (m:Int) (j:Int)=fK.l2 (k - d - 1) t x u2 (a:Int) (b:Int) (UF.rt u2 (En (sideOf t a b))) (fl && decide (∀q,j≤q→q<3→fineB t x (cor a (b+1)) m q)) ((m+1:Nat):Int):=by
 have hs:=ok.short
 have hn:=S.len
 have n9:=ok.n9
 have h3:=ok.three hm
 have hl:((rd_L1 t (m:Int)).length:Int)=3:=by rw[rdL_nat t m hm,h3];rfl
 have hx:(x.length:Int)=(n:Int):=by have:=h.len;omega
 have epm:∀a b:Nat,a<t.length→b<3→UF.Cls (3*(t.length:Int)+2) (allG (ep t) t.length 0) (En (sideOf t a b)) (fm t (cor a (b+1))):=by
  intro a b ha hb
  rw[fm_cor]
  exact .pair ((mem_allG _ _).2 ⟨a,by omega,by omega,b,hb,by simp[ep]⟩) (En_bd ok ha b).1 (En_bd ok ha b).2 (Bg_bd ok ha (b+1)).1 (Bg_bd ok ha (b+1)).2
 intro d
 induction d with
 |zero=>
  intro j k fl hj hk
  obtain⟨k,rfl⟩:=sk k
  simp only[fK.l3]
  rw[ig om,w_n (m:=m+1) om om,decide_eq_true (fun q h1 h2=>absurd h1 om),Bool.and_true]
  rfl
 |succ d ih=>
  intro j k fl hj hk
  obtain⟨k,rfl⟩:=sk k
  have ih1:=ih (j+1) k fl om om
  have ih2:=ih (j+1) k false om om
  have hk':k+1 - (d+1) - 1=k - d - 1:=by omega
  have x1:(j:Int)<3:=by omega
  have x2:(0:Int)≤(m:Int):=by omega
  have x3:(m:Int)<(t.length:Int):=by omega
  have x4:(0:Int)≤(j:Int):=by omega
  have x5:j<3:=by omega
  have hs1:=sideOf_in ok hm j
  have bE:=En_bd ok hm j
  have bv:=En_bd ok ha b
  have f1:=find3_f S.ok bE.1 (m:=k) om om
  have y1:=l3Abs_eq (a:=sideOf t m j) om om
  have sm:UF.rt u2 (En (sideOf t m j))=UF.rt u2 (En (sideOf t a b))↔SameV t (cor m (j+1)) (cor a (b+1)):=by
   rw[S.same_iff bE bv]
   unfold SameV
   rw[cls_fm ok (cor_bd hm (j+1)) (cor_bd ha (b+1))]
   exact⟨fun h=>(epm m j hm x5).symm.trans (h.trans (epm a b ha hb)),fun h=>(epm m j hm x5).trans (h.trans (epm a b ha hb).symm)⟩
  have tq:=twice_tw ok hx h.cs hm j x5
  have split:(∀q,j≤q→q<3→fineB t x (cor a (b+1)) m q)↔fineB t x (cor a (b+1)) m j∧∀q,j+1≤q→q<3→fineB t x (cor a (b+1)) m q:=by
   constructor
   ·exact fun h=>⟨h j (Nat.le_refl _) x5,fun q h1 h2=>h q om h2⟩
   ·rintro ⟨h1,h2⟩ q h3 h4
    by_cases e:q=j
    ·subst e;exact h1
    ·exact h2 q om h4
  have w1:wrap64 ((j:Int)+1)=((j+1:Nat):Int):=w_n om om
  have v1:wrap64 (wrap64 (2*((sideOf t m j).natAbs:Int))+(if decide (sideOf t m j>0)=true then 1 else 0))=En (sideOf t m j):=by
   clear w1
   rw[w_id (a:=2*((sideOf t m j).natAbs:Int)) om om]
   unfold En
   by_cases c:sideOf t m j>0
   ·rw[ip (decide_eq_true c),ip c,w_id om om]
   ·rw[ig (by simpa using c),ig c,w_id om om]
  simp only[fK.l3]
  rw[ip x1,ip x2,ip x3,ip x4,hl,ip x1,rd_at ok hm x5,y1,Option.bind_some,bit_eq,Option.bind_some,v1,f1,Option.bind_some,w1,hk']
  by_cases p:SameV t (cor m (j+1)) (cor a (b+1))
  ·rw[ip (sm.2 p),tq,Option.bind_some]
   by_cases b2:tw t x m j<2
   ·rw[ip b2,ih2,Bool.false_and,decide_eq_false (fun hq=>by have:=(split.1 hq).1 p;omega),Bool.and_false]
   ·rw[ig b2,ih1]
    have hf:fineB t x (cor a (b+1)) m j:=fun _=>by omega
    congr 2
    exact decide_eq_decide.2 ⟨fun r=>split.2 ⟨hf,r⟩,fun r=>(split.1 r).2⟩
  ·rw[ig (fun e=>p (sm.1 e)),ih1]
   have hf:fineB t x (cor a (b+1)) m j:=fun e=>absurd e p
   congr 2
   exact decide_eq_decide.2 ⟨fun r=>split.2 ⟨hf,r⟩,fun r=>(split.1 r).2⟩
theorem loose_l2 {t:List (List Int)}{n:Nat} (ok:TriOk t (n:Int)){u2:List Int} (S:UF.Stands u2 (3*(t.length:Int)+2) (allG (ep t) t.length 0)){x:List Int} (h:Inv t n x){a b:Nat} (ha:a<t.length) (hb:b<3):∀(d m k:Nat) (fl:Bool),m+d=t.length→200+5*d<k→
  fK.l2 k t x u2 (a:Int) (b:Int) (UF.rt u2 (En (sideOf t a b))) fl (m:Int)=if(fl && decide (∀q,m≤q→q<t.length→∀j,j<3→fineB t x (cor a (b+1)) q j))=true then some ((a:Int),(b:Int))else fK.l1 (k - 5*d - 1) t x u2 (a:Int) ((b+1:Nat):Int):=by
 intro d
 induction d with
 |zero=>
  intro m k fl hm hk
  obtain⟨k,rfl⟩:=sk k
  simp only[fK.l2]
  rw[ig om,decide_eq_true (fun q h1 h2=>absurd h1 om),Bool.and_true,w_n (m:=b+1) om om]
  rfl
 |succ d ih=>
  intro m k fl hm hk
  obtain⟨k,rfl⟩:=sk k
  have hm':m<t.length:=by omega
  have e1:=loose_l3 ok S h ha hb hm' 3 0 k fl om om
  have e2:=ih (m+1) (k - 3 - 1) (fl && decide (∀q,0≤q→q<3→fineB t x (cor a (b+1)) m q)) om om
  have hk':k - 3 - 1 - 5*d - 1=k+1 - 5*(d+1) - 1:=by omega
  have e1':fK.l3 k t x u2 (a:Int) (b:Int) (UF.rt u2 (En (sideOf t a b))) fl (m:Int) 0=_:=e1
  simp only[fK.l2]
  rw[ip om,e1',e2,hk',Bool.and_assoc]
  have he:(decide (∀q,0≤q→q<3→fineB t x (cor a (b+1)) m q) && decide (∀q,m+1≤q→q<t.length→∀j,j<3→fineB t x (cor a (b+1)) q j))=decide (∀q,m≤q→q<t.length→∀j,j<3→fineB t x (cor a (b+1)) q j):=by
   rw[←Bool.decide_and]
   apply decide_eq_decide.2
   constructor
   ·rintro ⟨h1,h2⟩ q h3 h4 j hj
    by_cases e:q=m
    ·subst e;exact h1 j (Nat.zero_le _) hj
    ·exact h2 q om h4 j hj
   ·exact fun hh=>⟨fun q _ hq=>hh m (Nat.le_refl _) hm' q hq,fun q h1 h2=>hh q om h2⟩
  rw[he]
def lres:Option Nat→Int × Int
 |none=>(-1, -1)
 |some c=>(((c / 3:Nat):Int),((c % 3:Nat):Int))
theorem loose_l1 {t:List (List Int)}{n:Nat} (ok:TriOk t (n:Int)){u2:List Int} (S:UF.Stands u2 (3*(t.length:Int)+2) (allG (ep t) t.length 0)){x:List Int} (h:Inv t n x):∀(d c k:Nat),c+d=3*t.length→0<d→1000+50*d<k→
  fK.l1 k t x u2 ((c / 3:Nat):Int) ((c % 3:Nat):Int)=some (lres (firstF t x d c)):=by
 have hs:=ok.short
 have hn:=S.len
 have n9:=ok.n9
 intro d
 induction d with
 |zero=>intro c k _ h0;exact absurd h0 om
 |succ d ih=>
  intro c k hc _ hk
  obtain⟨k,rfl⟩:=sk k
  have ha:c / 3<t.length:=by omega
  have hb:c % 3<3:=by omega
  have h3:=ok.three ha
  have hl:((rd_L1 t ((c / 3:Nat):Int)).length:Int)=3:=by rw[rdL_nat t _ ha,h3];rfl
  have hs1:=sideOf_in ok ha (c % 3)
  have bE:=En_bd ok ha (c % 3)
  have f1:=find3_f S.ok bE.1 (m:=k) om om
  have y1:=l3Abs_eq (a:=sideOf t (c / 3) (c % 3)) om om
  have x1:((c % 3:Nat):Int)<3:=by omega
  have x2:(0:Int)≤((c / 3:Nat):Int):=by omega
  have x3:((c / 3:Nat):Int)<(t.length:Int):=by omega
  have x4:(0:Int)≤((c % 3:Nat):Int):=by omega
  have v1:wrap64 (wrap64 (2*((sideOf t (c / 3) (c % 3)).natAbs:Int))+(if decide (sideOf t (c / 3) (c % 3)>0)=true then 1 else 0))=En (sideOf t (c / 3) (c % 3)):=by
   rw[w_id (a:=2*((sideOf t (c / 3) (c % 3)).natAbs:Int)) om om]
   unfold En
   by_cases c':sideOf t (c / 3) (c % 3)>0
   ·rw[ip (decide_eq_true c'),ip c',w_id om om]
   ·rw[ig (by simpa using c'),ig c',w_id om om]
  have e2:=loose_l2 ok S h ha hb t.length 0 k true om om
  have e2':fK.l2 k t x u2 ((c / 3:Nat):Int) ((c % 3:Nat):Int) (UF.rt u2 (En (sideOf t (c / 3) (c % 3)))) true 0=_:=e2
  have nxt:¬fineP t x (cr c)→fK.l1 (k - 5*t.length - 1) t x u2 ((c / 3:Nat):Int) ((c % 3+1:Nat):Int)=some (lres (firstF t x d (c+1))):=by
   intro _
   by_cases r:c % 3+1<3
   ·have e3:=ih (c+1) (k - 5*t.length - 1) om om om
    rw[show(c+1) / 3=c / 3 by omega,show(c+1) % 3=c % 3+1 by omega]at e3
    exact e3
   ·obtain⟨k2,hk2⟩:∃m,k - 5*t.length - 1=m+2:=⟨k - 5*t.length - 3,by omega⟩
    rw[hk2,show k2+2=(k2+1)+1 from rfl]
    conv=>lhs;unfold fK.l1
    rw[ig om,show wrap64 (((c / 3:Nat):Int)+1)=((c / 3+1:Nat):Int)from w_n om om]
    conv=>lhs;unfold fK.l0
    by_cases z:d=0
    ·subst z
     rw[ig om]
     rfl
    ·rw[ip om]
     have e3:=ih (c+1) k2 om om om
     rw[show(c+1) / 3=c / 3+1 by omega,show(c+1) % 3=0 by omega]at e3
     exact e3
  conv=>lhs;unfold fK.l1
  rw[ip x1,ip x2,ip x3,ip x4,hl,ip x1,rd_at ok ha hb,y1,Option.bind_some,bit_eq,Option.bind_some,v1,f1,Option.bind_some,e2',Bool.true_and,firstF]
  by_cases p:fineP t x (cr c)
  ·have hh:∀(q:Nat),0≤q→q<t.length→∀(j:Nat),j<3→fineB t x (cor (c / 3) (c % 3+1)) q j:=fun q _ hq=>p q hq
   rw[ip (decide_eq_true hh),ip p]
   rfl
  ·have hh:¬(∀(q:Nat),0≤q→q<t.length→∀(j:Nat),j<3→fineB t x (cor (c / 3) (c % 3+1)) q j):=fun hh=>p (fun q hq=>hh q (Nat.zero_le _) hq)
   rw[ig (by rw[decide_eq_true_iff];exact hh),ig p]
   exact nxt p
theorem loose_f {t:List (List Int)}{n:Nat} (ok:TriOk t (n:Int)){x:List Int} (h:Inv t n x) (k:Nat) (hk:3000<k):fK.f k t x=some (lres (firstF t x (3*t.length) 0)):=by
 obtain⟨u2,e,S⟩:=ends_f ok k om
 have hs:=ok.short
 obtain⟨k,rfl⟩:=sk k
 unfold fK.f
 rw[e,Option.bind_some]
 conv=>lhs;unfold fK.l0
 rw[ip om]
 exact loose_l1 ok S h (3*t.length) 0 k om om om
end
def mixL (x y:List Int) (e:Nat):List Int:=(subL x y).take e ++ x.drop e
theorem mixL_len {x y:List Int} (h:x.length=y.length){e:Nat} (he:e≤x.length):(mixL x y e).length=x.length:=by
 unfold mixL
 rw[List.length_append,List.length_take,List.length_drop,subL_len x y h]
 omega
theorem mixL_at {x y:List Int} (h:x.length=y.length){e:Nat} (he:e<x.length) (h2:e<(mixL x y e).length):(mixL x y e)[e]=x[e]:=by
 have hl:((subL x y).take e).length=e:=by rw[List.length_take,subL_len x y h];omega
 have q:(mixL x y e)[e]?= x[e]?:=by
  unfold mixL
  rw[List.getElem?_append_right om,hl,Nat.sub_self,List.getElem?_drop,Nat.add_zero]
 rw[List.getElem?_eq_getElem h2,List.getElem?_eq_getElem he]at q
 exact Option.some.inj q
theorem mixL_set {x y:List Int} (h:x.length=y.length){e:Nat} (he:e<x.length) (h2:e<y.length):(mixL x y e).set e (x[e] - y[e])=mixL x y (e+1):=by
 have hl:((subL x y).take e).length=e:=by rw[List.length_take,subL_len x y h];omega
 have hs:e<(subL x y).length:=by rw[subL_len x y h];exact he
 unfold mixL
 rw[List.set_append,ig om,hl,Nat.sub_self,List.drop_eq_getElem_cons he,List.set_cons_zero,List.take_succ_eq_append_getElem hs,List.append_assoc,subL_at x y e h he h2 hs]
 rfl
theorem mixL_end {x y:List Int} (h:x.length=y.length):mixL x y x.length=subL x y:=by
 unfold mixL
 rw[List.drop_length,List.append_nil,List.take_of_length_le (by rw[subL_len x y h];exact Nat.le_refl _)]
theorem qA (t:List (List Int)) (x y:List Int) (h:x.length=y.length) (hx:x.length≤100) (hb:∀(i:Nat) (h1:i<x.length) (h2:i<y.length), -1000≤x[i] - y[i]∧x[i] - y[i]≤1000):∀(d e k:Nat),e+d=x.length→d<k→fJ.l1 k t (mixL x y e) y (e:Int)=fJ.l0 (k - d - 1) t (subL x y):=by
 intro d
 induction d with
 |zero=>
  intro e k he hk
  obtain⟨k,rfl⟩:=sk k
  simp only[fJ.l1]
  rw[mixL_len h om,ig om,show e=x.length by omega,mixL_end h]
  rfl
 |succ d ih=>
  intro e k he hk
  obtain⟨k,rfl⟩:=sk k
  have h1:e<x.length:=by omega
  have h2:e<y.length:=by omega
  have h3:e<(mixL x y e).length:=by rw[mixL_len h om];exact h1
  have hw:=hb e h1 h2
  simp only[fJ.l1]
  rw[mixL_len h om,ip om,ip om,ip om,rd_nat _ e h3,rd_nat y e h2,mixL_at h h1 h3,w_id (a:=x[e] - y[e]) om om,Int.toNat_natCast,mixL_set h h1 h2,show wrap64 ((e:Int)+1)=((e+1:Nat):Int)from w_n om om,ih (e+1) k om om,show k+1 - (d+1) - 1=k - d - 1 by omega]
theorem pX (t:List (List Int)) (up x y:List Int) (c:Nat) (hc:c≤1000) (h:x.length=y.length) (hx:x.length≤100) (hb:∀(i:Nat) (h1:i<x.length) (h2:i<y.length), -1000≤x[i] - y[i]∧x[i] - y[i]≤1000):∀(d e k:Nat),e+d=x.length→d<k→fH.l2 k t up (mixL x y e) (c:Int) y (e:Int)=fH.l1 (k - d - 1) t up (subL x y) ((c+1:Nat):Int) true:=by
 intro d
 induction d with
 |zero=>
  intro e k he hk
  obtain⟨k,rfl⟩:=sk k
  simp only[fH.l2]
  rw[ig om,show e=x.length by omega,mixL_end h,w_n (m:=c+1) om om]
  rfl
 |succ d ih=>
  intro e k he hk
  obtain⟨k,rfl⟩:=sk k
  have h1:e<x.length:=by omega
  have h2:e<y.length:=by omega
  have h3:e<(mixL x y e).length:=by rw[mixL_len h om];exact h1
  have hw:=hb e h1 h2
  simp only[fH.l2]
  rw[mixL_len h om,ip om,ip om,ip om,rd_nat _ e h3,rd_nat y e h2,mixL_at h h1 h3,w_id (a:=x[e] - y[e]) om om,Int.toNat_natCast,mixL_set h h1 h2,show wrap64 ((e:Int)+1)=((e+1:Nat):Int)from w_n om om,ih (e+1) k om om,show k+1 - (d+1) - 1=k - d - 1 by omega]
theorem cornerOf_cr (c:Nat) (hc:c≤1000):cornerOf (c:Int)=cr c:=by
 unfold cornerOf cr cor
 have e1:wrap64 (Int.tdiv (c:Int) 3)=((c / 3:Nat):Int):=w_n (by rw[Int.tdiv_eq_ediv_of_nonneg om];omega) om
 have e2:wrap64 (((c / 3:Nat):Int)*3)=((c / 3*3:Nat):Int):=w_n om om
 have e3:wrap64 ((c:Int)+1)=((c+1:Nat):Int):=w_n om om
 rw[e1,e2,e3,tmod3,tmod3]
 by_cases p:(((c % 3:Nat)):Int)=2
 ·rw[ip p]
  clear e1 e2 e3
  omega
 ·rw[ig p,w_n (m:=c / 3*3+(c+1) % 3) (by clear e1 e2 e3;omega) (by clear e1 e2 e3;omega)]
  clear e1 e2 e3
  omega
open Classical in
theorem mI {t:List (List Int)}{n:Nat} (ok:TriOk t (n:Int)) (ht:t.length≤1048576) (hr:∀r∈t,r.length≤1048576){up:List Int} (S:UF.Stands up (3*(t.length:Int)) (allG (vp t) t.length 0)){x:List Int} (h:Inv t n x):∀(d c k:Nat),c+d=3*t.length→3000400+d<k→
  fH.l1 k t up x (c:Int) false=match firstF t x d c with
   |none=>fH.l0 (k - d - 1) t up x false
   |some r=>fH.l2 (k - (r - c) - 1) t up x (r:Int) (aroundR t n (cr r)) 0:=by
 have hs:=ok.short
 have hL:wrap64 (3*(t.length:Int))=((3*t.length:Nat):Int):=w_n om om
 intro d
 induction d with
 |zero=>
  intro c k hc hk
  obtain⟨k,rfl⟩:=sk k
  have x1:¬((c:Int)<((3*t.length:Nat):Int)):=by clear hL;omega
  simp only[fH.l1,firstF]
  rw[hL,ig x1]
  rfl
 |succ d ih=>
  intro c k hc hk
  obtain⟨k,rfl⟩:=sk k
  have x1:(c:Int)<((3*t.length:Nat):Int):=by clear hL;omega
  have ha:c / 3<t.length:=by clear hL;omega
  have hcr:0≤cr c∧cr c<3*(t.length:Int):=cor_bd ha (c % 3+1)
  have iA:=isAr_f ok S h hcr k (by clear hL;omega)
  have aA:=pG ok ht hr hcr k (by clear hL;omega)
  have cO:=cornerOf_cr c (by clear hL;omega)
  have ihh:=ih (c+1) k (by clear hL;omega) (by clear hL;omega)
  have hw:wrap64 ((c:Int)+1)=((c+1:Nat):Int):=w_n (by clear hL;omega) (by clear hL;omega)
  have y1:k+1 - (d+1) - 1=k - d - 1:=by clear hL hw;omega
  simp only[fH.l1]
  rw[hL,ip x1,ig (by decide),cO,iA,Option.bind_some,firstF]
  by_cases p:fineP t x (cr c)
  ·rw[ip (decide_eq_true p),aA,Option.bind_some,ip p]
   dsimp only
   rw[Nat.sub_self]
   rfl
  ·rw[ig (by rw[decide_eq_true_iff];exact p),ig p,hw,ihh]
   cases hF:firstF t x d (c+1) with
   |none=>
    dsimp only
    rw[y1]
   |some r=>
    have:=firstF_some d (c+1) r hF
    have y2:k - (r - (c+1)) - 1=k+1 - (r - c) - 1:=by clear hL hw;omega
    dsimp only
    rw[y2]
theorem plain_run {t:List (List Int)}{n:Nat} (ok:TriOk t (n:Int)) (ht:t.length≤1048576) (hr:∀r∈t,r.length≤1048576){up:List Int} (S:UF.Stands up (3*(t.length:Int)) (allG (vp t) t.length 0)):∀(s:Nat) (x:List Int),Inv t n x→sumP x≤s→∃r:List Int,Inv t n r∧(∀k,3001000+100*s<k→fJ.l0 k t x=some (r,true))∧(∀k,3001000+100*s<k→fH.l0 k t up x true=some (r,true)):=by
 have hs:=ok.short
 have n9:=ok.n9
 intro s
 induction s with
 |zero=>
  intro x h h0
  cases hF:firstF t x (3*t.length) 0 with
  |some r=>
   obtain⟨f1,f2,f3⟩:=firstF_some _ _ _ hF
   have st:=h.step ok (k0:=r / 3) (i0:=r % 3) om om f3
   have:=sumP_nn _ (fun a ha=>(co_at st.1.cs ha).1)
   omega
  |none=>
   refine⟨x,h,fun k hk=>?_,fun k hk=>?_⟩
   ·obtain⟨k,rfl⟩:=sk k
    simp only[fJ.l0]
    rw[loose_f ok h k om,Option.bind_some,hF]
    rfl
   ·obtain⟨k,rfl⟩:=sk k
    simp only[fH.l0]
    have e:=mI ok ht hr S h (3*t.length) 0 k om om
    rw[hF]at e
    have e':fH.l1 k t up x 0 false=fH.l0 (k - 3*t.length - 1) t up x false:=e
    rw[ip trivial,e']
    obtain⟨k2,hk2⟩:∃m,k - 3*t.length - 1=m+1:=⟨k - 3*t.length - 2,by omega⟩
    rw[hk2]
    simp only[fH.l0]
    rfl
 |succ s ih=>
  intro x h h0
  cases hF:firstF t x (3*t.length) 0 with
  |some r=>
   obtain⟨f1,f2,f3⟩:=firstF_some _ _ _ hF
   have hra:r / 3<t.length:=by omega
   have st:=h.step ok (k0:=r / 3) (i0:=r % 3) hra om f3
   have hl:x.length=(aroundR t n (cr r)).length:=by rw[aroundR_len];exact h.len
   have hxl:=h.len
   have hb:∀(i:Nat) (h1:i<x.length) (h2:i<(aroundR t n (cr r)).length), -1000≤x[i] - (aroundR t n (cr r))[i]∧x[i] - (aroundR t n (cr r))[i]≤1000:=by
    intro i h1 h2
    have a1:=co_at h.cs (List.getElem_mem h1)
    have a2:0≤(aroundR t n (cr r))[i]∧(aroundR t n (cr r))[i]≤2:=by
     have hm:=List.getElem_mem h2
     unfold aroundR at hm
     obtain⟨q,_,e⟩:=List.mem_map.1 hm
     have:=valE_bd t (cr r) ((q:Int)+1)
     unfold aroundR
     rw[←e]
     exact this
    omega
   obtain⟨rr,i1,i2,i3⟩:=ih _ st.1 om
   refine⟨rr,i1,fun k hk=>?_,fun k hk=>?_⟩
   ·obtain⟨k,rfl⟩:=sk k
    simp only[fJ.l0]
    have sa:=mJ ok (i:=r / 3) (j:=r % 3) hra om k om
    have e:=qA t x (aroundR t n (cr r)) hl om hb x.length 0 k om om
    have e':fJ.l1 k t x (aroundR t n (cr r)) 0=fJ.l0 (k - x.length - 1) t (subL x (aroundR t n (cr r))):=e
    have nn:¬((lres (some r)).1<0):=by
     show ¬(((r / 3:Nat):Int)<0)
     omega
    rw[loose_f ok h k om,Option.bind_some,hF,ig nn]
    show(gL.f k t ((r / 3:Nat):Int) ((r % 3:Nat):Int)).bind _=_
    rw[sa,Option.bind_some]
    exact e'.trans (i2 _ om)
   ·obtain⟨k,rfl⟩:=sk k
    simp only[fH.l0]
    have e:=mI ok ht hr S h (3*t.length) 0 k om om
    rw[hF]at e
    have e':fH.l1 k t up x 0 false=fH.l2 (k - (r - 0) - 1) t up x (r:Int) (aroundR t n (cr r)) 0:=e
    have g:=pX t up x (aroundR t n (cr r)) r om hl om hb x.length 0 (k - (r - 0) - 1) om om
    have g':fH.l2 (k - (r - 0) - 1) t up x (r:Int) (aroundR t n (cr r)) 0=fH.l1 (k - (r - 0) - 1 - x.length - 1) t up (subL x (aroundR t n (cr r))) ((r+1:Nat):Int) true:=g
    rw[ip trivial,e',g']
    obtain⟨k2,hk2⟩:∃m,k - (r - 0) - 1 - x.length - 1=m+1:=⟨k - (r - 0) - 1 - x.length - 2,by omega⟩
    have fin:=i3 k2 om
    rw[hk2]
    simp only[fH.l1]
    by_cases z:((r+1:Nat):Int)<wrap64 (3*(t.length:Int))
    ·rw[ip z,ip trivial]
     exact fin
    ·rw[ig z]
     exact fin
  |none=>
   obtain⟨rr,i1,i2,i3⟩:∃r:List Int,Inv t n r∧(∀k,3001000+100*(s+1)<k→fJ.l0 k t x=some (r,true))∧(∀k,3001000+100*(s+1)<k→fH.l0 k t up x true=some (r,true)):=by
    refine⟨x,h,fun k hk=>?_,fun k hk=>?_⟩
    ·obtain⟨k,rfl⟩:=sk k
     simp only[fJ.l0]
     rw[loose_f ok h k om,Option.bind_some,hF]
     rfl
    ·obtain⟨k,rfl⟩:=sk k
     simp only[fH.l0]
     have e:=mI ok ht hr S h (3*t.length) 0 k om om
     rw[hF]at e
     have e':fH.l1 k t up x 0 false=fH.l0 (k - 3*t.length - 1) t up x false:=e
     rw[ip trivial,e']
     obtain⟨k2,hk2⟩:∃m,k - 3*t.length - 1=m+1:=⟨k - 3*t.length - 2,by omega⟩
     rw[hk2]
     simp only[fH.l0]
     rfl
   exact⟨rr,i1,i2,i3⟩
/-- Both answer, and alike. -/
theorem plain_f (t:List (List Int)) (ht:t.length≤1048576) (hr:∀r∈t,r.length≤1048576) (x:List Int) (hx:x.length≤1048576):∃r b,(∀k,8000000<k→fJ.f k t x=some (r,b))∧(∀k,8000000<k→fH.f k t x=some (r,b))∧((b=true∧∃n:Nat,TriOk t (n:Int)∧Inv t n r∧isF t x=true)∨(b=false∧r=[]∧isF t x=false)):=by
 by_cases h:isF t x=true
 ·obtain⟨ok0,hxl,hc,hf⟩:=isF_ok ht h
  have n3:=ok0.n3
  obtain⟨n,hn⟩:∃n:Nat,edges t=(n:Int):=⟨(edges t).toNat,by omega⟩
  rw[hn]at ok0 hxl
  have n9:=ok0.n9
  have inv:Inv t n x:=⟨by omega,hc,fun i hi j hj=>(tw_even ok0 hc hi (hf _ (List.getElem_mem hi)) j hj).1⟩
  obtain⟨up,e1,S⟩:=vert_f ok0 ht hr 3000301 om
  obtain⟨r,i1,i2,i3⟩:=plain_run ok0 ht hr S 2000 x inv (by
   have:=sumP_le x (fun a ha=>(co_at hc ha).2)
   omega)
  refine⟨r,true,fun k hk=>?_,fun k hk=>?_, .inl ⟨rfl,n,ok0,i1,h⟩⟩
  ·unfold fJ.f
   rw[mO t ht x k om,Option.bind_some,ip h,Option.bind_some,ip (by simp;omega),List.nil_append]
   exact i2 k om
  ·unfold fH.f
   obtain⟨up2,e2,S2⟩:=vert_f ok0 ht hr k om
   obtain⟨r2,_,j2,j3⟩:=plain_run ok0 ht hr S2 2000 x inv (by
    have:=sumP_le x (fun a ha=>(co_at hc ha).2)
    omega)
   have er:r=r2:=by
    have b:=j2 9000000 (by decide)
    rw[i2 9000000 (by decide)]at b
    injection b with b
    injection b
   subst er
   rw[pF t ht x k om,Option.bind_some,ip h,e2,Option.bind_some,copyOf_f x hx,Option.bind_some]
   exact j3 k om
 ·have h':isF t x=false:=by simpa using h
  refine⟨[],false,fun k hk=>?_,fun k hk=>?_, .inr ⟨rfl,rfl,h'⟩⟩
  ·unfold fJ.f
   rw[mO t ht x k om,Option.bind_some,ig h]
  ·unfold fH.f
   rw[pF t ht x k om,Option.bind_some,ig h]
/-- The row from its least number on. -/
def turnR (a b c:Int):List Int:=if c<(if b<a then b else a) then[c,a,b] else(if b<a then[b,c,a] else[a,b,c])
def mm (a b c:Int):Int:=if c<(if b<a then b else a)then 2 else(if b<a then 1 else 0)
theorem turnR_len (a b c:Int):(turnR a b c).length=3:=by
 unfold turnR
 by_cases h1:b<a
 ·rw[ip h1,ip h1]
  split <;> rfl
 ·rw[ig h1,ig h1]
  split <;> rfl
theorem turn_mm (a b c:Int):jI.f [a,b,c] (mm a b c)=some (turnR a b c):=by
 unfold mm turnR
 by_cases h1:b<a
 ·simp only[ip h1]
  split <;> rfl
 ·simp only[ig h1]
  split <;> rfl
theorem l2t0 (a b c:Int):gT.f [a,b,c] 0=some [a,b,c]:=rfl
theorem l2t1 (a b c:Int):gT.f [a,b,c] 1=some [b,c,a]:=rfl
theorem l2t2 (a b c:Int):gT.f [a,b,c] 2=some [c,a,b]:=rfl
theorem im_l1 {t out:List (List Int)}{i a b c:Int} (e:rd_L1 t i=[a,b,c]) (k:Nat):fA.l1 (k+4) t out i 0 0=fA.l2 k t out i (turnR a b c) (out.length:Int):=by
 have w1:wrap64 (0+1)=1:=(w_id (by decide) (by decide)).trans rfl
 have w2:wrap64 (1+1)=2:=(w_id (by decide) (by decide)).trans rfl
 have w3:wrap64 (2+1)=3:=(w_id (by decide) (by decide)).trans rfl
 have r0:rd [a,b,c] 0=a:=rfl
 have r1:rd [a,b,c] 1=b:=rfl
 have r2:rd [a,b,c] 2=c:=rfl
 have hl:(([a,b,c]:List Int).length:Int)=3:=rfl
 have s3:∀k m,fA.l1 (k+1) t out i m 3=(jI.f [a,b,c] m).bind fun own=>(if 0<own.length then fA.l2 k t out i own (out.length:Int)else none):=by
  intro k m
  simp only[fA.l1]
  rw[e,hl,ig (by decide)]
 have s0:∀k,fA.l1 (k+1) t out i 0 0=fA.l1 k t out i 0 1:=by
  intro k
  simp only[fA.l1]
  rw[e,hl,ip (by decide),ip (by decide),ip (by decide),ip (by decide),ig om,w1]
 have s1:∀k,fA.l1 (k+1) t out i 0 1=if b<a then fA.l1 k t out i 1 2 else fA.l1 k t out i 0 2:=by
  intro k
  simp only[fA.l1]
  rw[e,hl,ip (by decide),ip (by decide),ip (by decide),ip (by decide),w2,r0,r1]
 have s20:∀k,fA.l1 (k+1) t out i 0 2=if c<a then fA.l1 k t out i 2 3 else fA.l1 k t out i 0 3:=by
  intro k
  simp only[fA.l1]
  rw[e,hl,ip (by decide),ip (by decide),ip (by decide),ip (by decide),w3,r0,r2]
 have s21:∀k,fA.l1 (k+1) t out i 1 2=if c<b then fA.l1 k t out i 2 3 else fA.l1 k t out i 1 3:=by
  intro k
  simp only[fA.l1]
  rw[e,hl,ip (by decide),ip (by decide),ip (by decide),ip (by decide),w3,r1,r2]
 have f:∀m,m=mm a b c→fA.l1 (k+1) t out i m 3=fA.l2 k t out i (turnR a b c) (out.length:Int):=by
  intro m hm
  rw[s3,hm,turn_mm,Option.bind_some,ip (by rw[turnR_len];decide)]
 rw[s0,s1]
 by_cases h1:b<a
 ·rw[ip h1,s21]
  by_cases h2:c<b
  ·rw[ip h2];exact f _ (by simp[mm,h1,h2])
  ·rw[ig h2];exact f _ (by simp[mm,h1,h2])
 ·rw[ig h1,s20]
  by_cases h2:c<a
  ·rw[ip h2];exact f _ (by simp[mm,h1,h2])
  ·rw[ig h2];exact f _ (by simp[mm,h1,h2])
theorem sp_l1 {t out:List (List Int)}{i a b c:Int} (e:rd_L1 t i=[a,b,c]) (k:Nat):fD.l1 (k+3) t out i [a,b,c] 1=fD.l2 k t out i (turnR a b c) (out.length:Int):=by
 have w2:wrap64 (1+1)=2:=(w_id (by decide) (by decide)).trans rfl
 have w3:wrap64 (2+1)=3:=(w_id (by decide) (by decide)).trans rfl
 have r0:∀x y z:Int,rd [x,y,z] 0=x:=fun _ _ _=>rfl
 have r1:rd [a,b,c] 1=b:=rfl
 have r2:rd [a,b,c] 2=c:=rfl
 have hl:∀x y z:Int,(([x,y,z]:List Int).length:Int)=3:=fun _ _ _=>rfl
 have hn:∀x y z:Int,0<([x,y,z]:List Int).length:=fun _ _ _=>by simp
 have s3:∀k row,fD.l1 (k+1) t out i row 3=fD.l2 k t out i row (out.length:Int):=by
  intro k m
  simp only[fD.l1]
  rw[ig (by decide)]
 have s1:∀k,fD.l1 (k+1) t out i [a,b,c] 1=if b<a then fD.l1 k t out i [b,c,a] 2 else fD.l1 k t out i [a,b,c] 2:=by
  intro k
  simp only[fD.l1]
  rw[e,hl,ip (by decide),ip (by decide),ip (by decide),w2,r0,r1,l2t1,Option.bind_some,ip (hn _ _ _)]
 have s2:∀k x y z,fD.l1 (k+1) t out i [x,y,z] 2=if c<x then fD.l1 k t out i [c,a,b] 3 else fD.l1 k t out i [x,y,z] 3:=by
  intro k x y z
  simp only[fD.l1]
  rw[e,hl,ip (by decide),ip (by decide),ip (by decide),w3,r0,r2,l2t2,Option.bind_some,ip (hn _ _ _)]
 have f:∀m,m=turnR a b c→fD.l1 (k+1) t out i m 3=fD.l2 k t out i (turnR a b c) (out.length:Int):=by
  intro m hm
  rw[s3,hm]
 rw[s1]
 by_cases h1:b<a
 ·rw[ip h1,s2]
  by_cases h2:c<b
  ·rw[ip h2];exact f _ (by simp[turnR,h1,h2])
  ·rw[ig h2];exact f _ (by simp[turnR,h1,h2])
 ·rw[ig h1,s2]
  by_cases h2:c<a
  ·rw[ip h2];exact f _ (by simp[turnR,h1,h2])
  ·rw[ig h2];exact f _ (by simp[turnR,h1,h2])
/-- The place before which the row is laid. -/
def insAt (out:List (List Int)) (own:List Int):Nat→Nat
 |0=>0
 |q+1=>if rd (rd_L1 out (q:Int)) 0>rd own 0 then insAt out own q else q+1
def insT (out:List (List Int)) (own:List Int):List (List Int):=out.take (insAt out own out.length) ++ (own :: out.drop (insAt out own out.length))
theorem im_l2 (t out:List (List Int)) (i:Nat) (own:List Int) (h3:∀r∈out,r.length=3) (hl:out.length≤10):∀(q k:Nat),q≤out.length→q<k→∃k',k≤k'+q+1∧fA.l2 k t out (i:Int) own (q:Int)=fA.l0 k' t (out.take (insAt out own q) ++ (own :: out.drop (insAt out own q))) (wrap64 ((i:Int)+1))
 |0,k,hq,hk=>by
  obtain⟨k,rfl⟩:=sk k
  refine⟨k,by omega,?_⟩
  simp only[fA.l2]
  rw[ip om,ip om,ip om,ig om]
  rfl
 |q+1,k,hq,hk=>by
  obtain⟨k,rfl⟩:=sk k
  have hlt:q<out.length:=by omega
  have hr:0<(rd_L1 out (q:Int)).length:=by rw[rdL_nat out q hlt,h3 _ (List.getElem_mem hlt)];decide
  simp only[fA.l2]
  rw[ip om,ip om,ip om,ip om,show(((q+1:Nat):Int) - 1)=(q:Int) by omega,ip hr,Int.toNat_natCast]
  by_cases c:rd (rd_L1 out (q:Int)) 0>rd own 0
  ·obtain⟨k',hk',e⟩:=im_l2 t out i own h3 hl q k om om
   rw[ip c,insAt,ip c]
   exact⟨k',by omega,e⟩
  ·rw[ig c,insAt,ig c]
   exact⟨k,by omega,rfl⟩
theorem sp_l2 (t out:List (List Int)) (i:Nat) (own:List Int) (h3:∀r∈out,r.length=3) (hl:out.length≤10):∀(q k:Nat),q≤out.length→q<k→∃k',k≤k'+q+1∧fD.l2 k t out (i:Int) own (q:Int)=fD.l0 k' t (out.take (insAt out own q) ++ (own :: out.drop (insAt out own q))) (wrap64 ((i:Int)+1))
 |0,k,hq,hk=>by
  obtain⟨k,rfl⟩:=sk k
  refine⟨k,by omega,?_⟩
  simp only[fD.l2]
  rw[ip om,ip om,ip om,ig om]
  rfl
 |q+1,k,hq,hk=>by
  obtain⟨k,rfl⟩:=sk k
  have hlt:q<out.length:=by omega
  have hr:0<(rd_L1 out (q:Int)).length:=by rw[rdL_nat out q hlt,h3 _ (List.getElem_mem hlt)];decide
  simp only[fD.l2]
  rw[ip om,ip om,ip om,ip om,show(((q+1:Nat):Int) - 1)=(q:Int) by omega,ip hr,Int.toNat_natCast]
  by_cases c:rd (rd_L1 out (q:Int)) 0>rd own 0
  ·obtain⟨k',hk',e⟩:=sp_l2 t out i own h3 hl q k om om
   rw[ip c,insAt,ip c]
   exact⟨k',by omega,e⟩
  ·rw[ig c,insAt,ig c]
   exact⟨k,by omega,rfl⟩
theorem insT_len (out:List (List Int)) (own:List Int):(insT out own).length=out.length+1:=by
 unfold insT
 rw[List.length_append,List.length_cons,List.length_take,List.length_drop]
 omega
theorem insT_mem {out:List (List Int)}{own r:List Int} (h:r∈insT out own):r=own∨r∈out:=by
 unfold insT at h
 rcases List.mem_append.1 h with h|h
 ·exact .inr (List.mem_of_mem_take h)
 ·rcases List.mem_cons.1 h with h|h
  ·exact .inl h
  ·exact .inr (List.mem_of_mem_drop h)
def trow (r:List Int):List Int:=turnR (r.getD 0 0) (r.getD 1 0) (r.getD 2 0)
def bld (l out:List (List Int)):List (List Int):=l.foldl (fun o r=>insT o (trow r)) out
theorem im_l0 {t:List (List Int)}{n:Int} (ok:TriOk t n):∀(d k i:Nat) (out:List (List Int)),i+d=t.length→30*d+1<k→(∀r∈out,r.length=3)→out.length=i→fA.l0 k t out (i:Int)=some (bld (t.drop i) out)
 |0,k,i,out,hi,hk,h3,ho=>by
  obtain⟨k,rfl⟩:=sk k
  simp only[fA.l0]
  rw[ig om,List.drop_eq_nil_of_le om]
  rfl
 |d+1,k,i,out,hi,hk,h3,ho=>by
  obtain⟨k,rfl⟩:∃m,k=m+5:=⟨k - 5,by omega⟩
  have hlt:i<t.length:=by omega
  have hs:=ok.short
  obtain⟨a,b,c,er,_⟩:=ok.i64 (List.getElem_mem hlt)
  have e:rd_L1 t (i:Int)=[a,b,c]:=by rw[rdL_nat t i hlt,er]
  have et:trow t[i]=turnR a b c:=by rw[er];rfl
  obtain⟨k',hk',e2⟩:=im_l2 t out i (turnR a b c) h3 om out.length k (Nat.le_refl _) om
  have ih:=im_l0 ok d k' (i+1) (insT out (turnR a b c)) om om (fun r hr=>by
   rcases insT_mem hr with h|h
   ·rw[h,turnR_len]
   ·exact h3 r h) (by rw[insT_len];omega)
  simp only[fA.l0]
  rw[ip om,ip om,im_l1 e k,e2,w_id (a:=(i:Int)+1) om om,show((i:Int)+1)=((i+1:Nat):Int) by omega]
  refine ih.trans ?_
  rw[List.drop_eq_getElem_cons hlt]
  show _=some (bld (t.drop (i+1)) (insT out (trow t[i])))
  rw[et]
theorem sp_l0 {t:List (List Int)}{n:Int} (ok:TriOk t n):∀(d k i:Nat) (out:List (List Int)),i+d=t.length→30*d+1<k→(∀r∈out,r.length=3)→out.length=i→fD.l0 k t out (i:Int)=some (bld (t.drop i) out)
 |0,k,i,out,hi,hk,h3,ho=>by
  obtain⟨k,rfl⟩:=sk k
  simp only[fD.l0]
  rw[ig om,List.drop_eq_nil_of_le om]
  rfl
 |d+1,k,i,out,hi,hk,h3,ho=>by
  obtain⟨k,rfl⟩:∃m,k=m+4:=⟨k - 4,by omega⟩
  have hlt:i<t.length:=by omega
  have hs:=ok.short
  obtain⟨a,b,c,er,_⟩:=ok.i64 (List.getElem_mem hlt)
  have e:rd_L1 t (i:Int)=[a,b,c]:=by rw[rdL_nat t i hlt,er]
  have et:trow t[i]=turnR a b c:=by rw[er];rfl
  obtain⟨k',hk',e2⟩:=sp_l2 t out i (turnR a b c) h3 om out.length k (Nat.le_refl _) om
  have ih:=sp_l0 ok d k' (i+1) (insT out (turnR a b c)) om om (fun r hr=>by
   rcases insT_mem hr with h|h
   ·rw[h,turnR_len]
   ·exact h3 r h) (by rw[insT_len];omega)
  simp only[fD.l0]
  rw[ip om,ip om,e,l2t0,Option.bind_some,ip (by simp),sp_l1 e k,e2,w_id (a:=(i:Int)+1) om om,show((i:Int)+1)=((i+1:Nat):Int) by omega]
  refine ih.trans ?_
  rw[List.drop_eq_getElem_cons hlt]
  show _=some (bld (t.drop (i+1)) (insT out (trow t[i])))
  rw[et]
theorem bld_len:∀(l out:List (List Int)),(bld l out).length=out.length+l.length
 |[],out=>rfl
 |r :: l,out=>by
  show(bld l (insT out (trow r))).length=_
  rw[bld_len l,insT_len,List.length_cons]
  omega
theorem bld_mem:∀(l out:List (List Int)) (r:List Int),(∀x∈out,x.length=3)→r∈bld l out→r.length=3
 |[],out,r,h,hr=>h r hr
 |x :: l,out,r,h,hr=>bld_mem l (insT out (trow x)) r (fun y hy=>by
   rcases insT_mem hy with e|e
   ·rw[e];exact turnR_len _ _ _
   ·exact h y e) hr
def turnT (t:List (List Int)):List (List Int):=if isT t=true then bld t [] else[]
theorem turnT_bd (t:List (List Int)) (ht:t.length≤1048576):(turnT t).length≤6∧∀r∈turnT t,r.length=3:=by
 unfold turnT
 by_cases h:isT t=true
 ·have:=(isT_ok ht h).short
  rw[ip h]
  exact⟨by rw[bld_len,List.length_nil];omega,fun r hr=>bld_mem t [] r (fun x hx=>by cases hx) hr⟩
 ·rw[ig h]
  exact⟨by simp,fun r hr=>by cases hr⟩
theorem pY (t:List (List Int)) (ht:t.length≤1048576) (k:Nat) (hk:6000000<k):fA.f k t=some (turnT t):=by
 unfold fA.f turnT
 rw[pL t ht k hk,Option.bind_some]
 by_cases h:isT t=true
 ·have ok:=isT_ok ht h
  have:=ok.short
  have e:=im_l0 ok t.length k 0 [] om om (fun x hx=>by cases hx) rfl
  rw[ip h,ip h]
  exact e
 ·rw[ig h,ig h]
theorem qC (t:List (List Int)) (ht:t.length≤1048576) (k:Nat) (hk:6000000<k):fD.f k t=some (turnT t):=by
 unfold fD.f turnT
 rw[pP t ht k hk,Option.bind_some]
 by_cases h:isT t=true
 ·have ok:=isT_ok ht h
  have:=ok.short
  have e:=sp_l0 ok t.length k 0 [] om om (fun x hx=>by cases hx) rfl
  rw[ip h,ip h]
  exact e
 ·rw[ig h,ig h]
end Go.Proofs.Ytbpnjlemjapnnaa.L

namespace Go.Proofs.Ytbpnjlemjapnnaa.L
open Go Go.RowKit Go.Proofs.Ytbpnjlemjapnnaa.P Go.Proofs.Ytbpnjlemjapnnaa.Help Go.Proofs.YtbpnjlemjapnnaaW.PrintWords
set_option linter.unusedVariables false
set_option linter.unusedSimpArgs false
theorem same_l0 (xs:List Int) (hx:xs.length≤1048576):∀(d k i:Nat),i+d=xs.length→d<k→fU.l0 k xs xs (i:Int)=some true:=by
 intro d
 induction d with
 |zero=>
  intro k i hi hk
  obtain⟨k,rfl⟩:=sk k
  simp only[fU.l0]
  rw[ig om]
 |succ d ih=>
  intro k i hi hk
  obtain⟨k,rfl⟩:=sk k
  simp only[fU.l0]
  rw[ip om,ip om,ip om]
  simp only[if_true]
  rw[w_id om om,show((i:Int)+1)=((i+1:Nat):Int) by omega,ih k (i+1) om om]
theorem same_f (xs:List Int) (hx:xs.length≤1048576) (k:Nat) (hk:1048576<k):fU.f k xs xs=some true:=by
 unfold fU.f
 rw[ip rfl]
 exact same_l0 xs hx xs.length k 0 om om
theorem sameL_l0 (xs:List (List Int)) (hx:xs.length≤1048576) (hr:∀r∈xs,r.length≤1048576):∀(d k i:Nat),i+d=xs.length→d+1048577<k→gH.l0 k xs xs (i:Int)=some true:=by
 intro d
 induction d with
 |zero=>
  intro k i hi hk
  obtain⟨k,rfl⟩:=sk k
  simp only[gH.l0]
  rw[ig om]
 |succ d ih=>
  intro k i hi hk
  obtain⟨k,rfl⟩:=sk k
  have hlt:i<xs.length:=by omega
  simp only[gH.l0]
  rw[ip om,ip om,ip om,rdL_nat xs i hlt,same_f _ (hr _ (List.getElem_mem hlt)) k om,Option.bind_some]
  rw[ip rfl,w_id om om,show((i:Int)+1)=((i+1:Nat):Int) by omega,ih k (i+1) om om]
theorem sameL_f (xs:List (List Int)) (hx:xs.length≤1048576) (hr:∀r∈xs,r.length≤1048576) (k:Nat) (hk:3000000<k):gH.f k xs xs=some true:=by
 unfold gH.f
 rw[ip rfl]
 exact sameL_l0 xs hx hr xs.length k 0 om om
end Go.Proofs.Ytbpnjlemjapnnaa.L

namespace Go.Proofs.Ytbpnjlemjapnnaa.Pure
open Go Go.RowKit Go.Proofs.Ytbpnjlemjapnnaa.P Go.Proofs.Ytbpnjlemjapnnaa.L Go.Proofs.Ytbpnjlemjapnnaa.Help Go.Proofs.YtbpnjlemjapnnaaW.PrintWords
set_option linter.unusedVariables false
theorem mirR_bd {g:List (List Int)} (hg:g.length≤100) (hr:∀r∈g,r.length≤100):(mirR g).1.length≤100∧∀r∈(mirR g).1,r.length≤100:=by
 unfold mirR
 by_cases h:gluR g=true
 ·have h0:0<g.length:=by
   unfold gluR at h
   rw[Bool.and_eq_true,decide_eq_true_eq]at h
   omega
  rw[ip h]
  split
  ·refine⟨by dsimp only;rw[List.length_set];exact hg,fun r h1=>?_⟩
   rw[List.getD_eq_getElem?_getD,List.getElem?_eq_getElem h0]at h1
   exact mir_rows hr h0 r h1
  ·simp
 ·rw[ig h]
  simp
theorem FnPure:laws_FnPure.Pure:=by
 intro l _ _ _
 unfold mB.f
 by_cases hl:l.length≤1048576
 ·refine .inr ⟨by rw[decide_eq_false om],10000000,?_⟩
  obtain⟨t,x,e1,G⟩:=drawIF_ok l hl 10000000 om
  obtain⟨g,e2,hg,hgr⟩:=drawIG_ok l hl 10000000 om
  obtain⟨m,e3,hm⟩:=drawMap_ok l hl 10000000 om
  have ht:t.length≤1048576:=Nat.le_trans G.len (by decide)
  have hr:∀r∈t,r.length≤1048576:=fun r h=>by rw[G.row r h];decide
  have hx:=G.xs
  obtain⟨c,b,ps,pi,pc⟩:=plain_f t ht hr x om
  have hc:c.length≤1048576:=by
   rcases pc with ⟨_,n,ok,iv,hF⟩|⟨_,h,_⟩
   ·have h2:=iv.len
    have h3:=ok.n9
    omega
   ·rw[h]
    simp
  obtain⟨o,ho,es,ei⟩:=dual_both m 10000000 om
  obtain⟨d,⟨hd,hdr⟩,ec⟩:=cycles_both m
  obtain⟨tb,tr⟩:=turnT_bd t ht
  obtain⟨mb,mr⟩:=mirR_bd hg hgr
  exact⟨t,g,turnT t,d,(mirR g).1,(mirR g).1,turnT t,d,x,m,o,c,c,o,b,(mirR g).2,e1,e2,e3,pY t ht _ om,ei,pi _ om,(ec _ om).2,qD g hg hgr _ om,ps _ om,qF g hg hgr _ om,
   same_f x om _ om,same_f m om _ om,same_f c hc _ om,sameL_f _ om (fun r h=>Nat.le_trans (mr r h) (by decide)) _ om,qC t ht _ om,sameL_f _ om (fun r h=>by rw[tr r h];decide) _ om,es,same_f o om _ om,(ec _ om).1,sameL_f d om (fun r h=>Nat.le_trans (hdr r h) (by decide)) _ om,by omega,by omega⟩
 ·exact .inl (by rw[decide_eq_true om])
end Go.Proofs.Ytbpnjlemjapnnaa.Pure

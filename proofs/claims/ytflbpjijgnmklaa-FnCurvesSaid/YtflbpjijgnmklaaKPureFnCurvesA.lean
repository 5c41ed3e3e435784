/- Fair coordinates are closed curves, and curves around a vertex can be added and taken away; no condition. -/
import Derived.Test.YtflbpjijgnmklaaKPx40
import Derived.Test.YtflbpjijgnmklaaKHelp

namespace Go.Proofs.Ytflbpjijgnmklaa.L
open Go.RowKit Go.Proofs.Ytflbpjijgnmklaa.P Go.Proofs.Ytflbpjijgnmklaa.Help Go.Proofs.YtflbpjijgnmklaaW.PrintWords
set_option linter.unusedVariables false
set_option linter.unusedSimpArgs false

theorem w_id {a:Int} (h0: -9223372036854775808≤a) (h1:a≤9223372036854775807):wrap64 a=a:=by unfold wrap64;omega
theorem rd_nat (xs:List Int) (i:Nat) (h:i<xs.length):rd xs (i:Int)=xs[i]:=by
 unfold rd
 simp[List.getD_eq_getElem?_getD,List.getElem?_eq_getElem h]
end Go.Proofs.Ytflbpjijgnmklaa.L

namespace Go.Proofs.Ytflbpjijgnmklaa.L
open Go Go.RowKit Go.Proofs.Ytflbpjijgnmklaa.P Go.Proofs.Ytflbpjijgnmklaa.Help Go.Proofs.YtflbpjijgnmklaaW.PrintWords
set_option linter.unusedVariables false
set_option linter.unusedSimpArgs false
theorem and255 (x:Int):0≤bits .and .i64 x 255∧bits .and .i64 x 255≤255:=by
 have h:∀n:Nat,n≤255→0≤IntKind.i64.wrap (n:Int)∧IntKind.i64.wrap (n:Int)≤255:=by
  intro n hn
  simp[IntKind.wrap,IntKind.signed,IntKind.bits]
  split <;> omega
 unfold bits
 refine h _ ?_
 show(BitVec.ofInt IntKind.i64.bits x &&& BitVec.ofInt IntKind.i64.bits 255).toNat≤255
 rw[BitVec.toNat_and]
 refine Nat.le_trans Nat.and_le_right ?_
 decide
/-- A cursor over bytes. -/
def Cur (b:List Int) (i:Int):Prop:=0≤i∧i≤4000000000∧(b.length:Int)≤1048576
theorem Cur.start {b:List Int} (h:b.length≤1048576):Cur b 0:=⟨by decide,by decide,by omega⟩
theorem byte_ok {b:List Int}{i:Int} (h:Int) (hc:Cur b i):∃x i' h',gV.f b i h=some (x,i',h')∧0≤x∧x≤255∧Cur b i':=by
 obtain⟨c1,c2,c3⟩:=hc
 unfold gV.f
 by_cases h1:i<(b.length:Int)
 ·rw[ip h1,ip c1]
  refine⟨_,_,_,rfl,(and255 _).1,(and255 _).2,?_⟩
  rw[w_id om om]
  exact⟨by omega,by omega,c3⟩
 ·rw[ig h1]
  exact⟨_,_,_,rfl,(and255 _).1,(and255 _).2,c1,c2,c3⟩
theorem tmod_ok {x n:Int} (hx:0≤x) (hn:0<n):0≤Int.tmod x n∧Int.tmod x n<n:=by
 rw[Int.tmod_eq_emod_of_nonneg hx]
 exact⟨Int.emod_nonneg _ om,Int.emod_lt_of_pos _ hn⟩
theorem below_ok {b:List Int}{i:Int} (h n:Int) (hc:Cur b i) (hn:0<n):∃x i' h',fK.f b i h n=some (x,i',h')∧0≤x∧x<n∧Cur b i':=by
 unfold fK.f
 rw[ig om]
 by_cases h1:n≤256
 ·rw[ip h1]
  obtain⟨x,i',h',e,x0,x1,c'⟩:=byte_ok h hc
  rw[e,Option.bind_some,ig om]
  have:=tmod_ok x0 hn
  exact⟨_,_,_,rfl,this.1,this.2,c'⟩
 ·rw[ig h1]
  obtain⟨x,i1,h1',e1,x0,x1,c1⟩:=byte_ok h hc
  obtain⟨y,i2,h2',e2,y0,y1,c2⟩:=byte_ok h1' c1
  obtain⟨z,i3,h3',e3,z0,z1,c3⟩:=byte_ok h2' c2
  obtain⟨v,i4,h4',e4,v0,v1,c4⟩:=byte_ok h3' c3
  rw[e1,Option.bind_some]
  dsimp only
  rw[e2,Option.bind_some]
  dsimp only
  rw[e3,Option.bind_some]
  dsimp only
  rw[e4,Option.bind_some]
  dsimp only
  rw[ig om,w_id (a:=x*16777216) om om,w_id (a:=y*65536) om om,w_id (a:=z*256) om om,w_id (a:=x*16777216+y*65536) om om,w_id (a:=x*16777216+y*65536+z*256) om om,w_id om om]
  have:=tmod_ok (show 0≤x*16777216+y*65536+z*256+v by omega) hn
  exact⟨_,_,_,rfl,this.1,this.2,c4⟩
theorem once_ok {b:List Int}{i:Int} (h n:Int) (hc:Cur b i) (hn:0<n):∃x i' h',jK.f b i h n=some (x,i',h')∧Cur b i':=by
 obtain⟨x,i',h',e,_,_,c'⟩:=below_ok h n hc hn
 unfold jK.f
 rw[e]
 exact⟨_,_,_,rfl,c'⟩
theorem rd_mem {l:List Int}{x:Int} (h0:0≤x) (h1:x<(l.length:Int)):rd l x∈l:=by
 obtain⟨n,rfl⟩:=Int.eq_ofNat_of_zero_le h0
 rw[rd_nat l n om]
 exact List.getElem_mem _
theorem pickInt_ok {b:List Int}{i:Int} (h:Int) (l:List Int) (hc:Cur b i) (hl:0<l.length):∃x i' h',jF.f b i h l=some (x,i',h')∧x∈l∧Cur b i':=by
 obtain⟨x,i',h',e,x0,x1,c'⟩:=below_ok h (l.length:Int) hc om
 unfold jF.f
 rw[e,Option.bind_some,ip x0,ip x1]
 exact⟨_,_,_,rfl,rd_mem x0 x1,c'⟩
theorem rdOf_mem {α:Type}{d:α}{l:List α}{x:Int} (h0:0≤x) (h1:x<(l.length:Int)):rdOf d l x∈l:=by
 obtain⟨n,rfl⟩:=Int.eq_ofNat_of_zero_le h0
 have hn:n<l.length:=by omega
 unfold rdOf
 simp[List.getD_eq_getElem?_getD,List.getElem?_eq_getElem hn]
theorem pick_ok {b:List Int}{i:Int} (h:Int) (l:List ByteArray) (hc:Cur b i) (hl:0<l.length):∃x i' h',jI.f b i h l=some (x,i',h')∧x∈l∧Cur b i':=by
 obtain⟨x,i',h',e,x0,x1,c'⟩:=below_ok h (l.length:Int) hc om
 unfold jI.f
 rw[e,Option.bind_some,ip x0,ip x1]
 exact⟨_,_,_,rfl,rdOf_mem x0 x1,c'⟩
theorem bit_ok (x:Bool):gK.f x=some (if x=true then 1 else 0):=by
 unfold gK.f
 split <;> rfl
theorem new_l0 (l:List Int) (hl:l.length≤1048576):∀(d k:Nat) (h i:Int),i+d=4000→0≤i→d<k→∃h',gQ.l0 k l h i=some (l,0,h')
 |0,k,h,i,hi,h0,hk=>by
  obtain⟨k,rfl⟩:=sk k
  simp only[gQ.l0]
  by_cases c:i<(l.length:Int)
  ·rw[ip c,ig om];exact⟨_,rfl⟩
  ·rw[ig c];exact⟨_,rfl⟩
 |d+1,k,h,i,hi,h0,hk=>by
  obtain⟨k,rfl⟩:=sk k
  simp only[gQ.l0]
  by_cases c:i<(l.length:Int)
  ·rw[ip c,ip om,ip h0,w_id (a:=i+1) om om]
   exact new_l0 l hl d k _ (i+1) om om om
  ·rw[ig c];exact⟨_,rfl⟩
theorem new_ok (l:List Int) (hl:l.length≤1048576) (k:Nat) (hk:4000<k):∃h',gQ.f k l=some (l,0,h'):=by
 unfold gQ.f
 exact new_l0 l hl 4000 k _ 0 om om hk
end Go.Proofs.Ytflbpjijgnmklaa.L

namespace Go.Proofs.Ytflbpjijgnmklaa.L
open Go.RowKit Go.Proofs.Ytflbpjijgnmklaa.P Go.Proofs.Ytflbpjijgnmklaa.Help Go.Proofs.YtflbpjijgnmklaaW.PrintWords
set_option linter.unusedVariables false
set_option linter.unusedSimpArgs false

theorem l1In_eq (a lo hi:Int):fW.f a lo hi=some (decide (lo≤a∧a≤hi)):=by
 unfold fW.f
 by_cases h:lo≤a <;> simp[h]
theorem within_eq (a lo hi:Int):fV.f a lo hi=some (decide (lo≤a∧a≤hi)):=by
 unfold fV.f
 by_cases h:lo≤a <;> simp[h]
/-- How many numbers. -/
def tot:List (List Int)→Nat
 |[]=>0
 |r :: rs=>r.length+tot rs
theorem rdL_nat (xs:List (List Int)) (i:Nat) (h:i<xs.length):rd_L1 xs (i:Int)=xs[i]:=by
 unfold rd_L1
 simp[List.getD_eq_getElem?_getD,List.getElem?_eq_getElem h]
/-- The letters of a row, put to those that are seen. -/
def rowR (n:Int):List Int→List Int→Option (List Int)
 |seen,[]=>some seen
 |seen,x :: xs=>if x≠0∧(-n≤x∧x≤n)∧x ∉ seen then rowR n (x :: seen) xs else none
def triR (n:Int):List Int→List (List Int)→Bool
 |_,[]=>true
 |seen,r :: rs=>if r.length=3 then(match rowR n seen r with|some s=>triR n s rs|none=>false)else false
/-- The number of edges. -/
def edges (t:List (List Int)):Int:=wrap64 (Int.tdiv (wrap64 (3*(t.length:Int))) 2)
def isT (t:List (List Int)):Bool:=if(t.length:Int) % 2=0∧3≤edges t∧edges t≤9 then triR (edges t) [] t else false

theorem pI (t:List (List Int)) (n:Int) (hn:3≤n∧n≤9) (i:Nat) (hi:i<t.length) (hl:t[i].length=3):∀(d j k:Nat) (seen:List Int),j+d=3→d<k→
  fB.l1 k t n seen (i:Int) (j:Int)=(match rowR n seen (t[i].drop j) with|some s=>fB.l0 (k - d - 1) t n s (wrap64 ((i:Int)+1))|none=>some false):=by
 intro d
 induction d with
 |zero=>
  intro j k seen hj hk
  obtain⟨k,rfl⟩:=sk k
  simp only[fB.l1]
  rw[rdL_nat t i hi,ig om,List.drop_of_length_le om]
  rfl
 |succ d ih=>
  intro j k seen hj hk
  obtain⟨k,rfl⟩:=sk k
  have hlt:j<t[i].length:=by omega
  simp only[fB.l1]
  rw[rdL_nat t i hi,ip om,ip om,rd_nat _ j hlt,within_eq,Option.bind_some,w_id (a:= -n) om om,List.drop_eq_getElem_cons hlt]
  by_cases h1:t[i][j]=0
  ·rw[ip h1]
   simp[rowR,h1]
  ·rw[ig h1]
   by_cases h2: -n≤t[i][j]∧t[i][j]≤n
   ·rw[ip (by simpa using h2)]
    by_cases h3:t[i][j]∈seen
    ·rw[ip h3]
     simp[rowR,h3]
    ·rw[ig h3,w_id (a:=(j:Int)+1) om om,show((j:Int)+1)=((j+1:Nat):Int) by omega,ih (j+1) k _ om om,rowR,ip ⟨h1,h2,h3⟩,show k+1 - (d+1) - 1=k - d - 1 by omega]
   ·rw[ig (by simpa using h2),rowR,ig (fun h=>h2 h.2.1)]
theorem pF (t:List (List Int)) (ht:t.length≤1048600) (n:Int) (hn:3≤n∧n≤9):∀(d i k:Nat) (seen:List Int),i+d=t.length→5*d<k→
  fB.l0 k t n seen (i:Int)=some (triR n seen (t.drop i)):=by
 intro d
 induction d with
 |zero=>
  intro i k seen hi hk
  obtain⟨k,rfl⟩:=sk k
  simp only[fB.l0]
  rw[ig om,List.drop_of_length_le om]
  rfl
 |succ d ih=>
  intro i k seen hi hk
  obtain⟨k,rfl⟩:=sk k
  have hlt:i<t.length:=by omega
  simp only[fB.l0]
  rw[ip om,ip om,rdL_nat t i hlt,List.drop_eq_getElem_cons hlt,triR]
  by_cases h1:t[i].length=3
  ·have:=pI t n hn i hlt h1 3 0 k seen om om
   rw[ip om,ip h1,show(0:Int)=((0:Nat):Int)from rfl,this,List.drop_zero]
   cases rowR n seen t[i] with
   |none=>rfl
   |some s=>
    show fB.l0 _ t n s _=some (triR n s _)
    rw[w_id om om,show((i:Int)+1)=((i+1:Nat):Int) by omega,ih (i+1) _ s om om]
  ·rw[ig om,ig h1]
theorem impl_isT' (t:List (List Int)) (ht:t.length≤1048600) (k:Nat) (hk:6000000<k):fB.f k t=some (isT t):=by
 obtain⟨k,rfl⟩:=sk k
 unfold fB.f
 rw[within_eq,Option.bind_some]
 unfold isT edges
 by_cases h1:(t.length:Int) % 2=0
 ·rw[ip h1]
  simp only[fB.j0]
  by_cases h2:3≤wrap64 (Int.tdiv (wrap64 (3*(t.length:Int))) 2)∧wrap64 (Int.tdiv (wrap64 (3*(t.length:Int))) 2)≤9
  ·rw[ig (by simpa using h2),ip ⟨h1,h2⟩]
   have:=pF t ht _ h2 t.length 0 k [] om om
   rw[List.drop_zero]at this
   exact this
  ·rw[ip (by rw[decide_eq_false h2];rfl),ig (fun h=>h2 h.2)]
 ·rw[ig h1]
  simp only[fB.j0]
  rw[ip trivial,ig (fun h=>h1 h.1)]
/-- What is marked is what is seen. -/
def Marks (n:Int) (x4:List Bool) (seen:List Int):Prop:=(x4.length:Int)=2*n+1∧∀y, -n≤y→y≤n→rdOf false x4 (n+y)=decide (y∈seen)
theorem Marks.put {n:Int}{x4:List Bool}{seen:List Int} (h:Marks n x4 seen){x:Int} (hx: -n≤x∧x≤n):Marks n (x4.set (n+x).toNat true) (x :: seen):=by
 obtain⟨h1,h2⟩:=h
 refine⟨by rw[List.length_set];exact h1,fun y hy1 hy2=>?_⟩
 have h3:=h2 y hy1 hy2
 unfold rdOf at h3 ⊢
 rw[List.getD_eq_getElem?_getD]at h3 ⊢
 rw[List.getElem?_set]
 by_cases e:(n+x).toNat=(n+y).toNat
 ·have:x=y:=by omega
  subst this
  rw[ip rfl,ip om]
  simp
 ·have hne:y≠x:=fun e'=>e (by rw[e'])
  rw[ig e,h3]
  simp[hne]
theorem Marks.made {n:Int} (hn:0≤n):Marks n (List.replicate (2*n+1).toNat false) []:=by
 refine⟨by rw[List.length_replicate];omega,fun y _ _=>?_⟩
 unfold rdOf
 rw[List.getD_eq_getElem?_getD,List.getElem?_replicate]
 split <;> simp
theorem pH (t:List (List Int)) (n:Int) (hn:3≤n∧n≤9) (i:Nat) (hi:i<t.length) (hl:t[i].length=3):∀(d j k:Nat) (x4:List Bool) (seen:List Int),Marks n x4 seen→j+d=3→d<k→
  (rowR n seen (t[i].drop j)=none∧fA.l1 k t n x4 (i:Int) (j:Int)=some false)∨∃s x4',rowR n seen (t[i].drop j)=some s∧Marks n x4' s∧fA.l1 k t n x4 (i:Int) (j:Int)=fA.l0 (k - d - 1) t n x4' (wrap64 ((i:Int)+1)):=by
 intro d
 induction d with
 |zero=>
  intro j k x4 seen hm hj hk
  obtain⟨k,rfl⟩:=sk k
  simp only[fA.l1]
  rw[ig om,List.drop_of_length_le om]
  exact .inr ⟨seen,x4,rfl,hm,rfl⟩
 |succ d ih=>
  intro j k x4 seen hm hj hk
  obtain⟨k,rfl⟩:=sk k
  have hlt:j<t[i].length:=by omega
  simp only[fA.l1]
  rw[ip om,ip om,ip om,ip om,rdL_nat t i hi,ip om,rd_nat _ j hlt,l1In_eq,Option.bind_some,w_id (a:= -n) om om,List.drop_eq_getElem_cons hlt]
  by_cases h1:t[i][j]=0
  ·rw[ip h1]
   exact .inl ⟨by simp[rowR,h1],rfl⟩
  ·rw[ig h1]
   by_cases h2: -n≤t[i][j]∧t[i][j]≤n
   ·have hx:=hm.2 _ h2.1 h2.2
    have hlen:=hm.1
    rw[ip (by simpa using h2),w_id (a:=n+t[i][j]) om om,ip om,ip om,hx]
    by_cases h3:t[i][j]∈seen
    ·rw[ip (by simpa using h3)]
     exact .inl ⟨by simp[rowR,h3],rfl⟩
    ·rw[ig (by simpa using h3),w_id (a:=(j:Int)+1) om om,show((j:Int)+1)=((j+1:Nat):Int) by omega,rowR,ip ⟨h1,h2,h3⟩,show k+1 - (d+1) - 1=k - d - 1 by omega]
     exact ih (j+1) k _ _ (hm.put h2) om om
   ·rw[ig (by simpa using h2),rowR,ig (fun h=>h2 h.2.1)]
    exact .inl ⟨rfl,rfl⟩
theorem pJ (t:List (List Int)) (ht:t.length≤1048600) (n:Int) (hn:3≤n∧n≤9):∀(d i k:Nat) (x4:List Bool) (seen:List Int),Marks n x4 seen→i+d=t.length→5*d<k→
  fA.l0 k t n x4 (i:Int)=some (triR n seen (t.drop i)):=by
 intro d
 induction d with
 |zero=>
  intro i k x4 seen hm hi hk
  obtain⟨k,rfl⟩:=sk k
  simp only[fA.l0]
  rw[ig om,List.drop_of_length_le om]
  rfl
 |succ d ih=>
  intro i k x4 seen hm hi hk
  obtain⟨k,rfl⟩:=sk k
  have hlt:i<t.length:=by omega
  simp only[fA.l0]
  rw[ip om,ip om,rdL_nat t i hlt,List.drop_eq_getElem_cons hlt,triR]
  by_cases h1:t[i].length=3
  ·rw[ip om,ip h1,show(0:Int)=((0:Nat):Int)from rfl]
   rcases pH t n hn i hlt h1 3 0 k x4 seen hm om om with ⟨h2,h3⟩|⟨s,x4',h2,h3,h4⟩
   ·rw[h3]
    rw[List.drop_zero]at h2
    rw[h2]
   ·rw[h4]
    rw[List.drop_zero]at h2
    rw[h2,w_id om om,show((i:Int)+1)=((i+1:Nat):Int) by omega]
    exact ih (i+1) _ x4' s h3 om om
  ·rw[ig om,ig h1]
theorem spec_isT' (t:List (List Int)) (ht:t.length≤1048600) (k:Nat) (hk:6000000<k):fA.f k t=some (isT t):=by
 obtain⟨k,rfl⟩:=sk k
 unfold fA.f
 rw[l1In_eq,Option.bind_some]
 unfold isT edges
 by_cases h1:(t.length:Int) % 2=0
 ·rw[ip h1]
  simp only[fA.j0]
  by_cases h2:3≤wrap64 (Int.tdiv (wrap64 (3*(t.length:Int))) 2)∧wrap64 (Int.tdiv (wrap64 (3*(t.length:Int))) 2)≤9
  ·obtain⟨n,hn⟩:∃n:Int,wrap64 (Int.tdiv (wrap64 (3*(t.length:Int))) 2)=n:=⟨_,rfl⟩
   rw[hn]at h2 ⊢
   rw[ig (by simpa using h2),ip (show(t.length:Int) % 2=0∧3≤n∧n≤9 from⟨h1,h2⟩),w_id (a:=2*n) om om,w_id (a:=2*n+1) om om,ip om,ip om]
   have:=pJ t ht n h2 t.length 0 k _ [] (Marks.made om) om om
   rw[List.drop_zero]at this
   exact this
  ·rw[ip (by rw[decide_eq_false h2];rfl),ig (fun h=>h2 h.2)]
 ·rw[ig h1]
  simp only[fA.j0]
  rw[ip trivial,ig (fun h=>h1 h.1)]
theorem mE (t:List (List Int)) (ht:t.length≤1048576) (k:Nat) (hk:6000000<k):fB.f k t=some (isT t):=impl_isT' t om k hk
theorem mG (t:List (List Int)) (ht:t.length≤1048576) (k:Nat) (hk:6000000<k):fA.f k t=some (isT t):=spec_isT' t om k hk
theorem rowR_some {n:Int}:∀ {r seen s:List Int},rowR n seen r=some s→(∀x∈r,x≠0∧ -n≤x∧x≤n)∧r.Nodup∧(∀x∈r,x ∉ seen)∧∀x,x∈s↔x∈r∨x∈seen
 |[],seen,s,h=>by
  have e:seen=s:=Option.some.inj h
  subst e
  simp
 |y :: ys,seen,s,h=>by
  rw[rowR]at h
  by_cases c:y≠0∧(-n≤y∧y≤n)∧y ∉ seen
  ·rw[ip c]at h
   obtain⟨h1,h2,h3,h4⟩:=rowR_some h
   refine⟨fun x hx=>?_,List.nodup_cons.2 ⟨fun hy=>h3 y hy List.mem_cons_self,h2⟩,fun x hx hs=>?_,fun x=>?_⟩
   ·rcases List.mem_cons.1 hx with rfl|hx
    ·exact⟨c.1,c.2.1⟩
    ·exact h1 x hx
   ·rcases List.mem_cons.1 hx with rfl|hx
    ·exact c.2.2 hs
    ·exact h3 x hx (List.mem_cons_of_mem _ hs)
   ·rw[h4 x,List.mem_cons,List.mem_cons]
    constructor
    ·rintro (h|h|h)
     ·exact .inl (.inr h)
     ·exact .inl (.inl h)
     ·exact .inr h
    ·rintro ((h|h)|h)
     ·exact .inr (.inl h)
     ·exact .inl h
     ·exact .inr (.inr h)
  ·rw[ig c]at h
   exact absurd h (by simp)
theorem triR_true {n:Int}:∀ {rows:List (List Int)}{seen:List Int},triR n seen rows=true→(∀r∈rows,r.length=3)∧(∀x∈rows.flatten,x≠0∧ -n≤x∧x≤n)∧rows.flatten.Nodup∧∀x∈rows.flatten,x ∉ seen
 |[],seen,_=>by simp
 |r :: rs,seen,h=>by
  rw[triR]at h
  by_cases c:r.length=3
  ·rw[ip c]at h
   cases hr:rowR n seen r with
   |none=>rw[hr]at h;exact absurd h (by simp)
   |some s=>
    rw[hr]at h
    obtain⟨h1,h2,h3,h4⟩:=rowR_some hr
    obtain⟨g1,g2,g3,g4⟩:=triR_true (show triR n s rs=true from h)
    refine⟨fun x hx=>?_,fun x hx=>?_,?_,fun x hx hs=>?_⟩
    ·rcases List.mem_cons.1 hx with rfl|hx
     ·exact c
     ·exact g1 x hx
    ·rw[List.flatten_cons,List.mem_append]at hx
     rcases hx with hx|hx
     ·exact h1 x hx
     ·exact g2 x hx
    ·rw[List.flatten_cons]
     refine List.nodup_append.2 ⟨h2,g3,fun a ha b hb e=>?_⟩
     subst e
     exact g4 a hb ((h4 a).2 (.inl ha))
    ·rw[List.flatten_cons,List.mem_append]at hx
     rcases hx with hx|hx
     ·exact h3 x hx hs
     ·exact g4 x hx ((h4 x).2 (.inr hs))
  ·rw[ig c]at h
   exact absurd h (by simp)
/-- A triangulation with n edges. -/
structure TriOk (t:List (List Int)) (n:Int):Prop where
 n3:3≤n
 n9:n≤9
 len:3*(t.length:Int)=2*n
 row:∀r∈t,r.length=3
 inr:∀x∈t.flatten,x≠0∧ -n≤x∧x≤n
 nodup:t.flatten.Nodup
theorem edges_eq {t:List (List Int)} (ht:t.length≤1048600):edges t=3*(t.length:Int) / 2:=by
 unfold edges
 rw[w_id (a:=3*(t.length:Int)) om om,Int.tdiv_eq_ediv_of_nonneg om,w_id om om]
theorem isT_ok' {t:List (List Int)} (ht:t.length≤1048600) (h:isT t=true):TriOk t (edges t):=by
 unfold isT at h
 by_cases c:(t.length:Int) % 2=0∧3≤edges t∧edges t≤9
 ·rw[ip c]at h
  obtain⟨h1,h2,h3,_⟩:=triR_true h
  have e:=edges_eq ht
  exact⟨c.2.1,c.2.2,by omega,h1,h2,h3⟩
 ·rw[ig c]at h
  exact absurd h (by simp)
theorem isT_ok {t:List (List Int)} (ht:t.length≤1048576) (h:isT t=true):TriOk t (edges t):=isT_ok' om h
theorem TriOk.short {t:List (List Int)}{n:Int} (h:TriOk t n):t.length≤6∧2≤t.length:=by
 have:=h.n3
 have:=h.n9
 have:=h.len
 omega
theorem TriOk.at {t:List (List Int)}{n:Int} (h:TriOk t n){i j:Nat} (hi:i<t.length) (hj:j<t[i].length):t[i][j]≠0∧ -n≤t[i][j]∧t[i][j]≤n:=
 h.inr _ (List.mem_flatten.2 ⟨t[i],List.getElem_mem hi,List.getElem_mem hj⟩)
theorem TriOk.three {t:List (List Int)}{n:Int} (h:TriOk t n){i:Nat} (hi:i<t.length):t[i].length=3:=h.row _ (List.getElem_mem hi)
theorem TriOk.i64 {t:List (List Int)}{n:Int} (h:TriOk t n){r:List Int} (hr:r∈t):∃a b c,r=[a,b,c]∧(a≠0∧ -n≤a∧a≤n)∧(b≠0∧ -n≤b∧b≤n)∧(c≠0∧ -n≤c∧c≤n):=by
 have hl:=h.row r hr
 match r,hl with
 |[a,b,c],_=>
  exact⟨a,b,c,rfl,h.inr _ (List.mem_flatten.2 ⟨_,hr,by simp⟩),h.inr _ (List.mem_flatten.2 ⟨_,hr,by simp⟩),h.inr _ (List.mem_flatten.2 ⟨_,hr,by simp⟩)⟩
/-- The parts of a text between the bytes b, from a place on. -/
def partsR (x:ByteArray) (b:Int):Nat→Nat→Nat→List ByteArray
 |0,a,_=>[x.extract a x.size]
 |d+1,a,i=>if bt x (i:Int)=b then x.extract a i :: partsR x b d (i+1) (i+1)else partsR x b d a (i+1)
theorem parts_len (x:ByteArray) (b:Int):∀(d a i:Nat),(partsR x b d a i).length≤d+1
 |0,_,_=>by simp[partsR]
 |d+1,a,i=>by
  rw[partsR]
  split
  ·have:=parts_len x b d (i+1) (i+1);rw[List.length_cons];omega
  ·have:=parts_len x b d a (i+1);omega
/-- The lengths, one more each. -/
def sizes:List ByteArray→Nat
 |[]=>0
 |p :: ps=>p.size+1+sizes ps
theorem parts_sizes (x:ByteArray) (b:Int):∀(d a i:Nat),i+d=x.size→a≤i→sizes (partsR x b d a i)=x.size - a+1
 |0,a,i,h,ha=>by
  rw[partsR,sizes,sizes,ByteArray.size_extract]
  omega
 |d+1,a,i,h,ha=>by
  rw[partsR]
  split
  ·rw[sizes,ByteArray.size_extract,parts_sizes x b d (i+1) (i+1) om om]
   omega
  ·exact parts_sizes x b d a (i+1) om om
theorem mW (x:ByteArray) (hx:x.size≤1048576) (b:Int):∀(d k a i:Nat) (out:List ByteArray),i+d=x.size→d+3<k→a≤i→out.length≤i→gL.l0 k x b out (a:Int) (i:Int)=some (out ++ partsR x b d a i):=by
 intro d
 induction d with
 |zero=>
  intro k a i out hi hk ha ho
  obtain⟨k,rfl⟩:∃m,k=m+2:=⟨k - 2,by omega⟩
  rw[show k+2=(k+1)+1 from rfl]
  simp only[gL.l0]
  rw[ip om,ip om,ip om,ip om,ip om,w_id (a:=(i:Int)+1) om om,ig om,Int.toNat_natCast,Int.toNat_natCast,partsR,show i=x.size by omega]
 |succ d ih=>
  intro k a i out hi hk ha ho
  obtain⟨k,rfl⟩:=sk k
  simp only[gL.l0]
  rw[ip om,ig om,ip om,ip om,partsR]
  by_cases h:bt x (i:Int)=b
  ·rw[ip h,ip h,ip om,ip om,ip om,w_id (a:=(i:Int)+1) om om,show((i:Int)+1)=((i+1:Nat):Int) by omega,ih k (i+1) (i+1) _ om om om (by rw[List.length_append];simp;omega),List.append_assoc,Int.toNat_natCast,Int.toNat_natCast]
   rfl
  ·rw[ig h,ig h,w_id (a:=(i:Int)+1) om om,show((i:Int)+1)=((i+1:Nat):Int) by omega,ih k a (i+1) _ om om om om]
theorem mX (x:ByteArray) (hx:x.size≤1048576) (b:Int):∀(d k a i:Nat) (out:List ByteArray),i+d=x.size→d+3<k→a≤i→out.length≤i→gM.l0 k x b out (a:Int) (x.size:Int) (i:Int)=some (out ++ partsR x b d a i):=by
 intro d
 induction d with
 |zero=>
  intro k a i out hi hk ha ho
  obtain⟨k,rfl⟩:=sk k
  simp only[gM.l0]
  rw[ig om,ip om,ip om,ip om,Int.toNat_natCast,partsR]
 |succ d ih=>
  intro k a i out hi hk ha ho
  obtain⟨k,rfl⟩:=sk k
  simp only[gM.l0]
  rw[ip om,ip om,ip om,partsR]
  by_cases h:bt x (i:Int)=b
  ·rw[ip h,ip h,ip om,ip om,ip om,ip om,w_id (a:=(i:Int)+1) om om,show((i:Int)+1)=((i+1:Nat):Int) by omega,ih k (i+1) (i+1) _ om om om (by rw[List.length_append];simp;omega),List.append_assoc,Int.toNat_natCast,Int.toNat_natCast]
   rfl
  ·rw[ig h,ig h,w_id (a:=(i:Int)+1) om om,show((i:Int)+1)=((i+1:Nat):Int) by omega,ih k a (i+1) _ om om om om]
theorem pN (x:ByteArray) (hx:x.size≤1048576) (b:Int) (k:Nat) (hk:1048580<k):gL.f k x b=some (partsR x b x.size 0 0):=by
 unfold gL.f
 have:=mW x hx b x.size k 0 0 [] om om om (by simp)
 rw[List.nil_append]at this
 exact this
theorem pP (x:ByteArray) (hx:x.size≤1048576) (b:Int) (k:Nat) (hk:1048580<k):gM.f k x b=some (partsR x b x.size 0 0):=by
 unfold gM.f
 have:=mX x hx b x.size k 0 0 [] om om om (by simp)
 rw[List.nil_append]at this
 exact this
/-- A byte's letter. -/
def letP (b:Int):Option Int:=if 97≤b∧b≤105 then some (b - 96)else if 65≤b∧b≤73 then some (64 - b)else none
def bytesP (x:ByteArray):Nat→Nat→Option (List Int)
 |0,_=>some []
 |d+1,j=>match letP (bt x (j:Int)) with|none=>none|some y=>match bytesP x d (j+1) with|none=>none|some r=>some (y :: r)
theorem bytesP_len (x:ByteArray):∀(d j:Nat) (r:List Int),bytesP x d j=some r→r.length=d
 |0,j,r,h=>by have:=Option.some.inj h;subst this;rfl
 |d+1,j,r,h=>by
  rw[bytesP]at h
  cases h1:letP (bt x (j:Int)) with
  |none=>rw[h1]at h;exact absurd h (by simp)
  |some y=>
   rw[h1]at h
   cases h2:bytesP x d (j+1) with
   |none=>rw[h2]at h;exact absurd h (by simp)
   |some s=>
    rw[h2]at h
    have:=Option.some.inj h
    subst this
    rw[List.length_cons,bytesP_len x d (j+1) s h2]
def parseR:List ByteArray→List (List Int)→List (List Int) × Bool
 |[],out=>if isT out=true then(out,true) else([],false)
 |p :: ps,out=>match bytesP p p.size 0 with|none=>([],false)|some r=>parseR ps (out ++ [r])
theorem bt_bd (x:ByteArray) (i:Int):0≤bt x i∧bt x i≤255:=by
 unfold bt
 split
 ·have:=(x[i.toNat]).toNat_lt
  omega
 ·omega
theorem part_at (ps:List ByteArray) (i:Nat) (h:i<ps.length):rdOf ByteArray.empty ps (i:Int)=ps[i]:=by
 unfold rdOf
 simp[List.getD_eq_getElem?_getD,List.getElem?_eq_getElem h]
theorem mV (ps:List ByteArray) (i:Nat) (hi:i<ps.length) (hs:ps[i].size≤1048576) (out:List (List Int)) (ho:out.length≤1048600):∀(d j k:Nat) (row:List Int),j+d=ps[i].size→2*d<k→row.length≤j→
  fP.l1 k out ps (i:Int) row (j:Int)=(match bytesP ps[i] d j with|none=>some ([],false)|some r=>fP.l0 (k - 2*d - 1) (out ++ [row ++ r]) ps (wrap64 ((i:Int)+1))):=by
 intro d
 induction d with
 |zero=>
  intro j k row hj hk hr
  obtain⟨k,rfl⟩:=sk k
  simp only[fP.l1]
  rw[ip om,ip om,part_at ps i hi,ig om,ip om]
  simp[bytesP]
 |succ d ih=>
  intro j k row hj hk hr
  obtain⟨k,rfl⟩:∃m,k=m+2:=⟨k - 2,by omega⟩
  have hb:=bt_bd ps[i] (j:Int)
  rw[show k+2=(k+1)+1 from rfl]
  simp only[fP.l1]
  rw[ip om,ip om,part_at ps i hi,ip om,ip om,bytesP]
  simp only[fP.j2]
  generalize bt ps[i] (j:Int)=c at hb ⊢
  have hgo:∀y:Int,fP.l1 k out ps (i:Int) (row ++ [y]) (wrap64 ((j:Int)+1))=(match (match bytesP ps[i] d (j+1) with|none=>none|some r=>some (y :: r)) with|none=>some ([],false)|some r=>fP.l0 (k+1+1 - 2*(d+1) - 1) (out ++ [row ++ r]) ps (wrap64 ((i:Int)+1))):=by
   intro y
   rw[w_id (a:=(j:Int)+1) om om,show((j:Int)+1)=((j+1:Nat):Int) by omega,ih (j+1) k _ om om (by rw[List.length_append];simp;omega)]
   cases bytesP ps[i] d (j+1) with
   |none=>rfl
   |some r=>
    show fP.l0 _ _ _ _=fP.l0 _ _ _ _
    rw[List.append_assoc,show k+1+1 - 2*(d+1) - 1=k - 2*d - 1 by omega]
    rfl
  unfold letP
  by_cases h1:97≤c
  ·rw[ip h1]
   by_cases h2:c≤105
   ·rw[ip (by simpa using h2),ip (show row.length<17592186044416 by omega),ip (show 97≤c∧c≤105 from⟨h1,h2⟩),w_id (a:=c) om om,w_id (a:=c - 97) om om,w_id om om,hgo,show c - 97+1=c - 96 by omega]
   ·rw[ig (by simpa using h2),ig (show ¬(97≤c∧c≤105)from fun h=>h2 h.2),ip (show c ≥ 65 by omega),ig om,ig (show ¬(65≤c∧c≤73) by omega)]
  ·rw[ig h1,ig (show ¬(false=true) by decide),ig (show ¬(97≤c∧c≤105)from fun h=>h1 h.1)]
   by_cases h3:65≤c
   ·rw[ip h3]
    by_cases h4:c≤73
    ·rw[ip h4,ip (show row.length<17592186044416 by omega),ip (show 65≤c∧c≤73 from⟨h3,h4⟩),w_id (a:=c) om om,w_id (a:=c - 65) om om,w_id (a:=c - 65+1) om om,w_id om om,hgo,show -(c - 65+1)=64 - c by omega]
    ·rw[ig h4,ig (show ¬(65≤c∧c≤73)from fun h=>h4 h.2)]
   ·rw[ig h3,ig (show ¬(65≤c∧c≤73)from fun h=>h3 h.1)]
theorem mU (ps:List ByteArray) (hps:∀p∈ps,p.size≤1048576) (hn:ps.length≤1048590):∀(d i k:Nat) (out:List (List Int)),i+d=ps.length→2*sizes (ps.drop i)+6000002<k→out.length≤i→fP.l0 k out ps (i:Int)=some (parseR (ps.drop i) out):=by
 intro d
 induction d with
 |zero=>
  intro i k out hi hk ho
  obtain⟨k,rfl⟩:=sk k
  simp only[fP.l0]
  rw[ig om,spec_isT' out om k om,Option.bind_some,List.drop_of_length_le om,parseR]
  split <;> rfl
 |succ d ih=>
  intro i k out hi hk ho
  obtain⟨k,rfl⟩:=sk k
  have hlt:i<ps.length:=by omega
  have hs:=hps _ (List.getElem_mem hlt)
  rw[List.drop_eq_getElem_cons hlt,sizes]at hk
  have:=mV ps i hlt hs out om ps[i].size 0 k [] om om (by simp)
  simp only[fP.l0]
  rw[show((0:Nat):Int)=0 from rfl]at this
  rw[ip om,this,List.drop_eq_getElem_cons hlt,parseR]
  cases bytesP ps[i] ps[i].size 0 with
  |none=>rfl
  |some r=>
   show fP.l0 _ _ _ _=some (parseR _ _)
   rw[List.nil_append,w_id om om,show((i:Int)+1)=((i+1:Nat):Int) by omega,ih (i+1) _ _ om om (by rw[List.length_append];simp;omega)]
theorem mT (ps:List ByteArray) (x:ByteArray) (hs:x.size≤1048576) (m:Int) (i:Int) (out:List (List Int)) (ho:out.length≤1048600):∀(d j k:Nat) (row:List Int),j+d=x.size→2*d<k→row.length≤j→
  fR.l1 k out x row ps m i (x.size:Int) (j:Int)=(match bytesP x d j with|none=>some ([],false)|some r=>fR.l0 (k - 2*d - 1) (out ++ [row ++ r]) ps m (wrap64 (i+1))):=by
 intro d
 induction d with
 |zero=>
  intro j k row hj hk hr
  obtain⟨k,rfl⟩:=sk k
  simp only[fR.l1]
  rw[ig om,ip om]
  simp[bytesP]
 |succ d ih=>
  intro j k row hj hk hr
  obtain⟨k,rfl⟩:∃m,k=m+2:=⟨k - 2,by omega⟩
  have hb:=bt_bd x (j:Int)
  rw[show k+2=(k+1)+1 from rfl]
  simp only[fR.l1]
  rw[ip om,ip om,ip om,bytesP]
  simp only[fR.j2]
  generalize bt x (j:Int)=c at hb ⊢
  have hgo:∀y:Int,fR.l1 k out x (row ++ [y]) ps m i (x.size:Int) (wrap64 ((j:Int)+1))=(match (match bytesP x d (j+1) with|none=>none|some r=>some (y :: r)) with|none=>some ([],false)|some r=>fR.l0 (k+1+1 - 2*(d+1) - 1) (out ++ [row ++ r]) ps m (wrap64 (i+1))):=by
   intro y
   rw[w_id (a:=(j:Int)+1) om om,show((j:Int)+1)=((j+1:Nat):Int) by omega,ih (j+1) k _ om om (by rw[List.length_append];simp;omega)]
   cases bytesP x d (j+1) with
   |none=>rfl
   |some r=>
    show fR.l0 _ _ _ _ _=fR.l0 _ _ _ _ _
    rw[List.append_assoc,show k+1+1 - 2*(d+1) - 1=k - 2*d - 1 by omega]
    rfl
  unfold letP
  by_cases h1:97≤c
  ·rw[ip h1]
   by_cases h2:c≤105
   ·rw[ip (by rw[decide_eq_true_iff];omega),ip (show row.length<17592186044416 by omega),ip (show 97≤c∧c≤105 from⟨h1,h2⟩),hgo,show(c - 97) % 256+1=c - 96 by omega]
   ·rw[ig (by rw[decide_eq_true_iff];omega),ig (show ¬(97≤c∧c≤105)from fun h=>h2 h.2),ip (show c ≥ 65 by omega),ig om,ig (show ¬(65≤c∧c≤73) by omega)]
  ·rw[ig h1,ig (show ¬(false=true) by decide),ig (show ¬(97≤c∧c≤105)from fun h=>h1 h.1)]
   by_cases h3:65≤c
   ·rw[ip h3]
    by_cases h4:c≤73
    ·rw[ip (show c<74 by omega),ip (show row.length<17592186044416 by omega),ip (show 65≤c∧c≤73 from⟨h3,h4⟩),hgo,show -((c - 65) % 256) - 1=64 - c by omega]
    ·rw[ig (show ¬(c<74) by omega),ig (show ¬(65≤c∧c≤73)from fun h=>h4 h.2)]
   ·rw[ig h3,ig (show ¬(65≤c∧c≤73)from fun h=>h3 h.1)]
theorem mY (ps:List ByteArray) (hps:∀p∈ps,p.size≤1048576) (hn:ps.length≤1048590):∀(d i k:Nat) (out:List (List Int)),i+d=ps.length→2*sizes (ps.drop i)+6000002<k→out.length≤i→fR.l0 k out ps (ps.length:Int) (i:Int)=some (parseR (ps.drop i) out):=by
 intro d
 induction d with
 |zero=>
  intro i k out hi hk ho
  obtain⟨k,rfl⟩:=sk k
  simp only[fR.l0]
  rw[ig om,impl_isT' out om k om,Option.bind_some,List.drop_of_length_le om,parseR]
  split <;> rfl
 |succ d ih=>
  intro i k out hi hk ho
  obtain⟨k,rfl⟩:=sk k
  have hlt:i<ps.length:=by omega
  have hs:=hps _ (List.getElem_mem hlt)
  rw[List.drop_eq_getElem_cons hlt,sizes]at hk
  have:=mT ps ps[i] hs (ps.length:Int) (i:Int) out om ps[i].size 0 k [] om om (by simp)
  simp only[fR.l0]
  rw[show((0:Nat):Int)=0 from rfl]at this
  rw[ip om,ip om,ip om,part_at ps i hlt,this,List.drop_eq_getElem_cons hlt,parseR]
  cases bytesP ps[i] ps[i].size 0 with
  |none=>rfl
  |some r=>
   show fR.l0 _ _ _ _ _=some (parseR _ _)
   rw[List.nil_append,w_id om om,show((i:Int)+1)=((i+1:Nat):Int) by omega,ih (i+1) _ _ om om (by rw[List.length_append];simp;omega)]
theorem parse_true:∀(ps:List ByteArray) (out o:List (List Int)),parseR ps out=(o,true)→isT o=true∧o.length=out.length+ps.length∧tot o+o.length=tot out+out.length+sizes ps
 |[],out,o,h=>by
  rw[parseR]at h
  by_cases c:isT out=true
  ·rw[ip c]at h
   injection h with h _
   subst h
   exact⟨c,rfl,rfl⟩
  ·rw[ig c]at h
   injection h with _ h
   exact absurd h (by decide)
 |p :: ps,out,o,h=>by
  rw[parseR]at h
  cases hb:bytesP p p.size 0 with
  |none=>rw[hb]at h;injection h with _ h;exact absurd h (by decide)
  |some r=>
   rw[hb]at h
   obtain⟨h1,h2,h3⟩:=parse_true ps (out ++ [r]) o h
   have hl:=bytesP_len p _ _ r hb
   have ta:∀a:List (List Int),tot (a ++ [r])=tot a+r.length:=by
    intro a
    induction a with
    |nil=>simp[tot]
    |cons x a ih=>rw[List.cons_append,tot,tot,ih];omega
   rw[ta,List.length_append,List.length_singleton]at h3
   rw[List.length_append,List.length_singleton]at h2
   rw[List.length_cons,sizes]
   exact⟨h1,by omega,by omega⟩
theorem parse_false:∀(ps:List ByteArray) (out:List (List Int)),parseR ps out=([],false)∨∃o,parseR ps out=(o,true)
 |[],out=>by
  rw[parseR]
  split
  ·exact .inr ⟨_,rfl⟩
  ·exact .inl rfl
 |p :: ps,out=>by
  rw[parseR]
  split
  ·exact .inl rfl
  ·exact parse_false ps _
/-- The triangulation with a text. -/
def parseT (x:ByteArray):List (List Int) × Bool:=parseR (partsR x 32 x.size 0 0) []
theorem tot_three:∀(o:List (List Int)),(∀r∈o,r.length=3)→tot o=3*o.length
 |[],_=>rfl
 |r :: rs,h=>by
  rw[tot,h r List.mem_cons_self,tot_three rs (fun x hx=>h x (List.mem_cons_of_mem _ hx)),List.length_cons]
  omega
theorem parseT_cases (x:ByteArray) (hx:x.size≤1048576):parseT x=([],false)∨∃o,parseT x=(o,true)∧isT o=true∧o.length≤6∧(∀r∈o,r.length=3)∧x.size≤36:=by
 unfold parseT
 rcases parse_false (partsR x 32 x.size 0 0) []with h|⟨o,h⟩
 ·exact .inl h
 ·obtain⟨h1,h2,h3⟩:=parse_true _ _ _ h
  have hl:=parts_len x 32 x.size 0 0
  have hs:=parts_sizes x 32 x.size 0 0 om om
  rw[List.length_nil]at h2
  have ok:=isT_ok' (t:=o) om h1
  have hsh:=ok.short
  have ht:=tot_three o ok.row
  refine .inr ⟨o,h,h1,hsh.1,ok.row,?_⟩
  rw[hs]at h3
  simp only[tot,List.length_nil]at h3
  omega
theorem part_size (x:ByteArray) (b:Int):∀(d a i:Nat),∀p∈partsR x b d a i,p.size≤x.size
 |0,a,i,p,hp=>by
  rw[partsR,List.mem_singleton]at hp
  rw[hp,ByteArray.size_extract]
  omega
 |d+1,a,i,p,hp=>by
  rw[partsR]at hp
  split at hp
  ·rcases List.mem_cons.1 hp with rfl|hp
   ·rw[ByteArray.size_extract];omega
   ·exact part_size x b d _ _ p hp
  ·exact part_size x b d _ _ p hp
theorem mH (x:ByteArray) (hx:x.size≤1048576) (k:Nat) (hk:9000000<k):fP.f k x=some (parseT x):=by
 unfold fP.f parseT
 have hl:=parts_len x 32 x.size 0 0
 have hs:=parts_sizes x 32 x.size 0 0 om om
 rw[pN x hx 32 k om,Option.bind_some]
 have:=mU (partsR x 32 x.size 0 0) (fun p hp=>Nat.le_trans (part_size x 32 _ _ _ p hp) hx) om _ 0 k [] (Nat.zero_add _) (by rw[List.drop_zero,hs];omega) (by simp)
 rw[List.drop_zero]at this
 exact this
theorem mO (x:ByteArray) (hx:x.size≤1048576) (k:Nat) (hk:9000000<k):fR.f k x=some (parseT x):=by
 unfold fR.f
 by_cases h:(x.size:Int)>36
 ·rw[ip h]
  rcases parseT_cases x hx with h2|⟨o,_,_,_,_,h2⟩
  ·rw[h2]
  ·omega
 ·rw[ig h]
  unfold parseT
  have hl:=parts_len x 32 x.size 0 0
  have hs:=parts_sizes x 32 x.size 0 0 om om
  rw[pP x hx 32 k om,Option.bind_some]
  have:=mY (partsR x 32 x.size 0 0) (fun p hp=>Nat.le_trans (part_size x 32 _ _ _ p hp) hx) om _ 0 k [] (Nat.zero_add _) (by rw[List.drop_zero,hs];omega) (by simp)
  rw[List.drop_zero]at this
  exact this
end Go.Proofs.Ytflbpjijgnmklaa.L

namespace Go.Proofs.Ytflbpjijgnmklaa.L
open Go.RowKit Go.Proofs.Ytflbpjijgnmklaa.P Go.Proofs.Ytflbpjijgnmklaa.Help Go.Proofs.YtflbpjijgnmklaaW.PrintWords Go.Proofs.YtflbpjijgnmklaaW.PrintLast Go.Proofs.YtflbpjijgnmklaaW.PrintMore
set_option linter.unusedVariables false
set_option linter.unusedSimpArgs false

/-- The letter of a side. -/
def ltT (x:Int):ByteArray:=if x>0 then(⟨#[97,98,99,100,101,102,103,104,105]⟩:ByteArray).extract (x - 1).toNat x.toNat else(⟨#[65,66,67,68,69,70,71,72,73]⟩:ByteArray).extract (-x - 1).toNat (-x).toNat
theorem ltT_size (x:Int):(ltT x).size≤1:=by
 unfold ltT
 split <;> (rw[ByteArray.size_extract];omega)
theorem letPos:∀i:Fin 9,jQ.f (((i:Nat):Int)+1)=some (ltT (((i:Nat):Int)+1)):=by decide+kernel
theorem letN:∀i:Fin 9,jQ.f (-(((i:Nat):Int)+1))=some (ltT (-(((i:Nat):Int)+1))):=by decide+kernel
theorem let_f {x:Int} (h0:x≠0) (h1: -9≤x) (h2:x≤9):jQ.f x=some (ltT x):=by
 rcases Int.lt_or_le 0 x with h|h
 ·have:=letPos ⟨(x - 1).toNat,by omega⟩
  dsimp only at this
  rwa [show(((x - 1).toNat:Int)+1)=x by omega]at this
 ·have:=letN ⟨(-x - 1).toNat,by omega⟩
  dsimp only at this
  rwa [show -(((-x - 1).toNat:Int)+1)=x by omega]at this
def pre (r:List Int):Nat→ByteArray
 |0=>⟨#[]⟩
 |j+1=>pre r j ++ ltT (r.getD j 0)
theorem pre_size (r:List Int):∀j,(pre r j).size≤j
 |0=>Nat.le_refl _
 |j+1=>by
  have:=pre_size r j
  have:=ltT_size (r.getD j 0)
  rw[pre,ByteArray.size_append]
  omega
theorem getD_t {w:List Int}{i:Nat} (h:i<w.length):w.getD i 0=w[i]:=by
 rw[List.getD_eq_getElem?_getD,List.getElem?_eq_getElem h]
 rfl
theorem mL {t:List (List Int)}{n:Int} (ok:TriOk t n){i:Nat} (hi:i<t.length) (out:List ByteArray) (ho:out.length≤10):∀(d k j:Nat),j+d=3→d<k→gA.l1 k t out (i:Int) (pre t[i] j) (j:Int)=gA.l0 (k - d - 1) t (out ++ [pre t[i] 3]) ((i+1:Nat):Int)
 |0,k,j,hj,hk=>by
  obtain⟨k,rfl⟩:=sk k
  have hs:=ok.short
  obtain rfl:j=3:=by omega
  conv=>lhs;unfold gA.l1
  rw[ig om,ip om,w_id om om,show((i:Int)+1)=((i+1:Nat):Int) by omega,show k+1 - 0 - 1=k by omega]
 |d+1,k,j,hj,hk=>by
  obtain⟨k,rfl⟩:=sk k
  have hs:=ok.short
  have h3:=ok.three hi
  have hlt:j<t[i].length:=by omega
  have n9:=ok.n9
  obtain⟨x0,x1,x2⟩:=ok.at hi hlt
  have ih:=mL ok hi out ho d k (j+1) om om
  have hp:=pre_size t[i] j
  rw[pre,getD_t hlt]at ih
  have hsz:=ltT_size t[i][j]
  conv=>lhs;unfold gA.l1
  rw[ip om,ip om,ip om,ip om,rdL_nat t i hi,ip om,rd_nat _ j hlt,show k+1 - (d+1) - 1=k - d - 1 by omega]
  have ej:((j:Int)+1)=((j+1:Nat):Int):=by omega
  by_cases h:t[i][j]>0
  ·have e:ltT t[i][j]=(⟨#[97,98,99,100,101,102,103,104,105]⟩:ByteArray).extract (t[i][j] - 1).toNat (t[i][j]).toNat:=by unfold ltT;rw[ip h]
   rw[ip h,w_id (a:=t[i][j] - 1) om om,ip om,ip om,ip om, ←e,ip om,w_id (a:=(j:Int)+1) om om,ej]
   exact ih
  ·have e:ltT t[i][j]=(⟨#[65,66,67,68,69,70,71,72,73]⟩:ByteArray).extract (-t[i][j] - 1).toNat (-t[i][j]).toNat:=by unfold ltT;rw[ig h]
   rw[ig h,w_id (a:= -t[i][j]) om om,w_id (a:= -t[i][j] - 1) om om,ip om,ip om,ip om, ←e,ip om,w_id (a:=(j:Int)+1) om om,ej]
   exact ih
theorem mK {t:List (List Int)}{n:Int} (ok:TriOk t n){i:Nat} (hi:i<t.length) (out:List ByteArray) (ho:out.length≤10):∀(d k j:Nat),j+d=3→d<k→gJ.l1 k out (pre t[i] j) t (t.length:Int) (i:Int) t[i] (t[i].length:Int) (j:Int)=gJ.l0 (k - d - 1) (out ++ [pre t[i] 3]) t (t.length:Int) ((i+1:Nat):Int)
 |0,k,j,hj,hk=>by
  obtain⟨k,rfl⟩:=sk k
  have hs:=ok.short
  have h3:=ok.three hi
  obtain rfl:j=3:=by omega
  conv=>lhs;unfold gJ.l1
  rw[ig om,ip om,w_id om om,show((i:Int)+1)=((i+1:Nat):Int) by omega,show k+1 - 0 - 1=k by omega]
 |d+1,k,j,hj,hk=>by
  obtain⟨k,rfl⟩:=sk k
  have hs:=ok.short
  have h3:=ok.three hi
  have hlt:j<t[i].length:=by omega
  have n9:=ok.n9
  obtain⟨x0,x1,x2⟩:=ok.at hi hlt
  have ih:=mK ok hi out ho d k (j+1) om om
  have hp:=pre_size t[i] j
  rw[pre,getD_t hlt]at ih
  have hsz:=ltT_size t[i][j]
  have ej:((j:Int)+1)=((j+1:Nat):Int):=by omega
  conv=>lhs;unfold gJ.l1
  rw[ip om,ip om,ip om,rd_nat _ j hlt,let_f x0 om om,Option.bind_some,ip om,w_id (a:=(j:Int)+1) om om,ej,show k+1 - (d+1) - 1=k - d - 1 by omega]
  exact ih
def texts (t:List (List Int)):List ByteArray:=t.map fun r=>pre r 3
theorem texts_len (t:List (List Int)):(texts t).length=t.length:=by simp[texts]
theorem texts_at (t:List (List Int)){i:Nat} (h:i<(texts t).length):(texts t)[i]=pre (t[i]'(by rw[texts_len]at h;exact h)) 3:=by simp[texts]
def sp:ByteArray:=⟨#[32]⟩
/-- The texts joined, up to a place. -/
def JJ (L:List ByteArray) (i:Nat):List UInt8:=Lib.join ((L.take i).map (·.data.toList)) sp.data.toList
theorem JJ_one (L:List ByteArray) (h:0<L.length):JJ L 1=L[0].data.toList:=by
 unfold JJ
 match L,h with
 |x :: r,_=>simp[Lib.join_one]
theorem JJ_succ (L:List ByteArray){i:Nat} (h0:0<i) (h:i<L.length):JJ L (i+1)=JJ L i ++ (sp.data.toList ++ L[i].data.toList):=by
 unfold JJ
 match L,i,h0,h with
 |x :: r,i+1,_,h=>
  have h':i<r.length:=by simpa using h
  rw[List.take_succ_cons,List.take_succ_cons,List.map_cons,List.map_cons,Lib.join_cons,Lib.join_cons,List.append_assoc]
  congr 1
  have:=Lib.joinTail_take_succ sp.data.toList (r.map (·.data.toList)) i (r[i].data.toList) (by rw[List.getElem?_map,List.getElem?_eq_getElem h'];rfl)
  rw[List.map_take,List.map_take,this,List.append_assoc]
  rfl
theorem dat_len (s:ByteArray):s.data.toList.length=s.size:=by rw[Array.length_toList];rfl
theorem JJ_len {L:List ByteArray} (hL:∀s∈L,s.size≤3):∀i,i≤L.length→(JJ L i).length≤4*i
 |0,_=>by simp[JJ,Lib.join_nil]
 |1,h=>by
  rw[JJ_one L om,dat_len]
  have:=hL L[0] (List.getElem_mem om)
  omega
 |i+2,h=>by
  have ih:=JJ_len hL (i+1) om
  have:=hL L[i+1] (List.getElem_mem om)
  rw[JJ_succ L om om,List.length_append,List.length_append,dat_len,dat_len]
  have:sp.size=1:=rfl
  omega
def bL (l:List UInt8):List Int:=l.map fun b=>(b.toNat:Int)
theorem bL_app (a b:List UInt8):bL (a ++ b)=bL a ++ bL b:=by simp[bL]
theorem bL_len (a:List UInt8):(bL a).length=a.length:=by simp[bL]
theorem str_bL (l:List UInt8):strOfNums (bL l)=⟨l.toArray⟩:=by
 unfold strOfNums bL
 rw[List.map_map]
 congr 2
 conv=>rhs;rw[←List.map_id l]
 apply List.map_congr_left
 intro b _
 simp
theorem rdOf_at (L:List ByteArray){i:Nat} (h:i<L.length):rdOf ByteArray.empty L (i:Int)=L[i]:=by
 unfold rdOf
 rw[Int.toNat_natCast,List.getD_eq_getElem?_getD,List.getElem?_eq_getElem h]
 rfl
theorem mR {L:List ByteArray} (h6:L.length≤10) (hL:∀s∈L,s.size≤3):∀(d k i:Nat),i+d=L.length→d<k→gY.l0 k L sp (bL (JJ L i)) (i:Int)=some (⟨(JJ L L.length).toArray⟩:ByteArray)
 |0,k,i,hi,hk=>by
  obtain⟨k,rfl⟩:=sk k
  conv=>lhs;unfold gY.l0
  rw[ig om,str_bL,show i=L.length by omega]
 |d+1,k,i,hi,hk=>by
  obtain⟨k,rfl⟩:=sk k
  have hlt:i<L.length:=by omega
  have hl:=JJ_len hL i om
  have hz:=hL L[i] (List.getElem_mem hlt)
  have ih:=mR h6 hL d k (i+1) om om
  have es:sp.size=1:=rfl
  have ei1:((i:Int)+1)=((i+1:Nat):Int):=by omega
  have eb:bytesOf sp=bL sp.data.toList:=rfl
  have ei:bytesOf L[i]=bL L[i].data.toList:=rfl
  conv=>lhs;unfold gY.l0
  rw[ip om,rdOf_at L hlt,w_id (a:=(i:Int)+1) om om,ei1]
  by_cases h0:i=0
  ·subst h0
   have e0:JJ L 0=[]:=rfl
   rw[ig om,ip om,ip (by rw[e0,bL_len];simp;omega),e0,ei]
   rw[JJ_one L hlt]at ih
   exact ih
  ·rw[ip om,ip (by rw[bL_len];omega),Option.bind_some,ip om,ip (by rw[List.length_append,bL_len,eb,bL_len,dat_len];omega),eb,ei,List.append_assoc, ←bL_app, ←bL_app, ←JJ_succ L om hlt]
   exact ih
theorem texts_small (t:List (List Int)):∀s∈texts t,s.size≤3:=by
 intro s hs
 obtain⟨r,_,rfl⟩:=List.mem_map.1 hs
 exact pre_size r 3
def triT (t:List (List Int)):ByteArray:=if isT t=true then⟨(JJ (texts t) t.length).toArray⟩ else⟨#[]⟩
theorem mP {t:List (List Int)}{n:Int} (ok:TriOk t n):∀(d k i:Nat),i+d=t.length→5*d+20<k→gA.l0 k t ((texts t).take i) (i:Int)=some (⟨(JJ (texts t) t.length).toArray⟩:ByteArray)
 |0,k,i,hi,hk=>by
  obtain⟨k,rfl⟩:=sk k
  have hs:=ok.short
  have hl:=texts_len t
  have:=mR (L:=texts t) om (texts_small t) (texts t).length k 0 om om
  rw[hl]at this
  conv=>lhs;unfold gA.l0
  rw[ig om,List.take_of_length_le om]
  unfold gY.f
  rw[show(⟨#[32]⟩:ByteArray)=sp from rfl,show gY.l0 k (texts t) sp [] 0=some (⟨(JJ (texts t) t.length).toArray⟩:ByteArray)from this,Option.bind_some]
 |d+1,k,i,hi,hk=>by
  obtain⟨k,rfl⟩:=sk k
  have hs:=ok.short
  have hl:=texts_len t
  have hlt:i<t.length:=by omega
  have hr:=mL ok hlt ((texts t).take i) (by rw[List.length_take];omega) 3 k 0 om om
  have ht:(texts t).take i ++ [pre t[i] 3]=(texts t).take (i+1):=by
   rw[List.take_succ_eq_append_getElem om,texts_at]
  conv=>lhs;unfold gA.l0
  rw[ip om]
  refine hr.trans ?_
  rw[ht]
  exact mP ok d (k - 3 - 1) (i+1) om om
theorem mM {t:List (List Int)}{n:Int} (ok:TriOk t n):∀(d k i:Nat),i+d=t.length→5*d+20<k→gJ.l0 k ((texts t).take i) t (t.length:Int) (i:Int)=some (⟨(JJ (texts t) t.length).toArray⟩:ByteArray)
 |0,k,i,hi,hk=>by
  obtain⟨k,rfl⟩:=sk k
  have hs:=ok.short
  have hl:=texts_len t
  have hj:=JJ_len (texts_small t) (texts t).length (Nat.le_refl _)
  have ej:JJ (texts t) (texts t).length=Lib.join ((texts t).map (·.data.toList)) sp.data.toList:=by unfold JJ;rw[List.take_length]
  conv=>lhs;unfold gJ.l0
  rw[ig om,List.take_of_length_le om,show(⟨#[32]⟩:ByteArray)=sp from rfl]
  unfold mD.f
  rw[ip om, ←ej,ip om,Option.bind_some,hl]
 |d+1,k,i,hi,hk=>by
  obtain⟨k,rfl⟩:=sk k
  have hs:=ok.short
  have hl:=texts_len t
  have hlt:i<t.length:=by omega
  have hr:=mK ok hlt ((texts t).take i) (by rw[List.length_take];omega) 3 k 0 om om
  have ht:(texts t).take i ++ [pre t[i] 3]=(texts t).take (i+1):=by
   rw[List.take_succ_eq_append_getElem om,texts_at]
  conv=>lhs;unfold gJ.l0
  rw[ip om,ip om,ip om,rdL_nat t i hlt]
  refine hr.trans ?_
  rw[ht]
  exact mM ok d (k - 3 - 1) (i+1) om om
theorem pL (t:List (List Int)) (ht:t.length≤1048576) (k:Nat) (hk:6000000<k):gA.f k t=some (triT t):=by
 unfold gA.f triT
 rw[mG t ht k om,Option.bind_some]
 by_cases h:isT t=true
 ·rw[ip h,ip h]
  exact mP (isT_ok ht h) t.length k 0 om om
 ·rw[ig h,ig h]
theorem pS (t:List (List Int)) (ht:t.length≤1048576) (k:Nat) (hk:6000000<k):gJ.f k t=some (triT t):=by
 unfold gJ.f triT
 rw[mE t ht k om,Option.bind_some]
 by_cases h:isT t=true
 ·rw[ip h,ip h]
  exact mM (isT_ok ht h) t.length k 0 om om
 ·rw[ig h,ig h]
end Go.Proofs.Ytflbpjijgnmklaa.L

namespace Go.Proofs.Ytflbpjijgnmklaa.UF
open Go.Proofs.YtflbpjijgnmklaaW.PrintWords (om sk ip ig)
set_option linter.unusedVariables false

/-- The number that a number points to. -/
def P (up:List Int) (i:Int):Int:=up.getD i.toNat 0
/-- The way from i ends at r. -/
inductive Root (up:List Int):Int→Int→Prop
 |here {r:Int} (h:P up r=r):Root up r r
 |step {i r:Int} (h:P up i≠i) (k:Root up (P up i) r):Root up i r
theorem Root.root {up:List Int}{i r:Int} (h:Root up i r):P up r=r:=by
 induction h with
 |here h=>exact h
 |step _ _ ih=>exact ih
theorem Root.uniq {up:List Int}{i r:Int} (h:Root up i r):∀ {s:Int},Root up i s→r=s:=by
 induction h with
 |here h=>
  intro s hs
  cases hs with
  |here _=>rfl
  |step h2 _=>exact absurd h h2
 |step h k ih=>
  intro s hs
  cases hs with
  |here h2=>exact absurd h2 h
  |step _ k2=>exact ih k2
/-- A forest: every number points to a number, every way ends. -/
def Ok (up:List Int):Prop:=∀i:Int,0≤i→i<up.length→(0≤P up i∧P up i<up.length)∧∃r,Root up i r
theorem Ok.bd {up:List Int} (h:Ok up){i r:Int} (hr:Root up i r):0≤i→i<up.length→0≤r∧r<up.length:=by
 induction hr with
 |here _=>exact fun h0 h1=>⟨h0,h1⟩
 |step _ _ ih=>exact fun h0 h1=>ih (h _ h0 h1).1.1 (h _ h0 h1).1.2
theorem P_set {up:List Int}{a b i:Int} (ha:0≤a) (ha1:a<up.length) (hi:0≤i):P (up.set a.toNat b) i=if i=a then b else P up i:=by
 unfold P
 by_cases h:i=a
 ·subst h
  rw[ip rfl,List.getD_eq_getElem?_getD,List.getElem?_set_self om]
  rfl
 ·rw[ig h,List.getD_eq_getElem?_getD,List.getD_eq_getElem?_getD,List.getElem?_set_ne om]
theorem set_other {up:List Int} (hok:Ok up){ra rb:Int} (ha:0≤ra∧ra<up.length) (hra:P up ra=ra){i r:Int} (h:Root up i r):0≤i→i<up.length→r≠ra→Root (up.set ra.toNat rb) i r:=by
 induction h with
 |here h=>
  intro h0 h1 hne
  exact .here (by rw[P_set ha.1 ha.2 h0,ig hne];exact h)
 |@step i r h k ih=>
  intro h0 h1 hne
  have hi:i≠ra:=fun e=>h (by rw[e];exact hra)
  have hp:P (up.set ra.toNat rb) i=P up i:=by rw[P_set ha.1 ha.2 h0,ig hi]
  exact .step (by rw[hp];exact h) (by rw[hp];exact ih (hok i h0 h1).1.1 (hok i h0 h1).1.2 hne)
theorem set_same {up:List Int} (hok:Ok up){ra rb:Int} (ha:0≤ra∧ra<up.length) (hb:0≤rb∧rb<up.length) (hra:P up ra=ra) (hrb:P up rb=rb){i r:Int} (h:Root up i r):0≤i→i<up.length→r=ra→Root (up.set ra.toNat rb) i rb:=by
 induction h with
 |@here r h=>
  intro h0 h1 e
  subst e
  by_cases hab:r=rb
  ·subst hab
   exact .here (by rw[P_set ha.1 ha.2 h0,ip rfl])
  ·have hp:P (up.set r.toNat rb) r=rb:=by rw[P_set ha.1 ha.2 h0,ip rfl]
   refine .step (by rw[hp];exact fun e=>hab e.symm) ?_
   rw[hp]
   exact set_other hok ha hra (.here hrb) hb.1 hb.2 (fun e=>hab e.symm)
 |@step i r h k ih=>
  intro h0 h1 e
  have hi:i≠ra:=fun e=>h (by rw[e];exact hra)
  have hp:P (up.set ra.toNat rb) i=P up i:=by rw[P_set ha.1 ha.2 h0,ig hi]
  exact .step (by rw[hp];exact h) (by rw[hp];exact ih (hok i h0 h1).1.1 (hok i h0 h1).1.2 e)
theorem Ok.set {up:List Int} (hok:Ok up){ra rb:Int} (ha:0≤ra∧ra<up.length) (hb:0≤rb∧rb<up.length) (hra:P up ra=ra) (hrb:P up rb=rb):Ok (up.set ra.toNat rb):=by
 intro i h0 h1
 rw[List.length_set]at h1
 refine⟨?_,?_⟩
 ·rw[P_set ha.1 ha.2 h0,List.length_set]
  split
  ·exact hb
  ·exact(hok i h0 h1).1
 ·obtain⟨r,hr⟩:=(hok i h0 h1).2
  by_cases e:r=ra
  ·exact⟨rb,set_same hok ha hb hra hrb hr h0 h1 e⟩
  ·exact⟨r,set_other hok ha hra hr h0 h1 e⟩
/-- Two numbers of one class. -/
def Same (up:List Int) (i j:Int):Prop:=∃r,Root up i r∧Root up j r
/-- Being of one class, as pairs make it, among the numbers below n. -/
inductive Cls (n:Int) (ps:List (Int × Int)):Int→Int→Prop
 |refl {i:Int} (h0:0≤i) (h1:i<n):Cls n ps i i
 |pair {i j:Int} (h:(i,j)∈ps) (h0:0≤i) (h1:i<n) (h2:0≤j) (h3:j<n):Cls n ps i j
 |symm {i j:Int} (h:Cls n ps i j):Cls n ps j i
 |trans {i j k:Int} (h:Cls n ps i j) (h2:Cls n ps j k):Cls n ps i k
theorem Cls.bd {n:Int}{ps:List (Int × Int)}{i j:Int} (h:Cls n ps i j):(0≤i∧i<n)∧(0≤j∧j<n):=by
 induction h with
 |refl h0 h1=>exact⟨⟨h0,h1⟩,h0,h1⟩
 |pair _ h0 h1 h2 h3=>exact⟨⟨h0,h1⟩,h2,h3⟩
 |symm _ ih=>exact⟨ih.2,ih.1⟩
 |trans _ _ ih1 ih2=>exact⟨ih1.1,ih2.2⟩
theorem Cls.mono {n:Int}{ps qs:List (Int × Int)} (hs:∀p,p∈ps→p∈qs){i j:Int} (h:Cls n ps i j):Cls n qs i j:=by
 induction h with
 |refl h0 h1=>exact .refl h0 h1
 |pair h h0 h1 h2 h3=>exact .pair (hs _ h) h0 h1 h2 h3
 |symm _ ih=>exact .symm ih
 |trans _ _ ih1 ih2=>exact .trans ih1 ih2
/-- The forest that stands for pairs. -/
structure Stands (up:List Int) (n:Int) (ps:List (Int × Int)):Prop where
 ok:Ok up
 len:(up.length:Int)=n
 cls:∀i j,Cls n ps i j↔(0≤i∧i<n)∧(0≤j∧j<n)∧Same up i j
theorem Stands.join {up:List Int}{n:Int}{ps:List (Int × Int)} (h:Stands up n ps){a b ra rb:Int} (ha:0≤a∧a<n) (hb:0≤b∧b<n) (hra:Root up a ra) (hrb:Root up b rb):
  Stands (up.set ra.toNat rb) n (ps ++ [(a,b)])∧Stands (up.set rb.toNat ra) n (ps ++ [(a,b)]):=by
 have hl:=h.len
 have gen:∀(x y rx ry:Int),0≤x∧x<n→0≤y∧y<n→Root up x rx→Root up y ry→(∀i j,Cls n (ps ++ [(a,b)]) i j↔Cls n (ps ++ [(x,y)]) i j)→Stands (up.set rx.toNat ry) n (ps ++ [(a,b)]):=by
  intro x y rx ry hx hy hrx hry heq
  have bx:=h.ok.bd hrx hx.1 om
  have by':=h.ok.bd hry hy.1 om
  have hok:=h.ok.set bx by' hrx.root hry.root
  refine⟨hok,by rw[List.length_set];exact hl,fun i j=>?_⟩
  rw[heq]
  constructor
  ·intro hc
   refine⟨hc.bd.1,hc.bd.2,?_⟩
   induction hc with
   |@refl i h0 h1=>
    obtain⟨r,hr⟩:=(hok i h0 (by rw[List.length_set];omega)).2
    exact⟨r,hr,hr⟩
   |@pair i j hp h0 h1 h2 h3=>
    rcases List.mem_append.1 hp with hp|hp
    ·obtain⟨r,r1,r2⟩:=((h.cls i j).1 (.pair hp h0 h1 h2 h3)).2.2
     by_cases e:r=rx
     ·exact⟨ry,set_same h.ok bx by' hrx.root hry.root r1 h0 om e,set_same h.ok bx by' hrx.root hry.root r2 h2 om e⟩
     ·exact⟨r,set_other h.ok bx hrx.root r1 h0 om e,set_other h.ok bx hrx.root r2 h2 om e⟩
    ·have:(i,j)=(x,y):=by simpa using hp
     obtain⟨rfl,rfl⟩:=Prod.mk.inj this
     refine⟨ry,set_same h.ok bx by' hrx.root hry.root hrx h0 om rfl,?_⟩
     by_cases e:ry=rx
     ·exact set_same h.ok bx by' hrx.root hry.root hry h2 om e
     ·exact set_other h.ok bx hrx.root hry h2 om e
   |symm _ ih=>obtain⟨r,r1,r2⟩:=ih;exact⟨r,r2,r1⟩
   |trans _ _ ih1 ih2=>
    obtain⟨r,r1,r2⟩:=ih1
    obtain⟨s,s1,s2⟩:=ih2
    obtain rfl:=r2.uniq s1
    exact⟨r,r1,s2⟩
  ·rintro ⟨hi,hj,s,s1,s2⟩
   have old:∀i,0≤i∧i<n→Root (up.set rx.toNat ry) i s→∃r,Root up i r∧(r=rx∧s=ry∨r≠rx∧s=r):=by
    intro i hi hs
    obtain⟨r,hr⟩:=(h.ok i hi.1 om).2
    refine⟨r,hr,?_⟩
    by_cases e:r=rx
    ·exact .inl ⟨e,hs.uniq (set_same h.ok bx by' hrx.root hry.root hr hi.1 om e)⟩
    ·exact .inr ⟨e,hs.uniq (set_other h.ok bx hrx.root hr hi.1 om e)⟩
   have up':∀ {i j},Cls n ps i j→Cls n (ps ++ [(x,y)]) i j:=fun hc=>hc.mono (fun p hp=>List.mem_append_left _ hp)
   have hxy:Cls n (ps ++ [(x,y)]) x y:= .pair (by simp) hx.1 hx.2 hy.1 hy.2
   obtain⟨r1,q1,c1⟩:=old i hi s1
   obtain⟨r2,q2,c2⟩:=old j hj s2
   have same:∀ {u v r},0≤u∧u<n→0≤v∧v<n→Root up u r→Root up v r→Cls n (ps ++ [(x,y)]) u v:=fun hu hv a1 a2=>up' ((h.cls _ _).2 ⟨hu,hv,_,a1,a2⟩)
   rcases c1 with ⟨e1,f1⟩|⟨e1,f1⟩
   ·subst e1
    rcases c2 with ⟨e2,f2⟩|⟨e2,f2⟩
    ·subst e2
     exact same hi hj q1 q2
    ·have:r2=ry:=by rw[←f2];exact f1
     subst this
     exact(same hi hx q1 hrx).trans (hxy.trans (same hy hj hry q2))
   ·rcases c2 with ⟨e2,f2⟩|⟨e2,f2⟩
    ·subst e2
     have:r1=ry:=by rw[←f1];exact f2
     subst this
     exact(same hi hy q1 hry).trans (hxy.symm.trans (same hx hj hrx q2))
    ·have:r1=r2:=by rw[←f1];exact f2
     subst this
     exact same hi hj q1 q2
 refine⟨gen a b ra rb ha hb hra hrb (fun _ _=>Iff.rfl),gen b a rb ra hb ha hrb hra (fun i j=>?_)⟩
 have swap:∀ {u v:Int}{i j:Int},Cls n (ps ++ [(u,v)]) i j→Cls n (ps ++ [(v,u)]) i j:=by
  intro u v i j hc
  induction hc with
  |refl h0 h1=>exact .refl h0 h1
  |@pair i j hp h0 h1 h2 h3=>
   rcases List.mem_append.1 hp with hp|hp
   ·exact .pair (List.mem_append_left _ hp) h0 h1 h2 h3
   ·have:(i,j)=(u,v):=by simpa using hp
    obtain⟨rfl,rfl⟩:=Prod.mk.inj this
    exact .symm (.pair (by simp) h2 h3 h0 h1)
  |symm _ ih=>exact .symm ih
  |trans _ _ ih1 ih2=>exact .trans ih1 ih2
 exact⟨swap,swap⟩
/-- The numbers from 0 on, each for itself. -/
def alone (n:Nat):List Int:=(List.range n).map fun (i:Nat)=>(i:Int)
theorem alone_P (n:Nat) (i:Int) (h0:0≤i) (h1:i<n):P (alone n) i=i:=by
 unfold P alone
 rw[List.getD_eq_getElem?_getD,List.getElem?_map,List.getElem?_range om]
 simp
 omega
theorem alone_stands (n:Nat):Stands (alone n) n []:=by
 have hlen:(alone n).length=n:=by simp[alone]
 have hok:Ok (alone n):=by
  intro i h0 h1
  rw[hlen]at h1 ⊢
  have:=alone_P n i h0 h1
  exact⟨by omega,i, .here this⟩
 refine⟨hok,by rw[hlen],fun i j=>?_⟩
 constructor
 ·intro hc
  refine⟨hc.bd.1,hc.bd.2,?_⟩
  have:i=j:=by
   induction hc with
   |refl _ _=>rfl
   |pair h _ _ _ _=>cases h
   |symm _ ih=>exact ih.symm
   |trans _ _ ih1 ih2=>exact ih1.trans ih2
  subst this
  exact⟨i, .here (alone_P n i hc.bd.1.1 hc.bd.1.2), .here (alone_P n i hc.bd.1.1 hc.bd.1.2)⟩
 ·rintro ⟨hi,hj,r,r1,r2⟩
  have e1:=r1.uniq (.here (alone_P n i hi.1 hi.2))
  have e2:=r2.uniq (.here (alone_P n j hj.1 hj.2))
  have:i=j:=by rw[←e1, ←e2]
  subst this
  exact .refl hi.1 hi.2
/-- The numbers below n that point to themselves. -/
def roots (up:List Int):List Nat:=(List.range up.length).filter fun k=>decide (P up (k:Int)=(k:Int))
theorem roots_nodup (up:List Int):(roots up).Nodup:=List.Pairwise.filter _ List.nodup_range
theorem mem_roots {up:List Int}{k:Nat}:k∈roots up↔k<up.length∧P up (k:Int)=(k:Int):=by
 unfold roots
 rw[List.mem_filter,List.mem_range]
 simp
/-- The root of a number's class. -/
noncomputable def rt (up:List Int) (i:Int):Int:=by
 classical
 exact if h:∃r,Root up i r then h.choose else i
theorem rt_of {up:List Int}{i r:Int} (h:Root up i r):rt up i=r:=by
 have hx:∃r,Root up i r:=⟨r,h⟩
 unfold rt
 rw[dif_pos hx]
 exact hx.choose_spec.uniq h
theorem Ok.rt {up:List Int} (h:Ok up){i:Int} (h0:0≤i) (h1:i<up.length):Root up i (UF.rt up i):=by
 obtain⟨r,hr⟩:=(h i h0 h1).2
 rw[rt_of hr]
 exact hr
theorem Ok.rt_mem {up:List Int} (h:Ok up){i:Int} (h0:0≤i) (h1:i<up.length):(UF.rt up i).toNat∈roots up∧((UF.rt up i).toNat:Int)=UF.rt up i:=by
 have hr:=h.rt h0 h1
 have hb:=h.bd hr h0 h1
 have e:((UF.rt up i).toNat:Int)=UF.rt up i:=by omega
 exact⟨mem_roots.2 ⟨by omega,by rw[e];exact hr.root⟩,e⟩
theorem map_nodup {α β:Type} (f:α→β):∀ {l:List α},l.Nodup→(∀a b,a∈l→b∈l→f a=f b→a=b)→(l.map f).Nodup
 |[],_,_=>List.nodup_nil
 |x :: t,h,hf=>by
  have h':=List.nodup_cons.1 h
  rw[List.map_cons,List.nodup_cons]
  refine⟨fun hc=>?_,map_nodup f h'.2 (fun a b ha hb=>hf a b (List.mem_cons_of_mem _ ha) (List.mem_cons_of_mem _ hb))⟩
  obtain⟨y,hy,e⟩:=List.mem_map.1 hc
  have:=hf y x (List.mem_cons_of_mem _ hy) List.mem_cons_self e
  subst this
  exact h'.1 hy
/-- Where a map of numbers parts classes, the second forest has at least as many roots. -/
theorem roots_map {u1 u2:List Int}{n1 n2:Int}{p1 p2:List (Int × Int)} (h1:Stands u1 n1 p1) (h2:Stands u2 n2 p2) (f:Int→Int) (hf:∀i,0≤i→i<n1→0≤f i∧f i<n2)
  (hc:∀i j,0≤i→i<n1→0≤j→j<n1→Cls n2 p2 (f i) (f j)→Cls n1 p1 i j):
  ((roots u1).map fun (r:Nat)=>(rt u2 (f (r:Int))).toNat).Nodup∧∀x,x∈(roots u1).map (fun (r:Nat)=>(rt u2 (f (r:Int))).toNat)→x∈roots u2:=by
 have l1:=h1.len
 have l2:=h2.len
 have bd:∀a,a∈roots u1→0≤(a:Int)∧(a:Int)<n1:=by
  intro a ha
  have:=(mem_roots.1 ha).1
  omega
 refine⟨map_nodup _ (roots_nodup u1) ?_,?_⟩
 ·intro a b ha hb e
  have ba:=bd a ha
  have bb:=bd b hb
  have fa:=hf a ba.1 ba.2
  have fb:=hf b bb.1 bb.2
  have ra:=h2.ok.rt fa.1 om
  have rb:=h2.ok.rt fb.1 om
  have ea:=(h2.ok.rt_mem fa.1 om).2
  have eb:=(h2.ok.rt_mem fb.1 om).2
  have e':rt u2 (f (a:Int))=rt u2 (f (b:Int)):=by
   rw[←ea, ←eb]
   exact congrArg _ e
  have c2:Cls n2 p2 (f a) (f b):=(h2.cls _ _).2 ⟨fa,fb,_,ra,by rw[e'];exact rb⟩
  obtain⟨_,_,s,s1,s2⟩:=(h1.cls _ _).1 (hc a b ba.1 ba.2 bb.1 bb.2 c2)
  have q1:=s1.uniq (.here (mem_roots.1 ha).2)
  have q2:=s2.uniq (.here (mem_roots.1 hb).2)
  omega
 ·intro x hx
  obtain⟨a,ha,rfl⟩:=List.mem_map.1 hx
  have ba:=bd a ha
  have fa:=hf a ba.1 ba.2
  exact(h2.ok.rt_mem fa.1 om).1
theorem roots_le {u1 u2:List Int}{n1 n2:Int}{p1 p2:List (Int × Int)} (h1:Stands u1 n1 p1) (h2:Stands u2 n2 p2) (f:Int→Int) (hf:∀i,0≤i→i<n1→0≤f i∧f i<n2)
  (hc:∀i j,0≤i→i<n1→0≤j→j<n1→Cls n2 p2 (f i) (f j)→Cls n1 p1 i j):(roots u1).length≤(roots u2).length:=by
 have h:=roots_map h1 h2 f hf hc
 have:=List.Nodup.length_le_of_subset h.1 h.2
 rwa [List.length_map]at this
theorem roots_perm {u1 u2:List Int}{n:Int}{p1 p2:List (Int × Int)} (h1:Stands u1 n p1) (h2:Stands u2 n p2) (hc:∀i j,Cls n p1 i j↔Cls n p2 i j):
  List.Perm ((roots u1).map fun (r:Nat)=>(rt u2 (r:Int)).toNat) (roots u2):=by
 have h:=roots_map h1 h2 (fun i=>i) (fun i a b=>⟨a,b⟩) (fun i j _ _ _ _ c=>(hc i j).2 c)
 have l1:=h1.len
 have l2:=h2.len
 refine(List.perm_ext_iff_of_nodup h.1 (roots_nodup u2)).2 fun x=>⟨h.2 x,fun hx=>?_⟩
 have hb:=(mem_roots.1 hx).1
 have m1:=h1.ok.rt_mem (i:=(x:Int)) om om
 have r1:=h1.ok.rt (i:=(x:Int)) om om
 have b1:=h1.ok.bd r1 om om
 refine List.mem_map.2 ⟨_,m1.1,?_⟩
 rw[m1.2]
 have c1:Cls n p1 (x:Int) (rt u1 (x:Int)):=(h1.cls _ _).2 ⟨by omega,by omega,_,r1, .here r1.root⟩
 obtain⟨_,_,s,s1,s2⟩:=(h2.cls _ _).1 ((hc _ _).1 c1)
 have q1:=s1.uniq (.here (mem_roots.1 hx).2)
 rw[rt_of s2]
 omega
/-- How many numbers have this root. -/
noncomputable def csize (up:List Int) (r:Int):Nat:=((List.range up.length).filter fun (k:Nat)=>decide (rt up (k:Int)=r)).length
theorem csize_eq {u1 u2:List Int}{n:Int}{p1 p2:List (Int × Int)} (h1:Stands u1 n p1) (h2:Stands u2 n p2) (hc:∀i j,Cls n p1 i j↔Cls n p2 i j){r:Nat} (hr:r∈roots u1):
  csize u2 (rt u2 (r:Int))=csize u1 (r:Int):=by
 have l1:=h1.len
 have l2:=h2.len
 have hb:=mem_roots.1 hr
 unfold csize
 have el:u2.length=u1.length:=by omega
 rw[el]
 congr 1
 apply List.filter_congr
 intro k hk
 have hk':=List.mem_range.1 hk
 have rk1:=h1.ok.rt (i:=(k:Int)) om om
 have rk2:=h2.ok.rt (i:=(k:Int)) om om
 have rr2:=h2.ok.rt (i:=(r:Int)) om om
 apply decide_eq_decide.2
 constructor
 ·intro e
  have c2:Cls n p2 (k:Int) (r:Int):=(h2.cls _ _).2 ⟨by omega,by omega,_,by rw[←e];exact rk2,rr2⟩
  obtain⟨_,_,s,s1,s2⟩:=(h1.cls _ _).1 ((hc _ _).2 c2)
  rw[rt_of s1]
  exact(s2.uniq (.here hb.2))
 ·intro e
  have c1:Cls n p1 (k:Int) (r:Int):=(h1.cls _ _).2 ⟨by omega,by omega,_,rk1,by rw[e];exact .here hb.2⟩
  obtain⟨_,_,s,s1,s2⟩:=(h2.cls _ _).1 ((hc _ _).1 c1)
  rw[rt_of s1,rt_of s2]
/-- The sizes of the classes are the same, but for their order. -/
theorem sizes_perm {u1 u2:List Int}{n:Int}{p1 p2:List (Int × Int)} (h1:Stands u1 n p1) (h2:Stands u2 n p2) (hc:∀i j,Cls n p1 i j↔Cls n p2 i j):
  List.Perm ((roots u1).map fun (r:Nat)=>(csize u1 (r:Int):Int)) ((roots u2).map fun (r:Nat)=>(csize u2 (r:Int):Int)):=by
 have h:=(roots_perm h1 h2 hc).map fun (r:Nat)=>(csize u2 (r:Int):Int)
 rw[List.map_map]at h
 refine List.Perm.trans (List.Perm.of_eq ?_) h
 apply List.map_congr_left
 intro r hr
 have l1:=h1.len
 have l2:=h2.len
 have hb:=(mem_roots.1 hr).1
 have e:=(h2.ok.rt_mem (i:=(r:Int)) om om).2
 show _=(csize u2 _:Int)
 rw[e,csize_eq h1 h2 hc hr]
/-- A number put behind the last one that is not greater. -/
def ins (l:List Int) (x:Int):List Int:=match l with
 |[]=>[x]
 |y :: t=>if y≤x then y :: ins t x else x :: y :: t
theorem ins_perm (x:Int):∀l,List.Perm (ins l x) (x :: l)
 |[]=>List.Perm.refl _
 |y :: t=>by
  unfold ins
  split
  ·exact((ins_perm x t).cons y).trans (List.Perm.swap x y t)
  ·exact List.Perm.refl _
theorem ins_sorted (x:Int):∀l:List Int,l.Pairwise (· ≤ ·)→(ins l x).Pairwise (· ≤ ·)
 |[],_=>List.pairwise_singleton _ _
 |y :: t,h=>by
  unfold ins
  have h':=List.pairwise_cons.1 h
  split
  ·rename_i hy
   refine List.pairwise_cons.2 ⟨fun z hz=>?_,ins_sorted x t h'.2⟩
   rcases List.mem_cons.1 ((ins_perm x t).mem_iff.1 hz)with e|e
   ·rw[e];exact hy
   ·exact h'.1 z e
  ·rename_i hy
   refine List.pairwise_cons.2 ⟨fun z hz=>?_,h⟩
   rcases List.mem_cons.1 hz with e|e
   ·rw[e];omega
   ·have:=h'.1 z e
    omega
def isort (l acc:List Int):List Int:=l.foldl ins acc
theorem isort_perm:∀(l acc:List Int),List.Perm (isort l acc) (l ++ acc)
 |[],_=>List.Perm.refl _
 |x :: t,acc=>by
  show List.Perm (isort t (ins acc x)) _
  refine(isort_perm t _).trans ?_
  refine((ins_perm x acc).append_left t).trans ?_
  rw[List.cons_append]
  exact List.perm_middle
theorem isort_sorted:∀(l acc:List Int),acc.Pairwise (· ≤ ·)→(isort l acc).Pairwise (· ≤ ·)
 |[],_,h=>h
 |x :: t,acc,h=>isort_sorted t _ (ins_sorted x acc h)
/-- Two lists of the same numbers are sorted to one. -/
theorem isort_eq {l m:List Int} (h:List.Perm l m):isort l []=isort m []:=by
 have p:=((isort_perm l []).trans (h.append_right [])).trans (isort_perm m []).symm
 exact p.eq_of_pairwise (fun a b _ _ h1 h2=>Int.le_antisymm h1 h2) (isort_sorted l [] List.Pairwise.nil) (isort_sorted m [] List.Pairwise.nil)
/-- Where the place is found from the end. -/
theorem ins_at:∀(l:List Int) (x:Int) (at_:Nat),at_≤l.length→(∀j,j<at_→(h:j<l.length)→l[j]≤x)→(∀h:at_<l.length,x<l[at_])→l.take at_ ++ (x :: l.drop at_)=ins l x
 |[],x,at_,h,_,_=>by
  simp
  rfl
 |y :: t,x,0,_,_,h2=>by
  have:=h2 (by simp)
  show x :: y :: t=ins (y :: t) x
  unfold ins
  rw[ig (by simpa using this)]
 |y :: t,x,at_+1,h,h1,h2=>by
  have hy:=h1 0 om (by simp)
  unfold ins
  rw[ip (show y≤x from by simpa using hy)]
  rw[List.take_succ_cons,List.drop_succ_cons,List.cons_append]
  rw[ins_at t x at_ (by simpa using h) (fun j hj hl=>by have:=h1 (j+1) om (by simpa using hl);simpa using this) (fun hl=>by have:=h2 (by simpa using hl);simpa using this)]
theorem Cls.map {n1 n2:Int}{p1 p2:List (Int × Int)} (f:Int→Int) (hf:∀i,0≤i→i<n1→0≤f i∧f i<n2) (hp:∀i j,(i,j)∈p1→0≤i→i<n1→0≤j→j<n1→Cls n2 p2 (f i) (f j)){i j:Int} (h:Cls n1 p1 i j):Cls n2 p2 (f i) (f j):=by
 induction h with
 |refl h0 h1=>
  have:=hf _ h0 h1
  exact .refl this.1 this.2
 |pair h h0 h1 h2 h3=>exact hp _ _ h h0 h1 h2 h3
 |symm _ ih=>exact ih.symm
 |trans _ _ ih1 ih2=>exact ih1.trans ih2
theorem Stands.same_iff {up:List Int}{n:Int}{ps:List (Int × Int)} (h:Stands up n ps){i j:Int} (hi:0≤i∧i<n) (hj:0≤j∧j<n):rt up i=rt up j↔Cls n ps i j:=by
 have hl:=h.len
 have ri:=h.ok.rt hi.1 om
 have rj:=h.ok.rt hj.1 om
 rw[h.cls]
 constructor
 ·intro e
  exact⟨hi,hj,_,ri,by rw[e];exact rj⟩
 ·rintro ⟨_,_,s,s1,s2⟩
  rw[rt_of s1,rt_of s2]
/-- How long a way to a root can be: as long as the forest. -/
inductive Way (up:List Int):Nat→Int→Int→Prop
 |here {r:Int} (h:P up r=r):Way up 0 r r
 |step {k:Nat}{i r:Int} (h:P up i≠i) (w:Way up k (P up i) r):Way up (k+1) i r
theorem Root.way {up:List Int}{i r:Int} (h:Root up i r):∃k,Way up k i r:=by
 induction h with
 |here h=>exact⟨0, .here h⟩
 |step h _ ih=>
  obtain⟨k,hk⟩:=ih
  exact⟨k+1, .step h hk⟩
theorem Way.uniq {up:List Int}{k:Nat}{i r:Int} (h:Way up k i r):∀ {m:Nat}{s:Int},Way up m i s→k=m:=by
 induction h with
 |here h=>
  intro m s hs
  cases hs with
  |here _=>rfl
  |step h2 _=>exact absurd h h2
 |step h _ ih=>
  intro m s hs
  cases hs with
  |here h2=>exact absurd h2 h
  |step _ k2=>rw[ih k2]
/-- The numbers on a way. -/
def path (up:List Int):Nat→Int→List Int
 |0,i=>[i]
 |k+1,i=>i :: path up k (P up i)
theorem path_len (up:List Int):∀k i,(path up k i).length=k+1
 |0,_=>rfl
 |k+1,i=>by rw[path,List.length_cons,path_len up k]
theorem Way.nodup {up:List Int}{k:Nat}{i r:Int} (h:Way up k i r):(path up k i).Nodup∧∀x,x∈path up k i→∃m,m≤k∧Way up m x r:=by
 induction h with
 |@here r h=>
  refine⟨by simp[path],fun x hx=>?_⟩
  have:x=r:=by simpa[path] using hx
  subst this
  exact⟨0,Nat.le_refl _, .here h⟩
 |@step k i r h w ih=>
  refine⟨?_,fun x hx=>?_⟩
  ·rw[path,List.nodup_cons]
   refine⟨fun hc=>?_,ih.1⟩
   obtain⟨m,hm,hw⟩:=ih.2 _ hc
   have:=hw.uniq (Way.step h w)
   omega
  ·rw[path]at hx
   rcases List.mem_cons.1 hx with e|e
   ·subst e
    exact⟨k+1,Nat.le_refl _, .step h w⟩
   ·obtain⟨m,hm,hw⟩:=ih.2 _ e
    exact⟨m,by omega,hw⟩
theorem Ok.path_bd {up:List Int} (hok:Ok up):∀(k:Nat) (i:Int),0≤i→i<up.length→∀x,x∈path up k i→0≤x∧x<up.length
 |0,i,h0,h1,x,hx=>by
  have:x=i:=by simpa[path] using hx
  omega
 |k+1,i,h0,h1,x,hx=>by
  rw[path]at hx
  rcases List.mem_cons.1 hx with e|e
  ·omega
  ·exact Ok.path_bd hok k _ (hok i h0 h1).1.1 (hok i h0 h1).1.2 x e
theorem Way.short {up:List Int} (hok:Ok up){k:Nat}{i r:Int} (h:Way up k i r) (h0:0≤i) (h1:i<up.length):k<up.length:=by
 have hb:=hok.path_bd k i h0 h1
 have hn:=map_nodup (fun (x:Int)=>x.toNat) h.nodup.1 (fun a b ha hb' e=>by
  have:=hb a ha
  have:=hb b hb'
  have e':a.toNat=b.toNat:=e
  omega)
 have:=List.Nodup.length_le_of_subset (l₂:=List.range up.length) hn (fun x hx=>by
  obtain⟨a,ha,rfl⟩:=List.mem_map.1 hx
  have:=hb a ha
  exact List.mem_range.2 om)
 rw[List.length_map,path_len,List.length_range]at this
 omega
/-- Every number has a way to its root that is shorter than the forest. -/
theorem Ok.way {up:List Int} (hok:Ok up){i:Int} (h0:0≤i) (h1:i<up.length):∃k,k<up.length∧Way up k i (UF.rt up i):=by
 obtain⟨k,hk⟩:=(hok.rt h0 h1).way
 exact⟨k,hk.short hok h0 h1,hk⟩
end Go.Proofs.Ytflbpjijgnmklaa.UF

namespace Go.Proofs.Ytflbpjijgnmklaa.L
open Go.RowKit Go.Proofs.Ytflbpjijgnmklaa.P Go.Proofs.Ytflbpjijgnmklaa.Help Go.Proofs.YtflbpjijgnmklaaW.PrintWords
set_option linter.unusedVariables false
set_option linter.unusedSimpArgs false

theorem top_way {up:List Int} (hok:UF.Ok up){k:Nat}{i r:Int} (h:UF.Way up k i r):∀m,k<m→0≤i→i<up.length→joiner_top.l0 m up i=some r:=by
 induction h with
 |@here r h=>
  intro m hm h0 h1
  obtain⟨m,rfl⟩:=sk m
  simp only[joiner_top.l0]
  rw[ip h0,ip h1,ip (show rd up r=r from h)]
 |@step k i r h w ih=>
  intro m hm h0 h1
  obtain⟨m,rfl⟩:=sk m
  have hb:=(hok i h0 h1).1
  simp only[joiner_top.l0]
  rw[ip h0,ip h1,ig (show ¬rd up i=i from h)]
  exact ih m om hb.1 hb.2
theorem find_way {up:List Int} (hok:UF.Ok up){k:Nat}{i r:Int} (h:UF.Way up k i r):∀m,k<m→0≤i→i<up.length→fS.l0 m up i=some r:=by
 induction h with
 |@here r h=>
  intro m hm h0 h1
  obtain⟨m,rfl⟩:=sk m
  simp only[fS.l0]
  rw[ip h0,ip h1,ip (show rd up r=r from h)]
 |@step k i r h w ih=>
  intro m hm h0 h1
  obtain⟨m,rfl⟩:=sk m
  have hb:=(hok i h0 h1).1
  simp only[fS.l0]
  rw[ip h0,ip h1,ig (show ¬rd up i=i from h)]
  exact ih m om hb.1 hb.2
theorem top_f {up:List Int} (hok:UF.Ok up){i:Int} (h0:0≤i) (h1:i<up.length){m:Nat} (hm:up.length≤m):joiner_top.l0 m up i=some (UF.rt up i):=by
 obtain⟨k,hk,w⟩:=hok.way h0 h1
 exact top_way hok w m om h0 h1
theorem find3_f {up:List Int} (hok:UF.Ok up){i:Int} (h0:0≤i) (h1:i<up.length){m:Nat} (hm:up.length≤m):fS.f m up i=some (UF.rt up i):=by
 obtain⟨k,hk,w⟩:=hok.way h0 h1
 exact find_way hok w m om h0 h1
theorem join_f {up:List Int}{n:Int}{ps:List (Int × Int)} (h:UF.Stands up n ps){a b:Int} (ha:0≤a∧a<n) (hb:0≤b∧b<n){m:Nat} (hm:up.length≤m):∃ys,joiner_join.f m up a b=some ys∧UF.Stands ys n (ps ++ [(a,b)]):=by
 have hl:=h.len
 have ra:=h.ok.rt ha.1 om
 have rb:=h.ok.rt hb.1 om
 have ba:=h.ok.bd ra ha.1 om
 have bb:=h.ok.bd rb hb.1 om
 have J:=h.join ha hb ra rb
 unfold joiner_join.f
 rw[top_f h.ok ha.1 om hm,Option.bind_some,top_f h.ok hb.1 om hm,Option.bind_some]
 unfold joiner_join.put
 by_cases c:UF.rt up a>UF.rt up b
 ·rw[ip c,ip ba.1,ip ba.2]
  exact⟨_,rfl,J.1⟩
 ·rw[ig c,ip bb.1,ip bb.2]
  exact⟨_,rfl,J.2⟩
theorem alone_succ (n:Nat):UF.alone (n+1)=UF.alone n ++ [(n:Int)]:=by
 unfold UF.alone
 rw[List.range_succ,List.map_append]
 rfl
theorem alone_len (n:Nat):(UF.alone n).length=n:=by simp[UF.alone]
theorem newJoiner_l0 (n:Nat) (hn:n≤1000000):∀(d k i:Nat),i+d=n→d<k→gT.l0 k (n:Int) (UF.alone i) (i:Int)=some (UF.alone n):=by
 intro d
 induction d with
 |zero=>
  intro k i hi hk
  obtain⟨k,rfl⟩:=sk k
  simp only[gT.l0]
  rw[ig om,show i=n by omega]
 |succ d ih=>
  intro k i hi hk
  obtain⟨k,rfl⟩:=sk k
  simp only[gT.l0]
  rw[ip om,ip (by rw[alone_len];omega),w_id om om,show((i:Int)+1)=((i+1:Nat):Int) by omega, ←alone_succ,ih k (i+1) om om]
theorem newJoiner_f (n:Nat) (hn:n≤1000000) (k:Nat) (hk:n<k):gT.l0 k (n:Int) [] 0=some (UF.alone n):=newJoiner_l0 n hn n k 0 om hk
/-- The pairs of all triangles, side by side. -/
def rowG (f:Nat→Nat→List (Int × Int)) (i:Nat):Nat→Nat→List (Int × Int)
 |0,_=>[]
 |d+1,j=>f i j ++ rowG f i d (j+1)
def allG (f:Nat→Nat→List (Int × Int)):Nat→Nat→List (Int × Int)
 |0,_=>[]
 |d+1,i=>rowG f i 3 0 ++ allG f d (i+1)
theorem mem_rowG {f:Nat→Nat→List (Int × Int)}{i:Nat}{p:Int × Int}:∀(d j:Nat),p∈rowG f i d j↔∃q,j≤q∧q<j+d∧p∈f i q
 |0,j=>by
  simp only[rowG,List.not_mem_nil,false_iff]
  rintro ⟨q,h1,h2,_⟩
  omega
 |d+1,j=>by
  rw[rowG,List.mem_append,mem_rowG d (j+1)]
  constructor
  ·rintro (h|⟨q,h1,h2,h3⟩)
   ·exact⟨j,by omega,by omega,h⟩
   ·exact⟨q,by omega,by omega,h3⟩
  ·rintro ⟨q,h1,h2,h3⟩
   by_cases e:q=j
   ·subst e;exact .inl h3
   ·exact .inr ⟨q,by omega,by omega,h3⟩
theorem mem_allG {f:Nat→Nat→List (Int × Int)}{p:Int × Int}:∀(d i:Nat),p∈allG f d i↔∃r,i≤r∧r<i+d∧∃q,q<3∧p∈f r q
 |0,i=>by
  simp only[allG,List.not_mem_nil,false_iff]
  rintro ⟨q,h1,h2,_⟩
  omega
 |d+1,i=>by
  rw[allG,List.mem_append,mem_rowG,mem_allG d (i+1)]
  constructor
  ·rintro (⟨q,_,h2,h3⟩|⟨r,h1,h2,h3⟩)
   ·exact⟨i,by omega,by omega,q,by omega,h3⟩
   ·exact⟨r,by omega,by omega,h3⟩
  ·rintro ⟨r,h1,h2,q,h3,h4⟩
   by_cases e:r=i
   ·subst e;exact .inl ⟨q,by omega,by omega,h4⟩
   ·exact .inr ⟨r,by omega,by omega,q,h3,h4⟩
/-- The first place of a number. -/
def idx (x:Int):List Int→Int→Int
 |[],_=> -1
 |y :: ys,j=>if y=x then j else idx x ys (j+1)
def sideR (x:Int):List (List Int)→Int→Int × Int
 |[],_=>(-1, -1)
 |r :: rs,i=>if 0≤idx x r 0 then(i,idx x r 0)else sideR x rs (i+1)
theorem idx_bd (x:Int):∀(ys:List Int) (j:Int),0≤j→idx x ys j= -1∨(j≤idx x ys j∧idx x ys j<j+ys.length)
 |[],j,_=> .inl rfl
 |y :: ys,j,hj=>by
  rw[idx,List.length_cons]
  split
  ·exact .inr om
  ·rcases idx_bd x ys (j+1) om with h|h
   ·exact .inl h
   ·exact .inr om
theorem idx_hit (x:Int):∀(ys:List Int) (j:Int),0≤j→x∈ys→j≤idx x ys j∧idx x ys j<j+ys.length
 |[],j,_,h=>absurd h (by simp)
 |y :: ys,j,hj,h=>by
  rw[idx,List.length_cons]
  by_cases e:y=x
  ·rw[ip e];omega
  ·rw[ig e]
   have:=idx_hit x ys (j+1) om (by
    rcases List.mem_cons.1 h with h|h
    ·exact absurd h.symm e
    ·exact h)
   omega
theorem idx_at (x:Int):∀(ys:List Int) (j:Int),0≤j→0≤idx x ys j→ys[(idx x ys j - j).toNat]?= some x
 |[],j,_,h=>absurd h (by simp[idx])
 |y :: ys,j,hj,h=>by
  rw[idx]at h ⊢
  by_cases e:y=x
  ·rw[ip e]
   simp[e]
  ·rw[ig e]at h ⊢
   have ih:=idx_at x ys (j+1) om h
   rcases idx_bd x ys (j+1) om with h2|h2
   ·omega
   ·rw[show(idx x ys (j+1) - j).toNat=(idx x ys (j+1) - (j+1)).toNat+1 by omega,List.getElem?_cons_succ]
    exact ih
theorem indexOf_l0 (x:Int) (xs:List Int) (hx:xs.length≤1000000000000):∀(d k j:Nat),j+d=xs.length→d<k→gW.l0 k x xs (xs.length:Int) (j:Int)=some (idx x (xs.drop j) (j:Int)):=by
 intro d
 induction d with
 |zero=>
  intro k j hj hk
  obtain⟨k,rfl⟩:=sk k
  simp only[gW.l0]
  rw[ig om,List.drop_of_length_le om]
  rfl
 |succ d ih=>
  intro k j hj hk
  obtain⟨k,rfl⟩:=sk k
  have hlt:j<xs.length:=by omega
  simp only[gW.l0]
  rw[ip om,ip om,ip om,rd_nat xs j hlt,List.drop_eq_getElem_cons hlt,idx]
  by_cases e:xs[j]=x
  ·rw[ip e,ip e]
  ·rw[ig e,ig e,w_id om om,show((j:Int)+1)=((j+1:Nat):Int) by omega,ih k (j+1) om om]
theorem indexOf_f (x:Int) (xs:List Int) (hx:xs.length≤1000000000000) (k:Nat) (hk:xs.length<k):gW.f k xs x=some (idx x xs 0):=by
 unfold gW.f
 have:=indexOf_l0 x xs hx xs.length k 0 om hk
 rw[List.drop_zero]at this
 exact this
theorem sideAt_l0 (x:Int) (t:List (List Int)) (ht:t.length≤1048576) (hr:∀r∈t,r.length≤1048576):∀(d k i:Nat),i+d=t.length→d+1048577<k→gX.l0 k x t (t.length:Int) (i:Int)=some (sideR x (t.drop i) (i:Int)):=by
 intro d
 induction d with
 |zero=>
  intro k i hi hk
  obtain⟨k,rfl⟩:=sk k
  simp only[gX.l0]
  rw[ig om,List.drop_of_length_le om]
  rfl
 |succ d ih=>
  intro k i hi hk
  obtain⟨k,rfl⟩:=sk k
  have hlt:i<t.length:=by omega
  have hl:=hr _ (List.getElem_mem hlt)
  simp only[gX.l0]
  rw[ip om,ip om,ip om,rdL_nat t i hlt,indexOf_f x _ om k om,Option.bind_some,List.drop_eq_getElem_cons hlt,sideR]
  by_cases e:0≤idx x t[i] 0
  ·rw[ip e,ip e]
  ·rw[ig e,ig e,w_id om om,show((i:Int)+1)=((i+1:Nat):Int) by omega,ih k (i+1) om om]
theorem sideAt_f (x:Int) (t:List (List Int)) (ht:t.length≤1048576) (hr:∀r∈t,r.length≤1048576) (k:Nat) (hk:3000000<k):gX.f k t x=some (sideR x t 0):=by
 unfold gX.f
 have:=sideAt_l0 x t ht hr t.length k 0 om om
 rw[List.drop_zero]at this
 exact this
theorem getD_at {α:Type}{l:List α} (d:α){i:Nat} (h:i<l.length):l.getD i d=l[i]:=by
 rw[List.getD_eq_getElem?_getD,List.getElem?_eq_getElem h,Option.getD_some]
/-- The letter of a side, the sides counted on from the last to the first. -/
def sideOf (t:List (List Int)) (i:Nat) (j:Nat):Int:=(t.getD i []).getD (j % 3) 0
theorem sideOf_in {t:List (List Int)}{n:Int} (ok:TriOk t n){i:Nat} (hi:i<t.length) (j:Nat):sideOf t i j≠0∧ -n≤sideOf t i j∧sideOf t i j≤n:=by
 have h3:=ok.three hi
 have hj:j % 3<t[i].length:=by omega
 have:=ok.at hi hj
 unfold sideOf
 rw[getD_at _ hi,getD_at _ hj]
 exact this
theorem sideOf_eq {t:List (List Int)}{i:Nat} (hi:i<t.length){a b c:Int} (e:t[i]=[a,b,c]):sideOf t i 0=a∧sideOf t i 1=b∧sideOf t i 2=c∧sideOf t i 3=a∧sideOf t i 4=b:=by
 unfold sideOf
 rw[getD_at _ hi,e]
 exact⟨rfl,rfl,rfl,rfl,rfl⟩
theorem flat3:∀ {t:List (List Int)},(∀r∈t,r.length=3)→t.flatten.length=3*t.length
 |[],_=>rfl
 |r :: rs,h=>by
  rw[List.flatten_cons,List.length_append,h r List.mem_cons_self,flat3 (fun x hx=>h x (List.mem_cons_of_mem _ hx)),List.length_cons]
  omega
/-- All letters and inverses. -/
def letters (n:Nat):List Int:=(List.range n).map (fun (k:Nat)=>(k:Int)+1) ++ (List.range n).map (fun (k:Nat)=> -(k:Int) - 1)
theorem mem_letters {n:Nat}{x:Int} (h0:x≠0) (h1: -(n:Int)≤x) (h2:x≤n):x∈letters n:=by
 unfold letters
 rw[List.mem_append,List.mem_map,List.mem_map]
 by_cases h:0<x
 ·exact .inl ⟨(x - 1).toNat,List.mem_range.2 om,by omega⟩
 ·exact .inr ⟨(-x - 1).toNat,List.mem_range.2 om,by omega⟩
theorem TriOk.all {t:List (List Int)}{n:Int} (ok:TriOk t n){x:Int} (h0:x≠0) (h1: -n≤x) (h2:x≤n):x∈t.flatten:=by
 apply Classical.byContradiction
 intro hc
 have n3:=ok.n3
 obtain⟨m,rfl⟩:∃m:Nat,n=m:=⟨n.toNat,by omega⟩
 have hx:=mem_letters h0 h1 h2
 have hs:∀y,y∈t.flatten→y∈(letters m).erase x:=by
  intro y hy
  have hb:=ok.inr y hy
  exact(List.mem_erase_of_ne (fun e=>hc (by rw[←e];exact hy))).2 (mem_letters hb.1 hb.2.1 hb.2.2)
 have hl:=List.Nodup.length_le_of_subset ok.nodup hs
 rw[List.length_erase_of_mem hx,flat3 ok.row]at hl
 have:(letters m).length=2*m:=by unfold letters;simp;omega
 have:=ok.len
 omega
theorem sideR_at (x:Int):∀(rs:List (List Int)) (b:Int),0≤b→x∈rs.flatten→∃i j:Nat,i<rs.length∧∃h:i<rs.length,j<rs[i].length∧rs[i][j]?= some x∧sideR x rs b=(b+i,(j:Int))
 |[],b,_,h=>absurd h (by simp)
 |r :: rs,b,hb,h=>by
  rw[sideR]
  by_cases hr:0≤idx x r 0
  ·have h1:=idx_at x r 0 om hr
   have h2:=idx_bd x r 0 om
   rw[ip hr]
   refine⟨0,(idx x r 0).toNat,by simp,by simp,?_,?_,?_⟩
   ·show(idx x r 0).toNat<r.length
    omega
   ·show r[(idx x r 0).toNat]?= some x
    rw[Int.sub_zero]at h1
    exact h1
   ·have e:((idx x r 0).toNat:Int)=idx x r 0:=by omega
    rw[e]
    simp
  ·rw[ig hr]
   rw[List.flatten_cons,List.mem_append]at h
   rcases h with h|h
   ·have:=idx_hit x r 0 om h
    exact absurd this.1 hr
   ·obtain⟨i,j,hi,hi',hj,he,hs⟩:=sideR_at x rs (b+1) om h
    refine⟨i+1,j,by simpa using hi,by simpa using hi,?_,?_,?_⟩
    ·simpa using hj
    ·simpa using he
    ·rw[hs]
     refine Prod.ext ?_ rfl
     show b+1+(i:Int)=b+((i+1:Nat):Int)
     omega
/-- Where a letter stands. -/
theorem TriOk.side {t:List (List Int)}{n:Int} (ok:TriOk t n){x:Int} (h0:x≠0) (h1: -n≤x) (h2:x≤n):∃i j:Nat,i<t.length∧j<3∧sideR x t 0=((i:Int),(j:Int))∧sideOf t i j=x:=by
 obtain⟨i,j,hi,_,hj,he,hs⟩:=sideR_at x t 0 om (ok.all h0 h1 h2)
 have h3:=ok.three hi
 refine⟨i,j,hi,by omega,by rw[hs,Int.zero_add],?_⟩
 unfold sideOf
 rw[getD_at _ hi,List.getD_eq_getElem?_getD,Nat.mod_eq_of_lt om,he]
 rfl
theorem rd_side {t:List (List Int)}{n:Int} (ok:TriOk t n){i:Nat} (hi:i<t.length) (j:Nat):rd (rd_L1 t (i:Int)) (Int.tmod (j:Int) 3)=sideOf t i j:=by
 have h3:=ok.three hi
 rw[rdL_nat t i hi,Int.tmod_eq_emod_of_nonneg om,show((j:Int) % 3)=((j % 3:Nat):Int) by omega,rd_nat _ _ om]
 unfold sideOf
 rw[getD_at _ hi,getD_at _ om]
theorem l3Abs_eq {a:Int} (h0: -9223372036854775807≤a) (h1:a≤9223372036854775807):gF.f a=some (a.natAbs:Int):=by
 unfold gF.f mA.f
 rw[w_id om om]
 by_cases h:a> -a
 ·rw[ip h];simp only[Option.bind_some];congr 1;omega
 ·rw[ig h];simp only[Option.bind_some];congr 1;omega
theorem size_eq {a:Int} (h0: -9223372036854775807≤a) (h1:a≤9223372036854775807):gP.f a=some (a.natAbs:Int):=by
 unfold gP.f
 rw[w_id om om]
 congr 1
 unfold mx
 split <;> omega
theorem bit_eq (b:Bool):gK.f b=some (if b=true then 1 else 0):=by
 unfold gK.f
 split <;> rfl
theorem rd_at {t:List (List Int)}{n:Int} (ok:TriOk t n){i:Nat} (hi:i<t.length){j:Nat} (hj:j<3):rd (rd_L1 t (i:Int)) (j:Int)=sideOf t i j:=by
 have:=rd_side ok hi j
 rwa [Int.tmod_eq_emod_of_nonneg om,show(j:Int) % 3=(j:Int) by omega]at this
theorem sideOf_mod (t:List (List Int)) (i j:Nat):sideOf t i (j % 3)=sideOf t i j:=by
 unfold sideOf
 rw[Nat.mod_mod]
theorem flat_at:∀ {t:List (List Int)},(∀r∈t,r.length=3)→∀ {i j:Nat},i<t.length→j<3→t.flatten[3*i+j]?= some (sideOf t i j)
 |[],_,i,j,hi,_=>absurd hi (by simp)
 |r :: rs,h,0,j,hi,hj=>by
  have hl:=h r List.mem_cons_self
  rw[List.flatten_cons,List.getElem?_append_left om,List.getElem?_eq_getElem om]
  unfold sideOf
  rw[List.getD_cons_zero,List.getD_eq_getElem?_getD,List.getElem?_eq_getElem (show j % 3<r.length by omega),Option.getD_some]
  congr 1
  congr 1
  omega
 |r :: rs,h,i+1,j,hi,hj=>by
  have hl:=h r List.mem_cons_self
  have ih:=flat_at (t:=rs) (fun x hx=>h x (List.mem_cons_of_mem _ hx)) (i:=i) (j:=j) (by simpa using hi) hj
  rw[List.flatten_cons,List.getElem?_append_right om,show 3*(i+1)+j - r.length=3*i+j by omega,ih]
  rfl
/-- A letter stands at one place only. -/
theorem side_inj {t:List (List Int)}{n:Int} (ok:TriOk t n){i j k l:Nat} (hi:i<t.length) (hj:j<3) (hk:k<t.length) (hl:l<3) (e:sideOf t i j=sideOf t k l):i=k∧j=l:=by
 have a:=flat_at ok.row hi hj
 have b:=flat_at ok.row hk hl
 rw[e]at a
 obtain⟨a1,a2⟩:=List.getElem?_eq_some_iff.1 a
 obtain⟨b1,b2⟩:=List.getElem?_eq_some_iff.1 b
 have hp:=List.pairwise_iff_getElem.1 ok.nodup
 rcases Nat.lt_trichotomy (3*i+j) (3*k+l)with h|h|h
 ·exact absurd (a2.trans b2.symm) (hp _ _ a1 b1 h)
 ·omega
 ·exact absurd (b2.trans a2.symm) (hp _ _ b1 a1 h)
theorem side_at {t:List (List Int)}{n:Int} (ok:TriOk t n){i j:Nat} (hi:i<t.length) (hj:j<3):sideR (sideOf t i j) t 0=((i:Int),(j:Int)):=by
 have hs:=sideOf_in ok hi j
 obtain⟨o,a,ho,ha,h1,h2⟩:=ok.side hs.1 hs.2.1 hs.2.2
 obtain⟨rfl,rfl⟩:=side_inj ok ho ha hi hj h2
 exact h1
/-- Corners, and the beginnings and ends of edges. -/
def cor (i j:Nat):Int:=3*(i:Int)+((j % 3:Nat):Int)
def Bg (s:Int):Int:=2*(s.natAbs:Int)+(if s<0 then 1 else 0)
def En (s:Int):Int:=2*(s.natAbs:Int)+(if s>0 then 1 else 0)
theorem En_neg {s:Int} (h:s≠0):En s=Bg (-s):=by
 unfold En Bg
 rw[Int.natAbs_neg]
 split <;> split <;> omega
/-- The place of the inverse of a side. -/
def opp (t:List (List Int)) (i j:Nat):Nat × Nat:=((sideR (-(sideOf t i j)) t 0).1.toNat,(sideR (-(sideOf t i j)) t 0).2.toNat)
theorem opp_at {t:List (List Int)}{n:Int} (ok:TriOk t n){i:Nat} (hi:i<t.length) (j:Nat):(opp t i j).1<t.length∧(opp t i j).2<3∧sideOf t (opp t i j).1 (opp t i j).2= -(sideOf t i j)∧sideR (-(sideOf t i j)) t 0=(((opp t i j).1:Int),((opp t i j).2:Int)):=by
 have hs:=sideOf_in ok hi j
 obtain⟨o,a,ho,ha,h1,h2⟩:=ok.side (x:= -(sideOf t i j)) om om om
 unfold opp
 rw[h1]
 exact⟨ho,ha,h2,rfl⟩
def vp (t:List (List Int)) (i j:Nat):List (Int × Int):=[(cor i j,cor (opp t i j).1 ((opp t i j).2+1)),(cor i (j+1),cor (opp t i j).1 (opp t i j).2)]
def ep (t:List (List Int)) (i j:Nat):List (Int × Int):=[(En (sideOf t i j),Bg (sideOf t i (j+1)))]
theorem cor_bd {t:List (List Int)}{i:Nat} (hi:i<t.length) (j:Nat):0≤cor i j∧cor i j<3*(t.length:Int):=by
 unfold cor
 omega
theorem Bg_bd {t:List (List Int)}{n:Int} (ok:TriOk t n){i:Nat} (hi:i<t.length) (j:Nat):0≤Bg (sideOf t i j)∧Bg (sideOf t i j)<3*(t.length:Int)+2:=by
 have hs:=sideOf_in ok hi j
 have:=ok.len
 unfold Bg
 split <;> omega
theorem En_bd {t:List (List Int)}{n:Int} (ok:TriOk t n){i:Nat} (hi:i<t.length) (j:Nat):0≤En (sideOf t i j)∧En (sideOf t i j)<3*(t.length:Int)+2:=by
 have hs:=sideOf_in ok hi j
 have:=ok.len
 unfold En
 split <;> omega
theorem tmod3 (m:Nat):Int.tmod (m:Int) 3=((m % 3:Nat):Int):=by
 rw[Int.tmod_eq_emod_of_nonneg om]
 omega
theorem w_n {a:Int}{m:Nat} (h:a=(m:Int)) (hm:m≤1000000):wrap64 a=(m:Int):=by
 rw[h]
 exact w_id om om
theorem vert_l1 {t:List (List Int)}{n:Int} (ok:TriOk t n) (ht:t.length≤1048576) (hr:∀r∈t,r.length≤1048576){i:Nat} (hi:i<t.length):∀(d j k:Nat) (xs:List Int) (ps:List (Int × Int)),j+d=3→3000100+d<k→UF.Stands xs (3*(t.length:Int)) ps→
  ∃ys,gB.l1 k t xs (i:Int) (j:Int)=gB.l0 (k - d - 1) t ys ((i+1:Nat):Int)∧UF.Stands ys (3*(t.length:Int)) (ps ++ rowG (vp t) i d j):=by
 have h3:=ok.three hi
 have hs:=ok.short
 have hl:((rd_L1 t (i:Int)).length:Int)=3:=by rw[rdL_nat t i hi,h3];rfl
 intro d
 induction d with
 |zero=>
  intro j k xs ps hj hk h
  obtain⟨k,rfl⟩:=sk k
  refine⟨xs,?_,by simpa[rowG] using h⟩
  simp only[gB.l1]
  rw[hl,ig om,w_n (m:=i+1) om om]
  rfl
 |succ d ih=>
  intro j k xs ps hj hk h
  obtain⟨k,rfl⟩:=sk k
  have hn:=h.len
  have hs1:=sideOf_in ok hi j
  have n9:=ok.n9
  obtain⟨o1,o2,o3,o4⟩:=opp_at ok hi j
  obtain⟨ys,e1,S1⟩:=join_f h (a:=cor i j) (b:=cor (opp t i j).1 ((opp t i j).2+1)) (cor_bd hi j) (cor_bd o1 _) (m:=k) om
  have hn1:=S1.len
  obtain⟨zs,e2,S2⟩:=join_f S1 (a:=cor i (j+1)) (b:=cor (opp t i j).1 (opp t i j).2) (cor_bd hi _) (cor_bd o1 _) (m:=k) om
  obtain⟨us,e3,S3⟩:=ih (j+1) k zs _ om om S2
  refine⟨us,?_,?_⟩
  ·simp only[gB.l1]
   rw[hl,ip om,ip om,rd_at ok hi om,w_id (a:= -(sideOf t i j)) om om,sideAt_f _ t ht hr k om,Option.bind_some,o4]
   dsimp only
   rw[show wrap64 (3*(i:Int))=((3*i:Nat):Int)from w_n om om,show wrap64 (3*((opp t i j).1:Int))=((3*(opp t i j).1:Nat):Int)from w_n om om,
    show wrap64 (((opp t i j).2:Int)+1)=(((opp t i j).2+1:Nat):Int)from w_n om om,show wrap64 ((j:Int)+1)=((j+1:Nat):Int)from w_n om om,tmod3,tmod3,
    show wrap64 (((3*i:Nat):Int)+(j:Int))=cor i j from by rw[w_n (m:=3*i+j) om om];unfold cor;omega,
    show wrap64 (((3*(opp t i j).1:Nat):Int)+(((((opp t i j).2+1) % 3:Nat)):Int))=cor (opp t i j).1 ((opp t i j).2+1)from by rw[w_n (m:=3*(opp t i j).1+((opp t i j).2+1) % 3) om om];unfold cor;omega,
    e1,Option.bind_some,
    show wrap64 (((3*i:Nat):Int)+((((j+1) % 3:Nat)):Int))=cor i (j+1)from by rw[w_n (m:=3*i+(j+1) % 3) om om];unfold cor;omega,
    show wrap64 (((3*(opp t i j).1:Nat):Int)+((opp t i j).2:Int))=cor (opp t i j).1 (opp t i j).2 from by rw[w_n (m:=3*(opp t i j).1+(opp t i j).2) om om];unfold cor;omega,
    e2,Option.bind_some,e3,show k+1 - (d+1) - 1=k - d - 1 by omega]
  ·rw[rowG,show vp t i j=[(cor i j,cor (opp t i j).1 ((opp t i j).2+1)),(cor i (j+1),cor (opp t i j).1 (opp t i j).2)]from rfl]
   simpa[List.append_assoc] using S3
theorem vert_l0 {t:List (List Int)}{n:Int} (ok:TriOk t n) (ht:t.length≤1048576) (hr:∀r∈t,r.length≤1048576):∀(d i k:Nat) (xs:List Int) (ps:List (Int × Int)),i+d=t.length→3000200+5*d<k→UF.Stands xs (3*(t.length:Int)) ps→
  ∃ys,gB.l0 k t xs (i:Int)=some ys∧UF.Stands ys (3*(t.length:Int)) (ps ++ allG (vp t) d i):=by
 intro d
 induction d with
 |zero=>
  intro i k xs ps hi hk h
  obtain⟨k,rfl⟩:=sk k
  refine⟨xs,?_,by simpa[allG] using h⟩
  simp only[gB.l0]
  rw[ig om]
 |succ d ih=>
  intro i k xs ps hi hk h
  obtain⟨k,rfl⟩:=sk k
  obtain⟨ys,e1,S1⟩:=vert_l1 ok ht hr (i:=i) om 3 0 k xs ps om om h
  obtain⟨zs,e2,S2⟩:=ih (i+1) (k - 3 - 1) ys _ om om S1
  refine⟨zs,?_,by rw[allG, ←List.append_assoc];exact S2⟩
  simp only[gB.l0]
  rw[ip om,ip om]
  have e1':gB.l1 k t xs (i:Int) 0=gB.l0 (k - 3 - 1) t ys ((i+1:Nat):Int):=e1
  rw[e1',e2]
theorem vert_f {t:List (List Int)}{n:Int} (ok:TriOk t n) (ht:t.length≤1048576) (hr:∀r∈t,r.length≤1048576) (k:Nat) (hk:3000300<k):∃ys,gB.f k t=some ys∧UF.Stands ys (3*(t.length:Int)) (allG (vp t) t.length 0):=by
 have hs:=ok.short
 have h0:=UF.alone_stands (3*t.length)
 have e0:(((3*t.length:Nat)):Int)=3*(t.length:Int):=by omega
 rw[e0]at h0
 obtain⟨ys,e,S⟩:=vert_l0 ok ht hr t.length 0 k _ [] om om h0
 refine⟨ys,?_,by simpa using S⟩
 unfold gB.f
 rw[show wrap64 (3*(t.length:Int))=((3*t.length:Nat):Int)from w_n om om,newJoiner_f _ om k om,Option.bind_some]
 exact e
theorem ends_l2 {t:List (List Int)}{n:Int} (ok:TriOk t n){i:Nat} (hi:i<t.length):∀(d j k:Nat) (xs:List Int) (ps:List (Int × Int)),j+d=3→100+d<k→UF.Stands xs (3*(t.length:Int)+2) ps→
  ∃ys,fT.l2 k t xs (i:Int) (j:Int)=fT.l1 (k - d - 1) t ys ((i+1:Nat):Int)∧UF.Stands ys (3*(t.length:Int)+2) (ps ++ rowG (ep t) i d j):=by
 have h3:=ok.three hi
 have hs:=ok.short
 have hl:((rd_L1 t (i:Int)).length:Int)=3:=by rw[rdL_nat t i hi,h3];rfl
 intro d
 induction d with
 |zero=>
  intro j k xs ps hj hk h
  obtain⟨k,rfl⟩:=sk k
  refine⟨xs,?_,by simpa[rowG] using h⟩
  simp only[fT.l2]
  rw[ig om,w_n (m:=i+1) om om]
  rfl
 |succ d ih=>
  intro j k xs ps hj hk h
  obtain⟨k,rfl⟩:=sk k
  have hn:=h.len
  have a1:=sideOf_in ok hi j
  have a2:=sideOf_in ok hi (j+1)
  have n9:=ok.n9
  have b1:=En_bd ok hi j
  have b2:=Bg_bd ok hi (j+1)
  have r1:=h.ok.rt b1.1 om
  have r2:=h.ok.rt b2.1 om
  have c1:=h.ok.bd r1 b1.1 om
  have J:=(h.join b1 b2 r1 r2).1
  obtain⟨us,e3,S3⟩:=ih (j+1) k _ _ om om J
  refine⟨us,?_,?_⟩
  ·have x1:(j:Int)<3:=by omega
   have x2:(0:Int)≤(i:Int):=by omega
   have x3:(i:Int)<(t.length:Int):=by omega
   have x4:(0:Int)≤(j:Int):=by omega
   have x5:j<3:=by omega
   have x6:k+1 - (d+1) - 1=k - d - 1:=by omega
   have y1:=l3Abs_eq (a:=sideOf t i j) om om
   have y2:=l3Abs_eq (a:=sideOf t i (j+1)) om om
   have z1:=find3_f h.ok b1.1 (m:=k) om om
   have z2:=find3_f h.ok b2.1 (m:=k) om om
   have q1:0≤Int.tmod (((j+1:Nat)):Int) 3:=by rw[tmod3];omega
   have q2:Int.tmod (((j+1:Nat)):Int) 3<3:=by rw[tmod3];omega
   have w1:wrap64 ((j:Int)+1)=((j+1:Nat):Int):=w_n om om
   have v1:wrap64 (wrap64 (2*((sideOf t i j).natAbs:Int))+(if decide (sideOf t i j>0)=true then 1 else 0))=En (sideOf t i j):=by
    rw[w_id (a:=2*((sideOf t i j).natAbs:Int)) om om]
    unfold En
    by_cases c:sideOf t i j>0
    ·rw[ip (decide_eq_true c),ip c,w_id om om]
    ·rw[ig (by simpa using c),ig c,w_id om om]
   have v2:wrap64 (wrap64 (2*((sideOf t i (j+1)).natAbs:Int))+(if decide (sideOf t i (j+1)<0)=true then 1 else 0))=Bg (sideOf t i (j+1)):=by
    rw[w_id (a:=2*((sideOf t i (j+1)).natAbs:Int)) om om]
    unfold Bg
    by_cases c:sideOf t i (j+1)<0
    ·rw[ip (decide_eq_true c),ip c,w_id om om]
    ·rw[ig (by simpa using c),ig c,w_id om om]
   simp only[fT.l2]
   rw[w1,hl,ip x1,ip x2,ip x3,ip x4,ip x1,ip q1,ip q2]
   rw[rd_at ok hi x5,rd_side ok hi,y1,Option.bind_some,bit_eq,Option.bind_some,v1,z1,Option.bind_some,y2,Option.bind_some,bit_eq,Option.bind_some,v2,z2,Option.bind_some,ip c1.1,ip c1.2,e3,x6]
  ·rw[rowG,show ep t i j=[(En (sideOf t i j),Bg (sideOf t i (j+1)))]from rfl]
   simpa[List.append_assoc] using S3
theorem ends_l1 {t:List (List Int)}{n:Int} (ok:TriOk t n):∀(d i k:Nat) (xs:List Int) (ps:List (Int × Int)),i+d=t.length→200+5*d<k→UF.Stands xs (3*(t.length:Int)+2) ps→
  ∃ys,fT.l1 k t xs (i:Int)=some ys∧UF.Stands ys (3*(t.length:Int)+2) (ps ++ allG (ep t) d i):=by
 intro d
 induction d with
 |zero=>
  intro i k xs ps hi hk h
  obtain⟨k,rfl⟩:=sk k
  refine⟨xs,?_,by simpa[allG] using h⟩
  simp only[fT.l1]
  rw[ig om]
 |succ d ih=>
  intro i k xs ps hi hk h
  obtain⟨k,rfl⟩:=sk k
  obtain⟨ys,e1,S1⟩:=ends_l2 ok (i:=i) om 3 0 k xs ps om om h
  obtain⟨zs,e2,S2⟩:=ih (i+1) (k - 3 - 1) ys _ om om S1
  refine⟨zs,?_,by rw[allG, ←List.append_assoc];exact S2⟩
  simp only[fT.l1]
  rw[ip om]
  have e1':fT.l2 k t xs (i:Int) 0=fT.l1 (k - 3 - 1) t ys ((i+1:Nat):Int):=e1
  rw[e1',e2]
theorem ends_l0 (t:List (List Int)) (ht:t.length≤1000):∀(d k i:Nat),i+d=3*t.length+2→d<k→fT.l0 k t (UF.alone i) (i:Int)=fT.l1 (k - d - 1) t (UF.alone (3*t.length+2)) 0:=by
 intro d
 induction d with
 |zero=>
  intro k i hi hk
  obtain⟨k,rfl⟩:=sk k
  simp only[fT.l0]
  rw[w_id (a:=3*(t.length:Int)) om om,w_id (a:=3*(t.length:Int)+1) om om,ig om,show i=3*t.length+2 by omega]
  rfl
 |succ d ih=>
  intro k i hi hk
  obtain⟨k,rfl⟩:=sk k
  simp only[fT.l0]
  rw[w_id (a:=3*(t.length:Int)) om om,w_id (a:=3*(t.length:Int)+1) om om,ip om,ip (by rw[alone_len];omega),show wrap64 ((i:Int)+1)=((i+1:Nat):Int)from w_n om om, ←alone_succ,ih k (i+1) om om,show k+1 - (d+1) - 1=k - d - 1 by omega]
theorem ends_f {t:List (List Int)}{n:Int} (ok:TriOk t n) (k:Nat) (hk:1000<k):∃ys,fT.f k t=some ys∧UF.Stands ys (3*(t.length:Int)+2) (allG (ep t) t.length 0):=by
 have hs:=ok.short
 have h0:=UF.alone_stands (3*t.length+2)
 have e0:(((3*t.length+2:Nat)):Int)=3*(t.length:Int)+2:=by omega
 rw[e0]at h0
 obtain⟨ys,e,S⟩:=ends_l1 ok t.length 0 (k - (3*t.length+2) - 1) _ [] om om h0
 refine⟨ys,?_,by simpa using S⟩
 unfold fT.f
 have:=ends_l0 t om (3*t.length+2) k 0 om om
 exact this.trans e
/-- The corner with a beginning. -/
def gm (t:List (List Int)) (e:Int):Int:=if e<2 then 0 else(let x:Int:=if e % 2=0 then e / 2 else -(e / 2);3*(sideR x t 0).1+(sideR x t 0).2)
def fm (t:List (List Int)) (c:Int):Int:=Bg (sideOf t (c / 3).toNat (c % 3).toNat)
theorem fm_cor (t:List (List Int)) (i j:Nat):fm t (cor i j)=Bg (sideOf t i j):=by
 unfold fm cor
 rw[show((3*(i:Int)+((j % 3:Nat):Int)) / 3).toNat=i by omega,show((3*(i:Int)+((j % 3:Nat):Int)) % 3).toNat=j % 3 by omega,sideOf_mod]
theorem gm_Bg {t:List (List Int)}{n:Int} (ok:TriOk t n){i j:Nat} (hi:i<t.length) (hj:j<3):gm t (Bg (sideOf t i j))=cor i j:=by
 have hs:=sideOf_in ok hi j
 have hx:(if Bg (sideOf t i j) % 2=0 then Bg (sideOf t i j) / 2 else -(Bg (sideOf t i j) / 2))=sideOf t i j:=by
  unfold Bg
  by_cases c:sideOf t i j<0
  ·rw[ip c,ig om];omega
  ·rw[ig c,ip om];omega
 unfold gm
 rw[ig (by unfold Bg;split <;> omega),hx]
 dsimp only
 rw[side_at ok hi hj]
 unfold cor
 omega
theorem gm_Bg' {t:List (List Int)}{n:Int} (ok:TriOk t n){i:Nat} (hi:i<t.length) (j:Nat):gm t (Bg (sideOf t i j))=cor i j:=by
 have:=gm_Bg ok hi (j:=j % 3) om
 rw[sideOf_mod]at this
 rw[this]
 unfold cor
 rw[Nat.mod_mod]
theorem gm_bd {t:List (List Int)}{n:Int} (ok:TriOk t n) (e:Int) (h0:0≤e) (h1:e<3*(t.length:Int)+2):0≤gm t e∧gm t e<3*(t.length:Int):=by
 have hs:=ok.short
 have hl:=ok.len
 unfold gm
 by_cases c:e<2
 ·rw[ip c];omega
 ·rw[ig c]
  dsimp only
  obtain⟨o,a,ho,ha,h2,_⟩:=ok.side (x:=if e % 2=0 then e / 2 else -(e / 2)) (by split <;> omega) (by split <;> omega) (by split <;> omega)
  rw[h2]
  dsimp only
  omega
/-- The classes are the same ones. -/
theorem cls_fm {t:List (List Int)}{n:Int} (ok:TriOk t n){c d:Int} (hc:0≤c∧c<3*(t.length:Int)) (hd:0≤d∧d<3*(t.length:Int)):
  UF.Cls (3*(t.length:Int)) (allG (vp t) t.length 0) c d↔UF.Cls (3*(t.length:Int)+2) (allG (ep t) t.length 0) (fm t c) (fm t d):=by
 have corOf:∀c:Int,0≤c→c<3*(t.length:Int)→∃i j:Nat,i<t.length∧j<3∧c=cor i j:=by
  intro c h0 h1
  exact⟨(c / 3).toNat,(c % 3).toNat,by omega,by omega,by unfold cor;omega⟩
 have fb:∀c:Int,0≤c→c<3*(t.length:Int)→0≤fm t c∧fm t c<3*(t.length:Int)+2:=by
  intro c h0 h1
  obtain⟨i,j,hi,hj,rfl⟩:=corOf c h0 h1
  rw[fm_cor]
  exact Bg_bd ok hi j
 have epm:∀i j:Nat,i<t.length→j<3→UF.Cls (3*(t.length:Int)+2) (allG (ep t) t.length 0) (En (sideOf t i j)) (Bg (sideOf t i (j+1))):=by
  intro i j hi hj
  refine .pair ((mem_allG _ _).2 ⟨i,by omega,by omega,j,hj,by simp[ep]⟩) ?_ ?_ ?_ ?_
  ·exact(En_bd ok hi j).1
  ·exact(En_bd ok hi j).2
  ·exact(Bg_bd ok hi (j+1)).1
  ·exact(Bg_bd ok hi (j+1)).2
 have vpm:∀i j:Nat,i<t.length→j<3→∀p,p∈vp t i j→UF.Cls (3*(t.length:Int)) (allG (vp t) t.length 0) p.1 p.2:=by
  intro i j hi hj p hp
  obtain⟨o1,o2,o3,o4⟩:=opp_at ok hi j
  have hm:p∈allG (vp t) t.length 0:=(mem_allG _ _).2 ⟨i,by omega,by omega,j,hj,hp⟩
  have hp':p=(cor i j,cor (opp t i j).1 ((opp t i j).2+1))∨p=(cor i (j+1),cor (opp t i j).1 (opp t i j).2):=by simpa[vp] using hp
  rcases hp' with e|e
  ·subst e
   exact .pair hm (cor_bd hi _).1 (cor_bd hi _).2 (cor_bd o1 _).1 (cor_bd o1 _).2
  ·subst e
   exact .pair hm (cor_bd hi _).1 (cor_bd hi _).2 (cor_bd o1 _).1 (cor_bd o1 _).2
 constructor
 ·intro h
  refine h.map (fm t) (fun i a b=>fb i a b) ?_
  intro a b hm _ _ _ _
  obtain⟨i,_,hi,j,hj,hp⟩:=(mem_allG _ _).1 hm
  have hi':i<t.length:=by omega
  obtain⟨o1,o2,o3,o4⟩:=opp_at ok hi' j
  have hs:=sideOf_in ok hi' j
  have hp':(a,b)=(cor i j,cor (opp t i j).1 ((opp t i j).2+1))∨(a,b)=(cor i (j+1),cor (opp t i j).1 (opp t i j).2):=by simpa[vp] using hp
  rcases hp' with e|e
  ·obtain⟨rfl,rfl⟩:=Prod.mk.inj e
   rw[fm_cor,fm_cor]
   have:=epm _ _ o1 o2
   rw[o3,En_neg om,Int.neg_neg]at this
   exact this
  ·obtain⟨rfl,rfl⟩:=Prod.mk.inj e
   rw[fm_cor,fm_cor,o3, ←En_neg hs.1]
   exact(epm i j hi' hj).symm
 ·intro h
  have:=UF.Cls.map (p2:=allG (vp t) t.length 0) (n2:=3*(t.length:Int)) (gm t) (fun e a b=>gm_bd ok e a b) (fun a b hm _ _ _ _=>by
   obtain⟨i,_,hi,j,hj,hp⟩:=(mem_allG _ _).1 hm
   have hi':i<t.length:=by omega
   obtain⟨o1,o2,o3,o4⟩:=opp_at ok hi' j
   have hs:=sideOf_in ok hi' j
   have hp':(a,b)=(En (sideOf t i j),Bg (sideOf t i (j+1))):=by simpa[ep] using hp
   obtain⟨rfl,rfl⟩:=Prod.mk.inj hp'
   rw[En_neg hs.1, ←o3,gm_Bg' ok o1,gm_Bg' ok hi']
   exact(vpm i j hi' hj (cor i (j+1),cor (opp t i j).1 (opp t i j).2) (by simp[vp])).symm) h
  obtain⟨i,j,hi,hj,rfl⟩:=corOf c hc.1 hc.2
  obtain⟨k,l,hk,hl,rfl⟩:=corOf d hd.1 hd.2
  rwa [fm_cor,fm_cor,gm_Bg' ok hi,gm_Bg' ok hk]at this
/-- Are two corners at one vertex? -/
def SameV (t:List (List Int)) (c d:Int):Prop:=UF.Cls (3*(t.length:Int)) (allG (vp t) t.length 0) c d
noncomputable def vind (t:List (List Int)) (c d:Int):Int:=by
 classical
 exact if SameV t d c then 1 else 0
theorem vind_if {t:List (List Int)}{c d:Int}{P:Prop} [Decidable P] (h:P↔SameV t d c):vind t c d=if P then 1 else 0:=by
 unfold vind
 by_cases p:P
 ·rw[ip p,ip (h.1 p)]
 ·rw[ig p,ig (fun q=>p (h.2 q))]
theorem vind_bd (t:List (List Int)) (c d:Int):0≤vind t c d∧vind t c d≤1:=by
 unfold vind
 split <;> omega
noncomputable def valE (t:List (List Int)) (c e:Int):Int:=vind t c (cor (sideR e t 0).1.toNat (sideR e t 0).2.toNat)+vind t c (cor (sideR e t 0).1.toNat ((sideR e t 0).2.toNat+1))
theorem valE_bd (t:List (List Int)) (c e:Int):0≤valE t c e∧valE t c e≤2:=by
 have:=vind_bd t c (cor (sideR e t 0).1.toNat (sideR e t 0).2.toNat)
 have:=vind_bd t c (cor (sideR e t 0).1.toNat ((sideR e t 0).2.toNat+1))
 unfold valE
 omega
def posE (t:List (List Int)) (e:Int):Nat:=3*(sideR e t 0).1.toNat+(sideR e t 0).2.toNat
noncomputable def aroundR (t:List (List Int)) (n:Nat) (c:Int):List Int:=(List.range n).map fun (q:Nat)=>valE t c ((q:Int)+1)
noncomputable def stO (t:List (List Int)) (n:Nat) (c:Int) (m:Nat):List Int:=(List.range n).map fun (q:Nat)=>if posE t ((q:Int)+1)<m then valE t c ((q:Int)+1)else 0
theorem stO_len (t:List (List Int)) (n:Nat) (c:Int) (m:Nat):(stO t n c m).length=n:=by simp[stO]
theorem stO_at {t:List (List Int)}{n:Nat}{c:Int}{m q:Nat} (h:q<(stO t n c m).length):(stO t n c m)[q]=if posE t ((q:Int)+1)<m then valE t c ((q:Int)+1)else 0:=by
 have h':q<n:=by rw[stO_len]at h;exact h
 have e:(stO t n c m)[q]?= some (if posE t ((q:Int)+1)<m then valE t c ((q:Int)+1)else 0):=by
  unfold stO
  rw[List.getElem?_map,List.getElem?_range h']
  rfl
 rw[List.getElem?_eq_getElem h]at e
 exact Option.some.inj e
theorem posE_at {t:List (List Int)}{n:Int} (ok:TriOk t n){i j:Nat} (hi:i<t.length) (hj:j<3){q:Int} (h0:0<q) (h1:q≤n):posE t q=3*i+j↔sideOf t i j=q:=by
 obtain⟨o,a,ho,ha,s1,s2⟩:=ok.side (x:=q) om om h1
 unfold posE
 rw[s1]
 dsimp only
 rw[Int.toNat_natCast,Int.toNat_natCast]
 constructor
 ·intro e
  obtain⟨rfl,rfl⟩:o=i∧a=j:=by omega
  exact s2
 ·intro e
  obtain⟨rfl,rfl⟩:=side_inj ok hi hj ho ha (e.trans s2.symm)
  rfl
theorem inc1_some {P:Prop} [Decidable P]{out:List Int}{z:Nat} (hz:z<out.length) (h0:0≤out[z]) (h1:out[z]≤10):inc1 P out (z:Int)=some (out.set z (out[z]+(if P then 1 else 0))):=by
 unfold inc1
 by_cases p:P
 ·rw[ip p,ip p,ip om,ip om,rd_nat out z hz,w_id om om,Int.toNat_natCast]
 ·rw[ig p,ig p,Int.add_zero,List.set_getElem_self]
theorem around_l1 {t:List (List Int)}{n:Nat} (ok:TriOk t (n:Int)){up:List Int} (S:UF.Stands up (3*(t.length:Int)) (allG (vp t) t.length 0)){c:Int} (hc:0≤c∧c<3*(t.length:Int)){i:Nat} (hi:i<t.length):∀(d j k:Nat),j+d=3→100+d<k→
  gH.l1 k t up c (stO t n c (3*i+j)) (i:Int) (j:Int)=gH.l0 (k - d - 1) t up c (stO t n c (3*i+3)) ((i+1:Nat):Int):=by
 have h3:=ok.three hi
 have hs:=ok.short
 have n9:=ok.n9
 have hl:((rd_L1 t (i:Int)).length:Int)=3:=by rw[rdL_nat t i hi,h3];rfl
 have hlen:=S.len
 intro d
 induction d with
 |zero=>
  intro j k hj hk
  obtain⟨k,rfl⟩:=sk k
  simp only[gH.l1]
  rw[hl,ig om,w_n (m:=i+1) om om,show 3*i+j=3*i+3 by omega]
  rfl
 |succ d ih=>
  intro j k hj hk
  obtain⟨k,rfl⟩:=sk k
  have hs1:=sideOf_in ok hi j
  have ihh:=ih (j+1) k om om
  have hk':k+1 - (d+1) - 1=k - d - 1:=by omega
  have x1:(j:Int)<3:=by omega
  have x2:(0:Int)≤(j:Int):=by omega
  have x3:j<3:=by omega
  have cb1:=cor_bd hi j
  have cb2:=cor_bd hi (j+1)
  have f1:=top_f S.ok cb1.1 (m:=k) om om
  have f2:=top_f S.ok cb2.1 (m:=k) om om
  have f3:=top_f S.ok hc.1 (m:=k) om om
  have v1:=vind_if (t:=t) (c:=c) (d:=cor i j) (P:=UF.rt up (cor i j)=UF.rt up c) (S.same_iff cb1 hc)
  have v2:=vind_if (t:=t) (c:=c) (d:=cor i (j+1)) (P:=UF.rt up (cor i (j+1))=UF.rt up c) (S.same_iff cb2 hc)
  simp only[gH.l1]
  rw[hl,ip x1,ip x2,rd_at ok hi x3,hk']
  by_cases neg:sideOf t i j<0
  ·have e:stO t n c (3*i+j)=stO t n c (3*i+(j+1)):=by
    unfold stO
    apply List.map_congr_left
    intro q hq
    have hq':=List.mem_range.1 hq
    have hne:posE t ((q:Int)+1)≠3*i+j:=fun e=>by
     have:=(posE_at ok hi x3 (q:=(q:Int)+1) om om).1 e
     omega
    by_cases h:posE t ((q:Int)+1)<3*i+j
    ·rw[ip h,ip om]
    ·rw[ig h,ig om]
   rw[ip neg,show wrap64 ((j:Int)+1)=((j+1:Nat):Int)from w_n om om,e]
   exact ihh
  ·obtain⟨z,hz⟩:∃z:Nat,sideOf t i j=(z:Int)+1:=⟨(sideOf t i j - 1).toNat,by omega⟩
   have hzn:z<n:=by omega
   have hpos:posE t ((z:Int)+1)=3*i+j:=(posE_at ok hi x3 om om).2 hz
   have hzl:z<(stO t n c (3*i+j)).length:=by rw[stO_len];exact hzn
   have g0:(stO t n c (3*i+j))[z]=0:=by
    rw[stO_at,hpos,ig om]
   have bb:∀(P:Prop) [Decidable P],(0:Int)≤(if P then 1 else 0)∧(if P then 1 else 0:Int)≤1:=fun P _=>by split <;> omega
   have b1:=bb (UF.rt up (cor i j)=UF.rt up c)
   have I1:=inc1_some (P:=UF.rt up (cor i j)=UF.rt up c) hzl om om
   rw[g0,Int.zero_add]at I1
   have hzl2:z<((stO t n c (3*i+j)).set z (if UF.rt up (cor i j)=UF.rt up c then 1 else 0)).length:=by rw[List.length_set];exact hzl
   have I2:=inc1_some (P:=UF.rt up (cor i (j+1))=UF.rt up c) hzl2 (by rw[List.getElem_set_self];omega) (by rw[List.getElem_set_self];omega)
   rw[List.getElem_set_self,List.set_set]at I2
   have hv:valE t c ((z:Int)+1)=(if UF.rt up (cor i j)=UF.rt up c then 1 else 0)+(if UF.rt up (cor i (j+1))=UF.rt up c then 1 else 0):=by
    unfold valE
    rw[←hz,side_at ok hi x3]
    dsimp only
    rw[Int.toNat_natCast,Int.toNat_natCast,v1,v2]
   have e:(stO t n c (3*i+j)).set z ((if UF.rt up (cor i j)=UF.rt up c then 1 else 0)+(if UF.rt up (cor i (j+1))=UF.rt up c then 1 else 0))=stO t n c (3*i+(j+1)):=by
    rw[←hv]
    apply List.ext_getElem
    ·rw[List.length_set,stO_len,stO_len]
    ·intro q hq1 hq2
     have hq3:=hq2
     rw[stO_len]at hq3
     by_cases hq:q=z
     ·subst hq
      rw[List.getElem_set_self]
      rw[stO_at,hpos,ip om]
     ·rw[List.getElem_set_ne om]
      rw[stO_at,stO_at]
      have hne:posE t ((q:Int)+1)≠3*i+j:=fun e=>by
       have:=(posE_at ok hi x3 (q:=(q:Int)+1) om om).1 e
       omega
      by_cases h:posE t ((q:Int)+1)<3*i+j
      ·rw[ip h,ip om]
      ·rw[ig h,ig om]
   rw[ig neg,show wrap64 ((j:Int)+1)=((j+1:Nat):Int)from w_n om om,tmod3,show wrap64 (3*(i:Int))=((3*i:Nat):Int)from w_n om om,
    show wrap64 (((3*i:Nat):Int)+(j:Int))=cor i j from by rw[w_n (m:=3*i+j) om om];unfold cor;omega,
    show wrap64 (((3*i:Nat):Int)+((((j+1) % 3:Nat)):Int))=cor i (j+1)from by rw[w_n (m:=3*i+(j+1) % 3) om om];unfold cor;omega,
    f1,Option.bind_some,f3,Option.bind_some,hz,show wrap64 ((z:Int)+1 - 1)=(z:Int)from w_n om om,I1,Option.bind_some,f2,Option.bind_some,Option.bind_some,I2,Option.bind_some,e]
   exact ihh
theorem around_l0 {t:List (List Int)}{n:Nat} (ok:TriOk t (n:Int)){up:List Int} (S:UF.Stands up (3*(t.length:Int)) (allG (vp t) t.length 0)){c:Int} (hc:0≤c∧c<3*(t.length:Int)):∀(d i k:Nat),i+d=t.length→200+5*d<k→
  gH.l0 k t up c (stO t n c (3*i)) (i:Int)=some (stO t n c (3*t.length)):=by
 intro d
 induction d with
 |zero=>
  intro i k hi hk
  obtain⟨k,rfl⟩:=sk k
  simp only[gH.l0]
  rw[ig om,show i=t.length by omega]
 |succ d ih=>
  intro i k hi hk
  obtain⟨k,rfl⟩:=sk k
  have e1:=around_l1 ok S hc (i:=i) om 3 0 k om om
  have e2:=ih (i+1) (k - 3 - 1) om om
  simp only[gH.l0]
  rw[ip om,ip om]
  have e1':gH.l1 k t up c (stO t n c (3*i)) (i:Int) 0=gH.l0 (k - 3 - 1) t up c (stO t n c (3*i+3)) ((i+1:Nat):Int):=e1
  rw[e1',show 3*i+3=3*(i+1) by omega,e2]
theorem mJ {t:List (List Int)}{n:Nat} (ok:TriOk t (n:Int)) (ht:t.length≤1048576) (hr:∀r∈t,r.length≤1048576){c:Int} (hc:0≤c∧c<3*(t.length:Int)) (k:Nat) (hk:3000300<k):gH.f k t c=some (aroundR t n c):=by
 obtain⟨up,e,S⟩:=vert_f ok ht hr k hk
 have hs:=ok.short
 have hl:=ok.len
 have hE:wrap64 (Int.tdiv (wrap64 (3*(t.length:Int))) 2)=(n:Int):=by
  rw[show wrap64 (3*(t.length:Int))=((3*t.length:Nat):Int)from w_n om om,Int.tdiv_eq_ediv_of_nonneg om,w_n (m:=n) om om]
 unfold gH.f
 rw[e,Option.bind_some,hE,ip om,ip om,Int.toNat_natCast]
 have h0:List.replicate n (0:Int)=stO t n c (3*0):=by
  unfold stO
  apply List.ext_getElem
  ·simp
  ·intro q h1 h2
   simp
 have h1:stO t n c (3*t.length)=aroundR t n c:=by
  unfold stO aroundR
  apply List.map_congr_left
  intro q hq
  have hq':=List.mem_range.1 hq
  obtain⟨o,a,ho,ha,s1,s2⟩:=ok.side (x:=(q:Int)+1) om om om
  rw[ip (by unfold posE;rw[s1];dsimp only;omega)]
 rw[h0, ←h1]
 exact around_l0 ok S hc t.length 0 k om om
theorem mQ {t:List (List Int)}{n:Nat} (ok:TriOk t (n:Int)){u2:List Int} (S:UF.Stands u2 (3*(t.length:Int)+2) (allG (ep t) t.length 0)){i j:Nat} (hi:i<t.length) (hj:j<3):∀(d q k:Nat),q+d=n→100+d<k→
  gI.l0 k t u2 (UF.rt u2 (En (sideOf t i j))) ((List.range q).map fun (q:Nat)=>valE t (cor i (j+1)) ((q:Int)+1)) ((q:Int)+1)=some (aroundR t n (cor i (j+1))):=by
 have hs:=ok.short
 have hl:=ok.len
 have n9:=ok.n9
 have hn:=S.len
 have hE:wrap64 (Int.tdiv (wrap64 (3*(t.length:Int))) 2)=(n:Int):=by
  rw[show wrap64 (3*(t.length:Int))=((3*t.length:Nat):Int)from w_n om om,Int.tdiv_eq_ediv_of_nonneg om,w_n (m:=n) om om]
 have epm:∀a b:Nat,a<t.length→b<3→UF.Cls (3*(t.length:Int)+2) (allG (ep t) t.length 0) (En (sideOf t a b)) (fm t (cor a (b+1))):=by
  intro a b ha hb
  rw[fm_cor]
  exact .pair ((mem_allG _ _).2 ⟨a,by omega,by omega,b,hb,by simp[ep]⟩) (En_bd ok ha b).1 (En_bd ok ha b).2 (Bg_bd ok ha (b+1)).1 (Bg_bd ok ha (b+1)).2
 intro d
 induction d with
 |zero=>
  intro q k hq hk
  obtain⟨k,rfl⟩:=sk k
  simp only[gI.l0]
  rw[hE,ig om,show q=n by omega]
  rfl
 |succ d ih=>
  intro q k hq hk
  obtain⟨k,rfl⟩:=sk k
  obtain⟨o,a,ho,ha,s1,s2⟩:=ok.side (x:=(q:Int)+1) om om om
  have eB:Bg ((q:Int)+1)=2*((q:Int)+1):=by unfold Bg;rw[ig om];omega
  have eE:En ((q:Int)+1)=2*((q:Int)+1)+1:=by unfold En;rw[ip om];omega
  have bB:=Bg_bd ok ho a
  have bE:=En_bd ok ho a
  have bv:=En_bd ok hi j
  rw[s2,eB]at bB
  rw[s2,eE]at bE
  have f1:=find3_f S.ok bB.1 (m:=k) om om
  have f2:=find3_f S.ok bE.1 (m:=k) om om
  have c1:UF.rt u2 (2*((q:Int)+1))=UF.rt u2 (En (sideOf t i j))↔SameV t (cor o a) (cor i (j+1)):=by
   rw[S.same_iff bB bv]
   unfold SameV
   rw[cls_fm ok (cor_bd ho a) (cor_bd hi (j+1)),show fm t (cor o a)=2*((q:Int)+1)from by rw[fm_cor,s2,eB]]
   exact⟨fun h=>h.trans (epm i j hi hj),fun h=>h.trans (epm i j hi hj).symm⟩
  have c2:UF.rt u2 (2*((q:Int)+1)+1)=UF.rt u2 (En (sideOf t i j))↔SameV t (cor o (a+1)) (cor i (j+1)):=by
   rw[S.same_iff bE bv]
   unfold SameV
   rw[cls_fm ok (cor_bd ho (a+1)) (cor_bd hi (j+1))]
   have e0:=epm o a ho ha
   rw[s2,eE]at e0
   exact⟨fun h=>e0.symm.trans (h.trans (epm i j hi hj)),fun h=>e0.trans (h.trans (epm i j hi hj).symm)⟩
  have d1:=vind_if c1
  have d2:=vind_if c2
  have hv:valE t (cor i (j+1)) ((q:Int)+1)=(if UF.rt u2 (2*((q:Int)+1))=UF.rt u2 (En (sideOf t i j))then 1 else 0)+(if UF.rt u2 (2*((q:Int)+1)+1)=UF.rt u2 (En (sideOf t i j))then 1 else 0):=by
   unfold valE
   rw[s1]
   dsimp only
   rw[Int.toNat_natCast,Int.toNat_natCast,d1,d2]
  have vb:=valE_bd t (cor i (j+1)) ((q:Int)+1)
  have hw:wrap64 ((if UF.rt u2 (2*((q:Int)+1))=UF.rt u2 (En (sideOf t i j))then 1 else 0)+(if UF.rt u2 (2*((q:Int)+1)+1)=UF.rt u2 (En (sideOf t i j))then 1 else 0))=valE t (cor i (j+1)) ((q:Int)+1):=by
   rw[←hv]
   exact w_id om om
  have ihh:=ih (q+1) k om om
  have y1:((q:Int)+1)≤(n:Int):=by omega
  have y2:((List.range q).map fun (q:Nat)=>valE t (cor i (j+1)) ((q:Int)+1)).length<17592186044416:=by rw[List.length_map,List.length_range];omega
  have w1:wrap64 (2*((q:Int)+1))=2*((q:Int)+1):=w_id om om
  have w2:wrap64 (2*((q:Int)+1)+1)=2*((q:Int)+1)+1:=by clear w1 hw;exact w_id om om
  have w3:wrap64 ((q:Int)+1+1)=((q+1:Nat):Int)+1:=by clear w1 w2 hw;rw[w_id om om];omega
  simp only[gI.l0]
  rw[hE,ip y1,w1,f1,Option.bind_some,bit_eq,Option.bind_some,w2,f2,Option.bind_some,bit_eq,Option.bind_some,ip y2]
  simp only[beq_iff_eq]
  rw[hw,w3]
  rw[List.range_succ,List.map_append]at ihh
  exact ihh
theorem mB {t:List (List Int)}{n:Nat} (ok:TriOk t (n:Int)){i j:Nat} (hi:i<t.length) (hj:j<3) (k:Nat) (hk:1000<k):gI.f k t (i:Int) (j:Int)=some (aroundR t n (cor i (j+1))):=by
 obtain⟨u2,e,S⟩:=ends_f ok k hk
 have hn:=S.len
 have h3:=ok.three hi
 have hs:=ok.short
 have n9:=ok.n9
 have hl:((rd_L1 t (i:Int)).length:Int)=3:=by rw[rdL_nat t i hi,h3];rfl
 have hs1:=sideOf_in ok hi j
 have bE:=En_bd ok hi j
 have f1:=find3_f S.ok bE.1 (m:=k) om om
 have x1:(0:Int)≤(i:Int):=by omega
 have x2:(i:Int)<(t.length:Int):=by omega
 have x3:(0:Int)≤(j:Int):=by omega
 have x4:(j:Int)<3:=by omega
 have y1:=l3Abs_eq (a:=sideOf t i j) om om
 have v1:wrap64 (wrap64 (2*((sideOf t i j).natAbs:Int))+(if decide (sideOf t i j>0)=true then 1 else 0))=En (sideOf t i j):=by
  rw[w_id (a:=2*((sideOf t i j).natAbs:Int)) om om]
  unfold En
  by_cases c:sideOf t i j>0
  ·rw[ip (decide_eq_true c),ip c,w_id om om]
  ·rw[ig (by simpa using c),ig c,w_id om om]
 have fin:=mQ ok S hi hj n 0 k om om
 unfold gI.f
 rw[e,Option.bind_some,ip x1,ip x2,hl,ip x3,ip x4,rd_at ok hi hj,y1,Option.bind_some,bit_eq,Option.bind_some,v1,f1,Option.bind_some]
 exact fin
theorem isT_okn {t:List (List Int)} (ht:t.length≤1048576) (h:isT t=true):TriOk t ((edges t).toNat:Int):=by
 have ok:=isT_ok ht h
 have:=ok.n3
 rw[show((edges t).toNat:Int)=edges t by omega]
 exact ok
theorem aroundR_len (t:List (List Int)) (n:Nat) (c:Int):(aroundR t n c).length=n:=by simp[aroundR]
def co (x:Int):Bool:=decide (0≤x∧x≤200)
theorem areCo_l0 (xs:List Int) (hx:xs.length≤1000000000):∀(d k i:Nat),i+d=xs.length→d<k→fX.l0 k xs (xs.length:Int) (i:Int)=some ((xs.drop i).all co):=by
 intro d
 induction d with
 |zero=>
  intro k i hi hk
  obtain⟨k,rfl⟩:=sk k
  simp only[fX.l0]
  rw[ig om,List.drop_of_length_le om]
  rfl
 |succ d ih=>
  intro k i hi hk
  obtain⟨k,rfl⟩:=sk k
  have hlt:i<xs.length:=by omega
  simp only[fX.l0]
  rw[ip om,ip om,ip om,within_eq,Option.bind_some,w_id om om,show((i:Int)+1)=((i+1:Nat):Int) by omega,ih k (i+1) om om,List.drop_eq_getElem_cons hlt,List.all_cons,rd_nat xs i hlt]
  unfold co
  by_cases h:0≤xs[i]∧xs[i]≤200 <;> simp[h]
theorem areCo (xs:List Int) (hx:xs.length≤1000000000) (k:Nat) (hk:xs.length<k):fX.f k xs=some (xs.all co):=by
 unfold fX.f
 have:=areCo_l0 xs hx xs.length k 0 om hk
 rw[List.drop_zero]at this
 exact this
theorem co_true {x:Int} (h:co x=true):0≤x∧x≤200:=of_decide_eq_true h
theorem all_co {xs:List Int} (h:xs.all co=true):∀x∈xs,0≤x∧x≤200:=fun x hx=>co_true (List.all_eq_true.1 h x hx)
/-- A side's coordinate. -/
def crd (x:List Int) (s:Int):Int:=rd x ((s.natAbs:Int) - 1)
def fairRow (x:List Int):List Int→Bool
 |[a,b,c]=>decide ((crd x a+crd x b+crd x c) % 2=0∧crd x a≤crd x b+crd x c∧crd x b≤crd x a+crd x c∧crd x c≤crd x a+crd x b)
 |_=>false
def isF (t:List (List Int)) (x:List Int):Bool:=isT t && (decide ((x.length:Int)=edges t) && (x.all co && t.all (fairRow x)))
theorem crd_bd {x:List Int} (hx:x.all co=true) (s:Int):0≤crd x s∧crd x s≤200:=by
 unfold crd rd
 rw[List.getD_eq_getElem?_getD]
 cases h:x[((s.natAbs:Int) - 1).toNat]? with
 |none=>simp
 |some y=>
  have:=List.all_eq_true.1 hx y (List.mem_of_getElem? h)
  unfold co at this
  simpa using this
/-- Twice the arcs at a corner. -/
def twR (x:List Int) (a b c:Int):Int:=crd x a+crd x b - crd x c
theorem twice_eq {t:List (List Int)}{n:Int} (ok:TriOk t n){x:List Int} (hx:(x.length:Int)=n) (hc:x.all co=true){i:Nat} (hi:i<t.length){a b c:Int} (e:t[i]=[a,b,c]):
  gN.f t x (i:Int) 0=some (twR x a b c)∧gN.f t x (i:Int) 1=some (twR x b c a)∧gN.f t x (i:Int) 2=some (twR x c a b):=by
 have n9:=ok.n9
 have hm:∀y∈[a,b,c],y≠0∧ -n≤y∧y≤n:=by
  intro y hy
  rw[←e]at hy
  exact ok.inr y (List.mem_flatten.2 ⟨_,List.getElem_mem hi,hy⟩)
 have ha:=hm a (by simp)
 have hb:=hm b (by simp)
 have hcc:=hm c (by simp)
 have A:=crd_bd hc a
 have B:=crd_bd hc b
 have C:=crd_bd hc c
 have e0:rd [a,b,c] 0=a:=rfl
 have e1:rd [a,b,c] 1=b:=rfl
 have e2:rd [a,b,c] 2=c:=rfl
 have q:∀y:Int,y≠0∧ -n≤y∧y≤n→0≤(y.natAbs:Int) - 1∧(y.natAbs:Int) - 1<x.length∧wrap64 ((y.natAbs:Int) - 1)=(y.natAbs:Int) - 1:=fun y hy=>⟨by omega,by omega,w_id om om⟩
 obtain⟨qa1,qa2,qa3⟩:=q a ha
 obtain⟨qb1,qb2,qb3⟩:=q b hb
 obtain⟨qc1,qc2,qc3⟩:=q c hcc
 have sa:=l3Abs_eq (a:=a) om om
 have sb:=l3Abs_eq (a:=b) om om
 have sc:=l3Abs_eq (a:=c) om om
 have l3:(([a,b,c]:List Int).length:Int)=3:=rfl
 have w01:Int.tmod (wrap64 (0+1)) 3=1:=by decide+kernel
 have w02:Int.tmod (wrap64 (0+2)) 3=2:=by decide+kernel
 have w11:Int.tmod (wrap64 (1+1)) 3=2:=by decide+kernel
 have w12:Int.tmod (wrap64 (1+2)) 3=0:=by decide+kernel
 have w21:Int.tmod (wrap64 (2+1)) 3=0:=by decide+kernel
 have w22:Int.tmod (wrap64 (2+2)) 3=1:=by decide+kernel
 have i0:(0:Int)≤(i:Int):=by omega
 have i1:(i:Int)<(t.length:Int):=by omega
 refine⟨?_,?_,?_⟩
 ·unfold gN.f
  rw[ip i0,ip i1,rdL_nat t i hi,e,l3,w01,w02,ip (by decide),ip (by decide),e0,sa,Option.bind_some,qa3,ip qa1,ip qa2,ip (by decide),ip (by decide),e1,sb,Option.bind_some,qb3,ip qb1,ip qb2,ip (by decide),ip (by decide),e2,sc,Option.bind_some,qc3,ip qc1,ip qc2]
  unfold twR
  unfold crd at A B C ⊢
  rw[w_id (a:=rd x _+rd x _) om om,w_id om om]
 ·unfold gN.f
  rw[ip i0,ip i1,rdL_nat t i hi,e,l3,w11,w12,ip (by decide),ip (by decide),e1,sb,Option.bind_some,qb3,ip qb1,ip qb2,ip (by decide),ip (by decide),e2,sc,Option.bind_some,qc3,ip qc1,ip qc2,ip (by decide),ip (by decide),e0,sa,Option.bind_some,qa3,ip qa1,ip qa2]
  unfold twR
  unfold crd at A B C ⊢
  rw[w_id (a:=rd x _+rd x _) om om,w_id om om]
 ·unfold gN.f
  rw[ip i0,ip i1,rdL_nat t i hi,e,l3,w21,w22,ip (by decide),ip (by decide),e2,sc,Option.bind_some,qc3,ip qc1,ip qc2,ip (by decide),ip (by decide),e0,sa,Option.bind_some,qa3,ip qa1,ip qa2,ip (by decide),ip (by decide),e1,sb,Option.bind_some,qb3,ip qb1,ip qb2]
  unfold twR
  unfold crd at A B C ⊢
  rw[w_id (a:=rd x _+rd x _) om om,w_id om om]
theorem pA {t:List (List Int)}{n:Int} (ok:TriOk t n){x:List Int} (hx:(x.length:Int)=n) (hc:x.all co=true){i:Nat} (hi:i<t.length) (k:Nat):
  fL.l2 (k+4) t x (i:Int) 0=if fairRow x t[i]=true then fL.l1 k t x (wrap64 ((i:Int)+1))else some false:=by
 obtain⟨a,b,c,e,_⟩:=ok.i64 (List.getElem_mem hi)
 obtain⟨h0,h1,h2⟩:=twice_eq ok hx hc hi e
 have A:=crd_bd hc a
 have B:=crd_bd hc b
 have C:=crd_bd hc c
 have hf:fairRow x t[i]=decide ((crd x a+crd x b+crd x c) % 2=0∧crd x a≤crd x b+crd x c∧crd x b≤crd x a+crd x c∧crd x c≤crd x a+crd x b):=by rw[e];rfl
 rw[hf]
 unfold twR at h0 h1 h2
 have no:∀(P:Prop) [Decidable P] (α:Type) (u v:α),¬P→(if decide P=true then u else v)=v:=fun P _ α u v h=>by simp[h]
 simp only[fL.l2]
 rw[ip (by decide),h0,Option.bind_some]
 by_cases c0:crd x a+crd x b - crd x c<0
 ·rw[ip c0,no _ _ _ _ om]
 ·rw[ig c0,Int.tmod_eq_emod_of_nonneg om]
  by_cases d0:(crd x a+crd x b - crd x c) % 2=0
  ·rw[ip d0,show wrap64 (0+1)=1 by decide+kernel]
   rw[ip (by decide),h1,Option.bind_some]
   by_cases c1:crd x b+crd x c - crd x a<0
   ·rw[ip c1,no _ _ _ _ om]
   ·rw[ig c1,Int.tmod_eq_emod_of_nonneg om,ip om,show wrap64 (1+1)=2 by decide+kernel]
    rw[ip (by decide),h2,Option.bind_some]
    by_cases c2:crd x c+crd x a - crd x b<0
    ·rw[ip c2,no _ _ _ _ om]
    ·rw[ig c2,Int.tmod_eq_emod_of_nonneg om,ip om,show wrap64 (2+1)=3 by decide+kernel]
     rw[ig (by decide),ip (by rw[decide_eq_true_iff];omega)]
  ·rw[ig d0,no _ _ _ _ om]
theorem mZ {t:List (List Int)}{n:Int} (ok:TriOk t n){x:List Int} (hx:(x.length:Int)=n) (hc:x.all co=true):∀(d i k:Nat),i+d=t.length→6*d<k→fL.l1 k t x (i:Int)=some ((t.drop i).all (fairRow x)):=by
 have hs:=ok.short
 intro d
 induction d with
 |zero=>
  intro i k hi hk
  obtain⟨k,rfl⟩:=sk k
  simp only[fL.l1]
  rw[ig om,List.drop_of_length_le om]
  rfl
 |succ d ih=>
  intro i k hi hk
  obtain⟨k,rfl⟩:∃m,k=m+5:=⟨k - 5,by omega⟩
  have hlt:i<t.length:=by omega
  rw[show k+5=(k+4)+1 from rfl]
  simp only[fL.l1]
  rw[ip om,pA ok hx hc hlt k,w_id om om,show((i:Int)+1)=((i+1:Nat):Int) by omega,ih (i+1) k om om,List.drop_eq_getElem_cons hlt,List.all_cons]
  by_cases h:fairRow x t[i]=true
  ·rw[ip h,h,Bool.true_and]
  ·rw[ig h]
   simp at h
   rw[h,Bool.false_and]
theorem pC {t:List (List Int)}{n:Int} (ok:TriOk t n){x:List Int} (hx:(x.length:Int)=n):∀(d i k:Nat),i+d=x.length→100+d<k→(x.take i).all co=true→fL.l0 k t x (i:Int)=some (x.all co && t.all (fairRow x)):=by
 have hs:=ok.short
 have n9:=ok.n9
 intro d
 induction d with
 |zero=>
  intro i k hi hk ht
  obtain⟨k,rfl⟩:=sk k
  simp only[fL.l0]
  rw[List.take_of_length_le om]at ht
  have:=mZ ok hx ht t.length 0 k om om
  rw[List.drop_zero]at this
  rw[ig om,ht,Bool.true_and]
  exact this
 |succ d ih=>
  intro i k hi hk ht
  obtain⟨k,rfl⟩:=sk k
  have hlt:i<x.length:=by omega
  simp only[fL.l0]
  rw[ip om,ip om,rd_nat x i hlt,l1In_eq,Option.bind_some]
  by_cases h:0≤x[i]∧x[i]≤200
  ·rw[ip (by simpa using h),w_id om om,show((i:Int)+1)=((i+1:Nat):Int) by omega]
   refine ih (i+1) k om om ?_
   rw[List.take_succ_eq_append_getElem hlt,List.all_append,ht]
   simp[co,h]
  ·rw[ig (by simpa using h)]
   have:x.all co=false:=by
    rw[List.all_eq_false]
    exact⟨x[i],List.getElem_mem hlt,by unfold co;simpa using h⟩
   rw[this,Bool.false_and]
theorem jT (t:List (List Int)) (ht:t.length≤1048576) (x:List Int) (k:Nat) (hk:6000001<k):fL.f k t x=some (isF t x):=by
 obtain⟨k,rfl⟩:=sk k
 unfold fL.f isF
 rw[mG t ht _ om,Option.bind_some]
 simp only[fL.j0]
 rw[show wrap64 (Int.tdiv (wrap64 (3*(t.length:Int))) 2)=edges t from rfl]
 by_cases h:isT t=true
 ·have ok:=isT_ok ht h
  have n9:=ok.n9
  rw[ip h,h]
  by_cases h2:(x.length:Int)=edges t
  ·have:=pC ok h2 x.length 0 k om om (by simp)
   rw[ig (by simpa using h2),decide_eq_true h2,Bool.true_and,Bool.true_and]
   exact this
  ·rw[ip (by simpa using h2),decide_eq_false h2,Bool.false_and,Bool.and_false]
 ·rw[ig h,ip trivial]
  simp at h
  rw[h,Bool.false_and]
theorem pE {t:List (List Int)}{n:Int} (ok:TriOk t n){x:List Int} (hx:(x.length:Int)=n) (hc:x.all co=true):∀(d i k:Nat),i+d=t.length→d<k→fH.l0 k x t (t.length:Int) (i:Int)=some ((t.drop i).all (fairRow x)):=by
 have hs:=ok.short
 have n9:=ok.n9
 intro d
 induction d with
 |zero=>
  intro i k hi hk
  obtain⟨k,rfl⟩:=sk k
  simp only[fH.l0]
  rw[ig om,List.drop_of_length_le om]
  rfl
 |succ d ih=>
  intro i k hi hk
  obtain⟨k,rfl⟩:=sk k
  have hlt:i<t.length:=by omega
  obtain⟨a,b,c,e,ha,hb,hcc⟩:=ok.i64 (List.getElem_mem hlt)
  have A:=crd_bd hc a
  have B:=crd_bd hc b
  have C:=crd_bd hc c
  have q:∀y:Int,y≠0∧ -n≤y∧y≤n→0≤(y.natAbs:Int) - 1∧(y.natAbs:Int) - 1<x.length∧wrap64 ((y.natAbs:Int) - 1)=(y.natAbs:Int) - 1:=fun y hy=>⟨by omega,by omega,w_id om om⟩
  obtain⟨qa1,qa2,qa3⟩:=q a ha
  obtain⟨qb1,qb2,qb3⟩:=q b hb
  obtain⟨qc1,qc2,qc3⟩:=q c hcc
  have sa:=size_eq (a:=a) om om
  have sb:=size_eq (a:=b) om om
  have sc:=size_eq (a:=c) om om
  have l3:(([a,b,c]:List Int).length:Int)=3:=rfl
  have e0:rd [a,b,c] 0=a:=rfl
  have e1:rd [a,b,c] 1=b:=rfl
  have e2:rd [a,b,c] 2=c:=rfl
  have hf:fairRow x t[i]=decide ((crd x a+crd x b+crd x c) % 2=0∧crd x a≤crd x b+crd x c∧crd x b≤crd x a+crd x c∧crd x c≤crd x a+crd x b):=by rw[e];rfl
  simp only[fH.l0]
  rw[List.drop_eq_getElem_cons hlt,List.all_cons,hf]
  rw[ip om,ip om,ip om,rdL_nat t i hlt,e,l3,e0,e1,e2,ip (by decide),sa,Option.bind_some,qa3,ip qa1,ip qa2,ip (by decide),sb,Option.bind_some,qb3,ip qb1,ip qb2,ip (by decide),sc,Option.bind_some,qc3,ip qc1,ip qc2]
  rw[show rd x ((a.natAbs:Int) - 1)=crd x a from rfl,show rd x ((b.natAbs:Int) - 1)=crd x b from rfl,show rd x ((c.natAbs:Int) - 1)=crd x c from rfl]
  rw[w_id (a:=crd x a+crd x b) om om,w_id (a:=crd x a+crd x b+crd x c) om om,w_id (a:=crd x b+crd x c) om om,w_id (a:=crd x a+crd x c) om om,Int.tmod_eq_emod_of_nonneg om,w_id (a:=(i:Int)+1) om om,show((i:Int)+1)=((i+1:Nat):Int) by omega,ih (i+1) k om om]
  have no:∀(P:Prop) [Decidable P] (u:Bool),¬P→(decide P && u)=false:=fun P _ u h=>by simp[h]
  by_cases c0:(crd x a+crd x b+crd x c) % 2=0
  ·rw[ip c0]
   by_cases c1:crd x a>crd x b+crd x c
   ·rw[ip c1,no _ _ om]
   ·rw[ig c1]
    by_cases c2:crd x b>crd x a+crd x c
    ·rw[ip c2,no _ _ om]
    ·rw[ig c2]
     by_cases c3:crd x c>crd x a+crd x b
     ·rw[ip c3,no _ _ om]
     ·rw[ig c3,decide_eq_true om,Bool.true_and]
  ·rw[ig c0,no _ _ om]
theorem jS (t:List (List Int)) (ht:t.length≤1048576) (x:List Int) (k:Nat) (hk:6000001<k):fH.f k t x=some (isF t x):=by
 obtain⟨k,rfl⟩:=sk k
 unfold fH.f isF
 rw[mE t ht _ om,Option.bind_some]
 simp only[fH.j0]
 rw[show wrap64 (Int.tdiv (wrap64 (3*(t.length:Int))) 2)=edges t from rfl]
 by_cases h:isT t=true
 ·have ok:=isT_ok ht h
  have n9:=ok.n9
  have hs:=ok.short
  rw[ip h,h]
  by_cases h2:(x.length:Int)=edges t
  ·rw[ip h2,decide_eq_true h2,Bool.true_and,Bool.true_and,areCo x om _ om,Option.bind_some]
   by_cases h3:x.all co=true
   ·have:=pE ok h2 h3 t.length 0 k om om
    rw[List.drop_zero]at this
    rw[h3,ig (by decide),Bool.true_and]
    exact this
   ·rw[Bool.eq_false_iff.mpr h3,ip (by decide),Bool.false_and]
  ·rw[ig h2,ip trivial,decide_eq_false h2,Bool.false_and,Bool.and_false]
 ·rw[ig h,ip trivial]
  simp at h
  rw[h,Bool.false_and]
/-- The arcs at a corner, twice. -/
def tw (t:List (List Int)) (x:List Int) (i j:Nat):Int:=crd x (sideOf t i j)+crd x (sideOf t i (j+1)) - crd x (sideOf t i (j+2))
theorem isF_ok {t:List (List Int)}{x:List Int} (ht:t.length≤1048576) (h:isF t x=true):TriOk t (edges t)∧(x.length:Int)=edges t∧x.all co=true∧∀r∈t,fairRow x r=true:=by
 unfold isF at h
 rw[Bool.and_eq_true,Bool.and_eq_true,Bool.and_eq_true,decide_eq_true_iff]at h
 exact⟨isT_ok ht h.1,h.2.1,h.2.2.1,fun r hr=>List.all_eq_true.1 h.2.2.2 r hr⟩
theorem tw_even {t:List (List Int)}{x:List Int}{n:Int} (ok:TriOk t n) (hc:x.all co=true){i:Nat} (hi:i<t.length) (hf:fairRow x t[i]=true) (j:Nat) (hj:j<3):0≤tw t x i j∧tw t x i j≤400∧tw t x i j % 2=0:=by
 obtain⟨a,b,c,e,_⟩:=ok.i64 (List.getElem_mem hi)
 have A:=crd_bd hc a
 have B:=crd_bd hc b
 have C:=crd_bd hc c
 have hf2:decide ((crd x a+crd x b+crd x c) % 2=0∧crd x a≤crd x b+crd x c∧crd x b≤crd x a+crd x c∧crd x c≤crd x a+crd x b)=true:=by rw[e]at hf;exact hf
 rw[decide_eq_true_iff]at hf2
 obtain⟨s0,s1,s2,s3,s4⟩:=sideOf_eq hi e
 unfold tw
 match j,hj with
 |0,_=>rw[s0,s1,s2];omega
 |1,_=>rw[s1,s2,s3];omega
 |2,_=>rw[s2,s3,s4];omega
theorem twice_tw {t:List (List Int)}{n:Int} (ok:TriOk t n){x:List Int} (hx:(x.length:Int)=n) (hc:x.all co=true){i:Nat} (hi:i<t.length) (j:Nat) (hj:j<3):gN.f t x (i:Int) (j:Int)=some (tw t x i j):=by
 obtain⟨a,b,c,e,_⟩:=ok.i64 (List.getElem_mem hi)
 obtain⟨h0,h1,h2⟩:=twice_eq ok hx hc hi e
 obtain⟨s0,s1,s2,s3,s4⟩:=sideOf_eq hi e
 unfold tw
 match j,hj with
 |0,_=>rw[s0,s1,s2];exact h0
 |1,_=>rw[s1,s2,s3];exact h1
 |2,_=>rw[s2,s3,s4];exact h2
theorem arcsAt_eq {t:List (List Int)}{n:Int} (ok:TriOk t n){x:List Int} (hx:(x.length:Int)=n){i:Nat} (hi:i<t.length) (j:Nat) (hj:j<1000):arcsAt.f t x (i:Int) (j:Int)=some (crd x (sideOf t i j)):=by
 have n9:=ok.n9
 have h3:=ok.three hi
 have hjl:j % 3<t[i].length:=by omega
 have hs:=sideOf_in ok hi j
 have e:rd (rd_L1 t (i:Int)) (Int.tmod (j:Int) 3)=sideOf t i j:=by
  rw[rdL_nat t i hi,Int.tmod_eq_emod_of_nonneg om,show((j:Int) % 3)=((j % 3:Nat):Int) by omega,rd_nat _ _ hjl]
  unfold sideOf
  rw[getD_at _ hi,getD_at _ hjl]
 unfold arcsAt.f
 rw[ip om,ip om,ip (by rw[Int.tmod_eq_emod_of_nonneg om];omega),ip (by rw[rdL_nat t i hi,Int.tmod_eq_emod_of_nonneg om];omega),e,size_eq om om,Option.bind_some,w_id om om,ip om,ip om]
 rfl
theorem arcs_eq {t:List (List Int)}{n:Int} (ok:TriOk t n){x:List Int} (hx:(x.length:Int)=n) (hc:x.all co=true){i:Nat} (hi:i<t.length) (hf:fairRow x t[i]=true) (j:Nat) (hj:j<3):jG.f t x (i:Int) (j:Int)=some (tw t x i j / 2):=by
 have hb:=tw_even ok hc hi hf j hj
 have A:=crd_bd hc (sideOf t i j)
 have B:=crd_bd hc (sideOf t i (j+1))
 have C:=crd_bd hc (sideOf t i (j+2))
 unfold jG.f
 rw[arcsAt_eq ok hx hi j om,Option.bind_some,w_id (a:=(j:Int)+1) om om,show((j:Int)+1)=((j+1:Nat):Int) by omega,arcsAt_eq ok hx hi (j+1) om,Option.bind_some,w_id (a:=(j:Int)+2) om om,show((j:Int)+2)=((j+2:Nat):Int) by omega,arcsAt_eq ok hx hi (j+2) om,Option.bind_some]
 unfold tw at hb ⊢
 rw[w_id (a:=crd x (sideOf t i j)+crd x (sideOf t i (j+1))) om om,w_id (a:=crd x (sideOf t i j)+crd x (sideOf t i (j+1)) - crd x (sideOf t i (j+2))) om om,Int.tdiv_eq_ediv_of_nonneg om,w_id om om]
def subL:List Int→List Int→List Int
 |x :: xs,y :: ys=>(x - y) :: subL xs ys
 |_,_=>[]
def sumP:List Int→Int
 |[]=>0
 |x :: xs=>x+sumP xs
theorem subL_len:∀(x y:List Int),x.length=y.length→(subL x y).length=x.length
 |[],[],_=>rfl
 |[],_ :: _,h=>by simp at h
 |_ :: _,[],h=>by simp at h
 |x :: xs,y :: ys,h=>by
  rw[subL,List.length_cons,List.length_cons,subL_len xs ys (by simpa using h)]
theorem subL_at:∀(x y:List Int) (i:Nat),x.length=y.length→(h:i<x.length)→(h2:i<y.length)→(h3:i<(subL x y).length)→(subL x y)[i]=x[i] - y[i]
 |[],[],i,_,h,_,_=>by simp at h
 |[],_ :: _,_,h,_,_,_=>by simp at h
 |_ :: _,[],_,h,_,_,_=>by simp at h
 |x :: xs,y :: ys,0,_,_,_,_=>rfl
 |x :: xs,y :: ys,i+1,h,h1,h2,h3=>by
  have h1':i<xs.length:=by simpa using h1
  have h2':i<ys.length:=by simpa using h2
  have h4:i<(subL xs ys).length:=by rw[subL_len xs ys (by simpa using h)];exact h1'
  have ih:=subL_at xs ys i (by simpa using h) h1' h2' h4
  simp only[subL,List.getElem_cons_succ]
  exact ih
theorem sumP_sub:∀(x y:List Int),x.length=y.length→sumP (subL x y)=sumP x - sumP y
 |[],[],_=>rfl
 |[],_ :: _,h=>by simp at h
 |_ :: _,[],h=>by simp at h
 |x :: xs,y :: ys,h=>by
  rw[subL,sumP,sumP,sumP,sumP_sub xs ys (by simpa using h)]
  omega
theorem sumP_nn:∀(x:List Int),(∀a∈x,0≤a)→0≤sumP x
 |[],_=>by simp[sumP]
 |a :: xs,h=>by
  have:=h a List.mem_cons_self
  have:=sumP_nn xs (fun b hb=>h b (List.mem_cons_of_mem _ hb))
  rw[sumP]
  omega
theorem sumP_pos:∀(x:List Int),(∀a∈x,0≤a)→(∃a∈x,1≤a)→1≤sumP x
 |[],_,h=>by obtain⟨a,ha,_⟩:=h;exact absurd ha (by simp)
 |b :: xs,h,⟨a,ha,h1⟩=>by
  have h0:=h b List.mem_cons_self
  have hn:=sumP_nn xs (fun b hb=>h b (List.mem_cons_of_mem _ hb))
  rw[sumP]
  rcases List.mem_cons.1 ha with e|e
  ·subst e;omega
  ·have:=sumP_pos xs (fun b hb=>h b (List.mem_cons_of_mem _ hb)) ⟨a,e,h1⟩
   omega
theorem sumP_le:∀(x:List Int),(∀a∈x,a≤200)→sumP x≤200*x.length
 |[],_=>by simp[sumP]
 |a :: xs,h=>by
  have:=h a List.mem_cons_self
  have:=sumP_le xs (fun b hb=>h b (List.mem_cons_of_mem _ hb))
  rw[sumP,List.length_cons]
  omega
theorem co_at {x:List Int} (hc:x.all co=true){a:Int} (ha:a∈x):0≤a∧a≤200:=co_true (List.all_eq_true.1 hc a ha)
theorem crd_nat {x:List Int}{s:Int}{e:Nat} (hs:(s.natAbs:Int)=(e:Int)+1) (he:e<x.length):crd x s=x[e]:=by
 unfold crd
 rw[hs,show(e:Int)+1 - 1=(e:Int) by omega,rd_nat x e he]
theorem SameV.symm {t:List (List Int)}{c d:Int} (h:SameV t c d):SameV t d c:=UF.Cls.symm h
theorem SameV.trans {t:List (List Int)}{c d e:Int} (h:SameV t c d) (h2:SameV t d e):SameV t c e:=UF.Cls.trans h h2
theorem vind_same {t:List (List Int)}{c d e:Int} (h:SameV t d e):vind t c d=vind t c e:=by
 unfold vind
 by_cases p:SameV t d c
 ·rw[ip p,ip (h.symm.trans p)]
 ·rw[ig p,ig (fun q=>p (h.trans q))]
theorem cor_mod (i j:Nat):cor i (j % 3)=cor i j:=by
 unfold cor
 rw[Nat.mod_mod]
theorem cor_mod1 (i j:Nat):cor i (j % 3+1)=cor i (j+1):=by
 unfold cor
 rw[show(j % 3+1) % 3=(j+1) % 3 by omega]
/-- What the curve around a vertex says of a side: its two corners at the vertex. -/
theorem around_side {t:List (List Int)}{n:Nat} (ok:TriOk t (n:Int)) (c:Int){a:Nat} (ha:a<t.length) (b:Nat):crd (aroundR t n c) (sideOf t a b)=vind t c (cor a b)+vind t c (cor a (b+1)):=by
 have hs:=sideOf_in ok ha b
 obtain⟨e,he⟩:∃e:Nat,((sideOf t a b).natAbs:Int)=(e:Int)+1:=⟨(sideOf t a b).natAbs - 1,by omega⟩
 have hen:e<n:=by omega
 have hel:e<(aroundR t n c).length:=by rw[aroundR_len];exact hen
 rw[crd_nat he hel]
 have hv:(aroundR t n c)[e]=valE t c ((e:Int)+1):=by
  have h:(aroundR t n c)[e]?= some (valE t c ((e:Int)+1)):=by
   unfold aroundR
   rw[List.getElem?_map,List.getElem?_range hen]
   rfl
  rw[List.getElem?_eq_getElem hel]at h
  exact Option.some.inj h
 rw[hv]
 unfold valE
 by_cases p:0<sideOf t a b
 ·have e1:(e:Int)+1=sideOf t a (b % 3):=by rw[sideOf_mod];omega
  rw[e1,side_at ok ha om]
  dsimp only
  rw[Int.toNat_natCast,Int.toNat_natCast,cor_mod,cor_mod1]
 ·obtain⟨o1,o2,o3,o4⟩:=opp_at ok ha b
  have e1:(e:Int)+1= -(sideOf t a b):=by omega
  rw[e1,o4]
  dsimp only
  rw[Int.toNat_natCast,Int.toNat_natCast]
  have hm:∀p,p∈vp t a (b % 3)→SameV t p.1 p.2:=by
   intro p hp
   obtain⟨q1,q2,_,_⟩:=opp_at ok ha (b % 3)
   have hm:p∈allG (vp t) t.length 0:=(mem_allG _ _).2 ⟨a,by omega,by omega,b % 3,by omega,hp⟩
   have hp':p=(cor a (b % 3),cor (opp t a (b % 3)).1 ((opp t a (b % 3)).2+1))∨p=(cor a (b % 3+1),cor (opp t a (b % 3)).1 (opp t a (b % 3)).2):=by simpa[vp] using hp
   rcases hp' with e|e
   ·subst e
    exact .pair hm (cor_bd ha _).1 (cor_bd ha _).2 (cor_bd q1 _).1 (cor_bd q1 _).2
   ·subst e
    exact .pair hm (cor_bd ha _).1 (cor_bd ha _).2 (cor_bd q1 _).1 (cor_bd q1 _).2
  have eo:opp t a (b % 3)=opp t a b:=by unfold opp;rw[sideOf_mod]
  have m1:=hm _ (show(cor a (b % 3),cor (opp t a (b % 3)).1 ((opp t a (b % 3)).2+1))∈vp t a (b % 3)from by simp[vp])
  have m2:=hm _ (show(cor a (b % 3+1),cor (opp t a (b % 3)).1 (opp t a (b % 3)).2)∈vp t a (b % 3)from by simp[vp])
  dsimp only at m1 m2
  rw[eo,cor_mod]at m1
  rw[eo,cor_mod1]at m2
  rw[←vind_same m1, ←vind_same m2]
  omega
/-- All corners at the vertex of c have arcs. -/
def fineB (t:List (List Int)) (x:List Int) (c:Int) (m j:Nat):Prop:=SameV t (cor m (j+1)) c→2≤tw t x m j
def fineP (t:List (List Int)) (x:List Int) (c:Int):Prop:=∀m,m<t.length→∀j,j<3→fineB t x c m j
structure Inv (t:List (List Int)) (n:Nat) (x:List Int):Prop where
 len:x.length=n
 cs:x.all co=true
 ge:∀i,i<t.length→∀j,j<3→0≤tw t x i j
theorem tw_mod (t:List (List Int)) (x:List Int) (i j:Nat):tw t x i (j % 3)=tw t x i j:=by
 unfold tw
 rw[sideOf_mod, ←sideOf_mod t i (j % 3+1), ←sideOf_mod t i (j % 3+2), ←sideOf_mod t i (j+1), ←sideOf_mod t i (j+2),show(j % 3+1) % 3=(j+1) % 3 by omega,show(j % 3+2) % 3=(j+2) % 3 by omega]
theorem Inv.step {t:List (List Int)}{n:Nat} (ok:TriOk t (n:Int)){x:List Int} (h:Inv t n x){k0 i0:Nat} (hk:k0<t.length) (hi:i0<3) (hf:fineP t x (cor k0 (i0+1))):
  Inv t n (subL x (aroundR t n (cor k0 (i0+1))))∧sumP (subL x (aroundR t n (cor k0 (i0+1))))<sumP x:=by
 have hl:x.length=(aroundR t n (cor k0 (i0+1))).length:=by rw[aroundR_len,h.len]
 have hsl:=subL_len x _ hl
 have n9:=ok.n9
 have hcr:∀a b,a<t.length→crd (subL x (aroundR t n (cor k0 (i0+1)))) (sideOf t a b)=crd x (sideOf t a b) - (vind t (cor k0 (i0+1)) (cor a b)+vind t (cor k0 (i0+1)) (cor a (b+1))):=by
  intro a b ha
  have hs:=sideOf_in ok ha b
  obtain⟨e,he⟩:∃e:Nat,((sideOf t a b).natAbs:Int)=(e:Int)+1:=⟨(sideOf t a b).natAbs - 1,by omega⟩
  have hxl:=h.len
  have h1:e<x.length:=by omega
  have h2:e<(aroundR t n (cor k0 (i0+1))).length:=by rw[←hl];exact h1
  have h3:e<(subL x (aroundR t n (cor k0 (i0+1)))).length:=by rw[hsl];exact h1
  rw[←around_side ok _ ha b,crd_nat he h1,crd_nat he h2,crd_nat he h3]
  exact subL_at x _ e hl h1 h2 h3
 have c3:∀a b,cor a (b+3)=cor a b:=fun a b=>by unfold cor;rw[Nat.add_mod_right]
 have htw:∀a b,a<t.length→tw t (subL x (aroundR t n (cor k0 (i0+1)))) a b=tw t x a b - 2*vind t (cor k0 (i0+1)) (cor a (b+1)):=by
  intro a b ha
  unfold tw
  rw[hcr a b ha,hcr a (b+1) ha,hcr a (b+2) ha,show b+2+1=b+3 from rfl,show b+1+1=b+2 from rfl,c3]
  omega
 have hnn:∀a b,a<t.length→b<3→0≤tw t (subL x (aroundR t n (cor k0 (i0+1)))) a b:=by
  intro a b ha hb
  rw[htw a b ha]
  have:=h.ge a ha b hb
  have vb:=vind_bd t (cor k0 (i0+1)) (cor a (b+1))
  by_cases p:SameV t (cor a (b+1)) (cor k0 (i0+1))
  ·have:=hf a ha b hb p
   omega
  ·have:vind t (cor k0 (i0+1)) (cor a (b+1))=0:=by unfold vind;rw[ig p]
   omega
 have hpos:∀a∈subL x (aroundR t n (cor k0 (i0+1))),0≤a∧a≤200:=by
  intro v hv
  obtain⟨e,he,rfl⟩:=List.mem_iff_getElem.1 hv
  have hxl:=h.len
  rw[hsl]at he
  obtain⟨o,a,ho,ha,s1,s2⟩:=ok.side (x:=(e:Int)+1) om om om
  have h1:=hnn o a ho ha
  have h2:=hnn o ((a+2) % 3) ho om
  rw[tw_mod]at h2
  have hc0:crd (subL x (aroundR t n (cor k0 (i0+1)))) (sideOf t o a)=(subL x (aroundR t n (cor k0 (i0+1))))[e]:=crd_nat (by rw[s2];omega) (by rw[hsl];exact he)
  have s3:sideOf t o (a+3)=sideOf t o a:=by unfold sideOf;rw[Nat.add_mod_right]
  have s4:sideOf t o (a+4)=sideOf t o (a+1):=by rw[←sideOf_mod, ←sideOf_mod t o (a+1),show(a+4) % 3=(a+1) % 3 by omega]
  unfold tw at h1 h2
  rw[show a+2+1=a+3 from rfl,show a+2+2=a+4 from rfl,s3,s4]at h2
  have h5:e<(aroundR t n (cor k0 (i0+1))).length:=by rw[←hl];exact he
  have h6:=subL_at x _ e hl he h5 (by rw[hsl];exact he)
  have h7:=co_at h.cs (List.getElem_mem he)
  have h8:0≤(aroundR t n (cor k0 (i0+1)))[e]:=by
   have q:=around_side ok (cor k0 (i0+1)) ho a
   rw[crd_nat (e:=e) (by rw[s2];omega) h5]at q
   have:=vind_bd t (cor k0 (i0+1)) (cor o a)
   have:=vind_bd t (cor k0 (i0+1)) (cor o (a+1))
   omega
  omega
 refine⟨⟨by rw[hsl];exact h.len,List.all_eq_true.2 (fun a ha=>decide_eq_true (hpos a ha)),fun a ha b hb=>hnn a b ha hb⟩,?_⟩
 rw[sumP_sub x _ hl]
 have h1:1≤sumP (aroundR t n (cor k0 (i0+1))):=by
  refine sumP_pos _ (fun v hv=>?_) ?_
  ·unfold aroundR at hv
   obtain⟨q,_,rfl⟩:=List.mem_map.1 hv
   exact(valE_bd t _ _).1
  ·have hs:=sideOf_in ok hk i0
   obtain⟨e,he⟩:∃e:Nat,((sideOf t k0 i0).natAbs:Int)=(e:Int)+1:=⟨(sideOf t k0 i0).natAbs - 1,by omega⟩
   have hel:e<(aroundR t n (cor k0 (i0+1))).length:=by rw[aroundR_len];omega
   have q:=around_side ok (cor k0 (i0+1)) hk i0
   rw[crd_nat he hel]at q
   have v0:=vind_bd t (cor k0 (i0+1)) (cor k0 i0)
   have v1:vind t (cor k0 (i0+1)) (cor k0 (i0+1))=1:=by
    unfold vind
    rw[ip (.refl (cor_bd hk (i0+1)).1 (cor_bd hk (i0+1)).2)]
   exact⟨_,List.getElem_mem hel,by omega⟩
 omega
theorem copyOf_f (r:List Int) (h:r.length≤1048576):jZ.f r=some r:=by
 unfold jZ.f
 rw[Option.bind_some,ip (by simp;omega),List.nil_append]
theorem arcs_any {t:List (List Int)}{n:Nat} (ok:TriOk t (n:Int)){x:List Int} (h:Inv t n x){i:Nat} (hi:i<t.length) (j:Nat) (hj:j<3):jG.f t x (i:Int) (j:Int)=some (tw t x i j / 2):=by
 have hx:(x.length:Int)=(n:Int):=by have:=h.len;omega
 have hb:=h.ge i hi j hj
 have A:=crd_bd h.cs (sideOf t i j)
 have B:=crd_bd h.cs (sideOf t i (j+1))
 have C:=crd_bd h.cs (sideOf t i (j+2))
 have e1:=arcsAt_eq ok hx hi j om
 have e2:=arcsAt_eq ok hx hi (j+1) om
 have e3:=arcsAt_eq ok hx hi (j+2) om
 unfold jG.f
 rw[e1,Option.bind_some,show wrap64 ((j:Int)+1)=((j+1:Nat):Int)from w_n om om,e2,Option.bind_some,show wrap64 ((j:Int)+2)=((j+2:Nat):Int)from w_n om om,e3,Option.bind_some]
 unfold tw at hb ⊢
 rw[w_id (a:=crd x (sideOf t i j)+crd x (sideOf t i (j+1))) om om,w_id (a:=crd x (sideOf t i j)+crd x (sideOf t i (j+1)) - crd x (sideOf t i (j+2))) om om,Int.tdiv_eq_ediv_of_nonneg om,w_id om om]
section
open Classical
theorem isAr_l1 {t:List (List Int)}{n:Nat} (ok:TriOk t (n:Int)){up:List Int} (S:UF.Stands up (3*(t.length:Int)) (allG (vp t) t.length 0)){x:List Int} (h:Inv t n x){c:Int} (hc:0≤c∧c<3*(t.length:Int)){i:Nat} (hi:i<t.length):∀(d j k:Nat),j+d=3→100+d<k→
  gE.l1 k t x up c (i:Int) (j:Int)=if(∀q,j≤q→q<3→fineB t x c i q)then gE.l0 (k - d - 1) t x up c ((i+1:Nat):Int)else some false:=by
 have hs:=ok.short
 have hlen:=S.len
 intro d
 induction d with
 |zero=>
  intro j k hj hk
  obtain⟨k,rfl⟩:=sk k
  simp only[gE.l1]
  rw[ig om,w_n (m:=i+1) om om,ip (fun q h1 h2=>absurd h1 om)]
  rfl
 |succ d ih=>
  intro j k hj hk
  obtain⟨k,rfl⟩:=sk k
  have ihh:=ih (j+1) k om om
  have hk':k+1 - (d+1) - 1=k - d - 1:=by omega
  have x1:(j:Int)<3:=by omega
  have x3:j<3:=by omega
  have cb2:=cor_bd hi (j+1)
  have f2:=top_f S.ok cb2.1 (m:=k) om om
  have f3:=top_f S.ok hc.1 (m:=k) om om
  have ar:=arcs_any ok h hi j x3
  have sm:=S.same_iff cb2 hc
  have split:(∀q,j≤q→q<3→fineB t x c i q)↔fineB t x c i j∧∀q,j+1≤q→q<3→fineB t x c i q:=by
   constructor
   ·exact fun h=>⟨h j (Nat.le_refl _) x3,fun q h1 h2=>h q om h2⟩
   ·rintro ⟨h1,h2⟩ q h3 h4
    by_cases e:q=j
    ·subst e;exact h1
    ·exact h2 q om h4
  have hb:=h.ge i hi j x3
  simp only[gE.l1]
  rw[ip x1,show wrap64 (3*(i:Int))=((3*i:Nat):Int)from w_n om om,show wrap64 ((j:Int)+1)=((j+1:Nat):Int)from w_n om om,tmod3,
   show wrap64 (((3*i:Nat):Int)+((((j+1) % 3:Nat)):Int))=cor i (j+1)from by rw[w_n (m:=3*i+(j+1) % 3) om om];unfold cor;omega,f2,Option.bind_some,f3,Option.bind_some,hk']
  by_cases p:SameV t (cor i (j+1)) c
  ·rw[ip (sm.2 p),ar,Option.bind_some]
   by_cases b:tw t x i j / 2<1
   ·rw[ip b,ig (fun hq=>by have:=(split.1 hq).1 p;omega)]
   ·rw[ig b,ihh]
    have hf:fineB t x c i j:=fun _=>by omega
    by_cases r:∀q,j+1≤q→q<3→fineB t x c i q
    ·rw[ip r,ip (split.2 ⟨hf,r⟩)]
    ·rw[ig r,ig (fun hq=>r (split.1 hq).2)]
  ·rw[ig (fun e=>p (sm.1 e)),ihh]
   have hf:fineB t x c i j:=fun e=>absurd e p
   by_cases r:∀q,j+1≤q→q<3→fineB t x c i q
   ·rw[ip r,ip (split.2 ⟨hf,r⟩)]
   ·rw[ig r,ig (fun hq=>r (split.1 hq).2)]
theorem isAr_l0 {t:List (List Int)}{n:Nat} (ok:TriOk t (n:Int)){up:List Int} (S:UF.Stands up (3*(t.length:Int)) (allG (vp t) t.length 0)){x:List Int} (h:Inv t n x){c:Int} (hc:0≤c∧c<3*(t.length:Int)):∀(d i k:Nat),i+d=t.length→200+5*d<k→
  gE.l0 k t x up c (i:Int)=some (decide (∀m,i≤m→m<t.length→∀j,j<3→fineB t x c m j)):=by
 intro d
 induction d with
 |zero=>
  intro i k hi hk
  obtain⟨k,rfl⟩:=sk k
  simp only[gE.l0]
  rw[ig om,decide_eq_true (fun m h1 h2=>absurd h1 om)]
 |succ d ih=>
  intro i k hi hk
  obtain⟨k,rfl⟩:=sk k
  have hi':i<t.length:=by omega
  have e1:=isAr_l1 ok S h hc hi' 3 0 k om om
  have e2:=ih (i+1) (k - 3 - 1) om om
  have e1':gE.l1 k t x up c (i:Int) 0=if(∀q,0≤q→q<3→fineB t x c i q)then gE.l0 (k - 3 - 1) t x up c ((i+1:Nat):Int)else some false:=e1
  simp only[gE.l0]
  rw[ip om,e1',e2]
  by_cases r:∀q,0≤q→q<3→fineB t x c i q
  ·rw[ip r]
   congr 1
   apply decide_eq_decide.2
   constructor
   ·intro hh m h1 h2 j hj
    by_cases e:m=i
    ·subst e;exact r j (Nat.zero_le _) hj
    ·exact hh m om h2 j hj
   ·exact fun hh m h1 h2=>hh m om h2
  ·rw[ig r,decide_eq_false (fun hh=>r (fun q _ hq=>hh i (Nat.le_refl _) hi' q hq))]
theorem isAr_f {t:List (List Int)}{n:Nat} (ok:TriOk t (n:Int)){up:List Int} (S:UF.Stands up (3*(t.length:Int)) (allG (vp t) t.length 0)){x:List Int} (h:Inv t n x){c:Int} (hc:0≤c∧c<3*(t.length:Int)) (k:Nat) (hk:1000<k):gE.l0 k t x up c 0=some (decide (fineP t x c)):=by
 have hs:=ok.short
 have:=isAr_l0 ok S h hc t.length 0 k om om
 refine Eq.trans this ?_
 congr 1
 exact decide_eq_decide.2 ⟨fun hh m h2=>hh m (Nat.zero_le _) h2,fun hh m _ h2=>hh m h2⟩
/-- The corner behind the c-th side. -/
def cr (c:Nat):Int:=cor (c / 3) (c % 3+1)
noncomputable def firstF (t:List (List Int)) (x:List Int):Nat→Nat→Option Nat
 |0,_=>none
 |d+1,c=>if fineP t x (cr c)then some c else firstF t x d (c+1)
theorem firstF_some {t:List (List Int)}{x:List Int}:∀(d c r:Nat),firstF t x d c=some r→c≤r∧r<c+d∧fineP t x (cr r)
 |0,c,r,h=>by simp[firstF]at h
 |d+1,c,r,h=>by
  rw[firstF]at h
  by_cases p:fineP t x (cr c)
  ·rw[ip p]at h
   obtain rfl:=Option.some.inj h
   exact⟨Nat.le_refl _,by omega,p⟩
  ·rw[ig p]at h
   have:=firstF_some d (c+1) r h
   exact⟨by omega,by omega,this.2.2⟩
theorem loose_l3 {t:List (List Int)}{n:Nat} (ok:TriOk t (n:Int)){u2:List Int} (S:UF.Stands u2 (3*(t.length:Int)+2) (allG (ep t) t.length 0)){x:List Int} (h:Inv t n x){a b:Nat} (ha:a<t.length) (hb:b<3){m:Nat} (hm:m<t.length):∀(d j k:Nat) (fl:Bool),j+d=3→100+d<k→
  fQ.l3 k t x u2 (a:Int) (b:Int) (UF.rt u2 (En (sideOf t a b))) fl (m:Int) (j:Int)=fQ.l2 (k - d - 1) t x u2 (a:Int) (b:Int) (UF.rt u2 (En (sideOf t a b))) (fl && decide (∀q,j≤q→q<3→fineB t x (cor a (b+1)) m q)) ((m+1:Nat):Int):=by
 have hs:=ok.short
 have hn:=S.len
 have n9:=ok.n9
 have h3:=ok.three hm
 have hl:((rd_L1 t (m:Int)).length:Int)=3:=by rw[rdL_nat t m hm,h3];rfl
 have hx:(x.length:Int)=(n:Int):=by have:=h.len;omega
 have epm:∀a b:Nat,a<t.length→b<3→UF.Cls (3*(t.length:Int)+2) (allG (ep t) t.length 0) (En (sideOf t a b)) (fm t (cor a (b+1))):=by
  intro a b ha hb
  rw[fm_cor]
  exact .pair ((mem_allG _ _).2 ⟨a,by omega,by omega,b,hb,by simp[ep]⟩) (En_bd ok ha b).1 (En_bd ok ha b).2 (Bg_bd ok ha (b+1)).1 (Bg_bd ok ha (b+1)).2
 intro d
 induction d with
 |zero=>
  intro j k fl hj hk
  obtain⟨k,rfl⟩:=sk k
  simp only[fQ.l3]
  rw[ig om,w_n (m:=m+1) om om,decide_eq_true (fun q h1 h2=>absurd h1 om),Bool.and_true]
  rfl
 |succ d ih=>
  intro j k fl hj hk
  obtain⟨k,rfl⟩:=sk k
  have ih1:=ih (j+1) k fl om om
  have ih2:=ih (j+1) k false om om
  have hk':k+1 - (d+1) - 1=k - d - 1:=by omega
  have x1:(j:Int)<3:=by omega
  have x2:(0:Int)≤(m:Int):=by omega
  have x3:(m:Int)<(t.length:Int):=by omega
  have x4:(0:Int)≤(j:Int):=by omega
  have x5:j<3:=by omega
  have hs1:=sideOf_in ok hm j
  have bE:=En_bd ok hm j
  have bv:=En_bd ok ha b
  have f1:=find3_f S.ok bE.1 (m:=k) om om
  have y1:=l3Abs_eq (a:=sideOf t m j) om om
  have sm:UF.rt u2 (En (sideOf t m j))=UF.rt u2 (En (sideOf t a b))↔SameV t (cor m (j+1)) (cor a (b+1)):=by
   rw[S.same_iff bE bv]
   unfold SameV
   rw[cls_fm ok (cor_bd hm (j+1)) (cor_bd ha (b+1))]
   exact⟨fun h=>(epm m j hm x5).symm.trans (h.trans (epm a b ha hb)),fun h=>(epm m j hm x5).trans (h.trans (epm a b ha hb).symm)⟩
  have tq:=twice_tw ok hx h.cs hm j x5
  have split:(∀q,j≤q→q<3→fineB t x (cor a (b+1)) m q)↔fineB t x (cor a (b+1)) m j∧∀q,j+1≤q→q<3→fineB t x (cor a (b+1)) m q:=by
   constructor
   ·exact fun h=>⟨h j (Nat.le_refl _) x5,fun q h1 h2=>h q om h2⟩
   ·rintro ⟨h1,h2⟩ q h3 h4
    by_cases e:q=j
    ·subst e;exact h1
    ·exact h2 q om h4
  have w1:wrap64 ((j:Int)+1)=((j+1:Nat):Int):=w_n om om
  have v1:wrap64 (wrap64 (2*((sideOf t m j).natAbs:Int))+(if decide (sideOf t m j>0)=true then 1 else 0))=En (sideOf t m j):=by
   clear w1
   rw[w_id (a:=2*((sideOf t m j).natAbs:Int)) om om]
   unfold En
   by_cases c:sideOf t m j>0
   ·rw[ip (decide_eq_true c),ip c,w_id om om]
   ·rw[ig (by simpa using c),ig c,w_id om om]
  simp only[fQ.l3]
  rw[ip x1,ip x2,ip x3,ip x4,hl,ip x1,rd_at ok hm x5,y1,Option.bind_some,bit_eq,Option.bind_some,v1,f1,Option.bind_some,w1,hk']
  by_cases p:SameV t (cor m (j+1)) (cor a (b+1))
  ·rw[ip (sm.2 p),tq,Option.bind_some]
   by_cases b2:tw t x m j<2
   ·rw[ip b2,ih2,Bool.false_and,decide_eq_false (fun hq=>by have:=(split.1 hq).1 p;omega),Bool.and_false]
   ·rw[ig b2,ih1]
    have hf:fineB t x (cor a (b+1)) m j:=fun _=>by omega
    congr 2
    exact decide_eq_decide.2 ⟨fun r=>split.2 ⟨hf,r⟩,fun r=>(split.1 r).2⟩
  ·rw[ig (fun e=>p (sm.1 e)),ih1]
   have hf:fineB t x (cor a (b+1)) m j:=fun e=>absurd e p
   congr 2
   exact decide_eq_decide.2 ⟨fun r=>split.2 ⟨hf,r⟩,fun r=>(split.1 r).2⟩
theorem loose_l2 {t:List (List Int)}{n:Nat} (ok:TriOk t (n:Int)){u2:List Int} (S:UF.Stands u2 (3*(t.length:Int)+2) (allG (ep t) t.length 0)){x:List Int} (h:Inv t n x){a b:Nat} (ha:a<t.length) (hb:b<3):∀(d m k:Nat) (fl:Bool),m+d=t.length→200+5*d<k→
  fQ.l2 k t x u2 (a:Int) (b:Int) (UF.rt u2 (En (sideOf t a b))) fl (m:Int)=if(fl && decide (∀q,m≤q→q<t.length→∀j,j<3→fineB t x (cor a (b+1)) q j))=true then some ((a:Int),(b:Int))else fQ.l1 (k - 5*d - 1) t x u2 (a:Int) ((b+1:Nat):Int):=by
 intro d
 induction d with
 |zero=>
  intro m k fl hm hk
  obtain⟨k,rfl⟩:=sk k
  simp only[fQ.l2]
  rw[ig om,decide_eq_true (fun q h1 h2=>absurd h1 om),Bool.and_true,w_n (m:=b+1) om om]
  rfl
 |succ d ih=>
  intro m k fl hm hk
  obtain⟨k,rfl⟩:=sk k
  have hm':m<t.length:=by omega
  have e1:=loose_l3 ok S h ha hb hm' 3 0 k fl om om
  have e2:=ih (m+1) (k - 3 - 1) (fl && decide (∀q,0≤q→q<3→fineB t x (cor a (b+1)) m q)) om om
  have hk':k - 3 - 1 - 5*d - 1=k+1 - 5*(d+1) - 1:=by omega
  have e1':fQ.l3 k t x u2 (a:Int) (b:Int) (UF.rt u2 (En (sideOf t a b))) fl (m:Int) 0=_:=e1
  simp only[fQ.l2]
  rw[ip om,e1',e2,hk',Bool.and_assoc]
  have he:(decide (∀q,0≤q→q<3→fineB t x (cor a (b+1)) m q) && decide (∀q,m+1≤q→q<t.length→∀j,j<3→fineB t x (cor a (b+1)) q j))=decide (∀q,m≤q→q<t.length→∀j,j<3→fineB t x (cor a (b+1)) q j):=by
   rw[←Bool.decide_and]
   apply decide_eq_decide.2
   constructor
   ·rintro ⟨h1,h2⟩ q h3 h4 j hj
    by_cases e:q=m
    ·subst e;exact h1 j (Nat.zero_le _) hj
    ·exact h2 q om h4 j hj
   ·exact fun hh=>⟨fun q _ hq=>hh m (Nat.le_refl _) hm' q hq,fun q h1 h2=>hh q om h2⟩
  rw[he]
def lres:Option Nat→Int × Int
 |none=>(-1, -1)
 |some c=>(((c / 3:Nat):Int),((c % 3:Nat):Int))
theorem loose_l1 {t:List (List Int)}{n:Nat} (ok:TriOk t (n:Int)){u2:List Int} (S:UF.Stands u2 (3*(t.length:Int)+2) (allG (ep t) t.length 0)){x:List Int} (h:Inv t n x):∀(d c k:Nat),c+d=3*t.length→0<d→1000+50*d<k→
  fQ.l1 k t x u2 ((c / 3:Nat):Int) ((c % 3:Nat):Int)=some (lres (firstF t x d c)):=by
 have hs:=ok.short
 have hn:=S.len
 have n9:=ok.n9
 intro d
 induction d with
 |zero=>intro c k _ h0;exact absurd h0 om
 |succ d ih=>
  intro c k hc _ hk
  obtain⟨k,rfl⟩:=sk k
  have ha:c / 3<t.length:=by omega
  have hb:c % 3<3:=by omega
  have h3:=ok.three ha
  have hl:((rd_L1 t ((c / 3:Nat):Int)).length:Int)=3:=by rw[rdL_nat t _ ha,h3];rfl
  have hs1:=sideOf_in ok ha (c % 3)
  have bE:=En_bd ok ha (c % 3)
  have f1:=find3_f S.ok bE.1 (m:=k) om om
  have y1:=l3Abs_eq (a:=sideOf t (c / 3) (c % 3)) om om
  have x1:((c % 3:Nat):Int)<3:=by omega
  have x2:(0:Int)≤((c / 3:Nat):Int):=by omega
  have x3:((c / 3:Nat):Int)<(t.length:Int):=by omega
  have x4:(0:Int)≤((c % 3:Nat):Int):=by omega
  have v1:wrap64 (wrap64 (2*((sideOf t (c / 3) (c % 3)).natAbs:Int))+(if decide (sideOf t (c / 3) (c % 3)>0)=true then 1 else 0))=En (sideOf t (c / 3) (c % 3)):=by
   rw[w_id (a:=2*((sideOf t (c / 3) (c % 3)).natAbs:Int)) om om]
   unfold En
   by_cases c':sideOf t (c / 3) (c % 3)>0
   ·rw[ip (decide_eq_true c'),ip c',w_id om om]
   ·rw[ig (by simpa using c'),ig c',w_id om om]
  have e2:=loose_l2 ok S h ha hb t.length 0 k true om om
  have e2':fQ.l2 k t x u2 ((c / 3:Nat):Int) ((c % 3:Nat):Int) (UF.rt u2 (En (sideOf t (c / 3) (c % 3)))) true 0=_:=e2
  have nxt:¬fineP t x (cr c)→fQ.l1 (k - 5*t.length - 1) t x u2 ((c / 3:Nat):Int) ((c % 3+1:Nat):Int)=some (lres (firstF t x d (c+1))):=by
   intro _
   by_cases r:c % 3+1<3
   ·have e3:=ih (c+1) (k - 5*t.length - 1) om om om
    rw[show(c+1) / 3=c / 3 by omega,show(c+1) % 3=c % 3+1 by omega]at e3
    exact e3
   ·obtain⟨k2,hk2⟩:∃m,k - 5*t.length - 1=m+2:=⟨k - 5*t.length - 3,by omega⟩
    rw[hk2,show k2+2=(k2+1)+1 from rfl]
    conv=>lhs;unfold fQ.l1
    rw[ig om,show wrap64 (((c / 3:Nat):Int)+1)=((c / 3+1:Nat):Int)from w_n om om]
    conv=>lhs;unfold fQ.l0
    by_cases z:d=0
    ·subst z
     rw[ig om]
     rfl
    ·rw[ip om]
     have e3:=ih (c+1) k2 om om om
     rw[show(c+1) / 3=c / 3+1 by omega,show(c+1) % 3=0 by omega]at e3
     exact e3
  conv=>lhs;unfold fQ.l1
  rw[ip x1,ip x2,ip x3,ip x4,hl,ip x1,rd_at ok ha hb,y1,Option.bind_some,bit_eq,Option.bind_some,v1,f1,Option.bind_some,e2',Bool.true_and,firstF]
  by_cases p:fineP t x (cr c)
  ·have hh:∀(q:Nat),0≤q→q<t.length→∀(j:Nat),j<3→fineB t x (cor (c / 3) (c % 3+1)) q j:=fun q _ hq=>p q hq
   rw[ip (decide_eq_true hh),ip p]
   rfl
  ·have hh:¬(∀(q:Nat),0≤q→q<t.length→∀(j:Nat),j<3→fineB t x (cor (c / 3) (c % 3+1)) q j):=fun hh=>p (fun q hq=>hh q (Nat.zero_le _) hq)
   rw[ig (by rw[decide_eq_true_iff];exact hh),ig p]
   exact nxt p
theorem loose_f {t:List (List Int)}{n:Nat} (ok:TriOk t (n:Int)){x:List Int} (h:Inv t n x) (k:Nat) (hk:3000<k):fQ.f k t x=some (lres (firstF t x (3*t.length) 0)):=by
 obtain⟨u2,e,S⟩:=ends_f ok k om
 have hs:=ok.short
 obtain⟨k,rfl⟩:=sk k
 unfold fQ.f
 rw[e,Option.bind_some]
 conv=>lhs;unfold fQ.l0
 rw[ip om]
 exact loose_l1 ok S h (3*t.length) 0 k om om om
end
def mixL (x y:List Int) (e:Nat):List Int:=(subL x y).take e ++ x.drop e
theorem mixL_len {x y:List Int} (h:x.length=y.length){e:Nat} (he:e≤x.length):(mixL x y e).length=x.length:=by
 unfold mixL
 rw[List.length_append,List.length_take,List.length_drop,subL_len x y h]
 omega
theorem mixL_at {x y:List Int} (h:x.length=y.length){e:Nat} (he:e<x.length) (h2:e<(mixL x y e).length):(mixL x y e)[e]=x[e]:=by
 have hl:((subL x y).take e).length=e:=by rw[List.length_take,subL_len x y h];omega
 have q:(mixL x y e)[e]?= x[e]?:=by
  unfold mixL
  rw[List.getElem?_append_right om,hl,Nat.sub_self,List.getElem?_drop,Nat.add_zero]
 rw[List.getElem?_eq_getElem h2,List.getElem?_eq_getElem he]at q
 exact Option.some.inj q
theorem mixL_set {x y:List Int} (h:x.length=y.length){e:Nat} (he:e<x.length) (h2:e<y.length):(mixL x y e).set e (x[e] - y[e])=mixL x y (e+1):=by
 have hl:((subL x y).take e).length=e:=by rw[List.length_take,subL_len x y h];omega
 have hs:e<(subL x y).length:=by rw[subL_len x y h];exact he
 unfold mixL
 rw[List.set_append,ig om,hl,Nat.sub_self,List.drop_eq_getElem_cons he,List.set_cons_zero,List.take_succ_eq_append_getElem hs,List.append_assoc,subL_at x y e h he h2 hs]
 rfl
theorem mixL_end {x y:List Int} (h:x.length=y.length):mixL x y x.length=subL x y:=by
 unfold mixL
 rw[List.drop_length,List.append_nil,List.take_of_length_le (by rw[subL_len x y h];exact Nat.le_refl _)]
theorem mN (t:List (List Int)) (x y:List Int) (h:x.length=y.length) (hx:x.length≤100) (hb:∀(i:Nat) (h1:i<x.length) (h2:i<y.length), -1000≤x[i] - y[i]∧x[i] - y[i]≤1000):∀(d e k:Nat),e+d=x.length→d<k→fI.l1 k t (mixL x y e) y (e:Int)=fI.l0 (k - d - 1) t (subL x y):=by
 intro d
 induction d with
 |zero=>
  intro e k he hk
  obtain⟨k,rfl⟩:=sk k
  simp only[fI.l1]
  rw[mixL_len h om,ig om,show e=x.length by omega,mixL_end h]
  rfl
 |succ d ih=>
  intro e k he hk
  obtain⟨k,rfl⟩:=sk k
  have h1:e<x.length:=by omega
  have h2:e<y.length:=by omega
  have h3:e<(mixL x y e).length:=by rw[mixL_len h om];exact h1
  have hw:=hb e h1 h2
  simp only[fI.l1]
  rw[mixL_len h om,ip om,ip om,ip om,rd_nat _ e h3,rd_nat y e h2,mixL_at h h1 h3,w_id (a:=x[e] - y[e]) om om,Int.toNat_natCast,mixL_set h h1 h2,show wrap64 ((e:Int)+1)=((e+1:Nat):Int)from w_n om om,ih (e+1) k om om,show k+1 - (d+1) - 1=k - d - 1 by omega]
theorem pQ (t:List (List Int)) (up x y:List Int) (c:Nat) (hc:c≤1000) (h:x.length=y.length) (hx:x.length≤100) (hb:∀(i:Nat) (h1:i<x.length) (h2:i<y.length), -1000≤x[i] - y[i]∧x[i] - y[i]≤1000):∀(d e k:Nat),e+d=x.length→d<k→fC.l2 k t up (mixL x y e) (c:Int) y (e:Int)=fC.l1 (k - d - 1) t up (subL x y) ((c+1:Nat):Int) true:=by
 intro d
 induction d with
 |zero=>
  intro e k he hk
  obtain⟨k,rfl⟩:=sk k
  simp only[fC.l2]
  rw[ig om,show e=x.length by omega,mixL_end h,w_n (m:=c+1) om om]
  rfl
 |succ d ih=>
  intro e k he hk
  obtain⟨k,rfl⟩:=sk k
  have h1:e<x.length:=by omega
  have h2:e<y.length:=by omega
  have h3:e<(mixL x y e).length:=by rw[mixL_len h om];exact h1
  have hw:=hb e h1 h2
  simp only[fC.l2]
  rw[mixL_len h om,ip om,ip om,ip om,rd_nat _ e h3,rd_nat y e h2,mixL_at h h1 h3,w_id (a:=x[e] - y[e]) om om,Int.toNat_natCast,mixL_set h h1 h2,show wrap64 ((e:Int)+1)=((e+1:Nat):Int)from w_n om om,ih (e+1) k om om,show k+1 - (d+1) - 1=k - d - 1 by omega]
theorem cornerOf_cr (c:Nat) (hc:c≤1000):cornerOf (c:Int)=cr c:=by
 unfold cornerOf cr cor
 have e1:wrap64 (Int.tdiv (c:Int) 3)=((c / 3:Nat):Int):=w_n (by rw[Int.tdiv_eq_ediv_of_nonneg om];omega) om
 have e2:wrap64 (((c / 3:Nat):Int)*3)=((c / 3*3:Nat):Int):=w_n om om
 have e3:wrap64 ((c:Int)+1)=((c+1:Nat):Int):=w_n om om
 rw[e1,e2,e3,tmod3,tmod3]
 by_cases p:(((c % 3:Nat)):Int)=2
 ·rw[ip p]
  clear e1 e2 e3
  omega
 ·rw[ig p,w_n (m:=c / 3*3+(c+1) % 3) (by clear e1 e2 e3;omega) (by clear e1 e2 e3;omega)]
  clear e1 e2 e3
  omega
open Classical in
theorem mI {t:List (List Int)}{n:Nat} (ok:TriOk t (n:Int)) (ht:t.length≤1048576) (hr:∀r∈t,r.length≤1048576){up:List Int} (S:UF.Stands up (3*(t.length:Int)) (allG (vp t) t.length 0)){x:List Int} (h:Inv t n x):∀(d c k:Nat),c+d=3*t.length→3000400+d<k→
  fC.l1 k t up x (c:Int) false=match firstF t x d c with
   |none=>fC.l0 (k - d - 1) t up x false
   |some r=>fC.l2 (k - (r - c) - 1) t up x (r:Int) (aroundR t n (cr r)) 0:=by
 have hs:=ok.short
 have hL:wrap64 (3*(t.length:Int))=((3*t.length:Nat):Int):=w_n om om
 intro d
 induction d with
 |zero=>
  intro c k hc hk
  obtain⟨k,rfl⟩:=sk k
  have x1:¬((c:Int)<((3*t.length:Nat):Int)):=by clear hL;omega
  simp only[fC.l1,firstF]
  rw[hL,ig x1]
  rfl
 |succ d ih=>
  intro c k hc hk
  obtain⟨k,rfl⟩:=sk k
  have x1:(c:Int)<((3*t.length:Nat):Int):=by clear hL;omega
  have ha:c / 3<t.length:=by clear hL;omega
  have hcr:0≤cr c∧cr c<3*(t.length:Int):=cor_bd ha (c % 3+1)
  have iA:=isAr_f ok S h hcr k (by clear hL;omega)
  have aA:=mJ ok ht hr hcr k (by clear hL;omega)
  have cO:=cornerOf_cr c (by clear hL;omega)
  have ihh:=ih (c+1) k (by clear hL;omega) (by clear hL;omega)
  have hw:wrap64 ((c:Int)+1)=((c+1:Nat):Int):=w_n (by clear hL;omega) (by clear hL;omega)
  have y1:k+1 - (d+1) - 1=k - d - 1:=by clear hL hw;omega
  simp only[fC.l1]
  rw[hL,ip x1,ig (by decide),cO,iA,Option.bind_some,firstF]
  by_cases p:fineP t x (cr c)
  ·rw[ip (decide_eq_true p),aA,Option.bind_some,ip p]
   dsimp only
   rw[Nat.sub_self]
   rfl
  ·rw[ig (by rw[decide_eq_true_iff];exact p),ig p,hw,ihh]
   cases hF:firstF t x d (c+1) with
   |none=>
    dsimp only
    rw[y1]
   |some r=>
    have:=firstF_some d (c+1) r hF
    have y2:k - (r - (c+1)) - 1=k+1 - (r - c) - 1:=by clear hL hw;omega
    dsimp only
    rw[y2]
theorem plain_run {t:List (List Int)}{n:Nat} (ok:TriOk t (n:Int)) (ht:t.length≤1048576) (hr:∀r∈t,r.length≤1048576){up:List Int} (S:UF.Stands up (3*(t.length:Int)) (allG (vp t) t.length 0)):∀(s:Nat) (x:List Int),Inv t n x→sumP x≤s→∃r:List Int,Inv t n r∧(∀k,3001000+100*s<k→fI.l0 k t x=some (r,true))∧(∀k,3001000+100*s<k→fC.l0 k t up x true=some (r,true)):=by
 have hs:=ok.short
 have n9:=ok.n9
 intro s
 induction s with
 |zero=>
  intro x h h0
  cases hF:firstF t x (3*t.length) 0 with
  |some r=>
   obtain⟨f1,f2,f3⟩:=firstF_some _ _ _ hF
   have st:=h.step ok (k0:=r / 3) (i0:=r % 3) om om f3
   have:=sumP_nn _ (fun a ha=>(co_at st.1.cs ha).1)
   omega
  |none=>
   refine⟨x,h,fun k hk=>?_,fun k hk=>?_⟩
   ·obtain⟨k,rfl⟩:=sk k
    simp only[fI.l0]
    rw[loose_f ok h k om,Option.bind_some,hF]
    rfl
   ·obtain⟨k,rfl⟩:=sk k
    simp only[fC.l0]
    have e:=mI ok ht hr S h (3*t.length) 0 k om om
    rw[hF]at e
    have e':fC.l1 k t up x 0 false=fC.l0 (k - 3*t.length - 1) t up x false:=e
    rw[ip trivial,e']
    obtain⟨k2,hk2⟩:∃m,k - 3*t.length - 1=m+1:=⟨k - 3*t.length - 2,by omega⟩
    rw[hk2]
    simp only[fC.l0]
    rfl
 |succ s ih=>
  intro x h h0
  cases hF:firstF t x (3*t.length) 0 with
  |some r=>
   obtain⟨f1,f2,f3⟩:=firstF_some _ _ _ hF
   have hra:r / 3<t.length:=by omega
   have st:=h.step ok (k0:=r / 3) (i0:=r % 3) hra om f3
   have hl:x.length=(aroundR t n (cr r)).length:=by rw[aroundR_len];exact h.len
   have hxl:=h.len
   have hb:∀(i:Nat) (h1:i<x.length) (h2:i<(aroundR t n (cr r)).length), -1000≤x[i] - (aroundR t n (cr r))[i]∧x[i] - (aroundR t n (cr r))[i]≤1000:=by
    intro i h1 h2
    have a1:=co_at h.cs (List.getElem_mem h1)
    have a2:0≤(aroundR t n (cr r))[i]∧(aroundR t n (cr r))[i]≤2:=by
     have hm:=List.getElem_mem h2
     unfold aroundR at hm
     obtain⟨q,_,e⟩:=List.mem_map.1 hm
     have:=valE_bd t (cr r) ((q:Int)+1)
     unfold aroundR
     rw[←e]
     exact this
    omega
   obtain⟨rr,i1,i2,i3⟩:=ih _ st.1 om
   refine⟨rr,i1,fun k hk=>?_,fun k hk=>?_⟩
   ·obtain⟨k,rfl⟩:=sk k
    simp only[fI.l0]
    have sa:=mB ok (i:=r / 3) (j:=r % 3) hra om k om
    have e:=mN t x (aroundR t n (cr r)) hl om hb x.length 0 k om om
    have e':fI.l1 k t x (aroundR t n (cr r)) 0=fI.l0 (k - x.length - 1) t (subL x (aroundR t n (cr r))):=e
    have nn:¬((lres (some r)).1<0):=by
     show ¬(((r / 3:Nat):Int)<0)
     omega
    rw[loose_f ok h k om,Option.bind_some,hF,ig nn]
    show(gI.f k t ((r / 3:Nat):Int) ((r % 3:Nat):Int)).bind _=_
    rw[sa,Option.bind_some]
    exact e'.trans (i2 _ om)
   ·obtain⟨k,rfl⟩:=sk k
    simp only[fC.l0]
    have e:=mI ok ht hr S h (3*t.length) 0 k om om
    rw[hF]at e
    have e':fC.l1 k t up x 0 false=fC.l2 (k - (r - 0) - 1) t up x (r:Int) (aroundR t n (cr r)) 0:=e
    have g:=pQ t up x (aroundR t n (cr r)) r om hl om hb x.length 0 (k - (r - 0) - 1) om om
    have g':fC.l2 (k - (r - 0) - 1) t up x (r:Int) (aroundR t n (cr r)) 0=fC.l1 (k - (r - 0) - 1 - x.length - 1) t up (subL x (aroundR t n (cr r))) ((r+1:Nat):Int) true:=g
    rw[ip trivial,e',g']
    obtain⟨k2,hk2⟩:∃m,k - (r - 0) - 1 - x.length - 1=m+1:=⟨k - (r - 0) - 1 - x.length - 2,by omega⟩
    have fin:=i3 k2 om
    rw[hk2]
    simp only[fC.l1]
    by_cases z:((r+1:Nat):Int)<wrap64 (3*(t.length:Int))
    ·rw[ip z,ip trivial]
     exact fin
    ·rw[ig z]
     exact fin
  |none=>
   obtain⟨rr,i1,i2,i3⟩:∃r:List Int,Inv t n r∧(∀k,3001000+100*(s+1)<k→fI.l0 k t x=some (r,true))∧(∀k,3001000+100*(s+1)<k→fC.l0 k t up x true=some (r,true)):=by
    refine⟨x,h,fun k hk=>?_,fun k hk=>?_⟩
    ·obtain⟨k,rfl⟩:=sk k
     simp only[fI.l0]
     rw[loose_f ok h k om,Option.bind_some,hF]
     rfl
    ·obtain⟨k,rfl⟩:=sk k
     simp only[fC.l0]
     have e:=mI ok ht hr S h (3*t.length) 0 k om om
     rw[hF]at e
     have e':fC.l1 k t up x 0 false=fC.l0 (k - 3*t.length - 1) t up x false:=e
     rw[ip trivial,e']
     obtain⟨k2,hk2⟩:∃m,k - 3*t.length - 1=m+1:=⟨k - 3*t.length - 2,by omega⟩
     rw[hk2]
     simp only[fC.l0]
     rfl
   exact⟨rr,i1,i2,i3⟩
/-- Both answer, and alike. -/
theorem plain_f (t:List (List Int)) (ht:t.length≤1048576) (hr:∀r∈t,r.length≤1048576) (x:List Int) (hx:x.length≤1048576):∃r b,(∀k,8000000<k→fI.f k t x=some (r,b))∧(∀k,8000000<k→fC.f k t x=some (r,b))∧((b=true∧∃n:Nat,TriOk t (n:Int)∧Inv t n r∧isF t x=true)∨(b=false∧r=[]∧isF t x=false)):=by
 by_cases h:isF t x=true
 ·obtain⟨ok0,hxl,hc,hf⟩:=isF_ok ht h
  have n3:=ok0.n3
  obtain⟨n,hn⟩:∃n:Nat,edges t=(n:Int):=⟨(edges t).toNat,by omega⟩
  rw[hn]at ok0 hxl
  have n9:=ok0.n9
  have inv:Inv t n x:=⟨by omega,hc,fun i hi j hj=>(tw_even ok0 hc hi (hf _ (List.getElem_mem hi)) j hj).1⟩
  obtain⟨up,e1,S⟩:=vert_f ok0 ht hr 3000301 om
  obtain⟨r,i1,i2,i3⟩:=plain_run ok0 ht hr S 2000 x inv (by
   have:=sumP_le x (fun a ha=>(co_at hc ha).2)
   omega)
  refine⟨r,true,fun k hk=>?_,fun k hk=>?_, .inl ⟨rfl,n,ok0,i1,h⟩⟩
  ·unfold fI.f
   rw[jT t ht x k om,Option.bind_some,ip h,Option.bind_some,ip (by simp;omega),List.nil_append]
   exact i2 k om
  ·unfold fC.f
   obtain⟨up2,e2,S2⟩:=vert_f ok0 ht hr k om
   obtain⟨r2,_,j2,j3⟩:=plain_run ok0 ht hr S2 2000 x inv (by
    have:=sumP_le x (fun a ha=>(co_at hc ha).2)
    omega)
   have er:r=r2:=by
    have b:=j2 9000000 (by decide)
    rw[i2 9000000 (by decide)]at b
    injection b with b
    injection b
   subst er
   rw[jS t ht x k om,Option.bind_some,ip h,e2,Option.bind_some,copyOf_f x hx,Option.bind_some]
   exact j3 k om
 ·have h':isF t x=false:=by simpa using h
  refine⟨[],false,fun k hk=>?_,fun k hk=>?_, .inr ⟨rfl,rfl,h'⟩⟩
  ·unfold fI.f
   rw[jT t ht x k om,Option.bind_some,ig h]
  ·unfold fC.f
   rw[jS t ht x k om,Option.bind_some,ig h]
/-- The sums, element by element. -/
def addL:List Int→List Int→List Int
 |x :: xs,y :: ys=>(x+y) :: addL xs ys
 |_,_=>[]
theorem addL_len:∀(xs ys:List Int),(addL xs ys).length≤xs.length
 |[],_=>by simp[addL]
 |_ :: _,[]=>by simp[addL]
 |x :: xs,y :: ys=>by
  have:=addL_len xs ys
  rw[addL,List.length_cons,List.length_cons]
  omega
theorem pG (xs ys:List Int) (hx:xs.length≤1048576) (hl:ys.length=xs.length):∀(d k i:Nat) (o:List Int),i+d=xs.length→d<k→o.length=i→
  fG.l0 k xs ys o (i:Int)=some (if(xs.drop i).all co=true∧(ys.drop i).all co=true∧(addL (xs.drop i) (ys.drop i)).all co=true then(o ++ addL (xs.drop i) (ys.drop i),true) else([],false)):=by
 intro d
 induction d with
 |zero=>
  intro k i o hi hk ho
  obtain⟨k,rfl⟩:=sk k
  simp only[fG.l0]
  rw[ig om,List.drop_of_length_le om,List.drop_of_length_le om]
  simp[addL]
 |succ d ih=>
  intro k i o hi hk ho
  obtain⟨k,rfl⟩:=sk k
  have hlt:i<xs.length:=by omega
  have hlt2:i<ys.length:=by omega
  simp only[fG.l0]
  rw[ip om,ip om,l1In_eq,l1In_eq,Option.bind_some,Option.bind_some,rd_nat xs i hlt,rd_nat ys i hlt2,List.drop_eq_getElem_cons hlt,List.drop_eq_getElem_cons hlt2,addL,List.all_cons,List.all_cons,List.all_cons]
  by_cases h:0≤xs[i]∧xs[i]≤200
  ·have hc:co xs[i]=true:=decide_eq_true h
   rw[ip (decide_eq_true h),ip om,hc,Bool.true_and]
   by_cases h2:0≤ys[i]∧ys[i]≤200
   ·have hc2:co ys[i]=true:=decide_eq_true h2
    rw[ip (decide_eq_true h2),hc2,Bool.true_and,w_id (a:=xs[i]+ys[i]) om om]
    by_cases h3:xs[i]+ys[i]>200
    ·have hc3:co (xs[i]+ys[i])=false:=decide_eq_false om
     rw[ip h3,hc3,Bool.false_and,ig (fun h=>absurd h.2.2 (by decide))]
    ·have hc3:co (xs[i]+ys[i])=true:=decide_eq_true om
     rw[ig h3,ip om,hc3,Bool.true_and,w_id om om,show((i:Int)+1)=((i+1:Nat):Int) by omega,ih k (i+1) _ om om (by simp;omega),List.append_assoc]
     rfl
   ·have hc2:co ys[i]=false:=decide_eq_false h2
    rw[ig (by simpa using h2),hc2,Bool.false_and,ig (fun h=>absurd h.2.1 (by decide))]
  ·have hc:co xs[i]=false:=decide_eq_false h
   rw[ig (by simpa using h),hc,Bool.false_and,ig (fun h=>absurd h.1 (by decide))]
theorem pK (xs ys:List Int) (hx:xs.length≤1048576) (hl:ys.length=xs.length) (cx:xs.all co=true) (cy:ys.all co=true):∀(d k i:Nat) (o:List Int),i+d=xs.length→d+1048577<k→o.length=i→
  fJ.l0 k xs ys o (xs.length:Int) (i:Int)=some (if(o ++ addL (xs.drop i) (ys.drop i)).all co=true then(o ++ addL (xs.drop i) (ys.drop i),true) else([],false)):=by
 intro d
 induction d with
 |zero=>
  intro k i o hi hk ho
  obtain⟨k,rfl⟩:=sk k
  simp only[fJ.l0]
  rw[ig om,List.drop_of_length_le om,List.drop_of_length_le om,areCo o om k om,Option.bind_some]
  simp only[addL,List.append_nil]
  split <;> rfl
 |succ d ih=>
  intro k i o hi hk ho
  obtain⟨k,rfl⟩:=sk k
  have hlt:i<xs.length:=by omega
  have hlt2:i<ys.length:=by omega
  have b1:=all_co cx xs[i] (List.getElem_mem hlt)
  have b2:=all_co cy ys[i] (List.getElem_mem hlt2)
  simp only[fJ.l0]
  rw[ip om,ip om,ip om,ip om,ip om,rd_nat xs i hlt,rd_nat ys i hlt2,w_id (a:=xs[i]+ys[i]) om om,w_id om om,show((i:Int)+1)=((i+1:Nat):Int) by omega,ih k (i+1) _ om om (by simp;omega),List.append_assoc,List.drop_eq_getElem_cons hlt,List.drop_eq_getElem_cons hlt2,addL]
  rfl
def addR (xs ys:List Int):List Int × Bool:=if xs.length=ys.length∧xs.all co=true∧ys.all co=true∧(addL xs ys).all co=true then(addL xs ys,true) else([],false)
theorem addR_len (xs ys:List Int):(addR xs ys).1.length≤xs.length:=by
 unfold addR
 split
 ·exact addL_len _ _
 ·simp
theorem pD (xs ys:List Int) (hx:xs.length≤1048576) (k:Nat) (hk:1048576<k):fG.f k xs ys=some (addR xs ys):=by
 unfold fG.f addR
 by_cases h:xs.length=ys.length
 ·rw[ip om]
  have:=pG xs ys hx om xs.length k 0 [] om om (by simp)
  rw[List.drop_zero,List.drop_zero,List.nil_append]at this
  refine this.trans ?_
  congr 1
  simp only[h,true_and]
 ·rw[ig om,ig (fun h'=>h h'.1)]
theorem pB (xs ys:List Int) (hx:xs.length≤1048576) (k:Nat) (hk:2097160<k):fJ.f k xs ys=some (addR xs ys):=by
 obtain⟨k,rfl⟩:=sk k
 unfold fJ.f addR
 simp only[fJ.j0,if_true]
 by_cases h:xs.length=ys.length
 ·rw[ip (show(xs.length:Int)=ys.length by omega),areCo xs om _ om,areCo ys om _ om,Option.bind_some,Option.bind_some]
  by_cases h1:xs.all co=true
  ·rw[ip h1]
   by_cases h2:ys.all co=true
   ·rw[h2,ig (by decide)]
    have:=pK xs ys hx om h1 h2 xs.length k 0 [] om om (by simp)
    rw[List.drop_zero,List.drop_zero,List.nil_append]at this
    refine this.trans ?_
    simp only[h,h1,true_and]
   ·rw[ip (by simpa using h2),ig (fun h=>h2 h.2.2.1)]
  ·rw[ig h1,ig (fun h=>h1 h.2.1)]
 ·rw[ig (show ¬(xs.length:Int)=ys.length by omega),ig (fun h'=>h h'.1)]
end Go.Proofs.Ytflbpjijgnmklaa.L

namespace Go.Proofs.Ytflbpjijgnmklaa.L
open Go.RowKit Go.Proofs.Ytflbpjijgnmklaa.P Go.Proofs.Ytflbpjijgnmklaa.Help Go.Proofs.YtflbpjijgnmklaaW.PrintWords Go.Proofs.YtflbpjijgnmklaaW.PrintLast Go.Proofs.YtflbpjijgnmklaaW.PrintMore
set_option linter.unusedVariables false
set_option linter.unusedSimpArgs false

/-- The number of points on the edges ahead. -/
def offN:List Int→Nat→Nat
 |_,0=>0
 |[],_+1=>0
 |a :: r,i+1=>a.toNat+offN r i
end Go.Proofs.Ytflbpjijgnmklaa.L

-- The walks, cut and laid together by this session's tools (prune.py, sq2.py, min.py: shorter names, no needless spaces). Not trusted: Lean checks it.
import Derived.Test.YtemeiocmgbgikaaKWZip
import Derived.Test.YtemeiocmgbgikaaKPx37
namespace Go.Proofs.Ytemeiocmgbgikaa.P
open Go.RowKit Go.Proofs.YtemeiocmgbgikaaW.PrintWords Go.Proofs.YtemeiocmgbgikaaW.PrintLast Go.Proofs.YtemeiocmgbgikaaW.PrintMore
attribute [local go_sem] max2_int min2_int max_two min_two max_three min_three max_four min_four   -- for this text's walks alone
set_option linter.unusedVariables false
set_option linter.unusedSimpArgs false
set_option maxHeartbeats 8000000
set_option maxRecDepth 100000
open Option renaming bind_eq_some_iff → be
theorem z44_1 {p:Prop} (h:p:=by(with_reducible repeat(first|apply Kd.N_alloc|apply Kd.N_drewN|apply Kd.N_drew));exact HO_3.out):p:=h
theorem z44_0 {p:Prop} (h:p:=by(with_reducible repeat(first|apply Kd.N_alloc|apply Kd.N_drewN|apply Kd.N_drew));exact HO_22.out):p:=h
theorem bw_44 {n:Nat}{v v':World} (h:Below n v v':=by repeat(first|(with_reducible first|exact HB.out|apply bwA|apply pbN|apply bwD)|exact HB.out)):Below n v v':=h
attribute [local go_sem high] eqA45
theorem laws_FnFlips.p32 (A0:Option Addr) (c0:Nat) (l0:List Int) (r:Bool) (w:World) (Ak:List (List Int)) (Ai:List Int) (Bn:Int) (Bo:List (List Int)) (Bp:Bool) (Bq:List (List Int)) (Br:Bool) (Bs:List Int) (Bt:Bool) (Bu:List Int) (Bv:Bool) (Bw:List (List Int)) (Bx:Int) (By:List (List Int)) (Bz:Bool) (Ca:List (List Int)) (Cb:Bool) (Cc Cd Aj:List (List Int)) (Ah:List Int) (Bb:Bool) (Ce:List (List Int)) (Cf:List Int) (Cg:Bool) (Bc:Option Addr) (Bd:Nat) (Bf:Option Addr) (Bh:Nat) (Ch:Option Addr) (Ci:Nat) (Cj:Option Addr) (Ck:Nat) (Cl:Option Addr) (Cm:Nat) (Cn:Option Addr) (Co:Nat) (Cp:Option Addr) (Cq:Nat) (Cr:Option Addr) (Cs:Nat) (Ct:Option Addr) (Cu:Nat) (Cv:Option Addr) (Cw:Nat) (Cy:Option Addr) (Cz:Nat) (Bi:Option Addr) (Bj:Nat) (Da:Option Addr) (Db:Nat) (Bk:Option Addr) (Bl:Nat) (Dc:Option Addr) (Dd nd:Nat) (u28 u29 u30 u31 u32 u33 u34 u35 u36 u37:Value) (wc:World) (u2 u38 u39 u40 u41 u42 u43 u44 u45 u46 u47 u48 u49 u50 u51 u52 u53 u54 u55 u56 u57 u58 u59 u60 u61 u62 u63 u64 u65 u66 u67 u68 u69 u70 u71 u72 u73 u74 u75 u76 u77 u78 u79 u80 u81 u82 u83 u84 u85 u86 u87 u88 u89 u90 u91 u92 u93 u94 u95 u96 u97 u98 u99 u100 u101 u102 u103 u104 u105 u106 u107 u108 u109 u110 u111 u112 u113 u114 u115 u116 u117 u118 u119 u120 u121 u122 u123 u124 u125 u126 u127 u128 u129 u130 u131 u132 u133 u134 u135 u136 u137 u138 u139 u140 u141 u142 u143 u144 u145 u146 u147 u148 u149 u150 u151 u152 u153 u154 u155 u156 u157 u158 u159 u160 u161 u162 u163 u164 u165 u166 u167 u168 u169 u170 u171 u172 u173 u174 u175 u176 u177 u178 u179 u180 u181 u182 u183 u184 u185 u186 u187 u188 u189 u190 u191 u192 u193 u194 u195 u196 u197 u198 u199 u200 u201 u202 u203 u204 u205 u206 u207 u208 u209 u210 u211 u212 u213 u214 u215 u216 u217 u218 u219 u220 u221 u222 u223 u224 u225 u226 u227 u228 u229 u230 u231 u232 u233 u234 u235 u236 u237 u238 u239 u240 u241 u242 u243 u244 u245 u246 u247 u248 u249 u250 u251 u252 u253 u254 u255 u256 u257 u258 u259 u260 u261 u262 u263 u264 u265 u266 u267 u268 u269 u270 u271 u272 u273 u274 u275 u276 u277 u278 u279 u280 u281 u282 u283 u284 u285 u286 u287 u288 u289 u290 u291 u292 u293 u294 u295 u296 u297 u298 u299 u300 u301 u302 u303 u304 u305 u306 u307 u308 u309 u310 u311 u312 u313 u314 u315 u316 u317 u318 u319 u320 u321 u322 u323 u324 u325 u326 u327 u328 u329 u330 u331 u332 u333 u334 u335 u336 u337 u338 u339:Value) (HO_3:Az (Kd.N (Kd.slice 3 (Kd.int IntKind.i64)) 25 wc (w.heap.size) (fun (x:Nat)=>True) (Value.slice Bc (List.length Ak) Bd) Ak)) (Ae:Az (Kd.Q (Kd.int IntKind.i64) 3 wc (w.heap.size) (fun (x:Nat)=>True) (Value.slice Bf (List.length Ai) Bh) Ai)) (HO_22:Az (Kd.N (Kd.slice 3 (Kd.int IntKind.i64)) 25 wc (w.heap.size) (fun (x:Nat)=>True) (Value.slice Bi (List.length Aj) Bj) Aj)) (Aa:Az (Kd.R (Kd.int IntKind.i64) 3 wc (w.heap.size) (fun (x:Nat)=>True) (Value.slice Bk (List.length Ah) Bl) Ah)) (HB:Az (Below (w.heap.size) w wc)) (Ab:Nat) (H:(if Bb=true then Option.bind (fI.f Ab Aj Ah) fun (Bm:Bool)=>if Bm=true then Option.bind (gI.f Ab Aj Ah) fun (Am:Int)=>Option.bind (gI.f Ab Ak Ai) fun (Ap:Int)=>if Am=Ap then Option.bind (gC.f Ab Ah) fun (Aq:Int)=>Option.bind (gC.f Ab Ai) fun (As:Int)=>if Aq≤As then Option.bind (gE.f Ab Aj Ah) fun (Au:Int)=>some (Au== 0)else none else none else none else Option.bind (gE.f Ab Ak Ai) fun (Av:Int)=>some (Av== 0))=some r):
  Code.wp Try.prog (tailOf (Try.f3.body.getD .skip) 16) (bodyPost Try.prog Try.f3 (fun e w'=>e= .returned (.bool r)∧Below w.heap.size w w')) ⟨#[Value.slice A0 (List.length l0) c0,undef,u2,Value.slice Bc (List.length Ak) Bd,Value.slice Bf (List.length Ai) Bh,Value.int IntKind.i64 Bn,Value.slice Cj (List.length Bo) Ck,Value.bool Bp,Value.slice Cl (List.length Bq) Cm,Value.bool Br,Value.slice Cn (List.length Bs) Co,Value.bool Bt,Value.slice Cp (List.length Bu) Cq,Value.bool Bv,Value.slice Ch (List.length Bw) Ci,Value.int IntKind.i64 Bx,Value.slice Cr (List.length By) Cs,Value.bool Bz,Value.slice Ct (List.length Ca) Cu,Value.bool Cb,Value.slice Cv (List.length Cc) Cw,Value.slice Cy (List.length Cd) Cz,Value.slice Bi (List.length Aj) Bj,Value.slice Bk (List.length Ah) Bl,Value.bool Bb,Value.slice Da (List.length Ce) Db,Value.slice Dc (List.length Cf) Dd,Value.bool Cg,u28,u29,u30,u31,u32,u33,u34,u35,u36,u37,u38,u39,u40,u41,u42,u43,u44,u45,u46,u47,u48,u49,u50,u51,u52,u53,u54,u55,u56,u57,u58,u59,u60,u61,u62,u63,u64,u65,u66,u67,u68,u69,u70,u71,u72,u73,u74,u75,u76,u77,u78,u79,u80,u81,u82,u83,u84,u85,u86,u87,u88,u89,u90,u91,u92,u93,u94,u95,u96,u97,u98,u99,u100,u101,u102,u103,u104,u105,u106,u107,u108,u109,u110,u111,u112,u113,u114,u115,u116,u117,u118,u119,u120,u121,u122,u123,u124,u125,u126,u127,u128,u129,u130,u131,u132,u133,u134,u135,u136,u137,u138,u139,u140,u141,u142,u143,u144,u145,u146,u147,u148,u149,u150,u151,u152,u153,u154,u155,u156,u157,u158,u159,u160,u161,u162,u163,u164,u165,u166,u167,u168,u169,u170,u171,u172,u173,u174,u175,u176,u177,u178,u179,u180,u181,u182,u183,u184,u185,u186,u187,u188,u189,u190,u191,u192,u193,u194,u195,u196,u197,u198,u199,u200,u201,u202,u203,u204,u205,u206,u207,u208,u209,u210,u211,u212,u213,u214,u215,u216,u217,u218,u219,u220,u221,u222,u223,u224,u225,u226,u227,u228,u229,u230,u231,u232,u233,u234,u235,u236,u237,u238,u239,u240,u241,u242,u243,u244,u245,u246,u247,u248,u249,u250,u251,u252,u253,u254,u255,u256,u257,u258,u259,u260,u261,u262,u263,u264,u265,u266,u267,u268,u269,u270,u271,u272,u273,u274,u275,u276,u277,u278,u279,u280,u281,u282,u283,u284,u285,u286,u287,u288,u289,u290,u291,u292,u293,u294,u295,u296,u297,u298,u299,u300,u301,u302,u303,u304,u305,u306,u307,u308,u309,u310,u311,u312,u313,u314,u315,u316,u317,u318,u319,u320,u321,u322,u323,u324,u325,u326,u327,u328,u329,u330,u331,u332,u333,u334,u335,u336,u337,u338,u339],[]⟩ wc:=by
 (try dsimp only)
 conv=>arg 2;whnf
 by_cases Ax:Bb=true
 rotate_left
 ·replace Ax:=Bool.eq_false_iff.mpr Ax
  subst Ax
  rw[ig ff]at H
  replace H:=bez H
  obtain⟨Av,De,H⟩:=H
  replace H:(some (Av== 0))=some r:=H
  obtain rfl:=Option.some.inj H
  go_wp2_with (first|((with_reducible refine gtC (f:=25) rfl ?_);refine clz Try.func25 (some 313) #[.slice Bc Ak.length Bd, .slice Bf Ai.length Bh] ?_;(with_reducible refine(gE.calls Ab _ _ Ak _ _ Ai Av _ ?Ac ?Ad ?Af ?Ag De.out).mono ?_);(case Ac=>exact kC (Kd.N_reads' HO_3.out).2.2);(case Ad=>exact(Kd.N_reads' HO_3.out).2.1);(case Af=>exact kC (Kd.Q_reads' Ae.out).2.2);(case Ag=>exact(Kd.Q_reads' Ae.out).2.1);rintro e Do ⟨rfl,hb⟩;refine⟨_,rfl,?_⟩;replace HO_3:=Az.mk (Kd.N_below z44_1 hb);replace Ae:=Az.mk (Kd.Q_below (kQ Ae.out) hb);replace HO_22:=Az.mk (Kd.N_below z44_0 hb);replace Aa:=Az.mk (Kd.R_below (kR Aa.out) hb);replace HB:=Az.mk (bwT bw_44 hb);(try clear hb)))
  go_ret
  exact⟨rq1,bw_44⟩
 subst Ax
 rw[ip rfl]at H
 replace H:=bez H
 obtain⟨Bm,Df,H⟩:=H
 try dsimp only at H
 by_cases Ay:Bm=true
 rotate_left
 ·replace Ay:=Bool.eq_false_iff.mpr Ay
  subst Ay
  rw[ig ff]at H
  exact absurd H (by simp)
 subst Ay
 rw[ip rfl]at H
 replace H:=bez H
 obtain⟨Am,Dg,H⟩:=H
 try dsimp only at H
 replace H:=bez H
 obtain⟨Ap,Dh,H⟩:=H
 try dsimp only at H
 by_cases Al:Am=Ap
 rotate_left
 ·rw[ig Al]at H
  exact absurd H (by simp)
 rw[ip Al]at H
 have Di:=beq_iff_eq.mpr Al
 have Dj:=bne_eq_false_iff_eq.mpr Al
 clear Al
 replace H:=bez H
 obtain⟨Aq,Dk,H⟩:=H
 try dsimp only at H
 replace H:=bez H
 obtain⟨As,Dl,H⟩:=H
 try dsimp only at H
 by_cases Ba:Aq≤As
 rotate_left
 ·rw[ig Ba]at H
  exact absurd H (by simp)
 rw[ip Ba]at H
 have Dm:=ode Ba
 clear Ba
 replace H:=bez H
 obtain⟨Au,Dn,H⟩:=H
 replace H:(some (Au== 0))=some r:=H
 obtain rfl:=Option.some.inj H
 go_wp2_with (first|((with_reducible refine gtC (f:=29) rfl ?_);refine clz Try.func29 (some 317) #[.slice Bi Aj.length Bj, .slice Bk Ah.length Bl] ?_;(with_reducible refine(fI.calls Ab _ _ Aj _ _ Ah true _ ?Ac ?Ad ?Af ?Ag Df.out).mono ?_);(case Ac=>exact kC (Kd.N_reads' HO_22.out).2.2);(case Ad=>exact(Kd.N_reads' HO_22.out).2.1);(case Af=>exact kC (Kd.R_reads' Aa.out).2.2);(case Ag=>exact(Kd.R_reads' Aa.out).2.1);rintro e Dp ⟨rfl,hb⟩;refine⟨_,rfl,?_⟩;replace HO_3:=Az.mk (Kd.N_below z44_1 hb);replace Ae:=Az.mk (Kd.Q_below (kQ Ae.out) hb);replace HO_22:=Az.mk (Kd.N_below z44_0 hb);replace Aa:=Az.mk (Kd.R_below (kR Aa.out) hb);replace HB:=Az.mk (bwT bw_44 hb);(try clear hb))|(go_at_call 30;(with_reducible refine(gI.calls Ab _ _ Aj _ _ Ah Am _ ?Ac ?Ad ?Af ?Ag Dg.out).mono ?_);(case Ac=>exact kC (Kd.N_reads' HO_22.out).2.2);(case Ad=>exact(Kd.N_reads' HO_22.out).2.1);(case Af=>exact kC (Kd.R_reads' Aa.out).2.2);(case Ag=>exact(Kd.R_reads' Aa.out).2.1);rintro e Dq ⟨rfl,hb⟩;replace HO_3:=Az.mk (Kd.N_below z44_1 hb);replace Ae:=Az.mk (Kd.Q_below (kQ Ae.out) hb);replace HO_22:=Az.mk (Kd.N_below z44_0 hb);replace Aa:=Az.mk (Kd.R_below (kR Aa.out) hb);replace HB:=Az.mk (bwT bw_44 hb);(try clear hb))|(go_at_call 30;(with_reducible refine(gI.calls Ab _ _ Ak _ _ Ai Ap _ ?Ac ?Ad ?Af ?Ag Dh.out).mono ?_);(case Ac=>exact kC (Kd.N_reads' HO_3.out).2.2);(case Ad=>exact(Kd.N_reads' HO_3.out).2.1);(case Af=>exact kC (Kd.Q_reads' Ae.out).2.2);(case Ag=>exact(Kd.Q_reads' Ae.out).2.1);rintro e Dr ⟨rfl,hb⟩;replace HO_3:=Az.mk (Kd.N_below z44_1 hb);replace Ae:=Az.mk (Kd.Q_below (kQ Ae.out) hb);replace HO_22:=Az.mk (Kd.N_below z44_0 hb);replace Aa:=Az.mk (Kd.R_below (kR Aa.out) hb);replace HB:=Az.mk (bwT bw_44 hb);(try clear hb))|(go_at_call 23;(with_reducible refine(gC.calls Ab _ _ Ah Aq _ ?Ac ?Ad Dk.out).mono ?_);(case Ac=>exact kC (Kd.R_reads' Aa.out).2.2);(case Ad=>exact(Kd.R_reads' Aa.out).2.1);rintro e w' ⟨rfl,⟨nd,rfl⟩⟩)|(go_at_call 23;(with_reducible refine(gC.calls Ab _ _ Ai As _ ?Ac ?Ad Dl.out).mono ?_);(case Ac=>exact kC (Kd.Q_reads' Ae.out).2.2);(case Ad=>exact(Kd.Q_reads' Ae.out).2.1);rintro e w' ⟨rfl,⟨nd,rfl⟩⟩)|(go_at_call 25;(with_reducible refine(gE.calls Ab _ _ Aj _ _ Ah Au _ ?Ac ?Ad ?Af ?Ag Dn.out).mono ?_);(case Ac=>exact kC (Kd.N_reads' HO_22.out).2.2);(case Ad=>exact(Kd.N_reads' HO_22.out).2.1);(case Af=>exact kC (Kd.R_reads' Aa.out).2.2);(case Ag=>exact(Kd.R_reads' Aa.out).2.1);rintro e Ds ⟨rfl,hb⟩;replace HO_3:=Az.mk (Kd.N_below z44_1 hb);replace Ae:=Az.mk (Kd.Q_below (kQ Ae.out) hb);replace HO_22:=Az.mk (Kd.N_below z44_0 hb);replace Aa:=Az.mk (Kd.R_below (kR Aa.out) hb);replace HB:=Az.mk (bwT bw_44 hb);(try clear hb)))
 go_ret
 exact⟨rq1,bw_44⟩
theorem z45_2 {p:Prop} (h:p:=by(with_reducible repeat(first|apply Kd.N_alloc|apply Kd.N_drewN|apply Kd.N_drew));exact HO_6.out):p:=h
theorem z45_1 {p:Prop} (h:p:=by(with_reducible repeat(first|apply Kd.N_alloc|apply Kd.N_drewN|apply Kd.N_drew));exact HO_3.out):p:=h
theorem z45_0 {p:Prop} (h:p:=by(with_reducible repeat(first|apply Kd.N_alloc|apply Kd.N_drewN|apply Kd.N_drew));exact HO_22.out):p:=h
theorem bw_45 {n:Nat}{v v':World} (h:Below n v v':=by repeat(first|(with_reducible first|exact HB.out|apply bwA|apply pbN|apply bwD)|exact HB.out)):Below n v v':=h
theorem ln_45 {P:Prop} (h:P:=by(try simp only[List.map_toArray,List.map_cons,List.map_nil]);first|done|rfl|(simp only[List.length_drop,List.length_take];rfl)):P:=h
attribute [local go_sem high] eqA45
theorem laws_FnFlips.p23 (k:Nat) (A0:Option Addr) (c0:Nat) (l0:List Int) (r:Bool) (w:World) (Ak:List (List Int)) (Ap:List Int) (As:Int) (Al:List (List Int)) (Cm:Bool) (Cn:List (List Int)) (Co:Bool) (Am:List Int) (Bx:Bool) (Cp:List Int) (Cq:Bool) (Cr:List (List Int)) (Cs:Int) (Ct:List (List Int)) (Cu:Bool) (Cv:List (List Int)) (Cw:Bool) (Cy Cz Au:List (List Int)) (Av:List Int) (Bi:Bool) (Da:List (List Int)) (Db:List Int) (Dc:Bool) (Bd:Option Addr) (Bf:Nat) (Bj:Option Addr) (Bk:Nat) (Dd:Option Addr) (De:Nat) (Ay:Option Addr) (Ba:Nat) (Df:Option Addr) (Dg:Nat) (Bb:Option Addr) (Bc:Nat) (Dh:Option Addr) (Di:Nat) (Dj:Option Addr) (Dk:Nat) (Dl:Option Addr) (Dm:Nat) (Dn:Option Addr) (Do:Nat) (Dp:Option Addr) (Dq:Nat) (By:Option Addr) (Bz:Nat) (Dr:Option Addr) (Ds:Nat) (Ca:Option Addr) (Cb:Nat) (Dt:Option Addr) (Du nd:Nat) (wc:World) (u2 u28 u29 u30 u31 u32 u33 u34 u35 u36 u37 u46 u47 u48 u49 u50 u51 u52 u53 u54 u55 u56 u57 u58 u59 u60 u61 u62 u63 u64 u65 u66 u67 u68 u69 u70 u71 u72 u73 u74 u75 u76 u77 u78 u79 u80 u81 u82 u83 u84 u85 u86 u87 u88 u89 u90 u91 u92 u93 u94 u95 u96 u97 u98 u99 u100 u101 u102 u103 u104 u105 u106 u107 u108 u109 u110 u111 u112 u113 u114 u115 u116 u117 u118 u119 u120 u121 u122 u123 u124 u125 u126 u127 u128 u129 u130 u131 u132 u133 u134 u135 u136 u137 u138 u139 u140 u141 u142 u143 u144 u145 u146 u147 u148 u149 u150 u151 u152 u153 u154 u155 u156 u157 u158 u159 u160 u161 u162 u163 u164 u165 u166 u167 u168 u169 u170 u171 u172 u173 u174 u175 u176 u177 u178 u179 u180 u181 u182 u183 u184 u185 u186 u187 u188 u189 u190 u191 u192 u193 u194 u195 u196 u197 u198 u199 u200 u201 u202 u203 u204 u205 u206 u207 u208 u209 u210 u211 u212 u213 u214 u215 u216 u217 u218 u219 u220 u221 u222 u223 u224 u225 u226 u227 u228 u229 u230 u231 u232 u233 u234 u235 u236 u237 u238 u239 u240 u241 u242 u243 u244 u245 u246 u247 u248 u249 u250 u251 u252 u253 u254 u255 u256 u257 u258 u259 u260 u261 u262 u263 u264 u265 u266 u267 u268 u269 u270 u271 u272 u273 u274 u275 u276 u277 u278 u279 u280 u281 u282 u283 u284 u285 u286 u287 u288 u289 u290 u291 u292 u293 u294 u295 u296 u297 u298 u299 u300 u301 u302 u303 u304 u305 u306 u307 u308 u309 u310 u311 u312 u313 u314 u315 u316 u317 u318 u319 u320 u321 u322 u323 u324 u325 u326 u327 u328 u329 u330 u331 u332 u333 u334 u335 u336 u337 u338 u339:Value) (HO_3:Az (Kd.N (Kd.slice 3 (Kd.int IntKind.i64)) 25 wc (w.heap.size) (fun (x:Nat)=>True) (Value.slice Bd (List.length Ak) Bf) Ak)) (Ac:Az (Kd.Q (Kd.int IntKind.i64) 3 wc (w.heap.size) (fun (x:Nat)=>True) (Value.slice Bj (List.length Ap) Bk) Ap)) (HO_6:Az (Kd.N (Kd.slice 3 (Kd.int IntKind.i64)) 25 wc (w.heap.size) (fun (x:Nat)=>True) (Value.slice Ay (List.length Al) Ba) Al)) (Aa:Az (Kd.R (Kd.int IntKind.i64) 3 wc (w.heap.size) (fun (x:Nat)=>True) (Value.slice Bb (List.length Am) Bc) Am)) (HO_22:Az (Kd.N (Kd.slice 3 (Kd.int IntKind.i64)) 25 wc (w.heap.size) (fun (x:Nat)=>True) (Value.slice By (List.length Au) Bz) Au)) (Ab:Az (Kd.R (Kd.int IntKind.i64) 3 wc (w.heap.size) (fun (x:Nat)=>True) (Value.slice Ca (List.length Av) Cb) Av)) (HB:Az (Below (w.heap.size) w wc)) (Aj:Nat) (Cf:Az (Aj+1≤k)) (Bn:Az ((if Bx=true then Option.bind (fP.f Aj Al Am As) fun (Cd:List Int × Bool)=>Option.bind (fI.f Aj Al Am) fun (Cg:Bool)=>if Cg=true then Option.bind (gI.f Aj Al Am) fun (Bo:Int)=>Option.bind (gI.f Aj Ak Ap) fun (Bp:Int)=>if Bo=Bp then if Prod.snd Cd=true then Option.bind (gB.f Aj (Prod.fst Cd) Ap) fun (Ch:Bool)=>if Ch=true then Option.bind (fJ.f Aj Ak Ap) fun (Dv:List Int × Bool)=>Option.bind (fJ.f Aj Al Am) fun (Dw:List Int × Bool)=>Option.bind (fG.f Aj Ak (Prod.fst Dv) As) fun (Ce:List Int × Bool)=>if Prod.snd Ce=true then Option.bind (gB.f Aj (Prod.fst Ce) (Prod.fst Dw)) fun (Ci:Bool)=>if Ci=true then laws_FnFlips.j1 Aj Ak Ap Au Av Bi else none else laws_FnFlips.j1 Aj Ak Ap Au Av Bi else none else none else none else none else laws_FnFlips.j1 Aj Ak Ap Au Av Bi)=some r)):
  Code.wp Try.prog (tailOf (Try.f3.body.getD .skip) 15) (bodyPost Try.prog Try.f3 (fun e w'=>e= .returned (.bool r)∧Below w.heap.size w w')) ⟨#[Value.slice A0 (List.length l0) c0,undef,u2,Value.slice Bd (List.length Ak) Bf,Value.slice Bj (List.length Ap) Bk,Value.int IntKind.i64 As,Value.slice Ay (List.length Al) Ba,Value.bool Cm,Value.slice Df (List.length Cn) Dg,Value.bool Co,Value.slice Bb (List.length Am) Bc,Value.bool Bx,Value.slice Dh (List.length Cp) Di,Value.bool Cq,Value.slice Dd (List.length Cr) De,Value.int IntKind.i64 Cs,Value.slice Dj (List.length Ct) Dk,Value.bool Cu,Value.slice Dl (List.length Cv) Dm,Value.bool Cw,Value.slice Dn (List.length Cy) Do,Value.slice Dp (List.length Cz) Dq,Value.slice By (List.length Au) Bz,Value.slice Ca (List.length Av) Cb,Value.bool Bi,Value.slice Dr (List.length Da) Ds,Value.slice Dt (List.length Db) Du,Value.bool Dc,u28,u29,u30,u31,u32,u33,u34,u35,u36,u37,undef,undef,undef,undef,undef,undef,undef,undef,u46,u47,u48,u49,u50,u51,u52,u53,u54,u55,u56,u57,u58,u59,u60,u61,u62,u63,u64,u65,u66,u67,u68,u69,u70,u71,u72,u73,u74,u75,u76,u77,u78,u79,u80,u81,u82,u83,u84,u85,u86,u87,u88,u89,u90,u91,u92,u93,u94,u95,u96,u97,u98,u99,u100,u101,u102,u103,u104,u105,u106,u107,u108,u109,u110,u111,u112,u113,u114,u115,u116,u117,u118,u119,u120,u121,u122,u123,u124,u125,u126,u127,u128,u129,u130,u131,u132,u133,u134,u135,u136,u137,u138,u139,u140,u141,u142,u143,u144,u145,u146,u147,u148,u149,u150,u151,u152,u153,u154,u155,u156,u157,u158,u159,u160,u161,u162,u163,u164,u165,u166,u167,u168,u169,u170,u171,u172,u173,u174,u175,u176,u177,u178,u179,u180,u181,u182,u183,u184,u185,u186,u187,u188,u189,u190,u191,u192,u193,u194,u195,u196,u197,u198,u199,u200,u201,u202,u203,u204,u205,u206,u207,u208,u209,u210,u211,u212,u213,u214,u215,u216,u217,u218,u219,u220,u221,u222,u223,u224,u225,u226,u227,u228,u229,u230,u231,u232,u233,u234,u235,u236,u237,u238,u239,u240,u241,u242,u243,u244,u245,u246,u247,u248,u249,u250,u251,u252,u253,u254,u255,u256,u257,u258,u259,u260,u261,u262,u263,u264,u265,u266,u267,u268,u269,u270,u271,u272,u273,u274,u275,u276,u277,u278,u279,u280,u281,u282,u283,u284,u285,u286,u287,u288,u289,u290,u291,u292,u293,u294,u295,u296,u297,u298,u299,u300,u301,u302,u303,u304,u305,u306,u307,u308,u309,u310,u311,u312,u313,u314,u315,u316,u317,u318,u319,u320,u321,u322,u323,u324,u325,u326,u327,u328,u329,u330,u331,u332,u333,u334,u335,u336,u337,u338,u339],[]⟩ wc:=by
 (try dsimp only)
 conv=>arg 2;whnf
 go_upto_if 252 with (fail)
 go_cut [] (fun wc=>∃(kq:Nat),Az (laws_FnFlips.j1 kq Ak Ap Au Av Bi=some r)∧Az (kq≤Aj)∧Az (Kd.N (Kd.slice 3 (Kd.int .i64)) 25 wc w.heap.size (fun _=>True) (.slice Bd Ak.length Bf) Ak)∧Az (Kd.Q (Kd.int .i64) 3 wc w.heap.size (fun _=>True) (.slice Bj Ap.length Bk) Ap)∧Az (Kd.N (Kd.slice 3 (Kd.int .i64)) 25 wc w.heap.size (fun _=>True) (.slice By Au.length Bz) Au)∧Az (Kd.R (Kd.int .i64) 3 wc w.heap.size (fun _=>True) (.slice Ca Av.length Cb) Av)∧Az (Below w.heap.size w wc))
 case first=>
  have H:=Bn.out
  clear Bn
  by_cases Bq:Bx=true
  rotate_left
  ·replace Bq:=Bool.eq_false_iff.mpr Bq
   subst Bq
   rw[ig ff]at H
   have H':=Az.mk H
   clear H
   go_wp2
   go_meet
   case rel=>exact⟨_,H',⟨by have:=Cf.out;first|omega|exact Nat.le_refl _⟩,⟨by(with_reducible repeat(first|apply Kd.N_alloc|apply Kd.N_drewN|apply Kd.N_drew));exact Kd.N_mono HO_3.out (fun _ _=>trivial)⟩,⟨by(with_reducible repeat(first|apply Kd.Q_alloc|apply Kd.Q_drewN|apply Kd.Q_drew));exact Kd.Q_mono Ac.out (fun _ _=>trivial)⟩,⟨by(with_reducible repeat(first|apply Kd.N_alloc|apply Kd.N_drewN|apply Kd.N_drew));exact Kd.N_mono HO_22.out (fun _ _=>trivial)⟩,⟨by(with_reducible repeat(first|apply Kd.R_alloc|apply Kd.R_drewN|apply Kd.R_drew));exact Kd.R_mono Ab.out (fun _ _=>trivial)⟩,⟨bw_45⟩⟩
  subst Bq
  rw[ip rfl]at H
  replace H:=bez H
  obtain⟨⟨Cc,Eu⟩,Dx,H⟩:=H
  try dsimp only at H
  replace H:=bez H
  obtain⟨Cg,Dy,H⟩:=H
  try dsimp only at H
  by_cases Br:Cg=true
  rotate_left
  ·replace Br:=Bool.eq_false_iff.mpr Br
   subst Br
   rw[ig ff]at H
   exact absurd H (by simp)
  subst Br
  rw[ip rfl]at H
  replace H:=bez H
  obtain⟨Bo,Dz,H⟩:=H
  try dsimp only at H
  replace H:=bez H
  obtain⟨Bp,Ea,H⟩:=H
  try dsimp only at H
  by_cases Bl:Bo=Bp
  rotate_left
  ·rw[ig Bl]at H
   exact absurd H (by simp)
  rw[ip Bl]at H
  have Bh:=beq_iff_eq.mpr Bl
  have Cj:=bne_eq_false_iff_eq.mpr Bl
  clear Bl
  (first|rw[Bh]|(simp only[i64_w,i32_w];rw[Bh])|skip)
  by_cases Bs:Eu=true
  rotate_left
  ·replace Bs:=Bool.eq_false_iff.mpr Bs
   subst Bs
   rw[ig ff]at H
   exact absurd H (by simp)
  subst Bs
  rw[ip rfl]at H
  replace H:=bez H
  obtain⟨Ch,Eb,H⟩:=H
  try dsimp only at H
  by_cases Bt:Ch=true
  rotate_left
  ·replace Bt:=Bool.eq_false_iff.mpr Bt
   subst Bt
   rw[ig ff]at H
   exact absurd H (by simp)
  subst Bt
  rw[ip rfl]at H
  replace H:=bez H
  obtain⟨⟨Bm,Ec⟩,Ed,H⟩:=H
  try dsimp only at H
  replace H:=bez H
  obtain⟨⟨Ck,Ee⟩,Ef,H⟩:=H
  try dsimp only at H
  replace H:=bez H
  obtain⟨⟨Cl,Ev⟩,Eg,H⟩:=H
  try dsimp only at H
  by_cases Bu:Ev=true
  rotate_left
  ·replace Bu:=Bool.eq_false_iff.mpr Bu
   subst Bu
   rw[ig ff]at H
   have H':=Az.mk H
   clear H
   go_wp2_with (first|((with_reducible refine gtC (f:=8) rfl ?_);refine clz Try.func8 (some 257) #[.slice Ay Al.length Ba, .slice Bb Am.length Bc, .int .i64 As] ?_;(with_reducible refine(fP.calls Aj _ _ Al _ _ Am As Cc true _ ?Ad ?Ae ?Af ?Ag Dx.out).mono ?_);(case Ad=>exact kC (Kd.N_reads' HO_6.out).2.2);(case Ae=>exact(Kd.N_reads' HO_6.out).2.1);(case Af=>exact kC (Kd.R_reads' Aa.out).2.2);(case Ag=>exact(Kd.R_reads' Aa.out).2.1);rintro e Gk ⟨Ew,rfl,Ai,hb⟩;refine⟨_,rfl,?_⟩;replace HO_3:=Az.mk (Kd.N_elder' z45_1 (Kd.R_base Ai) hb);replace HO_6:=Az.mk (Kd.N_elder' z45_2 (Kd.R_base Ai) hb);replace HO_22:=Az.mk (Kd.N_elder' z45_0 (Kd.R_base Ai) hb);have Ah:=Az.mk (Kd.R_lower (Kd.R_new' (Kd.R_new' (Kd.R_new' Ai (Kd.Q_lt (kQ Ac.out))) (Kd.R_lt (kR Aa.out))) (Kd.R_lt (kR Ab.out))) (bwZ bw_45));replace Ac:=Az.mk (Kd.Q_elder' (kQ Ac.out) (Kd.R_base Ai) hb);replace Aa:=Az.mk (Kd.R_elder' (kR Aa.out) (Kd.R_base Ai) hb);replace Ab:=Az.mk (Kd.R_elder' (kR Ab.out) (Kd.R_base Ai) hb);replace HB:=Az.mk (bwT bw_45 hb);(try clear hb);(try clear Ai))|((with_reducible refine gtC (f:=29) rfl ?_);refine clz Try.func29 (some 262) #[.slice Ay Al.length Ba, .slice Bb Am.length Bc] ?_;(with_reducible refine(fI.calls Aj _ _ Al _ _ Am true _ ?Ad ?Ae ?Af ?Ag Dy.out).mono ?_);(case Ad=>exact kC (Kd.N_reads' HO_6.out).2.2);(case Ae=>exact(Kd.N_reads' HO_6.out).2.1);(case Af=>exact kC (Kd.R_reads' Aa.out).2.2);(case Ag=>exact(Kd.R_reads' Aa.out).2.1);rintro e Gl ⟨rfl,hb⟩;refine⟨_,rfl,?_⟩;replace HO_3:=Az.mk (Kd.N_below z45_1 hb);replace Ac:=Az.mk (Kd.Q_below (kQ Ac.out) hb);replace HO_6:=Az.mk (Kd.N_below z45_2 hb);replace Aa:=Az.mk (Kd.R_below (kR Aa.out) hb);replace HO_22:=Az.mk (Kd.N_below z45_0 hb);replace Ab:=Az.mk (Kd.R_below (kR Ab.out) hb);replace Ah:=Az.mk (Kd.R_below (kR Ah.out) hb);replace HB:=Az.mk (bwT bw_45 hb);(try clear hb))|(go_at_call 30;(with_reducible refine(gI.calls Aj _ _ Al _ _ Am Bo _ ?Ad ?Ae ?Af ?Ag Dz.out).mono ?_);(case Ad=>exact kC (Kd.N_reads' HO_6.out).2.2);(case Ae=>exact(Kd.N_reads' HO_6.out).2.1);(case Af=>exact kC (Kd.R_reads' Aa.out).2.2);(case Ag=>exact(Kd.R_reads' Aa.out).2.1);rintro e Gm ⟨rfl,hb⟩;replace HO_3:=Az.mk (Kd.N_below z45_1 hb);replace Ac:=Az.mk (Kd.Q_below (kQ Ac.out) hb);replace HO_6:=Az.mk (Kd.N_below z45_2 hb);replace Aa:=Az.mk (Kd.R_below (kR Aa.out) hb);replace HO_22:=Az.mk (Kd.N_below z45_0 hb);replace Ab:=Az.mk (Kd.R_below (kR Ab.out) hb);replace Ah:=Az.mk (Kd.R_below (kR Ah.out) hb);replace HB:=Az.mk (bwT bw_45 hb);(try clear hb))|(go_at_call 30;(with_reducible refine(gI.calls Aj _ _ Ak _ _ Ap Bp _ ?Ad ?Ae ?Af ?Ag Ea.out).mono ?_);(case Ad=>exact kC (Kd.N_reads' HO_3.out).2.2);(case Ae=>exact(Kd.N_reads' HO_3.out).2.1);(case Af=>exact kC (Kd.Q_reads' Ac.out).2.2);(case Ag=>exact(Kd.Q_reads' Ac.out).2.1);rintro e Gn ⟨rfl,hb⟩;replace HO_3:=Az.mk (Kd.N_below z45_1 hb);replace Ac:=Az.mk (Kd.Q_below (kQ Ac.out) hb);replace HO_6:=Az.mk (Kd.N_below z45_2 hb);replace Aa:=Az.mk (Kd.R_below (kR Aa.out) hb);replace HO_22:=Az.mk (Kd.N_below z45_0 hb);replace Ab:=Az.mk (Kd.R_below (kR Ab.out) hb);replace Ah:=Az.mk (Kd.R_below (kR Ah.out) hb);replace HB:=Az.mk (bwT bw_45 hb);(try clear hb);obtain⟨Gb,Gc,Eh⟩:=Kd.R_slice Ah.out;subst Eh)|(go_at_call 17;(with_reducible refine(gB.calls Aj _ _ Cc _ _ Ap true _ ?Ad ?Ae ?Af ?Ag Eb.out).mono ?_);(case Ad=>exact kC (Kd.R_reads' Ah.out).2.2);(case Ae=>exact(Kd.R_reads' Ah.out).2.1);(case Af=>exact kC (Kd.Q_reads' Ac.out).2.2);(case Ag=>exact(Kd.Q_reads' Ac.out).2.1);rintro e w' ⟨rfl,⟨nd,rfl⟩⟩)|((with_reducible refine gtC (f:=31) rfl ?_);refine clz Try.func31 (some 286) #[.slice Bd Ak.length Bf, .slice Bj Ap.length Bk] ?_;(with_reducible refine(fJ.calls Aj _ _ Ak _ _ Ap Bm Ec _ ?Ad ?Ae ?Af ?Ag Ed.out).mono ?_);(case Ad=>exact kC (Kd.N_reads' HO_3.out).2.2);(case Ae=>exact(Kd.N_reads' HO_3.out).2.1);(case Af=>exact kC (Kd.Q_reads' Ac.out).2.2);(case Ag=>exact(Kd.Q_reads' Ac.out).2.1);rintro e Gp ⟨Ex,rfl,Ai,hb⟩;refine⟨_,rfl,?_⟩;replace HO_3:=Az.mk (Kd.N_elder' z45_1 (Kd.R_base Ai) hb);replace HO_6:=Az.mk (Kd.N_elder' z45_2 (Kd.R_base Ai) hb);replace HO_22:=Az.mk (Kd.N_elder' z45_0 (Kd.R_base Ai) hb);have Aq:=Az.mk (Kd.R_lower (Kd.R_new' (Kd.R_new' (Kd.R_new' (Kd.R_new' Ai (Kd.Q_lt (kQ Ac.out))) (Kd.R_lt (kR Aa.out))) (Kd.R_lt (kR Ab.out))) (Kd.R_lt (kR Ah.out))) (bwZ bw_45));replace Ac:=Az.mk (Kd.Q_elder' (kQ Ac.out) (Kd.R_base Ai) hb);replace Aa:=Az.mk (Kd.R_elder' (kR Aa.out) (Kd.R_base Ai) hb);replace Ab:=Az.mk (Kd.R_elder' (kR Ab.out) (Kd.R_base Ai) hb);replace HB:=Az.mk (bwT bw_45 hb);(try clear hb);(try clear Ai))|((with_reducible refine gtC (f:=31) rfl ?_);refine clz Try.func31 (some 292) #[.slice Ay Al.length Ba, .slice Bb Am.length Bc] ?_;(with_reducible refine(fJ.calls Aj _ _ Al _ _ Am Ck Ee _ ?Ad ?Ae ?Af ?Ag Ef.out).mono ?_);(case Ad=>exact kC (Kd.N_reads' HO_6.out).2.2);(case Ae=>exact(Kd.N_reads' HO_6.out).2.1);(case Af=>exact kC (Kd.R_reads' Aa.out).2.2);(case Ag=>exact(Kd.R_reads' Aa.out).2.1);rintro e Gq ⟨Ey,rfl,Ai,hb⟩;refine⟨_,rfl,?_⟩;replace HO_3:=Az.mk (Kd.N_elder' z45_1 (Kd.R_base Ai) hb);replace Ac:=Az.mk (Kd.Q_elder' (kQ Ac.out) (Kd.R_base Ai) hb);replace HO_22:=Az.mk (Kd.N_elder' z45_0 (Kd.R_base Ai) hb);replace Ab:=Az.mk (Kd.R_elder' (kR Ab.out) (Kd.R_base Ai) hb);replace Aq:=Az.mk (Kd.R_elder' (kR Aq.out) (Kd.R_base Ai) hb);replace HB:=Az.mk (bwT bw_45 hb);(try clear hb);(try clear Ai);obtain⟨Ei,Ej,Ek⟩:=Kd.R_slice Aq.out;subst Ek)|((with_reducible refine gtC (f:=9) rfl ?_);refine clz Try.func9 (some 299) #[.slice Bd Ak.length Bf, .slice Ei Bm.length Ej, .int .i64 As] ?_;(with_reducible refine(fG.calls Aj _ _ Ak _ _ Bm As Cl false _ ?Ad ?Ae ?Af ?Ag Eg.out).mono ?_);(case Ad=>exact kC (Kd.N_reads' HO_3.out).2.2);(case Ae=>exact(Kd.N_reads' HO_3.out).2.1);(case Af=>exact kC (Kd.R_reads' Aq.out).2.2);(case Ag=>exact(Kd.R_reads' Aq.out).2.1);rintro e Gr ⟨Ez,rfl,Ai,hb⟩;refine⟨_,rfl,?_⟩;replace HO_3:=Az.mk (Kd.N_elder' z45_1 (Kd.R_base Ai) hb);replace Ac:=Az.mk (Kd.Q_elder' (kQ Ac.out) (Kd.R_base Ai) hb);replace HO_22:=Az.mk (Kd.N_elder' z45_0 (Kd.R_base Ai) hb);replace Ab:=Az.mk (Kd.R_elder' (kR Ab.out) (Kd.R_base Ai) hb);replace HB:=Az.mk (bwT bw_45 hb);(try clear hb);(try clear Ai)))
   go_meet
   case rel=>exact⟨_,H',⟨by have:=Cf.out;first|omega|exact Nat.le_refl _⟩,⟨by(with_reducible repeat(first|apply Kd.N_alloc|apply Kd.N_drewN|apply Kd.N_drew));exact Kd.N_mono HO_3.out (fun _ _=>trivial)⟩,⟨by(with_reducible repeat(first|apply Kd.Q_alloc|apply Kd.Q_drewN|apply Kd.Q_drew));exact Kd.Q_mono Ac.out (fun _ _=>trivial)⟩,⟨by(with_reducible repeat(first|apply Kd.N_alloc|apply Kd.N_drewN|apply Kd.N_drew));exact Kd.N_mono HO_22.out (fun _ _=>trivial)⟩,⟨by(with_reducible repeat(first|apply Kd.R_alloc|apply Kd.R_drewN|apply Kd.R_drew));exact Kd.R_mono Ab.out (fun _ _=>trivial)⟩,⟨bw_45⟩⟩
  subst Bu
  rw[ip rfl]at H
  replace H:=bez H
  obtain⟨Ci,Ga,H⟩:=H
  try dsimp only at H
  by_cases Bv:Ci=true
  rotate_left
  ·replace Bv:=Bool.eq_false_iff.mpr Bv
   subst Bv
   rw[ig ff]at H
   exact absurd H (by simp)
  subst Bv
  rw[ip rfl]at H
  have H':=Az.mk H
  clear H
  go_wp2_with (first|((with_reducible refine gtC (f:=8) rfl ?_);refine clz Try.func8 (some 257) #[.slice Ay Al.length Ba, .slice Bb Am.length Bc, .int .i64 As] ?_;(with_reducible refine(fP.calls Aj _ _ Al _ _ Am As Cc true _ ?Ad ?Ae ?Af ?Ag Dx.out).mono ?_);(case Ad=>exact kC (Kd.N_reads' HO_6.out).2.2);(case Ae=>exact(Kd.N_reads' HO_6.out).2.1);(case Af=>exact kC (Kd.R_reads' Aa.out).2.2);(case Ag=>exact(Kd.R_reads' Aa.out).2.1);rintro e Gs ⟨Ew,rfl,Ai,hb⟩;refine⟨_,rfl,?_⟩;replace HO_3:=Az.mk (Kd.N_elder' z45_1 (Kd.R_base Ai) hb);replace HO_6:=Az.mk (Kd.N_elder' z45_2 (Kd.R_base Ai) hb);replace HO_22:=Az.mk (Kd.N_elder' z45_0 (Kd.R_base Ai) hb);have Ah:=Az.mk (Kd.R_lower (Kd.R_new' (Kd.R_new' (Kd.R_new' Ai (Kd.Q_lt (kQ Ac.out))) (Kd.R_lt (kR Aa.out))) (Kd.R_lt (kR Ab.out))) (bwZ bw_45));replace Ac:=Az.mk (Kd.Q_elder' (kQ Ac.out) (Kd.R_base Ai) hb);replace Aa:=Az.mk (Kd.R_elder' (kR Aa.out) (Kd.R_base Ai) hb);replace Ab:=Az.mk (Kd.R_elder' (kR Ab.out) (Kd.R_base Ai) hb);replace HB:=Az.mk (bwT bw_45 hb);(try clear hb);(try clear Ai))|((with_reducible refine gtC (f:=29) rfl ?_);refine clz Try.func29 (some 262) #[.slice Ay Al.length Ba, .slice Bb Am.length Bc] ?_;(with_reducible refine(fI.calls Aj _ _ Al _ _ Am true _ ?Ad ?Ae ?Af ?Ag Dy.out).mono ?_);(case Ad=>exact kC (Kd.N_reads' HO_6.out).2.2);(case Ae=>exact(Kd.N_reads' HO_6.out).2.1);(case Af=>exact kC (Kd.R_reads' Aa.out).2.2);(case Ag=>exact(Kd.R_reads' Aa.out).2.1);rintro e Gt ⟨rfl,hb⟩;refine⟨_,rfl,?_⟩;replace HO_3:=Az.mk (Kd.N_below z45_1 hb);replace Ac:=Az.mk (Kd.Q_below (kQ Ac.out) hb);replace HO_6:=Az.mk (Kd.N_below z45_2 hb);replace Aa:=Az.mk (Kd.R_below (kR Aa.out) hb);replace HO_22:=Az.mk (Kd.N_below z45_0 hb);replace Ab:=Az.mk (Kd.R_below (kR Ab.out) hb);replace Ah:=Az.mk (Kd.R_below (kR Ah.out) hb);replace HB:=Az.mk (bwT bw_45 hb);(try clear hb))|(go_at_call 30;(with_reducible refine(gI.calls Aj _ _ Al _ _ Am Bo _ ?Ad ?Ae ?Af ?Ag Dz.out).mono ?_);(case Ad=>exact kC (Kd.N_reads' HO_6.out).2.2);(case Ae=>exact(Kd.N_reads' HO_6.out).2.1);(case Af=>exact kC (Kd.R_reads' Aa.out).2.2);(case Ag=>exact(Kd.R_reads' Aa.out).2.1);rintro e Gu ⟨rfl,hb⟩;replace HO_3:=Az.mk (Kd.N_below z45_1 hb);replace Ac:=Az.mk (Kd.Q_below (kQ Ac.out) hb);replace HO_6:=Az.mk (Kd.N_below z45_2 hb);replace Aa:=Az.mk (Kd.R_below (kR Aa.out) hb);replace HO_22:=Az.mk (Kd.N_below z45_0 hb);replace Ab:=Az.mk (Kd.R_below (kR Ab.out) hb);replace Ah:=Az.mk (Kd.R_below (kR Ah.out) hb);replace HB:=Az.mk (bwT bw_45 hb);(try clear hb))|(go_at_call 30;(with_reducible refine(gI.calls Aj _ _ Ak _ _ Ap Bp _ ?Ad ?Ae ?Af ?Ag Ea.out).mono ?_);(case Ad=>exact kC (Kd.N_reads' HO_3.out).2.2);(case Ae=>exact(Kd.N_reads' HO_3.out).2.1);(case Af=>exact kC (Kd.Q_reads' Ac.out).2.2);(case Ag=>exact(Kd.Q_reads' Ac.out).2.1);rintro e Gv ⟨rfl,hb⟩;replace HO_3:=Az.mk (Kd.N_below z45_1 hb);replace Ac:=Az.mk (Kd.Q_below (kQ Ac.out) hb);replace HO_6:=Az.mk (Kd.N_below z45_2 hb);replace Aa:=Az.mk (Kd.R_below (kR Aa.out) hb);replace HO_22:=Az.mk (Kd.N_below z45_0 hb);replace Ab:=Az.mk (Kd.R_below (kR Ab.out) hb);replace Ah:=Az.mk (Kd.R_below (kR Ah.out) hb);replace HB:=Az.mk (bwT bw_45 hb);(try clear hb);obtain⟨Gd,Ge,El⟩:=Kd.R_slice Ah.out;subst El)|(go_at_call 17;(with_reducible refine(gB.calls Aj _ _ Cc _ _ Ap true _ ?Ad ?Ae ?Af ?Ag Eb.out).mono ?_);(case Ad=>exact kC (Kd.R_reads' Ah.out).2.2);(case Ae=>exact(Kd.R_reads' Ah.out).2.1);(case Af=>exact kC (Kd.Q_reads' Ac.out).2.2);(case Ag=>exact(Kd.Q_reads' Ac.out).2.1);rintro e w' ⟨rfl,⟨nd,rfl⟩⟩)|((with_reducible refine gtC (f:=31) rfl ?_);refine clz Try.func31 (some 286) #[.slice Bd Ak.length Bf, .slice Bj Ap.length Bk] ?_;(with_reducible refine(fJ.calls Aj _ _ Ak _ _ Ap Bm Ec _ ?Ad ?Ae ?Af ?Ag Ed.out).mono ?_);(case Ad=>exact kC (Kd.N_reads' HO_3.out).2.2);(case Ae=>exact(Kd.N_reads' HO_3.out).2.1);(case Af=>exact kC (Kd.Q_reads' Ac.out).2.2);(case Ag=>exact(Kd.Q_reads' Ac.out).2.1);rintro e Gw ⟨Ex,rfl,Ai,hb⟩;refine⟨_,rfl,?_⟩;replace HO_3:=Az.mk (Kd.N_elder' z45_1 (Kd.R_base Ai) hb);replace HO_6:=Az.mk (Kd.N_elder' z45_2 (Kd.R_base Ai) hb);replace HO_22:=Az.mk (Kd.N_elder' z45_0 (Kd.R_base Ai) hb);have Aq:=Az.mk (Kd.R_lower (Kd.R_new' (Kd.R_new' (Kd.R_new' (Kd.R_new' Ai (Kd.Q_lt (kQ Ac.out))) (Kd.R_lt (kR Aa.out))) (Kd.R_lt (kR Ab.out))) (Kd.R_lt (kR Ah.out))) (bwZ bw_45));replace Ac:=Az.mk (Kd.Q_elder' (kQ Ac.out) (Kd.R_base Ai) hb);replace Aa:=Az.mk (Kd.R_elder' (kR Aa.out) (Kd.R_base Ai) hb);replace Ab:=Az.mk (Kd.R_elder' (kR Ab.out) (Kd.R_base Ai) hb);replace Ah:=Az.mk (Kd.R_elder' (kR Ah.out) (Kd.R_base Ai) hb);replace HB:=Az.mk (bwT bw_45 hb);(try clear hb);(try clear Ai))|((with_reducible refine gtC (f:=31) rfl ?_);refine clz Try.func31 (some 292) #[.slice Ay Al.length Ba, .slice Bb Am.length Bc] ?_;(with_reducible refine(fJ.calls Aj _ _ Al _ _ Am Ck Ee _ ?Ad ?Ae ?Af ?Ag Ef.out).mono ?_);(case Ad=>exact kC (Kd.N_reads' HO_6.out).2.2);(case Ae=>exact(Kd.N_reads' HO_6.out).2.1);(case Af=>exact kC (Kd.R_reads' Aa.out).2.2);(case Ag=>exact(Kd.R_reads' Aa.out).2.1);rintro e Gx ⟨Ey,rfl,Ai,hb⟩;refine⟨_,rfl,?_⟩;replace HO_3:=Az.mk (Kd.N_elder' z45_1 (Kd.R_base Ai) hb);replace HO_22:=Az.mk (Kd.N_elder' z45_0 (Kd.R_base Ai) hb);have Ax:=Az.mk (Kd.R_lower (Kd.R_new' (Kd.R_new' (Kd.R_new' (Kd.R_new' (Kd.R_new' Ai (Kd.Q_lt (kQ Ac.out))) (Kd.R_lt (kR Aa.out))) (Kd.R_lt (kR Ab.out))) (Kd.R_lt (kR Ah.out))) (Kd.R_lt (kR Aq.out))) (bwZ bw_45));replace Ac:=Az.mk (Kd.Q_elder' (kQ Ac.out) (Kd.R_base Ai) hb);replace Aa:=Az.mk (Kd.R_elder' (kR Aa.out) (Kd.R_base Ai) hb);replace Ab:=Az.mk (Kd.R_elder' (kR Ab.out) (Kd.R_base Ai) hb);replace Ah:=Az.mk (Kd.R_elder' (kR Ah.out) (Kd.R_base Ai) hb);replace Aq:=Az.mk (Kd.R_elder' (kR Aq.out) (Kd.R_base Ai) hb);replace HB:=Az.mk (bwT bw_45 hb);(try clear hb);(try clear Ai);obtain⟨Em,Eo,Ep⟩:=Kd.R_slice Aq.out;subst Ep)|((with_reducible refine gtC (f:=9) rfl ?_);refine clz Try.func9 (some 299) #[.slice Bd Ak.length Bf, .slice Em Bm.length Eo, .int .i64 As] ?_;(with_reducible refine(fG.calls Aj _ _ Ak _ _ Bm As Cl true _ ?Ad ?Ae ?Af ?Ag Eg.out).mono ?_);(case Ad=>exact kC (Kd.N_reads' HO_3.out).2.2);(case Ae=>exact(Kd.N_reads' HO_3.out).2.1);(case Af=>exact kC (Kd.R_reads' Aq.out).2.2);(case Ag=>exact(Kd.R_reads' Aq.out).2.1);rintro e Gy ⟨Ez,rfl,Ai,hb⟩;refine⟨_,rfl,?_⟩;replace HO_3:=Az.mk (Kd.N_elder' z45_1 (Kd.R_base Ai) hb);replace HO_22:=Az.mk (Kd.N_elder' z45_0 (Kd.R_base Ai) hb);have Bw:=Az.mk (Kd.R_lower (Kd.R_new' (Kd.R_new' (Kd.R_new' (Kd.R_new' (Kd.R_new' (Kd.R_new' Ai (Kd.Q_lt (kQ Ac.out))) (Kd.R_lt (kR Aa.out))) (Kd.R_lt (kR Ab.out))) (Kd.R_lt (kR Ah.out))) (Kd.R_lt (kR Aq.out))) (Kd.R_lt (kR Ax.out))) (bwZ bw_45));replace Ac:=Az.mk (Kd.Q_elder' (kQ Ac.out) (Kd.R_base Ai) hb);replace Ab:=Az.mk (Kd.R_elder' (kR Ab.out) (Kd.R_base Ai) hb);replace Ax:=Az.mk (Kd.R_elder' (kR Ax.out) (Kd.R_base Ai) hb);replace HB:=Az.mk (bwT bw_45 hb);(try clear hb);(try clear Ai);obtain⟨Gf,Gg,Er⟩:=Kd.R_slice Bw.out;subst Er;obtain⟨Gh,Gi,Es⟩:=Kd.R_slice Ax.out;subst Es)|(go_at_call 17;(with_reducible refine(gB.calls Aj _ _ Cl _ _ Ck true _ ?Ad ?Ae ?Af ?Ag Ga.out).mono ?_);(case Ad=>exact kC (Kd.R_reads' Bw.out).2.2);(case Ae=>exact(Kd.R_reads' Bw.out).2.1);(case Af=>exact kC (Kd.R_reads' Ax.out).2.2);(case Ag=>exact(Kd.R_reads' Ax.out).2.1);rintro e w' ⟨rfl,⟨nd,rfl⟩⟩))
  go_meet
  case rel=>exact⟨_,H',⟨by have:=Cf.out;first|omega|exact Nat.le_refl _⟩,⟨by(with_reducible repeat(first|apply Kd.N_alloc|apply Kd.N_drewN|apply Kd.N_drew));exact Kd.N_mono HO_3.out (fun _ _=>trivial)⟩,⟨by(with_reducible repeat(first|apply Kd.Q_alloc|apply Kd.Q_drewN|apply Kd.Q_drew));exact Kd.Q_mono Ac.out (fun _ _=>trivial)⟩,⟨by(with_reducible repeat(first|apply Kd.N_alloc|apply Kd.N_drewN|apply Kd.N_drew));exact Kd.N_mono HO_22.out (fun _ _=>trivial)⟩,⟨by(with_reducible repeat(first|apply Kd.R_alloc|apply Kd.R_drewN|apply Kd.R_drew));exact Kd.R_mono Ab.out (fun _ _=>trivial)⟩,⟨bw_45⟩⟩
 clear Bn
 try clear Bq
 try clear Br
 try clear Bl
 try clear Bh
 try clear Cj
 try clear Bs
 try clear Bt
 try clear Bu
 try clear Bv
 obtain⟨kq,HA,Gj,HO_3,Ac,HO_22,Ab,HB⟩:=hcut
 cases kq with
 |zero=>exact absurd HA.out (by simp[laws_FnFlips.j1])
 |succ Et=>
  have H:=HA.out
  clear HA
  simp only[laws_FnFlips.j1]at H
  rename_i Kt at_
  have AT:=Az.mk at_
  clear at_
  exact AT.out _ _ (laws_FnFlips.p32 A0 c0 l0 r w Ak Ap As Al Cm Cn Co Am Bx Cp Cq Cr Cs Ct Cu Cv Cw Cy Cz Au Av Bi Da Db Dc Bd Bf Bj Bk Dd De Ay Ba Df Dg Bb Bc Dh Di Dj Dk Dl Dm Dn Do Dp Dq By Bz Dr Ds Ca Cb Dt Du nd u28 u29 u30 u31 u32 u33 u34 u35 u36 u37 wc u2 u38 u39 u40 u41 u42 u43 u44 u45 u46 u47 u48 u49 u50 u51 u52 u53 u54 u55 u56 u57 u58 u59 u60 u61 u62 u63 u64 u65 u66 u67 u68 u69 u70 u71 u72 u73 u74 u75 u76 u77 u78 u79 u80 u81 u82 u83 u84 u85 u86 u87 u88 u89 u90 u91 u92 u93 u94 u95 u96 u97 u98 u99 u100 u101 u102 u103 u104 u105 u106 u107 u108 u109 u110 u111 u112 u113 u114 u115 u116 u117 u118 u119 u120 u121 u122 u123 u124 u125 u126 u127 u128 u129 u130 u131 u132 u133 u134 u135 u136 u137 u138 u139 u140 u141 u142 u143 u144 u145 u146 u147 u148 u149 u150 u151 u152 u153 u154 u155 u156 u157 u158 u159 u160 u161 u162 u163 u164 u165 u166 u167 u168 u169 u170 u171 u172 u173 u174 u175 u176 u177 u178 u179 u180 u181 u182 u183 u184 u185 u186 u187 u188 u189 u190 u191 u192 u193 u194 u195 u196 u197 u198 u199 u200 u201 u202 u203 u204 u205 u206 u207 u208 u209 u210 u211 u212 u213 u214 u215 u216 u217 u218 u219 u220 u221 u222 u223 u224 u225 u226 u227 u228 u229 u230 u231 u232 u233 u234 u235 u236 u237 u238 u239 u240 u241 u242 u243 u244 u245 u246 u247 u248 u249 u250 u251 u252 u253 u254 u255 u256 u257 u258 u259 u260 u261 u262 u263 u264 u265 u266 u267 u268 u269 u270 u271 u272 u273 u274 u275 u276 u277 u278 u279 u280 u281 u282 u283 u284 u285 u286 u287 u288 u289 u290 u291 u292 u293 u294 u295 u296 u297 u298 u299 u300 u301 u302 u303 u304 u305 u306 u307 u308 u309 u310 u311 u312 u313 u314 u315 u316 u317 u318 u319 u320 u321 u322 u323 u324 u325 u326 u327 u328 u329 u330 u331 u332 u333 u334 u335 u336 u337 u338 u339 HO_3 Ac HO_22 Ab HB Et H)
theorem z46_4 {p:Prop} (h:p:=by(with_reducible repeat(first|apply Kd.N_alloc|apply Kd.N_drewN|apply Kd.N_drew));exact(Kd.N_mono (Kd.N_far (p:=⟨gb910,2,none⟩) (Kd.N_far (p:=⟨gb910,1,none⟩) (Kd.N_far (p:=⟨gb910,0,none⟩) (Kd.N_mono HO834.out (fun k_ hk=>(⟨hk,hk.2⟩:_∧k_≠gb910))) (fun _ hk=>hk.2) (.int .i64 t905)) (fun _ hk=>hk.2) (.int .i64 t906)) (fun _ hk=>hk.2) (.int .i64 t907)) (fun _ h_=>h_.1))):p:=h
theorem z46_3 {p:Prop} (h:p:=by(with_reducible repeat(first|apply Kd.N_alloc|apply Kd.N_drewN|apply Kd.N_drew));exact(Kd.N_mono (Kd.N_far (p:=⟨gb904,2,none⟩) (Kd.N_far (p:=⟨gb904,1,none⟩) (Kd.N_far (p:=⟨gb904,0,none⟩) (Kd.N_mono HO834.out (fun k_ hk=>(⟨hk,hk.2⟩:_∧k_≠gb904))) (fun _ hk=>hk.2) (.int .i64 t899)) (fun _ hk=>hk.2) (.int .i64 t900)) (fun _ hk=>hk.2) (.int .i64 t901)) (fun _ h_=>h_.1))):p:=h
theorem z46_2 {p:Prop} (h:p:=by(with_reducible repeat(first|apply Kd.N_alloc|apply Kd.N_drewN|apply Kd.N_drew));exact HO868.out):p:=h
theorem z46_1 {p:Prop} (h:p:=by(with_reducible repeat(first|apply Kd.N_alloc|apply Kd.N_drewN|apply Kd.N_drew));exact HO834.out):p:=h
theorem z46_0 {p:Prop} (h:p:=by(with_reducible repeat(first|apply Kd.N_alloc|apply Kd.N_drewN|apply Kd.N_drew));exact HO829.out):p:=h
theorem bw_46 {n:Nat}{v v':World} (h:Below n v v':=by repeat(first|(with_reducible first|exact HB.out|apply bwA|apply pbN|apply bwD|refine bwS ?_ GE904.out|refine bwS ?_ GE910.out)|exact HB.out)):Below n v v':=h
theorem ln_46 {P:Prop} (h:P:=by(try simp only[List.map_toArray,List.map_cons,List.map_nil]);first|done|rfl|(simp only[List.length_drop,List.length_take];rfl)):P:=h
attribute [local go_sem high] eqA45
theorem laws_FnFlips.p16 (k:Nat) (A0:Option Addr) (c0:Nat) (l0:List Int) (r:Bool) (w:World) (Aa:List (List Int)) (Ag:List Int) (Aj:Int) (Af:List (List Int)) (Bb:Bool) (Ca:List (List Int)) (Cb:Bool) (As:List Int) (Bc:Bool) (Cc:List Int) (Cd:Bool) (Bn:List (List Int)) (Bo:Int) (Ce:List (List Int)) (Cf:Bool) (Cg:List (List Int)) (Ch:Bool) (Bp Bq Au:List (List Int)) (Av:List Int) (Bd:Bool) (Ci:List (List Int)) (Cj:List Int) (Ck Ez Ga Gb:Bool) (Gc Gd:List (List Int)) (Ge Gf Gg Gh:Int) (Eb:Az ((if Bb=true then Option.bind (gA.f k Aa) fun (Bx:Int × Int × Int × Int × Bool)=>Option.bind (gA.f k Af) fun (By:Int × Int × Int × Int × Bool)=>Option.bind (fU.f k Af Aj) fun (Dz:List (List Int) × Bool)=>Option.bind (fW.f k Aa Aj) fun (Ef:List (List Int) × Bool)=>Option.bind (fB.f k Af) fun (Ec:Bool)=>if Ec=true then if(!Prod.fst Bx== Prod.fst By||(!Prod.fst (Prod.snd Bx)== Prod.fst (Prod.snd By)|| !Prod.fst (Prod.snd (Prod.snd Bx))== Prod.fst (Prod.snd (Prod.snd By))))=true then none else if(Prod.snd (Prod.snd (Prod.snd (Prod.snd Bx))) != Prod.snd (Prod.snd (Prod.snd (Prod.snd By))))=true then none else if Prod.snd Dz=true then Option.bind (gZ.f k (Prod.fst Dz) (Prod.fst Ef)) fun (Ed:Bool)=>if Ed=true then laws_FnFlips.j0 k Aa Ag Aj Af As Bc Au Av Bd else none else none else none else laws_FnFlips.j0 k Aa Ag Aj Af As Bc Au Av Bd)=some r)) (Ah:Option Addr) (Ai:Nat) (Ap:Option Addr) (Aq:Nat) (Br:Option Addr) (Bs:Nat) (Ay:Option Addr) (Ax:Nat) (Cl:Option Addr) (Cm:Nat) (Bf:Option Addr) (Bh:Nat) (Cn:Option Addr) (Co:Nat) (Cp:Option Addr) (Cq:Nat) (Cr:Option Addr) (Cs:Nat) (Bt:Option Addr) (Bu:Nat) (Bv:Option Addr) (Bw:Nat) (Bi:Option Addr) (Bj:Nat) (Ct:Option Addr) (Cu:Nat) (Bk:Option Addr) (Bl:Nat) (Cv:Option Addr) (Cw:Nat) (Gi:Option Addr) (Gj:Nat) (Gk:Option Addr) (Gl nd:Nat) (Ea:World) (HB:Az (Below (w.heap.size) w Ea)) (HO829:Az (Kd.N (Kd.slice 3 (Kd.int IntKind.i64)) 25 Ea (w.heap.size) (fun (x:Nat)=>True) (Value.slice Ah (List.length Aa) Ai) Aa)) (Ab:Az (Kd.Q (Kd.int IntKind.i64) 3 Ea (w.heap.size) (fun (x:Nat)=>True) (Value.slice Ap (List.length Ag) Aq) Ag)) (HO834:Az (Kd.N (Kd.slice 3 (Kd.int IntKind.i64)) 25 Ea (w.heap.size) (fun (x:Nat)=>True) (Value.slice Ay (List.length Af) Ax) Af)) (Ac:Az (Kd.R (Kd.int IntKind.i64) 3 Ea (w.heap.size) (fun (x:Nat)=>True) (Value.slice Bf (List.length As) Bh) As)) (HO868:Az (Kd.N (Kd.slice 3 (Kd.int IntKind.i64)) 25 Ea (w.heap.size) (fun (x:Nat)=>True) (Value.slice Bi (List.length Au) Bj) Au)) (Ad:Az (Kd.R (Kd.int IntKind.i64) 3 Ea (w.heap.size) (fun (x:Nat)=>True) (Value.slice Bk (List.length Av) Bl) Av)):
  Code.wp Try.prog (tailOf (Try.f3.body.getD .skip) 14) (bodyPost Try.prog Try.f3 (fun e w'=>e= .returned (.bool r)∧Below w.heap.size w w')) ⟨#[Value.slice A0 (List.length l0) c0,undef,Value.bool false,Value.slice Ah (List.length Aa) Ai,Value.slice Ap (List.length Ag) Aq,Value.int IntKind.i64 Aj,Value.slice Ay (List.length Af) Ax,Value.bool Bb,Value.slice Cl (List.length Ca) Cm,Value.bool Cb,Value.slice Bf (List.length As) Bh,Value.bool Bc,Value.slice Cn (List.length Cc) Co,Value.bool Cd,Value.slice Br (List.length Bn) Bs,Value.int IntKind.i64 Bo,Value.slice Cp (List.length Ce) Cq,Value.bool Cf,Value.slice Cr (List.length Cg) Cs,Value.bool Ch,Value.slice Bt (List.length Bp) Bu,Value.slice Bv (List.length Bq) Bw,Value.slice Bi (List.length Au) Bj,Value.slice Bk (List.length Av) Bl,Value.bool Bd,Value.slice Ct (List.length Ci) Cu,Value.slice Cv (List.length Cj) Cw,Value.bool Ck,undef,undef,undef,undef,undef,undef,undef,undef,undef,undef,undef,undef,undef,undef,undef,undef,undef,undef,Value.slice A0 (List.length l0) c0,Value.bool false,Value.tuple #[Value.slice Ah (List.length Aa) Ai,Value.slice Ap (List.length Ag) Aq,Value.int IntKind.i64 Aj],Value.slice A0 (List.length l0) c0,Value.tuple #[Value.slice Ah (List.length Aa) Ai,Value.slice Ap (List.length Ag) Aq,Value.int IntKind.i64 Aj],Value.slice Ah (List.length Aa) Ai,Value.slice Ap (List.length Ag) Aq,Value.int IntKind.i64 Aj,Value.tuple #[Value.slice Ay (List.length Af) Ax,Value.bool Bb],Value.slice Ah (List.length Aa) Ai,Value.int IntKind.i64 Aj,Value.tuple #[Value.slice Ay (List.length Af) Ax,Value.bool Bb],Value.slice Ay (List.length Af) Ax,Value.bool Bb,Value.tuple #[Value.slice Cl (List.length Ca) Cm,Value.bool Cb],Value.slice Ah (List.length Aa) Ai,Value.int IntKind.i64 Aj,Value.tuple #[Value.slice Cl (List.length Ca) Cm,Value.bool Cb],Value.slice Cl (List.length Ca) Cm,Value.bool Cb,Value.tuple #[Value.slice Bf (List.length As) Bh,Value.bool Bc],Value.slice Ah (List.length Aa) Ai,Value.slice Ap (List.length Ag) Aq,Value.int IntKind.i64 Aj,Value.tuple #[Value.slice Bf (List.length As) Bh,Value.bool Bc],Value.slice Bf (List.length As) Bh,Value.bool Bc,Value.tuple #[Value.slice Cn (List.length Cc) Co,Value.bool Cd],Value.slice Ah (List.length Aa) Ai,Value.slice Ap (List.length Ag) Aq,Value.int IntKind.i64 Aj,Value.tuple #[Value.slice Cn (List.length Cc) Co,Value.bool Cd],Value.slice Cn (List.length Cc) Co,Value.bool Cd,Value.tuple #[Value.slice Br (List.length Bn) Bs,Value.int IntKind.i64 Bo],Value.slice A0 (List.length l0) c0,Value.tuple #[Value.slice Br (List.length Bn) Bs,Value.int IntKind.i64 Bo],Value.slice Br (List.length Bn) Bs,Value.int IntKind.i64 Bo,Value.tuple #[Value.slice Cp (List.length Ce) Cq,Value.bool Cf],Value.slice Br (List.length Bn) Bs,Value.int IntKind.i64 Bo,Value.tuple #[Value.slice Cp (List.length Ce) Cq,Value.bool Cf],Value.slice Cp (List.length Ce) Cq,Value.bool Cf,Value.tuple #[Value.slice Cr (List.length Cg) Cs,Value.bool Ch],Value.slice Br (List.length Bn) Bs,Value.int IntKind.i64 Bo,Value.tuple #[Value.slice Cr (List.length Cg) Cs,Value.bool Ch],Value.slice Cr (List.length Cg) Cs,Value.bool Ch,Value.tuple #[Value.slice Bt (List.length Bp) Bu,Value.slice Bv (List.length Bq) Bw],Value.slice A0 (List.length l0) c0,Value.tuple #[Value.slice Bt (List.length Bp) Bu,Value.slice Bv (List.length Bq) Bw],Value.slice Bt (List.length Bp) Bu,Value.slice Bv (List.length Bq) Bw,Value.tuple #[Value.slice Bi (List.length Au) Bj,Value.slice Bk (List.length Av) Bl,Value.bool Bd],Value.slice Ah (List.length Aa) Ai,Value.slice Ap (List.length Ag) Aq,Value.tuple #[Value.slice Bi (List.length Au) Bj,Value.slice Bk (List.length Av) Bl,Value.bool Bd],Value.slice Bi (List.length Au) Bj,Value.slice Bk (List.length Av) Bl,Value.bool Bd,Value.tuple #[Value.slice Ct (List.length Ci) Cu,Value.slice Cv (List.length Cj) Cw,Value.bool Ck],Value.slice Ah (List.length Aa) Ai,Value.slice Ap (List.length Ag) Aq,Value.tuple #[Value.slice Ct (List.length Ci) Cu,Value.slice Cv (List.length Cj) Cw,Value.bool Ck],Value.slice Ct (List.length Ci) Cu,Value.slice Cv (List.length Cj) Cw,Value.bool Ck,Value.bool Bb,Value.bool Cb,Value.bool false,Value.bool false,Value.slice Ay (List.length Af) Ax,Value.slice Cl (List.length Ca) Cm,Value.bool true,Value.bool false,Value.bool false,Value.bool false,Value.bool Bc,Value.bool Cd,Value.bool false,Value.bool false,Value.bool false,Value.slice Bf (List.length As) Bh,Value.slice Cn (List.length Cc) Co,Value.bool true,Value.bool false,Value.bool false,Value.bool false,Value.bool Cf,Value.bool Ch,Value.bool false,Value.bool false,Value.bool false,Value.slice Cp (List.length Ce) Cq,Value.slice Cr (List.length Cg) Cs,Value.bool true,Value.bool false,Value.bool false,Value.bool false,Value.slice Bt (List.length Bp) Bu,Value.slice Bv (List.length Bq) Bw,Value.bool Ez,Value.slice Bt (List.length Bp) Bu,Value.slice Bv (List.length Bq) Bw,Value.bool Ga,Value.bool false,Value.bool false,Value.bool false,Value.bool Bd,Value.bool Ck,Value.bool false,Value.bool false,Value.bool false,Value.slice Bi (List.length Au) Bj,Value.slice Ct (List.length Ci) Cu,Value.bool true,Value.bool false,Value.bool false,Value.bool false,Value.slice Bk (List.length Av) Bl,Value.slice Cv (List.length Cj) Cw,Value.bool true,Value.bool false,Value.bool false,Value.bool false,Value.slice Ah (List.length Aa) Ai,Value.int IntKind.i64 Aj,Value.bool Gb,Value.bool Bb,Value.bool false,Value.bool false,Value.bool false,Value.slice Ah (List.length Aa) Ai,Value.slice Gi (List.length Gc) Gj,Value.slice Ah (List.length Aa) Ai,Value.slice Gk (List.length Gd) Gl,Value.bool true,Value.bool false,Value.bool false,Value.bool false,Value.slice Ap (List.length Ag) Aq,Value.int IntKind.i64 Ge,Value.slice Ap (List.length Ag) Aq,Value.int IntKind.i64 Gf,Value.bool false,Value.bool false,Value.bool false,Value.slice Ah (List.length Aa) Ai,Value.slice Ap (List.length Ag) Aq,Value.int IntKind.i64 Gg,Value.slice Ah (List.length Aa) Ai,Value.slice Ap (List.length Ag) Aq,Value.int IntKind.i64 Gh,Value.bool false,Value.bool false,undef,undef,undef,undef,undef,undef,undef,undef,undef,undef,undef,undef,undef,undef,undef,undef,undef,undef,undef,undef,undef,undef,undef,undef,undef,undef,undef,undef,undef,undef,undef,undef,undef,undef,undef,undef,undef,undef,undef,undef,undef,undef,undef,undef,undef,undef,undef,undef,undef,undef,undef,undef,undef,undef,undef,undef,undef,undef,undef,undef,undef,undef,undef,undef,undef,undef,undef,undef,undef,undef,undef,undef,undef,undef,undef,undef,undef,undef,undef,undef,undef,undef,undef,undef,undef,undef,undef,undef,undef,undef,undef,undef,undef,undef,undef,undef,undef,undef,undef,undef,undef,undef,undef,undef,undef,undef,undef,undef,undef,undef,undef,undef,undef,undef,undef,undef,undef,undef,undef,undef,undef,undef,undef,undef,undef,undef,undef,undef,undef,undef,undef,undef,undef,undef,undef,undef],[]⟩ Ea:=by
 (try dsimp only)
 conv=>arg 2;whnf
 go_upto_if 204 with (fail)
 (try simp only[Act.put,List.setIfInBounds_toArray,List.set_cons_zero,List.set_cons_succ])
 go_cut [] (fun wc=>∃(kq:Nat),Az (laws_FnFlips.j0 kq Aa Ag Aj Af As Bc Au Av Bd=some r)∧Az (kq≤k)∧Az (Kd.N (Kd.slice 3 (Kd.int .i64)) 25 wc w.heap.size (fun _=>True) (.slice Ah Aa.length Ai) Aa)∧Az (Kd.Q (Kd.int .i64) 3 wc w.heap.size (fun _=>True) (.slice Ap Ag.length Aq) Ag)∧Az (Kd.N (Kd.slice 3 (Kd.int .i64)) 25 wc w.heap.size (fun _=>True) (.slice Ay Af.length Ax) Af)∧Az (Kd.R (Kd.int .i64) 3 wc w.heap.size (fun _=>True) (.slice Bf As.length Bh) As)∧Az (Kd.N (Kd.slice 3 (Kd.int .i64)) 25 wc w.heap.size (fun _=>True) (.slice Bi Au.length Bj) Au)∧Az (Kd.R (Kd.int .i64) 3 wc w.heap.size (fun _=>True) (.slice Bk Av.length Bl) Av)∧Az (Below w.heap.size w wc))
 case first=>
  have H:=Eb.out
  clear Eb
  by_cases Eg:Bb=true
  rotate_left
  ·replace Eg:=Bool.eq_false_iff.mpr Eg
   subst Eg
   rw[ig ff]at H
   have H':=Az.mk H
   clear H
   go_wp2
   go_meet
   case rel=>exact⟨_,H',⟨by first|omega|exact Nat.le_refl _⟩,⟨by(with_reducible repeat(first|apply Kd.N_alloc|apply Kd.N_drewN|apply Kd.N_drew));exact Kd.N_mono HO829.out (fun _ _=>trivial)⟩,⟨by(with_reducible repeat(first|apply Kd.Q_alloc|apply Kd.Q_drewN|apply Kd.Q_drew));exact Kd.Q_mono Ab.out (fun _ _=>trivial)⟩,⟨by(with_reducible repeat(first|apply Kd.N_alloc|apply Kd.N_drewN|apply Kd.N_drew));exact Kd.N_mono HO834.out (fun _ _=>trivial)⟩,⟨by(with_reducible repeat(first|apply Kd.R_alloc|apply Kd.R_drewN|apply Kd.R_drew));exact Kd.R_mono Ac.out (fun _ _=>trivial)⟩,⟨by(with_reducible repeat(first|apply Kd.N_alloc|apply Kd.N_drewN|apply Kd.N_drew));exact Kd.N_mono HO868.out (fun _ _=>trivial)⟩,⟨by(with_reducible repeat(first|apply Kd.R_alloc|apply Kd.R_drewN|apply Kd.R_drew));exact Kd.R_mono Ad.out (fun _ _=>trivial)⟩,⟨bw_46⟩⟩
  subst Eg
  rw[ip rfl]at H
  replace H:=bez H
  obtain⟨⟨t899,t900,t901,Gm,Cy⟩,Ha,H⟩:=H
  try dsimp only at H
  replace H:=bez H
  obtain⟨⟨t905,t906,t907,Gn,Cz⟩,Hb,H⟩:=H
  try dsimp only at H
  replace H:=bez H
  obtain⟨⟨Eh,Gp⟩,Hc,H⟩:=H
  try dsimp only at H
  replace H:=bez H
  obtain⟨⟨Ei,Gq⟩,Hd,H⟩:=H
  try dsimp only at H
  replace H:=bez H
  obtain⟨Ec,He,H⟩:=H
  try dsimp only at H
  by_cases Ej:Ec=true
  rotate_left
  ·replace Ej:=Bool.eq_false_iff.mpr Ej
   subst Ej
   rw[ig ff]at H
   exact absurd H (by simp)
  subst Ej
  rw[ip rfl]at H
  by_cases Ek:(!(t899== t905)||(!(t900== t906)||(!(t901== t907))))=true
  ·rw[ip Ek]at H
   exact absurd H (by simp)
  rw[ig Ek]at H
  have Da:(!(t899== t905)||(!(t900== t906)||(!(t901== t907))))=false:=by simpa using Ek
  clear Ek
  (first|rw[Da]|(simp only[i64_w,i32_w];rw[Da])|skip)
  by_cases Ee:(Cy != Cz)=true
  ·rw[ip Ee]at H
   exact absurd H (by simp)
  rw[ig Ee]at H
  have El:(Cy != Cz)=false:=by simpa using Ee
  (try(have Em:decide (Cy=Cz)=true:=by simpa using Ee))
  (try(have Eo:(Cy== Cz)=true:=by simpa using Ee))
  clear Ee
  by_cases Ep:Gp=true
  rotate_left
  ·replace Ep:=Bool.eq_false_iff.mpr Ep
   subst Ep
   rw[ig ff]at H
   exact absurd H (by simp)
  subst Ep
  rw[ip rfl]at H
  replace H:=bez H
  obtain⟨Ed,Hf,H⟩:=H
  try dsimp only at H
  by_cases Er:Ed=true
  rotate_left
  ·replace Er:=Bool.eq_false_iff.mpr Er
   subst Er
   rw[ig ff]at H
   exact absurd H (by simp)
  subst Er
  rw[ip rfl]at H
  have H':=Az.mk H
  clear H
  go_wp2_with (first|((with_reducible refine gtC (f:=27) rfl ?_);refine clz Try.func27 (some 207) #[.slice Ah Aa.length Ai] ?_;(with_reducible refine(gA.calls k _ _ Aa t899 t900 t901 Gm Cy _ ?Al ?Am Ha.out).mono ?_);(case Al=>exact kC (Kd.N_reads' HO829.out).2.2);(case Am=>exact(Kd.N_reads' HO829.out).2.1);rintro e Hl ⟨rfl,hb⟩;refine⟨_,rfl,?_⟩;replace HO829:=Az.mk (Kd.N_below z46_0 hb);replace Ab:=Az.mk (Kd.Q_below (kQ Ab.out) hb);replace HO834:=Az.mk (Kd.N_below z46_1 hb);replace Ac:=Az.mk (Kd.R_below (kR Ac.out) hb);replace HO868:=Az.mk (Kd.N_below z46_2 hb);replace Ad:=Az.mk (Kd.R_below (kR Ad.out) hb);replace HB:=Az.mk (bwT bw_46 hb);(try clear hb))|((with_reducible refine gtD (N:=28) rfl ?_);refine bx (N:=28) (cs:= #[.int .i64 0, .int .i64 0, .int .i64 0]) (t:=45) ?_;intro gb904 hg Hm hbox hb;replace HO829:=Az.mk (Kd.N_below (Kd.N_elderB z46_0 gb904 (Nat.le_of_eq hg.symm)) hb);replace Ab:=Az.mk (Kd.Q_below (kQ Ab.out) hb);replace HO834:=Az.mk (Kd.N_below (Kd.N_elderB z46_1 gb904 (Nat.le_of_eq hg.symm)) hb);replace Ac:=Az.mk (Kd.R_below (kR Ac.out) hb);replace HO868:=Az.mk (Kd.N_below (Kd.N_elderB z46_2 gb904 (Nat.le_of_eq hg.symm)) hb);replace Ad:=Az.mk (Kd.R_below (kR Ad.out) hb);have Ae:=Az.mk (hbox);have Gu:=gwz hg bw_46;have GE904:=gwz hg bw_46;replace HB:=Az.mk (bwT bw_46 hb);clear hb hbox hg;obtain⟨Dn,Do,Dp,Dq,Dr,Ds⟩:=bq3 Ae)|((with_reducible refine gtC (f:=27) rfl ?_);refine clz Try.func27 (some 213) #[.slice Ay Af.length Ax] ?_;(with_reducible refine(gA.calls k _ _ Af t905 t906 t907 Gn Cz _ ?Al ?Am Hb.out).mono ?_);(case Al=>refine(Kd.N_reads' (e:=25) (base:=w.heap.size) (ok:=fun k_=>(True∧k_≠gb904)) (n:=Af.length) (c:=Ax) ?_).2.2;exact z46_3);(case Am=>exact(Kd.N_reads' HO834.out).2.1);rintro e Hn ⟨rfl,hb⟩;refine⟨_,rfl,?_⟩;replace HO829:=Az.mk (Kd.N_below (by(with_reducible repeat(first|apply Kd.N_alloc|apply Kd.N_drewN|apply Kd.N_drew));exact(Kd.N_mono (Kd.N_far (p:=⟨gb904,2,none⟩) (Kd.N_far (p:=⟨gb904,1,none⟩) (Kd.N_far (p:=⟨gb904,0,none⟩) (Kd.N_mono HO829.out (fun k_ hk=>(⟨hk,hk.2⟩:_∧k_≠gb904))) (fun _ hk=>hk.2) (.int .i64 t899)) (fun _ hk=>hk.2) (.int .i64 t900)) (fun _ hk=>hk.2) (.int .i64 t901)) (fun _ h_=>h_.1))) hb);replace Ab:=Az.mk (Kd.Q_below (by(with_reducible repeat(first|apply Kd.Q_alloc|apply Kd.Q_drewN|apply Kd.Q_drew));exact(Kd.Q_mono (Kd.Q_far (p:=⟨gb904,2,none⟩) (Kd.Q_far (p:=⟨gb904,1,none⟩) (Kd.Q_far (p:=⟨gb904,0,none⟩) (Kd.Q_types Ab.out Ae.out (by decide)) (fun _ hk=>hk.2) (.int .i64 t899)) (fun _ hk=>hk.2) (.int .i64 t900)) (fun _ hk=>hk.2) (.int .i64 t901)) (fun _ h_=>h_.1))) hb);replace HO834:=Az.mk (Kd.N_below z46_3 hb);replace Ac:=Az.mk (Kd.R_below (by(with_reducible repeat(first|apply Kd.R_alloc|apply Kd.R_drewN|apply Kd.R_drew));exact(Kd.R_mono (Kd.R_far (p:=⟨gb904,2,none⟩) (Kd.R_far (p:=⟨gb904,1,none⟩) (Kd.R_far (p:=⟨gb904,0,none⟩) (Kd.R_types Ac.out Ae.out (by decide)) (fun _ hk=>hk.2) (.int .i64 t899)) (fun _ hk=>hk.2) (.int .i64 t900)) (fun _ hk=>hk.2) (.int .i64 t901)) (fun _ h_=>h_.1))) hb);replace HO868:=Az.mk (Kd.N_below (by(with_reducible repeat(first|apply Kd.N_alloc|apply Kd.N_drewN|apply Kd.N_drew));exact(Kd.N_mono (Kd.N_far (p:=⟨gb904,2,none⟩) (Kd.N_far (p:=⟨gb904,1,none⟩) (Kd.N_far (p:=⟨gb904,0,none⟩) (Kd.N_mono HO868.out (fun k_ hk=>(⟨hk,hk.2⟩:_∧k_≠gb904))) (fun _ hk=>hk.2) (.int .i64 t899)) (fun _ hk=>hk.2) (.int .i64 t900)) (fun _ hk=>hk.2) (.int .i64 t901)) (fun _ h_=>h_.1))) hb);replace Ad:=Az.mk (Kd.R_below (by(with_reducible repeat(first|apply Kd.R_alloc|apply Kd.R_drewN|apply Kd.R_drew));exact(Kd.R_mono (Kd.R_far (p:=⟨gb904,2,none⟩) (Kd.R_far (p:=⟨gb904,1,none⟩) (Kd.R_far (p:=⟨gb904,0,none⟩) (Kd.R_types Ad.out Ae.out (by decide)) (fun _ hk=>hk.2) (.int .i64 t899)) (fun _ hk=>hk.2) (.int .i64 t900)) (fun _ hk=>hk.2) (.int .i64 t901)) (fun _ h_=>h_.1))) hb);replace Ae:=Az.mk (bkB (g:=gb904) (o:= .cells #[.int .i64 t899, .int .i64 t900, .int .i64 t901] 45 (0,0)) bkv hb);replace HB:=Az.mk (bwT bw_46 hb);(try clear hb);(try clear hk))|((with_reducible refine gtD (N:=31) rfl ?_);refine bx (N:=31) (cs:= #[.int .i64 0, .int .i64 0, .int .i64 0]) (t:=45) ?_;intro gb910 hg Ho hbox hb;replace HO829:=Az.mk (Kd.N_below (Kd.N_elderB z46_0 gb910 (Nat.le_of_eq hg.symm)) hb);replace Ab:=Az.mk (Kd.Q_below (kQ Ab.out) hb);replace HO834:=Az.mk (Kd.N_below (Kd.N_elderB z46_1 gb910 (Nat.le_of_eq hg.symm)) hb);replace Ac:=Az.mk (Kd.R_below (kR Ac.out) hb);replace HO868:=Az.mk (Kd.N_below (Kd.N_elderB z46_2 gb910 (Nat.le_of_eq hg.symm)) hb);replace Ad:=Az.mk (Kd.R_below (kR Ad.out) hb);have Ak:=Az.mk (hbox);have Gv:=gwz hg bw_46;have GE910:=gwz hg bw_46;replace HB:=Az.mk (bwT bw_46 hb);have NB904_910:=nlt Ae hg;have NB910_904:=ngt Ae hg;replace Ae:=bkz Ae hb;clear hb hbox hg;have hnb97:=NB910_904.out;have hnc97:=NB904_910.out;obtain⟨Dt,Du,Dv,Dw,Dx,Dy⟩:=bq3 Ak)|((with_reducible refine gtC (f:=6) rfl ?_);refine clz Try.func6 (some 220) #[.slice Ay Af.length Ax, .int .i64 Aj] ?_;(with_reducible refine(fU.calls k _ _ Af Aj Eh true _ ?Al ?Am Hc.out).mono ?_);(case Al=>refine(Kd.N_reads' (e:=25) (base:=w.heap.size) (ok:=fun k_=>((True∧k_≠gb904)∧k_≠gb910)) (n:=Af.length) (c:=Ax) ?_).2.2;exact z46_4);(case Am=>exact(Kd.N_reads' HO834.out).2.1);rintro e Hp ⟨Hg,rfl,Bz,hb⟩;refine⟨_,rfl,?_⟩;replace Bz:=Kd.S_N Bz;replace HO829:=Az.mk (Kd.N_elder' (by(with_reducible repeat(first|apply Kd.N_alloc|apply Kd.N_drewN|apply Kd.N_drew));exact(Kd.N_mono (Kd.N_far (p:=⟨gb910,2,none⟩) (Kd.N_far (p:=⟨gb910,1,none⟩) (Kd.N_far (p:=⟨gb910,0,none⟩) (Kd.N_mono HO829.out (fun k_ hk=>(⟨hk,hk.2⟩:_∧k_≠gb910))) (fun _ hk=>hk.2) (.int .i64 t905)) (fun _ hk=>hk.2) (.int .i64 t906)) (fun _ hk=>hk.2) (.int .i64 t907)) (fun _ h_=>h_.1))) (Kd.N_base Bz) hb);replace Ab:=Az.mk (Kd.Q_below (by(with_reducible repeat(first|apply Kd.Q_alloc|apply Kd.Q_drewN|apply Kd.Q_drew));exact(Kd.Q_mono (Kd.Q_far (p:=⟨gb910,2,none⟩) (Kd.Q_far (p:=⟨gb910,1,none⟩) (Kd.Q_far (p:=⟨gb910,0,none⟩) (Kd.Q_types Ab.out Ak.out (by decide)) (fun _ hk=>hk.2) (.int .i64 t905)) (fun _ hk=>hk.2) (.int .i64 t906)) (fun _ hk=>hk.2) (.int .i64 t907)) (fun _ h_=>h_.1))) hb);replace HO834:=Az.mk (Kd.N_elder' z46_4 (Kd.N_base Bz) hb);replace Ac:=Az.mk (Kd.R_below (by(with_reducible repeat(first|apply Kd.R_alloc|apply Kd.R_drewN|apply Kd.R_drew));exact(Kd.R_mono (Kd.R_far (p:=⟨gb910,2,none⟩) (Kd.R_far (p:=⟨gb910,1,none⟩) (Kd.R_far (p:=⟨gb910,0,none⟩) (Kd.R_types Ac.out Ak.out (by decide)) (fun _ hk=>hk.2) (.int .i64 t905)) (fun _ hk=>hk.2) (.int .i64 t906)) (fun _ hk=>hk.2) (.int .i64 t907)) (fun _ h_=>h_.1))) hb);replace HO868:=Az.mk (Kd.N_elder' (by(with_reducible repeat(first|apply Kd.N_alloc|apply Kd.N_drewN|apply Kd.N_drew));exact(Kd.N_mono (Kd.N_far (p:=⟨gb910,2,none⟩) (Kd.N_far (p:=⟨gb910,1,none⟩) (Kd.N_far (p:=⟨gb910,0,none⟩) (Kd.N_mono HO868.out (fun k_ hk=>(⟨hk,hk.2⟩:_∧k_≠gb910))) (fun _ hk=>hk.2) (.int .i64 t905)) (fun _ hk=>hk.2) (.int .i64 t906)) (fun _ hk=>hk.2) (.int .i64 t907)) (fun _ h_=>h_.1))) (Kd.N_base Bz) hb);replace Ad:=Az.mk (Kd.R_below (by(with_reducible repeat(first|apply Kd.R_alloc|apply Kd.R_drewN|apply Kd.R_drew));exact(Kd.R_mono (Kd.R_far (p:=⟨gb910,2,none⟩) (Kd.R_far (p:=⟨gb910,1,none⟩) (Kd.R_far (p:=⟨gb910,0,none⟩) (Kd.R_types Ad.out Ak.out (by decide)) (fun _ hk=>hk.2) (.int .i64 t905)) (fun _ hk=>hk.2) (.int .i64 t906)) (fun _ hk=>hk.2) (.int .i64 t907)) (fun _ h_=>h_.1))) hb);have Ba:=Az.mk (Kd.N_lower (Kd.N_mono (ok':=fun _=>True) Bz (fun _ _=>trivial)) (bwZ bw_46));replace Ae:=Az.mk (bkB (g:=gb904) (o:= .cells #[.int .i64 t899, .int .i64 t900, .int .i64 t901] 45 (0,0)) bkv hb);replace Ak:=Az.mk (bkB (g:=gb910) (o:= .cells #[.int .i64 t905, .int .i64 t906, .int .i64 t907] 45 (0,0)) bkv hb);replace HB:=Az.mk (bwT bw_46 hb);(try clear hb);(try clear hk);(try clear Bz))|((with_reducible refine gtC (f:=11) rfl ?_);refine clz Try.func11 (some 226) #[.slice Ah Aa.length Ai, .int .i64 Aj] ?_;(with_reducible refine(fW.calls k _ _ Aa Aj Ei Gq _ ?Al ?Am Hd.out).mono ?_);(case Al=>exact kC (Kd.N_reads' HO829.out).2.2);(case Am=>exact(Kd.N_reads' HO829.out).2.1);rintro e Hh ⟨Hi,rfl,Bz,hb⟩;refine⟨_,rfl,?_⟩;replace HO829:=Az.mk (Kd.N_elder' z46_0 (Kd.S_base Bz) hb);replace Ab:=Az.mk (Kd.Q_below (kQ Ab.out) hb);replace HO834:=Az.mk (Kd.N_elder' z46_1 (Kd.S_base Bz) hb);replace Ac:=Az.mk (Kd.R_below (kR Ac.out) hb);replace HO868:=Az.mk (Kd.N_elder' z46_2 (Kd.S_base Bz) hb);replace Ad:=Az.mk (Kd.R_below (kR Ad.out) hb);replace Ba:=Az.mk (Kd.N_elder' (by(with_reducible repeat(first|apply Kd.N_alloc|apply Kd.N_drewN|apply Kd.N_drew));exact Ba.out) (Kd.S_base Bz) hb);have Bm:=Az.mk (Kd.N_lower (Kd.N_mono (ok':=fun _=>True) (Kd.S_N (Kd.S_bound Bz)) (fun _ _=>trivial)) (bwZ bw_46));replace Ae:=bkz Ae hb;replace Ak:=bkz Ak hb;replace HB:=Az.mk (bwT bw_46 hb);(try clear hb);(try clear Bz))|((with_reducible refine gtC (f:=28) rfl ?_);refine clz Try.func28 (some 230) #[.slice Ay Af.length Ax] ?_;(with_reducible refine(fB.calls k _ _ Af true _ ?Al ?Am He.out).mono ?_);(case Al=>exact kC (Kd.N_reads' HO834.out).2.2);(case Am=>exact(Kd.N_reads' HO834.out).2.1);rintro e Hj ⟨rfl,hb⟩;refine⟨_,rfl,?_⟩;replace HO829:=Az.mk (Kd.N_below z46_0 hb);replace Ab:=Az.mk (Kd.Q_below (kQ Ab.out) hb);replace HO834:=Az.mk (Kd.N_below z46_1 hb);replace Ac:=Az.mk (Kd.R_below (kR Ac.out) hb);replace HO868:=Az.mk (Kd.N_below z46_2 hb);replace Ad:=Az.mk (Kd.R_below (kR Ad.out) hb);replace Ba:=Az.mk (Kd.N_below (by(with_reducible repeat(first|apply Kd.N_alloc|apply Kd.N_drewN|apply Kd.N_drew));exact Ba.out) hb);replace Bm:=Az.mk (Kd.N_below (by(with_reducible repeat(first|apply Kd.N_alloc|apply Kd.N_drewN|apply Kd.N_drew));exact Bm.out) hb);replace Ae:=bkz Ae hb;replace Ak:=bkz Ak hb;replace HB:=Az.mk (bwT bw_46 hb);(try clear hb);obtain⟨Db,Dc,Dd,De,Df,Dg⟩:=bq3 Ae;obtain⟨Dh,Di,Dj,Dk,Dl,Dm⟩:=bq3 Ak;obtain⟨Gw,Gx,Es⟩:=Kd.N_slice Ba.out;subst Es;obtain⟨Gy,Gz,Et⟩:=Kd.N_slice Bm.out;subst Et)|(go_at_call 18;(with_reducible refine(gZ.calls k _ _ Eh _ _ Ei true _ ?Al ?Am ?Eu ?Ev Hf.out).mono ?_);(case Al=>exact kC (Kd.N_reads' Ba.out).2.2);(case Am=>exact(Kd.N_reads' Ba.out).2.1);(case Eu=>exact kC (Kd.N_reads' Bm.out).2.2);(case Ev=>exact(Kd.N_reads' Bm.out).2.1);rintro e Hk ⟨rfl,hb⟩;replace HO829:=Az.mk (Kd.N_below z46_0 hb);replace Ab:=Az.mk (Kd.Q_below (kQ Ab.out) hb);replace HO834:=Az.mk (Kd.N_below z46_1 hb);replace Ac:=Az.mk (Kd.R_below (kR Ac.out) hb);replace HO868:=Az.mk (Kd.N_below z46_2 hb);replace Ad:=Az.mk (Kd.R_below (kR Ad.out) hb);replace Ae:=bkz Ae hb;replace Ak:=bkz Ak hb;replace HB:=Az.mk (bwT bw_46 hb);(try clear hb)))
  go_meet
  case rel=>exact⟨_,H',⟨by first|omega|exact Nat.le_refl _⟩,⟨by(with_reducible repeat(first|apply Kd.N_alloc|apply Kd.N_drewN|apply Kd.N_drew));exact Kd.N_mono HO829.out (fun _ _=>trivial)⟩,⟨by(with_reducible repeat(first|apply Kd.Q_alloc|apply Kd.Q_drewN|apply Kd.Q_drew));exact Kd.Q_mono Ab.out (fun _ _=>trivial)⟩,⟨by(with_reducible repeat(first|apply Kd.N_alloc|apply Kd.N_drewN|apply Kd.N_drew));exact Kd.N_mono HO834.out (fun _ _=>trivial)⟩,⟨by(with_reducible repeat(first|apply Kd.R_alloc|apply Kd.R_drewN|apply Kd.R_drew));exact Kd.R_mono Ac.out (fun _ _=>trivial)⟩,⟨by(with_reducible repeat(first|apply Kd.N_alloc|apply Kd.N_drewN|apply Kd.N_drew));exact Kd.N_mono HO868.out (fun _ _=>trivial)⟩,⟨by(with_reducible repeat(first|apply Kd.R_alloc|apply Kd.R_drewN|apply Kd.R_drew));exact Kd.R_mono Ad.out (fun _ _=>trivial)⟩,⟨bw_46⟩⟩
 clear Eb
 try clear Eg
 try clear Ej
 try clear Ek
 try clear Da
 try clear Ee
 try clear El
 try clear Em
 try clear Eo
 try clear Ep
 try clear Er
 try clear Db
 try clear Dc
 try clear Dd
 try clear Dh
 try clear Di
 try clear Dj
 try clear Dn
 try clear Do
 try clear Dp
 try clear Dt
 try clear Du
 try clear Dv
 try clear De
 try clear Df
 try clear Dg
 try clear Dk
 try clear Dl
 try clear Dm
 try clear Dq
 try clear Dr
 try clear Ds
 try clear Dw
 try clear Dx
 try clear Dy
 obtain⟨kq,HA,Gr,HO_3,Gs,HO_6,Ew,HO_22,Ex,HB⟩:=hcut
 cases kq with
 |zero=>exact absurd HA.out (by simp[laws_FnFlips.j0])
 |succ Gt=>
  have H:=HA.out
  clear HA
  simp only[laws_FnFlips.j0]at H
  have Ey:=Az.mk H
  clear H
  rename_i Kt at_
  have AT:=Az.mk at_
  clear at_
  exact AT.out _ _ (laws_FnFlips.p23 k A0 c0 l0 r w Aa Ag Aj Af Bb Ca Cb As Bc Cc Cd Bn Bo Ce Cf Cg Ch Bp Bq Au Av Bd Ci Cj Ck Ah Ai Ap Aq Br Bs Ay Ax Cl Cm Bf Bh Cn Co Cp Cq Cr Cs Bt Bu Bv Bw Bi Bj Ct Cu Bk Bl Cv Cw nd wc u2 u28 u29 u30 u31 u32 u33 u34 u35 u36 u37 u46 u47 u48 u49 u50 u51 u52 u53 u54 u55 u56 u57 u58 u59 u60 u61 u62 u63 u64 u65 u66 u67 u68 u69 u70 u71 u72 u73 u74 u75 u76 u77 u78 u79 u80 u81 u82 u83 u84 u85 u86 u87 u88 u89 u90 u91 u92 u93 u94 u95 u96 u97 u98 u99 u100 u101 u102 u103 u104 u105 u106 u107 u108 u109 u110 u111 u112 u113 u114 u115 u116 u117 u118 u119 u120 u121 u122 u123 u124 u125 u126 u127 u128 u129 u130 u131 u132 u133 u134 u135 u136 u137 u138 u139 u140 u141 u142 u143 u144 u145 u146 u147 u148 u149 u150 u151 u152 u153 u154 u155 u156 u157 u158 u159 u160 u161 u162 u163 u164 u165 u166 u167 u168 u169 u170 u171 u172 u173 u174 u175 u176 u177 u178 u179 u180 u181 u182 u183 u184 u185 u186 u187 u188 u189 u190 u191 u192 u193 u194 u195 u196 u197 u198 u199 u200 u201 u202 u203 u204 u205 u206 u207 u208 u209 u210 u211 u212 u213 u214 u215 u216 u217 u218 u219 u220 u221 u222 u223 u224 u225 u226 u227 u228 u229 u230 u231 u232 u233 u234 u235 u236 u237 u238 u239 u240 u241 u242 u243 u244 u245 u246 u247 u248 u249 u250 u251 u252 u253 u254 u255 u256 u257 u258 u259 u260 u261 u262 u263 u264 u265 u266 u267 u268 u269 u270 u271 u272 u273 u274 u275 u276 u277 u278 u279 u280 u281 u282 u283 u284 u285 u286 u287 u288 u289 u290 u291 u292 u293 u294 u295 u296 u297 u298 u299 u300 u301 u302 u303 u304 u305 u306 u307 u308 u309 u310 u311 u312 u313 u314 u315 u316 u317 u318 u319 u320 u321 u322 u323 u324 u325 u326 u327 u328 u329 u330 u331 u332 u333 u334 u335 u336 u337 u338 u339 HO_3 Gs HO_6 Ew HO_22 Ex HB Gt Gr Ey)
theorem z47_3 {p:Prop} (h:p:=by(with_reducible repeat(first|apply Kd.N_alloc|apply Kd.N_drewN|apply Kd.N_drew));exact HO868.out):p:=h
theorem z47_2 {p:Prop} (h:p:=by(with_reducible repeat(first|apply Kd.N_alloc|apply Kd.N_drewN|apply Kd.N_drew));exact HO839.out):p:=h
theorem z47_1 {p:Prop} (h:p:=by(with_reducible repeat(first|apply Kd.N_alloc|apply Kd.N_drewN|apply Kd.N_drew));exact HO834.out):p:=h
theorem z47_0 {p:Prop} (h:p:=by(with_reducible repeat(first|apply Kd.N_alloc|apply Kd.N_drewN|apply Kd.N_drew));exact HO829.out):p:=h
theorem bw_47 {n:Nat}{v v':World} (h:Below n v v':=by repeat(first|(with_reducible first|exact HB.out|apply bwA|apply pbN|apply bwD)|exact HB.out)):Below n v v':=h
theorem ln_47 {P:Prop} (h:P:=by(try simp only[List.map_toArray,List.map_cons,List.map_nil]);first|done|rfl|(simp only[List.length_drop,List.length_take];rfl)):P:=h
attribute [local go_sem high] eqA45
theorem laws_FnFlips.calls (k:Nat) (A0:Option Addr) (c0:Nat) (l0:List Int) (r:Bool) (w:World) (Gj:Kd.C (Kd.int .u8) w A0 l0.length l0) (Gk:l0.length≤c0) (h:laws_FnFlips.f k l0=some r):
  Calls Try.prog 3 #[.slice A0 l0.length c0] w fun e w'=>e= .returned (.bool r)∧Below w.heap.size w w':=by
 have hu45:=Try.underlying45
 have Cv:=Az.mk Gj
 have Cw:=Az.mk Gk
 clear Gj Gk
 have HB:=Az.mk (Below.refl w.heap.size w)
 have H:=h
 unfold laws_FnFlips.f at H
 clear h
 replace H:=bez H
 obtain⟨Dg,A2,H⟩:=H
 try dsimp only at H
 by_cases c3:Dg=true
 ·subst c3
  rw[ip rfl]at H
  obtain rfl:=Option.some.inj H
  go_enter Try.func3,Try.ntmps3
  go_wp2_with (first|((with_reducible refine gtC (f:=4) rfl ?_);refine clz Try.func4 (some 47) #[.slice A0 l0.length c0] ?_;(with_reducible refine(jW.calls _ _ l0 true _ ?Ab ?Ac A2.out).mono ?_);(case Ab=>exact kC Cv.out);(case Ac=>exact Cw.out);rintro e w' ⟨rfl,⟨nd,rfl⟩⟩;refine⟨_,rfl,?_⟩))
  go_ret
  exact⟨rq1,bw_47⟩
 replace c3:=Bool.eq_false_iff.mpr c3
 subst c3
 rw[ig ff]at H
 replace H:=bez H
 obtain⟨⟨Aj,Aq,Au⟩,A4,H⟩:=H
 try dsimp only at H
 replace H:=bez H
 obtain⟨⟨Bx,Ba⟩,A5,H⟩:=H
 try dsimp only at H
 replace H:=bez H
 obtain⟨⟨By,Bf⟩,A6,H⟩:=H
 try dsimp only at H
 replace H:=bez H
 obtain⟨⟨Bz,Bh⟩,A7,H⟩:=H
 try dsimp only at H
 replace H:=bez H
 obtain⟨⟨Ca,Bi⟩,A8,H⟩:=H
 try dsimp only at H
 replace H:=bez H
 obtain⟨⟨Bj,Bk⟩,A9,H⟩:=H
 try dsimp only at H
 replace H:=bez H
 obtain⟨⟨Cb,Bl⟩,Hi,H⟩:=H
 try dsimp only at H
 replace H:=bez H
 obtain⟨⟨Cc,Bm⟩,Hj,H⟩:=H
 try dsimp only at H
 replace H:=bez H
 obtain⟨⟨Bv,Bw⟩,Hk,H⟩:=H
 try dsimp only at H
 replace H:=bez H
 obtain⟨⟨Cd,Ce,Bn⟩,Hl,H⟩:=H
 try dsimp only at H
 replace H:=bez H
 obtain⟨⟨Cf,Cg,Bo⟩,Hm,H⟩:=H
 try dsimp only at H
 by_cases Cp:(Ba != Bf)=true
 ·rw[ip Cp]at H
  exact absurd H (by simp)
 rw[ig Cp]at H
 have Gl:(Ba != Bf)=false:=by simpa using Cp
 (try(have Gm:decide (Ba=Bf)=true:=by simpa using Cp))
 (try(have Gn:(Ba== Bf)=true:=by simpa using Cp))
 clear Cp
 replace H:=bez H
 obtain⟨Dh,Hn,H⟩:=H
 try dsimp only at H
 by_cases Da:Dh=true
 rotate_left
 ·replace Da:=Bool.eq_false_iff.mpr Da
  subst Da
  rw[ig ff]at H
  exact absurd H (by simp)
 subst Da
 rw[ip rfl]at H
 by_cases Cq:(Bh != Bi)=true
 ·rw[ip Cq]at H
  exact absurd H (by simp)
 rw[ig Cq]at H
 have Gp:(Bh != Bi)=false:=by simpa using Cq
 (try(have Gq:decide (Bh=Bi)=true:=by simpa using Cq))
 (try(have Gr:(Bh== Bi)=true:=by simpa using Cq))
 clear Cq
 replace H:=bez H
 obtain⟨Di,Ho,H⟩:=H
 try dsimp only at H
 by_cases Db:Di=true
 rotate_left
 ·replace Db:=Bool.eq_false_iff.mpr Db
  subst Db
  rw[ig ff]at H
  exact absurd H (by simp)
 subst Db
 rw[ip rfl]at H
 by_cases Cr:(Bl != Bm)=true
 ·rw[ip Cr]at H
  exact absurd H (by simp)
 rw[ig Cr]at H
 have Gs:(Bl != Bm)=false:=by simpa using Cr
 (try(have Gt:decide (Bl=Bm)=true:=by simpa using Cr))
 (try(have Gu:(Bl== Bm)=true:=by simpa using Cr))
 clear Cr
 replace H:=bez H
 obtain⟨Dj,Hp,H⟩:=H
 try dsimp only at H
 by_cases Dc:Dj=true
 rotate_left
 ·replace Dc:=Bool.eq_false_iff.mpr Dc
  subst Dc
  rw[ig ff]at H
  exact absurd H (by simp)
 subst Dc
 rw[ip rfl]at H
 replace H:=bez H
 obtain⟨Bp,Hq,H⟩:=H
 try dsimp only at H
 replace H:=bez H
 obtain⟨Bq,Hr,H⟩:=H
 try dsimp only at H
 by_cases Cs:(Bp != Bq)=true
 ·rw[ip Cs]at H
  exact absurd H (by simp)
 rw[ig Cs]at H
 have Gv:(Bp != Bq)=false:=by simpa using Cs
 (try(have Gw:decide (Bp=Bq)=true:=by simpa using Cs))
 (try(have Gx:(Bp== Bq)=true:=by simpa using Cs))
 clear Cs
 by_cases Ct:(Bn != Bo)=true
 ·rw[ip Ct]at H
  exact absurd H (by simp)
 rw[ig Ct]at H
 have Gy:(Bn != Bo)=false:=by simpa using Ct
 (try(have Gz:decide (Bn=Bo)=true:=by simpa using Ct))
 (try(have Ha:(Bn== Bo)=true:=by simpa using Ct))
 clear Ct
 replace H:=bez H
 obtain⟨Dk,Hs,H⟩:=H
 try dsimp only at H
 by_cases Dd:Dk=true
 rotate_left
 ·replace Dd:=Bool.eq_false_iff.mpr Dd
  subst Dd
  rw[ig ff]at H
  exact absurd H (by simp)
 subst Dd
 rw[ip rfl]at H
 replace H:=bez H
 obtain⟨Dl,Ht,H⟩:=H
 try dsimp only at H
 by_cases De:Dl=true
 rotate_left
 ·replace De:=Bool.eq_false_iff.mpr De
  subst De
  rw[ig ff]at H
  exact absurd H (by simp)
 subst De
 rw[ip rfl]at H
 replace H:=bez H
 obtain⟨Br,Hu,H⟩:=H
 try dsimp only at H
 by_cases Cu:(Br != Ba)=true
 ·rw[ip Cu]at H
  exact absurd H (by simp)
 rw[ig Cu]at H
 have Hb:(Br != Ba)=false:=by simpa using Cu
 (try(have Hc:decide (Br=Ba)=true:=by simpa using Cu))
 (try(have Hd:(Br== Ba)=true:=by simpa using Cu))
 clear Cu
 replace H:=bez H
 obtain⟨Ch,Hv,H⟩:=H
 try dsimp only at H
 replace H:=bez H
 obtain⟨Ci,Hw,H⟩:=H
 try dsimp only at H
 replace H:=bez H
 obtain⟨Dm,Hx,H⟩:=H
 try dsimp only at H
 by_cases Df:Dm=true
 rotate_left
 ·replace Df:=Bool.eq_false_iff.mpr Df
  subst Df
  rw[ig ff]at H
  exact absurd H (by simp)
 subst Df
 rw[ip rfl]at H
 replace H:=bez H
 obtain⟨Cj,Hy,H⟩:=H
 try dsimp only at H
 replace H:=bez H
 obtain⟨Ck,Hz,H⟩:=H
 try dsimp only at H
 by_cases Cy:Cj=Ck
 rotate_left
 ·rw[ig Cy]at H
  exact absurd H (by simp)
 rw[ip Cy]at H
 have He:=beq_iff_eq.mpr Cy
 have Hf:=bne_eq_false_iff_eq.mpr Cy
 clear Cy
 replace H:=bez H
 obtain⟨Cl,Ia,H⟩:=H
 try dsimp only at H
 replace H:=bez H
 obtain⟨Cm,Ib,H⟩:=H
 try dsimp only at H
 by_cases Cz:Cl=Cm
 rotate_left
 ·rw[ig Cz]at H
  exact absurd H (by simp)
 rw[ip Cz]at H
 have Hg:=beq_iff_eq.mpr Cz
 have Hh:=bne_eq_false_iff_eq.mpr Cz
 clear Cz
 have Dn:=Az.mk H
 clear H
 go_enter Try.func3,Try.ntmps3
 go_upto_region 14 with (first|((with_reducible refine gtC (f:=4) rfl ?_);refine clz Try.func4 (some 47) #[.slice A0 l0.length c0] ?_;(with_reducible refine(jW.calls _ _ l0 false _ ?Ab ?Ac A2.out).mono ?_);(case Ab=>exact kC Cv.out);(case Ac=>exact Cw.out);rintro e w' ⟨rfl,⟨nd,rfl⟩⟩;refine⟨_,rfl,?_⟩)|((with_reducible refine gtC (f:=5) rfl ?_);refine clz Try.func5 (some 50) #[.slice A0 l0.length c0] ?_;(with_reducible refine(jN.calls k _ _ l0 Aj Aq Au _ ?Ab ?Ac A4.out).mono ?_);(case Ab=>exact kC Cv.out);(case Ac=>exact Cw.out);rintro e Iw ⟨Ic,Id,rfl,Ae,Ak,hb⟩;refine⟨_,rfl,?_⟩;have HO829:=Az.mk (Kd.N_lower (Kd.N_mono (ok':=fun _=>True) (Kd.S_N (Kd.S_bound Ae)) (fun _ _=>trivial)) (bwZ bw_47));have Aa:=Az.mk (Kd.Q_lower Ak (bwZ bw_47));replace HB:=Az.mk (bwT bw_47 hb);(try clear hb);(try clear Ae);(try clear Ak);obtain⟨Bc,Bd,Do⟩:=Kd.N_slice HO829.out;subst Do)|((with_reducible refine gtC (f:=6) rfl ?_);refine clz Try.func6 (some 57) #[.slice Bc Aj.length Bd, .int .i64 Au] ?_;(with_reducible refine(fU.calls k _ _ Aj Au Bx Ba _ ?Ab ?Ac A5.out).mono ?_);(case Ab=>exact kC (Kd.N_reads' HO829.out).2.2);(case Ac=>exact(Kd.N_reads' HO829.out).2.1);rintro e Ix ⟨Ie,rfl,Ae,hb⟩;refine⟨_,rfl,?_⟩;replace Ae:=Kd.S_N Ae;replace HO829:=Az.mk (Kd.N_elder' z47_0 (Kd.N_base Ae) hb);replace Aa:=Az.mk (Kd.Q_below (kQ Aa.out) hb);have HO834:=Az.mk (Kd.N_lower (Kd.N_mono (ok':=fun _=>True) Ae (fun _ _=>trivial)) (bwZ bw_47));replace HB:=Az.mk (bwT bw_47 hb);(try clear hb);(try clear Ae))|((with_reducible refine gtC (f:=7) rfl ?_);refine clz Try.func7 (some 63) #[.slice Bc Aj.length Bd, .int .i64 Au] ?_;(with_reducible refine(jK.calls k _ _ Aj Au By Bf _ ?Ab ?Ac A6.out).mono ?_);(case Ab=>exact kC (Kd.N_reads' HO829.out).2.2);(case Ac=>exact(Kd.N_reads' HO829.out).2.1);rintro e Iy ⟨Ig,rfl,Ae,hb⟩;refine⟨_,rfl,?_⟩;replace HO829:=Az.mk (Kd.N_elder' z47_0 (Kd.S_base Ae) hb);replace Aa:=Az.mk (Kd.Q_below (kQ Aa.out) hb);replace HO834:=Az.mk (Kd.N_elder' z47_1 (Kd.S_base Ae) hb);have HO839:=Az.mk (Kd.N_lower (Kd.N_mono (ok':=fun _=>True) (Kd.S_N (Kd.S_bound Ae)) (fun _ _=>trivial)) (bwZ bw_47));replace HB:=Az.mk (bwT bw_47 hb);(try clear hb);(try clear Ae);obtain⟨Bs,Bt,Dp,_⟩:=Kd.Q_slice Aa.out;subst Dp)|((with_reducible refine gtC (f:=8) rfl ?_);refine clz Try.func8 (some 70) #[.slice Bc Aj.length Bd, .slice Bs Aq.length Bt, .int .i64 Au] ?_;(with_reducible refine(fP.calls k _ _ Aj _ _ Aq Au Bz Bh _ ?Ab ?Ac ?Af ?Ag A7.out).mono ?_);(case Ab=>exact kC (Kd.N_reads' HO829.out).2.2);(case Ac=>exact(Kd.N_reads' HO829.out).2.1);(case Af=>exact kC (Kd.Q_reads' Aa.out).2.2);(case Ag=>exact(Kd.Q_reads' Aa.out).2.1);rintro e Iz ⟨Ih,rfl,Ae,hb⟩;refine⟨_,rfl,?_⟩;replace HO829:=Az.mk (Kd.N_elder' z47_0 (Kd.R_base Ae) hb);replace HO834:=Az.mk (Kd.N_elder' z47_1 (Kd.R_base Ae) hb);replace HO839:=Az.mk (Kd.N_elder' z47_2 (Kd.R_base Ae) hb);have Ad:=Az.mk (Kd.R_lower (Kd.R_new' Ae (Kd.Q_lt (kQ Aa.out))) (bwZ bw_47));replace Aa:=Az.mk (Kd.Q_elder' (kQ Aa.out) (Kd.R_base Ae) hb);replace HB:=Az.mk (bwT bw_47 hb);(try clear hb);(try clear Ae))|((with_reducible refine gtC (f:=9) rfl ?_);refine clz Try.func9 (some 77) #[.slice Bc Aj.length Bd, .slice Bs Aq.length Bt, .int .i64 Au] ?_;(with_reducible refine(fG.calls k _ _ Aj _ _ Aq Au Ca Bi _ ?Ab ?Ac ?Af ?Ag A8.out).mono ?_);(case Ab=>exact kC (Kd.N_reads' HO829.out).2.2);(case Ac=>exact(Kd.N_reads' HO829.out).2.1);(case Af=>exact kC (Kd.Q_reads' Aa.out).2.2);(case Ag=>exact(Kd.Q_reads' Aa.out).2.1);rintro e Ja ⟨Ii,rfl,Ae,hb⟩;refine⟨_,rfl,?_⟩;replace HO829:=Az.mk (Kd.N_elder' z47_0 (Kd.R_base Ae) hb);replace HO834:=Az.mk (Kd.N_elder' z47_1 (Kd.R_base Ae) hb);replace HO839:=Az.mk (Kd.N_elder' z47_2 (Kd.R_base Ae) hb);have Ai:=Az.mk (Kd.R_lower (Kd.R_new' (Kd.R_new' Ae (Kd.Q_lt (kQ Aa.out))) (Kd.R_lt (kR Ad.out))) (bwZ bw_47));replace Aa:=Az.mk (Kd.Q_elder' (kQ Aa.out) (Kd.R_base Ae) hb);replace Ad:=Az.mk (Kd.R_elder' (kR Ad.out) (Kd.R_base Ae) hb);replace HB:=Az.mk (bwT bw_47 hb);(try clear hb);(try clear Ae))|((with_reducible refine gtC (f:=10) rfl ?_);refine clz Try.func10 (some 82) #[.slice A0 l0.length c0] ?_;(with_reducible refine(jJ.calls k _ _ l0 Bj Bk _ ?Ab ?Ac A9.out).mono ?_);(case Ab=>exact kC (Kd.C_below Cv.out HB.out));(case Ac=>exact Cw.out);rintro e Jb ⟨Ij,rfl,Ae,hb⟩;refine⟨_,rfl,?_⟩;replace HO829:=Az.mk (Kd.N_elder' z47_0 (Kd.S_base Ae) hb);replace Aa:=Az.mk (Kd.Q_below (kQ Aa.out) hb);replace HO834:=Az.mk (Kd.N_elder' z47_1 (Kd.S_base Ae) hb);replace HO839:=Az.mk (Kd.N_elder' z47_2 (Kd.S_base Ae) hb);replace Ad:=Az.mk (Kd.R_below (kR Ad.out) hb);replace Ai:=Az.mk (Kd.R_below (kR Ai.out) hb);have Av:=Az.mk (Kd.N_lower (Kd.N_mono (ok':=fun _=>True) (Kd.S_N (Kd.S_bound Ae)) (fun _ _=>trivial)) (bwZ bw_47));replace HB:=Az.mk (bwT bw_47 hb);(try clear hb);(try clear Ae);obtain⟨Cn,Co,Dq⟩:=Kd.N_slice Av.out;subst Dq)|((with_reducible refine gtC (f:=11) rfl ?_);refine clz Try.func11 (some 88) #[.slice Cn Bj.length Co, .int .i64 Bk] ?_;(with_reducible refine(fW.calls k _ _ Bj Bk Cb Bl _ ?Ab ?Ac Hi.out).mono ?_);(case Ab=>exact kC (Kd.N_reads' Av.out).2.2);(case Ac=>exact(Kd.N_reads' Av.out).2.1);rintro e Jc ⟨Ik,rfl,Ae,hb⟩;refine⟨_,rfl,?_⟩;replace HO829:=Az.mk (Kd.N_elder' z47_0 (Kd.S_base Ae) hb);replace Aa:=Az.mk (Kd.Q_below (kQ Aa.out) hb);replace HO834:=Az.mk (Kd.N_elder' z47_1 (Kd.S_base Ae) hb);replace HO839:=Az.mk (Kd.N_elder' z47_2 (Kd.S_base Ae) hb);replace Ad:=Az.mk (Kd.R_below (kR Ad.out) hb);replace Ai:=Az.mk (Kd.R_below (kR Ai.out) hb);replace Av:=Az.mk (Kd.N_elder' (by(with_reducible repeat(first|apply Kd.N_alloc|apply Kd.N_drewN|apply Kd.N_drew));exact Av.out) (Kd.S_base Ae) hb);have Al:=Az.mk (Kd.N_lower (Kd.N_mono (ok':=fun _=>True) (Kd.S_N (Kd.S_bound Ae)) (fun _ _=>trivial)) (bwZ bw_47));replace HB:=Az.mk (bwT bw_47 hb);(try clear hb);(try clear Ae))|((with_reducible refine gtC (f:=12) rfl ?_);refine clz Try.func12 (some 94) #[.slice Cn Bj.length Co, .int .i64 Bk] ?_;(with_reducible refine(fL.calls k _ _ Bj Bk Cc Bm _ ?Ab ?Ac Hj.out).mono ?_);(case Ab=>exact kC (Kd.N_reads' Av.out).2.2);(case Ac=>exact(Kd.N_reads' Av.out).2.1);rintro e Jd ⟨Il,rfl,Ae,hb⟩;refine⟨_,rfl,?_⟩;replace HO829:=Az.mk (Kd.N_elder' z47_0 (Kd.S_base Ae) hb);replace Aa:=Az.mk (Kd.Q_below (kQ Aa.out) hb);replace HO834:=Az.mk (Kd.N_elder' z47_1 (Kd.S_base Ae) hb);replace HO839:=Az.mk (Kd.N_elder' z47_2 (Kd.S_base Ae) hb);replace Ad:=Az.mk (Kd.R_below (kR Ad.out) hb);replace Ai:=Az.mk (Kd.R_below (kR Ai.out) hb);replace Al:=Az.mk (Kd.N_elder' (by(with_reducible repeat(first|apply Kd.N_alloc|apply Kd.N_drewN|apply Kd.N_drew));exact Al.out) (Kd.S_base Ae) hb);have As:=Az.mk (Kd.N_lower (Kd.N_mono (ok':=fun _=>True) (Kd.S_N (Kd.S_bound Ae)) (fun _ _=>trivial)) (bwZ bw_47));replace HB:=Az.mk (bwT bw_47 hb);(try clear hb);(try clear Ae))|((with_reducible refine gtC (f:=13) rfl ?_);refine clz Try.func13 (some 99) #[.slice A0 l0.length c0] ?_;(with_reducible refine(fM.calls k _ _ l0 Bv Bw _ ?Ab ?Ac Hk.out).mono ?_);(case Ab=>exact kC (Kd.C_below Cv.out HB.out));(case Ac=>exact Cw.out);rintro e Je ⟨Im,In,rfl,Ae,Ak,hb⟩;refine⟨_,rfl,?_⟩;replace HO829:=Az.mk (Kd.N_mono (Kd.N_told (Kd.N_told (Kd.N_old z47_0 hb) (Kd.S_base Ae)) (Kd.S_base Ak)) (fun _ h_=>h_.1));replace Aa:=Az.mk (Kd.Q_below (kQ Aa.out) hb);replace HO834:=Az.mk (Kd.N_mono (Kd.N_told (Kd.N_told (Kd.N_old z47_1 hb) (Kd.S_base Ae)) (Kd.S_base Ak)) (fun _ h_=>h_.1));replace HO839:=Az.mk (Kd.N_mono (Kd.N_told (Kd.N_told (Kd.N_old z47_2 hb) (Kd.S_base Ae)) (Kd.S_base Ak)) (fun _ h_=>h_.1));replace Ad:=Az.mk (Kd.R_below (kR Ad.out) hb);replace Ai:=Az.mk (Kd.R_below (kR Ai.out) hb);replace Al:=Az.mk (Kd.N_mono (Kd.N_told (Kd.N_told (Kd.N_old (by(with_reducible repeat(first|apply Kd.N_alloc|apply Kd.N_drewN|apply Kd.N_drew));exact Al.out) hb) (Kd.S_base Ae)) (Kd.S_base Ak)) (fun _ h_=>h_.1));replace As:=Az.mk (Kd.N_mono (Kd.N_told (Kd.N_told (Kd.N_old (by(with_reducible repeat(first|apply Kd.N_alloc|apply Kd.N_drewN|apply Kd.N_drew));exact As.out) hb) (Kd.S_base Ae)) (Kd.S_base Ak)) (fun _ h_=>h_.1));have Am:=Az.mk (Kd.N_lower (Kd.N_mono (ok':=fun _=>True) (Kd.S_N (Kd.S_bound Ae)) (fun _ _=>trivial)) (bwZ bw_47));have Ap:=Az.mk (Kd.N_lower (Kd.N_mono (ok':=fun _=>True) (Kd.S_N (Kd.S_bound Ak)) (fun _ _=>trivial)) (bwZ bw_47));replace HB:=Az.mk (bwT bw_47 hb);(try clear hb);(try clear Ae);(try clear Ak))|((with_reducible refine gtC (f:=14) rfl ?_);refine clz Try.func14 (some 105) #[.slice Bc Aj.length Bd, .slice Bs Aq.length Bt] ?_;(with_reducible refine(jE.calls k _ _ Aj _ _ Aq Cd Ce Bn _ ?Ab ?Ac ?Af ?Ag Hl.out).mono ?_);(case Ab=>exact kC (Kd.N_reads' HO829.out).2.2);(case Ac=>exact(Kd.N_reads' HO829.out).2.1);(case Af=>exact kC (Kd.Q_reads' Aa.out).2.2);(case Ag=>exact(Kd.Q_reads' Aa.out).2.1);rintro e Jf ⟨Io,Ip,rfl,Ae,Ak,hb⟩;refine⟨_,rfl,?_⟩;replace Ae:=Kd.S_N Ae;replace HO829:=Az.mk (Kd.N_mono (Kd.N_told (Kd.N_told (Kd.N_old z47_0 hb) (Kd.N_base Ae)) (Kd.R_base Ak)) (fun _ h_=>h_.1));replace HO834:=Az.mk (Kd.N_mono (Kd.N_told (Kd.N_told (Kd.N_old z47_1 hb) (Kd.N_base Ae)) (Kd.R_base Ak)) (fun _ h_=>h_.1));replace HO839:=Az.mk (Kd.N_mono (Kd.N_told (Kd.N_told (Kd.N_old z47_2 hb) (Kd.N_base Ae)) (Kd.R_base Ak)) (fun _ h_=>h_.1));replace Al:=Az.mk (Kd.N_mono (Kd.N_told (Kd.N_told (Kd.N_old (by(with_reducible repeat(first|apply Kd.N_alloc|apply Kd.N_drewN|apply Kd.N_drew));exact Al.out) hb) (Kd.N_base Ae)) (Kd.R_base Ak)) (fun _ h_=>h_.1));replace As:=Az.mk (Kd.N_mono (Kd.N_told (Kd.N_told (Kd.N_old (by(with_reducible repeat(first|apply Kd.N_alloc|apply Kd.N_drewN|apply Kd.N_drew));exact As.out) hb) (Kd.N_base Ae)) (Kd.R_base Ak)) (fun _ h_=>h_.1));replace Am:=Az.mk (Kd.N_mono (Kd.N_told (Kd.N_told (Kd.N_old (by(with_reducible repeat(first|apply Kd.N_alloc|apply Kd.N_drewN|apply Kd.N_drew));exact Am.out) hb) (Kd.N_base Ae)) (Kd.R_base Ak)) (fun _ h_=>h_.1));replace Ap:=Az.mk (Kd.N_mono (Kd.N_told (Kd.N_told (Kd.N_old (by(with_reducible repeat(first|apply Kd.N_alloc|apply Kd.N_drewN|apply Kd.N_drew));exact Ap.out) hb) (Kd.N_base Ae)) (Kd.R_base Ak)) (fun _ h_=>h_.1));have HO868:=Az.mk (Kd.N_lower (Kd.N_mono (ok':=fun _=>True) Ae (fun _ _=>trivial)) (bwZ bw_47));have Ah:=Az.mk (Kd.R_lower (Kd.R_new' (Kd.R_new' (Kd.R_new' (Kd.R_mono (ok':=fun k_=>True) Ak (fun _ hk_=>trivial)) (Kd.Q_lt (kQ Aa.out))) (Kd.R_lt (kR Ad.out))) (Kd.R_lt (kR Ai.out))) (bwZ bw_47));replace Aa:=Az.mk (Kd.Q_elder' (kQ Aa.out) (Kd.R_base Ak) hb);replace Ad:=Az.mk (Kd.R_elder' (kR Ad.out) (Kd.R_base Ak) hb);replace Ai:=Az.mk (Kd.R_elder' (kR Ai.out) (Kd.R_base Ak) hb);replace HB:=Az.mk (bwT bw_47 hb);(try clear hb);(try clear Ae);(try clear Ak))|((with_reducible refine gtC (f:=15) rfl ?_);refine clz Try.func15 (some 112) #[.slice Bc Aj.length Bd, .slice Bs Aq.length Bt] ?_;(with_reducible refine(jC.calls k _ _ Aj _ _ Aq Cf Cg Bo _ ?Ab ?Ac ?Af ?Ag Hm.out).mono ?_);(case Ab=>exact kC (Kd.N_reads' HO829.out).2.2);(case Ac=>exact(Kd.N_reads' HO829.out).2.1);(case Af=>exact kC (Kd.Q_reads' Aa.out).2.2);(case Ag=>exact(Kd.Q_reads' Aa.out).2.1);rintro e Jg ⟨Iq,Ir,rfl,Ae,Ak,hb⟩;refine⟨_,rfl,?_⟩;replace HO829:=Az.mk (Kd.N_mono (Kd.N_told (Kd.N_told (Kd.N_old z47_0 hb) (Kd.S_base Ae)) (Kd.R_base Ak)) (fun _ h_=>h_.1));replace HO834:=Az.mk (Kd.N_mono (Kd.N_told (Kd.N_told (Kd.N_old z47_1 hb) (Kd.S_base Ae)) (Kd.R_base Ak)) (fun _ h_=>h_.1));replace HO839:=Az.mk (Kd.N_mono (Kd.N_told (Kd.N_told (Kd.N_old z47_2 hb) (Kd.S_base Ae)) (Kd.R_base Ak)) (fun _ h_=>h_.1));replace Al:=Az.mk (Kd.N_mono (Kd.N_told (Kd.N_told (Kd.N_old (by(with_reducible repeat(first|apply Kd.N_alloc|apply Kd.N_drewN|apply Kd.N_drew));exact Al.out) hb) (Kd.S_base Ae)) (Kd.R_base Ak)) (fun _ h_=>h_.1));replace As:=Az.mk (Kd.N_mono (Kd.N_told (Kd.N_told (Kd.N_old (by(with_reducible repeat(first|apply Kd.N_alloc|apply Kd.N_drewN|apply Kd.N_drew));exact As.out) hb) (Kd.S_base Ae)) (Kd.R_base Ak)) (fun _ h_=>h_.1));replace Am:=Az.mk (Kd.N_mono (Kd.N_told (Kd.N_told (Kd.N_old (by(with_reducible repeat(first|apply Kd.N_alloc|apply Kd.N_drewN|apply Kd.N_drew));exact Am.out) hb) (Kd.S_base Ae)) (Kd.R_base Ak)) (fun _ h_=>h_.1));replace Ap:=Az.mk (Kd.N_mono (Kd.N_told (Kd.N_told (Kd.N_old (by(with_reducible repeat(first|apply Kd.N_alloc|apply Kd.N_drewN|apply Kd.N_drew));exact Ap.out) hb) (Kd.S_base Ae)) (Kd.R_base Ak)) (fun _ h_=>h_.1));replace HO868:=Az.mk (Kd.N_mono (Kd.N_told (Kd.N_told (Kd.N_old z47_3 hb) (Kd.S_base Ae)) (Kd.R_base Ak)) (fun _ h_=>h_.1));have Ax:=Az.mk (Kd.N_lower (Kd.N_mono (ok':=fun _=>True) (Kd.S_N (Kd.S_bound Ae)) (fun _ _=>trivial)) (bwZ bw_47));have Ay:=Az.mk (Kd.R_lower (Kd.R_new' (Kd.R_new' (Kd.R_new' (Kd.R_new' Ak (Kd.Q_lt (kQ Aa.out))) (Kd.R_lt (kR Ad.out))) (Kd.R_lt (kR Ai.out))) (Kd.R_lt (kR Ah.out))) (bwZ bw_47));replace Aa:=Az.mk (Kd.Q_elder' (kQ Aa.out) (Kd.R_base Ak) hb);replace Ad:=Az.mk (Kd.R_elder' (kR Ad.out) (Kd.R_base Ak) hb);replace Ai:=Az.mk (Kd.R_elder' (kR Ai.out) (Kd.R_base Ak) hb);replace Ah:=Az.mk (Kd.R_elder' (kR Ah.out) (Kd.R_base Ak) hb);replace HB:=Az.mk (bwT bw_47 hb);(try clear hb);(try clear Ae);(try clear Ak);obtain⟨Dr,Ds,Dt⟩:=Kd.N_slice HO834.out;subst Dt;obtain⟨Du,Dv,Dw⟩:=Kd.N_slice HO839.out;subst Dw))
 (try simp only[List.append_eq,List.cons_append,List.nil_append])
 rename_i Kt at_ K0 a0
 have AT:=Az.mk at_
 clear at_
 go_wp2_with (first|(go_at_call 16;(with_reducible refine(gG.calls k _ _ Bx _ _ By true _ ?Ab ?Ac ?Af ?Ag Hn.out).mono ?_);(case Ab=>exact kC (Kd.N_reads' HO834.out).2.2);(case Ac=>exact(Kd.N_reads' HO834.out).2.1);(case Af=>exact kC (Kd.N_reads' HO839.out).2.2);(case Ag=>exact(Kd.N_reads' HO839.out).2.1);rintro e w' ⟨rfl,⟨nd,rfl⟩⟩;obtain⟨Dx,Dy,Dz⟩:=Kd.R_slice Ad.out;subst Dz;obtain⟨Ea,Eb,Ec⟩:=Kd.R_slice Ai.out;subst Ec)|(go_at_call 17;(with_reducible refine(gB.calls k _ _ Bz _ _ Ca true _ ?Ab ?Ac ?Af ?Ag Ho.out).mono ?_);(case Ab=>exact kC (Kd.R_reads' Ad.out).2.2);(case Ac=>exact(Kd.R_reads' Ad.out).2.1);(case Af=>exact kC (Kd.R_reads' Ai.out).2.2);(case Ag=>exact(Kd.R_reads' Ai.out).2.1);rintro e w' ⟨rfl,⟨nd,rfl⟩⟩;obtain⟨Ed,Ee,Ef⟩:=Kd.N_slice Al.out;subst Ef;obtain⟨Eg,Eh,Ei⟩:=Kd.N_slice As.out;subst Ei)|(go_at_call 16;(with_reducible refine(gG.calls k _ _ Cb _ _ Cc true _ ?Ab ?Ac ?Af ?Ag Hp.out).mono ?_);(case Ab=>exact kC (Kd.N_reads' Al.out).2.2);(case Ac=>exact(Kd.N_reads' Al.out).2.1);(case Af=>exact kC (Kd.N_reads' As.out).2.2);(case Ag=>exact(Kd.N_reads' As.out).2.1);rintro e w' ⟨rfl,⟨nd,rfl⟩⟩;obtain⟨Ej,Ek,El⟩:=Kd.N_slice Am.out;subst El;obtain⟨Em,Eo,Ep⟩:=Kd.N_slice Ap.out;subst Ep)|(go_at_call 18;(with_reducible refine(gZ.calls k _ _ Bv _ _ Bw Bp _ ?Ab ?Ac ?Af ?Ag Hq.out).mono ?_);(case Ab=>exact kC (Kd.N_reads' Am.out).2.2);(case Ac=>exact(Kd.N_reads' Am.out).2.1);(case Af=>exact kC (Kd.N_reads' Ap.out).2.2);(case Ag=>exact(Kd.N_reads' Ap.out).2.1);rintro e Jh ⟨rfl,hb⟩;replace HO829:=Az.mk (Kd.N_below z47_0 hb);replace Aa:=Az.mk (Kd.Q_below (kQ Aa.out) hb);replace HO834:=Az.mk (Kd.N_below z47_1 hb);replace Ad:=Az.mk (Kd.R_below (kR Ad.out) hb);replace Am:=Az.mk (Kd.N_below (by(with_reducible repeat(first|apply Kd.N_alloc|apply Kd.N_drewN|apply Kd.N_drew));exact Am.out) hb);replace Ap:=Az.mk (Kd.N_below (by(with_reducible repeat(first|apply Kd.N_alloc|apply Kd.N_drewN|apply Kd.N_drew));exact Ap.out) hb);replace HO868:=Az.mk (Kd.N_below z47_3 hb);replace Ah:=Az.mk (Kd.R_below (kR Ah.out) hb);replace Ax:=Az.mk (Kd.N_below (by(with_reducible repeat(first|apply Kd.N_alloc|apply Kd.N_drewN|apply Kd.N_drew));exact Ax.out) hb);replace Ay:=Az.mk (Kd.R_below (kR Ay.out) hb);replace HB:=Az.mk (bwT bw_47 hb);(try clear hb))|(go_at_call 19;(with_reducible refine(jO.calls k _ _ Bv _ _ Bw Bq _ ?Ab ?Ac ?Af ?Ag Hr.out).mono ?_);(case Ab=>exact kC (Kd.N_reads' Am.out).2.2);(case Ac=>exact(Kd.N_reads' Am.out).2.1);(case Af=>exact kC (Kd.N_reads' Ap.out).2.2);(case Ag=>exact(Kd.N_reads' Ap.out).2.1);rintro e Ji ⟨rfl,hb⟩;replace HO829:=Az.mk (Kd.N_below z47_0 hb);replace Aa:=Az.mk (Kd.Q_below (kQ Aa.out) hb);replace HO834:=Az.mk (Kd.N_below z47_1 hb);replace Ad:=Az.mk (Kd.R_below (kR Ad.out) hb);replace HO868:=Az.mk (Kd.N_below z47_3 hb);replace Ah:=Az.mk (Kd.R_below (kR Ah.out) hb);replace Ax:=Az.mk (Kd.N_below (by(with_reducible repeat(first|apply Kd.N_alloc|apply Kd.N_drewN|apply Kd.N_drew));exact Ax.out) hb);replace Ay:=Az.mk (Kd.R_below (kR Ay.out) hb);replace HB:=Az.mk (bwT bw_47 hb);(try clear hb);obtain⟨Er,Es,Et⟩:=Kd.N_slice HO868.out;subst Et;obtain⟨Eu,Ev,Ew⟩:=Kd.N_slice Ax.out;subst Ew)|(go_at_call 16;(with_reducible refine(gG.calls k _ _ Cd _ _ Cf true _ ?Ab ?Ac ?Af ?Ag Hs.out).mono ?_);(case Ab=>exact kC (Kd.N_reads' HO868.out).2.2);(case Ac=>exact(Kd.N_reads' HO868.out).2.1);(case Af=>exact kC (Kd.N_reads' Ax.out).2.2);(case Ag=>exact(Kd.N_reads' Ax.out).2.1);rintro e w' ⟨rfl,⟨nd,rfl⟩⟩;obtain⟨Ex,Ey,Ez⟩:=Kd.R_slice Ah.out;subst Ez;obtain⟨Ga,Gb,Gc⟩:=Kd.R_slice Ay.out;subst Gc)|(go_at_call 17;(with_reducible refine(gB.calls k _ _ Ce _ _ Cg true _ ?Ab ?Ac ?Af ?Ag Ht.out).mono ?_);(case Ab=>exact kC (Kd.R_reads' Ah.out).2.2);(case Ac=>exact(Kd.R_reads' Ah.out).2.1);(case Af=>exact kC (Kd.R_reads' Ay.out).2.2);(case Ag=>exact(Kd.R_reads' Ay.out).2.1);rintro e w' ⟨rfl,⟨nd,rfl⟩⟩)|(go_at_call 20;(with_reducible refine(gT.calls k _ _ Aj Au Br _ ?Ab ?Ac Hu.out).mono ?_);(case Ab=>exact kC (Kd.N_reads' HO829.out).2.2);(case Ac=>exact(Kd.N_reads' HO829.out).2.1);rintro e Jj ⟨rfl,hb⟩;replace HO829:=Az.mk (Kd.N_below z47_0 hb);replace Aa:=Az.mk (Kd.Q_below (kQ Aa.out) hb);replace HO834:=Az.mk (Kd.N_below z47_1 hb);replace Ad:=Az.mk (Kd.R_below (kR Ad.out) hb);replace HO868:=Az.mk (Kd.N_below z47_3 hb);replace Ah:=Az.mk (Kd.R_below (kR Ah.out) hb);replace HB:=Az.mk (bwT bw_47 hb);(try clear hb))|(go_at_call 21;(with_reducible refine(fA.calls k _ _ Aj Ch _ ?Ab ?Ac Hv.out).mono ?_);(case Ab=>exact kC (Kd.N_reads' HO829.out).2.2);(case Ac=>exact(Kd.N_reads' HO829.out).2.1);rintro e Jk ⟨It,rfl,Ae,hb⟩;replace HO829:=Az.mk (Kd.N_elder' z47_0 (Kd.S_base Ae) hb);replace Aa:=Az.mk (Kd.Q_below (kQ Aa.out) hb);replace HO834:=Az.mk (Kd.N_elder' z47_1 (Kd.S_base Ae) hb);replace Ad:=Az.mk (Kd.R_below (kR Ad.out) hb);replace HO868:=Az.mk (Kd.N_elder' z47_3 (Kd.S_base Ae) hb);replace Ah:=Az.mk (Kd.R_below (kR Ah.out) hb);have Bb:=Az.mk (Kd.N_lower (Kd.N_mono (ok':=fun _=>True) (Kd.S_N (Kd.S_bound Ae)) (fun _ _=>trivial)) (bwZ bw_47));replace HB:=Az.mk (bwT bw_47 hb);(try clear hb);(try clear Ae))|(go_at_call 22;(with_reducible refine(fD.calls k _ _ Aj Ci _ ?Ab ?Ac Hw.out).mono ?_);(case Ab=>exact kC (Kd.N_reads' HO829.out).2.2);(case Ac=>exact(Kd.N_reads' HO829.out).2.1);rintro e Jl ⟨Iu,rfl,Ae,hb⟩;replace HO829:=Az.mk (Kd.N_elder' z47_0 (Kd.S_base Ae) hb);replace Aa:=Az.mk (Kd.Q_below (kQ Aa.out) hb);replace HO834:=Az.mk (Kd.N_elder' z47_1 (Kd.S_base Ae) hb);replace Ad:=Az.mk (Kd.R_below (kR Ad.out) hb);replace HO868:=Az.mk (Kd.N_elder' z47_3 (Kd.S_base Ae) hb);replace Ah:=Az.mk (Kd.R_below (kR Ah.out) hb);replace Bb:=Az.mk (Kd.N_elder' (by(with_reducible repeat(first|apply Kd.N_alloc|apply Kd.N_drewN|apply Kd.N_drew));exact Bb.out) (Kd.S_base Ae) hb);have Bu:=Az.mk (Kd.N_lower (Kd.N_mono (ok':=fun _=>True) (Kd.S_N (Kd.S_bound Ae)) (fun _ _=>trivial)) (bwZ bw_47));replace HB:=Az.mk (bwT bw_47 hb);(try clear hb);(try clear Ae);obtain⟨Gd,Ge,Gf⟩:=Kd.N_slice Bb.out;subst Gf;obtain⟨Gg,Gh,Gi⟩:=Kd.N_slice Bu.out;subst Gi)|(go_at_call 16;(with_reducible refine(gG.calls k _ _ Ch _ _ Ci true _ ?Ab ?Ac ?Af ?Ag Hx.out).mono ?_);(case Ab=>exact kC (Kd.N_reads' Bb.out).2.2);(case Ac=>exact(Kd.N_reads' Bb.out).2.1);(case Af=>exact kC (Kd.N_reads' Bu.out).2.2);(case Ag=>exact(Kd.N_reads' Bu.out).2.1);rintro e w' ⟨rfl,⟨nd,rfl⟩⟩)|(go_at_call 23;(with_reducible refine(gC.calls k _ _ Aq Cj _ ?Ab ?Ac Hy.out).mono ?_);(case Ab=>exact kC (Kd.Q_reads' Aa.out).2.2);(case Ac=>exact(Kd.Q_reads' Aa.out).2.1);rintro e w' ⟨rfl,⟨nd,rfl⟩⟩)|(go_at_call 24;(with_reducible refine(gK.calls k _ _ Aq Ck _ ?Ab ?Ac Hz.out).mono ?_);(case Ab=>exact kC (Kd.Q_reads' Aa.out).2.2);(case Ac=>exact(Kd.Q_reads' Aa.out).2.1);rintro e w' ⟨rfl,⟨nd,rfl⟩⟩)|(go_at_call 25;(with_reducible refine(gE.calls k _ _ Aj _ _ Aq Cl _ ?Ab ?Ac ?Af ?Ag Ia.out).mono ?_);(case Ab=>exact kC (Kd.N_reads' HO829.out).2.2);(case Ac=>exact(Kd.N_reads' HO829.out).2.1);(case Af=>exact kC (Kd.Q_reads' Aa.out).2.2);(case Ag=>exact(Kd.Q_reads' Aa.out).2.1);rintro e Jm ⟨rfl,hb⟩;replace HO829:=Az.mk (Kd.N_below z47_0 hb);replace Aa:=Az.mk (Kd.Q_below (kQ Aa.out) hb);replace HO834:=Az.mk (Kd.N_below z47_1 hb);replace Ad:=Az.mk (Kd.R_below (kR Ad.out) hb);replace HO868:=Az.mk (Kd.N_below z47_3 hb);replace Ah:=Az.mk (Kd.R_below (kR Ah.out) hb);replace HB:=Az.mk (bwT bw_47 hb);(try clear hb))|(go_at_call 26;(with_reducible refine(gF.calls k _ _ Aj _ _ Aq Cm _ ?Ab ?Ac ?Af ?Ag Ib.out).mono ?_);(case Ab=>exact kC (Kd.N_reads' HO829.out).2.2);(case Ac=>exact(Kd.N_reads' HO829.out).2.1);(case Af=>exact kC (Kd.Q_reads' Aa.out).2.2);(case Ag=>exact(Kd.Q_reads' Aa.out).2.1);rintro e Iv ⟨rfl,hb⟩;replace HO829:=Az.mk (Kd.N_below z47_0 hb);replace Aa:=Az.mk (Kd.Q_below (kQ Aa.out) hb);replace HO834:=Az.mk (Kd.N_below z47_1 hb);replace Ad:=Az.mk (Kd.R_below (kR Ad.out) hb);replace HO868:=Az.mk (Kd.N_below z47_3 hb);replace Ah:=Az.mk (Kd.R_below (kR Ah.out) hb);replace HB:=Az.mk (bwT bw_47 hb);(try clear hb)))
 replace HO829:=Az.mk (Kd.N_mono (ok':=fun _=>True) HO829.out (fun _ _=>trivial))
 replace Aa:=Az.mk (Kd.Q_mono (ok':=fun _=>True) Aa.out (fun _ _=>trivial))
 replace HO834:=Az.mk (Kd.N_mono (ok':=fun _=>True) HO834.out (fun _ _=>trivial))
 replace Ad:=Az.mk (Kd.R_mono (ok':=fun _=>True) Ad.out (fun _ _=>trivial))
 replace HO868:=Az.mk (Kd.N_mono (ok':=fun _=>True) HO868.out (fun _ _=>trivial))
 replace Ah:=Az.mk (Kd.R_mono (ok':=fun _=>True) Ah.out (fun _ _=>trivial))
 exact AT.out _ _ (laws_FnFlips.p16 k A0 c0 l0 r w Aj Aq Au Bx Ba By Bf Bz Bh Ca Bi Bj Bk Cb Bl Cc Bm Bv Bw Cd Ce Bn Cf Cg Bo Bp Bq Br Ch Ci Cj Ck Cl Cm Dn Bc Bd Bs Bt Cn Co Dr Ds Du Dv Dx Dy Ea Eb Ed Ee Eg Eh Ej Ek Em Eo Er Es Eu Ev Ex Ey Ga Gb Gd Ge Gg Gh nd Iv HB HO829 Aa HO834 Ad HO868 Ah)
theorem laws_FnFlips.walk (P:laws_FnFlips.Pure) (a0:Option Addr) (len0 cap0:Nat) (z0:List Int) (w:World) (w0:(a0=none∧len0=0∧cap0=0∧z0=[])∨∃x,a0=some x∧len0≤cap0∧cap0≤maxLen∧z0.length=cap0∧(∀i,i<z0.length→w.cell? (x.add i)=some (.int .u8 (z0.getD i 0)))∧∀n∈z0,(Lit.int .u8 n).wf=true) (y0:len0*1≤140737488351232):
  Calls Try.prog 3 #[.slice a0 len0 cap0] w fun e w'=>e= .returned (.bool true)∧Below w.heap.size w w':=by
 obtain⟨l0,rfl,Aa,hm0,Ab,Ac⟩:=ReadsInt.ofRowC w0
 obtain⟨k,h⟩:=P l0 hm0 y0 Ab
 refine(laws_FnFlips.calls k _ _ l0 true w (Kd.C_of_reads (d:=(0:Int)) (h1:=fun _=>rfl) Aa) Ac h).mono ?_
 rintro e w' ⟨rfl,hd⟩
 exact⟨rfl,hd⟩
end Go.Proofs.Ytemeiocmgbgikaa.P

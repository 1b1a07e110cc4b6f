/- A source of choices: its state is turned by each choice. Printed by vmk.py. -/
import Derived.Test.YthebhlkdppmefaaGreatVmUse
import Derived.Test.YthebhlkdppmefaaGreatVmLib
set_option linter.unusedVariables false
set_option linter.unusedSimpArgs false
set_option linter.unusedSectionVars false
set_option maxRecDepth 4000
set_option maxHeartbeats 4000000
namespace Go.Proofs.YthebhlkdppmefaaGreat
noncomputable section
def f5a(code:List Int)(pos:Int):Int:=if pos<(code.length:Int) then code.getD pos.toNat 0 else 0
def a7e(code:List Int)(pos seed:Int):Int:=IntKind.u64.wrap (IntKind.u64.wrap (IntKind.u64.wrap (seed * 6364136223846793005)+f5a code pos)+1442695040888963407)
def f5b(s:Int):Int:=(((s.fdiv (2 ^ Int.toNat 40)).toNat &&& Int.toNat 255:Nat):Int)
def a7d(code:List Int)(pos seed:Int):Int:=if pos+1≤(code.length:Int) then f5a code pos else f5b (a7e code pos seed)
def a8t(code:List Int):Prop:=∀ i,i<code.length→0≤code.getD i 0∧code.getD i 0≤255
theorem h5k(n:Int):0≤IntKind.u64.wrap n∧IntKind.u64.wrap n≤18446744073709551615:=by
 simp[IntKind.wrap,IntKind.signed,IntKind.bits];omega
theorem i8a:IntKind.u64.min=0:=rfl
theorem i7z:IntKind.u64.max=18446744073709551615:=rfl
theorem i7l(n:Int):a2k .u64 n↔0≤n∧n≤18446744073709551615:=by
 have e1:IntKind.u64.min=0:=by decide
 have e2:IntKind.u64.max=18446744073709551615:=by decide
 show (IntKind.u64.min≤n∧n≤IntKind.u64.max)↔_
 rw[e1,e2]
theorem e6j(code:List Int)(pos seed:Int):0≤a7e code pos seed∧a7e code pos seed≤18446744073709551615:=h5k _
theorem h6u(code:List Int)(pos:Int)(h:a8t code)(h0:0≤pos):0≤f5a code pos∧f5a code pos≤255:=by
 unfold f5a
 split
 ·exact h _ (by omega)
 ·omega
theorem i4t(s:Int):0≤f5b s∧f5b s≤255:=by
 have:(s.fdiv (2 ^ Int.toNat 40)).toNat &&& Int.toNat 255≤255:=Nat.and_le_right
 unfold f5b
 omega
theorem f5y(code:List Int)(pos seed:Int)(h:a8t code)(h0:0≤pos):0≤a7d code pos seed∧a7d code pos seed≤255:=by
 unfold a7d
 split
 ·exact h6u code pos h h0
 ·exact i4t _
theorem h9g(n:Int):0≤(IntKind.u64.wrap n).fdiv (2 ^ (40:Int).toNat)∧(IntKind.u64.wrap n).fdiv (2 ^ (40:Int).toNat)≤18446744073709551615:=by
 have h:=h5k n
 have e:(2:Int) ^ (40:Int).toNat=1099511627776:=by decide
 rw[e,Int.fdiv_eq_ediv_of_nonneg _ (by omega)]
 omega
theorem h3o(n:Nat):n &&& (255:Int).toNat≤255:=Nat.and_le_right
theorem i0s(code:List Int)(pos seed:Int)(h:pos+1≤(code.length:Int)):a7d code pos seed=f5a code pos:=if_pos h
theorem g6q(code:List Int)(pos seed:Int)(h:¬ (pos+1≤(code.length:Int))):a7d code pos seed=f5b (a7e code pos seed):=if_neg h
theorem g6p(code:List Int)(pos:Int)(h:pos<(code.length:Int)):code.getD pos.toNat 0=f5a code pos:=(if_pos h).symm
theorem g6o(code:List Int)(pos:Int)(h:¬ (pos<(code.length:Int))):(0:Int)=f5a code pos:=(if_neg h).symm
theorem i4u(code:List Int)(pos seed:Int)(h1:¬ (pos<(code.length:Int)))(h2:¬ (pos+1≤(code.length:Int))):((((IntKind.u64.wrap ((IntKind.u64.wrap ((IntKind.u64.wrap (seed * (6364136223846793005:Int)))+(0:Int)))+(1442695040888963407:Int))).fdiv (2 ^ (40:Int).toNat)).toNat &&& (255:Int).toNat:Nat):Int)=a7d code pos seed:=by
 have e:=g6o code pos h1
 rw[g6q code pos seed h2,f5b,a7e,←e]
def a9l:SCt:=⟨c2k,[[.d (.slice (.int .u8)), .d (.int .i64), .d (.int .u64)]],[.b 0],[[(.slice (.int .u8)),(.int .i64),(.int .u64)]],fun (code:List Int) (pos:Int) (seed:Int)=>⟨(some (a8t code∧0≤pos∧pos≤1000000000∧code.length≤1000000∧0≤seed∧seed≤18446744073709551615),[⟨(.int .i64),a7d code pos seed⟩],[[⟨(.slice (.int .u8)),code⟩,⟨(.int .i64),pos+1⟩,⟨(.int .u64),a7e code pos seed⟩]])⟩⟩
def c9y(code:List Int)(pos:Int)(seed:Int):Nat→a0p:=fun _ => .none
abbrev c6w(code:List Int)(pos:Int)(seed:Int):Prop:=((code=code∧((pos+(1:Int))=(pos+1)∧(IntKind.u64.wrap ((IntKind.u64.wrap ((IntKind.u64.wrap (seed * (6364136223846793005:Int)))+(code.getD (Int.toNat pos) (0:Int))))+(1442695040888963407:Int)))=(a7e code pos seed)))∧True)
abbrev c6x(code:List Int)(pos:Int)(seed:Int):Prop:=((code=code∧((pos+(1:Int))=(pos+1)∧(IntKind.u64.wrap ((IntKind.u64.wrap ((IntKind.u64.wrap (seed * (6364136223846793005:Int)))+(0:Int)))+(1442695040888963407:Int)))=(a7e code pos seed)))∧True)
theorem e8w(code:List Int)(pos:Int)(seed:Int):awp (a2s [] [] [] [] []) (a0j a7q) (c9y code pos seed) 0 (b1t (a2s [] [] [] [] []) a7q [[.d (.slice (.int .u8)), .d (.int .i64), .d (.int .u64)]] fun r ds=>a1f r [⟨(.int .i64),a7d code pos seed⟩]∧b5l ds [[⟨(.slice (.int .u8)),code⟩,⟨(.int .i64),pos+1⟩,⟨(.int .u64),a7e code pos seed⟩]]) (a3e a7q [.box 0] [[.d (.slice (.int .u8)), .d (.int .i64), .d (.int .u64)]] [[⟨(.slice (.int .u8)),code⟩,⟨(.int .i64),pos⟩,⟨(.int .u64),seed⟩]]) =
 ((a0c pos →
 (code.length≤140737488355328 →
 (a0c ((code.length:Int)) →
 (((decide (pos<((code.length:Int))))=true →
 (code.length≤140737488355328 →
 (a0c pos →
 (a0k pos code.length∧(a0c (code.getD (Int.toNat pos) (0:Int))∧(a0c pos →
 (a0c (pos+(1:Int))∧(a2k .u64 (code.getD (Int.toNat pos) (0:Int))∧(a0c (pos+(1:Int)) →
 (code.length≤140737488355328 →
 (a0c ((code.length:Int)) →
 (((decide ((pos+(1:Int))≤((code.length:Int))))=true →
 ((code.getD (Int.toNat pos) (0:Int))=(a7d code pos seed)∧(c6w code pos seed)))∧((decide ((pos+(1:Int))≤((code.length:Int))))=false →
 (((0:Int)≤(40:Int)∧((40:Int)<(64:Int)∧a2k .u64 ((IntKind.u64.wrap ((IntKind.u64.wrap ((IntKind.u64.wrap (seed * (6364136223846793005:Int)))+(code.getD (Int.toNat pos) (0:Int))))+(1442695040888963407:Int))).fdiv (2 ^ (40:Int).toNat))))∧(((0:Int)≤((IntKind.u64.wrap ((IntKind.u64.wrap ((IntKind.u64.wrap (seed * (6364136223846793005:Int)))+(code.getD (Int.toNat pos) (0:Int))))+(1442695040888963407:Int))).fdiv (2 ^ (40:Int).toNat))∧((0:Int)≤(255:Int)∧(a2k .u64 ((IntKind.u64.wrap ((IntKind.u64.wrap ((IntKind.u64.wrap (seed * (6364136223846793005:Int)))+(code.getD (Int.toNat pos) (0:Int))))+(1442695040888963407:Int))).fdiv (2 ^ (40:Int).toNat))∧a2k .u64 (255:Int))))∧(a0c (((((IntKind.u64.wrap ((IntKind.u64.wrap ((IntKind.u64.wrap (seed * (6364136223846793005:Int)))+(code.getD (Int.toNat pos) (0:Int))))+(1442695040888963407:Int))).fdiv (2 ^ (40:Int).toNat)).toNat &&& (255:Int).toNat:Nat):Int))∧((((((IntKind.u64.wrap ((IntKind.u64.wrap ((IntKind.u64.wrap (seed * (6364136223846793005:Int)))+(code.getD (Int.toNat pos) (0:Int))))+(1442695040888963407:Int))).fdiv (2 ^ (40:Int).toNat)).toNat &&& (255:Int).toNat:Nat):Int))=(a7d code pos seed)∧(c6w code pos seed))))))))))))))))))∧((decide (pos<((code.length:Int))))=false →
 (a0c pos →
 (a0c (pos+(1:Int))∧(a2k .u64 (0:Int)∧(a0c (pos+(1:Int)) →
 (code.length≤140737488355328 →
 (a0c ((code.length:Int)) →
 (((decide ((pos+(1:Int))≤((code.length:Int))))=true →
 ((0:Int)=(a7d code pos seed)∧(c6x code pos seed)))∧((decide ((pos+(1:Int))≤((code.length:Int))))=false →
 (((0:Int)≤(40:Int)∧((40:Int)<(64:Int)∧a2k .u64 ((IntKind.u64.wrap ((IntKind.u64.wrap ((IntKind.u64.wrap (seed * (6364136223846793005:Int)))+(0:Int)))+(1442695040888963407:Int))).fdiv (2 ^ (40:Int).toNat))))∧(((0:Int)≤((IntKind.u64.wrap ((IntKind.u64.wrap ((IntKind.u64.wrap (seed * (6364136223846793005:Int)))+(0:Int)))+(1442695040888963407:Int))).fdiv (2 ^ (40:Int).toNat))∧((0:Int)≤(255:Int)∧(a2k .u64 ((IntKind.u64.wrap ((IntKind.u64.wrap ((IntKind.u64.wrap (seed * (6364136223846793005:Int)))+(0:Int)))+(1442695040888963407:Int))).fdiv (2 ^ (40:Int).toNat))∧a2k .u64 (255:Int))))∧(a0c (((((IntKind.u64.wrap ((IntKind.u64.wrap ((IntKind.u64.wrap (seed * (6364136223846793005:Int)))+(0:Int)))+(1442695040888963407:Int))).fdiv (2 ^ (40:Int).toNat)).toNat &&& (255:Int).toNat:Nat):Int))∧((((((IntKind.u64.wrap ((IntKind.u64.wrap ((IntKind.u64.wrap (seed * (6364136223846793005:Int)))+(0:Int)))+(1442695040888963407:Int))).fdiv (2 ^ (40:Int).toNat)).toNat &&& (255:Int).toNat:Nat):Int))=(a7d code pos seed)∧(c6x code pos seed))))))))))))))))))):=by kernel_rfl
theorem e8b(hE:a0o [])(hO:a5c [])(hM:a5s [])(hS:a5d []):SCt.Good a9l:=by
 refine⟨a0l c9l rfl (by decide),?_⟩
 show ∀ (code:List Int) (pos:Int) (seed:Int),(a8t code∧0≤pos∧pos≤1000000000∧code.length≤1000000∧0≤seed∧seed≤18446744073709551615)→c1o prog c2k [[.d (.slice (.int .u8)), .d (.int .i64), .d (.int .u64)]] [.box 0] [[⟨(.slice (.int .u8)),code⟩,⟨(.int .i64),pos⟩,⟨(.int .u64),seed⟩]] [⟨(.int .i64),a7d code pos seed⟩] [[⟨(.slice (.int .u8)),code⟩,⟨(.int .i64),pos+1⟩,⟨(.int .u64),a7e code pos seed⟩]]
 intro code pos seed hp
 refine b0v (own:=[]) (wr:=[]) (cl:=[]) (ro:=[]) hE hO hM hS c9l e3w (c9y code pos seed) rfl rfl ?_
 rewrite [e8w code pos seed]
 obtain⟨h1,h2,h3,h4,h5,h6⟩:=hp
 have f1:=h6u code pos h1 h2
 have f2:=e6j code pos seed
 refine fun a0=>fun a1=>fun a2=>⟨fun a3=>fun a4=>fun a5=>⟨?_,⟨?_,fun a6=>⟨?_,⟨?_,fun a7=>fun a8=>fun a9=>⟨fun a10=>⟨?_,⟨⟨rfl,⟨?_,?_⟩⟩,trivial⟩⟩,fun a10=>⟨⟨?_,⟨?_,?_⟩⟩,⟨⟨?_,⟨?_,⟨?_,?_⟩⟩⟩,⟨?_,⟨?_,⟨⟨rfl,⟨?_,?_⟩⟩,trivial⟩⟩⟩⟩⟩⟩⟩⟩⟩⟩,fun a3=>fun a4=>⟨?_,⟨?_,fun a5=>fun a6=>fun a7=>⟨fun a8=>⟨?_,⟨⟨rfl,⟨?_,?_⟩⟩,trivial⟩⟩,fun a8=>⟨⟨?_,⟨?_,?_⟩⟩,⟨⟨?_,⟨?_,⟨?_,?_⟩⟩⟩,⟨?_,⟨?_,⟨⟨rfl,⟨?_,?_⟩⟩,trivial⟩⟩⟩⟩⟩⟩⟩⟩⟩
 all_goals try and_intros
 all_goals first|rfl|trivial|omega|(simp only[decide_eq_true_eq,decide_eq_false_iff_not] at *;exact i4u code pos seed (by omega) (by omega))|(simp only[decide_eq_true_eq,decide_eq_false_iff_not,a0k,a0c,i7l,i8a,i7z] at *;first|omega|(rw[g6p code pos (by omega)];omega)|exact h9g _|(have:=h9g;have:=h3o;grind)|(rw[g6p code pos (by omega)];first|omega|rfl|(rw[i0s code pos seed (by omega)];done)|(rw[g6q code pos seed (by omega)];rfl))|(rw[i0s code pos seed (by omega)];exact g6o code pos (by omega))|(unfold a7e;rw[←g6o code pos (by omega)];done)|(rw[g6q code pos seed (by omega)];unfold f5b a7e;rw[←g6o code pos (by omega)];rfl)|(unfold a7e;rw[←g6p code pos (by omega)];done)|(rw[g6q code pos seed (by omega)];unfold f5b a7e;rw[←g6p code pos (by omega)];rfl)|(have:=h3o;constructor<;>first|omega|(refine Int.le_trans (Int.ofNat_le.2 (h3o _)) ?_;omega)))
theorem e2w:SCt.Good a9l:=e8b trivial trivial trivial trivial
def pkX(code:List Int)(pos seed n:Int):Int:=if 200<n then a7d code pos seed * 256+a7d code (pos+1) (a7e code pos seed) else a7d code pos seed
def pkV(code:List Int)(pos seed n:Int):Int:=if n≤1 then 0 else (pkX code pos seed n).tmod n
def pkP(pos n:Int):Int:=if n≤1 then pos else if 200<n then pos+1+1 else pos+1
def pkS(code:List Int)(pos seed n:Int):Int:=if n≤1 then seed else if 200<n then a7e code (pos+1) (a7e code pos seed) else a7e code pos seed
theorem g9q(a n:Int)(h:0≤a)(hn:0<n):0≤a.tmod n∧a.tmod n<n:=by
 rw[Int.tmod_eq_emod_of_nonneg h]
 exact⟨Int.emod_nonneg _ (by omega),Int.emod_lt_of_pos _ hn⟩
theorem i0f(code:List Int)(pos seed n:Int)(h:a8t code)(h0:0≤pos):0≤pkV code pos seed n∧(pkV code pos seed n=0∨pkV code pos seed n<n):=by
 have h1:=f5y code pos seed h h0
 have h2:=f5y code (pos+1) (a7e code pos seed) h (by omega)
 unfold pkV pkX
 split
 ·omega
 ·split
  ·have:=g9q (a7d code pos seed * 256+a7d code (pos+1) (a7e code pos seed)) n (by omega) (by omega);omega
  ·have:=g9q (a7d code pos seed) n (by omega) (by omega);omega
structure Sr where
 pos:Int
 seed:Int
def pkN(code:List Int)(s:Sr)(n:Int):Sr:=⟨pkP s.pos n,pkS code s.pos s.seed n⟩
def pk(code:List Int)(s:Sr)(n:Int):Int:=pkV code s.pos s.seed n
theorem d5p(s:Sr):Sr.mk s.pos s.seed=s:=rfl
theorem i7v(code:List Int)(s:Sr)(n:Int):pk code s n=pkV code s.pos s.seed n:=rfl
theorem i7w(code:List Int)(s:Sr)(n:Int):(pkN code s n).pos=pkP s.pos n:=rfl
theorem i7x(code:List Int)(s:Sr)(n:Int):(pkN code s n).seed=pkS code s.pos s.seed n:=rfl
structure a0z(code:List Int)(s:Sr)(m:Int):Prop where
 c:a8t code
 p:0≤s.pos
 m:s.pos≤m
 l:code.length≤1000000
 s0:0≤s.seed
 s1:s.seed≤18446744073709551615
theorem i6a(code:List Int)(pos seed n:Int)(h:0≤seed∧seed≤18446744073709551615):0≤pkS code pos seed n∧pkS code pos seed n≤18446744073709551615:=by
 unfold pkS
 split
 ·exact h
 ·split
  ·exact e6j _ _ _
  ·exact e6j _ _ _
theorem i5z(pos n:Int):pos≤pkP pos n∧pkP pos n≤pos+2:=by
 unfold pkP
 split
 ·omega
 ·split<;>omega
theorem a0z.next{code:List Int}{s:Sr}{m:Int}(h:a0z code s m)(n:Int):a0z code (pkN code s n) (m+2):=by
 have h1:=i5z s.pos n
 have h2:=i6a code s.pos s.seed n ⟨h.s0,h.s1⟩
 have:=h.p;have:=h.m
 exact⟨h.c,by show 0≤pkP s.pos n;omega,by show pkP s.pos n≤m+2;omega,h.l,h2.1,h2.2⟩
theorem a0z.mono{code:List Int}{s:Sr}{m k:Int}(h:a0z code s m)(hk:m≤k):a0z code s k:=⟨h.c,h.p,by have:=h.m;omega,h.l,h.s0,h.s1⟩
theorem a0z.pk{code:List Int}{s:Sr}{m:Int}(h:a0z code s m)(n:Int):0≤pk code s n∧(pk code s n=0∨pk code s n<n):=i0f code s.pos s.seed n h.c h.p
def a1j:SCt:=⟨c2l,[[.d (.slice (.int .u8)), .d (.int .i64), .d (.int .u64)]],[.b 0, .v (.int .i64)],[[(.slice (.int .u8)),(.int .i64),(.int .u64)]],fun (n:Int) (code:List Int) (pos:Int) (seed:Int)=>⟨(some (a0z code (Sr.mk pos seed) 999999000∧n≤1000000),[⟨(.int .i64),pk code (Sr.mk pos seed) n⟩],[[⟨(.slice (.int .u8)),code⟩,⟨(.int .i64),(pkN code (Sr.mk pos seed) n).pos⟩,⟨(.int .u64),(pkN code (Sr.mk pos seed) n).seed⟩]])⟩⟩
def c9z(n:Int)(code:List Int)(pos:Int)(seed:Int):Nat→a0p:=fun _ => .none
theorem e8x(n:Int)(code:List Int)(pos:Int)(seed:Int):awp (a2s [] [] [] [] [] [] [] [a9l]) (a0j a7r) (c9z n code pos seed) 0 (b1t (a2s [] [] [] [] [] [] [] [a9l]) a7r [[.d (.slice (.int .u8)), .d (.int .i64), .d (.int .u64)]] fun r ds=>a1f r [⟨(.int .i64),pk code (Sr.mk pos seed) n⟩]∧b5l ds [[⟨(.slice (.int .u8)),code⟩,⟨(.int .i64),(pkN code (Sr.mk pos seed) n).pos⟩,⟨(.int .u64),(pkN code (Sr.mk pos seed) n).seed⟩]]) (a3e a7r [.box 0, .val ⟨(.int .i64),n⟩] [[.d (.slice (.int .u8)), .d (.int .i64), .d (.int .u64)]] [[⟨(.slice (.int .u8)),code⟩,⟨(.int .i64),pos⟩,⟨(.int .u64),seed⟩]]) =
 ((((decide (n≤(1:Int)))=true →
 ((0:Int)=(pk code (Sr.mk pos seed) n)∧((code=code∧(pos=((pkN code (Sr.mk pos seed) n).pos)∧seed=((pkN code (Sr.mk pos seed) n).seed)))∧True)))∧((decide (n≤(1:Int)))=false →
 ((a8t code∧0≤pos∧pos≤1000000000∧code.length≤1000000∧0≤seed∧seed≤18446744073709551615)∧(((decide ((200:Int)<n))=true →
 (a0c ((a7d code pos seed) * (256:Int))∧((a8t code∧0≤(pos+1)∧(pos+1)≤1000000000∧code.length≤1000000∧0≤(a7e code pos seed)∧(a7e code pos seed)≤18446744073709551615)∧(a0c (((a7d code pos seed) * (256:Int))+(a7d code (pos+1) (a7e code pos seed)))∧((n≠(0:Int)∧a0c ((((a7d code pos seed) * (256:Int))+(a7d code (pos+1) (a7e code pos seed))).tmod n))∧(((((a7d code pos seed) * (256:Int))+(a7d code (pos+1) (a7e code pos seed))).tmod n)=(pk code (Sr.mk pos seed) n)∧((code=code∧(((pos+1)+1)=((pkN code (Sr.mk pos seed) n).pos)∧(a7e code (pos+1) (a7e code pos seed))=((pkN code (Sr.mk pos seed) n).seed)))∧True)))))))∧((decide ((200:Int)<n))=false →
 ((n≠(0:Int)∧a0c ((a7d code pos seed).tmod n))∧(((a7d code pos seed).tmod n)=(pk code (Sr.mk pos seed) n)∧((code=code∧((pos+1)=((pkN code (Sr.mk pos seed) n).pos)∧(a7e code pos seed)=((pkN code (Sr.mk pos seed) n).seed)))∧True))))))))):=by kernel_rfl
theorem e8c(hE:a0o [])(hO:a5c [])(hM:a5s [])(hS:a5d [a9l]):SCt.Good a1j:=by
 refine⟨a0l c9m rfl (by decide),?_⟩
 show ∀ (n:Int) (code:List Int) (pos:Int) (seed:Int),(a0z code (Sr.mk pos seed) 999999000∧n≤1000000)→c1o prog c2l [[.d (.slice (.int .u8)), .d (.int .i64), .d (.int .u64)]] [.box 0, .val ⟨(.int .i64),n⟩] [[⟨(.slice (.int .u8)),code⟩,⟨(.int .i64),pos⟩,⟨(.int .u64),seed⟩]] [⟨(.int .i64),pk code (Sr.mk pos seed) n⟩] [[⟨(.slice (.int .u8)),code⟩,⟨(.int .i64),(pkN code (Sr.mk pos seed) n).pos⟩,⟨(.int .u64),(pkN code (Sr.mk pos seed) n).seed⟩]]
 intro n code pos seed hp
 refine b0v (own:=[]) (wr:=[]) (cl:=[]) (ro:=[]) hE hO hM hS c9m e3x (c9z n code pos seed) rfl rfl ?_
 rewrite [e8x n code pos seed]
 obtain⟨⟨h1,h2,h3,h4,h5,h6⟩,h7⟩:=hp
 simp only at h2 h3 h5 h6
 have f1:=f5y code pos seed h1 h2
 have f2:=e6j code pos seed
 have f3:=f5y code (pos+1) (a7e code pos seed) h1 (by omega)
 have f4:=e6j code (pos+1) (a7e code pos seed)
 have f5:=i0f code pos seed n h1 h2
 have f6:=fun (a:Int) (h:0≤a) (hn:¬ n≤1)=>g9q a n h (by omega)
 have f7:=fun hn=>f6 (a7d code pos seed) f1.1 hn
 have f8:=fun hn=>f6 (a7d code pos seed * 256+a7d code (pos+1) (a7e code pos seed)) (by omega) hn
 refine⟨fun a0=>⟨?_,⟨⟨rfl,⟨?_,?_⟩⟩,trivial⟩⟩,fun a0=>⟨?_,⟨fun a1=>⟨?_,⟨?_,⟨?_,⟨⟨?_,?_⟩,⟨?_,⟨⟨rfl,⟨?_,?_⟩⟩,trivial⟩⟩⟩⟩⟩⟩,fun a1=>⟨⟨?_,?_⟩,⟨?_,⟨⟨rfl,⟨?_,?_⟩⟩,trivial⟩⟩⟩⟩⟩⟩
 all_goals try and_intros
 all_goals (try simp only[i7v,i7w,i7x]);first|rfl|trivial|omega|(simp only[decide_eq_true_eq,decide_eq_false_iff_not,a0k,a0c] at *;first|omega|(have g7:=f7 (by omega);have g8:=f8 (by omega);clear f6 f7 f8;first|omega|grind [pkV,pkX,pkP,pkS])|grind [pkV,pkX,pkP,pkS])
theorem a3w:SCt.Good a1j:=e8c trivial trivial trivial ⟨e2w,trivial⟩
def a4i(code:List Int)(s:Sr)(n:Int):Bool:=decide (pk code s n=0)
def a3m:SCt:=⟨c4s,[[.d (.slice (.int .u8)), .d (.int .i64), .d (.int .u64)]],[.b 0, .v (.int .i64)],[[(.slice (.int .u8)),(.int .i64),(.int .u64)]],fun (n:Int) (code:List Int) (pos:Int) (seed:Int)=>⟨(some (a0z code (Sr.mk pos seed) 999999000∧n≤1000000),[⟨.bool,a4i code (Sr.mk pos seed) n⟩],[[⟨(.slice (.int .u8)),code⟩,⟨(.int .i64),(pkN code (Sr.mk pos seed) n).pos⟩,⟨(.int .u64),(pkN code (Sr.mk pos seed) n).seed⟩]])⟩⟩
def d3a(n:Int)(code:List Int)(pos:Int)(seed:Int):Nat→a0p:=fun _ => .none
theorem f1q(n:Int)(code:List Int)(pos:Int)(seed:Int):awp (a2s [] [] [] [] [] [] [] [a1j]) (a0j a8x) (d3a n code pos seed) 0 (b1t (a2s [] [] [] [] [] [] [] [a1j]) a8x [[.d (.slice (.int .u8)), .d (.int .i64), .d (.int .u64)]] fun r ds=>a1f r [⟨.bool,a4i code (Sr.mk pos seed) n⟩]∧b5l ds [[⟨(.slice (.int .u8)),code⟩,⟨(.int .i64),(pkN code (Sr.mk pos seed) n).pos⟩,⟨(.int .u64),(pkN code (Sr.mk pos seed) n).seed⟩]]) (a3e a8x [.box 0, .val ⟨(.int .i64),n⟩] [[.d (.slice (.int .u8)), .d (.int .i64), .d (.int .u64)]] [[⟨(.slice (.int .u8)),code⟩,⟨(.int .i64),pos⟩,⟨(.int .u64),seed⟩]]) =
 (((a0z code (Sr.mk pos seed) 999999000∧n≤1000000)∧((decide ((pk code (Sr.mk pos seed) n)=(0:Int)))=(a4i code (Sr.mk pos seed) n)∧((code=code∧(((pkN code (Sr.mk pos seed) n).pos)=((pkN code (Sr.mk pos seed) n).pos)∧((pkN code (Sr.mk pos seed) n).seed)=((pkN code (Sr.mk pos seed) n).seed)))∧True)))):=by kernel_rfl
theorem f1i(hE:a0o [])(hO:a5c [])(hM:a5s [])(hS:a5d [a1j]):SCt.Good a3m:=by
 refine⟨a0l d2g rfl (by decide),?_⟩
 show ∀ (n:Int) (code:List Int) (pos:Int) (seed:Int),(a0z code (Sr.mk pos seed) 999999000∧n≤1000000)→c1o prog c4s [[.d (.slice (.int .u8)), .d (.int .i64), .d (.int .u64)]] [.box 0, .val ⟨(.int .i64),n⟩] [[⟨(.slice (.int .u8)),code⟩,⟨(.int .i64),pos⟩,⟨(.int .u64),seed⟩]] [⟨.bool,a4i code (Sr.mk pos seed) n⟩] [[⟨(.slice (.int .u8)),code⟩,⟨(.int .i64),(pkN code (Sr.mk pos seed) n).pos⟩,⟨(.int .u64),(pkN code (Sr.mk pos seed) n).seed⟩]]
 intro n code pos seed hp
 refine b0v (own:=[]) (wr:=[]) (cl:=[]) (ro:=[]) hE hO hM hS d2g e6y (d3a n code pos seed) rfl rfl ?_
 rewrite [f1q n code pos seed]
 refine⟨?_,⟨?_,⟨⟨rfl,⟨rfl,rfl⟩⟩,trivial⟩⟩⟩
 all_goals try and_intros
 all_goals first|rfl|trivial|omega|(simp only[decide_eq_true_eq,decide_eq_false_iff_not,a0k,a0c,a2k,a8i,a5r,a1p] at *;omega)|(simp[a0k,a0c] at *;omega)|grind
theorem b8r:SCt.Good a3m:=f1i trivial trivial trivial ⟨a3w,trivial⟩
end
end Go.Proofs.YthebhlkdppmefaaGreat

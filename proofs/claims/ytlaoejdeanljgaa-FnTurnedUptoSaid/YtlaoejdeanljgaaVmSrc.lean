/- A source of choices: its state is turned by each choice. Printed by vmk.py. -/
import Derived.Test.YtlaoejdeanljgaaVmUse
import Derived.Test.YtlaoejdeanljgaaVmLib
set_option linter.unusedVariables false
set_option linter.unusedSimpArgs false
set_option linter.unusedSectionVars false
set_option maxRecDepth 4000
set_option maxHeartbeats 4000000
namespace Go.Proofs.Ytlaoejdeanljgaa
noncomputable section
def e3r(code:List Int)(pos:Int):Int:=if pos<(code.length:Int) then code.getD pos.toNat 0 else 0
def a5p(code:List Int)(pos seed:Int):Int:=IntKind.u64.wrap (IntKind.u64.wrap (IntKind.u64.wrap (seed * 6364136223846793005)+e3r code pos)+1442695040888963407)
def e3s(s:Int):Int:=(((s.fdiv (2 ^ Int.toNat 40)).toNat &&& Int.toNat 255:Nat):Int)
def a5o(code:List Int)(pos seed:Int):Int:=if pos+1≤(code.length:Int) then e3r code pos else e3s (a5p code pos seed)
def a6o(code:List Int):Prop:=∀ i,i<code.length→0≤code.getD i 0∧code.getD i 0≤255
theorem g0x(n:Int):0≤IntKind.u64.wrap n∧IntKind.u64.wrap n≤18446744073709551615:=by
 simp[IntKind.wrap,IntKind.signed,IntKind.bits];omega
theorem h1m:IntKind.u64.min=0:=rfl
theorem h1l:IntKind.u64.max=18446744073709551615:=rfl
theorem h0t(n:Int):a2j .u64 n↔0≤n∧n≤18446744073709551615:=by
 have e1:IntKind.u64.min=0:=by decide
 have e2:IntKind.u64.max=18446744073709551615:=by decide
 show (IntKind.u64.min≤n∧n≤IntKind.u64.max)↔_
 rw[e1,e2]
theorem d6q(code:List Int)(pos seed:Int):0≤a5p code pos seed∧a5p code pos seed≤18446744073709551615:=g0x _
theorem g2e(code:List Int)(pos:Int)(h:a6o code)(h0:0≤pos):0≤e3r code pos∧e3r code pos≤255:=by
 unfold e3r
 split
 ·exact h _ (by omega)
 ·omega
theorem g8n(s:Int):0≤e3s s∧e3s s≤255:=by
 have:(s.fdiv (2 ^ Int.toNat 40)).toNat &&& Int.toNat 255≤255:=Nat.and_le_right
 unfold e3s
 omega
theorem e4l(code:List Int)(pos seed:Int)(h:a6o code)(h0:0≤pos):0≤a5o code pos seed∧a5o code pos seed≤255:=by
 unfold a5o
 split
 ·exact g2e code pos h h0
 ·exact g8n _
theorem g4s(n:Int):0≤(IntKind.u64.wrap n).fdiv (2 ^ (40:Int).toNat)∧(IntKind.u64.wrap n).fdiv (2 ^ (40:Int).toNat)≤18446744073709551615:=by
 have h:=g0x n
 have e:(2:Int) ^ (40:Int).toNat=1099511627776:=by decide
 rw[e,Int.fdiv_eq_ediv_of_nonneg _ (by omega)]
 omega
theorem f9h(n:Nat):n &&& (255:Int).toNat≤255:=Nat.and_le_right
theorem g5o(code:List Int)(pos seed:Int)(h:pos+1≤(code.length:Int)):a5o code pos seed=e3r code pos:=if_pos h
theorem f3g(code:List Int)(pos seed:Int)(h:¬ (pos+1≤(code.length:Int))):a5o code pos seed=e3s (a5p code pos seed):=if_neg h
theorem f3f(code:List Int)(pos:Int)(h:pos<(code.length:Int)):code.getD pos.toNat 0=e3r code pos:=(if_pos h).symm
theorem f3e(code:List Int)(pos:Int)(h:¬ (pos<(code.length:Int))):(0:Int)=e3r code pos:=(if_neg h).symm
theorem g8o(code:List Int)(pos seed:Int)(h1:¬ (pos<(code.length:Int)))(h2:¬ (pos+1≤(code.length:Int))):((((IntKind.u64.wrap ((IntKind.u64.wrap ((IntKind.u64.wrap (seed * (6364136223846793005:Int)))+(0:Int)))+(1442695040888963407:Int))).fdiv (2 ^ (40:Int).toNat)).toNat &&& (255:Int).toNat:Nat):Int)=a5o code pos seed:=by
 have e:=f3e code pos h1
 rw[f3g code pos seed h2,e3s,a5p,←e]
def a7f:SCt:=⟨b8i,[[.d (.slice (.int .u8)), .d (.int .i64), .d (.int .u64)]],[.b 0],[[(.slice (.int .u8)),(.int .i64),(.int .u64)]],fun (code:List Int) (pos:Int) (seed:Int)=>⟨(some (a6o code∧0≤pos∧pos≤1000000000∧code.length≤1000000∧0≤seed∧seed≤18446744073709551615),[⟨(.int .i64),a5o code pos seed⟩],[[⟨(.slice (.int .u8)),code⟩,⟨(.int .i64),pos+1⟩,⟨(.int .u64),a5p code pos seed⟩]])⟩⟩
def c3v(code:List Int)(pos:Int)(seed:Int):Nat→a0t:=fun _ => .none
abbrev c1q(code:List Int)(pos:Int)(seed:Int):Prop:=((code=code∧((pos+(1:Int))=(pos+1)∧(IntKind.u64.wrap ((IntKind.u64.wrap ((IntKind.u64.wrap (seed * (6364136223846793005:Int)))+(code.getD (Int.toNat pos) (0:Int))))+(1442695040888963407:Int)))=(a5p code pos seed)))∧True)
abbrev c1r(code:List Int)(pos:Int)(seed:Int):Prop:=((code=code∧((pos+(1:Int))=(pos+1)∧(IntKind.u64.wrap ((IntKind.u64.wrap ((IntKind.u64.wrap (seed * (6364136223846793005:Int)))+(0:Int)))+(1442695040888963407:Int)))=(a5p code pos seed)))∧True)
theorem d8l(code:List Int)(pos:Int)(seed:Int):awp (a2o [] [] [] [] []) (a0i a5s) (c3v code pos seed) 0 (a9b (a2o [] [] [] [] []) a5s [[.d (.slice (.int .u8)), .d (.int .i64), .d (.int .u64)]] fun r ds=>a1e r [⟨(.int .i64),a5o code pos seed⟩]∧b2i ds [[⟨(.slice (.int .u8)),code⟩,⟨(.int .i64),pos+1⟩,⟨(.int .u64),a5p code pos seed⟩]]) (a2x a5s [.box 0] [[.d (.slice (.int .u8)), .d (.int .i64), .d (.int .u64)]] [[⟨(.slice (.int .u8)),code⟩,⟨(.int .i64),pos⟩,⟨(.int .u64),seed⟩]]) =
 ((a0d pos →
 (code.length≤140737488355328 →
 (a0d ((code.length:Int)) →
 (((decide (pos<((code.length:Int))))=true →
 (code.length≤140737488355328 →
 (a0d pos →
 (a0h pos code.length∧(a0d (code.getD (Int.toNat pos) (0:Int))∧(a0d pos →
 (a0d (pos+(1:Int))∧(a2j .u64 (code.getD (Int.toNat pos) (0:Int))∧(a0d (pos+(1:Int)) →
 (code.length≤140737488355328 →
 (a0d ((code.length:Int)) →
 (((decide ((pos+(1:Int))≤((code.length:Int))))=true →
 ((code.getD (Int.toNat pos) (0:Int))=(a5o code pos seed)∧(c1q code pos seed)))∧((decide ((pos+(1:Int))≤((code.length:Int))))=false →
 (((0:Int)≤(40:Int)∧((40:Int)<(64:Int)∧a2j .u64 ((IntKind.u64.wrap ((IntKind.u64.wrap ((IntKind.u64.wrap (seed * (6364136223846793005:Int)))+(code.getD (Int.toNat pos) (0:Int))))+(1442695040888963407:Int))).fdiv (2 ^ (40:Int).toNat))))∧(((0:Int)≤((IntKind.u64.wrap ((IntKind.u64.wrap ((IntKind.u64.wrap (seed * (6364136223846793005:Int)))+(code.getD (Int.toNat pos) (0:Int))))+(1442695040888963407:Int))).fdiv (2 ^ (40:Int).toNat))∧((0:Int)≤(255:Int)∧(a2j .u64 ((IntKind.u64.wrap ((IntKind.u64.wrap ((IntKind.u64.wrap (seed * (6364136223846793005:Int)))+(code.getD (Int.toNat pos) (0:Int))))+(1442695040888963407:Int))).fdiv (2 ^ (40:Int).toNat))∧a2j .u64 (255:Int))))∧(a0d (((((IntKind.u64.wrap ((IntKind.u64.wrap ((IntKind.u64.wrap (seed * (6364136223846793005:Int)))+(code.getD (Int.toNat pos) (0:Int))))+(1442695040888963407:Int))).fdiv (2 ^ (40:Int).toNat)).toNat &&& (255:Int).toNat:Nat):Int))∧((((((IntKind.u64.wrap ((IntKind.u64.wrap ((IntKind.u64.wrap (seed * (6364136223846793005:Int)))+(code.getD (Int.toNat pos) (0:Int))))+(1442695040888963407:Int))).fdiv (2 ^ (40:Int).toNat)).toNat &&& (255:Int).toNat:Nat):Int))=(a5o code pos seed)∧(c1q code pos seed))))))))))))))))))∧((decide (pos<((code.length:Int))))=false →
 (a0d pos →
 (a0d (pos+(1:Int))∧(a2j .u64 (0:Int)∧(a0d (pos+(1:Int)) →
 (code.length≤140737488355328 →
 (a0d ((code.length:Int)) →
 (((decide ((pos+(1:Int))≤((code.length:Int))))=true →
 ((0:Int)=(a5o code pos seed)∧(c1r code pos seed)))∧((decide ((pos+(1:Int))≤((code.length:Int))))=false →
 (((0:Int)≤(40:Int)∧((40:Int)<(64:Int)∧a2j .u64 ((IntKind.u64.wrap ((IntKind.u64.wrap ((IntKind.u64.wrap (seed * (6364136223846793005:Int)))+(0:Int)))+(1442695040888963407:Int))).fdiv (2 ^ (40:Int).toNat))))∧(((0:Int)≤((IntKind.u64.wrap ((IntKind.u64.wrap ((IntKind.u64.wrap (seed * (6364136223846793005:Int)))+(0:Int)))+(1442695040888963407:Int))).fdiv (2 ^ (40:Int).toNat))∧((0:Int)≤(255:Int)∧(a2j .u64 ((IntKind.u64.wrap ((IntKind.u64.wrap ((IntKind.u64.wrap (seed * (6364136223846793005:Int)))+(0:Int)))+(1442695040888963407:Int))).fdiv (2 ^ (40:Int).toNat))∧a2j .u64 (255:Int))))∧(a0d (((((IntKind.u64.wrap ((IntKind.u64.wrap ((IntKind.u64.wrap (seed * (6364136223846793005:Int)))+(0:Int)))+(1442695040888963407:Int))).fdiv (2 ^ (40:Int).toNat)).toNat &&& (255:Int).toNat:Nat):Int))∧((((((IntKind.u64.wrap ((IntKind.u64.wrap ((IntKind.u64.wrap (seed * (6364136223846793005:Int)))+(0:Int)))+(1442695040888963407:Int))).fdiv (2 ^ (40:Int).toNat)).toNat &&& (255:Int).toNat:Nat):Int))=(a5o code pos seed)∧(c1r code pos seed))))))))))))))))))):=by kernel_rfl
theorem d7w(hE:a0p [])(hO:a4f [])(hM:a4x [])(hS:a4p []):SCt.Good a7f:=by
 refine⟨a0j c3p rfl (by decide),?_⟩
 show ∀ (code:List Int) (pos:Int) (seed:Int),(a6o code∧0≤pos∧pos≤1000000000∧code.length≤1000000∧0≤seed∧seed≤18446744073709551615)→b7w prog b8i [[.d (.slice (.int .u8)), .d (.int .i64), .d (.int .u64)]] [.box 0] [[⟨(.slice (.int .u8)),code⟩,⟨(.int .i64),pos⟩,⟨(.int .u64),seed⟩]] [⟨(.int .i64),a5o code pos seed⟩] [[⟨(.slice (.int .u8)),code⟩,⟨(.int .i64),pos+1⟩,⟨(.int .u64),a5p code pos seed⟩]]
 intro code pos seed hp
 refine a7z (own:=[]) (wr:=[]) (cl:=[]) (ro:=[]) hE hO hM hS c3p d4u (c3v code pos seed) rfl rfl ?_
 rewrite [d8l code pos seed]
 obtain⟨h1,h2,h3,h4,h5,h6⟩:=hp
 have f1:=g2e code pos h1 h2
 have f2:=d6q code pos seed
 refine fun a0=>fun a1=>fun a2=>⟨fun a3=>fun a4=>fun a5=>⟨?_,⟨?_,fun a6=>⟨?_,⟨?_,fun a7=>fun a8=>fun a9=>⟨fun a10=>⟨?_,⟨⟨rfl,⟨?_,?_⟩⟩,trivial⟩⟩,fun a10=>⟨⟨?_,⟨?_,?_⟩⟩,⟨⟨?_,⟨?_,⟨?_,?_⟩⟩⟩,⟨?_,⟨?_,⟨⟨rfl,⟨?_,?_⟩⟩,trivial⟩⟩⟩⟩⟩⟩⟩⟩⟩⟩,fun a3=>fun a4=>⟨?_,⟨?_,fun a5=>fun a6=>fun a7=>⟨fun a8=>⟨?_,⟨⟨rfl,⟨?_,?_⟩⟩,trivial⟩⟩,fun a8=>⟨⟨?_,⟨?_,?_⟩⟩,⟨⟨?_,⟨?_,⟨?_,?_⟩⟩⟩,⟨?_,⟨?_,⟨⟨rfl,⟨?_,?_⟩⟩,trivial⟩⟩⟩⟩⟩⟩⟩⟩⟩
 all_goals try and_intros
 all_goals first|rfl|trivial|omega|(simp only[decide_eq_true_eq,decide_eq_false_iff_not] at *;exact g8o code pos seed (by omega) (by omega))|(simp only[decide_eq_true_eq,decide_eq_false_iff_not,a0h,a0d,h0t,h1m,h1l] at *;first|omega|(rw[f3f code pos (by omega)];omega)|exact g4s _|(have:=g4s;have:=f9h;grind)|(rw[f3f code pos (by omega)];first|omega|rfl|(rw[g5o code pos seed (by omega)];done)|(rw[f3g code pos seed (by omega)];rfl))|(rw[g5o code pos seed (by omega)];exact f3e code pos (by omega))|(unfold a5p;rw[←f3e code pos (by omega)];done)|(rw[f3g code pos seed (by omega)];unfold e3s a5p;rw[←f3e code pos (by omega)];rfl)|(unfold a5p;rw[←f3f code pos (by omega)];done)|(rw[f3g code pos seed (by omega)];unfold e3s a5p;rw[←f3f code pos (by omega)];rfl)|(have:=f9h;constructor<;>first|omega|(refine Int.le_trans (Int.ofNat_le.2 (f9h _)) ?_;omega)))
theorem d3x:SCt.Good a7f:=d7w trivial trivial trivial trivial
def pkX(code:List Int)(pos seed n:Int):Int:=if 200<n then a5o code pos seed * 256+a5o code (pos+1) (a5p code pos seed) else a5o code pos seed
def pkV(code:List Int)(pos seed n:Int):Int:=if n≤1 then 0 else (pkX code pos seed n).tmod n
def pkP(pos n:Int):Int:=if n≤1 then pos else if 200<n then pos+1+1 else pos+1
def pkS(code:List Int)(pos seed n:Int):Int:=if n≤1 then seed else if 200<n then a5p code (pos+1) (a5p code pos seed) else a5p code pos seed
theorem f5t(a n:Int)(h:0≤a)(hn:0<n):0≤a.tmod n∧a.tmod n<n:=by
 rw[Int.tmod_eq_emod_of_nonneg h]
 exact⟨Int.emod_nonneg _ (by omega),Int.emod_lt_of_pos _ hn⟩
theorem g5g(code:List Int)(pos seed n:Int)(h:a6o code)(h0:0≤pos):0≤pkV code pos seed n∧(pkV code pos seed n=0∨pkV code pos seed n<n):=by
 have h1:=e4l code pos seed h h0
 have h2:=e4l code (pos+1) (a5p code pos seed) h (by omega)
 unfold pkV pkX
 split
 ·omega
 ·split
  ·have:=f5t (a5o code pos seed * 256+a5o code (pos+1) (a5p code pos seed)) n (by omega) (by omega);omega
  ·have:=f5t (a5o code pos seed) n (by omega) (by omega);omega
structure Sr where
 pos:Int
 seed:Int
def pkN(code:List Int)(s:Sr)(n:Int):Sr:=⟨pkP s.pos n,pkS code s.pos s.seed n⟩
def pk(code:List Int)(s:Sr)(n:Int):Int:=pkV code s.pos s.seed n
theorem c8d(s:Sr):Sr.mk s.pos s.seed=s:=rfl
theorem h1e(code:List Int)(s:Sr)(n:Int):pk code s n=pkV code s.pos s.seed n:=rfl
theorem h1f(code:List Int)(s:Sr)(n:Int):(pkN code s n).pos=pkP s.pos n:=rfl
theorem h1g(code:List Int)(s:Sr)(n:Int):(pkN code s n).seed=pkS code s.pos s.seed n:=rfl
structure a0s(code:List Int)(s:Sr)(m:Int):Prop where
 c:a6o code
 p:0≤s.pos
 m:s.pos≤m
 l:code.length≤1000000
 s0:0≤s.seed
 s1:s.seed≤18446744073709551615
theorem g9p(code:List Int)(pos seed n:Int)(h:0≤seed∧seed≤18446744073709551615):0≤pkS code pos seed n∧pkS code pos seed n≤18446744073709551615:=by
 unfold pkS
 split
 ·exact h
 ·split
  ·exact d6q _ _ _
  ·exact d6q _ _ _
theorem g9o(pos n:Int):pos≤pkP pos n∧pkP pos n≤pos+2:=by
 unfold pkP
 split
 ·omega
 ·split<;>omega
theorem a0s.next{code:List Int}{s:Sr}{m:Int}(h:a0s code s m)(n:Int):a0s code (pkN code s n) (m+2):=by
 have h1:=g9o s.pos n
 have h2:=g9p code s.pos s.seed n ⟨h.s0,h.s1⟩
 have:=h.p;have:=h.m
 exact⟨h.c,by show 0≤pkP s.pos n;omega,by show pkP s.pos n≤m+2;omega,h.l,h2.1,h2.2⟩
theorem a0s.mono{code:List Int}{s:Sr}{m k:Int}(h:a0s code s m)(hk:m≤k):a0s code s k:=⟨h.c,h.p,by have:=h.m;omega,h.l,h.s0,h.s1⟩
theorem a0s.pk{code:List Int}{s:Sr}{m:Int}(h:a0s code s m)(n:Int):0≤pk code s n∧(pk code s n=0∨pk code s n<n):=g5g code s.pos s.seed n h.c h.p
def a1a:SCt:=⟨b8j,[[.d (.slice (.int .u8)), .d (.int .i64), .d (.int .u64)]],[.b 0, .v (.int .i64)],[[(.slice (.int .u8)),(.int .i64),(.int .u64)]],fun (n:Int) (code:List Int) (pos:Int) (seed:Int)=>⟨(some (a0s code (Sr.mk pos seed) 999999000∧n≤1000000),[⟨(.int .i64),pk code (Sr.mk pos seed) n⟩],[[⟨(.slice (.int .u8)),code⟩,⟨(.int .i64),(pkN code (Sr.mk pos seed) n).pos⟩,⟨(.int .u64),(pkN code (Sr.mk pos seed) n).seed⟩]])⟩⟩
def c3w(n:Int)(code:List Int)(pos:Int)(seed:Int):Nat→a0t:=fun _ => .none
theorem d8m(n:Int)(code:List Int)(pos:Int)(seed:Int):awp (a2o [] [] [] [] [] [] [] [a7f]) (a0i a5t) (c3w n code pos seed) 0 (a9b (a2o [] [] [] [] [] [] [] [a7f]) a5t [[.d (.slice (.int .u8)), .d (.int .i64), .d (.int .u64)]] fun r ds=>a1e r [⟨(.int .i64),pk code (Sr.mk pos seed) n⟩]∧b2i ds [[⟨(.slice (.int .u8)),code⟩,⟨(.int .i64),(pkN code (Sr.mk pos seed) n).pos⟩,⟨(.int .u64),(pkN code (Sr.mk pos seed) n).seed⟩]]) (a2x a5t [.box 0, .val ⟨(.int .i64),n⟩] [[.d (.slice (.int .u8)), .d (.int .i64), .d (.int .u64)]] [[⟨(.slice (.int .u8)),code⟩,⟨(.int .i64),pos⟩,⟨(.int .u64),seed⟩]]) =
 ((((decide (n≤(1:Int)))=true →
 ((0:Int)=(pk code (Sr.mk pos seed) n)∧((code=code∧(pos=((pkN code (Sr.mk pos seed) n).pos)∧seed=((pkN code (Sr.mk pos seed) n).seed)))∧True)))∧((decide (n≤(1:Int)))=false →
 ((a6o code∧0≤pos∧pos≤1000000000∧code.length≤1000000∧0≤seed∧seed≤18446744073709551615)∧(((decide ((200:Int)<n))=true →
 (a0d ((a5o code pos seed) * (256:Int))∧((a6o code∧0≤(pos+1)∧(pos+1)≤1000000000∧code.length≤1000000∧0≤(a5p code pos seed)∧(a5p code pos seed)≤18446744073709551615)∧(a0d (((a5o code pos seed) * (256:Int))+(a5o code (pos+1) (a5p code pos seed)))∧((n≠(0:Int)∧a0d ((((a5o code pos seed) * (256:Int))+(a5o code (pos+1) (a5p code pos seed))).tmod n))∧(((((a5o code pos seed) * (256:Int))+(a5o code (pos+1) (a5p code pos seed))).tmod n)=(pk code (Sr.mk pos seed) n)∧((code=code∧(((pos+1)+1)=((pkN code (Sr.mk pos seed) n).pos)∧(a5p code (pos+1) (a5p code pos seed))=((pkN code (Sr.mk pos seed) n).seed)))∧True)))))))∧((decide ((200:Int)<n))=false →
 ((n≠(0:Int)∧a0d ((a5o code pos seed).tmod n))∧(((a5o code pos seed).tmod n)=(pk code (Sr.mk pos seed) n)∧((code=code∧((pos+1)=((pkN code (Sr.mk pos seed) n).pos)∧(a5p code pos seed)=((pkN code (Sr.mk pos seed) n).seed)))∧True))))))))):=by kernel_rfl
theorem d7x(hE:a0p [])(hO:a4f [])(hM:a4x [])(hS:a4p [a7f]):SCt.Good a1a:=by
 refine⟨a0j c3q rfl (by decide),?_⟩
 show ∀ (n:Int) (code:List Int) (pos:Int) (seed:Int),(a0s code (Sr.mk pos seed) 999999000∧n≤1000000)→b7w prog b8j [[.d (.slice (.int .u8)), .d (.int .i64), .d (.int .u64)]] [.box 0, .val ⟨(.int .i64),n⟩] [[⟨(.slice (.int .u8)),code⟩,⟨(.int .i64),pos⟩,⟨(.int .u64),seed⟩]] [⟨(.int .i64),pk code (Sr.mk pos seed) n⟩] [[⟨(.slice (.int .u8)),code⟩,⟨(.int .i64),(pkN code (Sr.mk pos seed) n).pos⟩,⟨(.int .u64),(pkN code (Sr.mk pos seed) n).seed⟩]]
 intro n code pos seed hp
 refine a7z (own:=[]) (wr:=[]) (cl:=[]) (ro:=[]) hE hO hM hS c3q d4v (c3w n code pos seed) rfl rfl ?_
 rewrite [d8m n code pos seed]
 obtain⟨⟨h1,h2,h3,h4,h5,h6⟩,h7⟩:=hp
 simp only at h2 h3 h5 h6
 have f1:=e4l code pos seed h1 h2
 have f2:=d6q code pos seed
 have f3:=e4l code (pos+1) (a5p code pos seed) h1 (by omega)
 have f4:=d6q code (pos+1) (a5p code pos seed)
 have f5:=g5g code pos seed n h1 h2
 have f6:=fun (a:Int) (h:0≤a) (hn:¬ n≤1)=>f5t a n h (by omega)
 have f7:=fun hn=>f6 (a5o code pos seed) f1.1 hn
 have f8:=fun hn=>f6 (a5o code pos seed * 256+a5o code (pos+1) (a5p code pos seed)) (by omega) hn
 refine⟨fun a0=>⟨?_,⟨⟨rfl,⟨?_,?_⟩⟩,trivial⟩⟩,fun a0=>⟨?_,⟨fun a1=>⟨?_,⟨?_,⟨?_,⟨⟨?_,?_⟩,⟨?_,⟨⟨rfl,⟨?_,?_⟩⟩,trivial⟩⟩⟩⟩⟩⟩,fun a1=>⟨⟨?_,?_⟩,⟨?_,⟨⟨rfl,⟨?_,?_⟩⟩,trivial⟩⟩⟩⟩⟩⟩
 all_goals try and_intros
 all_goals (try simp only[h1e,h1f,h1g]);first|rfl|trivial|omega|(simp only[decide_eq_true_eq,decide_eq_false_iff_not,a0h,a0d] at *;first|omega|(have g7:=f7 (by omega);have g8:=f8 (by omega);clear f6 f7 f8;first|omega|grind [pkV,pkX,pkP,pkS])|grind [pkV,pkX,pkP,pkS])
theorem a3u:SCt.Good a1a:=d7x trivial trivial trivial ⟨d3x,trivial⟩
def a2t(code:List Int)(s:Sr)(n:Int):Bool:=decide (pk code s n=0)
def a1z:SCt:=⟨c0a,[[.d (.slice (.int .u8)), .d (.int .i64), .d (.int .u64)]],[.b 0, .v (.int .i64)],[[(.slice (.int .u8)),(.int .i64),(.int .u64)]],fun (n:Int) (code:List Int) (pos:Int) (seed:Int)=>⟨(some (a0s code (Sr.mk pos seed) 999999000∧n≤1000000),[⟨.bool,a2t code (Sr.mk pos seed) n⟩],[[⟨(.slice (.int .u8)),code⟩,⟨(.int .i64),(pkN code (Sr.mk pos seed) n).pos⟩,⟨(.int .u64),(pkN code (Sr.mk pos seed) n).seed⟩]])⟩⟩
def c6b(n:Int)(code:List Int)(pos:Int)(seed:Int):Nat→a0t:=fun _ => .none
theorem e0r(n:Int)(code:List Int)(pos:Int)(seed:Int):awp (a2o [] [] [] [] [] [] [] [a1a]) (a0i a6p) (c6b n code pos seed) 0 (a9b (a2o [] [] [] [] [] [] [] [a1a]) a6p [[.d (.slice (.int .u8)), .d (.int .i64), .d (.int .u64)]] fun r ds=>a1e r [⟨.bool,a2t code (Sr.mk pos seed) n⟩]∧b2i ds [[⟨(.slice (.int .u8)),code⟩,⟨(.int .i64),(pkN code (Sr.mk pos seed) n).pos⟩,⟨(.int .u64),(pkN code (Sr.mk pos seed) n).seed⟩]]) (a2x a6p [.box 0, .val ⟨(.int .i64),n⟩] [[.d (.slice (.int .u8)), .d (.int .i64), .d (.int .u64)]] [[⟨(.slice (.int .u8)),code⟩,⟨(.int .i64),pos⟩,⟨(.int .u64),seed⟩]]) =
 (((a0s code (Sr.mk pos seed) 999999000∧n≤1000000)∧((decide ((pk code (Sr.mk pos seed) n)=(0:Int)))=(a2t code (Sr.mk pos seed) n)∧((code=code∧(((pkN code (Sr.mk pos seed) n).pos)=((pkN code (Sr.mk pos seed) n).pos)∧((pkN code (Sr.mk pos seed) n).seed)=((pkN code (Sr.mk pos seed) n).seed)))∧True)))):=by kernel_rfl
theorem e0k(hE:a0p [])(hO:a4f [])(hM:a4x [])(hS:a4p [a1a]):SCt.Good a1z:=by
 refine⟨a0j c5h rfl (by decide),?_⟩
 show ∀ (n:Int) (code:List Int) (pos:Int) (seed:Int),(a0s code (Sr.mk pos seed) 999999000∧n≤1000000)→b7w prog c0a [[.d (.slice (.int .u8)), .d (.int .i64), .d (.int .u64)]] [.box 0, .val ⟨(.int .i64),n⟩] [[⟨(.slice (.int .u8)),code⟩,⟨(.int .i64),pos⟩,⟨(.int .u64),seed⟩]] [⟨.bool,a2t code (Sr.mk pos seed) n⟩] [[⟨(.slice (.int .u8)),code⟩,⟨(.int .i64),(pkN code (Sr.mk pos seed) n).pos⟩,⟨(.int .u64),(pkN code (Sr.mk pos seed) n).seed⟩]]
 intro n code pos seed hp
 refine a7z (own:=[]) (wr:=[]) (cl:=[]) (ro:=[]) hE hO hM hS c5h d7a (c6b n code pos seed) rfl rfl ?_
 rewrite [e0r n code pos seed]
 refine⟨?_,⟨?_,⟨⟨rfl,⟨rfl,rfl⟩⟩,trivial⟩⟩⟩
 all_goals try and_intros
 all_goals first|rfl|trivial|omega|(simp only[decide_eq_true_eq,decide_eq_false_iff_not,a0h,a0d,a2j,a4q,a4a,a2p] at *;omega)|(simp[a0h,a0d] at *;omega)|grind
theorem a6d:SCt.Good a1z:=e0k trivial trivial trivial ⟨a3u,trivial⟩
end
end Go.Proofs.Ytlaoejdeanljgaa

/- Gen3, Gen4. -/
import Derived.Test.YthebhlkdppmefaaGreatVmUse
import Derived.Test.YthebhlkdppmefaaGreatVmLib
import Derived.Test.YthebhlkdppmefaaGreatVmValid
import Derived.Test.YthebhlkdppmefaaGreatVmProg
import Derived.Test.YthebhlkdppmefaaGreatVmPrem
import Derived.Test.YthebhlkdppmefaaGreatVmSrc
import Derived.Test.YthebhlkdppmefaaGreatVmGen2
import Derived.Test.YthebhlkdppmefaaGreatVmSz
import Derived.Test.YthebhlkdppmefaaGreatVmBld2
import Derived.Test.YthebhlkdppmefaaGreatVmBld3
import Derived.Test.YthebhlkdppmefaaGreatVmCond3
import Derived.Test.YthebhlkdppmefaaGreatVmFrom5
import Derived.Test.YthebhlkdppmefaaGreatVmUnder2
set_option linter.unusedVariables false
set_option linter.unusedSimpArgs false
set_option linter.unusedSectionVars false
set_option maxRecDepth 4000
set_option maxHeartbeats 4000000
namespace Go.Proofs.YthebhlkdppmefaaGreat
noncomputable section
def cdA(code:List Int)(t:Int)(s:Sr):Bool:=decide (0<t) && !a4i code s 3
def cd1(code:List Int)(t:Int)(s:Sr):Sr:=if 0<t then pkN code s 3 else s
def cdT(code:List Int)(t:Int)(s:Sr):a0b:=a0b.mk 3 (pk code (cd1 code t s) t) []
def cdB(code:List Int)(t:Int)(s:Sr):Bool:=a4i code (pkN code (cd1 code t s) t) 3
def cdX(code:List Int)(t a:Int)(s:Sr):Gn:=exG code t a 3 true (cd1 code t s) 5
def cdE(code:List Int)(t a:Int)(s:Sr):a0b:=if cdA code t s=true then (if cdB code t s=true then a0b.mk 5 0 [cdT code t s] else cdT code t s) else (cdX code t a s).e
def cdN(code:List Int)(t a:Int)(s:Sr):Sr:=if cdA code t s=true then pkN code (pkN code (cd1 code t s) t) 3 else (cdX code t a s).s
theorem i5k(code:List Int)(t a:Int)(s:Sr)(h:cdA code t s=true)(h2:cdB code t s=true):cdE code t a s=a0b.mk 5 0 [cdT code t s]∧cdN code t a s=pkN code (pkN code (cd1 code t s) t) 3:=by
 simp only[cdE,cdN,if_pos h,if_pos h2,and_self]
theorem i5l(code:List Int)(t a:Int)(s:Sr)(h:cdA code t s=true)(h2:cdB code t s=false):cdE code t a s=cdT code t s∧cdN code t a s=pkN code (pkN code (cd1 code t s) t) 3:=by
 simp only[cdE,cdN,if_pos h,h2,and_true];rfl
theorem i1l(code:List Int)(t a:Int)(s:Sr)(h:cdA code t s=false):cdE code t a s=(cdX code t a s).e∧cdN code t a s=(cdX code t a s).s:=by
 simp only[cdE,cdN,h,Bool.false_eq_true,if_false,and_self]
theorem i5j(code:List Int)(t m:Int)(s:Sr)(h:a0z code s m):a0z code (cd1 code t s) (m+2):=by
 unfold cd1;split
 ·exact h.next 3
 ·exact h.mono (by omega)
structure h3h(code:List Int)(t a m:Int)(e:a0b)(s:Sr):Prop where
 tr:a1q (t - 1) (a - 1) e=true
 cn:a1l e=true
 nd:a1d e≤15
 dp:a1n e≤4
 sr:a0z code s m
theorem d1v(code:List Int)(t a m:Int)(s:Sr)(ht:0≤t∧t≤3)(ha:0≤a∧a≤4)(h:a0z code s m):h3h code t a (m+250) (cdE code t a s) (cdN code t a s):=by
 have h1:=i5j code t m s h
 have hp:=h1.pk t
 have h3:a0z code (pkN code (pkN code (cd1 code t s) t) 3) (m+250):=((h1.next t).next 3).mono (by omega)
 have hx:=f5p code t a ht ha 3 true (cd1 code t s) (m+2) 5 h1
 have hw:wG 3=15:=rfl
 have key:cdA code t s=true→a1q (t - 1) (a - 1) (cdT code t s)=true∧a1l (cdT code t s)=true:=fun q=>by
  have q1:0<t:=of_decide_eq_true (Bool.and_eq_true_iff.1 q).1
  refine⟨e7n _ _ 3 _ (by decide) (by decide) ?_,rfl⟩
  rw[if_pos rfl];omega
 cases q:cdA code t s
 ·obtain⟨e1,e2⟩:=i1l code t a s q
  rw[e1,e2]
  have e3:exG code t a 3 true (cd1 code t s) 5=cdX code t a s:=rfl
  rw[e3] at hx
  have n1:=hx.nd
  have n2:=hx.dp
  exact⟨hx.tr,hx.cn rfl,by omega,by omega,hx.sr.mono (by omega)⟩
 ·obtain⟨k1,k2⟩:=key q
  cases q2:cdB code t s
  ·obtain⟨e1,e2⟩:=i5l code t a s q q2
   rw[e1,e2]
   exact⟨k1,k2,by simp[cdT,a1d,a8z],by simp[cdT,a1n,a9p],h3⟩
  ·obtain⟨e1,e2⟩:=i5k code t a s q q2
   rw[e1,e2]
   refine⟨g2i _ _ _ 5 k1 (.inl ⟨rfl,k2⟩),?_,by simp[cdT,a1d,a8z],by simp[cdT,a1n,a9p],h3⟩
   simp[a1l,c7x,k2,c5n]
theorem h3h.isC{code:List Int}{gg:a0h}{m:Int}{e:a0b}{s:Sr}(h:h3h code gg.tests gg.actions m e s)(hs:a1i gg=true):isC gg e=true:=by
 have hg:=(a4l gg).1 hs
 have h1:=h.tr
 have h2:=h.nd
 have h3:=h.dp
 unfold Go.Proofs.YthebhlkdppmefaaGreat.isC
 rw[Bool.and_eq_true,e4l,c7p _ (by omega),c7p _ (by omega)]
 exact⟨⟨h1,by omega,by omega⟩,h.cn⟩
theorem h3h.sz{code:List Int}{t a m:Int}{e:a0b}{s:Sr}(h:h3h code t a m e s):a2m e≤14:=by
 have:=g2h e
 have:=h.nd
 omega
theorem h3a(code:List Int)(t a:Int)(s:Sr)(h:0<t)(h2:a4i code s 3=false)(h3:a4i code (pkN code (pkN code s 3) t) 3=true):cdE code t a s=a0b.mk 5 0 [a0b.mk 3 (pk code (pkN code s 3) t) []]∧cdN code t a s=pkN code (pkN code (pkN code s 3) t) 3:=by
 have q1:cd1 code t s=pkN code s 3:=if_pos h
 have:=i5k code t a s (by simp[cdA,h,h2]) (by rw[cdB,q1];exact h3)
 rwa [cdT,q1] at this
theorem h3b(code:List Int)(t a:Int)(s:Sr)(h:0<t)(h2:a4i code s 3=false)(h3:a4i code (pkN code (pkN code s 3) t) 3=false):cdE code t a s=a0b.mk 3 (pk code (pkN code s 3) t) []∧cdN code t a s=pkN code (pkN code (pkN code s 3) t) 3:=by
 have q1:cd1 code t s=pkN code s 3:=if_pos h
 have:=i5l code t a s (by simp[cdA,h,h2]) (by rw[cdB,q1];exact h3)
 rwa [cdT,q1] at this
theorem h3c(code:List Int)(t a:Int)(s:Sr)(h:0<t)(h2:a4i code s 3=true):cdE code t a s=(exG code t a 3 true (pkN code s 3) 5).e∧cdN code t a s=(exG code t a 3 true (pkN code s 3) 5).s:=by
 have q1:cd1 code t s=pkN code s 3:=if_pos h
 have:=i1l code t a s (by simp[cdA,h2])
 rwa [cdX,q1] at this
theorem h3d(code:List Int)(t a:Int)(s:Sr)(h:¬ 0<t):cdE code t a s=(exG code t a 3 true s 5).e∧cdN code t a s=(exG code t a 3 true s 5).s:=by
 have q1:cd1 code t s=s:=if_neg h
 have:=i1l code t a s (by simp[cdA,h])
 rwa [cdX,q1] at this
theorem i4w(k n:Int):a2m (a0b.mk k n [])≤1048576:=by simp[a2m,c2u]
def a4o:SCt:=⟨c2o,[[.p 1, .d (.int .i64), .d (.int .i64), .d (.int .i64)],[.d (.slice (.int .u8)), .d (.int .i64), .d (.int .u64)]],[.b 0],[[(.int .i64),(.int .i64),(.int .i64)],[(.slice (.int .u8)),(.int .i64),(.int .u64)]],fun (tn:Int) (an:Int) (left:Int) (code:List Int) (pos:Int) (seed:Int)=>⟨(some (a0z code (Sr.mk pos seed) 970000000∧(0≤tn∧tn≤3)∧(0≤an∧an≤4)),[⟨(.st .expr),cdE code tn an (Sr.mk pos seed)⟩],[[⟨(.int .i64),tn⟩,⟨(.int .i64),an⟩,⟨(.int .i64),left⟩],[⟨(.slice (.int .u8)),code⟩,⟨(.int .i64),(cdN code tn an (Sr.mk pos seed)).pos⟩,⟨(.int .u64),(cdN code tn an (Sr.mk pos seed)).seed⟩]])⟩⟩
def d0c(tn:Int)(an:Int)(left:Int)(code:List Int)(pos:Int)(seed:Int):Nat→a0p:=fun _ => .none
abbrev c7e(tn:Int)(an:Int)(left:Int)(code:List Int)(pos:Int)(seed:Int):Prop:=((tn=tn∧(an=an∧left=left))∧((code=code∧(((pkN code (pkN code (pkN code (Sr.mk pos seed) (3:Int)) tn) (3:Int)).pos)=((cdN code tn an (Sr.mk pos seed)).pos)∧((pkN code (pkN code (pkN code (Sr.mk pos seed) (3:Int)) tn) (3:Int)).seed)=((cdN code tn an (Sr.mk pos seed)).seed)))∧True))
abbrev c7f(tn:Int)(an:Int)(left:Int)(code:List Int)(pos:Int)(seed:Int):Prop:=((tn=tn∧(an=an∧left=left))∧((code=code∧(((pkN code (pkN code (Sr.mk pos seed) tn) (3:Int)).pos)=((cdN code tn an (Sr.mk pos seed)).pos)∧((pkN code (pkN code (Sr.mk pos seed) tn) (3:Int)).seed)=((cdN code tn an (Sr.mk pos seed)).seed)))∧True))
theorem e9a(tn:Int)(an:Int)(left:Int)(code:List Int)(pos:Int)(seed:Int):awp (a2s [] [a6j] [] [28,36,49] [] [] [] [a3m,a1j,b4d]) (a0j a7v) (d0c tn an left code pos seed) 0 (b1t (a2s [] [a6j] [] [28,36,49] [] [] [] [a3m,a1j,b4d]) a7v [[.p 1, .d (.int .i64), .d (.int .i64), .d (.int .i64)],[.d (.slice (.int .u8)), .d (.int .i64), .d (.int .u64)]] fun r ds=>a1f r [⟨(.st .expr),cdE code tn an (Sr.mk pos seed)⟩]∧b5l ds [[⟨(.int .i64),tn⟩,⟨(.int .i64),an⟩,⟨(.int .i64),left⟩],[⟨(.slice (.int .u8)),code⟩,⟨(.int .i64),(cdN code tn an (Sr.mk pos seed)).pos⟩,⟨(.int .u64),(cdN code tn an (Sr.mk pos seed)).seed⟩]]) (a3e a7v [.box 0] [[.p 1, .d (.int .i64), .d (.int .i64), .d (.int .i64)],[.d (.slice (.int .u8)), .d (.int .i64), .d (.int .u64)]] [[⟨(.int .i64),tn⟩,⟨(.int .i64),an⟩,⟨(.int .i64),left⟩],[⟨(.slice (.int .u8)),code⟩,⟨(.int .i64),pos⟩,⟨(.int .u64),seed⟩]]) =
 ((a0c tn →
 (((decide ((0:Int)<tn))=true →
 ((a0z code (Sr.mk pos seed) 999999000∧(3:Int)≤1000000)∧(((!(a4i code (Sr.mk pos seed) (3:Int)))=true →
 (a0c tn →
 (((400000:Nat)=400000∧(0:Nat)=0)∧(((400000:Nat)=400000∧(0:Nat)=0)∧(((400000:Nat)=400000∧(0:Nat)=0)∧(((400001:Nat)=400001∧(0:Nat)=0)∧(((400000:Nat)=400000∧(0:Nat)=0)∧(((400000:Nat)=400000∧(0:Nat)=0)∧(((400000:Nat)=400000∧(1:Nat)=1)∧(((400000:Nat)=400000∧(1:Nat)=1)∧(tn=tn∧((a0z code (pkN code (Sr.mk pos seed) (3:Int)) 999999000∧tn≤1000000)∧((a0z code (pkN code (pkN code (Sr.mk pos seed) (3:Int)) tn) 999999000∧(3:Int)≤1000000)∧(((a4i code (pkN code (pkN code (Sr.mk pos seed) (3:Int)) tn) (3:Int))=true →
 (a2m (a0b.mk (3:Int) (pk code (pkN code (Sr.mk pos seed) (3:Int)) tn) [])≤1048576∧((a0n (a0b.mk 5 0 [(a0b.mk (3:Int) (pk code (pkN code (Sr.mk pos seed) (3:Int)) tn) [])]))=(cdE code tn an (Sr.mk pos seed))∧(c7e tn an left code pos seed))))∧((a4i code (pkN code (pkN code (Sr.mk pos seed) (3:Int)) tn) (3:Int))=false →
 ((a0b.mk (3:Int) (pk code (pkN code (Sr.mk pos seed) (3:Int)) tn) [])=(cdE code tn an (Sr.mk pos seed))∧(c7e tn an left code pos seed)))))))))))))))))∧((!(a4i code (Sr.mk pos seed) (3:Int)))=false →
 ((a0z code (pkN code (Sr.mk pos seed) (3:Int)) (980000000 - 16 * (wG (3:Int).toNat:Int))∧(0≤tn∧tn≤3)∧(0≤an∧an≤4)∧(3:Int)≤10 ∧ -1000000+(wG (3:Int).toNat:Int)≤(5:Int)∧(5:Int)≤1000000)∧((a0n ((exG code tn an (3:Int).toNat true (pkN code (Sr.mk pos seed) (3:Int)) (5:Int)).e))=(cdE code tn an (Sr.mk pos seed))∧((tn=tn∧(an=an∧left=left))∧((code=code∧(((exG code tn an (3:Int).toNat true (pkN code (Sr.mk pos seed) (3:Int)) (5:Int)).s.pos)=((cdN code tn an (Sr.mk pos seed)).pos)∧((exG code tn an (3:Int).toNat true (pkN code (Sr.mk pos seed) (3:Int)) (5:Int)).s.seed)=((cdN code tn an (Sr.mk pos seed)).seed)))∧True))))))))∧((decide ((0:Int)<tn))=(!true) →
 ((false=true →
 (a0c tn →
 (((400000:Nat)=400000∧(0:Nat)=0)∧(((400000:Nat)=400000∧(0:Nat)=0)∧(((400000:Nat)=400000∧(0:Nat)=0)∧(((400001:Nat)=400001∧(0:Nat)=0)∧(((400000:Nat)=400000∧(0:Nat)=0)∧(((400000:Nat)=400000∧(0:Nat)=0)∧(((400000:Nat)=400000∧(1:Nat)=1)∧(((400000:Nat)=400000∧(1:Nat)=1)∧(tn=tn∧((a0z code (Sr.mk pos seed) 999999000∧tn≤1000000)∧((a0z code (pkN code (Sr.mk pos seed) tn) 999999000∧(3:Int)≤1000000)∧(((a4i code (pkN code (Sr.mk pos seed) tn) (3:Int))=true →
 (a2m (a0b.mk (3:Int) (pk code (Sr.mk pos seed) tn) [])≤1048576∧((a0n (a0b.mk 5 0 [(a0b.mk (3:Int) (pk code (Sr.mk pos seed) tn) [])]))=(cdE code tn an (Sr.mk pos seed))∧(c7f tn an left code pos seed))))∧((a4i code (pkN code (Sr.mk pos seed) tn) (3:Int))=false →
 ((a0b.mk (3:Int) (pk code (Sr.mk pos seed) tn) [])=(cdE code tn an (Sr.mk pos seed))∧(c7f tn an left code pos seed)))))))))))))))))∧(false=false →
 ((a0z code (Sr.mk pos seed) (980000000 - 16 * (wG (3:Int).toNat:Int))∧(0≤tn∧tn≤3)∧(0≤an∧an≤4)∧(3:Int)≤10 ∧ -1000000+(wG (3:Int).toNat:Int)≤(5:Int)∧(5:Int)≤1000000)∧((a0n ((exG code tn an (3:Int).toNat true (Sr.mk pos seed) (5:Int)).e))=(cdE code tn an (Sr.mk pos seed))∧((tn=tn∧(an=an∧left=left))∧((code=code∧(((exG code tn an (3:Int).toNat true (Sr.mk pos seed) (5:Int)).s.pos)=((cdN code tn an (Sr.mk pos seed)).pos)∧((exG code tn an (3:Int).toNat true (Sr.mk pos seed) (5:Int)).s.seed)=((cdN code tn an (Sr.mk pos seed)).seed)))∧True)))))))))):=by kernel_rfl
theorem e8f(hE:a0o [])(hO:a5c [a6j])(hM:a5s [])(hS:a5d [a3m,a1j,b4d]):SCt.Good a4o:=by
 refine⟨a0l c9p rfl (by decide),?_⟩
 show ∀ (tn:Int) (an:Int) (left:Int) (code:List Int) (pos:Int) (seed:Int),(a0z code (Sr.mk pos seed) 970000000∧(0≤tn∧tn≤3)∧(0≤an∧an≤4))→c1o prog c2o [[.p 1, .d (.int .i64), .d (.int .i64), .d (.int .i64)],[.d (.slice (.int .u8)), .d (.int .i64), .d (.int .u64)]] [.box 0] [[⟨(.int .i64),tn⟩,⟨(.int .i64),an⟩,⟨(.int .i64),left⟩],[⟨(.slice (.int .u8)),code⟩,⟨(.int .i64),pos⟩,⟨(.int .u64),seed⟩]] [⟨(.st .expr),cdE code tn an (Sr.mk pos seed)⟩] [[⟨(.int .i64),tn⟩,⟨(.int .i64),an⟩,⟨(.int .i64),left⟩],[⟨(.slice (.int .u8)),code⟩,⟨(.int .i64),(cdN code tn an (Sr.mk pos seed)).pos⟩,⟨(.int .u64),(cdN code tn an (Sr.mk pos seed)).seed⟩]]
 intro tn an left code pos seed hp
 refine b0v (own:=[28,36,49]) (wr:=[]) (cl:=[]) (ro:=[]) hE hO hM hS c9p e4b (d0c tn an left code pos seed) rfl rfl ?_
 rewrite [e9a tn an left code pos seed]
 refine fun a0=>⟨fun a1=>⟨?_,⟨fun a2=>fun a3=>⟨⟨?_,?_⟩,⟨⟨?_,?_⟩,⟨⟨?_,?_⟩,⟨⟨?_,?_⟩,⟨⟨?_,?_⟩,⟨⟨?_,?_⟩,⟨⟨?_,?_⟩,⟨⟨?_,?_⟩,⟨rfl,⟨?_,⟨?_,⟨fun a4=>⟨?_,⟨?_,⟨⟨rfl,⟨rfl,rfl⟩⟩,⟨⟨rfl,⟨?_,?_⟩⟩,trivial⟩⟩⟩⟩,fun a4=>⟨?_,⟨⟨rfl,⟨rfl,rfl⟩⟩,⟨⟨rfl,⟨?_,?_⟩⟩,trivial⟩⟩⟩⟩⟩⟩⟩⟩⟩⟩⟩⟩⟩⟩⟩,fun a2=>⟨?_,⟨?_,⟨⟨rfl,⟨rfl,rfl⟩⟩,⟨⟨rfl,⟨?_,?_⟩⟩,trivial⟩⟩⟩⟩⟩⟩,fun a1=>⟨fun a2=>fun a3=>⟨⟨?_,?_⟩,⟨⟨?_,?_⟩,⟨⟨?_,?_⟩,⟨⟨?_,?_⟩,⟨⟨?_,?_⟩,⟨⟨?_,?_⟩,⟨⟨?_,?_⟩,⟨⟨?_,?_⟩,⟨rfl,⟨?_,⟨?_,⟨fun a4=>⟨?_,⟨?_,⟨⟨rfl,⟨rfl,rfl⟩⟩,⟨⟨rfl,⟨?_,?_⟩⟩,trivial⟩⟩⟩⟩,fun a4=>⟨?_,⟨⟨rfl,⟨rfl,rfl⟩⟩,⟨⟨rfl,⟨?_,?_⟩⟩,trivial⟩⟩⟩⟩⟩⟩⟩⟩⟩⟩⟩⟩⟩⟩⟩,fun a2=>⟨?_,⟨?_,⟨⟨rfl,⟨rfl,rfl⟩⟩,⟨⟨rfl,⟨?_,?_⟩⟩,trivial⟩⟩⟩⟩⟩⟩
 all_goals try and_intros
 all_goals try simp only[a0b.eta,a0d.eta,a1g.eta,a0e.eta,a2u,a2z,a2o,a2f] at *
 all_goals (try simp only[d5p,a0b.eta,decide_eq_true_eq,decide_eq_false_iff_not,Bool.not_true,Bool.not_false,Bool.not_eq_true',Bool.not_eq_false'] at *);first|rfl|trivial|omega|with_reducible assumption|exact i4w _ _|(rw[(h3a code tn an (Sr.mk pos seed) (by assumption) (by assumption) (by assumption)).1];rfl)|(rw[(h3a code tn an (Sr.mk pos seed) (by assumption) (by assumption) (by assumption)).1];done)|(rw[(h3a code tn an (Sr.mk pos seed) (by assumption) (by assumption) (by assumption)).2];rfl)|(rw[(h3a code tn an (Sr.mk pos seed) (by assumption) (by assumption) (by assumption)).2];done)|(rw[(h3b code tn an (Sr.mk pos seed) (by assumption) (by assumption) (by assumption)).1];rfl)|(rw[(h3b code tn an (Sr.mk pos seed) (by assumption) (by assumption) (by assumption)).1];done)|(rw[(h3b code tn an (Sr.mk pos seed) (by assumption) (by assumption) (by assumption)).2];rfl)|(rw[(h3b code tn an (Sr.mk pos seed) (by assumption) (by assumption) (by assumption)).2];done)|(rw[(h3c code tn an (Sr.mk pos seed) (by assumption) (by assumption)).1];rfl)|(rw[(h3c code tn an (Sr.mk pos seed) (by assumption) (by assumption)).1];done)|(rw[(h3c code tn an (Sr.mk pos seed) (by assumption) (by assumption)).2];rfl)|(rw[(h3c code tn an (Sr.mk pos seed) (by assumption) (by assumption)).2];done)|(rw[(h3d code tn an (Sr.mk pos seed) (by assumption)).1];rfl)|(rw[(h3d code tn an (Sr.mk pos seed) (by assumption)).1];done)|(rw[(h3d code tn an (Sr.mk pos seed) (by assumption)).2];rfl)|(rw[(h3d code tn an (Sr.mk pos seed) (by assumption)).2];done)|exact a0z.mono hp.1 (by decide)|exact a0z.mono (hp.1.next _) (by decide)|exact a0z.mono ((hp.1.next _).next _) (by decide)
theorem c5g:SCt.Good a4o:=e8f trivial ⟨d5n,trivial⟩ trivial ⟨b8r,a3w,e2x,trivial⟩
def plA(a k:Int):Bool:=decide (0<a) && !decide (k=2)
def plE(code:List Int)(t a k:Int)(s:Sr):a0d :=
 if plA a k=true then a0d.mk 3 (pk code s a) zE [] else if pk code s 4=0 then a0d.mk 2 0 zE [] else if pk code s 4=1 then a0d.mk 4 0 (cdE code t a (pkN code s 4)) [] else a0d.mk 1 0 zE []
def plN(code:List Int)(t a k:Int)(s:Sr):Sr :=
 if plA a k=true then pkN code s a else if pk code s 4=1 then cdN code t a (pkN code s 4) else pkN code s 4
structure Gp where
 p:a0d
 s:Sr
 left:Int
def plG(code:List Int)(t a k:Int)(s:Sr)(l:Int):Gp:=⟨plE code t a k s,plN code t a k s,l⟩
def pgK(code:List Int)(s:Sr):Int:=pk code s 12
def pg1(code:List Int)(s:Sr):Sr:=pkN code s 12
def pgG(code:List Int)(t a:Int):Nat→Sr→Int→Gp
 | 0,s,left=>plG code t a (pgK code s) (pg1 code s) (left - 1)
 | d+1,s,left =>
  if left - 1<1∨pgK code s<3 then plG code t a (pgK code s) (pg1 code s) (left - 1) else
  if pgK code s<6 then
   let A:=pgG code t a d (pg1 code s) (left - 1)
   let B:=pgG code t a d A.s A.left
   ⟨a0d.mk 5 0 zE [A.p,B.p],B.s,B.left⟩ else
  let A:=pgG code t a d (cdN code t a (pg1 code s)) (left - 1)
  if pgK code s<9 then
   let B:=pgG code t a d A.s A.left
   ⟨a0d.mk 6 0 (cdE code t a (pg1 code s)) [A.p,B.p],B.s,B.left⟩ else
  ⟨a0d.mk 7 0 (cdE code t a (pg1 code s)) [A.p],A.s,A.left⟩
structure GpB(code:List Int)(d:Nat)(m left:Int)(r:Gp):Prop where
 sz:a2e r.p≤20 * wG d
 sr:a0z code r.s (m+300 * wG d)
 l0:left - wG d≤r.left
 l1:r.left≤left
theorem h6v:a2m zE=0:=by simp[a2m,c2u]
theorem i6b(code:List Int)(t a k m left b:Int)(d:Nat)(s:Sr)(ht:0≤t∧t≤3)(ha:0≤a∧a≤4)(h:a0z code s m)(hb:m+260≤b+300 * (wG d:Int)):GpB code d b left (plG code t a k s (left - 1)):=by
 have hw:=c5i d
 have hc:=d1v code t a (m+2) (pkN code s 4) ht ha (h.next 4)
 have hz:=hc.sz
 have key:∀ p s',a2e p≤14→a0z code s' (m+260)→plE code t a k s=p→plN code t a k s=s'→GpB code d b left (plG code t a k s (left - 1)):=by
  intro p s' h1 h2 e1 e2
  unfold plG
  rw[e1,e2]
  exact⟨by show a2e p≤_;omega,h2.mono (by omega),by show left - _≤left - 1;omega,by show left - 1≤left;omega⟩
 have z:∀ k n,a2e (a0d.mk k n zE [])≤14:=fun k n=>by simp[a2e,b9r,h6v]
 by_cases x:plA a k=true
 ·exact key _ _ (z 3 _) ((h.next a).mono (by omega)) (by unfold plE;rw[if_pos x]) (by unfold plN;rw[if_pos x])
 ·by_cases y:pk code s 4=0
  ·exact key _ _ (z 2 0) ((h.next 4).mono (by omega)) (by unfold plE;rw[if_neg x,if_pos y]) (by unfold plN;rw[if_neg x,if_neg (by omega)])
  ·by_cases y1:pk code s 4=1
   ·exact key (a0d.mk 4 0 (cdE code t a (pkN code s 4)) []) _ (by simp[a2e,b9r];exact hz) (hc.sr.mono (by omega)) (by unfold plE;rw[if_neg x,if_neg y,if_pos y1]) (by unfold plN;rw[if_neg x,if_pos y1])
   ·exact key _ _ (z 1 0) ((h.next 4).mono (by omega)) (by unfold plE;rw[if_neg x,if_neg y,if_neg y1]) (by unfold plN;rw[if_neg x,if_neg y1])
theorem e2u(code:List Int)(t a:Int)(ht:0≤t∧t≤3)(ha:0≤a∧a≤4):∀ (d:Nat) (s:Sr) (m left:Int),a0z code s m→GpB code d m left (pgG code t a d s left)
 | 0,s,m,left,h=>i6b code t a _ (m+2) left m 0 _ ht ha (h.next 12) (by simp only[wG];omega)
 | d+1,s,m,left,h=>by
  have hw:=c5i d
  have hw1:wG (d+1)=1+wG d+wG d:=rfl
  have h1:a0z code (pg1 code s) (m+2):=h.next 12
  have hc:=d1v code t a (m+2) (pg1 code s) ht ha h1
  have hz:=hc.sz
  unfold pgG
  by_cases c1:left - 1<1∨pgK code s<3
  ·rw[if_pos c1];exact i6b code t a _ (m+2) left m (d+1) _ ht ha h1 (by omega)
  rw[if_neg c1]
  by_cases c2:pgK code s<6
  ·rw[if_pos c2]
   have ra:=e2u code t a ht ha d (pg1 code s) (m+2) (left - 1) h1
   generalize pgG code t a d (pg1 code s) (left - 1)=A at ra
   have rb:=e2u code t a ht ha d A.s _ A.left ra.sr
   simp only
   generalize pgG code t a d A.s A.left=B at rb
   have a1:=ra.sz;have a2:=ra.l0;have a3:=ra.l1;have b1:=rb.sz;have b2:=rb.l0;have b3:=rb.l1
   exact⟨by simp only[a2e,b9r,h6v,List.length_cons,List.length_nil];omega,rb.sr.mono (by omega),by show left - _≤B.left;omega,by show B.left≤left;omega⟩
  rw[if_neg c2]
  have ra:=e2u code t a ht ha d (cdN code t a (pg1 code s)) _ (left - 1) hc.sr
  simp only
  generalize pgG code t a d (cdN code t a (pg1 code s)) (left - 1)=A at ra
  have a1:=ra.sz;have a2:=ra.l0;have a3:=ra.l1
  by_cases c3:pgK code s<9
  ·rw[if_pos c3]
   have rb:=e2u code t a ht ha d A.s _ A.left ra.sr
   generalize pgG code t a d A.s A.left=B at rb
   have b1:=rb.sz;have b2:=rb.l0;have b3:=rb.l1
   exact⟨by simp only[a2e,b9r,List.length_cons,List.length_nil];omega,rb.sr.mono (by omega),by show left - _≤B.left;omega,by show B.left≤left;omega⟩
  ·rw[if_neg c3]
   exact⟨by simp only[a2e,b9r,List.length_cons,List.length_nil];omega,ra.sr.mono (by omega),by show left - _≤A.left;omega,by show A.left≤left;omega⟩
theorem c2w(gg:a0h)(k n:Int)(c:a0b)(ks:List a0d)(h1:a1x k=(ks.length:Int))(h2:b9p gg (a0d.mk k n c ks)=true)(h3:c0o gg (a0d.mk k n c ks)=true)(h4:∀ x∈ks,a2g gg x=true):a2g gg (a0d.mk k n c ks)=true:=by
 rw[a7g,b9g,h2,h3]
 have e:∀ xs:List a0d,(∀ x∈xs,a2g gg x=true)→a0v (a2g gg) xs=true:=fun xs=>by
  induction xs with
  | nil=>intro _;rfl
  | cons x xs ih=>intro h;rw[a0v,h x (by simp),ih fun y hy=>h y (by simp[hy])];rfl
 rw[e _ h4]
 simp[h1]
theorem h6p(code:List Int)(gg:a0h)(k m:Int)(s:Sr)(hs:a1i gg=true)(h:a0z code s m):a2g gg (plE code gg.tests gg.actions k s)=true:=by
 have hg:=(a4l gg).1 hs
 have hc:=(d1v code gg.tests gg.actions (m+2) (pkN code s 4) hg.1 hg.2 (h.next 4)).isC hs
 have hp:=h.pk gg.actions
 unfold plE
 split
 ·rename_i x
  have x1:0<gg.actions:=of_decide_eq_true (Bool.and_eq_true_iff.1 x).1
  refine c2w gg _ _ _ _ (by decide) ?_ (by simp[c0o,a3n,a6s]) (by simp)
  simp only[b9p,if_true]
  exact decide_eq_true (by omega)
 ·split
  ·exact c2w gg _ _ _ _ (by decide) (by simp[b9p]) (by simp[c0o,a3n,a6s]) (by simp)
  ·split
   ·exact c2w gg _ _ _ _ (by decide) (by simp[b9p]) (by simpa [c0o,a3n] using hc) (by simp)
   ·exact c2w gg _ _ _ _ (by decide) (by simp[b9p]) (by simp[c0o,a3n,a6s]) (by simp)
theorem e6f(code:List Int)(gg:a0h)(hs:a1i gg=true):∀ (d:Nat) (s:Sr) (m left:Int),a0z code s m→a2g gg (pgG code gg.tests gg.actions d s left).p=true
 | 0,s,m,left,h=>h6p code gg _ (m+2) _ hs (h.next 12)
 | d+1,s,m,left,h=>by
  have hg:=(a4l gg).1 hs
  have h1:a0z code (pg1 code s) (m+2):=h.next 12
  have hc:=d1v code gg.tests gg.actions (m+2) (pg1 code s) hg.1 hg.2 h1
  have hi:=hc.isC hs
  unfold pgG
  split
  ·exact h6p code gg _ (m+2) _ hs h1
  split
  ·have ra:=e6f code gg hs d (pg1 code s) (m+2) (left - 1) h1
   have rb:=e6f code gg hs d _ _ (pgG code gg.tests gg.actions d (pg1 code s) (left - 1)).left (e2u code gg.tests gg.actions hg.1 hg.2 d (pg1 code s) (m+2) (left - 1) h1).sr
   exact c2w gg _ _ _ _ rfl (by simp[b9p]) (by simp[c0o,a3n,a6s]) (by simp[ra,rb])
  have ra:=e6f code gg hs d _ _ (left - 1) hc.sr
  simp only
  split
  ·have rb:=e6f code gg hs d _ _ (pgG code gg.tests gg.actions d (cdN code gg.tests gg.actions (pg1 code s)) (left - 1)).left (e2u code gg.tests gg.actions hg.1 hg.2 d _ _ (left - 1) hc.sr).sr
   exact c2w gg _ _ _ _ rfl (by simp[b9p]) (by simpa [c0o,a3n] using hi) (by simp[ra,rb])
  ·exact c2w gg _ _ _ _ rfl (by simp[b9p]) (by simpa [c0o,a3n] using hi) (by simp[ra])
structure InP(code:List Int)(deep left:Int)(s:Sr):Prop where
 d:¬ deep<1
 l:¬ left - 1<1
 k:¬ pgK code s<3
theorem d6b(code:List Int)(t a deep left:Int)(s:Sr)(h:deep<1∨left - 1<1∨pgK code s<3):pgG code t a deep.toNat s left=plG code t a (pgK code s) (pg1 code s) (left - 1):=by
 by_cases hd:deep<1
 ·rw[show deep.toNat=0 by omega,pgG]
 ·rw[b2e deep hd,pgG,if_pos (by omega)]
def pgA(code:List Int)(t a deep left:Int)(s:Sr):Gp:=pgG code t a (deep - 1).toNat (pg1 code s) (left - 1)
def pgC(code:List Int)(t a deep left:Int)(s:Sr):Gp:=pgG code t a (deep - 1).toNat (cdN code t a (pg1 code s)) (left - 1)
def pgN(code:List Int)(t a deep:Int)(r:Gp):Gp:=pgG code t a (deep - 1).toNat r.s r.left
theorem i7b(code:List Int)(t a deep left:Int)(s:Sr)(g:InP code deep left s)(h:pgK code s<6):pgG code t a deep.toNat s left=⟨a0d.mk 5 0 zE [(pgA code t a deep left s).p,(pgN code t a deep (pgA code t a deep left s)).p],(pgN code t a deep (pgA code t a deep left s)).s,(pgN code t a deep (pgA code t a deep left s)).left⟩:=by
 have:=g.l;have:=g.k
 rw[b2e deep g.d,pgG,if_neg (by omega),if_pos h];rfl
theorem i7c(code:List Int)(t a deep left:Int)(s:Sr)(g:InP code deep left s)(h:¬ pgK code s<6)(h9:pgK code s<9):pgG code t a deep.toNat s left=⟨a0d.mk 6 0 (cdE code t a (pg1 code s)) [(pgC code t a deep left s).p,(pgN code t a deep (pgC code t a deep left s)).p],(pgN code t a deep (pgC code t a deep left s)).s,(pgN code t a deep (pgC code t a deep left s)).left⟩:=by
 have:=g.l;have:=g.k
 rw[b2e deep g.d,pgG,if_neg (by omega),if_neg h,if_pos h9];rfl
theorem i7d(code:List Int)(t a deep left:Int)(s:Sr)(g:InP code deep left s)(h:¬ pgK code s<6)(h9:¬ pgK code s<9):pgG code t a deep.toNat s left=⟨a0d.mk 7 0 (cdE code t a (pg1 code s)) [(pgC code t a deep left s).p],(pgC code t a deep left s).s,(pgC code t a deep left s).left⟩:=by
 have:=g.l;have:=g.k
 rw[b2e deep g.d,pgG,if_neg (by omega),if_neg h,if_neg h9];rfl
structure GqB(code:List Int)(deep left:Int)(s:Sr)(k:Int):Prop where
 s:a0z code s (900000000 - 300 * (wG (deep - 1).toNat:Int) - k)
 w:1≤wG (deep - 1).toNat
 l0 : -1000000+(wG (deep - 1).toNat:Int)≤left
 l1:left≤1000000
theorem i6v(code:List Int)(deep left:Int)(s:Sr)(hd:¬ deep<1)(hs:a0z code s (900000000 - 300 * (wG deep.toNat:Int)))(h0 : -1000000+(wG deep.toNat:Int)≤left)(h1:left≤1000000):GqB code deep (left - 1) (pg1 code s) 260:=by
 have hw:=e6n deep hd
 have hp:=c5i (deep - 1).toNat
 exact⟨(hs.next 12).mono (by omega),hp,by omega,by omega⟩
theorem GqB.cond{code:List Int}{deep left:Int}{s:Sr}(h:GqB code deep left s 260)(t a:Int)(ht:0≤t∧t≤3)(ha:0≤a∧a≤4):GqB code deep left (cdN code t a s) 0 :=
 ⟨(d1v code t a _ s ht ha h.s).sr.mono (by omega),h.w,h.l0,h.l1⟩
theorem i3n(code:List Int)(t a deep left:Int)(s s1:Sr)(hd:¬ deep<1)(hs:a0z code s (900000000 - 300 * (wG deep.toNat:Int)))(h0 : -1000000+(wG deep.toNat:Int)≤left)(h1:left≤1000000)(ht:0≤t∧t≤3)(ha:0≤a∧a≤4)
  (hs1:a0z code s1 (900000000 - 300 * (wG deep.toNat:Int)+260)) :
  GqB code deep (pgG code t a (deep - 1).toNat s1 (left - 1)).left (pgG code t a (deep - 1).toNat s1 (left - 1)).s 0∧a2e (pgG code t a (deep - 1).toNat s1 (left - 1)).p≤20 * wG (deep - 1).toNat:=by
 have hw:=e6n deep hd
 have hp:=c5i (deep - 1).toNat
 have r:=e2u code t a ht ha (deep - 1).toNat s1 _ (left - 1) hs1
 have r0:=r.l0;have r1:=r.l1
 exact⟨⟨r.sr.mono (by omega),hp,by omega,by omega⟩,r.sz⟩
theorem i7f(d:Nat)(h:d≤10):wG d≤2047:=by
 have:∀ d:Fin 11,wG d.val≤2047:=by decide
 exact this ⟨d,by omega⟩
structure PgF(code:List Int)(t a deep left:Int)(s:Sr):Prop where
 f_a:GqB code deep (pgA code t a deep left s).left (pgA code t a deep left s).s 0
 f_sa:a2e (pgA code t a deep left s).p≤1048576
 f_c:GqB code deep (pgC code t a deep left s).left (pgC code t a deep left s).s 0
 f_sc:a2e (pgC code t a deep left s).p≤1048576
 f_na:a2e (pgN code t a deep (pgA code t a deep left s)).p≤1048576
 f_nc:a2e (pgN code t a deep (pgC code t a deep left s)).p≤1048576
 f_b0:GqB code deep (left - 1) (pg1 code s) 260
 f_b1:GqB code deep (left - 1) (cdN code t a (pg1 code s)) 0
 f_ce:a2m (cdE code t a (pg1 code s))≤1048576
 f_l0 : -1000000+(wG (deep - 1).toNat:Int)≤left - 1
theorem i7u(code:List Int)(t a deep left:Int)(s:Sr)(hd:¬ deep<1)(hd10:deep≤10)(hs:a0z code s (900000000 - 300 * (wG deep.toNat:Int)))(h0 : -1000000+(wG deep.toNat:Int)≤left)(h1:left≤1000000)(ht:0≤t∧t≤3)(ha:0≤a∧a≤4):PgF code t a deep left s:=by
 have b0:=i6v code deep left s hd hs h0 h1
 have hc:=d1v code t a _ (pg1 code s) ht ha (hs.next 12)
 have hA:=i3n code t a deep left s (pg1 code s) hd hs h0 h1 ht ha ((hs.next 12).mono (by omega))
 have hC:=i3n code t a deep left s (cdN code t a (pg1 code s)) hd hs h0 h1 ht ha (hc.sr.mono (by omega))
 have hw:=i7f (deep - 1).toNat (by omega)
 have nA:=(e2u code t a ht ha (deep - 1).toNat _ _ (pgA code t a deep left s).left hA.1.s).sz
 have nC:=(e2u code t a ht ha (deep - 1).toNat _ _ (pgC code t a deep left s).left hC.1.s).sz
 have ce:=hc.sz
 exact⟨hA.1,Nat.le_trans hA.2 (by omega),hC.1,Nat.le_trans hC.2 (by omega),Nat.le_trans nA (by omega),Nat.le_trans nC (by omega),b0,b0.cond t a ht ha,by omega,b0.l0⟩
theorem i2l(code:List Int)(t a k:Int)(s:Sr)(h:0<a)(h2:¬ k=2):plE code t a k s=a0d.mk 3 (pk code s a) zE []∧plN code t a k s=pkN code s a:=by
 have:plA a k=true:=by simp[plA,h,h2]
 simp only[plE,plN,if_pos this,and_self]
theorem h8e{a k:Int}(h:¬ 0<a∨k=2):¬ plA a k=true:=by
 rcases h with h|h<;>simp[plA,h]
theorem i2m(code:List Int)(t a k:Int)(s:Sr)(h:¬ 0<a∨k=2)(h2:pk code s 4=0):plE code t a k s=a0d.mk 2 0 zE []∧plN code t a k s=pkN code s 4:=by
 simp only[plE,plN,if_neg (h8e h),if_pos h2,if_neg (show ¬ pk code s 4=1 by omega),and_self]
theorem i2n(code:List Int)(t a k:Int)(s:Sr)(h:¬ 0<a∨k=2)(h2:pk code s 4=1):plE code t a k s=a0d.mk 4 0 (cdE code t a (pkN code s 4)) []∧plN code t a k s=cdN code t a (pkN code s 4):=by
 simp only[plE,plN,if_neg (h8e h),if_neg (show ¬ pk code s 4=0 by omega),if_pos h2,and_self]
theorem i2o(code:List Int)(t a k:Int)(s:Sr)(h:¬ 0<a∨k=2)(h2:¬ pk code s 4=0)(h3:¬ pk code s 4=1):plE code t a k s=a0d.mk 1 0 zE []∧plN code t a k s=pkN code s 4:=by
 simp only[plE,plN,if_neg (h8e h),if_neg h2,if_neg h3,and_self]
def a8p(n:Nat):SCt:=⟨b6n,[[.p 1, .d (.int .i64), .d (.int .i64), .d (.int .i64)],[.d (.slice (.int .u8)), .d (.int .i64), .d (.int .u64)]],[.b 0, .v (.int .i64)],[[(.int .i64),(.int .i64),(.int .i64)],[(.slice (.int .u8)),(.int .i64),(.int .u64)]],fun (deep:Int) (tn:Int) (an:Int) (left:Int) (code:List Int) (pos:Int) (seed:Int)=>⟨(some (deep.toNat<n∧a0z code (Sr.mk pos seed) (900000000 - 300 * (wG deep.toNat:Int))∧(0≤tn∧tn≤3)∧(0≤an∧an≤4)∧deep≤10 ∧ -1000000+(wG deep.toNat:Int)≤left∧left≤1000000),[⟨(.st .prog),(pgG code tn an deep.toNat (Sr.mk pos seed) left).p⟩],[[⟨(.int .i64),tn⟩,⟨(.int .i64),an⟩,⟨(.int .i64),(pgG code tn an deep.toNat (Sr.mk pos seed) left).left⟩],[⟨(.slice (.int .u8)),code⟩,⟨(.int .i64),(pgG code tn an deep.toNat (Sr.mk pos seed) left).s.pos⟩,⟨(.int .u64),(pgG code tn an deep.toNat (Sr.mk pos seed) left).s.seed⟩]])⟩⟩
def b4e:SCt:=⟨b6n,[[.p 1, .d (.int .i64), .d (.int .i64), .d (.int .i64)],[.d (.slice (.int .u8)), .d (.int .i64), .d (.int .u64)]],[.b 0, .v (.int .i64)],[[(.int .i64),(.int .i64),(.int .i64)],[(.slice (.int .u8)),(.int .i64),(.int .u64)]],fun (deep:Int) (tn:Int) (an:Int) (left:Int) (code:List Int) (pos:Int) (seed:Int)=>⟨(some (a0z code (Sr.mk pos seed) (900000000 - 300 * (wG deep.toNat:Int))∧(0≤tn∧tn≤3)∧(0≤an∧an≤4)∧deep≤10 ∧ -1000000+(wG deep.toNat:Int)≤left∧left≤1000000),[⟨(.st .prog),(pgG code tn an deep.toNat (Sr.mk pos seed) left).p⟩],[[⟨(.int .i64),tn⟩,⟨(.int .i64),an⟩,⟨(.int .i64),(pgG code tn an deep.toNat (Sr.mk pos seed) left).left⟩],[⟨(.slice (.int .u8)),code⟩,⟨(.int .i64),(pgG code tn an deep.toNat (Sr.mk pos seed) left).s.pos⟩,⟨(.int .u64),(pgG code tn an deep.toNat (Sr.mk pos seed) left).s.seed⟩]])⟩⟩
def d0d(deep:Int)(tn:Int)(an:Int)(left:Int)(code:List Int)(pos:Int)(seed:Int):Nat→a0p:=(fun zb=>if Nat.beq zb 100012 then .mk (Unit) (fun u=>InP code deep left (Sr.mk pos seed)) (fun u=>0) [] [2,3,11,12,13,14,15,16,17,18,19,20,21,22,23,24,25,26,27,28,29,30,31,32,33,34,35,36,37,38,39,40,41,42,43,44,45,46,47,48,49,50,51,52,53,54,55,56,57,58,59,60,61,62,63,64,65,66,67,68,69,70] (fun u=>[(5, .imm ⟨(.int .i64),(pgK code (Sr.mk pos seed):Int)⟩)]) [0,1,4,5,6,7,8,9,10,71,72,73,74,75,76,77,78,79,80,81,82,83,84,85,86,87,88,89,90,91,92,93,94,95,96,97,98,99,100,101,102,103,104,105] (fun u=>[(400000, .box [.ptr 400001 0, .imm ⟨(.int .i64),(tn:Int)⟩, .imm ⟨(.int .i64),(an:Int)⟩, .imm ⟨(.int .i64),(left - 1:Int)⟩]),(400001, .box [.imm ⟨(.slice (.int .u8)),(code:List Int)⟩, .imm ⟨(.int .i64),((pg1 code (Sr.mk pos seed)).pos:Int)⟩, .imm ⟨(.int .u64),((pg1 code (Sr.mk pos seed)).seed:Int)⟩])]) [] [] (fun u=>(fun zb=>if Nat.beq zb 100014 then .mk (Unit) (fun u=>InP code deep left (Sr.mk pos seed)∧pgK code (Sr.mk pos seed)<6) (fun u=>0) [] [2,3,11,12,13,14,15,16,17,18,19,20,21,22,23,24,25,26,27,28,29,30,31,32,33,34,35,36,37,38,39,40,41,42,43,44,45,46,47,48,49,50,51,52,53,54,55,56,57,58,59,60,61,62,63,64,65,66,67,68,69,70,71,72,73,74,75,76] (fun u=>[(6, .ptr 6 0)]) [0,1,4,5,7,8,9,10,77,78,79,80,81,82,83,84,85,86,87,88,89,90,91,92,93,94,95,96,97,98,99,100,101,102,103,104,105] (fun u=>[(400000, .box [.ptr 400001 0, .imm ⟨(.int .i64),(tn:Int)⟩, .imm ⟨(.int .i64),(an:Int)⟩, .imm ⟨(.int .i64),((pgA code tn an deep left (Sr.mk pos seed)).left:Int)⟩]),(400001, .box [.imm ⟨(.slice (.int .u8)),(code:List Int)⟩, .imm ⟨(.int .i64),((pgA code tn an deep left (Sr.mk pos seed)).s.pos:Int)⟩, .imm ⟨(.int .u64),((pgA code tn an deep left (Sr.mk pos seed)).s.seed:Int)⟩]),(6, .box [.imm ⟨(.int .i64),((pgA code tn an deep left (Sr.mk pos seed)).p.kind:Int)⟩, .imm ⟨(.int .i64),((pgA code tn an deep left (Sr.mk pos seed)).p.num:Int)⟩, .imm ⟨(.int .i64),((pgA code tn an deep left (Sr.mk pos seed)).p.cond.kind:Int)⟩, .imm ⟨(.int .i64),((pgA code tn an deep left (Sr.mk pos seed)).p.cond.num:Int)⟩, .tree 7000, .tree 7050]),(7000, .tree (.st .expr) ((pgA code tn an deep left (Sr.mk pos seed)).p.cond.kids:List a0b)),(7050, .tree (.st .prog) ((pgA code tn an deep left (Sr.mk pos seed)).p.kids:List a0d))]) [] [] (fun u=>(fun zb=>if Nat.beq zb 100015 then .mk (Unit) (fun u=>InP code deep left (Sr.mk pos seed)∧pgK code (Sr.mk pos seed)<6) (fun u=>0) [] [2,3,11,12,13,14,15,16,17,18,19,20,21,22,23,24,25,26,27,28,29,30,31,32,33,34,35,36,37,38,39,40,41,42,43,44,45,46,47,48,49,50,51,52,53,54,55,56,57,58,59,60,61,62,63,64,65,66,67,68,69,70,71,72,73,74,75,76,77,78,79,80] (fun u=>[(7, .ptr 7 0)]) [0,1,4,5,6,8,9,10,81,82,83,84,85,86,87,88,89,90,91,92,93,94,95,96,97,98,99,100,101,102,103,104,105,7000,7050] (fun u=>[(400000, .box [.ptr 400001 0, .imm ⟨(.int .i64),(tn:Int)⟩, .imm ⟨(.int .i64),(an:Int)⟩, .imm ⟨(.int .i64),((pgN code tn an deep (pgA code tn an deep left (Sr.mk pos seed))).left:Int)⟩]),(400001, .box [.imm ⟨(.slice (.int .u8)),(code:List Int)⟩, .imm ⟨(.int .i64),((pgN code tn an deep (pgA code tn an deep left (Sr.mk pos seed))).s.pos:Int)⟩, .imm ⟨(.int .u64),((pgN code tn an deep (pgA code tn an deep left (Sr.mk pos seed))).s.seed:Int)⟩]),(7, .box [.imm ⟨(.int .i64),((pgN code tn an deep (pgA code tn an deep left (Sr.mk pos seed))).p.kind:Int)⟩, .imm ⟨(.int .i64),((pgN code tn an deep (pgA code tn an deep left (Sr.mk pos seed))).p.num:Int)⟩, .imm ⟨(.int .i64),((pgN code tn an deep (pgA code tn an deep left (Sr.mk pos seed))).p.cond.kind:Int)⟩, .imm ⟨(.int .i64),((pgN code tn an deep (pgA code tn an deep left (Sr.mk pos seed))).p.cond.num:Int)⟩, .tree 7100, .tree 7150]),(7100, .tree (.st .expr) ((pgN code tn an deep (pgA code tn an deep left (Sr.mk pos seed))).p.cond.kids:List a0b)),(7150, .tree (.st .prog) ((pgN code tn an deep (pgA code tn an deep left (Sr.mk pos seed))).p.kids:List a0d))]) [] [] (fun u=>fun _ => .none) else .none)) else if Nat.beq zb 100016 then .mk (Unit) (fun u=>InP code deep left (Sr.mk pos seed)∧¬ pgK code (Sr.mk pos seed)<6) (fun u=>0) [] [2,3,6,7,11,12,13,14,15,16,17,18,19,20,21,22,23,24,25,26,27,28,29,30,31,32,33,34,35,36,37,38,39,40,41,42,43,44,45,46,47,48,49,50,51,52,53,54,55,56,57,58,59,60,61,62,63,64,65,66,67,68,69,70,71,72,73,74,75,76,77,78,79,80,81,82,83] (fun u=>[]) [0,1,4,5,8,9,10,84,85,86,87,88,89,90,91,92,93,94,95,96,97,98,99,100,101,102,103,104,105] (fun u=>[(400000, .box [.ptr 400001 0, .imm ⟨(.int .i64),(tn:Int)⟩, .imm ⟨(.int .i64),(an:Int)⟩, .imm ⟨(.int .i64),(left - 1:Int)⟩]),(400001, .box [.imm ⟨(.slice (.int .u8)),(code:List Int)⟩, .imm ⟨(.int .i64),((pg1 code (Sr.mk pos seed)).pos:Int)⟩, .imm ⟨(.int .u64),((pg1 code (Sr.mk pos seed)).seed:Int)⟩])]) [] [] (fun u=>(fun zb=>if Nat.beq zb 100017 then .mk (Unit) (fun u=>InP code deep left (Sr.mk pos seed)∧¬ pgK code (Sr.mk pos seed)<6) (fun u=>0) [] [2,3,6,7,11,12,13,14,15,16,17,18,19,20,21,22,23,24,25,26,27,28,29,30,31,32,33,34,35,36,37,38,39,40,41,42,43,44,45,46,47,48,49,50,51,52,53,54,55,56,57,58,59,60,61,62,63,64,65,66,67,68,69,70,71,72,73,74,75,76,77,78,79,80,81,82,83,84,85] (fun u=>[(8, .ptr 8 0)]) [0,1,4,5,9,10,86,87,88,89,90,91,92,93,94,95,96,97,98,99,100,101,102,103,104,105] (fun u=>[(400000, .box [.ptr 400001 0, .imm ⟨(.int .i64),(tn:Int)⟩, .imm ⟨(.int .i64),(an:Int)⟩, .imm ⟨(.int .i64),(left - 1:Int)⟩]),(400001, .box [.imm ⟨(.slice (.int .u8)),(code:List Int)⟩, .imm ⟨(.int .i64),((cdN code tn an (pg1 code (Sr.mk pos seed))).pos:Int)⟩, .imm ⟨(.int .u64),((cdN code tn an (pg1 code (Sr.mk pos seed))).seed:Int)⟩]),(8, .box [.imm ⟨(.int .i64),((cdE code tn an (pg1 code (Sr.mk pos seed))).kind:Int)⟩, .imm ⟨(.int .i64),((cdE code tn an (pg1 code (Sr.mk pos seed))).num:Int)⟩, .tree 7200]),(7200, .tree (.st .expr) ((cdE code tn an (pg1 code (Sr.mk pos seed))).kids:List a0b))]) [] [] (fun u=>(fun zb=>if Nat.beq zb 100019 then .mk (Unit) (fun u=>(InP code deep left (Sr.mk pos seed)∧¬ pgK code (Sr.mk pos seed)<6)∧pgK code (Sr.mk pos seed)<9) (fun u=>0) [] [2,3,5,6,7,11,12,13,14,15,16,17,18,19,20,21,22,23,24,25,26,27,28,29,30,31,32,33,34,35,36,37,38,39,40,41,42,43,44,45,46,47,48,49,50,51,52,53,54,55,56,57,58,59,60,61,62,63,64,65,66,67,68,69,70,71,72,73,74,75,76,77,78,79,80,81,82,83,84,85,86,87,88,89,90,91] (fun u=>[(9, .ptr 9 0)]) [0,1,4,8,10,92,93,94,95,96,97,98,99,100,101,102,103,104,105,7200] (fun u=>[(400000, .box [.ptr 400001 0, .imm ⟨(.int .i64),(tn:Int)⟩, .imm ⟨(.int .i64),(an:Int)⟩, .imm ⟨(.int .i64),((pgC code tn an deep left (Sr.mk pos seed)).left:Int)⟩]),(400001, .box [.imm ⟨(.slice (.int .u8)),(code:List Int)⟩, .imm ⟨(.int .i64),((pgC code tn an deep left (Sr.mk pos seed)).s.pos:Int)⟩, .imm ⟨(.int .u64),((pgC code tn an deep left (Sr.mk pos seed)).s.seed:Int)⟩]),(9, .box [.imm ⟨(.int .i64),((pgC code tn an deep left (Sr.mk pos seed)).p.kind:Int)⟩, .imm ⟨(.int .i64),((pgC code tn an deep left (Sr.mk pos seed)).p.num:Int)⟩, .imm ⟨(.int .i64),((pgC code tn an deep left (Sr.mk pos seed)).p.cond.kind:Int)⟩, .imm ⟨(.int .i64),((pgC code tn an deep left (Sr.mk pos seed)).p.cond.num:Int)⟩, .tree 7300, .tree 7350]),(7300, .tree (.st .expr) ((pgC code tn an deep left (Sr.mk pos seed)).p.cond.kids:List a0b)),(7350, .tree (.st .prog) ((pgC code tn an deep left (Sr.mk pos seed)).p.kids:List a0d))]) [] [] (fun u=>(fun zb=>if Nat.beq zb 100020 then .mk (Unit) (fun u=>(InP code deep left (Sr.mk pos seed)∧¬ pgK code (Sr.mk pos seed)<6)∧pgK code (Sr.mk pos seed)<9) (fun u=>0) [] [2,3,5,6,7,11,12,13,14,15,16,17,18,19,20,21,22,23,24,25,26,27,28,29,30,31,32,33,34,35,36,37,38,39,40,41,42,43,44,45,46,47,48,49,50,51,52,53,54,55,56,57,58,59,60,61,62,63,64,65,66,67,68,69,70,71,72,73,74,75,76,77,78,79,80,81,82,83,84,85,86,87,88,89,90,91,92,93,94,95] (fun u=>[(10, .ptr 10 0)]) [0,1,4,8,9,96,97,98,99,100,101,102,103,104,105,7200,7300,7350] (fun u=>[(400000, .box [.ptr 400001 0, .imm ⟨(.int .i64),(tn:Int)⟩, .imm ⟨(.int .i64),(an:Int)⟩, .imm ⟨(.int .i64),((pgN code tn an deep (pgC code tn an deep left (Sr.mk pos seed))).left:Int)⟩]),(400001, .box [.imm ⟨(.slice (.int .u8)),(code:List Int)⟩, .imm ⟨(.int .i64),((pgN code tn an deep (pgC code tn an deep left (Sr.mk pos seed))).s.pos:Int)⟩, .imm ⟨(.int .u64),((pgN code tn an deep (pgC code tn an deep left (Sr.mk pos seed))).s.seed:Int)⟩]),(10, .box [.imm ⟨(.int .i64),((pgN code tn an deep (pgC code tn an deep left (Sr.mk pos seed))).p.kind:Int)⟩, .imm ⟨(.int .i64),((pgN code tn an deep (pgC code tn an deep left (Sr.mk pos seed))).p.num:Int)⟩, .imm ⟨(.int .i64),((pgN code tn an deep (pgC code tn an deep left (Sr.mk pos seed))).p.cond.kind:Int)⟩, .imm ⟨(.int .i64),((pgN code tn an deep (pgC code tn an deep left (Sr.mk pos seed))).p.cond.num:Int)⟩, .tree 7400, .tree 7450]),(7400, .tree (.st .expr) ((pgN code tn an deep (pgC code tn an deep left (Sr.mk pos seed))).p.cond.kids:List a0b)),(7450, .tree (.st .prog) ((pgN code tn an deep (pgC code tn an deep left (Sr.mk pos seed))).p.kids:List a0d))]) [] [] (fun u=>fun _ => .none) else .none)) else .none)) else .none)) else .none)) else .none)
abbrev c7g(deep:Int)(tn:Int)(an:Int)(left:Int)(code:List Int)(pos:Int)(seed:Int):Prop:=(a0c an →
 ((a0z code (pkN code (Sr.mk pos seed) (12:Int)) 999999000∧an≤1000000)∧((a0d.mk (3:Int) (pk code (pkN code (Sr.mk pos seed) (12:Int)) an) zE [])=((pgG code tn an deep.toNat (Sr.mk pos seed) left).p)∧((tn=tn∧(an=an∧(left - (1:Int))=((pgG code tn an deep.toNat (Sr.mk pos seed) left).left)))∧((code=code∧(((pkN code (pkN code (Sr.mk pos seed) (12:Int)) an).pos)=((pgG code tn an deep.toNat (Sr.mk pos seed) left).s.pos)∧((pkN code (pkN code (Sr.mk pos seed) (12:Int)) an).seed)=((pgG code tn an deep.toNat (Sr.mk pos seed) left).s.seed)))∧True)))))
abbrev c7h(deep:Int)(tn:Int)(an:Int)(left:Int)(code:List Int)(pos:Int)(seed:Int):Prop:=((tn=tn∧(an=an∧(left - (1:Int))=((pgG code tn an deep.toNat (Sr.mk pos seed) left).left)))∧((code=code∧(((pkN code (pkN code (Sr.mk pos seed) (12:Int)) (4:Int)).pos)=((pgG code tn an deep.toNat (Sr.mk pos seed) left).s.pos)∧((pkN code (pkN code (Sr.mk pos seed) (12:Int)) (4:Int)).seed)=((pgG code tn an deep.toNat (Sr.mk pos seed) left).s.seed)))∧True))
abbrev c7i(deep:Int)(tn:Int)(an:Int)(left:Int)(code:List Int)(pos:Int)(seed:Int):Prop:=((a0z code (pkN code (Sr.mk pos seed) (12:Int)) 999999000∧(4:Int)≤1000000)∧(((decide ((pk code (pkN code (Sr.mk pos seed) (12:Int)) (4:Int))=(0:Int)))=true →
 ((a0d.mk (2:Int) (0:Int) zE [])=((pgG code tn an deep.toNat (Sr.mk pos seed) left).p)∧(c7h deep tn an left code pos seed)))∧((decide ((pk code (pkN code (Sr.mk pos seed) (12:Int)) (4:Int))=(0:Int)))=false →
 (((decide ((pk code (pkN code (Sr.mk pos seed) (12:Int)) (4:Int))=(1:Int)))=true →
 ((a0z code (pkN code (pkN code (Sr.mk pos seed) (12:Int)) (4:Int)) 970000000∧(0≤tn∧tn≤3)∧(0≤an∧an≤4))∧((a0d.mk (4:Int) (0:Int) (a0n (cdE code tn an (pkN code (pkN code (Sr.mk pos seed) (12:Int)) (4:Int)))) [])=((pgG code tn an deep.toNat (Sr.mk pos seed) left).p)∧((tn=tn∧(an=an∧(left - (1:Int))=((pgG code tn an deep.toNat (Sr.mk pos seed) left).left)))∧((code=code∧(((cdN code tn an (pkN code (pkN code (Sr.mk pos seed) (12:Int)) (4:Int))).pos)=((pgG code tn an deep.toNat (Sr.mk pos seed) left).s.pos)∧((cdN code tn an (pkN code (pkN code (Sr.mk pos seed) (12:Int)) (4:Int))).seed)=((pgG code tn an deep.toNat (Sr.mk pos seed) left).s.seed)))∧True)))))∧((decide ((pk code (pkN code (Sr.mk pos seed) (12:Int)) (4:Int))=(1:Int)))=false →
 ((a1a (a0d.mk 1 0 zE []))=((pgG code tn an deep.toNat (Sr.mk pos seed) left).p)∧(c7h deep tn an left code pos seed)))))))
abbrev c7j(deep:Int)(tn:Int)(an:Int)(left:Int)(code:List Int)(pos:Int)(seed:Int):Prop:=(a0c an →
 (((decide ((0:Int)<an))=true →
 (((!(decide ((pk code (Sr.mk pos seed) (12:Int))=(2:Int))))=true →
 (c7g deep tn an left code pos seed))∧((!(decide ((pk code (Sr.mk pos seed) (12:Int))=(2:Int))))=false →
 (c7i deep tn an left code pos seed))))∧((decide ((0:Int)<an))=(!true) →
 ((false=true →
 (c7g deep tn an left code pos seed))∧(false=false →
 (c7i deep tn an left code pos seed))))))
abbrev c7k(deep:Int)(tn:Int)(an:Int)(left:Int)(code:List Int)(pos:Int)(seed:Int):Prop:=(∃ u1:Unit,(InP code deep left (Sr.mk pos seed)∧((True∧(deep=deep∧(True∧((pk code (Sr.mk pos seed) (12:Int))=(pgK code (Sr.mk pos seed))∧True))))∧((True∧(tn=tn∧(an=an∧((left - (1:Int))=(left - 1)∧True))))∧((code=code∧(((pkN code (Sr.mk pos seed) (12:Int)).pos)=((pg1 code (Sr.mk pos seed)).pos)∧(((pkN code (Sr.mk pos seed) (12:Int)).seed)=((pg1 code (Sr.mk pos seed)).seed)∧True)))∧(((0:Int)=(0:Int)∧((0:Int)=(0:Int)∧((0:Int)=(0:Int)∧((0:Int)=(0:Int)∧(True∧(True∧True))))))∧True))))))
abbrev c7l(deep:Int)(tn:Int)(an:Int)(left:Int)(code:List Int)(pos:Int)(seed:Int):Prop:=(((decide ((pk code (Sr.mk pos seed) (12:Int))<(3:Int)))=true →
 (c7j deep tn an left code pos seed))∧((decide ((pk code (Sr.mk pos seed) (12:Int))<(3:Int)))=false →
 (c7k deep tn an left code pos seed)))
abbrev c7m(deep:Int)(tn:Int)(an:Int)(left:Int)(code:List Int)(pos:Int)(seed:Int):Prop:=((true=true →
 (c7j deep tn an left code pos seed))∧(true=false →
 (c7k deep tn an left code pos seed)))
abbrev c7n(tn:Int)(an:Int)(code:List Int)(pos:Int)(seed:Int):Prop:=((((cdE code tn an (pg1 code (Sr.mk pos seed))).kind)=((cdE code tn an (pg1 code (Sr.mk pos seed))).kind)∧(((cdE code tn an (pg1 code (Sr.mk pos seed))).num)=((cdE code tn an (pg1 code (Sr.mk pos seed))).num)∧(True∧True)))∧(((cdE code tn an (pg1 code (Sr.mk pos seed))).kids)=((cdE code tn an (pg1 code (Sr.mk pos seed))).kids)∧(((0:Int)=(0:Int)∧((0:Int)=(0:Int)∧((0:Int)=(0:Int)∧((0:Int)=(0:Int)∧(True∧(True∧True))))))∧True)))
abbrev b7w(tn:Int)(an:Int)(code:List Int)(pos:Int)(seed:Int):Prop:=(((cdE code tn an (pg1 code (Sr.mk pos seed))).kind)=((cdE code tn an (pg1 code (Sr.mk pos seed))).kind)∧(((cdE code tn an (pg1 code (Sr.mk pos seed))).num)=((cdE code tn an (pg1 code (Sr.mk pos seed))).num)∧((7200:Nat)=7200∧True)))
theorem e9b(n:Nat)(deep:Int)(tn:Int)(an:Int)(left:Int)(code:List Int)(pos:Int)(seed:Int):awp (a2s [] [b8l,c0b,b3w,a5p] [] [22,55,61,68,70,76,80,83,85,91,95,99,104,105] [] [] [] [a1j,a4o,a8p n]) (a0j a7w) (d0d deep tn an left code pos seed) 0 (b1t (a2s [] [b8l,c0b,b3w,a5p] [] [22,55,61,68,70,76,80,83,85,91,95,99,104,105] [] [] [] [a1j,a4o,a8p n]) a7w [[.p 1, .d (.int .i64), .d (.int .i64), .d (.int .i64)],[.d (.slice (.int .u8)), .d (.int .i64), .d (.int .u64)]] fun r ds=>a1f r [⟨(.st .prog),(pgG code tn an deep.toNat (Sr.mk pos seed) left).p⟩]∧b5l ds [[⟨(.int .i64),tn⟩,⟨(.int .i64),an⟩,⟨(.int .i64),(pgG code tn an deep.toNat (Sr.mk pos seed) left).left⟩],[⟨(.slice (.int .u8)),code⟩,⟨(.int .i64),(pgG code tn an deep.toNat (Sr.mk pos seed) left).s.pos⟩,⟨(.int .u64),(pgG code tn an deep.toNat (Sr.mk pos seed) left).s.seed⟩]]) (a3e a7w [.box 0, .val ⟨(.int .i64),deep⟩] [[.p 1, .d (.int .i64), .d (.int .i64), .d (.int .i64)],[.d (.slice (.int .u8)), .d (.int .i64), .d (.int .u64)]] [[⟨(.int .i64),tn⟩,⟨(.int .i64),an⟩,⟨(.int .i64),left⟩],[⟨(.slice (.int .u8)),code⟩,⟨(.int .i64),pos⟩,⟨(.int .u64),seed⟩]]) =
 ((a0c left →
 (a0c (left - (1:Int))∧((a0z code (Sr.mk pos seed) 999999000∧(12:Int)≤1000000)∧((a0c (left - (1:Int)) →
 (((decide ((left - (1:Int))<(1:Int)))=false →
 (((decide (deep<(1:Int)))=false →
 (c7l deep tn an left code pos seed))∧((decide (deep<(1:Int)))=(!false) →
 (c7m deep tn an left code pos seed))))∧((decide ((left - (1:Int))<(1:Int)))=(!false) →
 ((true=false →
 (c7l deep tn an left code pos seed))∧(true=(!false) →
 (c7m deep tn an left code pos seed))))))∧(∀ u1:Unit,(InP code deep left (Sr.mk pos seed) →
 ((((decide ((pgK code (Sr.mk pos seed))<(6:Int)))=true →
 ((a0c (deep - (1:Int))∧(((deep - (1:Int)).toNat<n∧a0z code (pg1 code (Sr.mk pos seed)) (900000000 - 300 * (wG (deep - (1:Int)).toNat:Int))∧(0≤tn∧tn≤3)∧(0≤an∧an≤4)∧(deep - (1:Int))≤10 ∧ -1000000+(wG (deep - (1:Int)).toNat:Int)≤(left - 1)∧(left - 1)≤1000000)∧(∃ u2:Unit,((InP code deep left (Sr.mk pos seed)∧pgK code (Sr.mk pos seed)<6)∧((True∧(deep=deep∧(True∧((pgK code (Sr.mk pos seed))=(pgK code (Sr.mk pos seed))∧(True∧True)))))∧((True∧(tn=tn∧(an=an∧(((pgG code tn an (deep - (1:Int)).toNat (pg1 code (Sr.mk pos seed)) (left - 1)).left)=((pgA code tn an deep left (Sr.mk pos seed)).left)∧True))))∧((code=code∧(((pgG code tn an (deep - (1:Int)).toNat (pg1 code (Sr.mk pos seed)) (left - 1)).s.pos)=((pgA code tn an deep left (Sr.mk pos seed)).s.pos)∧(((pgG code tn an (deep - (1:Int)).toNat (pg1 code (Sr.mk pos seed)) (left - 1)).s.seed)=((pgA code tn an deep left (Sr.mk pos seed)).s.seed)∧True)))∧((((pgG code tn an (deep - (1:Int)).toNat (pg1 code (Sr.mk pos seed)) (left - 1)).p).kind=((pgA code tn an deep left (Sr.mk pos seed)).p.kind)∧(((pgG code tn an (deep - (1:Int)).toNat (pg1 code (Sr.mk pos seed)) (left - 1)).p).num=((pgA code tn an deep left (Sr.mk pos seed)).p.num)∧(((pgG code tn an (deep - (1:Int)).toNat (pg1 code (Sr.mk pos seed)) (left - 1)).p).cond.kind=((pgA code tn an deep left (Sr.mk pos seed)).p.cond.kind)∧(((pgG code tn an (deep - (1:Int)).toNat (pg1 code (Sr.mk pos seed)) (left - 1)).p).cond.num=((pgA code tn an deep left (Sr.mk pos seed)).p.cond.num)∧(True∧(True∧True))))))∧(((pgG code tn an (deep - (1:Int)).toNat (pg1 code (Sr.mk pos seed)) (left - 1)).p).cond.kids=((pgA code tn an deep left (Sr.mk pos seed)).p.cond.kids)∧(((pgG code tn an (deep - (1:Int)).toNat (pg1 code (Sr.mk pos seed)) (left - 1)).p).kids=((pgA code tn an deep left (Sr.mk pos seed)).p.kids)∧(((0:Int)=(0:Int)∧((0:Int)=(0:Int)∧((0:Int)=(0:Int)∧((0:Int)=(0:Int)∧(True∧(True∧True))))))∧True)))))))))))∧(∀ u2:Unit,((InP code deep left (Sr.mk pos seed)∧pgK code (Sr.mk pos seed)<6) →
 ((a0c (deep - (1:Int))∧(((deep - (1:Int)).toNat<n∧a0z code (Sr.mk ((pgA code tn an deep left (Sr.mk pos seed)).s.pos) ((pgA code tn an deep left (Sr.mk pos seed)).s.seed)) (900000000 - 300 * (wG (deep - (1:Int)).toNat:Int))∧(0≤tn∧tn≤3)∧(0≤an∧an≤4)∧(deep - (1:Int))≤10 ∧ -1000000+(wG (deep - (1:Int)).toNat:Int)≤((pgA code tn an deep left (Sr.mk pos seed)).left)∧((pgA code tn an deep left (Sr.mk pos seed)).left)≤1000000)∧(∃ u3:Unit,((InP code deep left (Sr.mk pos seed)∧pgK code (Sr.mk pos seed)<6)∧((True∧(deep=deep∧(True∧((pgK code (Sr.mk pos seed))=(pgK code (Sr.mk pos seed))∧(True∧(True∧True))))))∧((True∧(tn=tn∧(an=an∧(((pgG code tn an (deep - (1:Int)).toNat (Sr.mk ((pgA code tn an deep left (Sr.mk pos seed)).s.pos) ((pgA code tn an deep left (Sr.mk pos seed)).s.seed)) ((pgA code tn an deep left (Sr.mk pos seed)).left)).left)=((pgN code tn an deep (pgA code tn an deep left (Sr.mk pos seed))).left)∧True))))∧((code=code∧(((pgG code tn an (deep - (1:Int)).toNat (Sr.mk ((pgA code tn an deep left (Sr.mk pos seed)).s.pos) ((pgA code tn an deep left (Sr.mk pos seed)).s.seed)) ((pgA code tn an deep left (Sr.mk pos seed)).left)).s.pos)=((pgN code tn an deep (pgA code tn an deep left (Sr.mk pos seed))).s.pos)∧(((pgG code tn an (deep - (1:Int)).toNat (Sr.mk ((pgA code tn an deep left (Sr.mk pos seed)).s.pos) ((pgA code tn an deep left (Sr.mk pos seed)).s.seed)) ((pgA code tn an deep left (Sr.mk pos seed)).left)).s.seed)=((pgN code tn an deep (pgA code tn an deep left (Sr.mk pos seed))).s.seed)∧True)))∧((((pgG code tn an (deep - (1:Int)).toNat (Sr.mk ((pgA code tn an deep left (Sr.mk pos seed)).s.pos) ((pgA code tn an deep left (Sr.mk pos seed)).s.seed)) ((pgA code tn an deep left (Sr.mk pos seed)).left)).p).kind=((pgN code tn an deep (pgA code tn an deep left (Sr.mk pos seed))).p.kind)∧(((pgG code tn an (deep - (1:Int)).toNat (Sr.mk ((pgA code tn an deep left (Sr.mk pos seed)).s.pos) ((pgA code tn an deep left (Sr.mk pos seed)).s.seed)) ((pgA code tn an deep left (Sr.mk pos seed)).left)).p).num=((pgN code tn an deep (pgA code tn an deep left (Sr.mk pos seed))).p.num)∧(((pgG code tn an (deep - (1:Int)).toNat (Sr.mk ((pgA code tn an deep left (Sr.mk pos seed)).s.pos) ((pgA code tn an deep left (Sr.mk pos seed)).s.seed)) ((pgA code tn an deep left (Sr.mk pos seed)).left)).p).cond.kind=((pgN code tn an deep (pgA code tn an deep left (Sr.mk pos seed))).p.cond.kind)∧(((pgG code tn an (deep - (1:Int)).toNat (Sr.mk ((pgA code tn an deep left (Sr.mk pos seed)).s.pos) ((pgA code tn an deep left (Sr.mk pos seed)).s.seed)) ((pgA code tn an deep left (Sr.mk pos seed)).left)).p).cond.num=((pgN code tn an deep (pgA code tn an deep left (Sr.mk pos seed))).p.cond.num)∧(True∧(True∧True))))))∧(((pgG code tn an (deep - (1:Int)).toNat (Sr.mk ((pgA code tn an deep left (Sr.mk pos seed)).s.pos) ((pgA code tn an deep left (Sr.mk pos seed)).s.seed)) ((pgA code tn an deep left (Sr.mk pos seed)).left)).p).cond.kids=((pgN code tn an deep (pgA code tn an deep left (Sr.mk pos seed))).p.cond.kids)∧(((pgG code tn an (deep - (1:Int)).toNat (Sr.mk ((pgA code tn an deep left (Sr.mk pos seed)).s.pos) ((pgA code tn an deep left (Sr.mk pos seed)).s.seed)) ((pgA code tn an deep left (Sr.mk pos seed)).left)).p).kids=((pgN code tn an deep (pgA code tn an deep left (Sr.mk pos seed))).p.kids)∧((((pgA code tn an deep left (Sr.mk pos seed)).p.kind)=((pgA code tn an deep left (Sr.mk pos seed)).p.kind)∧(((pgA code tn an deep left (Sr.mk pos seed)).p.num)=((pgA code tn an deep left (Sr.mk pos seed)).p.num)∧(((pgA code tn an deep left (Sr.mk pos seed)).p.cond.kind)=((pgA code tn an deep left (Sr.mk pos seed)).p.cond.kind)∧(((pgA code tn an deep left (Sr.mk pos seed)).p.cond.num)=((pgA code tn an deep left (Sr.mk pos seed)).p.cond.num)∧(True∧(True∧True))))))∧(((pgA code tn an deep left (Sr.mk pos seed)).p.cond.kids)=((pgA code tn an deep left (Sr.mk pos seed)).p.cond.kids)∧(((pgA code tn an deep left (Sr.mk pos seed)).p.kids)=((pgA code tn an deep left (Sr.mk pos seed)).p.kids)∧(((0:Int)=(0:Int)∧((0:Int)=(0:Int)∧((0:Int)=(0:Int)∧((0:Int)=(0:Int)∧(True∧(True∧True))))))∧True))))))))))))))∧(∀ u3:Unit,((InP code deep left (Sr.mk pos seed)∧pgK code (Sr.mk pos seed)<6) →
 ((a2e (a0d.mk ((pgA code tn an deep left (Sr.mk pos seed)).p.kind) ((pgA code tn an deep left (Sr.mk pos seed)).p.num) (a0b.mk ((pgA code tn an deep left (Sr.mk pos seed)).p.cond.kind) ((pgA code tn an deep left (Sr.mk pos seed)).p.cond.num) ((pgA code tn an deep left (Sr.mk pos seed)).p.cond.kids)) ((pgA code tn an deep left (Sr.mk pos seed)).p.kids))≤1048576∧a2e (a0d.mk ((pgN code tn an deep (pgA code tn an deep left (Sr.mk pos seed))).p.kind) ((pgN code tn an deep (pgA code tn an deep left (Sr.mk pos seed))).p.num) (a0b.mk ((pgN code tn an deep (pgA code tn an deep left (Sr.mk pos seed))).p.cond.kind) ((pgN code tn an deep (pgA code tn an deep left (Sr.mk pos seed))).p.cond.num) ((pgN code tn an deep (pgA code tn an deep left (Sr.mk pos seed))).p.cond.kids)) ((pgN code tn an deep (pgA code tn an deep left (Sr.mk pos seed))).p.kids))≤1048576)∧((a1a (a0d.mk 5 0 zE [(a0d.mk ((pgA code tn an deep left (Sr.mk pos seed)).p.kind) ((pgA code tn an deep left (Sr.mk pos seed)).p.num) (a0b.mk ((pgA code tn an deep left (Sr.mk pos seed)).p.cond.kind) ((pgA code tn an deep left (Sr.mk pos seed)).p.cond.num) ((pgA code tn an deep left (Sr.mk pos seed)).p.cond.kids)) ((pgA code tn an deep left (Sr.mk pos seed)).p.kids)),(a0d.mk ((pgN code tn an deep (pgA code tn an deep left (Sr.mk pos seed))).p.kind) ((pgN code tn an deep (pgA code tn an deep left (Sr.mk pos seed))).p.num) (a0b.mk ((pgN code tn an deep (pgA code tn an deep left (Sr.mk pos seed))).p.cond.kind) ((pgN code tn an deep (pgA code tn an deep left (Sr.mk pos seed))).p.cond.num) ((pgN code tn an deep (pgA code tn an deep left (Sr.mk pos seed))).p.cond.kids)) ((pgN code tn an deep (pgA code tn an deep left (Sr.mk pos seed))).p.kids))]))=((pgG code tn an deep.toNat (Sr.mk pos seed) left).p)∧((tn=tn∧(an=an∧((pgN code tn an deep (pgA code tn an deep left (Sr.mk pos seed))).left)=((pgG code tn an deep.toNat (Sr.mk pos seed) left).left)))∧((code=code∧(((pgN code tn an deep (pgA code tn an deep left (Sr.mk pos seed))).s.pos)=((pgG code tn an deep.toNat (Sr.mk pos seed) left).s.pos)∧((pgN code tn an deep (pgA code tn an deep left (Sr.mk pos seed))).s.seed)=((pgG code tn an deep.toNat (Sr.mk pos seed) left).s.seed)))∧True)))))))))))∧((decide ((pgK code (Sr.mk pos seed))<(6:Int)))=false →
 (∃ u2:Unit,((InP code deep left (Sr.mk pos seed)∧¬ pgK code (Sr.mk pos seed)<6)∧((True∧(deep=deep∧(True∧((pgK code (Sr.mk pos seed))=(pgK code (Sr.mk pos seed))∧True))))∧((True∧(tn=tn∧(an=an∧((left - 1)=(left - 1)∧True))))∧((code=code∧(((pg1 code (Sr.mk pos seed)).pos)=((pg1 code (Sr.mk pos seed)).pos)∧(((pg1 code (Sr.mk pos seed)).seed)=((pg1 code (Sr.mk pos seed)).seed)∧True)))∧(((0:Int)=(0:Int)∧((0:Int)=(0:Int)∧((0:Int)=(0:Int)∧((0:Int)=(0:Int)∧(True∧(True∧True))))))∧True))))))))∧(∀ u2:Unit,((InP code deep left (Sr.mk pos seed)∧¬ pgK code (Sr.mk pos seed)<6) →
 (((a0z code (pg1 code (Sr.mk pos seed)) 970000000∧(0≤tn∧tn≤3)∧(0≤an∧an≤4))∧(∃ u3:Unit,((InP code deep left (Sr.mk pos seed)∧¬ pgK code (Sr.mk pos seed)<6)∧((True∧(deep=deep∧(True∧((pgK code (Sr.mk pos seed))=(pgK code (Sr.mk pos seed))∧(True∧True)))))∧((True∧(tn=tn∧(an=an∧((left - 1)=(left - 1)∧True))))∧((code=code∧(((cdN code tn an (pg1 code (Sr.mk pos seed))).pos)=((cdN code tn an (pg1 code (Sr.mk pos seed))).pos)∧(((cdN code tn an (pg1 code (Sr.mk pos seed))).seed)=((cdN code tn an (pg1 code (Sr.mk pos seed))).seed)∧True)))∧(((cdE code tn an (pg1 code (Sr.mk pos seed))).kind=((cdE code tn an (pg1 code (Sr.mk pos seed))).kind)∧((cdE code tn an (pg1 code (Sr.mk pos seed))).num=((cdE code tn an (pg1 code (Sr.mk pos seed))).num)∧(True∧True)))∧((cdE code tn an (pg1 code (Sr.mk pos seed))).kids=((cdE code tn an (pg1 code (Sr.mk pos seed))).kids)∧(((0:Int)=(0:Int)∧((0:Int)=(0:Int)∧((0:Int)=(0:Int)∧((0:Int)=(0:Int)∧(True∧(True∧True))))))∧True)))))))))∧(∀ u3:Unit,((InP code deep left (Sr.mk pos seed)∧¬ pgK code (Sr.mk pos seed)<6) →
 (((decide ((pgK code (Sr.mk pos seed))<(9:Int)))=true →
 ((a0c (deep - (1:Int))∧(((deep - (1:Int)).toNat<n∧a0z code (cdN code tn an (pg1 code (Sr.mk pos seed))) (900000000 - 300 * (wG (deep - (1:Int)).toNat:Int))∧(0≤tn∧tn≤3)∧(0≤an∧an≤4)∧(deep - (1:Int))≤10 ∧ -1000000+(wG (deep - (1:Int)).toNat:Int)≤(left - 1)∧(left - 1)≤1000000)∧(∃ u4:Unit,(((InP code deep left (Sr.mk pos seed)∧¬ pgK code (Sr.mk pos seed)<6)∧pgK code (Sr.mk pos seed)<9)∧((True∧(deep=deep∧(True∧(True∧(True∧True)))))∧((True∧(tn=tn∧(an=an∧(((pgG code tn an (deep - (1:Int)).toNat (cdN code tn an (pg1 code (Sr.mk pos seed))) (left - 1)).left)=((pgC code tn an deep left (Sr.mk pos seed)).left)∧True))))∧((code=code∧(((pgG code tn an (deep - (1:Int)).toNat (cdN code tn an (pg1 code (Sr.mk pos seed))) (left - 1)).s.pos)=((pgC code tn an deep left (Sr.mk pos seed)).s.pos)∧(((pgG code tn an (deep - (1:Int)).toNat (cdN code tn an (pg1 code (Sr.mk pos seed))) (left - 1)).s.seed)=((pgC code tn an deep left (Sr.mk pos seed)).s.seed)∧True)))∧((((pgG code tn an (deep - (1:Int)).toNat (cdN code tn an (pg1 code (Sr.mk pos seed))) (left - 1)).p).kind=((pgC code tn an deep left (Sr.mk pos seed)).p.kind)∧(((pgG code tn an (deep - (1:Int)).toNat (cdN code tn an (pg1 code (Sr.mk pos seed))) (left - 1)).p).num=((pgC code tn an deep left (Sr.mk pos seed)).p.num)∧(((pgG code tn an (deep - (1:Int)).toNat (cdN code tn an (pg1 code (Sr.mk pos seed))) (left - 1)).p).cond.kind=((pgC code tn an deep left (Sr.mk pos seed)).p.cond.kind)∧(((pgG code tn an (deep - (1:Int)).toNat (cdN code tn an (pg1 code (Sr.mk pos seed))) (left - 1)).p).cond.num=((pgC code tn an deep left (Sr.mk pos seed)).p.cond.num)∧(True∧(True∧True))))))∧(((pgG code tn an (deep - (1:Int)).toNat (cdN code tn an (pg1 code (Sr.mk pos seed))) (left - 1)).p).cond.kids=((pgC code tn an deep left (Sr.mk pos seed)).p.cond.kids)∧(((pgG code tn an (deep - (1:Int)).toNat (cdN code tn an (pg1 code (Sr.mk pos seed))) (left - 1)).p).kids=((pgC code tn an deep left (Sr.mk pos seed)).p.kids)∧(c7n tn an code pos seed)))))))))))∧(∀ u4:Unit,(((InP code deep left (Sr.mk pos seed)∧¬ pgK code (Sr.mk pos seed)<6)∧pgK code (Sr.mk pos seed)<9) →
 ((a0c (deep - (1:Int))∧(((deep - (1:Int)).toNat<n∧a0z code (Sr.mk ((pgC code tn an deep left (Sr.mk pos seed)).s.pos) ((pgC code tn an deep left (Sr.mk pos seed)).s.seed)) (900000000 - 300 * (wG (deep - (1:Int)).toNat:Int))∧(0≤tn∧tn≤3)∧(0≤an∧an≤4)∧(deep - (1:Int))≤10 ∧ -1000000+(wG (deep - (1:Int)).toNat:Int)≤((pgC code tn an deep left (Sr.mk pos seed)).left)∧((pgC code tn an deep left (Sr.mk pos seed)).left)≤1000000)∧(∃ u5:Unit,(((InP code deep left (Sr.mk pos seed)∧¬ pgK code (Sr.mk pos seed)<6)∧pgK code (Sr.mk pos seed)<9)∧((True∧(deep=deep∧(True∧(True∧(True∧(True∧True))))))∧((True∧(tn=tn∧(an=an∧(((pgG code tn an (deep - (1:Int)).toNat (Sr.mk ((pgC code tn an deep left (Sr.mk pos seed)).s.pos) ((pgC code tn an deep left (Sr.mk pos seed)).s.seed)) ((pgC code tn an deep left (Sr.mk pos seed)).left)).left)=((pgN code tn an deep (pgC code tn an deep left (Sr.mk pos seed))).left)∧True))))∧((code=code∧(((pgG code tn an (deep - (1:Int)).toNat (Sr.mk ((pgC code tn an deep left (Sr.mk pos seed)).s.pos) ((pgC code tn an deep left (Sr.mk pos seed)).s.seed)) ((pgC code tn an deep left (Sr.mk pos seed)).left)).s.pos)=((pgN code tn an deep (pgC code tn an deep left (Sr.mk pos seed))).s.pos)∧(((pgG code tn an (deep - (1:Int)).toNat (Sr.mk ((pgC code tn an deep left (Sr.mk pos seed)).s.pos) ((pgC code tn an deep left (Sr.mk pos seed)).s.seed)) ((pgC code tn an deep left (Sr.mk pos seed)).left)).s.seed)=((pgN code tn an deep (pgC code tn an deep left (Sr.mk pos seed))).s.seed)∧True)))∧((((pgG code tn an (deep - (1:Int)).toNat (Sr.mk ((pgC code tn an deep left (Sr.mk pos seed)).s.pos) ((pgC code tn an deep left (Sr.mk pos seed)).s.seed)) ((pgC code tn an deep left (Sr.mk pos seed)).left)).p).kind=((pgN code tn an deep (pgC code tn an deep left (Sr.mk pos seed))).p.kind)∧(((pgG code tn an (deep - (1:Int)).toNat (Sr.mk ((pgC code tn an deep left (Sr.mk pos seed)).s.pos) ((pgC code tn an deep left (Sr.mk pos seed)).s.seed)) ((pgC code tn an deep left (Sr.mk pos seed)).left)).p).num=((pgN code tn an deep (pgC code tn an deep left (Sr.mk pos seed))).p.num)∧(((pgG code tn an (deep - (1:Int)).toNat (Sr.mk ((pgC code tn an deep left (Sr.mk pos seed)).s.pos) ((pgC code tn an deep left (Sr.mk pos seed)).s.seed)) ((pgC code tn an deep left (Sr.mk pos seed)).left)).p).cond.kind=((pgN code tn an deep (pgC code tn an deep left (Sr.mk pos seed))).p.cond.kind)∧(((pgG code tn an (deep - (1:Int)).toNat (Sr.mk ((pgC code tn an deep left (Sr.mk pos seed)).s.pos) ((pgC code tn an deep left (Sr.mk pos seed)).s.seed)) ((pgC code tn an deep left (Sr.mk pos seed)).left)).p).cond.num=((pgN code tn an deep (pgC code tn an deep left (Sr.mk pos seed))).p.cond.num)∧(True∧(True∧True))))))∧(((pgG code tn an (deep - (1:Int)).toNat (Sr.mk ((pgC code tn an deep left (Sr.mk pos seed)).s.pos) ((pgC code tn an deep left (Sr.mk pos seed)).s.seed)) ((pgC code tn an deep left (Sr.mk pos seed)).left)).p).cond.kids=((pgN code tn an deep (pgC code tn an deep left (Sr.mk pos seed))).p.cond.kids)∧(((pgG code tn an (deep - (1:Int)).toNat (Sr.mk ((pgC code tn an deep left (Sr.mk pos seed)).s.pos) ((pgC code tn an deep left (Sr.mk pos seed)).s.seed)) ((pgC code tn an deep left (Sr.mk pos seed)).left)).p).kids=((pgN code tn an deep (pgC code tn an deep left (Sr.mk pos seed))).p.kids)∧((((pgC code tn an deep left (Sr.mk pos seed)).p.kind)=((pgC code tn an deep left (Sr.mk pos seed)).p.kind)∧(((pgC code tn an deep left (Sr.mk pos seed)).p.num)=((pgC code tn an deep left (Sr.mk pos seed)).p.num)∧(((pgC code tn an deep left (Sr.mk pos seed)).p.cond.kind)=((pgC code tn an deep left (Sr.mk pos seed)).p.cond.kind)∧(((pgC code tn an deep left (Sr.mk pos seed)).p.cond.num)=((pgC code tn an deep left (Sr.mk pos seed)).p.cond.num)∧(True∧(True∧True))))))∧(((pgC code tn an deep left (Sr.mk pos seed)).p.cond.kids)=((pgC code tn an deep left (Sr.mk pos seed)).p.cond.kids)∧(((pgC code tn an deep left (Sr.mk pos seed)).p.kids)=((pgC code tn an deep left (Sr.mk pos seed)).p.kids)∧(c7n tn an code pos seed))))))))))))))∧(∀ u5:Unit,(((InP code deep left (Sr.mk pos seed)∧¬ pgK code (Sr.mk pos seed)<6)∧pgK code (Sr.mk pos seed)<9) →
 ((a2m (a0b.mk ((cdE code tn an (pg1 code (Sr.mk pos seed))).kind) ((cdE code tn an (pg1 code (Sr.mk pos seed))).num) ((cdE code tn an (pg1 code (Sr.mk pos seed))).kids))≤1048576∧a2e (a0d.mk ((pgC code tn an deep left (Sr.mk pos seed)).p.kind) ((pgC code tn an deep left (Sr.mk pos seed)).p.num) (a0b.mk ((pgC code tn an deep left (Sr.mk pos seed)).p.cond.kind) ((pgC code tn an deep left (Sr.mk pos seed)).p.cond.num) ((pgC code tn an deep left (Sr.mk pos seed)).p.cond.kids)) ((pgC code tn an deep left (Sr.mk pos seed)).p.kids))≤1048576∧a2e (a0d.mk ((pgN code tn an deep (pgC code tn an deep left (Sr.mk pos seed))).p.kind) ((pgN code tn an deep (pgC code tn an deep left (Sr.mk pos seed))).p.num) (a0b.mk ((pgN code tn an deep (pgC code tn an deep left (Sr.mk pos seed))).p.cond.kind) ((pgN code tn an deep (pgC code tn an deep left (Sr.mk pos seed))).p.cond.num) ((pgN code tn an deep (pgC code tn an deep left (Sr.mk pos seed))).p.cond.kids)) ((pgN code tn an deep (pgC code tn an deep left (Sr.mk pos seed))).p.kids))≤1048576)∧((a1a (a0d.mk 6 0 (a0b.mk ((cdE code tn an (pg1 code (Sr.mk pos seed))).kind) ((cdE code tn an (pg1 code (Sr.mk pos seed))).num) ((cdE code tn an (pg1 code (Sr.mk pos seed))).kids)) [(a0d.mk ((pgC code tn an deep left (Sr.mk pos seed)).p.kind) ((pgC code tn an deep left (Sr.mk pos seed)).p.num) (a0b.mk ((pgC code tn an deep left (Sr.mk pos seed)).p.cond.kind) ((pgC code tn an deep left (Sr.mk pos seed)).p.cond.num) ((pgC code tn an deep left (Sr.mk pos seed)).p.cond.kids)) ((pgC code tn an deep left (Sr.mk pos seed)).p.kids)),(a0d.mk ((pgN code tn an deep (pgC code tn an deep left (Sr.mk pos seed))).p.kind) ((pgN code tn an deep (pgC code tn an deep left (Sr.mk pos seed))).p.num) (a0b.mk ((pgN code tn an deep (pgC code tn an deep left (Sr.mk pos seed))).p.cond.kind) ((pgN code tn an deep (pgC code tn an deep left (Sr.mk pos seed))).p.cond.num) ((pgN code tn an deep (pgC code tn an deep left (Sr.mk pos seed))).p.cond.kids)) ((pgN code tn an deep (pgC code tn an deep left (Sr.mk pos seed))).p.kids))]))=((pgG code tn an deep.toNat (Sr.mk pos seed) left).p)∧((tn=tn∧(an=an∧((pgN code tn an deep (pgC code tn an deep left (Sr.mk pos seed))).left)=((pgG code tn an deep.toNat (Sr.mk pos seed) left).left)))∧((code=code∧(((pgN code tn an deep (pgC code tn an deep left (Sr.mk pos seed))).s.pos)=((pgG code tn an deep.toNat (Sr.mk pos seed) left).s.pos)∧((pgN code tn an deep (pgC code tn an deep left (Sr.mk pos seed))).s.seed)=((pgG code tn an deep.toNat (Sr.mk pos seed) left).s.seed)))∧True)))))))))))∧((decide ((pgK code (Sr.mk pos seed))<(9:Int)))=false →
 (a0c deep →
 ((b7w tn an code pos seed)∧(((400000:Nat)=400000∧(0:Nat)=0)∧(deep=deep∧(a0c (deep - (1:Int))∧((b7w tn an code pos seed)∧(((400000:Nat)=400000∧(0:Nat)=0)∧(((deep - (1:Int)).toNat<n∧a0z code (cdN code tn an (pg1 code (Sr.mk pos seed))) (900000000 - 300 * (wG (deep - (1:Int)).toNat:Int))∧(0≤tn∧tn≤3)∧(0≤an∧an≤4)∧(deep - (1:Int))≤10 ∧ -1000000+(wG (deep - (1:Int)).toNat:Int)≤(left - 1)∧(left - 1)≤1000000)∧((b7w tn an code pos seed)∧((a2m (a0b.mk ((cdE code tn an (pg1 code (Sr.mk pos seed))).kind) ((cdE code tn an (pg1 code (Sr.mk pos seed))).num) ((cdE code tn an (pg1 code (Sr.mk pos seed))).kids))≤1048576∧a2e (a1a ((pgG code tn an (deep - (1:Int)).toNat (cdN code tn an (pg1 code (Sr.mk pos seed))) (left - 1)).p))≤1048576)∧((a1a (a0d.mk 7 0 (a0b.mk ((cdE code tn an (pg1 code (Sr.mk pos seed))).kind) ((cdE code tn an (pg1 code (Sr.mk pos seed))).num) ((cdE code tn an (pg1 code (Sr.mk pos seed))).kids)) [(a1a ((pgG code tn an (deep - (1:Int)).toNat (cdN code tn an (pg1 code (Sr.mk pos seed))) (left - 1)).p))]))=((pgG code tn an deep.toNat (Sr.mk pos seed) left).p)∧((tn=tn∧(an=an∧((pgG code tn an (deep - (1:Int)).toNat (cdN code tn an (pg1 code (Sr.mk pos seed))) (left - 1)).left)=((pgG code tn an deep.toNat (Sr.mk pos seed) left).left)))∧((code=code∧(((pgG code tn an (deep - (1:Int)).toNat (cdN code tn an (pg1 code (Sr.mk pos seed))) (left - 1)).s.pos)=((pgG code tn an deep.toNat (Sr.mk pos seed) left).s.pos)∧((pgG code tn an (deep - (1:Int)).toNat (cdN code tn an (pg1 code (Sr.mk pos seed))) (left - 1)).s.seed)=((pgG code tn an deep.toNat (Sr.mk pos seed) left).s.seed)))∧True)))))))))))))))))))))))))))):=by kernel_rfl
theorem e8g(n:Nat)(hE:a0o [])(hO:a5c [b8l,c0b,b3w,a5p])(hM:a5s [])(hS:a5d [a1j,a4o,a8p n]):SCt.Good (a8p (n+1)):=by
 refine⟨a0l b4c rfl (by decide),?_⟩
 show ∀ (deep:Int) (tn:Int) (an:Int) (left:Int) (code:List Int) (pos:Int) (seed:Int),(deep.toNat<n+1∧a0z code (Sr.mk pos seed) (900000000 - 300 * (wG deep.toNat:Int))∧(0≤tn∧tn≤3)∧(0≤an∧an≤4)∧deep≤10 ∧ -1000000+(wG deep.toNat:Int)≤left∧left≤1000000)→c1o prog b6n [[.p 1, .d (.int .i64), .d (.int .i64), .d (.int .i64)],[.d (.slice (.int .u8)), .d (.int .i64), .d (.int .u64)]] [.box 0, .val ⟨(.int .i64),deep⟩] [[⟨(.int .i64),tn⟩,⟨(.int .i64),an⟩,⟨(.int .i64),left⟩],[⟨(.slice (.int .u8)),code⟩,⟨(.int .i64),pos⟩,⟨(.int .u64),seed⟩]] [⟨(.st .prog),(pgG code tn an deep.toNat (Sr.mk pos seed) left).p⟩] [[⟨(.int .i64),tn⟩,⟨(.int .i64),an⟩,⟨(.int .i64),(pgG code tn an deep.toNat (Sr.mk pos seed) left).left⟩],[⟨(.slice (.int .u8)),code⟩,⟨(.int .i64),(pgG code tn an deep.toNat (Sr.mk pos seed) left).s.pos⟩,⟨(.int .u64),(pgG code tn an deep.toNat (Sr.mk pos seed) left).s.seed⟩]]
 intro deep tn an left code pos seed hp
 refine b0v (own:=[22,55,61,68,70,76,80,83,85,91,95,99,104,105]) (wr:=[]) (cl:=[]) (ro:=[]) hE hO hM hS b4c e4c (d0d deep tn an left code pos seed) rfl rfl ?_
 rewrite [e9b n deep tn an left code pos seed]
 obtain⟨hlt,hs,ht,ha,hd10,hl0,hl1⟩:=hp
 have F0:=fun hd=>i7u code tn an deep left (Sr.mk pos seed) hd hd10 hs hl0 hl1 ht ha
 have hw:=c5i deep.toNat
 refine fun a0=>⟨?_,⟨?_,⟨fun a1=>⟨fun a2=>⟨fun a3=>⟨fun a4=>fun a5=>⟨fun a6=>⟨fun a7=>fun a8=>⟨?_,⟨?_,⟨⟨rfl,⟨rfl,?_⟩⟩,⟨⟨rfl,⟨?_,?_⟩⟩,trivial⟩⟩⟩⟩,fun a7=>⟨?_,⟨fun a8=>⟨?_,⟨⟨rfl,⟨rfl,?_⟩⟩,⟨⟨rfl,⟨?_,?_⟩⟩,trivial⟩⟩⟩,fun a8=>⟨fun a9=>⟨?_,⟨?_,⟨⟨rfl,⟨rfl,?_⟩⟩,⟨⟨rfl,⟨?_,?_⟩⟩,trivial⟩⟩⟩⟩,fun a9=>⟨?_,⟨⟨rfl,⟨rfl,?_⟩⟩,⟨⟨rfl,⟨?_,?_⟩⟩,trivial⟩⟩⟩⟩⟩⟩⟩,fun a6=>⟨fun a7=>fun a8=>⟨?_,⟨?_,⟨⟨rfl,⟨rfl,?_⟩⟩,⟨⟨rfl,⟨?_,?_⟩⟩,trivial⟩⟩⟩⟩,fun a7=>⟨?_,⟨fun a8=>⟨?_,⟨⟨rfl,⟨rfl,?_⟩⟩,⟨⟨rfl,⟨?_,?_⟩⟩,trivial⟩⟩⟩,fun a8=>⟨fun a9=>⟨?_,⟨?_,⟨⟨rfl,⟨rfl,?_⟩⟩,⟨⟨rfl,⟨?_,?_⟩⟩,trivial⟩⟩⟩⟩,fun a9=>⟨?_,⟨⟨rfl,⟨rfl,?_⟩⟩,⟨⟨rfl,⟨?_,?_⟩⟩,trivial⟩⟩⟩⟩⟩⟩⟩⟩,fun a4=>⟨(),⟨?_,⟨⟨trivial,⟨rfl,⟨trivial,⟨?_,trivial⟩⟩⟩⟩,⟨⟨trivial,⟨rfl,⟨rfl,⟨?_,trivial⟩⟩⟩⟩,⟨⟨rfl,⟨?_,⟨?_,trivial⟩⟩⟩,⟨⟨rfl,⟨rfl,⟨rfl,⟨rfl,⟨trivial,⟨trivial,trivial⟩⟩⟩⟩⟩⟩,trivial⟩⟩⟩⟩⟩⟩⟩,fun a3=>⟨fun a4=>fun a5=>⟨fun a6=>⟨fun a7=>fun a8=>⟨?_,⟨?_,⟨⟨rfl,⟨rfl,?_⟩⟩,⟨⟨rfl,⟨?_,?_⟩⟩,trivial⟩⟩⟩⟩,fun a7=>⟨?_,⟨fun a8=>⟨?_,⟨⟨rfl,⟨rfl,?_⟩⟩,⟨⟨rfl,⟨?_,?_⟩⟩,trivial⟩⟩⟩,fun a8=>⟨fun a9=>⟨?_,⟨?_,⟨⟨rfl,⟨rfl,?_⟩⟩,⟨⟨rfl,⟨?_,?_⟩⟩,trivial⟩⟩⟩⟩,fun a9=>⟨?_,⟨⟨rfl,⟨rfl,?_⟩⟩,⟨⟨rfl,⟨?_,?_⟩⟩,trivial⟩⟩⟩⟩⟩⟩⟩,fun a6=>⟨fun a7=>fun a8=>⟨?_,⟨?_,⟨⟨rfl,⟨rfl,?_⟩⟩,⟨⟨rfl,⟨?_,?_⟩⟩,trivial⟩⟩⟩⟩,fun a7=>⟨?_,⟨fun a8=>⟨?_,⟨⟨rfl,⟨rfl,?_⟩⟩,⟨⟨rfl,⟨?_,?_⟩⟩,trivial⟩⟩⟩,fun a8=>⟨fun a9=>⟨?_,⟨?_,⟨⟨rfl,⟨rfl,?_⟩⟩,⟨⟨rfl,⟨?_,?_⟩⟩,trivial⟩⟩⟩⟩,fun a9=>⟨?_,⟨⟨rfl,⟨rfl,?_⟩⟩,⟨⟨rfl,⟨?_,?_⟩⟩,trivial⟩⟩⟩⟩⟩⟩⟩⟩,fun a4=>⟨(),⟨?_,⟨⟨trivial,⟨rfl,⟨trivial,⟨?_,trivial⟩⟩⟩⟩,⟨⟨trivial,⟨rfl,⟨rfl,⟨?_,trivial⟩⟩⟩⟩,⟨⟨rfl,⟨?_,⟨?_,trivial⟩⟩⟩,⟨⟨rfl,⟨rfl,⟨rfl,⟨rfl,⟨trivial,⟨trivial,trivial⟩⟩⟩⟩⟩⟩,trivial⟩⟩⟩⟩⟩⟩⟩⟩,fun a2=>⟨fun a3=>⟨fun a4=>fun a5=>⟨fun a6=>⟨fun a7=>fun a8=>⟨?_,⟨?_,⟨⟨rfl,⟨rfl,?_⟩⟩,⟨⟨rfl,⟨?_,?_⟩⟩,trivial⟩⟩⟩⟩,fun a7=>⟨?_,⟨fun a8=>⟨?_,⟨⟨rfl,⟨rfl,?_⟩⟩,⟨⟨rfl,⟨?_,?_⟩⟩,trivial⟩⟩⟩,fun a8=>⟨fun a9=>⟨?_,⟨?_,⟨⟨rfl,⟨rfl,?_⟩⟩,⟨⟨rfl,⟨?_,?_⟩⟩,trivial⟩⟩⟩⟩,fun a9=>⟨?_,⟨⟨rfl,⟨rfl,?_⟩⟩,⟨⟨rfl,⟨?_,?_⟩⟩,trivial⟩⟩⟩⟩⟩⟩⟩,fun a6=>⟨fun a7=>fun a8=>⟨?_,⟨?_,⟨⟨rfl,⟨rfl,?_⟩⟩,⟨⟨rfl,⟨?_,?_⟩⟩,trivial⟩⟩⟩⟩,fun a7=>⟨?_,⟨fun a8=>⟨?_,⟨⟨rfl,⟨rfl,?_⟩⟩,⟨⟨rfl,⟨?_,?_⟩⟩,trivial⟩⟩⟩,fun a8=>⟨fun a9=>⟨?_,⟨?_,⟨⟨rfl,⟨rfl,?_⟩⟩,⟨⟨rfl,⟨?_,?_⟩⟩,trivial⟩⟩⟩⟩,fun a9=>⟨?_,⟨⟨rfl,⟨rfl,?_⟩⟩,⟨⟨rfl,⟨?_,?_⟩⟩,trivial⟩⟩⟩⟩⟩⟩⟩⟩,fun a4=>⟨(),⟨?_,⟨⟨trivial,⟨rfl,⟨trivial,⟨?_,trivial⟩⟩⟩⟩,⟨⟨trivial,⟨rfl,⟨rfl,⟨?_,trivial⟩⟩⟩⟩,⟨⟨rfl,⟨?_,⟨?_,trivial⟩⟩⟩,⟨⟨rfl,⟨rfl,⟨rfl,⟨rfl,⟨trivial,⟨trivial,trivial⟩⟩⟩⟩⟩⟩,trivial⟩⟩⟩⟩⟩⟩⟩,fun a3=>⟨fun a4=>fun a5=>⟨fun a6=>⟨fun a7=>fun a8=>⟨?_,⟨?_,⟨⟨rfl,⟨rfl,?_⟩⟩,⟨⟨rfl,⟨?_,?_⟩⟩,trivial⟩⟩⟩⟩,fun a7=>⟨?_,⟨fun a8=>⟨?_,⟨⟨rfl,⟨rfl,?_⟩⟩,⟨⟨rfl,⟨?_,?_⟩⟩,trivial⟩⟩⟩,fun a8=>⟨fun a9=>⟨?_,⟨?_,⟨⟨rfl,⟨rfl,?_⟩⟩,⟨⟨rfl,⟨?_,?_⟩⟩,trivial⟩⟩⟩⟩,fun a9=>⟨?_,⟨⟨rfl,⟨rfl,?_⟩⟩,⟨⟨rfl,⟨?_,?_⟩⟩,trivial⟩⟩⟩⟩⟩⟩⟩,fun a6=>⟨fun a7=>fun a8=>⟨?_,⟨?_,⟨⟨rfl,⟨rfl,?_⟩⟩,⟨⟨rfl,⟨?_,?_⟩⟩,trivial⟩⟩⟩⟩,fun a7=>⟨?_,⟨fun a8=>⟨?_,⟨⟨rfl,⟨rfl,?_⟩⟩,⟨⟨rfl,⟨?_,?_⟩⟩,trivial⟩⟩⟩,fun a8=>⟨fun a9=>⟨?_,⟨?_,⟨⟨rfl,⟨rfl,?_⟩⟩,⟨⟨rfl,⟨?_,?_⟩⟩,trivial⟩⟩⟩⟩,fun a9=>⟨?_,⟨⟨rfl,⟨rfl,?_⟩⟩,⟨⟨rfl,⟨?_,?_⟩⟩,trivial⟩⟩⟩⟩⟩⟩⟩⟩,fun a4=>⟨(),⟨?_,⟨⟨trivial,⟨rfl,⟨trivial,⟨?_,trivial⟩⟩⟩⟩,⟨⟨trivial,⟨rfl,⟨rfl,⟨?_,trivial⟩⟩⟩⟩,⟨⟨rfl,⟨?_,⟨?_,trivial⟩⟩⟩,⟨⟨rfl,⟨rfl,⟨rfl,⟨rfl,⟨trivial,⟨trivial,trivial⟩⟩⟩⟩⟩⟩,trivial⟩⟩⟩⟩⟩⟩⟩⟩⟩,fun u1 a1=>have b1x0:=a1.d;have b1x1:=F0 a1.d;⟨⟨fun a2=>⟨⟨?_,⟨?_,⟨(),⟨?_,⟨⟨trivial,⟨rfl,⟨trivial,⟨rfl,⟨trivial,trivial⟩⟩⟩⟩⟩,⟨⟨trivial,⟨rfl,⟨rfl,⟨?_,trivial⟩⟩⟩⟩,⟨⟨rfl,⟨?_,⟨?_,trivial⟩⟩⟩,⟨⟨?_,⟨?_,⟨?_,⟨?_,⟨trivial,⟨trivial,trivial⟩⟩⟩⟩⟩⟩,⟨?_,⟨?_,⟨⟨rfl,⟨rfl,⟨rfl,⟨rfl,⟨trivial,⟨trivial,trivial⟩⟩⟩⟩⟩⟩,trivial⟩⟩⟩⟩⟩⟩⟩⟩⟩⟩⟩,fun u2=>fun a3=>⟨⟨?_,⟨?_,⟨(),⟨?_,⟨⟨trivial,⟨rfl,⟨trivial,⟨rfl,⟨trivial,⟨trivial,trivial⟩⟩⟩⟩⟩⟩,⟨⟨trivial,⟨rfl,⟨rfl,⟨?_,trivial⟩⟩⟩⟩,⟨⟨rfl,⟨?_,⟨?_,trivial⟩⟩⟩,⟨⟨?_,⟨?_,⟨?_,⟨?_,⟨trivial,⟨trivial,trivial⟩⟩⟩⟩⟩⟩,⟨?_,⟨?_,⟨⟨rfl,⟨rfl,⟨rfl,⟨rfl,⟨trivial,⟨trivial,trivial⟩⟩⟩⟩⟩⟩,⟨rfl,⟨rfl,⟨⟨rfl,⟨rfl,⟨rfl,⟨rfl,⟨trivial,⟨trivial,trivial⟩⟩⟩⟩⟩⟩,trivial⟩⟩⟩⟩⟩⟩⟩⟩⟩⟩⟩⟩⟩⟩,fun u3=>fun a4=>⟨?_,⟨?_,⟨⟨rfl,⟨rfl,?_⟩⟩,⟨⟨rfl,⟨?_,?_⟩⟩,trivial⟩⟩⟩⟩⟩⟩,fun a2=>⟨(),⟨?_,⟨⟨trivial,⟨rfl,⟨trivial,⟨rfl,trivial⟩⟩⟩⟩,⟨⟨trivial,⟨rfl,⟨rfl,⟨rfl,trivial⟩⟩⟩⟩,⟨⟨rfl,⟨rfl,⟨rfl,trivial⟩⟩⟩,⟨⟨rfl,⟨rfl,⟨rfl,⟨rfl,⟨trivial,⟨trivial,trivial⟩⟩⟩⟩⟩⟩,trivial⟩⟩⟩⟩⟩⟩⟩,fun u2=>fun a2=>⟨⟨?_,⟨(),⟨?_,⟨⟨trivial,⟨rfl,⟨trivial,⟨rfl,⟨trivial,trivial⟩⟩⟩⟩⟩,⟨⟨trivial,⟨rfl,⟨rfl,⟨rfl,trivial⟩⟩⟩⟩,⟨⟨rfl,⟨rfl,⟨rfl,trivial⟩⟩⟩,⟨⟨?_,⟨?_,⟨trivial,trivial⟩⟩⟩,⟨?_,⟨⟨rfl,⟨rfl,⟨rfl,⟨rfl,⟨trivial,⟨trivial,trivial⟩⟩⟩⟩⟩⟩,trivial⟩⟩⟩⟩⟩⟩⟩⟩⟩,fun u3=>fun a3=>⟨fun a4=>⟨⟨?_,⟨?_,⟨(),⟨?_,⟨⟨trivial,⟨rfl,⟨trivial,⟨trivial,⟨trivial,trivial⟩⟩⟩⟩⟩,⟨⟨trivial,⟨rfl,⟨rfl,⟨?_,trivial⟩⟩⟩⟩,⟨⟨rfl,⟨?_,⟨?_,trivial⟩⟩⟩,⟨⟨?_,⟨?_,⟨?_,⟨?_,⟨trivial,⟨trivial,trivial⟩⟩⟩⟩⟩⟩,⟨?_,⟨?_,⟨⟨rfl,⟨rfl,⟨trivial,trivial⟩⟩⟩,⟨rfl,⟨⟨rfl,⟨rfl,⟨rfl,⟨rfl,⟨trivial,⟨trivial,trivial⟩⟩⟩⟩⟩⟩,trivial⟩⟩⟩⟩⟩⟩⟩⟩⟩⟩⟩⟩⟩,fun u4=>fun a5=>⟨⟨?_,⟨?_,⟨(),⟨?_,⟨⟨trivial,⟨rfl,⟨trivial,⟨trivial,⟨trivial,⟨trivial,trivial⟩⟩⟩⟩⟩⟩,⟨⟨trivial,⟨rfl,⟨rfl,⟨?_,trivial⟩⟩⟩⟩,⟨⟨rfl,⟨?_,⟨?_,trivial⟩⟩⟩,⟨⟨?_,⟨?_,⟨?_,⟨?_,⟨trivial,⟨trivial,trivial⟩⟩⟩⟩⟩⟩,⟨?_,⟨?_,⟨⟨rfl,⟨rfl,⟨rfl,⟨rfl,⟨trivial,⟨trivial,trivial⟩⟩⟩⟩⟩⟩,⟨rfl,⟨rfl,⟨⟨rfl,⟨rfl,⟨trivial,trivial⟩⟩⟩,⟨rfl,⟨⟨rfl,⟨rfl,⟨rfl,⟨rfl,⟨trivial,⟨trivial,trivial⟩⟩⟩⟩⟩⟩,trivial⟩⟩⟩⟩⟩⟩⟩⟩⟩⟩⟩⟩⟩⟩⟩⟩,fun u5=>fun a6=>⟨?_,⟨?_,⟨⟨rfl,⟨rfl,?_⟩⟩,⟨⟨rfl,⟨?_,?_⟩⟩,trivial⟩⟩⟩⟩⟩⟩,fun a4=>fun a5=>⟨⟨rfl,⟨rfl,⟨?_,?_⟩⟩⟩,⟨⟨?_,?_⟩,⟨rfl,⟨?_,⟨⟨rfl,⟨rfl,⟨?_,?_⟩⟩⟩,⟨⟨?_,?_⟩,⟨?_,⟨⟨rfl,⟨rfl,⟨?_,?_⟩⟩⟩,⟨?_,⟨?_,⟨⟨rfl,⟨rfl,?_⟩⟩,⟨⟨rfl,⟨?_,?_⟩⟩,trivial⟩⟩⟩⟩⟩⟩⟩⟩⟩⟩⟩⟩⟩⟩⟩⟩⟩⟩
 all_goals try and_intros
 all_goals try simp only[a0b.eta,a0d.eta,a1g.eta,a0e.eta,a2u,a2z,a2o,a2f] at *
 all_goals (try simp only[d5p,a0d.eta,a0b.eta,decide_eq_true_eq,decide_eq_false_iff_not,Bool.not_true,Bool.not_false,Bool.not_eq_true',Bool.not_eq_false',a0c] at *);first|rfl|trivial|omega|with_reducible assumption|exact hs.mono (by omega)|exact (hs.next _).mono (by omega)|exact ((hs.next _).next _).mono (by omega)|(rw[d6b code tn an deep left (Sr.mk pos seed) (by first|omega|(right;right;assumption))];rfl)|(rw[d6b code tn an deep left (Sr.mk pos seed) (by first|omega|(right;right;assumption))];exact (i2l code tn an (pgK code (Sr.mk pos seed)) (pg1 code (Sr.mk pos seed)) (by assumption) (by assumption)).1.symm)|(rw[d6b code tn an deep left (Sr.mk pos seed) (by first|omega|(right;right;assumption))];first|exact congrArg Sr.pos (i2l code tn an (pgK code (Sr.mk pos seed)) (pg1 code (Sr.mk pos seed)) (by assumption) (by assumption)).2.symm|exact congrArg Sr.seed (i2l code tn an (pgK code (Sr.mk pos seed)) (pg1 code (Sr.mk pos seed)) (by assumption) (by assumption)).2.symm)|(rw[d6b code tn an deep left (Sr.mk pos seed) (by first|omega|(right;right;assumption))];exact (i2m code tn an (pgK code (Sr.mk pos seed)) (pg1 code (Sr.mk pos seed)) (by first|(left;assumption)|(right;assumption)|(left;omega)) (by assumption)).1.symm)|(rw[d6b code tn an deep left (Sr.mk pos seed) (by first|omega|(right;right;assumption))];first|exact congrArg Sr.pos (i2m code tn an (pgK code (Sr.mk pos seed)) (pg1 code (Sr.mk pos seed)) (by first|(left;assumption)|(right;assumption)|(left;omega)) (by assumption)).2.symm|exact congrArg Sr.seed (i2m code tn an (pgK code (Sr.mk pos seed)) (pg1 code (Sr.mk pos seed)) (by first|(left;assumption)|(right;assumption)|(left;omega)) (by assumption)).2.symm)|(rw[d6b code tn an deep left (Sr.mk pos seed) (by first|omega|(right;right;assumption))];exact (i2n code tn an (pgK code (Sr.mk pos seed)) (pg1 code (Sr.mk pos seed)) (by first|(left;assumption)|(right;assumption)|(left;omega)) (by assumption)).1.symm)|(rw[d6b code tn an deep left (Sr.mk pos seed) (by first|omega|(right;right;assumption))];first|exact congrArg Sr.pos (i2n code tn an (pgK code (Sr.mk pos seed)) (pg1 code (Sr.mk pos seed)) (by first|(left;assumption)|(right;assumption)|(left;omega)) (by assumption)).2.symm|exact congrArg Sr.seed (i2n code tn an (pgK code (Sr.mk pos seed)) (pg1 code (Sr.mk pos seed)) (by first|(left;assumption)|(right;assumption)|(left;omega)) (by assumption)).2.symm)|(rw[d6b code tn an deep left (Sr.mk pos seed) (by first|omega|(right;right;assumption))];exact (i2o code tn an (pgK code (Sr.mk pos seed)) (pg1 code (Sr.mk pos seed)) (by first|(left;assumption)|(right;assumption)|(left;omega)) (by assumption) (by assumption)).1.symm)|(rw[d6b code tn an deep left (Sr.mk pos seed) (by first|omega|(right;right;assumption))];first|exact congrArg Sr.pos (i2o code tn an (pgK code (Sr.mk pos seed)) (pg1 code (Sr.mk pos seed)) (by first|(left;assumption)|(right;assumption)|(left;omega)) (by assumption) (by assumption)).2.symm|exact congrArg Sr.seed (i2o code tn an (pgK code (Sr.mk pos seed)) (pg1 code (Sr.mk pos seed)) (by first|(left;assumption)|(right;assumption)|(left;omega)) (by assumption) (by assumption)).2.symm)|(have F:=F0 (by assumption);have q1:=F.f_l0;have q2:=F.f_a.l0;have q3:=F.f_a.l1;have q4:=F.f_c.l0;have q5:=F.f_c.l1;first|omega|exact F.f_sa|exact F.f_sc|exact F.f_na|exact F.f_nc|exact F.f_ce|exact F.f_b0.s.mono (by omega)|exact F.f_b1.s.mono (by omega)|exact F.f_a.s.mono (by omega)|exact F.f_c.s.mono (by omega))|exact InP.mk (by omega) (by omega) (by assumption)|(have q:InP code deep left (Sr.mk pos seed)∧pgK code (Sr.mk pos seed)<6:=(by assumption);rw[i7b code tn an deep left (Sr.mk pos seed) q.1 q.2];done)|(have q:(InP code deep left (Sr.mk pos seed)∧¬ pgK code (Sr.mk pos seed)<6)∧pgK code (Sr.mk pos seed)<9:=(by assumption);rw[i7c code tn an deep left (Sr.mk pos seed) q.1.1 q.1.2 q.2];done)|(have q:InP code deep left (Sr.mk pos seed)∧¬ pgK code (Sr.mk pos seed)<6:=(by assumption);rw[i7d code tn an deep left (Sr.mk pos seed) q.1 q.2 (by assumption)];first|done|rfl)
theorem h3k:∀ n,a5d [a8p n]
 | 0=>⟨⟨a0l b4c rfl (by decide),fun _ _ _ _ _ _ _ h=>absurd h.1 (Nat.not_lt_zero _)⟩,trivial⟩
 | n+1=>by
  have ih:=h3k n
  exact⟨e8g n trivial ⟨f7x,g1m,f1c,d3d,trivial⟩ trivial ⟨a3w,c5g,ih.1,trivial⟩,trivial⟩
theorem e2z:SCt.Good b4e :=
 ⟨a0l b4c rfl (by decide),fun deep tn an left code pos seed hp=>(h3k (deep.toNat+1)).1.2 deep tn an left code pos seed (⟨Nat.lt_succ_self _,hp⟩)⟩
end
end Go.Proofs.YthebhlkdppmefaaGreat

set_option linter.unusedVariables false
set_option linter.unusedSimpArgs false
set_option linter.unusedSectionVars false
set_option maxRecDepth 4000
set_option maxHeartbeats 4000000
namespace Go.Proofs.YthebhlkdppmefaaGreat
noncomputable section
def a6r:SCt:=⟨d1d,[[.d (.slice (.int .u8)), .d (.int .i64), .d (.int .u64)]],[.b 0, .v (.st .sig)],[[(.slice (.int .u8)),(.int .i64),(.int .u64)]],fun (gg:a0h) (code:List Int) (pos:Int) (seed:Int)=>⟨(some (a0z code (Sr.mk pos seed) 960000000∧a1i gg=true),[⟨(.st .expr),cdE code gg.tests gg.actions (Sr.mk pos seed)⟩],[[⟨(.slice (.int .u8)),code⟩,⟨(.int .i64),(cdN code gg.tests gg.actions (Sr.mk pos seed)).pos⟩,⟨(.int .u64),(cdN code gg.tests gg.actions (Sr.mk pos seed)).seed⟩]])⟩⟩
def e1q(gg:a0h)(code:List Int)(pos:Int)(seed:Int):Nat→a0p:=fun _ => .none
theorem g2y(gg:a0h)(code:List Int)(pos:Int)(seed:Int):awp (a2s [] [] [] [11] [] [] [3] [a4o]) (a0j b3c) (e1q gg code pos seed) 0 (b1t (a2s [] [] [] [11] [] [] [3] [a4o]) b3c [[.d (.slice (.int .u8)), .d (.int .i64), .d (.int .u64)]] fun r ds=>a1f r [⟨(.st .expr),cdE code gg.tests gg.actions (Sr.mk pos seed)⟩]∧b5l ds [[⟨(.slice (.int .u8)),code⟩,⟨(.int .i64),(cdN code gg.tests gg.actions (Sr.mk pos seed)).pos⟩,⟨(.int .u64),(cdN code gg.tests gg.actions (Sr.mk pos seed)).seed⟩]]) (a3e b3c [.box 0, .val ⟨(.st .sig),gg⟩] [[.d (.slice (.int .u8)), .d (.int .i64), .d (.int .u64)]] [[⟨(.slice (.int .u8)),code⟩,⟨(.int .i64),pos⟩,⟨(.int .u64),seed⟩]]) =
 (((a0z code (Sr.mk pos seed) 970000000∧(0≤gg.tests∧gg.tests≤3)∧(0≤gg.actions∧gg.actions≤4))∧((a0n (cdE code gg.tests gg.actions (Sr.mk pos seed)))=(cdE code gg.tests gg.actions (Sr.mk pos seed))∧((code=code∧(((cdN code gg.tests gg.actions (Sr.mk pos seed)).pos)=((cdN code gg.tests gg.actions (Sr.mk pos seed)).pos)∧((cdN code gg.tests gg.actions (Sr.mk pos seed)).seed)=((cdN code gg.tests gg.actions (Sr.mk pos seed)).seed)))∧True)))):=by kernel_rfl
theorem g2c(hE:a0o [])(hO:a5c [])(hM:a5s [])(hS:a5d [a4o]):SCt.Good a6r:=by
 refine⟨a0l e0g rfl (by decide),?_⟩
 show ∀ (gg:a0h) (code:List Int) (pos:Int) (seed:Int),(a0z code (Sr.mk pos seed) 960000000∧a1i gg=true)→c1o prog d1d [[.d (.slice (.int .u8)), .d (.int .i64), .d (.int .u64)]] [.box 0, .val ⟨(.st .sig),gg⟩] [[⟨(.slice (.int .u8)),code⟩,⟨(.int .i64),pos⟩,⟨(.int .u64),seed⟩]] [⟨(.st .expr),cdE code gg.tests gg.actions (Sr.mk pos seed)⟩] [[⟨(.slice (.int .u8)),code⟩,⟨(.int .i64),(cdN code gg.tests gg.actions (Sr.mk pos seed)).pos⟩,⟨(.int .u64),(cdN code gg.tests gg.actions (Sr.mk pos seed)).seed⟩]]
 intro gg code pos seed hp
 refine b0v (own:=[11]) (wr:=[]) (cl:=[]) (ro:=[3]) hE hO hM hS e0g f7a (e1q gg code pos seed) rfl rfl ?_
 rewrite [g2y gg code pos seed]
 have hg:=(a4l gg).1 hp.2
 refine⟨?_,⟨?_,⟨⟨rfl,⟨rfl,rfl⟩⟩,trivial⟩⟩⟩
 all_goals try and_intros
 all_goals try simp only[a0b.eta,a0d.eta,a1g.eta,a0e.eta,a2u,a2z,a2o,a2f] at *
 all_goals (try simp only[d5p,a0b.eta,a0d.eta,decide_eq_true_eq,decide_eq_false_iff_not] at *);first|rfl|trivial|omega|exact hp.1.mono (by decide)|exact hp.1
theorem d3f:SCt.Good a6r:=g2c trivial trivial trivial ⟨c5g,trivial⟩
def b3x:SCt:=⟨c8t,[[.d (.slice (.int .u8)), .d (.int .i64), .d (.int .u64)]],[.b 0, .v (.st .sig), .v (.int .i64)],[[(.slice (.int .u8)),(.int .i64),(.int .u64)]],fun (gg:a0h) (n:Int) (code:List Int) (pos:Int) (seed:Int)=>⟨(some ((a0z code (Sr.mk pos seed) 890000000∧a1i gg=true)∧0≤n∧n≤1000),[⟨(.st .prog),(pgG code gg.tests gg.actions 5 (Sr.mk pos seed) n).p⟩],[[⟨(.slice (.int .u8)),code⟩,⟨(.int .i64),(pgG code gg.tests gg.actions 5 (Sr.mk pos seed) n).s.pos⟩,⟨(.int .u64),(pgG code gg.tests gg.actions 5 (Sr.mk pos seed) n).s.seed⟩]])⟩⟩
def d8q(gg:a0h)(n:Int)(code:List Int)(pos:Int)(seed:Int):Nat→a0p:=fun _ => .none
theorem f8t(gg:a0h)(n:Int)(code:List Int)(pos:Int)(seed:Int):awp (a2s [] [] [] [14] [] [] [4] [b4e]) (a0j b1h) (d8q gg n code pos seed) 0 (b1t (a2s [] [] [] [14] [] [] [4] [b4e]) b1h [[.d (.slice (.int .u8)), .d (.int .i64), .d (.int .u64)]] fun r ds=>a1f r [⟨(.st .prog),(pgG code gg.tests gg.actions 5 (Sr.mk pos seed) n).p⟩]∧b5l ds [[⟨(.slice (.int .u8)),code⟩,⟨(.int .i64),(pgG code gg.tests gg.actions 5 (Sr.mk pos seed) n).s.pos⟩,⟨(.int .u64),(pgG code gg.tests gg.actions 5 (Sr.mk pos seed) n).s.seed⟩]]) (a3e b1h [.box 0, .val ⟨(.st .sig),gg⟩, .val ⟨(.int .i64),n⟩] [[.d (.slice (.int .u8)), .d (.int .i64), .d (.int .u64)]] [[⟨(.slice (.int .u8)),code⟩,⟨(.int .i64),pos⟩,⟨(.int .u64),seed⟩]]) =
 (((a0z code (Sr.mk pos seed) (900000000 - 300 * (wG (5:Int).toNat:Int))∧(0≤gg.tests∧gg.tests≤3)∧(0≤gg.actions∧gg.actions≤4)∧(5:Int)≤10 ∧ -1000000+(wG (5:Int).toNat:Int)≤n∧n≤1000000)∧((a1a ((pgG code gg.tests gg.actions (5:Int).toNat (Sr.mk pos seed) n).p))=((pgG code gg.tests gg.actions 5 (Sr.mk pos seed) n).p)∧((code=code∧(((pgG code gg.tests gg.actions (5:Int).toNat (Sr.mk pos seed) n).s.pos)=((pgG code gg.tests gg.actions 5 (Sr.mk pos seed) n).s.pos)∧((pgG code gg.tests gg.actions (5:Int).toNat (Sr.mk pos seed) n).s.seed)=((pgG code gg.tests gg.actions 5 (Sr.mk pos seed) n).s.seed)))∧True)))):=by kernel_rfl
theorem f8i(hE:a0o [])(hO:a5c [])(hM:a5s [])(hS:a5d [b4e]):SCt.Good b3x:=by
 refine⟨a0l d7b rfl (by decide),?_⟩
 show ∀ (gg:a0h) (n:Int) (code:List Int) (pos:Int) (seed:Int),((a0z code (Sr.mk pos seed) 890000000∧a1i gg=true)∧0≤n∧n≤1000)→c1o prog c8t [[.d (.slice (.int .u8)), .d (.int .i64), .d (.int .u64)]] [.box 0, .val ⟨(.st .sig),gg⟩, .val ⟨(.int .i64),n⟩] [[⟨(.slice (.int .u8)),code⟩,⟨(.int .i64),pos⟩,⟨(.int .u64),seed⟩]] [⟨(.st .prog),(pgG code gg.tests gg.actions 5 (Sr.mk pos seed) n).p⟩] [[⟨(.slice (.int .u8)),code⟩,⟨(.int .i64),(pgG code gg.tests gg.actions 5 (Sr.mk pos seed) n).s.pos⟩,⟨(.int .u64),(pgG code gg.tests gg.actions 5 (Sr.mk pos seed) n).s.seed⟩]]
 intro gg n code pos seed hp
 refine b0v (own:=[14]) (wr:=[]) (cl:=[]) (ro:=[4]) hE hO hM hS d7b f2f (d8q gg n code pos seed) rfl rfl ?_
 rewrite [f8t gg n code pos seed]
 have hg:=(a4l gg).1 hp.1.2
 have hw:wG (Int.toNat 5)=63:=rfl
 refine⟨?_,⟨?_,⟨⟨rfl,⟨?_,?_⟩⟩,trivial⟩⟩⟩
 all_goals try and_intros
 all_goals try simp only[a0b.eta,a0d.eta,a1g.eta,a0e.eta,a2u,a2z,a2o,a2f] at *
 all_goals (try simp only[d5p,a0b.eta,a0d.eta,decide_eq_true_eq,decide_eq_false_iff_not] at *);first|rfl|trivial|omega|exact hp.1.1.mono (by omega)
theorem f1k:SCt.Good b3x:=f8i trivial trivial trivial ⟨e2z,trivial⟩
def dp1(code:List Int)(gg:a0h)(s:Sr):Sr:=pkN code (cdN code gg.tests gg.actions (cdN code gg.tests gg.actions s)) gg.actions
def dpE(code:List Int)(gg:a0h)(s:Sr):a0e:=a0e.mk (cdE code gg.tests gg.actions s) (pk code (cdN code gg.tests gg.actions (cdN code gg.tests gg.actions s)) gg.actions) (cdE code gg.tests gg.actions (cdN code gg.tests gg.actions s))
def dpS(code:List Int)(gg:a0h):Nat→Sr→Sr
 | 0,s=>s
 | i+1,s=>dp1 code gg (dpS code gg i s)
def dpL(code:List Int)(gg:a0h):Nat→Sr→List a0e
 | 0,_=>[]
 | i+1,s=>dpL code gg i s++[dpE code gg (dpS code gg i s)]
def dpC(code:List Int)(gg:a0h)(s:Sr):Nat:=if 0<gg.actions then (pk code s 4).toNat else 0
def dpV(code:List Int)(gg:a0h)(s:Sr):List a0e:=dpL code gg (dpC code gg s) (pkN code s 4)
def dpN(code:List Int)(gg:a0h)(s:Sr):Sr:=dpS code gg (dpC code gg s) (pkN code s 4)
theorem h9e(code:List Int)(gg:a0h)(s:Sr)(m:Int)(hs:a1i gg=true)(h:a0z code s m):a0z code (dp1 code gg s) (m+510)∧pmI gg (dpE code gg s)=true∧a0z code (cdN code gg.tests gg.actions s) (m+250)∧a0z code (cdN code gg.tests gg.actions (cdN code gg.tests gg.actions s)) (m+500)∨gg.actions≤0:=by
 have hg:=(a4l gg).1 hs
 by_cases ha:gg.actions≤0
 ·exact .inr ha
 refine .inl ?_
 have c1:=d1v code gg.tests gg.actions m s hg.1 hg.2 h
 have c2:=d1v code gg.tests gg.actions _ _ hg.1 hg.2 c1.sr
 have hp:=c2.sr.pk gg.actions
 refine⟨(c2.sr.next gg.actions).mono (by omega),?_,c1.sr,c2.sr.mono (by omega)⟩
 simp only[pmI,dpE,c1.isC hs,c2.isC hs,Bool.true_and]
 exact decide_eq_true (by omega)
theorem h4a(code:List Int)(gg:a0h)(s:Sr)(m:Int)(hs:a1i gg=true)(h:a0z code s m)(ha:0<gg.actions):∀ i:Nat,a0z code (dpS code gg i s) (m+510 * i)∧a0v (pmI gg) (dpL code gg i s)=true∧(dpL code gg i s).length=i
 | 0=>⟨h.mono (by omega),rfl,rfl⟩
 | i+1=>by
  obtain⟨h1,h2,h3⟩:=h4a code gg s m hs h ha i
  rcases h9e code gg (dpS code gg i s) _ hs h1 with q|q
  ·refine⟨q.1.mono (by omega),?_,by simp[dpL,h3]⟩
   rw[dpL,d1u,h2]
   simp[a0v,q.2.1]
  ·omega
theorem i5n(code:List Int)(gg:a0h)(s:Sr)(m:Int)(hs:a1i gg=true)(h:a0z code s m):a1t gg (dpV code gg s)=true∧a0z code (dpN code gg s) (m+2000):=by
 have hp:=h.pk 4
 unfold dpV dpN dpC
 by_cases ha:0<gg.actions
 ·rw[if_pos ha]
  obtain⟨h1,h2,h3⟩:=h4a code gg (pkN code s 4) _ hs (h.next 4) ha (pk code s 4).toNat
  refine⟨?_,h1.mono (by omega)⟩
  simp only[a1t,hs,h2,h3,Bool.true_and,Bool.and_true,decide_eq_true_eq]
  omega
 ·rw[if_neg ha]
  refine⟨?_,(h.next 4).mono (by omega)⟩
  simp[a1t,hs,dpL,a0v]
structure DpF(code:List Int)(gg:a0h)(s:Sr)(i:Nat):Prop where
 s0:a0z code (dpS code gg i (pkN code s 4)) 900000000
 s1:a0z code (cdN code gg.tests gg.actions (dpS code gg i (pkN code s 4))) 900000000
 s2:a0z code (cdN code gg.tests gg.actions (cdN code gg.tests gg.actions (dpS code gg i (pkN code s 4)))) 900000000
 len:(dpL code gg i (pkN code s 4)).length=i
theorem i7i(code:List Int)(gg:a0h)(s:Sr)(hs:a1i gg=true)(h:a0z code s 890000000)(i:Nat)(hi:i≤(pk code s 4).toNat)(ha:0<gg.actions):DpF code gg s i:=by
 have hp:=h.pk 4
 obtain⟨h1,h2,h3⟩:=h4a code gg (pkN code s 4) _ hs (h.next 4) ha i
 rcases h9e code gg _ _ hs h1 with q|q
 ·exact⟨h1.mono (by omega),q.2.2.1.mono (by omega),q.2.2.2.mono (by omega),h3⟩
 ·omega
theorem i5o(code:List Int)(gg:a0h)(s:Sr)(i:Nat)(h1:i≤(pk code s 4).toNat)(h2:gg.actions≤0→i=0)(h3:¬ 0<pk code s 4 - (i:Int)∨¬ 0<gg.actions):dpL code gg i (pkN code s 4)=dpV code gg s∧dpS code gg i (pkN code s 4)=dpN code gg s:=by
 have:i=dpC code gg s:=by
  unfold dpC
  split<;>omega
 unfold dpV dpN
 rw[←this]
 exact⟨rfl,rfl⟩
def a6o:SCt:=⟨b6v,[[.d (.slice (.int .u8)), .d (.int .i64), .d (.int .u64)]],[.b 0, .v (.st .sig)],[[(.slice (.int .u8)),(.int .i64),(.int .u64)]],fun (gg:a0h) (code:List Int) (pos:Int) (seed:Int)=>⟨(some (a0z code (Sr.mk pos seed) 890000000∧a1i gg=true),[⟨(.slice (.st .premise)),dpV code gg (Sr.mk pos seed)⟩],[[⟨(.slice (.int .u8)),code⟩,⟨(.int .i64),(dpN code gg (Sr.mk pos seed)).pos⟩,⟨(.int .u64),(dpN code gg (Sr.mk pos seed)).seed⟩]])⟩⟩
def c4c(gg:a0h)(code:List Int)(pos:Int)(seed:Int):Nat→a0p:=(fun zb=>if Nat.beq zb 0 then .mk (Nat) (fun i=>i≤(pk code (Sr.mk pos seed) 4).toNat∧(gg.actions≤0→i=0)) (fun i=>(pk code (Sr.mk pos seed) 4).toNat - i) [] [1,2,9,10,11] (fun i=>[(6, .imm ⟨(.int .i64),(pk code (Sr.mk pos seed) 4 - (i:Int):Int)⟩),(5, .tree 9000)]) [0,3,4,5,6,7,8,12,13,14,15,16,17,18,19,20,21,22,23,24,25,26,27,28,29,30,31,32,33,34,35,36,37] (fun i=>[(400000, .box [.imm ⟨(.slice (.int .u8)),(code:List Int)⟩, .imm ⟨(.int .i64),((dpS code gg i (pkN code (Sr.mk pos seed) 4)).pos:Int)⟩, .imm ⟨(.int .u64),((dpS code gg i (pkN code (Sr.mk pos seed) 4)).seed:Int)⟩]),(9000, .tree (.st .premise) (dpL code gg i (pkN code (Sr.mk pos seed) 4):List a0e))]) [] [] (fun i=>fun _ => .none) else .none)
abbrev c1e(gg:a0h)(code:List Int)(pos:Int)(seed:Int)(i1:Nat):Prop:=((cdE code gg.tests gg.actions (dpS code gg i1 (pkN code (Sr.mk pos seed) 4))).kind=(cdE code gg.tests gg.actions (dpS code gg i1 (pkN code (Sr.mk pos seed) 4))).kind∧((cdE code gg.tests gg.actions (dpS code gg i1 (pkN code (Sr.mk pos seed) 4))).num=(cdE code gg.tests gg.actions (dpS code gg i1 (pkN code (Sr.mk pos seed) 4))).num∧((2402:Nat)=2402∧True)))
abbrev c1f(gg:a0h)(code:List Int)(pos:Int)(seed:Int)(i1:Nat):Prop:=((cdE code gg.tests gg.actions (cdN code gg.tests gg.actions (dpS code gg i1 (pkN code (Sr.mk pos seed) 4)))).kind=(cdE code gg.tests gg.actions (cdN code gg.tests gg.actions (dpS code gg i1 (pkN code (Sr.mk pos seed) 4)))).kind∧((cdE code gg.tests gg.actions (cdN code gg.tests gg.actions (dpS code gg i1 (pkN code (Sr.mk pos seed) 4)))).num=(cdE code gg.tests gg.actions (cdN code gg.tests gg.actions (dpS code gg i1 (pkN code (Sr.mk pos seed) 4)))).num∧((2702:Nat)=2702∧True)))
abbrev c1g(gg:a0h)(code:List Int)(pos:Int)(seed:Int)(i1:Nat):Prop:=((a0z code (dpS code gg i1 (pkN code (Sr.mk pos seed) 4)) 960000000∧a1i gg=true)∧((a0z code (cdN code gg.tests gg.actions (dpS code gg i1 (pkN code (Sr.mk pos seed) 4))) 960000000∧a1i gg=true)∧(a0c gg.actions →
 ((9000:Nat)=9000∧((c1e gg code pos seed i1)∧(((400000:Nat)=400000∧(0:Nat)=0)∧(gg.actions=gg.actions∧(gg.actions=gg.actions∧((c1f gg code pos seed i1)∧((a0z code (cdN code gg.tests gg.actions (cdN code gg.tests gg.actions (dpS code gg i1 (pkN code (Sr.mk pos seed) 4)))) 999999000∧gg.actions≤1000000)∧((9000:Nat)=9000∧((c1e gg code pos seed i1)∧((c1f gg code pos seed i1)∧((9000:Nat)=9000∧((9000:Nat)=9000∧(a1p ((dpL code gg i1 (pkN code (Sr.mk pos seed) 4)).length+([(a0e.mk (a0n (cdE code gg.tests gg.actions (dpS code gg i1 (pkN code (Sr.mk pos seed) 4)))) (pk code (cdN code gg.tests gg.actions (cdN code gg.tests gg.actions (dpS code gg i1 (pkN code (Sr.mk pos seed) 4)))) gg.actions) (a0n (cdE code gg.tests gg.actions (cdN code gg.tests gg.actions (dpS code gg i1 (pkN code (Sr.mk pos seed) 4))))))]).length) 88∧(a0c ((pk code (Sr.mk pos seed) 4 - (i1:Int)) - (1:Int))∧(∃ i2:Nat,((i2≤(pk code (Sr.mk pos seed) 4).toNat∧(gg.actions≤0→i2=0))∧((pk code (Sr.mk pos seed) 4).toNat - i2<(pk code (Sr.mk pos seed) 4).toNat - i1∧((True∧(gg=gg∧(True∧(True∧(((pk code (Sr.mk pos seed) 4 - (i1:Int)) - (1:Int))=(pk code (Sr.mk pos seed) 4 - (i2:Int))∧True)))))∧((code=code∧(((pkN code (cdN code gg.tests gg.actions (cdN code gg.tests gg.actions (dpS code gg i1 (pkN code (Sr.mk pos seed) 4)))) gg.actions).pos)=((dpS code gg i2 (pkN code (Sr.mk pos seed) 4)).pos)∧(((pkN code (cdN code gg.tests gg.actions (cdN code gg.tests gg.actions (dpS code gg i1 (pkN code (Sr.mk pos seed) 4)))) gg.actions).seed)=((dpS code gg i2 (pkN code (Sr.mk pos seed) 4)).seed)∧True)))∧(((dpL code gg i1 (pkN code (Sr.mk pos seed) 4))++([(a0e.mk (a0n (cdE code gg.tests gg.actions (dpS code gg i1 (pkN code (Sr.mk pos seed) 4)))) (pk code (cdN code gg.tests gg.actions (cdN code gg.tests gg.actions (dpS code gg i1 (pkN code (Sr.mk pos seed) 4)))) gg.actions) (a0n (cdE code gg.tests gg.actions (cdN code gg.tests gg.actions (dpS code gg i1 (pkN code (Sr.mk pos seed) 4))))))]))=(dpL code gg i2 (pkN code (Sr.mk pos seed) 4))∧True)))))))))))))))))))))))
abbrev c1h(gg:a0h)(code:List Int)(pos:Int)(seed:Int)(i1:Nat):Prop:=((dpL code gg i1 (pkN code (Sr.mk pos seed) 4))=(dpV code gg (Sr.mk pos seed))∧((code=code∧(((dpS code gg i1 (pkN code (Sr.mk pos seed) 4)).pos)=((dpN code gg (Sr.mk pos seed)).pos)∧((dpS code gg i1 (pkN code (Sr.mk pos seed) 4)).seed)=((dpN code gg (Sr.mk pos seed)).seed)))∧True))
theorem d9i(gg:a0h)(code:List Int)(pos:Int)(seed:Int):awp (a2s [] [] [] [9,11,23,26,32,35,36] [] [] [3] [a6r,a1j]) (a0j a5g) (c4c gg code pos seed) 0 (b1t (a2s [] [] [] [9,11,23,26,32,35,36] [] [] [3] [a6r,a1j]) a5g [[.d (.slice (.int .u8)), .d (.int .i64), .d (.int .u64)]] fun r ds=>a1f r [⟨(.slice (.st .premise)),dpV code gg (Sr.mk pos seed)⟩]∧b5l ds [[⟨(.slice (.int .u8)),code⟩,⟨(.int .i64),(dpN code gg (Sr.mk pos seed)).pos⟩,⟨(.int .u64),(dpN code gg (Sr.mk pos seed)).seed⟩]]) (a3e a5g [.box 0, .val ⟨(.st .sig),gg⟩] [[.d (.slice (.int .u8)), .d (.int .i64), .d (.int .u64)]] [[⟨(.slice (.int .u8)),code⟩,⟨(.int .i64),pos⟩,⟨(.int .u64),seed⟩]]) =
 (((a0z code (Sr.mk pos seed) 999999000∧(4:Int)≤1000000)∧((∃ i1:Nat,((i1≤(pk code (Sr.mk pos seed) 4).toNat∧(gg.actions≤0→i1=0))∧((True∧(gg=gg∧(True∧(True∧((pk code (Sr.mk pos seed) (4:Int))=(pk code (Sr.mk pos seed) 4 - (i1:Int))∧True)))))∧((code=code∧(((pkN code (Sr.mk pos seed) (4:Int)).pos)=((dpS code gg i1 (pkN code (Sr.mk pos seed) 4)).pos)∧(((pkN code (Sr.mk pos seed) (4:Int)).seed)=((dpS code gg i1 (pkN code (Sr.mk pos seed) 4)).seed)∧True)))∧([]=(dpL code gg i1 (pkN code (Sr.mk pos seed) 4))∧True)))))∧(∀ i1:Nat,((i1≤(pk code (Sr.mk pos seed) 4).toNat∧(gg.actions≤0→i1=0)) →
 (((decide ((0:Int)<(pk code (Sr.mk pos seed) 4 - (i1:Int))))=true →
 (a0c gg.actions →
 (((decide ((0:Int)<gg.actions))=true →
 (c1g gg code pos seed i1))∧((decide ((0:Int)<gg.actions))=false →
 (c1h gg code pos seed i1)))))∧((decide ((0:Int)<(pk code (Sr.mk pos seed) 4 - (i1:Int))))=(!true) →
 ((false=true →
 (c1g gg code pos seed i1))∧(false=false →
 (c1h gg code pos seed i1)))))))))):=by kernel_rfl
theorem d9b(hE:a0o [])(hO:a5c [])(hM:a5s [])(hS:a5d [a6r,a1j]):SCt.Good a6o:=by
 refine⟨a0l c3z rfl (by decide),?_⟩
 show ∀ (gg:a0h) (code:List Int) (pos:Int) (seed:Int),(a0z code (Sr.mk pos seed) 890000000∧a1i gg=true)→c1o prog b6v [[.d (.slice (.int .u8)), .d (.int .i64), .d (.int .u64)]] [.box 0, .val ⟨(.st .sig),gg⟩] [[⟨(.slice (.int .u8)),code⟩,⟨(.int .i64),pos⟩,⟨(.int .u64),seed⟩]] [⟨(.slice (.st .premise)),dpV code gg (Sr.mk pos seed)⟩] [[⟨(.slice (.int .u8)),code⟩,⟨(.int .i64),(dpN code gg (Sr.mk pos seed)).pos⟩,⟨(.int .u64),(dpN code gg (Sr.mk pos seed)).seed⟩]]
 intro gg code pos seed hp
 refine b0v (own:=[9,11,23,26,32,35,36]) (wr:=[]) (cl:=[]) (ro:=[3]) hE hO hM hS c3z d5s (c4c gg code pos seed) rfl rfl ?_
 rewrite [d9i gg code pos seed]
 have hg:=(a4l gg).1 hp.2
 have hk:=hp.1.pk 4
 have F1:=i7i code gg (Sr.mk pos seed) hp.2 hp.1
 refine⟨?_,⟨⟨0,⟨?_,⟨⟨trivial,⟨rfl,⟨trivial,⟨trivial,⟨?_,trivial⟩⟩⟩⟩⟩,⟨⟨rfl,⟨?_,⟨?_,trivial⟩⟩⟩,⟨?_,trivial⟩⟩⟩⟩⟩,fun i1 a0=>have b0x0:=F1 i1 a0.1;have b0x1:=i5o code gg (Sr.mk pos seed) i1 a0.1 a0.2;⟨fun a1=>fun a2=>⟨fun a3=>⟨?_,⟨?_,fun a4=>⟨?_,⟨⟨rfl,⟨rfl,⟨?_,?_⟩⟩⟩,⟨⟨?_,?_⟩,⟨rfl,⟨rfl,⟨⟨rfl,⟨rfl,⟨?_,?_⟩⟩⟩,⟨?_,⟨?_,⟨⟨rfl,⟨rfl,⟨?_,?_⟩⟩⟩,⟨⟨rfl,⟨rfl,⟨?_,?_⟩⟩⟩,⟨?_,⟨?_,⟨?_,⟨?_,⟨i1+1,⟨?_,⟨?_,⟨⟨trivial,⟨rfl,⟨trivial,⟨trivial,⟨?_,trivial⟩⟩⟩⟩⟩,⟨⟨rfl,⟨?_,⟨?_,trivial⟩⟩⟩,⟨?_,trivial⟩⟩⟩⟩⟩⟩⟩⟩⟩⟩⟩⟩⟩⟩⟩⟩⟩⟩⟩⟩⟩⟩,fun a3=>⟨?_,⟨⟨rfl,⟨?_,?_⟩⟩,trivial⟩⟩⟩,fun a1=>⟨fun a2=>⟨?_,⟨?_,fun a3=>⟨?_,⟨⟨rfl,⟨rfl,⟨?_,?_⟩⟩⟩,⟨⟨?_,?_⟩,⟨rfl,⟨rfl,⟨⟨rfl,⟨rfl,⟨?_,?_⟩⟩⟩,⟨?_,⟨?_,⟨⟨rfl,⟨rfl,⟨?_,?_⟩⟩⟩,⟨⟨rfl,⟨rfl,⟨?_,?_⟩⟩⟩,⟨?_,⟨?_,⟨?_,⟨?_,⟨i1+1,⟨?_,⟨?_,⟨⟨trivial,⟨rfl,⟨trivial,⟨trivial,⟨?_,trivial⟩⟩⟩⟩⟩,⟨⟨rfl,⟨?_,⟨?_,trivial⟩⟩⟩,⟨?_,trivial⟩⟩⟩⟩⟩⟩⟩⟩⟩⟩⟩⟩⟩⟩⟩⟩⟩⟩⟩⟩⟩⟩,fun a2=>⟨?_,⟨⟨rfl,⟨?_,?_⟩⟩,trivial⟩⟩⟩⟩⟩⟩
 all_goals try and_intros
 all_goals try simp only[a0b.eta,a0d.eta,a1g.eta,a0e.eta,a2u,a2z,a2o,a2f] at *
 all_goals (try simp only[d5p,a0b.eta,a0d.eta,a0e.eta,decide_eq_true_eq,decide_eq_false_iff_not,Bool.not_true,Bool.not_false] at *);first|rfl|trivial|omega|exact hp.2|exact hp.1.mono (by omega)|(intro _;trivial)|(have q:=b0x0 (by assumption);first|exact q.s0.mono (by decide)|exact q.s1.mono (by decide)|exact q.s2.mono (by decide)|(have q1:=q.len;simp only[a1p,List.length_cons,List.length_nil,q1];omega))|(have q:=b0x1 (by first|(left;assumption)|(right;assumption));first|exact q.1|exact congrArg Sr.pos q.2|exact congrArg Sr.seed q.2)
theorem d4g:SCt.Good a6o:=d9b trivial trivial trivial ⟨d3f,a3w,trivial⟩
end
end Go.Proofs.YthebhlkdppmefaaGreat

/- Gen3, Gen3B. -/
import Derived.Test.YtlaoejdeanljgaaVmUse
import Derived.Test.YtlaoejdeanljgaaVmLib
import Derived.Test.YtlaoejdeanljgaaVmValid
import Derived.Test.YtlaoejdeanljgaaVmProg
import Derived.Test.YtlaoejdeanljgaaVmSrc
import Derived.Test.YtlaoejdeanljgaaVmGen2
import Derived.Test.YtlaoejdeanljgaaVmSz
import Derived.Test.YtlaoejdeanljgaaVmBld3
import Derived.Test.YtlaoejdeanljgaaVmCond2
set_option linter.unusedVariables false
set_option linter.unusedSimpArgs false
set_option linter.unusedSectionVars false
set_option maxRecDepth 4000
set_option maxHeartbeats 4000000
namespace Go.Proofs.Ytlaoejdeanljgaa
noncomputable section
def cdA(code:List Int)(t:Int)(s:Sr):Bool:=decide (0<t) && !a2t code s 3
def cd1(code:List Int)(t:Int)(s:Sr):Sr:=if 0<t then pkN code s 3 else s
def cdT(code:List Int)(t:Int)(s:Sr):a0b:=a0b.mk 3 (pk code (cd1 code t s) t) []
def cdB(code:List Int)(t:Int)(s:Sr):Bool:=a2t code (pkN code (cd1 code t s) t) 3
def cdX(code:List Int)(t a:Int)(s:Sr):Gn:=exG code t a 3 true (cd1 code t s) 5
def cdE(code:List Int)(t a:Int)(s:Sr):a0b:=if cdA code t s=true then (if cdB code t s=true then a0b.mk 5 0 [cdT code t s] else cdT code t s) else (cdX code t a s).e
def cdN(code:List Int)(t a:Int)(s:Sr):Sr:=if cdA code t s=true then pkN code (pkN code (cd1 code t s) t) 3 else (cdX code t a s).s
theorem g9d(code:List Int)(t a:Int)(s:Sr)(h:cdA code t s=true)(h2:cdB code t s=true):cdE code t a s=a0b.mk 5 0 [cdT code t s]∧cdN code t a s=pkN code (pkN code (cd1 code t s) t) 3:=by
 simp only[cdE,cdN,if_pos h,if_pos h2,and_self]
theorem g9e(code:List Int)(t a:Int)(s:Sr)(h:cdA code t s=true)(h2:cdB code t s=false):cdE code t a s=cdT code t s∧cdN code t a s=pkN code (pkN code (cd1 code t s) t) 3:=by
 simp only[cdE,cdN,if_pos h,h2,and_true];rfl
theorem g6c(code:List Int)(t a:Int)(s:Sr)(h:cdA code t s=false):cdE code t a s=(cdX code t a s).e∧cdN code t a s=(cdX code t a s).s:=by
 simp only[cdE,cdN,h,Bool.false_eq_true,if_false,and_self]
theorem g9c(code:List Int)(t m:Int)(s:Sr)(h:a0s code s m):a0s code (cd1 code t s) (m+2):=by
 unfold cd1;split
 ·exact h.next 3
 ·exact h.mono (by omega)
structure f8z(code:List Int)(t a m:Int)(e:a0b)(s:Sr):Prop where
 tr:a1s (t - 1) (a - 1) e=true
 cn:a1i e=true
 nd:a0u e≤15
 dp:a1j e≤4
 sr:a0s code s m
theorem c5a(code:List Int)(t a m:Int)(s:Sr)(ht:0≤t∧t≤3)(ha:0≤a∧a≤4)(h:a0s code s m):f8z code t a (m+250) (cdE code t a s) (cdN code t a s):=by
 have h1:=g9c code t m s h
 have hp:=h1.pk t
 have h3:a0s code (pkN code (pkN code (cd1 code t s) t) 3) (m+250):=((h1.next t).next 3).mono (by omega)
 have hx:=e4c code t a ht ha 3 true (cd1 code t s) (m+2) 5 h1
 have hw:wG 3=15:=rfl
 have key:cdA code t s=true→a1s (t - 1) (a - 1) (cdT code t s)=true∧a1i (cdT code t s)=true:=fun q=>by
  have q1:0<t:=of_decide_eq_true (Bool.and_eq_true_iff.1 q).1
  refine⟨f1p _ _ 3 _ (by decide) (by decide) ?_,rfl⟩
  rw[if_pos rfl];omega
 cases q:cdA code t s
 ·obtain⟨e1,e2⟩:=g6c code t a s q
  rw[e1,e2]
  have e3:exG code t a 3 true (cd1 code t s) 5=cdX code t a s:=rfl
  rw[e3] at hx
  have n1:=hx.nd
  have n2:=hx.dp
  exact⟨hx.tr,hx.cn rfl,by omega,by omega,hx.sr.mono (by omega)⟩
 ·obtain⟨k1,k2⟩:=key q
  cases q2:cdB code t s
  ·obtain⟨e1,e2⟩:=g9e code t a s q q2
   rw[e1,e2]
   exact⟨k1,k2,by simp[cdT,a0u,a8s],by simp[cdT,a1j,a9t],h3⟩
  ·obtain⟨e1,e2⟩:=g9d code t a s q q2
   rw[e1,e2]
   refine⟨e9n _ _ _ 5 k1 (.inl ⟨rfl,k2⟩),?_,by simp[cdT,a0u,a8s],by simp[cdT,a1j,a9t],h3⟩
   simp[a1i,c5l,k2,c5b]
theorem f8z.isC{code:List Int}{gg:a0l}{m:Int}{e:a0b}{s:Sr}(h:f8z code gg.tests gg.actions m e s)(hs:a1y gg=true):isC gg e=true:=by
 have hg:=(a6e gg).1 hs
 have h1:=h.tr
 have h2:=h.nd
 have h3:=h.dp
 unfold Go.Proofs.Ytlaoejdeanljgaa.isC
 rw[Bool.and_eq_true,f4w,f7m _ (by omega),f7m _ (by omega)]
 exact⟨⟨h1,by omega,by omega⟩,h.cn⟩
theorem f8z.sz{code:List Int}{t a m:Int}{e:a0b}{s:Sr}(h:f8z code t a m e s):a0q e≤14:=by
 have:=d8h e
 have:=h.nd
 omega
theorem f8t(code:List Int)(t a:Int)(s:Sr)(h:0<t)(h2:a2t code s 3=false)(h3:a2t code (pkN code (pkN code s 3) t) 3=true):cdE code t a s=a0b.mk 5 0 [a0b.mk 3 (pk code (pkN code s 3) t) []]∧cdN code t a s=pkN code (pkN code (pkN code s 3) t) 3:=by
 have q1:cd1 code t s=pkN code s 3:=if_pos h
 have:=g9d code t a s (by simp[cdA,h,h2]) (by rw[cdB,q1];exact h3)
 rwa [cdT,q1] at this
theorem f8u(code:List Int)(t a:Int)(s:Sr)(h:0<t)(h2:a2t code s 3=false)(h3:a2t code (pkN code (pkN code s 3) t) 3=false):cdE code t a s=a0b.mk 3 (pk code (pkN code s 3) t) []∧cdN code t a s=pkN code (pkN code (pkN code s 3) t) 3:=by
 have q1:cd1 code t s=pkN code s 3:=if_pos h
 have:=g9e code t a s (by simp[cdA,h,h2]) (by rw[cdB,q1];exact h3)
 rwa [cdT,q1] at this
theorem f8v(code:List Int)(t a:Int)(s:Sr)(h:0<t)(h2:a2t code s 3=true):cdE code t a s=(exG code t a 3 true (pkN code s 3) 5).e∧cdN code t a s=(exG code t a 3 true (pkN code s 3) 5).s:=by
 have q1:cd1 code t s=pkN code s 3:=if_pos h
 have:=g6c code t a s (by simp[cdA,h2])
 rwa [cdX,q1] at this
theorem f8w(code:List Int)(t a:Int)(s:Sr)(h:¬ 0<t):cdE code t a s=(exG code t a 3 true s 5).e∧cdN code t a s=(exG code t a 3 true s 5).s:=by
 have q1:cd1 code t s=s:=if_neg h
 have:=g6c code t a s (by simp[cdA,h])
 rwa [cdX,q1] at this
theorem g8p(k n:Int):a0q (a0b.mk k n [])≤1048576:=by simp[a0q,a7p]
def a2y:SCt:=⟨b8l,[[.p 1, .d (.int .i64), .d (.int .i64), .d (.int .i64)],[.d (.slice (.int .u8)), .d (.int .i64), .d (.int .u64)]],[.b 0],[[(.int .i64),(.int .i64),(.int .i64)],[(.slice (.int .u8)),(.int .i64),(.int .u64)]],fun (tn:Int) (an:Int) (left:Int) (code:List Int) (pos:Int) (seed:Int)=>⟨(some (a0s code (Sr.mk pos seed) 970000000∧(0≤tn∧tn≤3)∧(0≤an∧an≤4)),[⟨(.st .expr),cdE code tn an (Sr.mk pos seed)⟩],[[⟨(.int .i64),tn⟩,⟨(.int .i64),an⟩,⟨(.int .i64),left⟩],[⟨(.slice (.int .u8)),code⟩,⟨(.int .i64),(cdN code tn an (Sr.mk pos seed)).pos⟩,⟨(.int .u64),(cdN code tn an (Sr.mk pos seed)).seed⟩]])⟩⟩
def c3z(tn:Int)(an:Int)(left:Int)(code:List Int)(pos:Int)(seed:Int):Nat→a0t:=fun _ => .none
abbrev c1y(tn:Int)(an:Int)(left:Int)(code:List Int)(pos:Int)(seed:Int):Prop:=((tn=tn∧(an=an∧left=left))∧((code=code∧(((pkN code (pkN code (pkN code (Sr.mk pos seed) (3:Int)) tn) (3:Int)).pos)=((cdN code tn an (Sr.mk pos seed)).pos)∧((pkN code (pkN code (pkN code (Sr.mk pos seed) (3:Int)) tn) (3:Int)).seed)=((cdN code tn an (Sr.mk pos seed)).seed)))∧True))
abbrev c1z(tn:Int)(an:Int)(left:Int)(code:List Int)(pos:Int)(seed:Int):Prop:=((tn=tn∧(an=an∧left=left))∧((code=code∧(((pkN code (pkN code (Sr.mk pos seed) tn) (3:Int)).pos)=((cdN code tn an (Sr.mk pos seed)).pos)∧((pkN code (pkN code (Sr.mk pos seed) tn) (3:Int)).seed)=((cdN code tn an (Sr.mk pos seed)).seed)))∧True))
theorem d8p(tn:Int)(an:Int)(left:Int)(code:List Int)(pos:Int)(seed:Int):awp (a2o [] [a2m] [] [28,36,49] [] [] [] [a1z,a1a,b1c]) (a0i a5w) (c3z tn an left code pos seed) 0 (a9b (a2o [] [a2m] [] [28,36,49] [] [] [] [a1z,a1a,b1c]) a5w [[.p 1, .d (.int .i64), .d (.int .i64), .d (.int .i64)],[.d (.slice (.int .u8)), .d (.int .i64), .d (.int .u64)]] fun r ds=>a1e r [⟨(.st .expr),cdE code tn an (Sr.mk pos seed)⟩]∧b2i ds [[⟨(.int .i64),tn⟩,⟨(.int .i64),an⟩,⟨(.int .i64),left⟩],[⟨(.slice (.int .u8)),code⟩,⟨(.int .i64),(cdN code tn an (Sr.mk pos seed)).pos⟩,⟨(.int .u64),(cdN code tn an (Sr.mk pos seed)).seed⟩]]) (a2x a5w [.box 0] [[.p 1, .d (.int .i64), .d (.int .i64), .d (.int .i64)],[.d (.slice (.int .u8)), .d (.int .i64), .d (.int .u64)]] [[⟨(.int .i64),tn⟩,⟨(.int .i64),an⟩,⟨(.int .i64),left⟩],[⟨(.slice (.int .u8)),code⟩,⟨(.int .i64),pos⟩,⟨(.int .u64),seed⟩]]) =
 ((a0d tn →
 (((decide ((0:Int)<tn))=true →
 ((a0s code (Sr.mk pos seed) 999999000∧(3:Int)≤1000000)∧(((!(a2t code (Sr.mk pos seed) (3:Int)))=true →
 (a0d tn →
 (((400000:Nat)=400000∧(0:Nat)=0)∧(((400000:Nat)=400000∧(0:Nat)=0)∧(((400000:Nat)=400000∧(0:Nat)=0)∧(((400001:Nat)=400001∧(0:Nat)=0)∧(((400000:Nat)=400000∧(0:Nat)=0)∧(((400000:Nat)=400000∧(0:Nat)=0)∧(((400000:Nat)=400000∧(1:Nat)=1)∧(((400000:Nat)=400000∧(1:Nat)=1)∧(tn=tn∧((a0s code (pkN code (Sr.mk pos seed) (3:Int)) 999999000∧tn≤1000000)∧((a0s code (pkN code (pkN code (Sr.mk pos seed) (3:Int)) tn) 999999000∧(3:Int)≤1000000)∧(((a2t code (pkN code (pkN code (Sr.mk pos seed) (3:Int)) tn) (3:Int))=true →
 (a0q (a0b.mk (3:Int) (pk code (pkN code (Sr.mk pos seed) (3:Int)) tn) [])≤1048576∧((a0w (a0b.mk 5 0 [(a0b.mk (3:Int) (pk code (pkN code (Sr.mk pos seed) (3:Int)) tn) [])]))=(cdE code tn an (Sr.mk pos seed))∧(c1y tn an left code pos seed))))∧((a2t code (pkN code (pkN code (Sr.mk pos seed) (3:Int)) tn) (3:Int))=false →
 ((a0b.mk (3:Int) (pk code (pkN code (Sr.mk pos seed) (3:Int)) tn) [])=(cdE code tn an (Sr.mk pos seed))∧(c1y tn an left code pos seed)))))))))))))))))∧((!(a2t code (Sr.mk pos seed) (3:Int)))=false →
 ((a0s code (pkN code (Sr.mk pos seed) (3:Int)) (980000000 - 16 * (wG (3:Int).toNat:Int))∧(0≤tn∧tn≤3)∧(0≤an∧an≤4)∧(3:Int)≤10 ∧ -1000000+(wG (3:Int).toNat:Int)≤(5:Int)∧(5:Int)≤1000000)∧((a0w ((exG code tn an (3:Int).toNat true (pkN code (Sr.mk pos seed) (3:Int)) (5:Int)).e))=(cdE code tn an (Sr.mk pos seed))∧((tn=tn∧(an=an∧left=left))∧((code=code∧(((exG code tn an (3:Int).toNat true (pkN code (Sr.mk pos seed) (3:Int)) (5:Int)).s.pos)=((cdN code tn an (Sr.mk pos seed)).pos)∧((exG code tn an (3:Int).toNat true (pkN code (Sr.mk pos seed) (3:Int)) (5:Int)).s.seed)=((cdN code tn an (Sr.mk pos seed)).seed)))∧True))))))))∧((decide ((0:Int)<tn))=(!true) →
 ((false=true →
 (a0d tn →
 (((400000:Nat)=400000∧(0:Nat)=0)∧(((400000:Nat)=400000∧(0:Nat)=0)∧(((400000:Nat)=400000∧(0:Nat)=0)∧(((400001:Nat)=400001∧(0:Nat)=0)∧(((400000:Nat)=400000∧(0:Nat)=0)∧(((400000:Nat)=400000∧(0:Nat)=0)∧(((400000:Nat)=400000∧(1:Nat)=1)∧(((400000:Nat)=400000∧(1:Nat)=1)∧(tn=tn∧((a0s code (Sr.mk pos seed) 999999000∧tn≤1000000)∧((a0s code (pkN code (Sr.mk pos seed) tn) 999999000∧(3:Int)≤1000000)∧(((a2t code (pkN code (Sr.mk pos seed) tn) (3:Int))=true →
 (a0q (a0b.mk (3:Int) (pk code (Sr.mk pos seed) tn) [])≤1048576∧((a0w (a0b.mk 5 0 [(a0b.mk (3:Int) (pk code (Sr.mk pos seed) tn) [])]))=(cdE code tn an (Sr.mk pos seed))∧(c1z tn an left code pos seed))))∧((a2t code (pkN code (Sr.mk pos seed) tn) (3:Int))=false →
 ((a0b.mk (3:Int) (pk code (Sr.mk pos seed) tn) [])=(cdE code tn an (Sr.mk pos seed))∧(c1z tn an left code pos seed)))))))))))))))))∧(false=false →
 ((a0s code (Sr.mk pos seed) (980000000 - 16 * (wG (3:Int).toNat:Int))∧(0≤tn∧tn≤3)∧(0≤an∧an≤4)∧(3:Int)≤10 ∧ -1000000+(wG (3:Int).toNat:Int)≤(5:Int)∧(5:Int)≤1000000)∧((a0w ((exG code tn an (3:Int).toNat true (Sr.mk pos seed) (5:Int)).e))=(cdE code tn an (Sr.mk pos seed))∧((tn=tn∧(an=an∧left=left))∧((code=code∧(((exG code tn an (3:Int).toNat true (Sr.mk pos seed) (5:Int)).s.pos)=((cdN code tn an (Sr.mk pos seed)).pos)∧((exG code tn an (3:Int).toNat true (Sr.mk pos seed) (5:Int)).s.seed)=((cdN code tn an (Sr.mk pos seed)).seed)))∧True)))))))))):=by kernel_rfl
theorem d8a(hE:a0p [])(hO:a4f [a2m])(hM:a4x [])(hS:a4p [a1z,a1a,b1c]):SCt.Good a2y:=by
 refine⟨a0j c3s rfl (by decide),?_⟩
 show ∀ (tn:Int) (an:Int) (left:Int) (code:List Int) (pos:Int) (seed:Int),(a0s code (Sr.mk pos seed) 970000000∧(0≤tn∧tn≤3)∧(0≤an∧an≤4))→b7w prog b8l [[.p 1, .d (.int .i64), .d (.int .i64), .d (.int .i64)],[.d (.slice (.int .u8)), .d (.int .i64), .d (.int .u64)]] [.box 0] [[⟨(.int .i64),tn⟩,⟨(.int .i64),an⟩,⟨(.int .i64),left⟩],[⟨(.slice (.int .u8)),code⟩,⟨(.int .i64),pos⟩,⟨(.int .u64),seed⟩]] [⟨(.st .expr),cdE code tn an (Sr.mk pos seed)⟩] [[⟨(.int .i64),tn⟩,⟨(.int .i64),an⟩,⟨(.int .i64),left⟩],[⟨(.slice (.int .u8)),code⟩,⟨(.int .i64),(cdN code tn an (Sr.mk pos seed)).pos⟩,⟨(.int .u64),(cdN code tn an (Sr.mk pos seed)).seed⟩]]
 intro tn an left code pos seed hp
 refine a7z (own:=[28,36,49]) (wr:=[]) (cl:=[]) (ro:=[]) hE hO hM hS c3s d4y (c3z tn an left code pos seed) rfl rfl ?_
 rewrite [d8p tn an left code pos seed]
 refine fun a0=>⟨fun a1=>⟨?_,⟨fun a2=>fun a3=>⟨⟨?_,?_⟩,⟨⟨?_,?_⟩,⟨⟨?_,?_⟩,⟨⟨?_,?_⟩,⟨⟨?_,?_⟩,⟨⟨?_,?_⟩,⟨⟨?_,?_⟩,⟨⟨?_,?_⟩,⟨rfl,⟨?_,⟨?_,⟨fun a4=>⟨?_,⟨?_,⟨⟨rfl,⟨rfl,rfl⟩⟩,⟨⟨rfl,⟨?_,?_⟩⟩,trivial⟩⟩⟩⟩,fun a4=>⟨?_,⟨⟨rfl,⟨rfl,rfl⟩⟩,⟨⟨rfl,⟨?_,?_⟩⟩,trivial⟩⟩⟩⟩⟩⟩⟩⟩⟩⟩⟩⟩⟩⟩⟩,fun a2=>⟨?_,⟨?_,⟨⟨rfl,⟨rfl,rfl⟩⟩,⟨⟨rfl,⟨?_,?_⟩⟩,trivial⟩⟩⟩⟩⟩⟩,fun a1=>⟨fun a2=>fun a3=>⟨⟨?_,?_⟩,⟨⟨?_,?_⟩,⟨⟨?_,?_⟩,⟨⟨?_,?_⟩,⟨⟨?_,?_⟩,⟨⟨?_,?_⟩,⟨⟨?_,?_⟩,⟨⟨?_,?_⟩,⟨rfl,⟨?_,⟨?_,⟨fun a4=>⟨?_,⟨?_,⟨⟨rfl,⟨rfl,rfl⟩⟩,⟨⟨rfl,⟨?_,?_⟩⟩,trivial⟩⟩⟩⟩,fun a4=>⟨?_,⟨⟨rfl,⟨rfl,rfl⟩⟩,⟨⟨rfl,⟨?_,?_⟩⟩,trivial⟩⟩⟩⟩⟩⟩⟩⟩⟩⟩⟩⟩⟩⟩⟩,fun a2=>⟨?_,⟨?_,⟨⟨rfl,⟨rfl,rfl⟩⟩,⟨⟨rfl,⟨?_,?_⟩⟩,trivial⟩⟩⟩⟩⟩⟩
 all_goals try and_intros
 all_goals try simp only[a0b.eta,a0a.eta,a2b,a2d] at *
 all_goals (try simp only[c8d,a0b.eta,decide_eq_true_eq,decide_eq_false_iff_not,Bool.not_true,Bool.not_false,Bool.not_eq_true',Bool.not_eq_false'] at *);first|rfl|trivial|omega|with_reducible assumption|exact g8p _ _|(rw[(f8t code tn an (Sr.mk pos seed) (by assumption) (by assumption) (by assumption)).1];rfl)|(rw[(f8t code tn an (Sr.mk pos seed) (by assumption) (by assumption) (by assumption)).1];done)|(rw[(f8t code tn an (Sr.mk pos seed) (by assumption) (by assumption) (by assumption)).2];rfl)|(rw[(f8t code tn an (Sr.mk pos seed) (by assumption) (by assumption) (by assumption)).2];done)|(rw[(f8u code tn an (Sr.mk pos seed) (by assumption) (by assumption) (by assumption)).1];rfl)|(rw[(f8u code tn an (Sr.mk pos seed) (by assumption) (by assumption) (by assumption)).1];done)|(rw[(f8u code tn an (Sr.mk pos seed) (by assumption) (by assumption) (by assumption)).2];rfl)|(rw[(f8u code tn an (Sr.mk pos seed) (by assumption) (by assumption) (by assumption)).2];done)|(rw[(f8v code tn an (Sr.mk pos seed) (by assumption) (by assumption)).1];rfl)|(rw[(f8v code tn an (Sr.mk pos seed) (by assumption) (by assumption)).1];done)|(rw[(f8v code tn an (Sr.mk pos seed) (by assumption) (by assumption)).2];rfl)|(rw[(f8v code tn an (Sr.mk pos seed) (by assumption) (by assumption)).2];done)|(rw[(f8w code tn an (Sr.mk pos seed) (by assumption)).1];rfl)|(rw[(f8w code tn an (Sr.mk pos seed) (by assumption)).1];done)|(rw[(f8w code tn an (Sr.mk pos seed) (by assumption)).2];rfl)|(rw[(f8w code tn an (Sr.mk pos seed) (by assumption)).2];done)|exact a0s.mono hp.1 (by decide)|exact a0s.mono (hp.1.next _) (by decide)|exact a0s.mono ((hp.1.next _).next _) (by decide)
theorem b3x:SCt.Good a2y:=d8a trivial ⟨a8z,trivial⟩ trivial ⟨a6d,a3u,d3y,trivial⟩
def plA(a k:Int):Bool:=decide (0<a) && !decide (k=2)
def plE(code:List Int)(t a k:Int)(s:Sr):a0a :=
 if plA a k=true then a0a.mk 3 (pk code s a) zE [] else if pk code s 4=0 then a0a.mk 2 0 zE [] else if pk code s 4=1 then a0a.mk 4 0 (cdE code t a (pkN code s 4)) [] else a0a.mk 1 0 zE []
def plN(code:List Int)(t a k:Int)(s:Sr):Sr :=
 if plA a k=true then pkN code s a else if pk code s 4=1 then cdN code t a (pkN code s 4) else pkN code s 4
structure Gp where
 p:a0a
 s:Sr
 left:Int
def plG(code:List Int)(t a k:Int)(s:Sr)(l:Int):Gp:=⟨plE code t a k s,plN code t a k s,l⟩
def pgK(code:List Int)(s:Sr):Int:=pk code s 12
def pg1(code:List Int)(s:Sr):Sr:=pkN code s 12
def pgG(code:List Int)(t a:Int):Nat→Sr→Int→Gp
 | 0,s,left=>plG code t a (pgK code s) (pg1 code s) (left - 1)
 | d+1,s,left =>
  if left - 1<1∨pgK code s<3 then plG code t a (pgK code s) (pg1 code s) (left - 1) else
  if pgK code s<6 then
   let A:=pgG code t a d (pg1 code s) (left - 1)
   let B:=pgG code t a d A.s A.left
   ⟨a0a.mk 5 0 zE [A.p,B.p],B.s,B.left⟩ else
  let A:=pgG code t a d (cdN code t a (pg1 code s)) (left - 1)
  if pgK code s<9 then
   let B:=pgG code t a d A.s A.left
   ⟨a0a.mk 6 0 (cdE code t a (pg1 code s)) [A.p,B.p],B.s,B.left⟩ else
  ⟨a0a.mk 7 0 (cdE code t a (pg1 code s)) [A.p],A.s,A.left⟩
structure GpB(code:List Int)(d:Nat)(m left:Int)(r:Gp):Prop where
 sz:a0e r.p≤20 * wG d
 sr:a0s code r.s (m+300 * wG d)
 l0:left - wG d≤r.left
 l1:r.left≤left
theorem e4n:a0q zE=0:=by simp[a0q,a7p]
theorem g9q(code:List Int)(t a k m left b:Int)(d:Nat)(s:Sr)(ht:0≤t∧t≤3)(ha:0≤a∧a≤4)(h:a0s code s m)(hb:m+260≤b+300 * (wG d:Int)):GpB code d b left (plG code t a k s (left - 1)):=by
 have hw:=c0k d
 have hc:=c5a code t a (m+2) (pkN code s 4) ht ha (h.next 4)
 have hz:=hc.sz
 have key:∀ p s',a0e p≤14→a0s code s' (m+260)→plE code t a k s=p→plN code t a k s=s'→GpB code d b left (plG code t a k s (left - 1)):=by
  intro p s' h1 h2 e1 e2
  unfold plG
  rw[e1,e2]
  exact⟨by show a0e p≤_;omega,h2.mono (by omega),by show left - _≤left - 1;omega,by show left - 1≤left;omega⟩
 have z:∀ k n,a0e (a0a.mk k n zE [])≤14:=fun k n=>by simp[a0e,a3v,e4n]
 by_cases x:plA a k=true
 ·exact key _ _ (z 3 _) ((h.next a).mono (by omega)) (by unfold plE;rw[if_pos x]) (by unfold plN;rw[if_pos x])
 ·by_cases y:pk code s 4=0
  ·exact key _ _ (z 2 0) ((h.next 4).mono (by omega)) (by unfold plE;rw[if_neg x,if_pos y]) (by unfold plN;rw[if_neg x,if_neg (by omega)])
  ·by_cases y1:pk code s 4=1
   ·exact key (a0a.mk 4 0 (cdE code t a (pkN code s 4)) []) _ (by simp[a0e,a3v];exact hz) (hc.sr.mono (by omega)) (by unfold plE;rw[if_neg x,if_neg y,if_pos y1]) (by unfold plN;rw[if_neg x,if_pos y1])
   ·exact key _ _ (z 1 0) ((h.next 4).mono (by omega)) (by unfold plE;rw[if_neg x,if_neg y,if_neg y1]) (by unfold plN;rw[if_neg x,if_neg y1])
theorem c4t(code:List Int)(t a:Int)(ht:0≤t∧t≤3)(ha:0≤a∧a≤4):∀ (d:Nat) (s:Sr) (m left:Int),a0s code s m→GpB code d m left (pgG code t a d s left)
 | 0,s,m,left,h=>g9q code t a _ (m+2) left m 0 _ ht ha (h.next 12) (by simp only[wG];omega)
 | d+1,s,m,left,h=>by
  have hw:=c0k d
  have hw1:wG (d+1)=1+wG d+wG d:=rfl
  have h1:a0s code (pg1 code s) (m+2):=h.next 12
  have hc:=c5a code t a (m+2) (pg1 code s) ht ha h1
  have hz:=hc.sz
  unfold pgG
  by_cases c1:left - 1<1∨pgK code s<3
  ·rw[if_pos c1];exact g9q code t a _ (m+2) left m (d+1) _ ht ha h1 (by omega)
  rw[if_neg c1]
  by_cases c2:pgK code s<6
  ·rw[if_pos c2]
   have ra:=c4t code t a ht ha d (pg1 code s) (m+2) (left - 1) h1
   generalize pgG code t a d (pg1 code s) (left - 1)=A at ra
   have rb:=c4t code t a ht ha d A.s _ A.left ra.sr
   simp only
   generalize pgG code t a d A.s A.left=B at rb
   have a1:=ra.sz;have a2:=ra.l0;have a3:=ra.l1;have b1:=rb.sz;have b2:=rb.l0;have b3:=rb.l1
   exact⟨by simp only[a0e,a3v,e4n,List.length_cons,List.length_nil];omega,rb.sr.mono (by omega),by show left - _≤B.left;omega,by show B.left≤left;omega⟩
  rw[if_neg c2]
  have ra:=c4t code t a ht ha d (cdN code t a (pg1 code s)) _ (left - 1) hc.sr
  simp only
  generalize pgG code t a d (cdN code t a (pg1 code s)) (left - 1)=A at ra
  have a1:=ra.sz;have a2:=ra.l0;have a3:=ra.l1
  by_cases c3:pgK code s<9
  ·rw[if_pos c3]
   have rb:=c4t code t a ht ha d A.s _ A.left ra.sr
   generalize pgG code t a d A.s A.left=B at rb
   have b1:=rb.sz;have b2:=rb.l0;have b3:=rb.l1
   exact⟨by simp only[a0e,a3v,List.length_cons,List.length_nil];omega,rb.sr.mono (by omega),by show left - _≤B.left;omega,by show B.left≤left;omega⟩
  ·rw[if_neg c3]
   exact⟨by simp only[a0e,a3v,List.length_cons,List.length_nil];omega,ra.sr.mono (by omega),by show left - _≤A.left;omega,by show A.left≤left;omega⟩
theorem a8v(gg:a0l)(k n:Int)(c:a0b)(ks:List a0a)(h1:a1r k=(ks.length:Int))(h2:a8u gg (a0a.mk k n c ks)=true)(h3:a8t gg (a0a.mk k n c ks)=true)(h4:∀ x∈ks,a1d gg x=true):a1d gg (a0a.mk k n c ks)=true:=by
 rw[b8s,c0w,h2,h3]
 have e:∀ xs:List a0a,(∀ x∈xs,a1d gg x=true)→a2r (a1d gg) xs=true:=fun xs=>by
  induction xs with
  | nil=>intro _;rfl
  | cons x xs ih=>intro h;rw[a2r,h x (by simp),ih fun y hy=>h y (by simp[hy])];rfl
 rw[e _ h4]
 simp[h1]
theorem g2b(code:List Int)(gg:a0l)(k m:Int)(s:Sr)(hs:a1y gg=true)(h:a0s code s m):a1d gg (plE code gg.tests gg.actions k s)=true:=by
 have hg:=(a6e gg).1 hs
 have hc:=(c5a code gg.tests gg.actions (m+2) (pkN code s 4) hg.1 hg.2 (h.next 4)).isC hs
 have hp:=h.pk gg.actions
 unfold plE
 split
 ·rename_i x
  have x1:0<gg.actions:=of_decide_eq_true (Bool.and_eq_true_iff.1 x).1
  refine a8v gg _ _ _ _ (by decide) ?_ (by simp[a8t,a2s,a4o]) (by simp)
  simp only[a8u,if_true]
  exact decide_eq_true (by omega)
 ·split
  ·exact a8v gg _ _ _ _ (by decide) (by simp[a8u]) (by simp[a8t,a2s,a4o]) (by simp)
  ·split
   ·exact a8v gg _ _ _ _ (by decide) (by simp[a8u]) (by simpa [a8t,a2s] using hc) (by simp)
   ·exact a8v gg _ _ _ _ (by decide) (by simp[a8u]) (by simp[a8t,a2s,a4o]) (by simp)
theorem c2k(code:List Int)(gg:a0l)(hs:a1y gg=true):∀ (d:Nat) (s:Sr) (m left:Int),a0s code s m→a1d gg (pgG code gg.tests gg.actions d s left).p=true
 | 0,s,m,left,h=>g2b code gg _ (m+2) _ hs (h.next 12)
 | d+1,s,m,left,h=>by
  have hg:=(a6e gg).1 hs
  have h1:a0s code (pg1 code s) (m+2):=h.next 12
  have hc:=c5a code gg.tests gg.actions (m+2) (pg1 code s) hg.1 hg.2 h1
  have hi:=hc.isC hs
  unfold pgG
  split
  ·exact g2b code gg _ (m+2) _ hs h1
  split
  ·have ra:=c2k code gg hs d (pg1 code s) (m+2) (left - 1) h1
   have rb:=c2k code gg hs d _ _ (pgG code gg.tests gg.actions d (pg1 code s) (left - 1)).left (c4t code gg.tests gg.actions hg.1 hg.2 d (pg1 code s) (m+2) (left - 1) h1).sr
   exact a8v gg _ _ _ _ rfl (by simp[a8u]) (by simp[a8t,a2s,a4o]) (by simp[ra,rb])
  have ra:=c2k code gg hs d _ _ (left - 1) hc.sr
  simp only
  split
  ·have rb:=c2k code gg hs d _ _ (pgG code gg.tests gg.actions d (cdN code gg.tests gg.actions (pg1 code s)) (left - 1)).left (c4t code gg.tests gg.actions hg.1 hg.2 d _ _ (left - 1) hc.sr).sr
   exact a8v gg _ _ _ _ rfl (by simp[a8u]) (by simpa [a8t,a2s] using hi) (by simp[ra,rb])
  ·exact a8v gg _ _ _ _ rfl (by simp[a8u]) (by simpa [a8t,a2s] using hi) (by simp[ra])
structure InP(code:List Int)(deep left:Int)(s:Sr):Prop where
 d:¬ deep<1
 l:¬ left - 1<1
 k:¬ pgK code s<3
theorem c8l(code:List Int)(t a deep left:Int)(s:Sr)(h:deep<1∨left - 1<1∨pgK code s<3):pgG code t a deep.toNat s left=plG code t a (pgK code s) (pg1 code s) (left - 1):=by
 by_cases hd:deep<1
 ·rw[show deep.toNat=0 by omega,pgG]
 ·rw[a9o deep hd,pgG,if_pos (by omega)]
def pgA(code:List Int)(t a deep left:Int)(s:Sr):Gp:=pgG code t a (deep - 1).toNat (pg1 code s) (left - 1)
def pgC(code:List Int)(t a deep left:Int)(s:Sr):Gp:=pgG code t a (deep - 1).toNat (cdN code t a (pg1 code s)) (left - 1)
def pgN(code:List Int)(t a deep:Int)(r:Gp):Gp:=pgG code t a (deep - 1).toNat r.s r.left
theorem h0m(code:List Int)(t a deep left:Int)(s:Sr)(g:InP code deep left s)(h:pgK code s<6):pgG code t a deep.toNat s left=⟨a0a.mk 5 0 zE [(pgA code t a deep left s).p,(pgN code t a deep (pgA code t a deep left s)).p],(pgN code t a deep (pgA code t a deep left s)).s,(pgN code t a deep (pgA code t a deep left s)).left⟩:=by
 have:=g.l;have:=g.k
 rw[a9o deep g.d,pgG,if_neg (by omega),if_pos h];rfl
theorem h0n(code:List Int)(t a deep left:Int)(s:Sr)(g:InP code deep left s)(h:¬ pgK code s<6)(h9:pgK code s<9):pgG code t a deep.toNat s left=⟨a0a.mk 6 0 (cdE code t a (pg1 code s)) [(pgC code t a deep left s).p,(pgN code t a deep (pgC code t a deep left s)).p],(pgN code t a deep (pgC code t a deep left s)).s,(pgN code t a deep (pgC code t a deep left s)).left⟩:=by
 have:=g.l;have:=g.k
 rw[a9o deep g.d,pgG,if_neg (by omega),if_neg h,if_pos h9];rfl
theorem h0o(code:List Int)(t a deep left:Int)(s:Sr)(g:InP code deep left s)(h:¬ pgK code s<6)(h9:¬ pgK code s<9):pgG code t a deep.toNat s left=⟨a0a.mk 7 0 (cdE code t a (pg1 code s)) [(pgC code t a deep left s).p],(pgC code t a deep left s).s,(pgC code t a deep left s).left⟩:=by
 have:=g.l;have:=g.k
 rw[a9o deep g.d,pgG,if_neg (by omega),if_neg h,if_neg h9];rfl
structure GqB(code:List Int)(deep left:Int)(s:Sr)(k:Int):Prop where
 s:a0s code s (900000000 - 300 * (wG (deep - 1).toNat:Int) - k)
 w:1≤wG (deep - 1).toNat
 l0 : -1000000+(wG (deep - 1).toNat:Int)≤left
 l1:left≤1000000
theorem h0i(code:List Int)(deep left:Int)(s:Sr)(hd:¬ deep<1)(hs:a0s code s (900000000 - 300 * (wG deep.toNat:Int)))(h0 : -1000000+(wG deep.toNat:Int)≤left)(h1:left≤1000000):GqB code deep (left - 1) (pg1 code s) 260:=by
 have hw:=d6s deep hd
 have hp:=c0k (deep - 1).toNat
 exact⟨(hs.next 12).mono (by omega),hp,by omega,by omega⟩
theorem GqB.cond{code:List Int}{deep left:Int}{s:Sr}(h:GqB code deep left s 260)(t a:Int)(ht:0≤t∧t≤3)(ha:0≤a∧a≤4):GqB code deep left (cdN code t a s) 0 :=
 ⟨(c5a code t a _ s ht ha h.s).sr.mono (by omega),h.w,h.l0,h.l1⟩
theorem g7s(code:List Int)(t a deep left:Int)(s s1:Sr)(hd:¬ deep<1)(hs:a0s code s (900000000 - 300 * (wG deep.toNat:Int)))(h0 : -1000000+(wG deep.toNat:Int)≤left)(h1:left≤1000000)(ht:0≤t∧t≤3)(ha:0≤a∧a≤4)
  (hs1:a0s code s1 (900000000 - 300 * (wG deep.toNat:Int)+260)) :
  GqB code deep (pgG code t a (deep - 1).toNat s1 (left - 1)).left (pgG code t a (deep - 1).toNat s1 (left - 1)).s 0∧a0e (pgG code t a (deep - 1).toNat s1 (left - 1)).p≤20 * wG (deep - 1).toNat:=by
 have hw:=d6s deep hd
 have hp:=c0k (deep - 1).toNat
 have r:=c4t code t a ht ha (deep - 1).toNat s1 _ (left - 1) hs1
 have r0:=r.l0;have r1:=r.l1
 exact⟨⟨r.sr.mono (by omega),hp,by omega,by omega⟩,r.sz⟩
theorem h0q(d:Nat)(h:d≤10):wG d≤2047:=by
 have:∀ d:Fin 11,wG d.val≤2047:=by decide
 exact this ⟨d,by omega⟩
structure PgF(code:List Int)(t a deep left:Int)(s:Sr):Prop where
 f_a:GqB code deep (pgA code t a deep left s).left (pgA code t a deep left s).s 0
 f_sa:a0e (pgA code t a deep left s).p≤1048576
 f_c:GqB code deep (pgC code t a deep left s).left (pgC code t a deep left s).s 0
 f_sc:a0e (pgC code t a deep left s).p≤1048576
 f_na:a0e (pgN code t a deep (pgA code t a deep left s)).p≤1048576
 f_nc:a0e (pgN code t a deep (pgC code t a deep left s)).p≤1048576
 f_b0:GqB code deep (left - 1) (pg1 code s) 260
 f_b1:GqB code deep (left - 1) (cdN code t a (pg1 code s)) 0
 f_ce:a0q (cdE code t a (pg1 code s))≤1048576
 f_l0 : -1000000+(wG (deep - 1).toNat:Int)≤left - 1
theorem h1d(code:List Int)(t a deep left:Int)(s:Sr)(hd:¬ deep<1)(hd10:deep≤10)(hs:a0s code s (900000000 - 300 * (wG deep.toNat:Int)))(h0 : -1000000+(wG deep.toNat:Int)≤left)(h1:left≤1000000)(ht:0≤t∧t≤3)(ha:0≤a∧a≤4):PgF code t a deep left s:=by
 have b0:=h0i code deep left s hd hs h0 h1
 have hc:=c5a code t a _ (pg1 code s) ht ha (hs.next 12)
 have hA:=g7s code t a deep left s (pg1 code s) hd hs h0 h1 ht ha ((hs.next 12).mono (by omega))
 have hC:=g7s code t a deep left s (cdN code t a (pg1 code s)) hd hs h0 h1 ht ha (hc.sr.mono (by omega))
 have hw:=h0q (deep - 1).toNat (by omega)
 have nA:=(c4t code t a ht ha (deep - 1).toNat _ _ (pgA code t a deep left s).left hA.1.s).sz
 have nC:=(c4t code t a ht ha (deep - 1).toNat _ _ (pgC code t a deep left s).left hC.1.s).sz
 have ce:=hc.sz
 exact⟨hA.1,Nat.le_trans hA.2 (by omega),hC.1,Nat.le_trans hC.2 (by omega),Nat.le_trans nA (by omega),Nat.le_trans nC (by omega),b0,b0.cond t a ht ha,by omega,b0.l0⟩
theorem g7a(code:List Int)(t a k:Int)(s:Sr)(h:0<a)(h2:¬ k=2):plE code t a k s=a0a.mk 3 (pk code s a) zE []∧plN code t a k s=pkN code s a:=by
 have:plA a k=true:=by simp[plA,h,h2]
 simp only[plE,plN,if_pos this,and_self]
theorem g3j{a k:Int}(h:¬ 0<a∨k=2):¬ plA a k=true:=by
 rcases h with h|h<;>simp[plA,h]
theorem g7b(code:List Int)(t a k:Int)(s:Sr)(h:¬ 0<a∨k=2)(h2:pk code s 4=0):plE code t a k s=a0a.mk 2 0 zE []∧plN code t a k s=pkN code s 4:=by
 simp only[plE,plN,if_neg (g3j h),if_pos h2,if_neg (show ¬ pk code s 4=1 by omega),and_self]
theorem g7c(code:List Int)(t a k:Int)(s:Sr)(h:¬ 0<a∨k=2)(h2:pk code s 4=1):plE code t a k s=a0a.mk 4 0 (cdE code t a (pkN code s 4)) []∧plN code t a k s=cdN code t a (pkN code s 4):=by
 simp only[plE,plN,if_neg (g3j h),if_neg (show ¬ pk code s 4=0 by omega),if_pos h2,and_self]
theorem g7d(code:List Int)(t a k:Int)(s:Sr)(h:¬ 0<a∨k=2)(h2:¬ pk code s 4=0)(h3:¬ pk code s 4=1):plE code t a k s=a0a.mk 1 0 zE []∧plN code t a k s=pkN code s 4:=by
 simp only[plE,plN,if_neg (g3j h),if_neg h2,if_neg h3,and_self]
def a6l(n:Nat):SCt:=⟨b3o,[[.p 1, .d (.int .i64), .d (.int .i64), .d (.int .i64)],[.d (.slice (.int .u8)), .d (.int .i64), .d (.int .u64)]],[.b 0, .v (.int .i64)],[[(.int .i64),(.int .i64),(.int .i64)],[(.slice (.int .u8)),(.int .i64),(.int .u64)]],fun (deep:Int) (tn:Int) (an:Int) (left:Int) (code:List Int) (pos:Int) (seed:Int)=>⟨(some (deep.toNat<n∧a0s code (Sr.mk pos seed) (900000000 - 300 * (wG deep.toNat:Int))∧(0≤tn∧tn≤3)∧(0≤an∧an≤4)∧deep≤10 ∧ -1000000+(wG deep.toNat:Int)≤left∧left≤1000000),[⟨(.st .prog),(pgG code tn an deep.toNat (Sr.mk pos seed) left).p⟩],[[⟨(.int .i64),tn⟩,⟨(.int .i64),an⟩,⟨(.int .i64),(pgG code tn an deep.toNat (Sr.mk pos seed) left).left⟩],[⟨(.slice (.int .u8)),code⟩,⟨(.int .i64),(pgG code tn an deep.toNat (Sr.mk pos seed) left).s.pos⟩,⟨(.int .u64),(pgG code tn an deep.toNat (Sr.mk pos seed) left).s.seed⟩]])⟩⟩
def a4l:SCt:=⟨b3o,[[.p 1, .d (.int .i64), .d (.int .i64), .d (.int .i64)],[.d (.slice (.int .u8)), .d (.int .i64), .d (.int .u64)]],[.b 0, .v (.int .i64)],[[(.int .i64),(.int .i64),(.int .i64)],[(.slice (.int .u8)),(.int .i64),(.int .u64)]],fun (deep:Int) (tn:Int) (an:Int) (left:Int) (code:List Int) (pos:Int) (seed:Int)=>⟨(some (a0s code (Sr.mk pos seed) (900000000 - 300 * (wG deep.toNat:Int))∧(0≤tn∧tn≤3)∧(0≤an∧an≤4)∧deep≤10 ∧ -1000000+(wG deep.toNat:Int)≤left∧left≤1000000),[⟨(.st .prog),(pgG code tn an deep.toNat (Sr.mk pos seed) left).p⟩],[[⟨(.int .i64),tn⟩,⟨(.int .i64),an⟩,⟨(.int .i64),(pgG code tn an deep.toNat (Sr.mk pos seed) left).left⟩],[⟨(.slice (.int .u8)),code⟩,⟨(.int .i64),(pgG code tn an deep.toNat (Sr.mk pos seed) left).s.pos⟩,⟨(.int .u64),(pgG code tn an deep.toNat (Sr.mk pos seed) left).s.seed⟩]])⟩⟩
def c4a(deep:Int)(tn:Int)(an:Int)(left:Int)(code:List Int)(pos:Int)(seed:Int):Nat→a0t:=(fun zb=>if Nat.beq zb 100012 then .mk (Unit) (fun u=>InP code deep left (Sr.mk pos seed)) (fun u=>0) [] [2,3,11,12,13,14,15,16,17,18,19,20,21,22,23,24,25,26,27,28,29,30,31,32,33,34,35,36,37,38,39,40,41,42,43,44,45,46,47,48,49,50,51,52,53,54,55,56,57,58,59,60,61,62,63,64,65,66,67,68,69,70] (fun u=>[(5, .imm ⟨(.int .i64),(pgK code (Sr.mk pos seed):Int)⟩)]) [0,1,4,5,6,7,8,9,10,71,72,73,74,75,76,77,78,79,80,81,82,83,84,85,86,87,88,89,90,91,92,93,94,95,96,97,98,99,100,101,102,103,104,105] (fun u=>[(400000, .box [.ptr 400001 0, .imm ⟨(.int .i64),(tn:Int)⟩, .imm ⟨(.int .i64),(an:Int)⟩, .imm ⟨(.int .i64),(left - 1:Int)⟩]),(400001, .box [.imm ⟨(.slice (.int .u8)),(code:List Int)⟩, .imm ⟨(.int .i64),((pg1 code (Sr.mk pos seed)).pos:Int)⟩, .imm ⟨(.int .u64),((pg1 code (Sr.mk pos seed)).seed:Int)⟩])]) [] [] (fun u=>(fun zb=>if Nat.beq zb 100014 then .mk (Unit) (fun u=>InP code deep left (Sr.mk pos seed)∧pgK code (Sr.mk pos seed)<6) (fun u=>0) [] [2,3,11,12,13,14,15,16,17,18,19,20,21,22,23,24,25,26,27,28,29,30,31,32,33,34,35,36,37,38,39,40,41,42,43,44,45,46,47,48,49,50,51,52,53,54,55,56,57,58,59,60,61,62,63,64,65,66,67,68,69,70,71,72,73,74,75,76] (fun u=>[(6, .ptr 6 0)]) [0,1,4,5,7,8,9,10,77,78,79,80,81,82,83,84,85,86,87,88,89,90,91,92,93,94,95,96,97,98,99,100,101,102,103,104,105] (fun u=>[(400000, .box [.ptr 400001 0, .imm ⟨(.int .i64),(tn:Int)⟩, .imm ⟨(.int .i64),(an:Int)⟩, .imm ⟨(.int .i64),((pgA code tn an deep left (Sr.mk pos seed)).left:Int)⟩]),(400001, .box [.imm ⟨(.slice (.int .u8)),(code:List Int)⟩, .imm ⟨(.int .i64),((pgA code tn an deep left (Sr.mk pos seed)).s.pos:Int)⟩, .imm ⟨(.int .u64),((pgA code tn an deep left (Sr.mk pos seed)).s.seed:Int)⟩]),(6, .box [.imm ⟨(.int .i64),((pgA code tn an deep left (Sr.mk pos seed)).p.kind:Int)⟩, .imm ⟨(.int .i64),((pgA code tn an deep left (Sr.mk pos seed)).p.num:Int)⟩, .imm ⟨(.int .i64),((pgA code tn an deep left (Sr.mk pos seed)).p.cond.kind:Int)⟩, .imm ⟨(.int .i64),((pgA code tn an deep left (Sr.mk pos seed)).p.cond.num:Int)⟩, .tree 7000, .tree 7050]),(7000, .tree (.st .expr) ((pgA code tn an deep left (Sr.mk pos seed)).p.cond.kids:List a0b)),(7050, .tree (.st .prog) ((pgA code tn an deep left (Sr.mk pos seed)).p.kids:List a0a))]) [] [] (fun u=>(fun zb=>if Nat.beq zb 100015 then .mk (Unit) (fun u=>InP code deep left (Sr.mk pos seed)∧pgK code (Sr.mk pos seed)<6) (fun u=>0) [] [2,3,11,12,13,14,15,16,17,18,19,20,21,22,23,24,25,26,27,28,29,30,31,32,33,34,35,36,37,38,39,40,41,42,43,44,45,46,47,48,49,50,51,52,53,54,55,56,57,58,59,60,61,62,63,64,65,66,67,68,69,70,71,72,73,74,75,76,77,78,79,80] (fun u=>[(7, .ptr 7 0)]) [0,1,4,5,6,8,9,10,81,82,83,84,85,86,87,88,89,90,91,92,93,94,95,96,97,98,99,100,101,102,103,104,105,7000,7050] (fun u=>[(400000, .box [.ptr 400001 0, .imm ⟨(.int .i64),(tn:Int)⟩, .imm ⟨(.int .i64),(an:Int)⟩, .imm ⟨(.int .i64),((pgN code tn an deep (pgA code tn an deep left (Sr.mk pos seed))).left:Int)⟩]),(400001, .box [.imm ⟨(.slice (.int .u8)),(code:List Int)⟩, .imm ⟨(.int .i64),((pgN code tn an deep (pgA code tn an deep left (Sr.mk pos seed))).s.pos:Int)⟩, .imm ⟨(.int .u64),((pgN code tn an deep (pgA code tn an deep left (Sr.mk pos seed))).s.seed:Int)⟩]),(7, .box [.imm ⟨(.int .i64),((pgN code tn an deep (pgA code tn an deep left (Sr.mk pos seed))).p.kind:Int)⟩, .imm ⟨(.int .i64),((pgN code tn an deep (pgA code tn an deep left (Sr.mk pos seed))).p.num:Int)⟩, .imm ⟨(.int .i64),((pgN code tn an deep (pgA code tn an deep left (Sr.mk pos seed))).p.cond.kind:Int)⟩, .imm ⟨(.int .i64),((pgN code tn an deep (pgA code tn an deep left (Sr.mk pos seed))).p.cond.num:Int)⟩, .tree 7100, .tree 7150]),(7100, .tree (.st .expr) ((pgN code tn an deep (pgA code tn an deep left (Sr.mk pos seed))).p.cond.kids:List a0b)),(7150, .tree (.st .prog) ((pgN code tn an deep (pgA code tn an deep left (Sr.mk pos seed))).p.kids:List a0a))]) [] [] (fun u=>fun _ => .none) else .none)) else if Nat.beq zb 100016 then .mk (Unit) (fun u=>InP code deep left (Sr.mk pos seed)∧¬ pgK code (Sr.mk pos seed)<6) (fun u=>0) [] [2,3,6,7,11,12,13,14,15,16,17,18,19,20,21,22,23,24,25,26,27,28,29,30,31,32,33,34,35,36,37,38,39,40,41,42,43,44,45,46,47,48,49,50,51,52,53,54,55,56,57,58,59,60,61,62,63,64,65,66,67,68,69,70,71,72,73,74,75,76,77,78,79,80,81,82,83] (fun u=>[]) [0,1,4,5,8,9,10,84,85,86,87,88,89,90,91,92,93,94,95,96,97,98,99,100,101,102,103,104,105] (fun u=>[(400000, .box [.ptr 400001 0, .imm ⟨(.int .i64),(tn:Int)⟩, .imm ⟨(.int .i64),(an:Int)⟩, .imm ⟨(.int .i64),(left - 1:Int)⟩]),(400001, .box [.imm ⟨(.slice (.int .u8)),(code:List Int)⟩, .imm ⟨(.int .i64),((pg1 code (Sr.mk pos seed)).pos:Int)⟩, .imm ⟨(.int .u64),((pg1 code (Sr.mk pos seed)).seed:Int)⟩])]) [] [] (fun u=>(fun zb=>if Nat.beq zb 100017 then .mk (Unit) (fun u=>InP code deep left (Sr.mk pos seed)∧¬ pgK code (Sr.mk pos seed)<6) (fun u=>0) [] [2,3,6,7,11,12,13,14,15,16,17,18,19,20,21,22,23,24,25,26,27,28,29,30,31,32,33,34,35,36,37,38,39,40,41,42,43,44,45,46,47,48,49,50,51,52,53,54,55,56,57,58,59,60,61,62,63,64,65,66,67,68,69,70,71,72,73,74,75,76,77,78,79,80,81,82,83,84,85] (fun u=>[(8, .ptr 8 0)]) [0,1,4,5,9,10,86,87,88,89,90,91,92,93,94,95,96,97,98,99,100,101,102,103,104,105] (fun u=>[(400000, .box [.ptr 400001 0, .imm ⟨(.int .i64),(tn:Int)⟩, .imm ⟨(.int .i64),(an:Int)⟩, .imm ⟨(.int .i64),(left - 1:Int)⟩]),(400001, .box [.imm ⟨(.slice (.int .u8)),(code:List Int)⟩, .imm ⟨(.int .i64),((cdN code tn an (pg1 code (Sr.mk pos seed))).pos:Int)⟩, .imm ⟨(.int .u64),((cdN code tn an (pg1 code (Sr.mk pos seed))).seed:Int)⟩]),(8, .box [.imm ⟨(.int .i64),((cdE code tn an (pg1 code (Sr.mk pos seed))).kind:Int)⟩, .imm ⟨(.int .i64),((cdE code tn an (pg1 code (Sr.mk pos seed))).num:Int)⟩, .tree 7200]),(7200, .tree (.st .expr) ((cdE code tn an (pg1 code (Sr.mk pos seed))).kids:List a0b))]) [] [] (fun u=>(fun zb=>if Nat.beq zb 100019 then .mk (Unit) (fun u=>(InP code deep left (Sr.mk pos seed)∧¬ pgK code (Sr.mk pos seed)<6)∧pgK code (Sr.mk pos seed)<9) (fun u=>0) [] [2,3,5,6,7,11,12,13,14,15,16,17,18,19,20,21,22,23,24,25,26,27,28,29,30,31,32,33,34,35,36,37,38,39,40,41,42,43,44,45,46,47,48,49,50,51,52,53,54,55,56,57,58,59,60,61,62,63,64,65,66,67,68,69,70,71,72,73,74,75,76,77,78,79,80,81,82,83,84,85,86,87,88,89,90,91] (fun u=>[(9, .ptr 9 0)]) [0,1,4,8,10,92,93,94,95,96,97,98,99,100,101,102,103,104,105,7200] (fun u=>[(400000, .box [.ptr 400001 0, .imm ⟨(.int .i64),(tn:Int)⟩, .imm ⟨(.int .i64),(an:Int)⟩, .imm ⟨(.int .i64),((pgC code tn an deep left (Sr.mk pos seed)).left:Int)⟩]),(400001, .box [.imm ⟨(.slice (.int .u8)),(code:List Int)⟩, .imm ⟨(.int .i64),((pgC code tn an deep left (Sr.mk pos seed)).s.pos:Int)⟩, .imm ⟨(.int .u64),((pgC code tn an deep left (Sr.mk pos seed)).s.seed:Int)⟩]),(9, .box [.imm ⟨(.int .i64),((pgC code tn an deep left (Sr.mk pos seed)).p.kind:Int)⟩, .imm ⟨(.int .i64),((pgC code tn an deep left (Sr.mk pos seed)).p.num:Int)⟩, .imm ⟨(.int .i64),((pgC code tn an deep left (Sr.mk pos seed)).p.cond.kind:Int)⟩, .imm ⟨(.int .i64),((pgC code tn an deep left (Sr.mk pos seed)).p.cond.num:Int)⟩, .tree 7300, .tree 7350]),(7300, .tree (.st .expr) ((pgC code tn an deep left (Sr.mk pos seed)).p.cond.kids:List a0b)),(7350, .tree (.st .prog) ((pgC code tn an deep left (Sr.mk pos seed)).p.kids:List a0a))]) [] [] (fun u=>(fun zb=>if Nat.beq zb 100020 then .mk (Unit) (fun u=>(InP code deep left (Sr.mk pos seed)∧¬ pgK code (Sr.mk pos seed)<6)∧pgK code (Sr.mk pos seed)<9) (fun u=>0) [] [2,3,5,6,7,11,12,13,14,15,16,17,18,19,20,21,22,23,24,25,26,27,28,29,30,31,32,33,34,35,36,37,38,39,40,41,42,43,44,45,46,47,48,49,50,51,52,53,54,55,56,57,58,59,60,61,62,63,64,65,66,67,68,69,70,71,72,73,74,75,76,77,78,79,80,81,82,83,84,85,86,87,88,89,90,91,92,93,94,95] (fun u=>[(10, .ptr 10 0)]) [0,1,4,8,9,96,97,98,99,100,101,102,103,104,105,7200,7300,7350] (fun u=>[(400000, .box [.ptr 400001 0, .imm ⟨(.int .i64),(tn:Int)⟩, .imm ⟨(.int .i64),(an:Int)⟩, .imm ⟨(.int .i64),((pgN code tn an deep (pgC code tn an deep left (Sr.mk pos seed))).left:Int)⟩]),(400001, .box [.imm ⟨(.slice (.int .u8)),(code:List Int)⟩, .imm ⟨(.int .i64),((pgN code tn an deep (pgC code tn an deep left (Sr.mk pos seed))).s.pos:Int)⟩, .imm ⟨(.int .u64),((pgN code tn an deep (pgC code tn an deep left (Sr.mk pos seed))).s.seed:Int)⟩]),(10, .box [.imm ⟨(.int .i64),((pgN code tn an deep (pgC code tn an deep left (Sr.mk pos seed))).p.kind:Int)⟩, .imm ⟨(.int .i64),((pgN code tn an deep (pgC code tn an deep left (Sr.mk pos seed))).p.num:Int)⟩, .imm ⟨(.int .i64),((pgN code tn an deep (pgC code tn an deep left (Sr.mk pos seed))).p.cond.kind:Int)⟩, .imm ⟨(.int .i64),((pgN code tn an deep (pgC code tn an deep left (Sr.mk pos seed))).p.cond.num:Int)⟩, .tree 7400, .tree 7450]),(7400, .tree (.st .expr) ((pgN code tn an deep (pgC code tn an deep left (Sr.mk pos seed))).p.cond.kids:List a0b)),(7450, .tree (.st .prog) ((pgN code tn an deep (pgC code tn an deep left (Sr.mk pos seed))).p.kids:List a0a))]) [] [] (fun u=>fun _ => .none) else .none)) else .none)) else .none)) else .none)) else .none)
abbrev c2a(deep:Int)(tn:Int)(an:Int)(left:Int)(code:List Int)(pos:Int)(seed:Int):Prop:=(a0d an →
 ((a0s code (pkN code (Sr.mk pos seed) (12:Int)) 999999000∧an≤1000000)∧((a0a.mk (3:Int) (pk code (pkN code (Sr.mk pos seed) (12:Int)) an) zE [])=((pgG code tn an deep.toNat (Sr.mk pos seed) left).p)∧((tn=tn∧(an=an∧(left - (1:Int))=((pgG code tn an deep.toNat (Sr.mk pos seed) left).left)))∧((code=code∧(((pkN code (pkN code (Sr.mk pos seed) (12:Int)) an).pos)=((pgG code tn an deep.toNat (Sr.mk pos seed) left).s.pos)∧((pkN code (pkN code (Sr.mk pos seed) (12:Int)) an).seed)=((pgG code tn an deep.toNat (Sr.mk pos seed) left).s.seed)))∧True)))))
abbrev c2b(deep:Int)(tn:Int)(an:Int)(left:Int)(code:List Int)(pos:Int)(seed:Int):Prop:=((tn=tn∧(an=an∧(left - (1:Int))=((pgG code tn an deep.toNat (Sr.mk pos seed) left).left)))∧((code=code∧(((pkN code (pkN code (Sr.mk pos seed) (12:Int)) (4:Int)).pos)=((pgG code tn an deep.toNat (Sr.mk pos seed) left).s.pos)∧((pkN code (pkN code (Sr.mk pos seed) (12:Int)) (4:Int)).seed)=((pgG code tn an deep.toNat (Sr.mk pos seed) left).s.seed)))∧True))
abbrev c2c(deep:Int)(tn:Int)(an:Int)(left:Int)(code:List Int)(pos:Int)(seed:Int):Prop:=((a0s code (pkN code (Sr.mk pos seed) (12:Int)) 999999000∧(4:Int)≤1000000)∧(((decide ((pk code (pkN code (Sr.mk pos seed) (12:Int)) (4:Int))=(0:Int)))=true →
 ((a0a.mk (2:Int) (0:Int) zE [])=((pgG code tn an deep.toNat (Sr.mk pos seed) left).p)∧(c2b deep tn an left code pos seed)))∧((decide ((pk code (pkN code (Sr.mk pos seed) (12:Int)) (4:Int))=(0:Int)))=false →
 (((decide ((pk code (pkN code (Sr.mk pos seed) (12:Int)) (4:Int))=(1:Int)))=true →
 ((a0s code (pkN code (pkN code (Sr.mk pos seed) (12:Int)) (4:Int)) 970000000∧(0≤tn∧tn≤3)∧(0≤an∧an≤4))∧((a0a.mk (4:Int) (0:Int) (a0w (cdE code tn an (pkN code (pkN code (Sr.mk pos seed) (12:Int)) (4:Int)))) [])=((pgG code tn an deep.toNat (Sr.mk pos seed) left).p)∧((tn=tn∧(an=an∧(left - (1:Int))=((pgG code tn an deep.toNat (Sr.mk pos seed) left).left)))∧((code=code∧(((cdN code tn an (pkN code (pkN code (Sr.mk pos seed) (12:Int)) (4:Int))).pos)=((pgG code tn an deep.toNat (Sr.mk pos seed) left).s.pos)∧((cdN code tn an (pkN code (pkN code (Sr.mk pos seed) (12:Int)) (4:Int))).seed)=((pgG code tn an deep.toNat (Sr.mk pos seed) left).s.seed)))∧True)))))∧((decide ((pk code (pkN code (Sr.mk pos seed) (12:Int)) (4:Int))=(1:Int)))=false →
 ((a0g (a0a.mk 1 0 zE []))=((pgG code tn an deep.toNat (Sr.mk pos seed) left).p)∧(c2b deep tn an left code pos seed)))))))
abbrev c2d(deep:Int)(tn:Int)(an:Int)(left:Int)(code:List Int)(pos:Int)(seed:Int):Prop:=(a0d an →
 (((decide ((0:Int)<an))=true →
 (((!(decide ((pk code (Sr.mk pos seed) (12:Int))=(2:Int))))=true →
 (c2a deep tn an left code pos seed))∧((!(decide ((pk code (Sr.mk pos seed) (12:Int))=(2:Int))))=false →
 (c2c deep tn an left code pos seed))))∧((decide ((0:Int)<an))=(!true) →
 ((false=true →
 (c2a deep tn an left code pos seed))∧(false=false →
 (c2c deep tn an left code pos seed))))))
abbrev c2e(deep:Int)(tn:Int)(an:Int)(left:Int)(code:List Int)(pos:Int)(seed:Int):Prop:=(∃ u1:Unit,(InP code deep left (Sr.mk pos seed)∧((True∧(deep=deep∧(True∧((pk code (Sr.mk pos seed) (12:Int))=(pgK code (Sr.mk pos seed))∧True))))∧((True∧(tn=tn∧(an=an∧((left - (1:Int))=(left - 1)∧True))))∧((code=code∧(((pkN code (Sr.mk pos seed) (12:Int)).pos)=((pg1 code (Sr.mk pos seed)).pos)∧(((pkN code (Sr.mk pos seed) (12:Int)).seed)=((pg1 code (Sr.mk pos seed)).seed)∧True)))∧(((0:Int)=(0:Int)∧((0:Int)=(0:Int)∧((0:Int)=(0:Int)∧((0:Int)=(0:Int)∧(True∧(True∧True))))))∧True))))))
abbrev c2f(deep:Int)(tn:Int)(an:Int)(left:Int)(code:List Int)(pos:Int)(seed:Int):Prop:=(((decide ((pk code (Sr.mk pos seed) (12:Int))<(3:Int)))=true →
 (c2d deep tn an left code pos seed))∧((decide ((pk code (Sr.mk pos seed) (12:Int))<(3:Int)))=false →
 (c2e deep tn an left code pos seed)))
abbrev c2g(deep:Int)(tn:Int)(an:Int)(left:Int)(code:List Int)(pos:Int)(seed:Int):Prop:=((true=true →
 (c2d deep tn an left code pos seed))∧(true=false →
 (c2e deep tn an left code pos seed)))
abbrev c2h(tn:Int)(an:Int)(code:List Int)(pos:Int)(seed:Int):Prop:=((((cdE code tn an (pg1 code (Sr.mk pos seed))).kind)=((cdE code tn an (pg1 code (Sr.mk pos seed))).kind)∧(((cdE code tn an (pg1 code (Sr.mk pos seed))).num)=((cdE code tn an (pg1 code (Sr.mk pos seed))).num)∧(True∧True)))∧(((cdE code tn an (pg1 code (Sr.mk pos seed))).kids)=((cdE code tn an (pg1 code (Sr.mk pos seed))).kids)∧(((0:Int)=(0:Int)∧((0:Int)=(0:Int)∧((0:Int)=(0:Int)∧((0:Int)=(0:Int)∧(True∧(True∧True))))))∧True)))
abbrev b4v(tn:Int)(an:Int)(code:List Int)(pos:Int)(seed:Int):Prop:=(((cdE code tn an (pg1 code (Sr.mk pos seed))).kind)=((cdE code tn an (pg1 code (Sr.mk pos seed))).kind)∧(((cdE code tn an (pg1 code (Sr.mk pos seed))).num)=((cdE code tn an (pg1 code (Sr.mk pos seed))).num)∧((7200:Nat)=7200∧True)))
theorem d8q(n:Nat)(deep:Int)(tn:Int)(an:Int)(left:Int)(code:List Int)(pos:Int)(seed:Int):awp (a2o [] [a2g,a2v,a1l,a1x] [] [22,55,61,68,70,76,80,83,85,91,95,99,104,105] [] [] [] [a1a,a2y,a6l n]) (a0i a5x) (c4a deep tn an left code pos seed) 0 (a9b (a2o [] [a2g,a2v,a1l,a1x] [] [22,55,61,68,70,76,80,83,85,91,95,99,104,105] [] [] [] [a1a,a2y,a6l n]) a5x [[.p 1, .d (.int .i64), .d (.int .i64), .d (.int .i64)],[.d (.slice (.int .u8)), .d (.int .i64), .d (.int .u64)]] fun r ds=>a1e r [⟨(.st .prog),(pgG code tn an deep.toNat (Sr.mk pos seed) left).p⟩]∧b2i ds [[⟨(.int .i64),tn⟩,⟨(.int .i64),an⟩,⟨(.int .i64),(pgG code tn an deep.toNat (Sr.mk pos seed) left).left⟩],[⟨(.slice (.int .u8)),code⟩,⟨(.int .i64),(pgG code tn an deep.toNat (Sr.mk pos seed) left).s.pos⟩,⟨(.int .u64),(pgG code tn an deep.toNat (Sr.mk pos seed) left).s.seed⟩]]) (a2x a5x [.box 0, .val ⟨(.int .i64),deep⟩] [[.p 1, .d (.int .i64), .d (.int .i64), .d (.int .i64)],[.d (.slice (.int .u8)), .d (.int .i64), .d (.int .u64)]] [[⟨(.int .i64),tn⟩,⟨(.int .i64),an⟩,⟨(.int .i64),left⟩],[⟨(.slice (.int .u8)),code⟩,⟨(.int .i64),pos⟩,⟨(.int .u64),seed⟩]]) =
 ((a0d left →
 (a0d (left - (1:Int))∧((a0s code (Sr.mk pos seed) 999999000∧(12:Int)≤1000000)∧((a0d (left - (1:Int)) →
 (((decide ((left - (1:Int))<(1:Int)))=false →
 (((decide (deep<(1:Int)))=false →
 (c2f deep tn an left code pos seed))∧((decide (deep<(1:Int)))=(!false) →
 (c2g deep tn an left code pos seed))))∧((decide ((left - (1:Int))<(1:Int)))=(!false) →
 ((true=false →
 (c2f deep tn an left code pos seed))∧(true=(!false) →
 (c2g deep tn an left code pos seed))))))∧(∀ u1:Unit,(InP code deep left (Sr.mk pos seed) →
 ((((decide ((pgK code (Sr.mk pos seed))<(6:Int)))=true →
 ((a0d (deep - (1:Int))∧(((deep - (1:Int)).toNat<n∧a0s code (pg1 code (Sr.mk pos seed)) (900000000 - 300 * (wG (deep - (1:Int)).toNat:Int))∧(0≤tn∧tn≤3)∧(0≤an∧an≤4)∧(deep - (1:Int))≤10 ∧ -1000000+(wG (deep - (1:Int)).toNat:Int)≤(left - 1)∧(left - 1)≤1000000)∧(∃ u2:Unit,((InP code deep left (Sr.mk pos seed)∧pgK code (Sr.mk pos seed)<6)∧((True∧(deep=deep∧(True∧((pgK code (Sr.mk pos seed))=(pgK code (Sr.mk pos seed))∧(True∧True)))))∧((True∧(tn=tn∧(an=an∧(((pgG code tn an (deep - (1:Int)).toNat (pg1 code (Sr.mk pos seed)) (left - 1)).left)=((pgA code tn an deep left (Sr.mk pos seed)).left)∧True))))∧((code=code∧(((pgG code tn an (deep - (1:Int)).toNat (pg1 code (Sr.mk pos seed)) (left - 1)).s.pos)=((pgA code tn an deep left (Sr.mk pos seed)).s.pos)∧(((pgG code tn an (deep - (1:Int)).toNat (pg1 code (Sr.mk pos seed)) (left - 1)).s.seed)=((pgA code tn an deep left (Sr.mk pos seed)).s.seed)∧True)))∧((((pgG code tn an (deep - (1:Int)).toNat (pg1 code (Sr.mk pos seed)) (left - 1)).p).kind=((pgA code tn an deep left (Sr.mk pos seed)).p.kind)∧(((pgG code tn an (deep - (1:Int)).toNat (pg1 code (Sr.mk pos seed)) (left - 1)).p).num=((pgA code tn an deep left (Sr.mk pos seed)).p.num)∧(((pgG code tn an (deep - (1:Int)).toNat (pg1 code (Sr.mk pos seed)) (left - 1)).p).cond.kind=((pgA code tn an deep left (Sr.mk pos seed)).p.cond.kind)∧(((pgG code tn an (deep - (1:Int)).toNat (pg1 code (Sr.mk pos seed)) (left - 1)).p).cond.num=((pgA code tn an deep left (Sr.mk pos seed)).p.cond.num)∧(True∧(True∧True))))))∧(((pgG code tn an (deep - (1:Int)).toNat (pg1 code (Sr.mk pos seed)) (left - 1)).p).cond.kids=((pgA code tn an deep left (Sr.mk pos seed)).p.cond.kids)∧(((pgG code tn an (deep - (1:Int)).toNat (pg1 code (Sr.mk pos seed)) (left - 1)).p).kids=((pgA code tn an deep left (Sr.mk pos seed)).p.kids)∧(((0:Int)=(0:Int)∧((0:Int)=(0:Int)∧((0:Int)=(0:Int)∧((0:Int)=(0:Int)∧(True∧(True∧True))))))∧True)))))))))))∧(∀ u2:Unit,((InP code deep left (Sr.mk pos seed)∧pgK code (Sr.mk pos seed)<6) →
 ((a0d (deep - (1:Int))∧(((deep - (1:Int)).toNat<n∧a0s code (Sr.mk ((pgA code tn an deep left (Sr.mk pos seed)).s.pos) ((pgA code tn an deep left (Sr.mk pos seed)).s.seed)) (900000000 - 300 * (wG (deep - (1:Int)).toNat:Int))∧(0≤tn∧tn≤3)∧(0≤an∧an≤4)∧(deep - (1:Int))≤10 ∧ -1000000+(wG (deep - (1:Int)).toNat:Int)≤((pgA code tn an deep left (Sr.mk pos seed)).left)∧((pgA code tn an deep left (Sr.mk pos seed)).left)≤1000000)∧(∃ u3:Unit,((InP code deep left (Sr.mk pos seed)∧pgK code (Sr.mk pos seed)<6)∧((True∧(deep=deep∧(True∧((pgK code (Sr.mk pos seed))=(pgK code (Sr.mk pos seed))∧(True∧(True∧True))))))∧((True∧(tn=tn∧(an=an∧(((pgG code tn an (deep - (1:Int)).toNat (Sr.mk ((pgA code tn an deep left (Sr.mk pos seed)).s.pos) ((pgA code tn an deep left (Sr.mk pos seed)).s.seed)) ((pgA code tn an deep left (Sr.mk pos seed)).left)).left)=((pgN code tn an deep (pgA code tn an deep left (Sr.mk pos seed))).left)∧True))))∧((code=code∧(((pgG code tn an (deep - (1:Int)).toNat (Sr.mk ((pgA code tn an deep left (Sr.mk pos seed)).s.pos) ((pgA code tn an deep left (Sr.mk pos seed)).s.seed)) ((pgA code tn an deep left (Sr.mk pos seed)).left)).s.pos)=((pgN code tn an deep (pgA code tn an deep left (Sr.mk pos seed))).s.pos)∧(((pgG code tn an (deep - (1:Int)).toNat (Sr.mk ((pgA code tn an deep left (Sr.mk pos seed)).s.pos) ((pgA code tn an deep left (Sr.mk pos seed)).s.seed)) ((pgA code tn an deep left (Sr.mk pos seed)).left)).s.seed)=((pgN code tn an deep (pgA code tn an deep left (Sr.mk pos seed))).s.seed)∧True)))∧((((pgG code tn an (deep - (1:Int)).toNat (Sr.mk ((pgA code tn an deep left (Sr.mk pos seed)).s.pos) ((pgA code tn an deep left (Sr.mk pos seed)).s.seed)) ((pgA code tn an deep left (Sr.mk pos seed)).left)).p).kind=((pgN code tn an deep (pgA code tn an deep left (Sr.mk pos seed))).p.kind)∧(((pgG code tn an (deep - (1:Int)).toNat (Sr.mk ((pgA code tn an deep left (Sr.mk pos seed)).s.pos) ((pgA code tn an deep left (Sr.mk pos seed)).s.seed)) ((pgA code tn an deep left (Sr.mk pos seed)).left)).p).num=((pgN code tn an deep (pgA code tn an deep left (Sr.mk pos seed))).p.num)∧(((pgG code tn an (deep - (1:Int)).toNat (Sr.mk ((pgA code tn an deep left (Sr.mk pos seed)).s.pos) ((pgA code tn an deep left (Sr.mk pos seed)).s.seed)) ((pgA code tn an deep left (Sr.mk pos seed)).left)).p).cond.kind=((pgN code tn an deep (pgA code tn an deep left (Sr.mk pos seed))).p.cond.kind)∧(((pgG code tn an (deep - (1:Int)).toNat (Sr.mk ((pgA code tn an deep left (Sr.mk pos seed)).s.pos) ((pgA code tn an deep left (Sr.mk pos seed)).s.seed)) ((pgA code tn an deep left (Sr.mk pos seed)).left)).p).cond.num=((pgN code tn an deep (pgA code tn an deep left (Sr.mk pos seed))).p.cond.num)∧(True∧(True∧True))))))∧(((pgG code tn an (deep - (1:Int)).toNat (Sr.mk ((pgA code tn an deep left (Sr.mk pos seed)).s.pos) ((pgA code tn an deep left (Sr.mk pos seed)).s.seed)) ((pgA code tn an deep left (Sr.mk pos seed)).left)).p).cond.kids=((pgN code tn an deep (pgA code tn an deep left (Sr.mk pos seed))).p.cond.kids)∧(((pgG code tn an (deep - (1:Int)).toNat (Sr.mk ((pgA code tn an deep left (Sr.mk pos seed)).s.pos) ((pgA code tn an deep left (Sr.mk pos seed)).s.seed)) ((pgA code tn an deep left (Sr.mk pos seed)).left)).p).kids=((pgN code tn an deep (pgA code tn an deep left (Sr.mk pos seed))).p.kids)∧((((pgA code tn an deep left (Sr.mk pos seed)).p.kind)=((pgA code tn an deep left (Sr.mk pos seed)).p.kind)∧(((pgA code tn an deep left (Sr.mk pos seed)).p.num)=((pgA code tn an deep left (Sr.mk pos seed)).p.num)∧(((pgA code tn an deep left (Sr.mk pos seed)).p.cond.kind)=((pgA code tn an deep left (Sr.mk pos seed)).p.cond.kind)∧(((pgA code tn an deep left (Sr.mk pos seed)).p.cond.num)=((pgA code tn an deep left (Sr.mk pos seed)).p.cond.num)∧(True∧(True∧True))))))∧(((pgA code tn an deep left (Sr.mk pos seed)).p.cond.kids)=((pgA code tn an deep left (Sr.mk pos seed)).p.cond.kids)∧(((pgA code tn an deep left (Sr.mk pos seed)).p.kids)=((pgA code tn an deep left (Sr.mk pos seed)).p.kids)∧(((0:Int)=(0:Int)∧((0:Int)=(0:Int)∧((0:Int)=(0:Int)∧((0:Int)=(0:Int)∧(True∧(True∧True))))))∧True))))))))))))))∧(∀ u3:Unit,((InP code deep left (Sr.mk pos seed)∧pgK code (Sr.mk pos seed)<6) →
 ((a0e (a0a.mk ((pgA code tn an deep left (Sr.mk pos seed)).p.kind) ((pgA code tn an deep left (Sr.mk pos seed)).p.num) (a0b.mk ((pgA code tn an deep left (Sr.mk pos seed)).p.cond.kind) ((pgA code tn an deep left (Sr.mk pos seed)).p.cond.num) ((pgA code tn an deep left (Sr.mk pos seed)).p.cond.kids)) ((pgA code tn an deep left (Sr.mk pos seed)).p.kids))≤1048576∧a0e (a0a.mk ((pgN code tn an deep (pgA code tn an deep left (Sr.mk pos seed))).p.kind) ((pgN code tn an deep (pgA code tn an deep left (Sr.mk pos seed))).p.num) (a0b.mk ((pgN code tn an deep (pgA code tn an deep left (Sr.mk pos seed))).p.cond.kind) ((pgN code tn an deep (pgA code tn an deep left (Sr.mk pos seed))).p.cond.num) ((pgN code tn an deep (pgA code tn an deep left (Sr.mk pos seed))).p.cond.kids)) ((pgN code tn an deep (pgA code tn an deep left (Sr.mk pos seed))).p.kids))≤1048576)∧((a0g (a0a.mk 5 0 zE [(a0a.mk ((pgA code tn an deep left (Sr.mk pos seed)).p.kind) ((pgA code tn an deep left (Sr.mk pos seed)).p.num) (a0b.mk ((pgA code tn an deep left (Sr.mk pos seed)).p.cond.kind) ((pgA code tn an deep left (Sr.mk pos seed)).p.cond.num) ((pgA code tn an deep left (Sr.mk pos seed)).p.cond.kids)) ((pgA code tn an deep left (Sr.mk pos seed)).p.kids)),(a0a.mk ((pgN code tn an deep (pgA code tn an deep left (Sr.mk pos seed))).p.kind) ((pgN code tn an deep (pgA code tn an deep left (Sr.mk pos seed))).p.num) (a0b.mk ((pgN code tn an deep (pgA code tn an deep left (Sr.mk pos seed))).p.cond.kind) ((pgN code tn an deep (pgA code tn an deep left (Sr.mk pos seed))).p.cond.num) ((pgN code tn an deep (pgA code tn an deep left (Sr.mk pos seed))).p.cond.kids)) ((pgN code tn an deep (pgA code tn an deep left (Sr.mk pos seed))).p.kids))]))=((pgG code tn an deep.toNat (Sr.mk pos seed) left).p)∧((tn=tn∧(an=an∧((pgN code tn an deep (pgA code tn an deep left (Sr.mk pos seed))).left)=((pgG code tn an deep.toNat (Sr.mk pos seed) left).left)))∧((code=code∧(((pgN code tn an deep (pgA code tn an deep left (Sr.mk pos seed))).s.pos)=((pgG code tn an deep.toNat (Sr.mk pos seed) left).s.pos)∧((pgN code tn an deep (pgA code tn an deep left (Sr.mk pos seed))).s.seed)=((pgG code tn an deep.toNat (Sr.mk pos seed) left).s.seed)))∧True)))))))))))∧((decide ((pgK code (Sr.mk pos seed))<(6:Int)))=false →
 (∃ u2:Unit,((InP code deep left (Sr.mk pos seed)∧¬ pgK code (Sr.mk pos seed)<6)∧((True∧(deep=deep∧(True∧((pgK code (Sr.mk pos seed))=(pgK code (Sr.mk pos seed))∧True))))∧((True∧(tn=tn∧(an=an∧((left - 1)=(left - 1)∧True))))∧((code=code∧(((pg1 code (Sr.mk pos seed)).pos)=((pg1 code (Sr.mk pos seed)).pos)∧(((pg1 code (Sr.mk pos seed)).seed)=((pg1 code (Sr.mk pos seed)).seed)∧True)))∧(((0:Int)=(0:Int)∧((0:Int)=(0:Int)∧((0:Int)=(0:Int)∧((0:Int)=(0:Int)∧(True∧(True∧True))))))∧True))))))))∧(∀ u2:Unit,((InP code deep left (Sr.mk pos seed)∧¬ pgK code (Sr.mk pos seed)<6) →
 (((a0s code (pg1 code (Sr.mk pos seed)) 970000000∧(0≤tn∧tn≤3)∧(0≤an∧an≤4))∧(∃ u3:Unit,((InP code deep left (Sr.mk pos seed)∧¬ pgK code (Sr.mk pos seed)<6)∧((True∧(deep=deep∧(True∧((pgK code (Sr.mk pos seed))=(pgK code (Sr.mk pos seed))∧(True∧True)))))∧((True∧(tn=tn∧(an=an∧((left - 1)=(left - 1)∧True))))∧((code=code∧(((cdN code tn an (pg1 code (Sr.mk pos seed))).pos)=((cdN code tn an (pg1 code (Sr.mk pos seed))).pos)∧(((cdN code tn an (pg1 code (Sr.mk pos seed))).seed)=((cdN code tn an (pg1 code (Sr.mk pos seed))).seed)∧True)))∧(((cdE code tn an (pg1 code (Sr.mk pos seed))).kind=((cdE code tn an (pg1 code (Sr.mk pos seed))).kind)∧((cdE code tn an (pg1 code (Sr.mk pos seed))).num=((cdE code tn an (pg1 code (Sr.mk pos seed))).num)∧(True∧True)))∧((cdE code tn an (pg1 code (Sr.mk pos seed))).kids=((cdE code tn an (pg1 code (Sr.mk pos seed))).kids)∧(((0:Int)=(0:Int)∧((0:Int)=(0:Int)∧((0:Int)=(0:Int)∧((0:Int)=(0:Int)∧(True∧(True∧True))))))∧True)))))))))∧(∀ u3:Unit,((InP code deep left (Sr.mk pos seed)∧¬ pgK code (Sr.mk pos seed)<6) →
 (((decide ((pgK code (Sr.mk pos seed))<(9:Int)))=true →
 ((a0d (deep - (1:Int))∧(((deep - (1:Int)).toNat<n∧a0s code (cdN code tn an (pg1 code (Sr.mk pos seed))) (900000000 - 300 * (wG (deep - (1:Int)).toNat:Int))∧(0≤tn∧tn≤3)∧(0≤an∧an≤4)∧(deep - (1:Int))≤10 ∧ -1000000+(wG (deep - (1:Int)).toNat:Int)≤(left - 1)∧(left - 1)≤1000000)∧(∃ u4:Unit,(((InP code deep left (Sr.mk pos seed)∧¬ pgK code (Sr.mk pos seed)<6)∧pgK code (Sr.mk pos seed)<9)∧((True∧(deep=deep∧(True∧(True∧(True∧True)))))∧((True∧(tn=tn∧(an=an∧(((pgG code tn an (deep - (1:Int)).toNat (cdN code tn an (pg1 code (Sr.mk pos seed))) (left - 1)).left)=((pgC code tn an deep left (Sr.mk pos seed)).left)∧True))))∧((code=code∧(((pgG code tn an (deep - (1:Int)).toNat (cdN code tn an (pg1 code (Sr.mk pos seed))) (left - 1)).s.pos)=((pgC code tn an deep left (Sr.mk pos seed)).s.pos)∧(((pgG code tn an (deep - (1:Int)).toNat (cdN code tn an (pg1 code (Sr.mk pos seed))) (left - 1)).s.seed)=((pgC code tn an deep left (Sr.mk pos seed)).s.seed)∧True)))∧((((pgG code tn an (deep - (1:Int)).toNat (cdN code tn an (pg1 code (Sr.mk pos seed))) (left - 1)).p).kind=((pgC code tn an deep left (Sr.mk pos seed)).p.kind)∧(((pgG code tn an (deep - (1:Int)).toNat (cdN code tn an (pg1 code (Sr.mk pos seed))) (left - 1)).p).num=((pgC code tn an deep left (Sr.mk pos seed)).p.num)∧(((pgG code tn an (deep - (1:Int)).toNat (cdN code tn an (pg1 code (Sr.mk pos seed))) (left - 1)).p).cond.kind=((pgC code tn an deep left (Sr.mk pos seed)).p.cond.kind)∧(((pgG code tn an (deep - (1:Int)).toNat (cdN code tn an (pg1 code (Sr.mk pos seed))) (left - 1)).p).cond.num=((pgC code tn an deep left (Sr.mk pos seed)).p.cond.num)∧(True∧(True∧True))))))∧(((pgG code tn an (deep - (1:Int)).toNat (cdN code tn an (pg1 code (Sr.mk pos seed))) (left - 1)).p).cond.kids=((pgC code tn an deep left (Sr.mk pos seed)).p.cond.kids)∧(((pgG code tn an (deep - (1:Int)).toNat (cdN code tn an (pg1 code (Sr.mk pos seed))) (left - 1)).p).kids=((pgC code tn an deep left (Sr.mk pos seed)).p.kids)∧(c2h tn an code pos seed)))))))))))∧(∀ u4:Unit,(((InP code deep left (Sr.mk pos seed)∧¬ pgK code (Sr.mk pos seed)<6)∧pgK code (Sr.mk pos seed)<9) →
 ((a0d (deep - (1:Int))∧(((deep - (1:Int)).toNat<n∧a0s code (Sr.mk ((pgC code tn an deep left (Sr.mk pos seed)).s.pos) ((pgC code tn an deep left (Sr.mk pos seed)).s.seed)) (900000000 - 300 * (wG (deep - (1:Int)).toNat:Int))∧(0≤tn∧tn≤3)∧(0≤an∧an≤4)∧(deep - (1:Int))≤10 ∧ -1000000+(wG (deep - (1:Int)).toNat:Int)≤((pgC code tn an deep left (Sr.mk pos seed)).left)∧((pgC code tn an deep left (Sr.mk pos seed)).left)≤1000000)∧(∃ u5:Unit,(((InP code deep left (Sr.mk pos seed)∧¬ pgK code (Sr.mk pos seed)<6)∧pgK code (Sr.mk pos seed)<9)∧((True∧(deep=deep∧(True∧(True∧(True∧(True∧True))))))∧((True∧(tn=tn∧(an=an∧(((pgG code tn an (deep - (1:Int)).toNat (Sr.mk ((pgC code tn an deep left (Sr.mk pos seed)).s.pos) ((pgC code tn an deep left (Sr.mk pos seed)).s.seed)) ((pgC code tn an deep left (Sr.mk pos seed)).left)).left)=((pgN code tn an deep (pgC code tn an deep left (Sr.mk pos seed))).left)∧True))))∧((code=code∧(((pgG code tn an (deep - (1:Int)).toNat (Sr.mk ((pgC code tn an deep left (Sr.mk pos seed)).s.pos) ((pgC code tn an deep left (Sr.mk pos seed)).s.seed)) ((pgC code tn an deep left (Sr.mk pos seed)).left)).s.pos)=((pgN code tn an deep (pgC code tn an deep left (Sr.mk pos seed))).s.pos)∧(((pgG code tn an (deep - (1:Int)).toNat (Sr.mk ((pgC code tn an deep left (Sr.mk pos seed)).s.pos) ((pgC code tn an deep left (Sr.mk pos seed)).s.seed)) ((pgC code tn an deep left (Sr.mk pos seed)).left)).s.seed)=((pgN code tn an deep (pgC code tn an deep left (Sr.mk pos seed))).s.seed)∧True)))∧((((pgG code tn an (deep - (1:Int)).toNat (Sr.mk ((pgC code tn an deep left (Sr.mk pos seed)).s.pos) ((pgC code tn an deep left (Sr.mk pos seed)).s.seed)) ((pgC code tn an deep left (Sr.mk pos seed)).left)).p).kind=((pgN code tn an deep (pgC code tn an deep left (Sr.mk pos seed))).p.kind)∧(((pgG code tn an (deep - (1:Int)).toNat (Sr.mk ((pgC code tn an deep left (Sr.mk pos seed)).s.pos) ((pgC code tn an deep left (Sr.mk pos seed)).s.seed)) ((pgC code tn an deep left (Sr.mk pos seed)).left)).p).num=((pgN code tn an deep (pgC code tn an deep left (Sr.mk pos seed))).p.num)∧(((pgG code tn an (deep - (1:Int)).toNat (Sr.mk ((pgC code tn an deep left (Sr.mk pos seed)).s.pos) ((pgC code tn an deep left (Sr.mk pos seed)).s.seed)) ((pgC code tn an deep left (Sr.mk pos seed)).left)).p).cond.kind=((pgN code tn an deep (pgC code tn an deep left (Sr.mk pos seed))).p.cond.kind)∧(((pgG code tn an (deep - (1:Int)).toNat (Sr.mk ((pgC code tn an deep left (Sr.mk pos seed)).s.pos) ((pgC code tn an deep left (Sr.mk pos seed)).s.seed)) ((pgC code tn an deep left (Sr.mk pos seed)).left)).p).cond.num=((pgN code tn an deep (pgC code tn an deep left (Sr.mk pos seed))).p.cond.num)∧(True∧(True∧True))))))∧(((pgG code tn an (deep - (1:Int)).toNat (Sr.mk ((pgC code tn an deep left (Sr.mk pos seed)).s.pos) ((pgC code tn an deep left (Sr.mk pos seed)).s.seed)) ((pgC code tn an deep left (Sr.mk pos seed)).left)).p).cond.kids=((pgN code tn an deep (pgC code tn an deep left (Sr.mk pos seed))).p.cond.kids)∧(((pgG code tn an (deep - (1:Int)).toNat (Sr.mk ((pgC code tn an deep left (Sr.mk pos seed)).s.pos) ((pgC code tn an deep left (Sr.mk pos seed)).s.seed)) ((pgC code tn an deep left (Sr.mk pos seed)).left)).p).kids=((pgN code tn an deep (pgC code tn an deep left (Sr.mk pos seed))).p.kids)∧((((pgC code tn an deep left (Sr.mk pos seed)).p.kind)=((pgC code tn an deep left (Sr.mk pos seed)).p.kind)∧(((pgC code tn an deep left (Sr.mk pos seed)).p.num)=((pgC code tn an deep left (Sr.mk pos seed)).p.num)∧(((pgC code tn an deep left (Sr.mk pos seed)).p.cond.kind)=((pgC code tn an deep left (Sr.mk pos seed)).p.cond.kind)∧(((pgC code tn an deep left (Sr.mk pos seed)).p.cond.num)=((pgC code tn an deep left (Sr.mk pos seed)).p.cond.num)∧(True∧(True∧True))))))∧(((pgC code tn an deep left (Sr.mk pos seed)).p.cond.kids)=((pgC code tn an deep left (Sr.mk pos seed)).p.cond.kids)∧(((pgC code tn an deep left (Sr.mk pos seed)).p.kids)=((pgC code tn an deep left (Sr.mk pos seed)).p.kids)∧(c2h tn an code pos seed))))))))))))))∧(∀ u5:Unit,(((InP code deep left (Sr.mk pos seed)∧¬ pgK code (Sr.mk pos seed)<6)∧pgK code (Sr.mk pos seed)<9) →
 ((a0q (a0b.mk ((cdE code tn an (pg1 code (Sr.mk pos seed))).kind) ((cdE code tn an (pg1 code (Sr.mk pos seed))).num) ((cdE code tn an (pg1 code (Sr.mk pos seed))).kids))≤1048576∧a0e (a0a.mk ((pgC code tn an deep left (Sr.mk pos seed)).p.kind) ((pgC code tn an deep left (Sr.mk pos seed)).p.num) (a0b.mk ((pgC code tn an deep left (Sr.mk pos seed)).p.cond.kind) ((pgC code tn an deep left (Sr.mk pos seed)).p.cond.num) ((pgC code tn an deep left (Sr.mk pos seed)).p.cond.kids)) ((pgC code tn an deep left (Sr.mk pos seed)).p.kids))≤1048576∧a0e (a0a.mk ((pgN code tn an deep (pgC code tn an deep left (Sr.mk pos seed))).p.kind) ((pgN code tn an deep (pgC code tn an deep left (Sr.mk pos seed))).p.num) (a0b.mk ((pgN code tn an deep (pgC code tn an deep left (Sr.mk pos seed))).p.cond.kind) ((pgN code tn an deep (pgC code tn an deep left (Sr.mk pos seed))).p.cond.num) ((pgN code tn an deep (pgC code tn an deep left (Sr.mk pos seed))).p.cond.kids)) ((pgN code tn an deep (pgC code tn an deep left (Sr.mk pos seed))).p.kids))≤1048576)∧((a0g (a0a.mk 6 0 (a0b.mk ((cdE code tn an (pg1 code (Sr.mk pos seed))).kind) ((cdE code tn an (pg1 code (Sr.mk pos seed))).num) ((cdE code tn an (pg1 code (Sr.mk pos seed))).kids)) [(a0a.mk ((pgC code tn an deep left (Sr.mk pos seed)).p.kind) ((pgC code tn an deep left (Sr.mk pos seed)).p.num) (a0b.mk ((pgC code tn an deep left (Sr.mk pos seed)).p.cond.kind) ((pgC code tn an deep left (Sr.mk pos seed)).p.cond.num) ((pgC code tn an deep left (Sr.mk pos seed)).p.cond.kids)) ((pgC code tn an deep left (Sr.mk pos seed)).p.kids)),(a0a.mk ((pgN code tn an deep (pgC code tn an deep left (Sr.mk pos seed))).p.kind) ((pgN code tn an deep (pgC code tn an deep left (Sr.mk pos seed))).p.num) (a0b.mk ((pgN code tn an deep (pgC code tn an deep left (Sr.mk pos seed))).p.cond.kind) ((pgN code tn an deep (pgC code tn an deep left (Sr.mk pos seed))).p.cond.num) ((pgN code tn an deep (pgC code tn an deep left (Sr.mk pos seed))).p.cond.kids)) ((pgN code tn an deep (pgC code tn an deep left (Sr.mk pos seed))).p.kids))]))=((pgG code tn an deep.toNat (Sr.mk pos seed) left).p)∧((tn=tn∧(an=an∧((pgN code tn an deep (pgC code tn an deep left (Sr.mk pos seed))).left)=((pgG code tn an deep.toNat (Sr.mk pos seed) left).left)))∧((code=code∧(((pgN code tn an deep (pgC code tn an deep left (Sr.mk pos seed))).s.pos)=((pgG code tn an deep.toNat (Sr.mk pos seed) left).s.pos)∧((pgN code tn an deep (pgC code tn an deep left (Sr.mk pos seed))).s.seed)=((pgG code tn an deep.toNat (Sr.mk pos seed) left).s.seed)))∧True)))))))))))∧((decide ((pgK code (Sr.mk pos seed))<(9:Int)))=false →
 (a0d deep →
 ((b4v tn an code pos seed)∧(((400000:Nat)=400000∧(0:Nat)=0)∧(deep=deep∧(a0d (deep - (1:Int))∧((b4v tn an code pos seed)∧(((400000:Nat)=400000∧(0:Nat)=0)∧(((deep - (1:Int)).toNat<n∧a0s code (cdN code tn an (pg1 code (Sr.mk pos seed))) (900000000 - 300 * (wG (deep - (1:Int)).toNat:Int))∧(0≤tn∧tn≤3)∧(0≤an∧an≤4)∧(deep - (1:Int))≤10 ∧ -1000000+(wG (deep - (1:Int)).toNat:Int)≤(left - 1)∧(left - 1)≤1000000)∧((b4v tn an code pos seed)∧((a0q (a0b.mk ((cdE code tn an (pg1 code (Sr.mk pos seed))).kind) ((cdE code tn an (pg1 code (Sr.mk pos seed))).num) ((cdE code tn an (pg1 code (Sr.mk pos seed))).kids))≤1048576∧a0e (a0g ((pgG code tn an (deep - (1:Int)).toNat (cdN code tn an (pg1 code (Sr.mk pos seed))) (left - 1)).p))≤1048576)∧((a0g (a0a.mk 7 0 (a0b.mk ((cdE code tn an (pg1 code (Sr.mk pos seed))).kind) ((cdE code tn an (pg1 code (Sr.mk pos seed))).num) ((cdE code tn an (pg1 code (Sr.mk pos seed))).kids)) [(a0g ((pgG code tn an (deep - (1:Int)).toNat (cdN code tn an (pg1 code (Sr.mk pos seed))) (left - 1)).p))]))=((pgG code tn an deep.toNat (Sr.mk pos seed) left).p)∧((tn=tn∧(an=an∧((pgG code tn an (deep - (1:Int)).toNat (cdN code tn an (pg1 code (Sr.mk pos seed))) (left - 1)).left)=((pgG code tn an deep.toNat (Sr.mk pos seed) left).left)))∧((code=code∧(((pgG code tn an (deep - (1:Int)).toNat (cdN code tn an (pg1 code (Sr.mk pos seed))) (left - 1)).s.pos)=((pgG code tn an deep.toNat (Sr.mk pos seed) left).s.pos)∧((pgG code tn an (deep - (1:Int)).toNat (cdN code tn an (pg1 code (Sr.mk pos seed))) (left - 1)).s.seed)=((pgG code tn an deep.toNat (Sr.mk pos seed) left).s.seed)))∧True)))))))))))))))))))))))))))):=by kernel_rfl
theorem d8b(n:Nat)(hE:a0p [])(hO:a4f [a2g,a2v,a1l,a1x])(hM:a4x [])(hS:a4p [a1a,a2y,a6l n]):SCt.Good (a6l (n+1)):=by
 refine⟨a0j b1b rfl (by decide),?_⟩
 show ∀ (deep:Int) (tn:Int) (an:Int) (left:Int) (code:List Int) (pos:Int) (seed:Int),(deep.toNat<n+1∧a0s code (Sr.mk pos seed) (900000000 - 300 * (wG deep.toNat:Int))∧(0≤tn∧tn≤3)∧(0≤an∧an≤4)∧deep≤10 ∧ -1000000+(wG deep.toNat:Int)≤left∧left≤1000000)→b7w prog b3o [[.p 1, .d (.int .i64), .d (.int .i64), .d (.int .i64)],[.d (.slice (.int .u8)), .d (.int .i64), .d (.int .u64)]] [.box 0, .val ⟨(.int .i64),deep⟩] [[⟨(.int .i64),tn⟩,⟨(.int .i64),an⟩,⟨(.int .i64),left⟩],[⟨(.slice (.int .u8)),code⟩,⟨(.int .i64),pos⟩,⟨(.int .u64),seed⟩]] [⟨(.st .prog),(pgG code tn an deep.toNat (Sr.mk pos seed) left).p⟩] [[⟨(.int .i64),tn⟩,⟨(.int .i64),an⟩,⟨(.int .i64),(pgG code tn an deep.toNat (Sr.mk pos seed) left).left⟩],[⟨(.slice (.int .u8)),code⟩,⟨(.int .i64),(pgG code tn an deep.toNat (Sr.mk pos seed) left).s.pos⟩,⟨(.int .u64),(pgG code tn an deep.toNat (Sr.mk pos seed) left).s.seed⟩]]
 intro deep tn an left code pos seed hp
 refine a7z (own:=[22,55,61,68,70,76,80,83,85,91,95,99,104,105]) (wr:=[]) (cl:=[]) (ro:=[]) hE hO hM hS b1b d4z (c4a deep tn an left code pos seed) rfl rfl ?_
 rewrite [d8q n deep tn an left code pos seed]
 obtain⟨hlt,hs,ht,ha,hd10,hl0,hl1⟩:=hp
 have F0:=fun hd=>h1d code tn an deep left (Sr.mk pos seed) hd hd10 hs hl0 hl1 ht ha
 have hw:=c0k deep.toNat
 refine fun a0=>⟨?_,⟨?_,⟨fun a1=>⟨fun a2=>⟨fun a3=>⟨fun a4=>fun a5=>⟨fun a6=>⟨fun a7=>fun a8=>⟨?_,⟨?_,⟨⟨rfl,⟨rfl,?_⟩⟩,⟨⟨rfl,⟨?_,?_⟩⟩,trivial⟩⟩⟩⟩,fun a7=>⟨?_,⟨fun a8=>⟨?_,⟨⟨rfl,⟨rfl,?_⟩⟩,⟨⟨rfl,⟨?_,?_⟩⟩,trivial⟩⟩⟩,fun a8=>⟨fun a9=>⟨?_,⟨?_,⟨⟨rfl,⟨rfl,?_⟩⟩,⟨⟨rfl,⟨?_,?_⟩⟩,trivial⟩⟩⟩⟩,fun a9=>⟨?_,⟨⟨rfl,⟨rfl,?_⟩⟩,⟨⟨rfl,⟨?_,?_⟩⟩,trivial⟩⟩⟩⟩⟩⟩⟩,fun a6=>⟨fun a7=>fun a8=>⟨?_,⟨?_,⟨⟨rfl,⟨rfl,?_⟩⟩,⟨⟨rfl,⟨?_,?_⟩⟩,trivial⟩⟩⟩⟩,fun a7=>⟨?_,⟨fun a8=>⟨?_,⟨⟨rfl,⟨rfl,?_⟩⟩,⟨⟨rfl,⟨?_,?_⟩⟩,trivial⟩⟩⟩,fun a8=>⟨fun a9=>⟨?_,⟨?_,⟨⟨rfl,⟨rfl,?_⟩⟩,⟨⟨rfl,⟨?_,?_⟩⟩,trivial⟩⟩⟩⟩,fun a9=>⟨?_,⟨⟨rfl,⟨rfl,?_⟩⟩,⟨⟨rfl,⟨?_,?_⟩⟩,trivial⟩⟩⟩⟩⟩⟩⟩⟩,fun a4=>⟨(),⟨?_,⟨⟨trivial,⟨rfl,⟨trivial,⟨?_,trivial⟩⟩⟩⟩,⟨⟨trivial,⟨rfl,⟨rfl,⟨?_,trivial⟩⟩⟩⟩,⟨⟨rfl,⟨?_,⟨?_,trivial⟩⟩⟩,⟨⟨rfl,⟨rfl,⟨rfl,⟨rfl,⟨trivial,⟨trivial,trivial⟩⟩⟩⟩⟩⟩,trivial⟩⟩⟩⟩⟩⟩⟩,fun a3=>⟨fun a4=>fun a5=>⟨fun a6=>⟨fun a7=>fun a8=>⟨?_,⟨?_,⟨⟨rfl,⟨rfl,?_⟩⟩,⟨⟨rfl,⟨?_,?_⟩⟩,trivial⟩⟩⟩⟩,fun a7=>⟨?_,⟨fun a8=>⟨?_,⟨⟨rfl,⟨rfl,?_⟩⟩,⟨⟨rfl,⟨?_,?_⟩⟩,trivial⟩⟩⟩,fun a8=>⟨fun a9=>⟨?_,⟨?_,⟨⟨rfl,⟨rfl,?_⟩⟩,⟨⟨rfl,⟨?_,?_⟩⟩,trivial⟩⟩⟩⟩,fun a9=>⟨?_,⟨⟨rfl,⟨rfl,?_⟩⟩,⟨⟨rfl,⟨?_,?_⟩⟩,trivial⟩⟩⟩⟩⟩⟩⟩,fun a6=>⟨fun a7=>fun a8=>⟨?_,⟨?_,⟨⟨rfl,⟨rfl,?_⟩⟩,⟨⟨rfl,⟨?_,?_⟩⟩,trivial⟩⟩⟩⟩,fun a7=>⟨?_,⟨fun a8=>⟨?_,⟨⟨rfl,⟨rfl,?_⟩⟩,⟨⟨rfl,⟨?_,?_⟩⟩,trivial⟩⟩⟩,fun a8=>⟨fun a9=>⟨?_,⟨?_,⟨⟨rfl,⟨rfl,?_⟩⟩,⟨⟨rfl,⟨?_,?_⟩⟩,trivial⟩⟩⟩⟩,fun a9=>⟨?_,⟨⟨rfl,⟨rfl,?_⟩⟩,⟨⟨rfl,⟨?_,?_⟩⟩,trivial⟩⟩⟩⟩⟩⟩⟩⟩,fun a4=>⟨(),⟨?_,⟨⟨trivial,⟨rfl,⟨trivial,⟨?_,trivial⟩⟩⟩⟩,⟨⟨trivial,⟨rfl,⟨rfl,⟨?_,trivial⟩⟩⟩⟩,⟨⟨rfl,⟨?_,⟨?_,trivial⟩⟩⟩,⟨⟨rfl,⟨rfl,⟨rfl,⟨rfl,⟨trivial,⟨trivial,trivial⟩⟩⟩⟩⟩⟩,trivial⟩⟩⟩⟩⟩⟩⟩⟩,fun a2=>⟨fun a3=>⟨fun a4=>fun a5=>⟨fun a6=>⟨fun a7=>fun a8=>⟨?_,⟨?_,⟨⟨rfl,⟨rfl,?_⟩⟩,⟨⟨rfl,⟨?_,?_⟩⟩,trivial⟩⟩⟩⟩,fun a7=>⟨?_,⟨fun a8=>⟨?_,⟨⟨rfl,⟨rfl,?_⟩⟩,⟨⟨rfl,⟨?_,?_⟩⟩,trivial⟩⟩⟩,fun a8=>⟨fun a9=>⟨?_,⟨?_,⟨⟨rfl,⟨rfl,?_⟩⟩,⟨⟨rfl,⟨?_,?_⟩⟩,trivial⟩⟩⟩⟩,fun a9=>⟨?_,⟨⟨rfl,⟨rfl,?_⟩⟩,⟨⟨rfl,⟨?_,?_⟩⟩,trivial⟩⟩⟩⟩⟩⟩⟩,fun a6=>⟨fun a7=>fun a8=>⟨?_,⟨?_,⟨⟨rfl,⟨rfl,?_⟩⟩,⟨⟨rfl,⟨?_,?_⟩⟩,trivial⟩⟩⟩⟩,fun a7=>⟨?_,⟨fun a8=>⟨?_,⟨⟨rfl,⟨rfl,?_⟩⟩,⟨⟨rfl,⟨?_,?_⟩⟩,trivial⟩⟩⟩,fun a8=>⟨fun a9=>⟨?_,⟨?_,⟨⟨rfl,⟨rfl,?_⟩⟩,⟨⟨rfl,⟨?_,?_⟩⟩,trivial⟩⟩⟩⟩,fun a9=>⟨?_,⟨⟨rfl,⟨rfl,?_⟩⟩,⟨⟨rfl,⟨?_,?_⟩⟩,trivial⟩⟩⟩⟩⟩⟩⟩⟩,fun a4=>⟨(),⟨?_,⟨⟨trivial,⟨rfl,⟨trivial,⟨?_,trivial⟩⟩⟩⟩,⟨⟨trivial,⟨rfl,⟨rfl,⟨?_,trivial⟩⟩⟩⟩,⟨⟨rfl,⟨?_,⟨?_,trivial⟩⟩⟩,⟨⟨rfl,⟨rfl,⟨rfl,⟨rfl,⟨trivial,⟨trivial,trivial⟩⟩⟩⟩⟩⟩,trivial⟩⟩⟩⟩⟩⟩⟩,fun a3=>⟨fun a4=>fun a5=>⟨fun a6=>⟨fun a7=>fun a8=>⟨?_,⟨?_,⟨⟨rfl,⟨rfl,?_⟩⟩,⟨⟨rfl,⟨?_,?_⟩⟩,trivial⟩⟩⟩⟩,fun a7=>⟨?_,⟨fun a8=>⟨?_,⟨⟨rfl,⟨rfl,?_⟩⟩,⟨⟨rfl,⟨?_,?_⟩⟩,trivial⟩⟩⟩,fun a8=>⟨fun a9=>⟨?_,⟨?_,⟨⟨rfl,⟨rfl,?_⟩⟩,⟨⟨rfl,⟨?_,?_⟩⟩,trivial⟩⟩⟩⟩,fun a9=>⟨?_,⟨⟨rfl,⟨rfl,?_⟩⟩,⟨⟨rfl,⟨?_,?_⟩⟩,trivial⟩⟩⟩⟩⟩⟩⟩,fun a6=>⟨fun a7=>fun a8=>⟨?_,⟨?_,⟨⟨rfl,⟨rfl,?_⟩⟩,⟨⟨rfl,⟨?_,?_⟩⟩,trivial⟩⟩⟩⟩,fun a7=>⟨?_,⟨fun a8=>⟨?_,⟨⟨rfl,⟨rfl,?_⟩⟩,⟨⟨rfl,⟨?_,?_⟩⟩,trivial⟩⟩⟩,fun a8=>⟨fun a9=>⟨?_,⟨?_,⟨⟨rfl,⟨rfl,?_⟩⟩,⟨⟨rfl,⟨?_,?_⟩⟩,trivial⟩⟩⟩⟩,fun a9=>⟨?_,⟨⟨rfl,⟨rfl,?_⟩⟩,⟨⟨rfl,⟨?_,?_⟩⟩,trivial⟩⟩⟩⟩⟩⟩⟩⟩,fun a4=>⟨(),⟨?_,⟨⟨trivial,⟨rfl,⟨trivial,⟨?_,trivial⟩⟩⟩⟩,⟨⟨trivial,⟨rfl,⟨rfl,⟨?_,trivial⟩⟩⟩⟩,⟨⟨rfl,⟨?_,⟨?_,trivial⟩⟩⟩,⟨⟨rfl,⟨rfl,⟨rfl,⟨rfl,⟨trivial,⟨trivial,trivial⟩⟩⟩⟩⟩⟩,trivial⟩⟩⟩⟩⟩⟩⟩⟩⟩,fun u1 a1=>have b1x0:=a1.d;have b1x1:=F0 a1.d;⟨⟨fun a2=>⟨⟨?_,⟨?_,⟨(),⟨?_,⟨⟨trivial,⟨rfl,⟨trivial,⟨rfl,⟨trivial,trivial⟩⟩⟩⟩⟩,⟨⟨trivial,⟨rfl,⟨rfl,⟨?_,trivial⟩⟩⟩⟩,⟨⟨rfl,⟨?_,⟨?_,trivial⟩⟩⟩,⟨⟨?_,⟨?_,⟨?_,⟨?_,⟨trivial,⟨trivial,trivial⟩⟩⟩⟩⟩⟩,⟨?_,⟨?_,⟨⟨rfl,⟨rfl,⟨rfl,⟨rfl,⟨trivial,⟨trivial,trivial⟩⟩⟩⟩⟩⟩,trivial⟩⟩⟩⟩⟩⟩⟩⟩⟩⟩⟩,fun u2=>fun a3=>⟨⟨?_,⟨?_,⟨(),⟨?_,⟨⟨trivial,⟨rfl,⟨trivial,⟨rfl,⟨trivial,⟨trivial,trivial⟩⟩⟩⟩⟩⟩,⟨⟨trivial,⟨rfl,⟨rfl,⟨?_,trivial⟩⟩⟩⟩,⟨⟨rfl,⟨?_,⟨?_,trivial⟩⟩⟩,⟨⟨?_,⟨?_,⟨?_,⟨?_,⟨trivial,⟨trivial,trivial⟩⟩⟩⟩⟩⟩,⟨?_,⟨?_,⟨⟨rfl,⟨rfl,⟨rfl,⟨rfl,⟨trivial,⟨trivial,trivial⟩⟩⟩⟩⟩⟩,⟨rfl,⟨rfl,⟨⟨rfl,⟨rfl,⟨rfl,⟨rfl,⟨trivial,⟨trivial,trivial⟩⟩⟩⟩⟩⟩,trivial⟩⟩⟩⟩⟩⟩⟩⟩⟩⟩⟩⟩⟩⟩,fun u3=>fun a4=>⟨?_,⟨?_,⟨⟨rfl,⟨rfl,?_⟩⟩,⟨⟨rfl,⟨?_,?_⟩⟩,trivial⟩⟩⟩⟩⟩⟩,fun a2=>⟨(),⟨?_,⟨⟨trivial,⟨rfl,⟨trivial,⟨rfl,trivial⟩⟩⟩⟩,⟨⟨trivial,⟨rfl,⟨rfl,⟨rfl,trivial⟩⟩⟩⟩,⟨⟨rfl,⟨rfl,⟨rfl,trivial⟩⟩⟩,⟨⟨rfl,⟨rfl,⟨rfl,⟨rfl,⟨trivial,⟨trivial,trivial⟩⟩⟩⟩⟩⟩,trivial⟩⟩⟩⟩⟩⟩⟩,fun u2=>fun a2=>⟨⟨?_,⟨(),⟨?_,⟨⟨trivial,⟨rfl,⟨trivial,⟨rfl,⟨trivial,trivial⟩⟩⟩⟩⟩,⟨⟨trivial,⟨rfl,⟨rfl,⟨rfl,trivial⟩⟩⟩⟩,⟨⟨rfl,⟨rfl,⟨rfl,trivial⟩⟩⟩,⟨⟨?_,⟨?_,⟨trivial,trivial⟩⟩⟩,⟨?_,⟨⟨rfl,⟨rfl,⟨rfl,⟨rfl,⟨trivial,⟨trivial,trivial⟩⟩⟩⟩⟩⟩,trivial⟩⟩⟩⟩⟩⟩⟩⟩⟩,fun u3=>fun a3=>⟨fun a4=>⟨⟨?_,⟨?_,⟨(),⟨?_,⟨⟨trivial,⟨rfl,⟨trivial,⟨trivial,⟨trivial,trivial⟩⟩⟩⟩⟩,⟨⟨trivial,⟨rfl,⟨rfl,⟨?_,trivial⟩⟩⟩⟩,⟨⟨rfl,⟨?_,⟨?_,trivial⟩⟩⟩,⟨⟨?_,⟨?_,⟨?_,⟨?_,⟨trivial,⟨trivial,trivial⟩⟩⟩⟩⟩⟩,⟨?_,⟨?_,⟨⟨rfl,⟨rfl,⟨trivial,trivial⟩⟩⟩,⟨rfl,⟨⟨rfl,⟨rfl,⟨rfl,⟨rfl,⟨trivial,⟨trivial,trivial⟩⟩⟩⟩⟩⟩,trivial⟩⟩⟩⟩⟩⟩⟩⟩⟩⟩⟩⟩⟩,fun u4=>fun a5=>⟨⟨?_,⟨?_,⟨(),⟨?_,⟨⟨trivial,⟨rfl,⟨trivial,⟨trivial,⟨trivial,⟨trivial,trivial⟩⟩⟩⟩⟩⟩,⟨⟨trivial,⟨rfl,⟨rfl,⟨?_,trivial⟩⟩⟩⟩,⟨⟨rfl,⟨?_,⟨?_,trivial⟩⟩⟩,⟨⟨?_,⟨?_,⟨?_,⟨?_,⟨trivial,⟨trivial,trivial⟩⟩⟩⟩⟩⟩,⟨?_,⟨?_,⟨⟨rfl,⟨rfl,⟨rfl,⟨rfl,⟨trivial,⟨trivial,trivial⟩⟩⟩⟩⟩⟩,⟨rfl,⟨rfl,⟨⟨rfl,⟨rfl,⟨trivial,trivial⟩⟩⟩,⟨rfl,⟨⟨rfl,⟨rfl,⟨rfl,⟨rfl,⟨trivial,⟨trivial,trivial⟩⟩⟩⟩⟩⟩,trivial⟩⟩⟩⟩⟩⟩⟩⟩⟩⟩⟩⟩⟩⟩⟩⟩,fun u5=>fun a6=>⟨?_,⟨?_,⟨⟨rfl,⟨rfl,?_⟩⟩,⟨⟨rfl,⟨?_,?_⟩⟩,trivial⟩⟩⟩⟩⟩⟩,fun a4=>fun a5=>⟨⟨rfl,⟨rfl,⟨?_,?_⟩⟩⟩,⟨⟨?_,?_⟩,⟨rfl,⟨?_,⟨⟨rfl,⟨rfl,⟨?_,?_⟩⟩⟩,⟨⟨?_,?_⟩,⟨?_,⟨⟨rfl,⟨rfl,⟨?_,?_⟩⟩⟩,⟨?_,⟨?_,⟨⟨rfl,⟨rfl,?_⟩⟩,⟨⟨rfl,⟨?_,?_⟩⟩,trivial⟩⟩⟩⟩⟩⟩⟩⟩⟩⟩⟩⟩⟩⟩⟩⟩⟩⟩
 all_goals try and_intros
 all_goals try simp only[a0b.eta,a0a.eta,a2b,a2d] at *
 all_goals (try simp only[c8d,a0a.eta,a0b.eta,decide_eq_true_eq,decide_eq_false_iff_not,Bool.not_true,Bool.not_false,Bool.not_eq_true',Bool.not_eq_false',a0d] at *);first|rfl|trivial|omega|with_reducible assumption|exact hs.mono (by omega)|exact (hs.next _).mono (by omega)|exact ((hs.next _).next _).mono (by omega)|(rw[c8l code tn an deep left (Sr.mk pos seed) (by first|omega|(right;right;assumption))];rfl)|(rw[c8l code tn an deep left (Sr.mk pos seed) (by first|omega|(right;right;assumption))];exact (g7a code tn an (pgK code (Sr.mk pos seed)) (pg1 code (Sr.mk pos seed)) (by assumption) (by assumption)).1.symm)|(rw[c8l code tn an deep left (Sr.mk pos seed) (by first|omega|(right;right;assumption))];first|exact congrArg Sr.pos (g7a code tn an (pgK code (Sr.mk pos seed)) (pg1 code (Sr.mk pos seed)) (by assumption) (by assumption)).2.symm|exact congrArg Sr.seed (g7a code tn an (pgK code (Sr.mk pos seed)) (pg1 code (Sr.mk pos seed)) (by assumption) (by assumption)).2.symm)|(rw[c8l code tn an deep left (Sr.mk pos seed) (by first|omega|(right;right;assumption))];exact (g7b code tn an (pgK code (Sr.mk pos seed)) (pg1 code (Sr.mk pos seed)) (by first|(left;assumption)|(right;assumption)|(left;omega)) (by assumption)).1.symm)|(rw[c8l code tn an deep left (Sr.mk pos seed) (by first|omega|(right;right;assumption))];first|exact congrArg Sr.pos (g7b code tn an (pgK code (Sr.mk pos seed)) (pg1 code (Sr.mk pos seed)) (by first|(left;assumption)|(right;assumption)|(left;omega)) (by assumption)).2.symm|exact congrArg Sr.seed (g7b code tn an (pgK code (Sr.mk pos seed)) (pg1 code (Sr.mk pos seed)) (by first|(left;assumption)|(right;assumption)|(left;omega)) (by assumption)).2.symm)|(rw[c8l code tn an deep left (Sr.mk pos seed) (by first|omega|(right;right;assumption))];exact (g7c code tn an (pgK code (Sr.mk pos seed)) (pg1 code (Sr.mk pos seed)) (by first|(left;assumption)|(right;assumption)|(left;omega)) (by assumption)).1.symm)|(rw[c8l code tn an deep left (Sr.mk pos seed) (by first|omega|(right;right;assumption))];first|exact congrArg Sr.pos (g7c code tn an (pgK code (Sr.mk pos seed)) (pg1 code (Sr.mk pos seed)) (by first|(left;assumption)|(right;assumption)|(left;omega)) (by assumption)).2.symm|exact congrArg Sr.seed (g7c code tn an (pgK code (Sr.mk pos seed)) (pg1 code (Sr.mk pos seed)) (by first|(left;assumption)|(right;assumption)|(left;omega)) (by assumption)).2.symm)|(rw[c8l code tn an deep left (Sr.mk pos seed) (by first|omega|(right;right;assumption))];exact (g7d code tn an (pgK code (Sr.mk pos seed)) (pg1 code (Sr.mk pos seed)) (by first|(left;assumption)|(right;assumption)|(left;omega)) (by assumption) (by assumption)).1.symm)|(rw[c8l code tn an deep left (Sr.mk pos seed) (by first|omega|(right;right;assumption))];first|exact congrArg Sr.pos (g7d code tn an (pgK code (Sr.mk pos seed)) (pg1 code (Sr.mk pos seed)) (by first|(left;assumption)|(right;assumption)|(left;omega)) (by assumption) (by assumption)).2.symm|exact congrArg Sr.seed (g7d code tn an (pgK code (Sr.mk pos seed)) (pg1 code (Sr.mk pos seed)) (by first|(left;assumption)|(right;assumption)|(left;omega)) (by assumption) (by assumption)).2.symm)|(have F:=F0 (by assumption);have q1:=F.f_l0;have q2:=F.f_a.l0;have q3:=F.f_a.l1;have q4:=F.f_c.l0;have q5:=F.f_c.l1;first|omega|exact F.f_sa|exact F.f_sc|exact F.f_na|exact F.f_nc|exact F.f_ce|exact F.f_b0.s.mono (by omega)|exact F.f_b1.s.mono (by omega)|exact F.f_a.s.mono (by omega)|exact F.f_c.s.mono (by omega))|exact InP.mk (by omega) (by omega) (by assumption)|(have q:InP code deep left (Sr.mk pos seed)∧pgK code (Sr.mk pos seed)<6:=(by assumption);rw[h0m code tn an deep left (Sr.mk pos seed) q.1 q.2];done)|(have q:(InP code deep left (Sr.mk pos seed)∧¬ pgK code (Sr.mk pos seed)<6)∧pgK code (Sr.mk pos seed)<9:=(by assumption);rw[h0n code tn an deep left (Sr.mk pos seed) q.1.1 q.1.2 q.2];done)|(have q:InP code deep left (Sr.mk pos seed)∧¬ pgK code (Sr.mk pos seed)<6:=(by assumption);rw[h0o code tn an deep left (Sr.mk pos seed) q.1 q.2 (by assumption)];first|done|rfl)
theorem f9f:∀ n,a4p [a6l n]
 | 0=>⟨⟨a0j b1b rfl (by decide),fun _ _ _ _ _ _ _ h=>absurd h.1 (Nat.not_lt_zero _)⟩,trivial⟩
 | n+1=>by
  have ih:=f9f n
  exact⟨d8b n trivial ⟨a6u,b0y,a4m,a6c,trivial⟩ trivial ⟨a3u,b3x,ih.1,trivial⟩,trivial⟩
theorem c0i:SCt.Good a4l :=
 ⟨a0j b1b rfl (by decide),fun deep tn an left code pos seed hp=>(f9f (deep.toNat+1)).1.2 deep tn an left code pos seed (⟨Nat.lt_succ_self _,hp⟩)⟩
end
end Go.Proofs.Ytlaoejdeanljgaa

set_option linter.unusedVariables false
set_option linter.unusedSimpArgs false
set_option linter.unusedSectionVars false
set_option maxRecDepth 4000
set_option maxHeartbeats 4000000
namespace Go.Proofs.Ytlaoejdeanljgaa
noncomputable section
def b3g:SCt:=⟨c4r,[[.d (.slice (.int .u8)), .d (.int .i64), .d (.int .u64)]],[.b 0, .v (.st .sig)],[[(.slice (.int .u8)),(.int .i64),(.int .u64)]],fun (gg:a0l) (code:List Int) (pos:Int) (seed:Int)=>⟨(some (a0s code (Sr.mk pos seed) 960000000∧a1y gg=true),[⟨(.st .expr),cdE code gg.tests gg.actions (Sr.mk pos seed)⟩],[[⟨(.slice (.int .u8)),code⟩,⟨(.int .i64),(cdN code gg.tests gg.actions (Sr.mk pos seed)).pos⟩,⟨(.int .u64),(cdN code gg.tests gg.actions (Sr.mk pos seed)).seed⟩]])⟩⟩
def d3a(gg:a0l)(code:List Int)(pos:Int)(seed:Int):Nat→a0t:=fun _ => .none
theorem f0c(gg:a0l)(code:List Int)(pos:Int)(seed:Int):awp (a2o [] [] [] [11] [] [] [3] [a2y]) (a0i b0j) (d3a gg code pos seed) 0 (a9b (a2o [] [] [] [11] [] [] [3] [a2y]) b0j [[.d (.slice (.int .u8)), .d (.int .i64), .d (.int .u64)]] fun r ds=>a1e r [⟨(.st .expr),cdE code gg.tests gg.actions (Sr.mk pos seed)⟩]∧b2i ds [[⟨(.slice (.int .u8)),code⟩,⟨(.int .i64),(cdN code gg.tests gg.actions (Sr.mk pos seed)).pos⟩,⟨(.int .u64),(cdN code gg.tests gg.actions (Sr.mk pos seed)).seed⟩]]) (a2x b0j [.box 0, .val ⟨(.st .sig),gg⟩] [[.d (.slice (.int .u8)), .d (.int .i64), .d (.int .u64)]] [[⟨(.slice (.int .u8)),code⟩,⟨(.int .i64),pos⟩,⟨(.int .u64),seed⟩]]) =
 (((a0s code (Sr.mk pos seed) 970000000∧(0≤gg.tests∧gg.tests≤3)∧(0≤gg.actions∧gg.actions≤4))∧((a0w (cdE code gg.tests gg.actions (Sr.mk pos seed)))=(cdE code gg.tests gg.actions (Sr.mk pos seed))∧((code=code∧(((cdN code gg.tests gg.actions (Sr.mk pos seed)).pos)=((cdN code gg.tests gg.actions (Sr.mk pos seed)).pos)∧((cdN code gg.tests gg.actions (Sr.mk pos seed)).seed)=((cdN code gg.tests gg.actions (Sr.mk pos seed)).seed)))∧True)))):=by kernel_rfl
theorem e9l(hE:a0p [])(hO:a4f [])(hM:a4x [])(hS:a4p [a2y]):SCt.Good b3g:=by
 refine⟨a0j d1u rfl (by decide),?_⟩
 show ∀ (gg:a0l) (code:List Int) (pos:Int) (seed:Int),(a0s code (Sr.mk pos seed) 960000000∧a1y gg=true)→b7w prog c4r [[.d (.slice (.int .u8)), .d (.int .i64), .d (.int .u64)]] [.box 0, .val ⟨(.st .sig),gg⟩] [[⟨(.slice (.int .u8)),code⟩,⟨(.int .i64),pos⟩,⟨(.int .u64),seed⟩]] [⟨(.st .expr),cdE code gg.tests gg.actions (Sr.mk pos seed)⟩] [[⟨(.slice (.int .u8)),code⟩,⟨(.int .i64),(cdN code gg.tests gg.actions (Sr.mk pos seed)).pos⟩,⟨(.int .u64),(cdN code gg.tests gg.actions (Sr.mk pos seed)).seed⟩]]
 intro gg code pos seed hp
 refine a7z (own:=[11]) (wr:=[]) (cl:=[]) (ro:=[3]) hE hO hM hS d1u e5g (d3a gg code pos seed) rfl rfl ?_
 rewrite [f0c gg code pos seed]
 have hg:=(a6e gg).1 hp.2
 refine⟨?_,⟨?_,⟨⟨rfl,⟨rfl,rfl⟩⟩,trivial⟩⟩⟩
 all_goals try and_intros
 all_goals try simp only[a0b.eta,a0a.eta,a2b,a2d] at *
 all_goals (try simp only[c8d,a0b.eta,a0a.eta,decide_eq_true_eq,decide_eq_false_iff_not] at *);first|rfl|trivial|omega|exact hp.1.mono (by decide)|exact hp.1
theorem e3q:SCt.Good b3g:=e9l trivial trivial trivial ⟨b3x,trivial⟩
def b0x:SCt:=⟨c3c,[[.d (.slice (.int .u8)), .d (.int .i64), .d (.int .u64)]],[.b 0, .v (.st .sig), .v (.int .i64)],[[(.slice (.int .u8)),(.int .i64),(.int .u64)]],fun (gg:a0l) (n:Int) (code:List Int) (pos:Int) (seed:Int)=>⟨(some ((a0s code (Sr.mk pos seed) 890000000∧a1y gg=true)∧0≤n∧n≤1000),[⟨(.st .prog),(pgG code gg.tests gg.actions 5 (Sr.mk pos seed) n).p⟩],[[⟨(.slice (.int .u8)),code⟩,⟨(.int .i64),(pgG code gg.tests gg.actions 5 (Sr.mk pos seed) n).s.pos⟩,⟨(.int .u64),(pgG code gg.tests gg.actions 5 (Sr.mk pos seed) n).s.seed⟩]])⟩⟩
def d0v(gg:a0l)(n:Int)(code:List Int)(pos:Int)(seed:Int):Nat→a0t:=fun _ => .none
theorem e6i(gg:a0l)(n:Int)(code:List Int)(pos:Int)(seed:Int):awp (a2o [] [] [] [14] [] [] [4] [a4l]) (a0i a8p) (d0v gg n code pos seed) 0 (a9b (a2o [] [] [] [14] [] [] [4] [a4l]) a8p [[.d (.slice (.int .u8)), .d (.int .i64), .d (.int .u64)]] fun r ds=>a1e r [⟨(.st .prog),(pgG code gg.tests gg.actions 5 (Sr.mk pos seed) n).p⟩]∧b2i ds [[⟨(.slice (.int .u8)),code⟩,⟨(.int .i64),(pgG code gg.tests gg.actions 5 (Sr.mk pos seed) n).s.pos⟩,⟨(.int .u64),(pgG code gg.tests gg.actions 5 (Sr.mk pos seed) n).s.seed⟩]]) (a2x a8p [.box 0, .val ⟨(.st .sig),gg⟩, .val ⟨(.int .i64),n⟩] [[.d (.slice (.int .u8)), .d (.int .i64), .d (.int .u64)]] [[⟨(.slice (.int .u8)),code⟩,⟨(.int .i64),pos⟩,⟨(.int .u64),seed⟩]]) =
 (((a0s code (Sr.mk pos seed) (900000000 - 300 * (wG (5:Int).toNat:Int))∧(0≤gg.tests∧gg.tests≤3)∧(0≤gg.actions∧gg.actions≤4)∧(5:Int)≤10 ∧ -1000000+(wG (5:Int).toNat:Int)≤n∧n≤1000000)∧((a0g ((pgG code gg.tests gg.actions (5:Int).toNat (Sr.mk pos seed) n).p))=((pgG code gg.tests gg.actions 5 (Sr.mk pos seed) n).p)∧((code=code∧(((pgG code gg.tests gg.actions (5:Int).toNat (Sr.mk pos seed) n).s.pos)=((pgG code gg.tests gg.actions 5 (Sr.mk pos seed) n).s.pos)∧((pgG code gg.tests gg.actions (5:Int).toNat (Sr.mk pos seed) n).s.seed)=((pgG code gg.tests gg.actions 5 (Sr.mk pos seed) n).s.seed)))∧True)))):=by kernel_rfl
theorem e6b(hE:a0p [])(hO:a4f [])(hM:a4x [])(hS:a4p [a4l]):SCt.Good b0x:=by
 refine⟨a0j c9m rfl (by decide),?_⟩
 show ∀ (gg:a0l) (n:Int) (code:List Int) (pos:Int) (seed:Int),((a0s code (Sr.mk pos seed) 890000000∧a1y gg=true)∧0≤n∧n≤1000)→b7w prog c3c [[.d (.slice (.int .u8)), .d (.int .i64), .d (.int .u64)]] [.box 0, .val ⟨(.st .sig),gg⟩, .val ⟨(.int .i64),n⟩] [[⟨(.slice (.int .u8)),code⟩,⟨(.int .i64),pos⟩,⟨(.int .u64),seed⟩]] [⟨(.st .prog),(pgG code gg.tests gg.actions 5 (Sr.mk pos seed) n).p⟩] [[⟨(.slice (.int .u8)),code⟩,⟨(.int .i64),(pgG code gg.tests gg.actions 5 (Sr.mk pos seed) n).s.pos⟩,⟨(.int .u64),(pgG code gg.tests gg.actions 5 (Sr.mk pos seed) n).s.seed⟩]]
 intro gg n code pos seed hp
 refine a7z (own:=[14]) (wr:=[]) (cl:=[]) (ro:=[4]) hE hO hM hS c9m e1l (d0v gg n code pos seed) rfl rfl ?_
 rewrite [e6i gg n code pos seed]
 have hg:=(a6e gg).1 hp.1.2
 have hw:wG (Int.toNat 5)=63:=rfl
 refine⟨?_,⟨?_,⟨⟨rfl,⟨?_,?_⟩⟩,trivial⟩⟩⟩
 all_goals try and_intros
 all_goals try simp only[a0b.eta,a0a.eta,a2b,a2d] at *
 all_goals (try simp only[c8d,a0b.eta,a0a.eta,decide_eq_true_eq,decide_eq_false_iff_not] at *);first|rfl|trivial|omega|exact hp.1.1.mono (by omega)
theorem e0n:SCt.Good b0x:=e6b trivial trivial trivial ⟨c0i,trivial⟩
theorem e5s:Ctr.Good a1x:=a6c.plain
def peF(k n:Int)(c:a0b)(es:List a0b):a0b :=
 if k=1 then a0b.mk 2 0 [] else if k=2 then a0b.mk 1 0 [] else if k=3 then a0b.mk 4 n [] else if k=4 then c else
 if k=5 then a0b.mk 7 0 [es.getD 0 zE,es.getD 1 zE] else
 if k=6 then a0b.mk 6 0 [a0b.mk 7 0 [c,es.getD 0 zE],a0b.mk 7 0 [a0b.mk 5 0 [c],es.getD 1 zE]] else
 a0b.mk 7 0 [a0b.mk 8 0 [a0b.mk 7 0 [c,es.getD 0 zE]],a0b.mk 5 0 [c]]
mutual
def peE:a0a→a0b
 | ⟨k,n,c,ks⟩=>peF k n c (g3i ks)
def g3i:List a0a→List a0b
 | []=>[]
 | x::xs=>peE x::g3i xs
end
theorem c9b(z:a0b)(z':a0a):∀ (xs:List a0a) (i:Nat),i<xs.length→(g3i xs).getD i z=peE (xs.getD i z')
 | [],i,h=>by simp at h
 | x::xs,0,_=>rfl
 | x::xs,i+1,h=>by simpa [g3i] using c9b z z' xs i (by simpa using h)
def prG(p:a0a):Prop:=∃ gg:a0l,a1y gg=true∧a1d gg p=true
structure PeF(p:a0a):Prop where
 k:1≤p.kind∧p.kind≤7
 l2:p.kind=5∨p.kind=6→p.kids.length=2
 l1:p.kind=7→p.kids.length=1
 c:p.kind=4∨p.kind=6∨p.kind=7→a0q p.cond≤1048576
 kid:∀ i,i<p.kids.length→prG (p.kids.getD i zP)∧msz (p.kids.getD i zP)<msz p
theorem h1c(p:a0a)(h:prG p):PeF p:=by
 obtain⟨gg,hs,h⟩:=h
 have h0:=h
 rw[b8s,c0w] at h
 simp only[Bool.and_eq_true,decide_eq_true_eq] at h
 obtain⟨⟨⟨h1,_⟩,h3⟩,h4⟩:=h
 refine⟨?_,fun q=>?_,fun q=>?_,fun q=>?_,fun i hi=>⟨⟨gg,hs,d6y (a1d gg) _ p.kids i hi h4⟩,Nat.lt_of_lt_of_le (a1w _ p.kids i hi) (by have:=b3j p;omega)⟩⟩
 ·unfold a1r at h1
  split at h1
  ·omega
  ·split at h1
   ·omega
   ·split at h1<;>omega
 ·rcases q with q|q<;>rw[q] at h1<;>simp[a1r] at h1<;>omega
 ·rw[q] at h1;simp[a1r] at h1;omega
 ·have:a2s p.kind=true:=by rcases q with q|q|q<;>rw[q]<;>rfl
  rw[a8t,if_pos this] at h3
  exact g9m gg _ h3
theorem h0v(p:a0a)(h:p.kind=1):peE p=a0b.mk 2 0 []:=by cases p;subst h;rfl
theorem h0w(p:a0a)(h:p.kind=2):peE p=a0b.mk 1 0 []:=by cases p;subst h;rfl
theorem h0x(p:a0a)(h:p.kind=3):peE p=a0b.mk 4 p.num []:=by cases p;subst h;rfl
theorem h0y(p:a0a)(h:p.kind=4):peE p=p.cond:=by cases p;subst h;rfl
theorem h0z(p:a0a)(h:p.kind=5)(hl:p.kids.length=2):peE p=a0b.mk 7 0 [peE (p.kids.getD 0 zP),peE (p.kids.getD 1 zP)]:=by
 rw[←c9b zE _ p.kids 0 (by omega),←c9b zE _ p.kids 1 (by omega)]
 cases p;subst h;rfl
theorem h1a(p:a0a)(h:p.kind=6)(hl:p.kids.length=2):peE p=a0b.mk 6 0 [a0b.mk 7 0 [p.cond,peE (p.kids.getD 0 zP)],a0b.mk 7 0 [a0b.mk 5 0 [p.cond],peE (p.kids.getD 1 zP)]]:=by
 rw[←c9b zE _ p.kids 0 (by omega),←c9b zE _ p.kids 1 (by omega)]
 cases p;subst h;rfl
theorem h1b(p:a0a)(h:p.kind=7)(hl:p.kids.length=1):peE p=a0b.mk 7 0 [a0b.mk 8 0 [a0b.mk 7 0 [p.cond,peE (p.kids.getD 0 zP)]],a0b.mk 5 0 [p.cond]]:=by
 rw[←c9b zE _ p.kids 0 (by omega)]
 cases p;subst h;rfl
def b2z(n:Nat):Ctr:=⟨b9j,[.r (.st .prog)],fun (p:a0a)=>⟨(some (msz p<n∧prG p),[⟨(.st .expr),peE p⟩])⟩⟩
def b9b:Ctr:=⟨b9j,[.r (.st .prog)],fun (p:a0a)=>⟨(some (prG p),[⟨(.st .expr),peE p⟩])⟩⟩
def d5r(p:a0a):Nat→a0t:=(fun zb=>if Nat.beq zb 100012 then .mk (Unit) (fun u=>p.kind=6∨p.kind=7) (fun u=>0) [] [1,4,5,6,7,8,9,10,11,12,13,14,15,16,17,18,19,20,21,22,23,24,25,26,27,28,29,30,31,32,33,34,35,36,37,38,39,40,41] (fun u=>[]) [0,2,3,42,43,44,45,46,47,48,49,50,51,52,53,54,55,56,57,58,59,60,61,62,63,64,65,66,67,68,69,70,71,72,73,74,75,76,77,78,79,80] (fun u=>[]) [] [] (fun u=>(fun zb=>if Nat.beq zb 100013 then .mk (Unit) (fun u=>p.kind=6∨p.kind=7) (fun u=>0) [] [1,4,5,6,7,8,9,10,11,12,13,14,15,16,17,18,19,20,21,22,23,24,25,26,27,28,29,30,31,32,33,34,35,36,37,38,39,40,41,42,43,44,45,46,47,48,49,50,51,52] (fun u=>[(3, .ptr 3 0)]) [0,2,53,54,55,56,57,58,59,60,61,62,63,64,65,66,67,68,69,70,71,72,73,74,75,76,77,78,79,80] (fun u=>[(3, .box [.imm ⟨(.int .i64),((7:Int):Int)⟩, .imm ⟨(.int .i64),((0:Int):Int)⟩, .imm ⟨(.slice (.st .expr)),([p.cond,peE (p.kids.getD 0 zP)]:List a0b)⟩])]) [] [] (fun u=>fun _ => .none) else .none)) else .none)
theorem f3v(n:Nat)(p:a0a):awp (a0x [b2z n,a1o,a2m,b4x,a6z,b4y] [] [] [73]) (a0i b0b) (d5r p) 0 (a1h (a0x [b2z n,a1o,a2m,b4x,a6z,b4y] [] [] [73]) b0b fun r=>a1e r [⟨(.st .expr),peE p⟩]) (a0r b0b [.ref ⟨(.st .prog),p⟩]) =
 (((a0d p.kind →
 (((decide (p.kind=(1:Int)))=true →
 (a0w (a0b.mk 2 0 []))=(peE p))∧((decide (p.kind=(1:Int)))=false →
 (((decide (p.kind=(2:Int)))=true →
 (a0w (a0b.mk 1 0 []))=(peE p))∧((decide (p.kind=(2:Int)))=false →
 (((decide (p.kind=(3:Int)))=true →
 (a0d p.num →
 (a0b.mk (4:Int) p.num [])=(peE p)))∧((decide (p.kind=(3:Int)))=false →
 (((decide (p.kind=(4:Int)))=true →
 (a0q p.cond≤1048576∧(a0w p.cond)=(peE p)))∧((decide (p.kind=(4:Int)))=false →
 (((decide (p.kind=(5:Int)))=true →
 (a0h (0:Int) p.kids.length∧((msz (p.kids.getD 0 zP)<n∧prG (p.kids.getD 0 zP))∧(a0h (1:Int) p.kids.length∧(p.kids.length≤140737488355328 →
 (p.kids.length≤140737488355328 →
 ((msz (p.kids.getD 1 zP)<n∧prG (p.kids.getD 1 zP))∧(a0w (a0b.mk (7:Int) 0 [(peE (p.kids.getD 0 zP)),(peE (p.kids.getD 1 zP))]))=(peE p))))))))∧((decide (p.kind=(5:Int)))=false →
 (∃ u1:Unit,((p.kind=6∨p.kind=7)∧((p=p∧(True∧True))∧(((0:Int)=(0:Int)∧((0:Int)=(0:Int)∧(True∧True)))∧True)))))))))))))))∧(∀ u1:Unit,((p.kind=6∨p.kind=7) →
 ((a0q p.cond≤1048576∧(a0h (0:Int) p.kids.length∧((msz (p.kids.getD 0 zP)<n∧prG (p.kids.getD 0 zP))∧(p.kids.length≤140737488355328 →
 (∃ u2:Unit,((p.kind=6∨p.kind=7)∧((p=p∧(True∧(True∧True)))∧(((a0b.mk (7:Int) 0 [p.cond,(peE (p.kids.getD 0 zP))]).kind=(7:Int)∧((a0b.mk (7:Int) 0 [p.cond,(peE (p.kids.getD 0 zP))]).num=(0:Int)∧((a0b.mk (7:Int) 0 [p.cond,(peE (p.kids.getD 0 zP))]).kids=([p.cond,peE (p.kids.getD 0 zP)])∧True)))∧(((0:Int)=(0:Int)∧((0:Int)=(0:Int)∧(True∧True)))∧True)))))))))∧(∀ u2:Unit,((p.kind=6∨p.kind=7) →
 (a0d p.kind →
 (((decide (p.kind=(6:Int)))=true →
 (a0q p.cond≤1048576∧(a0h (1:Int) p.kids.length∧((msz (p.kids.getD 1 zP)<n∧prG (p.kids.getD 1 zP))∧(p.kids.length≤140737488355328 →
 (a0w (a0b.mk (6:Int) 0 [(a0b.mk (7:Int) (0:Int) ([p.cond,peE (p.kids.getD 0 zP)])),(a0b.mk (7:Int) 0 [(a0b.mk 5 0 [p.cond]),(peE (p.kids.getD 1 zP))])]))=(peE p))))))∧((decide (p.kind=(6:Int)))=false →
 (a0q p.cond≤1048576∧(a0w (a0b.mk (7:Int) 0 [(a0b.mk (8:Int) (0:Int) ([(a0b.mk (7:Int) (0:Int) ([p.cond,peE (p.kids.getD 0 zP)]))])),(a0b.mk 5 0 [p.cond])]))=(peE p)))))))))))):=by kernel_rfl
theorem f2o(n:Nat)(hE:a0p [b2z n,a1o,a2m,b4x,a6z,b4y]):Ctr.Good (b2z (n+1)):=by
 refine⟨a0j b7d rfl (by decide),?_⟩
 show ∀ (p:a0a),(msz p<n+1∧prG p)→a1f prog b9j [.ref ⟨(.st .prog),p⟩] (·=[⟨(.st .expr),peE p⟩])
 intro p hp
 refine a0z (wr:=[]) (cl:=[]) (ro:=[73]) hE b7d e4y (d5r p) ?_
 rewrite [f3v n p]
 have F:=h1c p hp.2
 have F2:=F.kid
 have F3:=F.k
 have F4:=F.l2
 have F5:=F.l1
 have F6:=F.c
 refine⟨fun a0=>⟨fun a1=>?_,fun a1=>⟨fun a2=>?_,fun a2=>⟨fun a3=>fun a4=>?_,fun a3=>⟨fun a4=>⟨?_,?_⟩,fun a4=>⟨fun a5=>⟨?_,⟨?_,⟨?_,fun a6=>fun a7=>⟨?_,?_⟩⟩⟩⟩,fun a5=>⟨(),⟨?_,⟨⟨rfl,⟨trivial,trivial⟩⟩,⟨⟨rfl,⟨rfl,⟨trivial,trivial⟩⟩⟩,trivial⟩⟩⟩⟩⟩⟩⟩⟩⟩,fun u1=>fun a0=>⟨⟨?_,⟨?_,⟨?_,fun a1=>⟨(),⟨?_,⟨⟨rfl,⟨trivial,⟨trivial,trivial⟩⟩⟩,⟨⟨?_,⟨?_,⟨?_,trivial⟩⟩⟩,⟨⟨rfl,⟨rfl,⟨trivial,trivial⟩⟩⟩,trivial⟩⟩⟩⟩⟩⟩⟩⟩,fun u2=>fun a1=>fun a2=>⟨fun a3=>⟨?_,⟨?_,⟨?_,fun a4=>?_⟩⟩⟩,fun a3=>⟨?_,?_⟩⟩⟩⟩
 all_goals try and_intros
 all_goals try simp only[a0b.eta,a0a.eta,a2b,a2d] at *
 all_goals (try simp only[a0b.eta,a0a.eta,decide_eq_true_eq,decide_eq_false_iff_not,a0h] at *);first|rfl|trivial|omega|exact F6 (by omega)|exact (F2 _ (by omega)).1|(have q:=(F2 _ (show 0<p.kids.length by omega)).2;omega)|(have q:=(F2 _ (show 1<p.kids.length by omega)).2;omega)|(rw[h0v p (by omega)];done)|(rw[h0w p (by omega)];done)|(rw[h0x p (by omega)];done)|(rw[h0y p (by omega)];done)|(rw[h0z p (by omega) (by omega)];done)|(rw[h1a p (by omega) (by omega)];done)|(rw[h1b p (by omega) (by omega)];done)
theorem g1q :∀ n,a0p [b2z n]
 | 0=>⟨⟨a0j b7d rfl (by decide),fun _ h=>absurd h.1 (Nat.not_lt_zero _)⟩,trivial⟩
 | n+1=>by
  have ih:=g1q  n
  exact⟨f2o n ⟨ih.1,e8r,e8s,e5k,d0b,e5l,trivial⟩,trivial⟩
theorem e5o :Ctr.Good b9b :=
 ⟨a0j b7d rfl (by decide),fun p hp=>(g1q  (msz p+1)).1.2 p (⟨Nat.lt_succ_self _,hp⟩)⟩
end
end Go.Proofs.Ytlaoejdeanljgaa

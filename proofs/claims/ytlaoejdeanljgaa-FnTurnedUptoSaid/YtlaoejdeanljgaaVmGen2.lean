/- Gen, Gen2. -/
import Derived.Test.YtlaoejdeanljgaaVmUse
import Derived.Test.YtlaoejdeanljgaaVmLib
import Derived.Test.YtlaoejdeanljgaaVmValid
import Derived.Test.YtlaoejdeanljgaaVmSrc
import Derived.Test.YtlaoejdeanljgaaVmBld3
set_option linter.unusedVariables false
set_option linter.unusedSimpArgs false
set_option linter.unusedSectionVars false
set_option maxRecDepth 4000
set_option maxHeartbeats 4000000
namespace Go.Proofs.Ytlaoejdeanljgaa
noncomputable section
def dg3(code:List Int)(s:Sr):Sr:=pkN code (pkN code (pkN code s 2) 2) 12
def dgK(code:List Int)(s:Sr):Int:=pk code (pkN code (pkN code s 2) 2) 12
def dgG(code:List Int)(s:Sr):a0l :=
 if dgK code s=0 then a0l.mk (pk code (dg3 code s) 4) (1+pk code (pkN code s 2) 2) else if dgK code s=1 then a0l.mk (1+pk code s 2) (pk code (dg3 code s) 5) else a0l.mk (1+pk code s 2) (1+pk code (pkN code s 2) 2)
def dgN(code:List Int)(s:Sr):Sr:=if dgK code s=0 then pkN code (dg3 code s) 4 else if dgK code s=1 then pkN code (dg3 code s) 5 else dg3 code s
theorem b3t(code:List Int)(s:Sr):(dgK code s=0→dgG code s=a0l.mk (pk code (dg3 code s) 4) (1+pk code (pkN code s 2) 2)∧dgN code s=pkN code (dg3 code s) 4) ∧
  (dgK code s=1→dgG code s=a0l.mk (1+pk code s 2) (pk code (dg3 code s) 5)∧dgN code s=pkN code (dg3 code s) 5) ∧
  (¬ dgK code s=0→¬ dgK code s=1→dgG code s=a0l.mk (1+pk code s 2) (1+pk code (pkN code s 2) 2)∧dgN code s=dg3 code s):=by
 unfold dgG dgN
 refine⟨fun h=>?_,fun h=>?_,fun h1 h2=>?_⟩
 ·rw[if_pos h,if_pos h];exact⟨rfl,rfl⟩
 ·rw[if_neg (by omega),if_pos h,if_neg (by omega),if_pos h];exact⟨rfl,rfl⟩
 ·rw[if_neg h1,if_neg h2,if_neg h1,if_neg h2];exact⟨rfl,rfl⟩
theorem h0b(code:List Int)(s:Sr)(m:Int)(h:a0s code s m):a1y (dgG code s)=true∧a0s code (dgN code s) (m+8):=by
 have a1:=h.pk 2
 have h1:=h.next 2
 have a2:=h1.pk 2
 have h2:=h1.next 2
 have h3:=h2.next 12
 have a4:=h3.pk 4
 have a5:=h3.pk 5
 have b4:=h3.next 4
 have b5:=h3.next 5
 obtain⟨c1,c2,c3⟩:=b3t code s
 by_cases k0:dgK code s=0
 ·rw[(c1 k0).1,(c1 k0).2]
  refine⟨(a6e _).2 ?_,b4.mono (by omega)⟩
  show (0≤pk code (dg3 code s) 4∧_)∧_
  have:pk code (dg3 code s) 4=pk code (pkN code (pkN code (pkN code s 2) 2) 12) 4:=rfl
  simp only
  omega
 ·by_cases k1:dgK code s=1
  ·rw[(c2 k1).1,(c2 k1).2]
   refine⟨(a6e _).2 ?_,b5.mono (by omega)⟩
   have:pk code (dg3 code s) 5=pk code (pkN code (pkN code (pkN code s 2) 2) 12) 5:=rfl
   simp only
   omega
  ·rw[(c3 k0 k1).1,(c3 k0 k1).2]
   refine⟨(a6e _).2 ?_,h3.mono (by omega)⟩
   simp only
   omega
def a7w:SCt:=⟨c0b,[[.d (.slice (.int .u8)), .d (.int .i64), .d (.int .u64)]],[.b 0],[[(.slice (.int .u8)),(.int .i64),(.int .u64)]],fun (code:List Int) (pos:Int) (seed:Int)=>⟨(some (a0s code (Sr.mk pos seed) 900000000),[⟨(.st .sig),dgG code (Sr.mk pos seed)⟩],[[⟨(.slice (.int .u8)),code⟩,⟨(.int .i64),(dgN code (Sr.mk pos seed)).pos⟩,⟨(.int .u64),(dgN code (Sr.mk pos seed)).seed⟩]])⟩⟩
def c6c(code:List Int)(pos:Int)(seed:Int):Nat→a0t:=fun _ => .none
theorem e0s(code:List Int)(pos:Int)(seed:Int):awp (a2o [] [] [] [] [] [] [] [a1a]) (a0i a6q) (c6c code pos seed) 0 (a9b (a2o [] [] [] [] [] [] [] [a1a]) a6q [[.d (.slice (.int .u8)), .d (.int .i64), .d (.int .u64)]] fun r ds=>a1e r [⟨(.st .sig),dgG code (Sr.mk pos seed)⟩]∧b2i ds [[⟨(.slice (.int .u8)),code⟩,⟨(.int .i64),(dgN code (Sr.mk pos seed)).pos⟩,⟨(.int .u64),(dgN code (Sr.mk pos seed)).seed⟩]]) (a2x a6q [.box 0] [[.d (.slice (.int .u8)), .d (.int .i64), .d (.int .u64)]] [[⟨(.slice (.int .u8)),code⟩,⟨(.int .i64),pos⟩,⟨(.int .u64),seed⟩]]) =
 (((a0s code (Sr.mk pos seed) 999999000∧(2:Int)≤1000000)∧(a0d ((1:Int)+(pk code (Sr.mk pos seed) (2:Int)))∧((a0s code (pkN code (Sr.mk pos seed) (2:Int)) 999999000∧(2:Int)≤1000000)∧(a0d ((1:Int)+(pk code (pkN code (Sr.mk pos seed) (2:Int)) (2:Int)))∧((a0s code (pkN code (pkN code (Sr.mk pos seed) (2:Int)) (2:Int)) 999999000∧(12:Int)≤1000000)∧(((decide ((pk code (pkN code (pkN code (Sr.mk pos seed) (2:Int)) (2:Int)) (12:Int))=(0:Int)))=true →
 ((a0s code (pkN code (pkN code (pkN code (Sr.mk pos seed) (2:Int)) (2:Int)) (12:Int)) 999999000∧(4:Int)≤1000000)∧((a0l.mk (pk code (pkN code (pkN code (pkN code (Sr.mk pos seed) (2:Int)) (2:Int)) (12:Int)) (4:Int)) ((1:Int)+(pk code (pkN code (Sr.mk pos seed) (2:Int)) (2:Int))))=(dgG code (Sr.mk pos seed))∧((code=code∧(((pkN code (pkN code (pkN code (pkN code (Sr.mk pos seed) (2:Int)) (2:Int)) (12:Int)) (4:Int)).pos)=((dgN code (Sr.mk pos seed)).pos)∧((pkN code (pkN code (pkN code (pkN code (Sr.mk pos seed) (2:Int)) (2:Int)) (12:Int)) (4:Int)).seed)=((dgN code (Sr.mk pos seed)).seed)))∧True))))∧((decide ((pk code (pkN code (pkN code (Sr.mk pos seed) (2:Int)) (2:Int)) (12:Int))=(0:Int)))=false →
 (((decide ((pk code (pkN code (pkN code (Sr.mk pos seed) (2:Int)) (2:Int)) (12:Int))=(1:Int)))=true →
 ((a0s code (pkN code (pkN code (pkN code (Sr.mk pos seed) (2:Int)) (2:Int)) (12:Int)) 999999000∧(5:Int)≤1000000)∧((a0l.mk ((1:Int)+(pk code (Sr.mk pos seed) (2:Int))) (pk code (pkN code (pkN code (pkN code (Sr.mk pos seed) (2:Int)) (2:Int)) (12:Int)) (5:Int)))=(dgG code (Sr.mk pos seed))∧((code=code∧(((pkN code (pkN code (pkN code (pkN code (Sr.mk pos seed) (2:Int)) (2:Int)) (12:Int)) (5:Int)).pos)=((dgN code (Sr.mk pos seed)).pos)∧((pkN code (pkN code (pkN code (pkN code (Sr.mk pos seed) (2:Int)) (2:Int)) (12:Int)) (5:Int)).seed)=((dgN code (Sr.mk pos seed)).seed)))∧True))))∧((decide ((pk code (pkN code (pkN code (Sr.mk pos seed) (2:Int)) (2:Int)) (12:Int))=(1:Int)))=false →
 ((a0l.mk ((1:Int)+(pk code (Sr.mk pos seed) (2:Int))) ((1:Int)+(pk code (pkN code (Sr.mk pos seed) (2:Int)) (2:Int))))=(dgG code (Sr.mk pos seed))∧((code=code∧(((pkN code (pkN code (pkN code (Sr.mk pos seed) (2:Int)) (2:Int)) (12:Int)).pos)=((dgN code (Sr.mk pos seed)).pos)∧((pkN code (pkN code (pkN code (Sr.mk pos seed) (2:Int)) (2:Int)) (12:Int)).seed)=((dgN code (Sr.mk pos seed)).seed)))∧True)))))))))))):=by kernel_rfl
theorem e0l(hE:a0p [])(hO:a4f [])(hM:a4x [])(hS:a4p [a1a]):SCt.Good a7w:=by
 refine⟨a0j c5i rfl (by decide),?_⟩
 show ∀ (code:List Int) (pos:Int) (seed:Int),(a0s code (Sr.mk pos seed) 900000000)→b7w prog c0b [[.d (.slice (.int .u8)), .d (.int .i64), .d (.int .u64)]] [.box 0] [[⟨(.slice (.int .u8)),code⟩,⟨(.int .i64),pos⟩,⟨(.int .u64),seed⟩]] [⟨(.st .sig),dgG code (Sr.mk pos seed)⟩] [[⟨(.slice (.int .u8)),code⟩,⟨(.int .i64),(dgN code (Sr.mk pos seed)).pos⟩,⟨(.int .u64),(dgN code (Sr.mk pos seed)).seed⟩]]
 intro code pos seed hp
 refine a7z (own:=[]) (wr:=[]) (cl:=[]) (ro:=[]) hE hO hM hS c5i d7b (c6c code pos seed) rfl rfl ?_
 rewrite [e0s code pos seed]
 have q0:=hp
 have q1:=q0.next 2
 have q2:=q1.next 2
 have q3:=q2.next 12
 have p1:=q0.pk 2
 have p2:=q1.pk 2
 have p3:=q2.pk 12
 refine⟨?_,⟨?_,⟨?_,⟨?_,⟨?_,⟨fun a0=>⟨?_,⟨?_,⟨⟨rfl,⟨?_,?_⟩⟩,trivial⟩⟩⟩,fun a0=>⟨fun a1=>⟨?_,⟨?_,⟨⟨rfl,⟨?_,?_⟩⟩,trivial⟩⟩⟩,fun a1=>⟨?_,⟨⟨rfl,⟨?_,?_⟩⟩,trivial⟩⟩⟩⟩⟩⟩⟩⟩⟩
 all_goals try and_intros
 all_goals first|rfl|trivial|omega|((try simp only[c8d,decide_eq_true_eq,decide_eq_false_iff_not,a0d] at *);first|omega|exact ((b3t code (Sr.mk pos seed)).1 (by assumption)).1.symm|exact congrArg Sr.pos ((b3t code (Sr.mk pos seed)).1 (by assumption)).2.symm|exact congrArg Sr.seed ((b3t code (Sr.mk pos seed)).1 (by assumption)).2.symm|exact ((b3t code (Sr.mk pos seed)).2.1 (by assumption)).1.symm|exact congrArg Sr.pos ((b3t code (Sr.mk pos seed)).2.1 (by assumption)).2.symm|exact congrArg Sr.seed ((b3t code (Sr.mk pos seed)).2.1 (by assumption)).2.symm|exact ((b3t code (Sr.mk pos seed)).2.2 (by assumption) (by assumption)).1.symm|exact congrArg Sr.pos ((b3t code (Sr.mk pos seed)).2.2 (by assumption) (by assumption)).2.symm|exact congrArg Sr.seed ((b3t code (Sr.mk pos seed)).2.2 (by assumption) (by assumption)).2.symm|exact q0.mono (by decide)|exact q1.mono (by decide)|exact q2.mono (by decide)|exact q3.mono (by decide))
theorem d6o:SCt.Good a7w:=e0l trivial trivial trivial ⟨a3u,trivial⟩
end
end Go.Proofs.Ytlaoejdeanljgaa

set_option linter.unusedVariables false
set_option linter.unusedSimpArgs false
set_option linter.unusedSectionVars false
set_option maxRecDepth 4000
set_option maxHeartbeats 4000000
namespace Go.Proofs.Ytlaoejdeanljgaa
noncomputable section
def lfA(a:Int)(c:Bool):Bool := !c&&decide (0<a)
def lf1(code:List Int)(a:Int)(c:Bool)(s:Sr):Sr:=if lfA a c=true then pkN code s 3 else s
def lfX(code:List Int)(a:Int)(c:Bool)(s:Sr):Bool:=lfA a c && !a2t code s 3
def lf2(code:List Int)(t:Int)(s:Sr):Sr:=if 0<t then pkN code s 4 else s
def lfY(code:List Int)(t:Int)(s:Sr):Bool:=decide (0<t) && !a2t code s 4
def lfE(code:List Int)(t a:Int)(c:Bool)(s:Sr):a0b :=
 if lfX code a c s=true then a0b.mk 4 (pk code (lf1 code a c s) a) [] else if lfY code t (lf1 code a c s)=true then a0b.mk 3 (pk code (lf2 code t (lf1 code a c s)) t) [] else a0b.mk (1+pk code (lf2 code t (lf1 code a c s)) 2) 0 []
def lfN(code:List Int)(t a:Int)(c:Bool)(s:Sr):Sr :=
 if lfX code a c s=true then pkN code (lf1 code a c s) a else if lfY code t (lf1 code a c s)=true then pkN code (lf2 code t (lf1 code a c s)) t else pkN code (lf2 code t (lf1 code a c s)) 2
structure Gn where
 e:a0b
 s:Sr
 left:Int
def gnL(code:List Int)(t a:Int)(c:Bool)(s:Sr)(l:Int):Gn:=⟨lfE code t a c s,lfN code t a c s,l⟩
def gnC(code:List Int)(c:Bool)(s:Sr)(n:Int):Bool:=c||a2t code s n
def gnS(code:List Int)(c:Bool)(s:Sr)(n:Int):Sr:=if c=true then s else pkN code s n
def gnK(code:List Int)(s:Sr):Int:=pk code (pkN code s 6) 10
def gn2(code:List Int)(s:Sr):Sr:=pkN code (pkN code s 6) 10
def exG(code:List Int)(t a:Int):Nat→Bool→Sr→Int→Gn
 | 0,c,s,left=>gnL code t a c s (left - 1)
 | d+1,c,s,left =>
  if left - 1<1 then gnL code t a c s (left - 1) else
  if a2t code s 6=true then gnL code t a c (pkN code s 6) (left - 1) else
  if gnK code s=0∨(c=true∧gnK code s<4) then ⟨a0b.mk 5 0 [(exG code t a d true (gn2 code s) (left - 1)).e],(exG code t a d true (gn2 code s) (left - 1)).s,(exG code t a d true (gn2 code s) (left - 1)).left⟩ else
  if gnK code s<4 then ⟨a0b.mk 8 0 [(exG code t a d false (gn2 code s) (left - 1)).e],(exG code t a d false (gn2 code s) (left - 1)).s,(exG code t a d false (gn2 code s) (left - 1)).left⟩ else
  let ra:=exG code t a d (gnC code c (gn2 code s) 5) (gnS code c (gn2 code s) 5) (left - 1)
  let rb:=exG code t a d (gnC code c ra.s 6) (gnS code c ra.s 6) ra.left
  ⟨a0b.mk (if gnK code s<6 then 6 else 7) 0 [ra.e,rb.e],rb.s,rb.left⟩
def wG:Nat→Nat
 | 0=>1
 | d+1=>1+wG d+wG d
structure g5u(code:List Int)(t a:Int)(d:Nat)(c:Bool)(m left:Int)(r:Gn):Prop where
 tr:a1s (t - 1) (a - 1) r.e=true
 cn:c=true→a1i r.e=true
 nd:a0u r.e≤wG d
 dp:a1j r.e≤d+1
 sr:a0s code r.s (m+16 * wG d)
 l0:left - wG d≤r.left
 l1:r.left≤left
theorem c0k(d:Nat):1≤wG d:=by cases d<;>simp[wG];omega
theorem f1p(t a k n:Int)(hk:a2q k=0)(h5:¬ k=5)(hn:if k=3 then 0≤n∧n≤t else if k=4 then 0≤n∧n≤a else n=0):a1s t a (a0b.mk k n [])=true:=by
 simp only[a1s,d1i,c0o,Bool.and_true]
 rw[decide_eq_true (show a2q k=(([]:List a0b).length:Int) from hk),decide_eq_false h5]
 simp only[Bool.true_and,Bool.not_false,Bool.true_or,Bool.and_true]
 split
 ·rename_i h;rw[if_pos h] at hn;exact decide_eq_true hn
 ·rename_i h;rw[if_neg h] at hn
  split
  ·rename_i h';rw[if_pos h'] at hn;exact decide_eq_true hn
  ·rename_i h';rw[if_neg h'] at hn;exact decide_eq_true hn
theorem g3d(code:List Int)(t a:Int)(c:Bool)(s:Sr)(m l left b:Int)(d:Nat)(hb:m+6≤b+16 * (wG d:Int))(h:a0s code s m)(ht:0≤t∧t≤3)(ha:0≤a∧a≤4)(hl:l=left - 1):g5u code t a d c b left (gnL code t a c s l):=by
 have hw:=c0k d
 have h1:a0s code (lf1 code a c s) (m+2):=by
  unfold lf1;split
  ·exact h.next 3
  ·exact h.mono (by omega)
 have h2:a0s code (lf2 code t (lf1 code a c s)) (m+4):=by
  unfold lf2;split
  ·exact (h1.next 4).mono (by omega)
  ·exact h1.mono (by omega)
 have key:∀ (k n:Int) (s':Sr),a2q k=0→¬ k=5→(if k=3 then 0≤n∧n≤t - 1 else if k=4 then 0≤n∧n≤a - 1 else n=0)→(c=true→c5b k=true)→a0s code s' (m+6) →
   lfE code t a c s=a0b.mk k n []→lfN code t a c s=s'→g5u code t a d c b left (gnL code t a c s l):=by
  intro k n s' hk h5 hn hc hs e1 e2
  unfold gnL
  rw[e1,e2]
  refine⟨f1p _ _ k n hk h5 hn,fun q=>?_,by simp[a0u,a8s];omega,by simp[a1j,a9t],hs.mono (by omega),by show left - _≤l;omega,by show l≤left;omega⟩
  simp[a1i,c5l,hc q]
 by_cases x:lfX code a c s=true
 ·have hx:=x
  simp only[lfX,lfA,Bool.and_eq_true,Bool.not_eq_true',decide_eq_true_eq] at hx
  obtain⟨⟨hx1,hx2⟩,hx3⟩:=hx
  have hp:=h1.pk a
  refine key 4 (pk code (lf1 code a c s) a) (pkN code (lf1 code a c s) a) (by decide) (by decide) ?_ (fun q=>by rw[hx1] at q;cases q) ((h1.next a).mono (by omega)) (by unfold lfE;rw[if_pos x]) (by unfold lfN;rw[if_pos x])
  rw[if_neg (by decide),if_pos rfl];omega
 ·by_cases y:lfY code t (lf1 code a c s)=true
  ·have hy:=y
   simp only[lfY,Bool.and_eq_true,Bool.not_eq_true',decide_eq_true_eq] at hy
   have hp:=h2.pk t
   refine key 3 (pk code (lf2 code t (lf1 code a c s)) t) (pkN code (lf2 code t (lf1 code a c s)) t) (by decide) (by decide) ?_ (fun _=>by decide) ((h2.next t).mono (by omega)) (by unfold lfE;rw[if_neg x,if_pos y]) (by unfold lfN;rw[if_neg x,if_pos y])
   rw[if_pos rfl];omega
  ·have hp:=h2.pk 2
   have hv:pk code (lf2 code t (lf1 code a c s)) 2=0∨pk code (lf2 code t (lf1 code a c s)) 2=1:=by omega
   refine key (1+pk code (lf2 code t (lf1 code a c s)) 2) 0 (pkN code (lf2 code t (lf1 code a c s)) 2) ?_ (by omega) ?_ (fun _=>?_) ((h2.next 2).mono (by omega)) (by unfold lfE;rw[if_neg x,if_neg y]) (by unfold lfN;rw[if_neg x,if_neg y])
   ·rcases hv with e|e<;>rw[e]<;>decide
   ·rw[if_neg (by omega),if_neg (by omega)]
   ·rcases hv with e|e<;>rw[e]<;>decide
theorem e9n(t a:Int)(x:a0b)(k:Int)(h:a1s t a x=true)(hk:(k=5∧a1i x=true)∨k=8):a1s t a (a0b.mk k 0 [x])=true:=by
 simp only[a1s,d1i,c0o,h,Bool.and_true]
 rcases hk with ⟨rfl,hc⟩|rfl
 ·simp[a2q,hc]
 ·simp[a2q]
theorem g7n(t a:Int)(x y:a0b)(k:Int)(h1:a1s t a x=true)(h2:a1s t a y=true)(hk:k=6∨k=7):a1s t a (a0b.mk k 0 [x,y])=true:=by
 simp only[a1s,d1i,c0o,h1,h2,Bool.and_true]
 rcases hk with rfl|rfl<;>simp[a2q]
theorem e4c(code:List Int)(t a:Int)(ht:0≤t∧t≤3)(ha:0≤a∧a≤4):∀ (d:Nat) (c:Bool) (s:Sr) (m left:Int),a0s code s m→g5u code t a d c m left (exG code t a d c s left)
 | 0,c,s,m,left,h=>g3d code t a c s m (left - 1) left m 0 (by simp only[wG];omega) h ht ha rfl
 | d+1,c,s,m,left,h=>by
  have hw:=c0k d
  have hw1:wG (d+1)=1+wG d+wG d:=rfl
  unfold exG
  by_cases c1:left - 1<1
  ·rw[if_pos c1];exact g3d code t a c s m (left - 1) left m (d+1) (by omega) h ht ha rfl
  rw[if_neg c1]
  by_cases c2:a2t code s 6=true
  ·rw[if_pos c2];exact g3d code t a c _ (m+2) (left - 1) left m (d+1) (by omega) (h.next 6) ht ha rfl
  rw[if_neg c2]
  have h2:a0s code (gn2 code s) (m+4):=((h.next 6).next 10).mono (by omega)
  by_cases c3:gnK code s=0∨(c=true∧gnK code s<4)
  ·rw[if_pos c3]
   have r:=e4c code t a ht ha d true (gn2 code s) (m+4) (left - 1) h2
   refine⟨e9n _ _ _ 5 r.tr (.inl ⟨rfl,r.cn rfl⟩),fun _=>?_,?_,?_,r.sr.mono (by omega),?_,?_⟩
   ·simp[a1i,c5l,r.cn rfl,c5b]
   ·have:=r.nd;simp only[a0u,a8s];omega
   ·have:=r.dp;simp only[a1j,a9t];omega
   ·have:=r.l0;show left - _≤(exG code t a d true (gn2 code s) (left - 1)).left;omega
   ·have:=r.l1;show (exG code t a d true (gn2 code s) (left - 1)).left≤left;omega
  rw[if_neg c3]
  by_cases c4:gnK code s<4
  ·rw[if_pos c4]
   have r:=e4c code t a ht ha d false (gn2 code s) (m+4) (left - 1) h2
   refine⟨e9n _ _ _ 8 r.tr (.inr rfl),fun q=>absurd (.inr ⟨q,c4⟩) c3,?_,?_,r.sr.mono (by omega),?_,?_⟩
   ·have:=r.nd;simp only[a0u,a8s];omega
   ·have:=r.dp;simp only[a1j,a9t];omega
   ·have:=r.l0;show left - _≤(exG code t a d false (gn2 code s) (left - 1)).left;omega
   ·have:=r.l1;show (exG code t a d false (gn2 code s) (left - 1)).left≤left;omega
  rw[if_neg c4]
  have hS:∀ (x:Sr) (k n:Int),a0s code x k→a0s code (gnS code c x n) (k+2):=fun x k n q=>by
   unfold gnS;split
   ·exact q.mono (by omega)
   ·exact q.next n
  have ra:=e4c code t a ht ha d (gnC code c (gn2 code s) 5) (gnS code c (gn2 code s) 5) (m+4+2) (left - 1) (hS _ _ 5 h2)
  generalize exG code t a d (gnC code c (gn2 code s) 5) (gnS code c (gn2 code s) 5) (left - 1)=A at ra
  have rb:=e4c code t a ht ha d (gnC code c A.s 6) (gnS code c A.s 6) (m+4+2+16 * wG d+2) A.left (hS _ _ 6 ra.sr)
  simp only
  generalize exG code t a d (gnC code c A.s 6) (gnS code c A.s 6) A.left=B at rb
  have hk:(if gnK code s<6 then (6:Int) else 7)=6∨(if gnK code s<6 then (6:Int) else 7)=7:=by split<;>simp
  generalize (if gnK code s<6 then (6:Int) else 7)=k at hk
  refine⟨g7n _ _ _ _ k ra.tr rb.tr hk,fun q=>?_,?_,?_,rb.sr.mono (by omega),?_,?_⟩
  ·have q1:=ra.cn (by simp[gnC,q])
   have q2:=rb.cn (by simp[gnC,q])
   rcases hk with rfl|rfl<;>simp[a1i,c5l,q1,q2,c5b]
  ·have:=ra.nd;have:=rb.nd;simp only[a0u,a8s];omega
  ·have:=ra.dp;have:=rb.dp;simp only[a1j,a9t];omega
  ·have:=ra.l0;have:=rb.l0;show left - _≤B.left;omega
  ·have:=ra.l1;have:=rb.l1;show B.left≤left;omega
def a7g:SCt:=⟨b8k,[[.p 1, .d (.int .i64), .d (.int .i64), .d (.int .i64)],[.d (.slice (.int .u8)), .d (.int .i64), .d (.int .u64)]],[.b 0, .v .bool],[[(.int .i64),(.int .i64),(.int .i64)],[(.slice (.int .u8)),(.int .i64),(.int .u64)]],fun (c:Bool) (tn:Int) (an:Int) (left:Int) (code:List Int) (pos:Int) (seed:Int)=>⟨(some (a0s code (Sr.mk pos seed) 990000000∧(0≤tn∧tn≤3)∧0≤an∧an≤4),[⟨(.st .expr),lfE code tn an c (Sr.mk pos seed)⟩],[[⟨(.int .i64),tn⟩,⟨(.int .i64),an⟩,⟨(.int .i64),left⟩],[⟨(.slice (.int .u8)),code⟩,⟨(.int .i64),(lfN code tn an c (Sr.mk pos seed)).pos⟩,⟨(.int .u64),(lfN code tn an c (Sr.mk pos seed)).seed⟩]])⟩⟩
def c3y(c:Bool)(tn:Int)(an:Int)(left:Int)(code:List Int)(pos:Int)(seed:Int):Nat→a0t:=fun _ => .none
abbrev c1w(c:Bool)(tn:Int)(an:Int)(left:Int)(code:List Int)(pos:Int)(seed:Int):Prop:=((a0s code (Sr.mk pos seed) 999999000∧(3:Int)≤1000000)∧(((!(a2t code (Sr.mk pos seed) (3:Int)))=true →
 (a0d an →
 ((a0s code (pkN code (Sr.mk pos seed) (3:Int)) 999999000∧an≤1000000)∧((a0b.mk (4:Int) (pk code (pkN code (Sr.mk pos seed) (3:Int)) an) [])=(lfE code tn an c (Sr.mk pos seed))∧((tn=tn∧(an=an∧left=left))∧((code=code∧(((pkN code (pkN code (Sr.mk pos seed) (3:Int)) an).pos)=((lfN code tn an c (Sr.mk pos seed)).pos)∧((pkN code (pkN code (Sr.mk pos seed) (3:Int)) an).seed)=((lfN code tn an c (Sr.mk pos seed)).seed)))∧True))))))∧((!(a2t code (Sr.mk pos seed) (3:Int)))=false →
 (a0d tn →
 (((decide ((0:Int)<tn))=true →
 ((a0s code (pkN code (Sr.mk pos seed) (3:Int)) 999999000∧(4:Int)≤1000000)∧(((!(a2t code (pkN code (Sr.mk pos seed) (3:Int)) (4:Int)))=true →
 (a0d tn →
 ((a0s code (pkN code (pkN code (Sr.mk pos seed) (3:Int)) (4:Int)) 999999000∧tn≤1000000)∧((a0b.mk (3:Int) (pk code (pkN code (pkN code (Sr.mk pos seed) (3:Int)) (4:Int)) tn) [])=(lfE code tn an c (Sr.mk pos seed))∧((tn=tn∧(an=an∧left=left))∧((code=code∧(((pkN code (pkN code (pkN code (Sr.mk pos seed) (3:Int)) (4:Int)) tn).pos)=((lfN code tn an c (Sr.mk pos seed)).pos)∧((pkN code (pkN code (pkN code (Sr.mk pos seed) (3:Int)) (4:Int)) tn).seed)=((lfN code tn an c (Sr.mk pos seed)).seed)))∧True))))))∧((!(a2t code (pkN code (Sr.mk pos seed) (3:Int)) (4:Int)))=false →
 ((a0s code (pkN code (pkN code (Sr.mk pos seed) (3:Int)) (4:Int)) 999999000∧(2:Int)≤1000000)∧(a0d ((1:Int)+(pk code (pkN code (pkN code (Sr.mk pos seed) (3:Int)) (4:Int)) (2:Int)))∧((a0b.mk ((1:Int)+(pk code (pkN code (pkN code (Sr.mk pos seed) (3:Int)) (4:Int)) (2:Int))) (0:Int) [])=(lfE code tn an c (Sr.mk pos seed))∧((tn=tn∧(an=an∧left=left))∧((code=code∧(((pkN code (pkN code (pkN code (Sr.mk pos seed) (3:Int)) (4:Int)) (2:Int)).pos)=((lfN code tn an c (Sr.mk pos seed)).pos)∧((pkN code (pkN code (pkN code (Sr.mk pos seed) (3:Int)) (4:Int)) (2:Int)).seed)=((lfN code tn an c (Sr.mk pos seed)).seed)))∧True)))))))))∧((decide ((0:Int)<tn))=(!true) →
 ((false=true →
 (a0d tn →
 ((a0s code (pkN code (Sr.mk pos seed) (3:Int)) 999999000∧tn≤1000000)∧((a0b.mk (3:Int) (pk code (pkN code (Sr.mk pos seed) (3:Int)) tn) [])=(lfE code tn an c (Sr.mk pos seed))∧((tn=tn∧(an=an∧left=left))∧((code=code∧(((pkN code (pkN code (Sr.mk pos seed) (3:Int)) tn).pos)=((lfN code tn an c (Sr.mk pos seed)).pos)∧((pkN code (pkN code (Sr.mk pos seed) (3:Int)) tn).seed)=((lfN code tn an c (Sr.mk pos seed)).seed)))∧True))))))∧(false=false →
 ((a0s code (pkN code (Sr.mk pos seed) (3:Int)) 999999000∧(2:Int)≤1000000)∧(a0d ((1:Int)+(pk code (pkN code (Sr.mk pos seed) (3:Int)) (2:Int)))∧((a0b.mk ((1:Int)+(pk code (pkN code (Sr.mk pos seed) (3:Int)) (2:Int))) (0:Int) [])=(lfE code tn an c (Sr.mk pos seed))∧((tn=tn∧(an=an∧left=left))∧((code=code∧(((pkN code (pkN code (Sr.mk pos seed) (3:Int)) (2:Int)).pos)=((lfN code tn an c (Sr.mk pos seed)).pos)∧((pkN code (pkN code (Sr.mk pos seed) (3:Int)) (2:Int)).seed)=((lfN code tn an c (Sr.mk pos seed)).seed)))∧True)))))))))))))
abbrev c1x(c:Bool)(tn:Int)(an:Int)(left:Int)(code:List Int)(pos:Int)(seed:Int):Prop:=((false=true →
 (a0d an →
 ((a0s code (Sr.mk pos seed) 999999000∧an≤1000000)∧((a0b.mk (4:Int) (pk code (Sr.mk pos seed) an) [])=(lfE code tn an c (Sr.mk pos seed))∧((tn=tn∧(an=an∧left=left))∧((code=code∧(((pkN code (Sr.mk pos seed) an).pos)=((lfN code tn an c (Sr.mk pos seed)).pos)∧((pkN code (Sr.mk pos seed) an).seed)=((lfN code tn an c (Sr.mk pos seed)).seed)))∧True))))))∧(false=false →
 (a0d tn →
 (((decide ((0:Int)<tn))=true →
 ((a0s code (Sr.mk pos seed) 999999000∧(4:Int)≤1000000)∧(((!(a2t code (Sr.mk pos seed) (4:Int)))=true →
 (a0d tn →
 ((a0s code (pkN code (Sr.mk pos seed) (4:Int)) 999999000∧tn≤1000000)∧((a0b.mk (3:Int) (pk code (pkN code (Sr.mk pos seed) (4:Int)) tn) [])=(lfE code tn an c (Sr.mk pos seed))∧((tn=tn∧(an=an∧left=left))∧((code=code∧(((pkN code (pkN code (Sr.mk pos seed) (4:Int)) tn).pos)=((lfN code tn an c (Sr.mk pos seed)).pos)∧((pkN code (pkN code (Sr.mk pos seed) (4:Int)) tn).seed)=((lfN code tn an c (Sr.mk pos seed)).seed)))∧True))))))∧((!(a2t code (Sr.mk pos seed) (4:Int)))=false →
 ((a0s code (pkN code (Sr.mk pos seed) (4:Int)) 999999000∧(2:Int)≤1000000)∧(a0d ((1:Int)+(pk code (pkN code (Sr.mk pos seed) (4:Int)) (2:Int)))∧((a0b.mk ((1:Int)+(pk code (pkN code (Sr.mk pos seed) (4:Int)) (2:Int))) (0:Int) [])=(lfE code tn an c (Sr.mk pos seed))∧((tn=tn∧(an=an∧left=left))∧((code=code∧(((pkN code (pkN code (Sr.mk pos seed) (4:Int)) (2:Int)).pos)=((lfN code tn an c (Sr.mk pos seed)).pos)∧((pkN code (pkN code (Sr.mk pos seed) (4:Int)) (2:Int)).seed)=((lfN code tn an c (Sr.mk pos seed)).seed)))∧True)))))))))∧((decide ((0:Int)<tn))=(!true) →
 ((false=true →
 (a0d tn →
 ((a0s code (Sr.mk pos seed) 999999000∧tn≤1000000)∧((a0b.mk (3:Int) (pk code (Sr.mk pos seed) tn) [])=(lfE code tn an c (Sr.mk pos seed))∧((tn=tn∧(an=an∧left=left))∧((code=code∧(((pkN code (Sr.mk pos seed) tn).pos)=((lfN code tn an c (Sr.mk pos seed)).pos)∧((pkN code (Sr.mk pos seed) tn).seed)=((lfN code tn an c (Sr.mk pos seed)).seed)))∧True))))))∧(false=false →
 ((a0s code (Sr.mk pos seed) 999999000∧(2:Int)≤1000000)∧(a0d ((1:Int)+(pk code (Sr.mk pos seed) (2:Int)))∧((a0b.mk ((1:Int)+(pk code (Sr.mk pos seed) (2:Int))) (0:Int) [])=(lfE code tn an c (Sr.mk pos seed))∧((tn=tn∧(an=an∧left=left))∧((code=code∧(((pkN code (Sr.mk pos seed) (2:Int)).pos)=((lfN code tn an c (Sr.mk pos seed)).pos)∧((pkN code (Sr.mk pos seed) (2:Int)).seed)=((lfN code tn an c (Sr.mk pos seed)).seed)))∧True))))))))))))
theorem d8o(c:Bool)(tn:Int)(an:Int)(left:Int)(code:List Int)(pos:Int)(seed:Int):awp (a2o [] [] [] [] [] [] [] [a1z,a1a]) (a0i a5v) (c3y c tn an left code pos seed) 0 (a9b (a2o [] [] [] [] [] [] [] [a1z,a1a]) a5v [[.p 1, .d (.int .i64), .d (.int .i64), .d (.int .i64)],[.d (.slice (.int .u8)), .d (.int .i64), .d (.int .u64)]] fun r ds=>a1e r [⟨(.st .expr),lfE code tn an c (Sr.mk pos seed)⟩]∧b2i ds [[⟨(.int .i64),tn⟩,⟨(.int .i64),an⟩,⟨(.int .i64),left⟩],[⟨(.slice (.int .u8)),code⟩,⟨(.int .i64),(lfN code tn an c (Sr.mk pos seed)).pos⟩,⟨(.int .u64),(lfN code tn an c (Sr.mk pos seed)).seed⟩]]) (a2x a5v [.box 0, .val ⟨.bool,c⟩] [[.p 1, .d (.int .i64), .d (.int .i64), .d (.int .i64)],[.d (.slice (.int .u8)), .d (.int .i64), .d (.int .u64)]] [[⟨(.int .i64),tn⟩,⟨(.int .i64),an⟩,⟨(.int .i64),left⟩],[⟨(.slice (.int .u8)),code⟩,⟨(.int .i64),pos⟩,⟨(.int .u64),seed⟩]]) =
 ((((!c)=true →
 (a0d an →
 (((decide ((0:Int)<an))=true →
 (c1w c tn an left code pos seed))∧((decide ((0:Int)<an))=(!true) →
 (c1x c tn an left code pos seed)))))∧((!c)=(!true) →
 ((false=true →
 (c1w c tn an left code pos seed))∧(false=(!true) →
 (c1x c tn an left code pos seed)))))):=by kernel_rfl
theorem d7z(hE:a0p [])(hO:a4f [])(hM:a4x [])(hS:a4p [a1z,a1a]):SCt.Good a7g:=by
 refine⟨a0j c3r rfl (by decide),?_⟩
 show ∀ (c:Bool) (tn:Int) (an:Int) (left:Int) (code:List Int) (pos:Int) (seed:Int),(a0s code (Sr.mk pos seed) 990000000∧(0≤tn∧tn≤3)∧0≤an∧an≤4)→b7w prog b8k [[.p 1, .d (.int .i64), .d (.int .i64), .d (.int .i64)],[.d (.slice (.int .u8)), .d (.int .i64), .d (.int .u64)]] [.box 0, .val ⟨.bool,c⟩] [[⟨(.int .i64),tn⟩,⟨(.int .i64),an⟩,⟨(.int .i64),left⟩],[⟨(.slice (.int .u8)),code⟩,⟨(.int .i64),pos⟩,⟨(.int .u64),seed⟩]] [⟨(.st .expr),lfE code tn an c (Sr.mk pos seed)⟩] [[⟨(.int .i64),tn⟩,⟨(.int .i64),an⟩,⟨(.int .i64),left⟩],[⟨(.slice (.int .u8)),code⟩,⟨(.int .i64),(lfN code tn an c (Sr.mk pos seed)).pos⟩,⟨(.int .u64),(lfN code tn an c (Sr.mk pos seed)).seed⟩]]
 intro c tn an left code pos seed hp
 refine a7z (own:=[]) (wr:=[]) (cl:=[]) (ro:=[]) hE hO hM hS c3r d4x (c3y c tn an left code pos seed) rfl rfl ?_
 rewrite [d8o c tn an left code pos seed]
 have p0:=hp.1.pk 2
 have p1:=(hp.1.next 3).pk 2
 have p2:=(hp.1.next 4).pk 2
 have p3:=((hp.1.next 3).next 4).pk 2
 refine⟨fun a0=>fun a1=>⟨fun a2=>⟨?_,⟨fun a3=>fun a4=>⟨?_,⟨?_,⟨⟨rfl,⟨rfl,rfl⟩⟩,⟨⟨rfl,⟨?_,?_⟩⟩,trivial⟩⟩⟩⟩,fun a3=>fun a4=>⟨fun a5=>⟨?_,⟨fun a6=>fun a7=>⟨?_,⟨?_,⟨⟨rfl,⟨rfl,rfl⟩⟩,⟨⟨rfl,⟨?_,?_⟩⟩,trivial⟩⟩⟩⟩,fun a6=>⟨?_,⟨?_,⟨?_,⟨⟨rfl,⟨rfl,rfl⟩⟩,⟨⟨rfl,⟨?_,?_⟩⟩,trivial⟩⟩⟩⟩⟩⟩⟩,fun a5=>⟨fun a6=>fun a7=>⟨?_,⟨?_,⟨⟨rfl,⟨rfl,rfl⟩⟩,⟨⟨rfl,⟨?_,?_⟩⟩,trivial⟩⟩⟩⟩,fun a6=>⟨?_,⟨?_,⟨?_,⟨⟨rfl,⟨rfl,rfl⟩⟩,⟨⟨rfl,⟨?_,?_⟩⟩,trivial⟩⟩⟩⟩⟩⟩⟩⟩⟩,fun a2=>⟨fun a3=>fun a4=>⟨?_,⟨?_,⟨⟨rfl,⟨rfl,rfl⟩⟩,⟨⟨rfl,⟨?_,?_⟩⟩,trivial⟩⟩⟩⟩,fun a3=>fun a4=>⟨fun a5=>⟨?_,⟨fun a6=>fun a7=>⟨?_,⟨?_,⟨⟨rfl,⟨rfl,rfl⟩⟩,⟨⟨rfl,⟨?_,?_⟩⟩,trivial⟩⟩⟩⟩,fun a6=>⟨?_,⟨?_,⟨?_,⟨⟨rfl,⟨rfl,rfl⟩⟩,⟨⟨rfl,⟨?_,?_⟩⟩,trivial⟩⟩⟩⟩⟩⟩⟩,fun a5=>⟨fun a6=>fun a7=>⟨?_,⟨?_,⟨⟨rfl,⟨rfl,rfl⟩⟩,⟨⟨rfl,⟨?_,?_⟩⟩,trivial⟩⟩⟩⟩,fun a6=>⟨?_,⟨?_,⟨?_,⟨⟨rfl,⟨rfl,rfl⟩⟩,⟨⟨rfl,⟨?_,?_⟩⟩,trivial⟩⟩⟩⟩⟩⟩⟩⟩⟩,fun a0=>⟨fun a1=>⟨?_,⟨fun a2=>fun a3=>⟨?_,⟨?_,⟨⟨rfl,⟨rfl,rfl⟩⟩,⟨⟨rfl,⟨?_,?_⟩⟩,trivial⟩⟩⟩⟩,fun a2=>fun a3=>⟨fun a4=>⟨?_,⟨fun a5=>fun a6=>⟨?_,⟨?_,⟨⟨rfl,⟨rfl,rfl⟩⟩,⟨⟨rfl,⟨?_,?_⟩⟩,trivial⟩⟩⟩⟩,fun a5=>⟨?_,⟨?_,⟨?_,⟨⟨rfl,⟨rfl,rfl⟩⟩,⟨⟨rfl,⟨?_,?_⟩⟩,trivial⟩⟩⟩⟩⟩⟩⟩,fun a4=>⟨fun a5=>fun a6=>⟨?_,⟨?_,⟨⟨rfl,⟨rfl,rfl⟩⟩,⟨⟨rfl,⟨?_,?_⟩⟩,trivial⟩⟩⟩⟩,fun a5=>⟨?_,⟨?_,⟨?_,⟨⟨rfl,⟨rfl,rfl⟩⟩,⟨⟨rfl,⟨?_,?_⟩⟩,trivial⟩⟩⟩⟩⟩⟩⟩⟩⟩,fun a1=>⟨fun a2=>fun a3=>⟨?_,⟨?_,⟨⟨rfl,⟨rfl,rfl⟩⟩,⟨⟨rfl,⟨?_,?_⟩⟩,trivial⟩⟩⟩⟩,fun a2=>fun a3=>⟨fun a4=>⟨?_,⟨fun a5=>fun a6=>⟨?_,⟨?_,⟨⟨rfl,⟨rfl,rfl⟩⟩,⟨⟨rfl,⟨?_,?_⟩⟩,trivial⟩⟩⟩⟩,fun a5=>⟨?_,⟨?_,⟨?_,⟨⟨rfl,⟨rfl,rfl⟩⟩,⟨⟨rfl,⟨?_,?_⟩⟩,trivial⟩⟩⟩⟩⟩⟩⟩,fun a4=>⟨fun a5=>fun a6=>⟨?_,⟨?_,⟨⟨rfl,⟨rfl,rfl⟩⟩,⟨⟨rfl,⟨?_,?_⟩⟩,trivial⟩⟩⟩⟩,fun a5=>⟨?_,⟨?_,⟨?_,⟨⟨rfl,⟨rfl,rfl⟩⟩,⟨⟨rfl,⟨?_,?_⟩⟩,trivial⟩⟩⟩⟩⟩⟩⟩⟩⟩⟩
 all_goals try and_intros
 all_goals (try simp only[c8d] at *);first|omega|(first|exact a0s.mono hp.1 (by decide)|exact a0s.mono (hp.1.next _) (by decide)|exact a0s.mono ((hp.1.next _).next _) (by decide))|(cases c<;>grind [lfE,lfN,lfX,lfY,lf1,lf2,lfA])
theorem d3z:SCt.Good a7g:=d7z trivial trivial trivial ⟨a6d,a3u,trivial⟩
theorem a9o(deep:Int)(h:¬ deep<1):deep.toNat=(deep - 1).toNat+1:=by omega
theorem d6s(deep:Int)(h:¬ deep<1):(wG deep.toNat:Int)=1+2 * (wG (deep - 1).toNat:Int):=by
 rw[a9o deep h];simp only[wG];omega
theorem h0c(code:List Int)(t a deep left:Int)(c:Bool)(s:Sr)(h:deep<1∨left - 1<1):exG code t a deep.toNat c s left=gnL code t a c s (left - 1):=by
 by_cases hd:deep<1
 ·rw[show deep.toNat=0 by omega,exG]
 ·rw[a9o deep hd,exG,if_pos (by omega)]
theorem h0d(code:List Int)(t a deep left:Int)(c:Bool)(s:Sr)(hd:¬ deep<1)(hl:¬ left - 1<1)(h:a2t code s 6=true):exG code t a deep.toNat c s left=gnL code t a c (pkN code s 6) (left - 1):=by
 rw[a9o deep hd,exG,if_neg hl,if_pos h]
theorem h0k{x:Int}{c:Bool}(h2:¬ x=0)(h3:c=false):¬ (x=0∨(c=true∧x<4)):=by
 intro q
 rcases q with q|q
 ·exact h2 q
 ·exact absurd (q.1.symm.trans h3) (by decide)
structure InG(code:List Int)(deep left:Int)(s:Sr):Prop where
 d:¬ deep<1
 l:¬ left - 1<1
 o:a2t code s 6=false
theorem h0e(code:List Int)(t a deep left:Int)(c:Bool)(s:Sr)(g:InG code deep left s)(h:gnK code s=0∨(c=true∧gnK code s<4)):exG code t a deep.toNat c s left=⟨a0b.mk 5 0 [(exG code t a (deep - 1).toNat true (gn2 code s) (left - 1)).e],(exG code t a (deep - 1).toNat true (gn2 code s) (left - 1)).s,(exG code t a (deep - 1).toNat true (gn2 code s) (left - 1)).left⟩:=by
 rw[a9o deep g.d,exG,if_neg g.l,if_neg (by rw[g.o];decide),if_pos h]
theorem h0f(code:List Int)(t a deep left:Int)(c:Bool)(s:Sr)(g:InG code deep left s)(h:¬ (gnK code s=0∨(c=true∧gnK code s<4)))(h4:gnK code s<4):exG code t a deep.toNat c s left=⟨a0b.mk 8 0 [(exG code t a (deep - 1).toNat false (gn2 code s) (left - 1)).e],(exG code t a (deep - 1).toNat false (gn2 code s) (left - 1)).s,(exG code t a (deep - 1).toNat false (gn2 code s) (left - 1)).left⟩:=by
 rw[a9o deep g.d,exG,if_neg g.l,if_neg (by rw[g.o];decide),if_neg h,if_pos h4]
def gnA(code:List Int)(t a deep left:Int)(c:Bool)(s:Sr):Gn:=exG code t a (deep - 1).toNat (gnC code c (gn2 code s) 5) (gnS code c (gn2 code s) 5) (left - 1)
def gnB(code:List Int)(t a deep:Int)(c:Bool)(r:Gn):Gn:=exG code t a (deep - 1).toNat (gnC code c r.s 6) (gnS code c r.s 6) r.left
def gnX(code:List Int)(s:Sr):Int:=if gnK code s<6 then 6 else 7
theorem g7q(code:List Int)(t a deep left:Int)(c:Bool)(s:Sr)(g:InG code deep left s)(h4:¬ gnK code s<4):exG code t a deep.toNat c s left=⟨a0b.mk (gnX code s) 0 [(gnA code t a deep left c s).e,(gnB code t a deep c (gnA code t a deep left c s)).e],(gnB code t a deep c (gnA code t a deep left c s)).s,(gnB code t a deep c (gnA code t a deep left c s)).left⟩:=by
 rw[a9o deep g.d,exG,if_neg g.l,if_neg (by rw[g.o];decide),if_neg,if_neg h4]
 ·rfl
 ·have:=g.o;intro q
  rcases q with q|q<;>omega
structure GnB(code:List Int)(deep left:Int)(s:Sr)(k:Int):Prop where
 s:a0s code s (980000000 - 16 * (wG (deep - 1).toNat:Int) - k)
 l0 : -1000000+(wG (deep - 1).toNat:Int)≤left
 l1:left≤1000000
theorem g9l(code:List Int)(c:Bool)(s:Sr)(n k:Int)(h:a0s code s k):a0s code (gnS code c s n) (k+2):=by
 unfold gnS;split
 ·exact h.mono (by omega)
 ·exact h.next n
theorem h0g(code:List Int)(deep left:Int)(s:Sr)(hd:¬ deep<1)(hs:a0s code s (980000000 - 16 * (wG deep.toNat:Int)))(h0 : -1000000+(wG deep.toNat:Int)≤left)(h1:left≤1000000):GnB code deep (left - 1) (gn2 code s) 8:=by
 have hw:=d6s deep hd
 have hp:=c0k (deep - 1).toNat
 exact⟨((hs.next 6).next 10).mono (by omega),by omega,by omega⟩
theorem h0h(code:List Int)(t a deep left:Int)(c:Bool)(s:Sr)(hd:¬ deep<1)(hs:a0s code s (980000000 - 16 * (wG deep.toNat:Int)))(h0 : -1000000+(wG deep.toNat:Int)≤left)(h1:left≤1000000)(ht:0≤t∧t≤3)(ha:0≤a∧a≤4) :
  GnB code deep (gnA code t a deep left c s).left (gnA code t a deep left c s).s 8:=by
 have hw:=d6s deep hd
 have hp:=c0k (deep - 1).toNat
 have r:=e4c code t a ht ha (deep - 1).toNat (gnC code c (gn2 code s) 5) (gnS code c (gn2 code s) 5) _ (left - 1) (g9l code c _ 5 _ ((hs.next 6).next 10))
 have e:gnA code t a deep left c s=exG code t a (deep - 1).toNat (gnC code c (gn2 code s) 5) (gnS code c (gn2 code s) 5) (left - 1):=rfl
 rw[←e] at r
 have r0:=r.l0;have r1:=r.l1
 exact⟨r.sr.mono (by omega),by omega,by omega⟩
def a6k(n:Nat):SCt:=⟨b3n,[[.p 1, .d (.int .i64), .d (.int .i64), .d (.int .i64)],[.d (.slice (.int .u8)), .d (.int .i64), .d (.int .u64)]],[.b 0, .v .bool, .v (.int .i64)],[[(.int .i64),(.int .i64),(.int .i64)],[(.slice (.int .u8)),(.int .i64),(.int .u64)]],fun (c:Bool) (deep:Int) (tn:Int) (an:Int) (left:Int) (code:List Int) (pos:Int) (seed:Int)=>⟨(some (deep.toNat<n∧a0s code (Sr.mk pos seed) (980000000 - 16 * (wG deep.toNat:Int))∧(0≤tn∧tn≤3)∧(0≤an∧an≤4)∧deep≤10 ∧ -1000000+(wG deep.toNat:Int)≤left∧left≤1000000),[⟨(.st .expr),(exG code tn an deep.toNat c (Sr.mk pos seed) left).e⟩],[[⟨(.int .i64),tn⟩,⟨(.int .i64),an⟩,⟨(.int .i64),(exG code tn an deep.toNat c (Sr.mk pos seed) left).left⟩],[⟨(.slice (.int .u8)),code⟩,⟨(.int .i64),(exG code tn an deep.toNat c (Sr.mk pos seed) left).s.pos⟩,⟨(.int .u64),(exG code tn an deep.toNat c (Sr.mk pos seed) left).s.seed⟩]])⟩⟩
def b1c:SCt:=⟨b3n,[[.p 1, .d (.int .i64), .d (.int .i64), .d (.int .i64)],[.d (.slice (.int .u8)), .d (.int .i64), .d (.int .u64)]],[.b 0, .v .bool, .v (.int .i64)],[[(.int .i64),(.int .i64),(.int .i64)],[(.slice (.int .u8)),(.int .i64),(.int .u64)]],fun (c:Bool) (deep:Int) (tn:Int) (an:Int) (left:Int) (code:List Int) (pos:Int) (seed:Int)=>⟨(some (a0s code (Sr.mk pos seed) (980000000 - 16 * (wG deep.toNat:Int))∧(0≤tn∧tn≤3)∧(0≤an∧an≤4)∧deep≤10 ∧ -1000000+(wG deep.toNat:Int)≤left∧left≤1000000),[⟨(.st .expr),(exG code tn an deep.toNat c (Sr.mk pos seed) left).e⟩],[[⟨(.int .i64),tn⟩,⟨(.int .i64),an⟩,⟨(.int .i64),(exG code tn an deep.toNat c (Sr.mk pos seed) left).left⟩],[⟨(.slice (.int .u8)),code⟩,⟨(.int .i64),(exG code tn an deep.toNat c (Sr.mk pos seed) left).s.pos⟩,⟨(.int .u64),(exG code tn an deep.toNat c (Sr.mk pos seed) left).s.seed⟩]])⟩⟩
def c3x(c:Bool)(deep:Int)(tn:Int)(an:Int)(left:Int)(code:List Int)(pos:Int)(seed:Int):Nat→a0t:=(fun zb=>if Nat.beq zb 100004 then .mk (Unit) (fun u=>InG code deep left (Sr.mk pos seed)) (fun u=>0) [] [3,4,5,11,12,13,14,15,16,17,18,19,20,21,22,23,24,25,26,27,28,29,30,31,32,33,34,35,36] (fun u=>[]) [0,1,2,6,7,8,9,10,37,38,39,40,41,42,43,44,45,46,47,48,49,50,51,52,53,54,55,56,57,58,59,60,61,62,63,64,65,66,67,68,69,70,71,72,73,74,75,76,77,78,79,80,81,82,83,84,85,86,87,88,89,90,91,92,93,94,95,96] (fun u=>[(400000, .box [.ptr 400001 0, .imm ⟨(.int .i64),(tn:Int)⟩, .imm ⟨(.int .i64),(an:Int)⟩, .imm ⟨(.int .i64),(left - 1:Int)⟩]),(400001, .box [.imm ⟨(.slice (.int .u8)),(code:List Int)⟩, .imm ⟨(.int .i64),((pkN code (Sr.mk pos seed) 6).pos:Int)⟩, .imm ⟨(.int .u64),((pkN code (Sr.mk pos seed) 6).seed:Int)⟩])]) [] [] (fun u=>(fun zb=>if Nat.beq zb 100009 then .mk (Unit) (fun u=>InG code deep left (Sr.mk pos seed)∧¬ gnK code (Sr.mk pos seed)<4) (fun u=>0) [] [3,4,5,11,12,13,14,15,16,17,18,19,20,21,22,23,24,25,26,27,28,29,30,31,32,33,34,35,36,37,38,39,40,41,42,43,44,45,46,47,48,49,50,51,52,53,54,55,56,57,58,59,60,61,62,63,64,65,66] (fun u=>[(7, .imm ⟨(.int .i64),(gnK code (Sr.mk pos seed):Int)⟩)]) [0,1,2,6,7,8,9,10,67,68,69,70,71,72,73,74,75,76,77,78,79,80,81,82,83,84,85,86,87,88,89,90,91,92,93,94,95,96] (fun u=>[(400000, .box [.ptr 400001 0, .imm ⟨(.int .i64),(tn:Int)⟩, .imm ⟨(.int .i64),(an:Int)⟩, .imm ⟨(.int .i64),(left - 1:Int)⟩]),(400001, .box [.imm ⟨(.slice (.int .u8)),(code:List Int)⟩, .imm ⟨(.int .i64),((gn2 code (Sr.mk pos seed)).pos:Int)⟩, .imm ⟨(.int .u64),((gn2 code (Sr.mk pos seed)).seed:Int)⟩])]) [] [] (fun u=>(fun zb=>if Nat.beq zb 100012 then .mk (Unit) (fun u=>InG code deep left (Sr.mk pos seed)∧¬ gnK code (Sr.mk pos seed)<4) (fun u=>0) [] [3,4,5,7,11,12,13,14,15,16,17,18,19,20,21,22,23,24,25,26,27,28,29,30,31,32,33,34,35,36,37,38,39,40,41,42,43,44,45,46,47,48,49,50,51,52,53,54,55,56,57,58,59,60,61,62,63,64,65,66,67,68] (fun u=>[(8, .imm ⟨(.int .i64),(gnX code (Sr.mk pos seed):Int)⟩)]) [0,1,2,6,8,9,10,69,70,71,72,73,74,75,76,77,78,79,80,81,82,83,84,85,86,87,88,89,90,91,92,93,94,95,96] (fun u=>[(400000, .box [.ptr 400001 0, .imm ⟨(.int .i64),(tn:Int)⟩, .imm ⟨(.int .i64),(an:Int)⟩, .imm ⟨(.int .i64),(left - 1:Int)⟩]),(400001, .box [.imm ⟨(.slice (.int .u8)),(code:List Int)⟩, .imm ⟨(.int .i64),((gn2 code (Sr.mk pos seed)).pos:Int)⟩, .imm ⟨(.int .u64),((gn2 code (Sr.mk pos seed)).seed:Int)⟩])]) [] [] (fun u=>(fun zb=>if Nat.beq zb 100013 then .mk (Unit) (fun u=>InG code deep left (Sr.mk pos seed)∧¬ gnK code (Sr.mk pos seed)<4) (fun u=>0) [] [3,4,5,7,11,12,13,14,15,16,17,18,19,20,21,22,23,24,25,26,27,28,29,30,31,32,33,34,35,36,37,38,39,40,41,42,43,44,45,46,47,48,49,50,51,52,53,54,55,56,57,58,59,60,61,62,63,64,65,66,67,68,69,70,71,72,73,74,75,76,77,78,79,80] (fun u=>[(9, .ptr 9 0)]) [0,1,2,6,8,10,81,82,83,84,85,86,87,88,89,90,91,92,93,94,95,96] (fun u=>[(400000, .box [.ptr 400001 0, .imm ⟨(.int .i64),(tn:Int)⟩, .imm ⟨(.int .i64),(an:Int)⟩, .imm ⟨(.int .i64),((gnA code tn an deep left c (Sr.mk pos seed)).left:Int)⟩]),(400001, .box [.imm ⟨(.slice (.int .u8)),(code:List Int)⟩, .imm ⟨(.int .i64),((gnA code tn an deep left c (Sr.mk pos seed)).s.pos:Int)⟩, .imm ⟨(.int .u64),((gnA code tn an deep left c (Sr.mk pos seed)).s.seed:Int)⟩]),(9, .box [.imm ⟨(.int .i64),((gnA code tn an deep left c (Sr.mk pos seed)).e.kind:Int)⟩, .imm ⟨(.int .i64),((gnA code tn an deep left c (Sr.mk pos seed)).e.num:Int)⟩, .tree 7000]),(7000, .tree (.st .expr) ((gnA code tn an deep left c (Sr.mk pos seed)).e.kids:List a0b))]) [] [] (fun u=>(fun zb=>if Nat.beq zb 100014 then .mk (Unit) (fun u=>InG code deep left (Sr.mk pos seed)∧¬ gnK code (Sr.mk pos seed)<4) (fun u=>0) [] [0,1,2,3,4,5,7,11,12,13,14,15,16,17,18,19,20,21,22,23,24,25,26,27,28,29,30,31,32,33,34,35,36,37,38,39,40,41,42,43,44,45,46,47,48,49,50,51,52,53,54,55,56,57,58,59,60,61,62,63,64,65,66,67,68,69,70,71,72,73,74,75,76,77,78,79,80,81,82,83,84,85,86,87,88,89,90,91,92] (fun u=>[(10, .ptr 10 0)]) [6,8,9,93,94,95,96,7000] (fun u=>[(400000, .box [.ptr 400001 0, .imm ⟨(.int .i64),(tn:Int)⟩, .imm ⟨(.int .i64),(an:Int)⟩, .imm ⟨(.int .i64),((gnB code tn an deep c (gnA code tn an deep left c (Sr.mk pos seed))).left:Int)⟩]),(400001, .box [.imm ⟨(.slice (.int .u8)),(code:List Int)⟩, .imm ⟨(.int .i64),((gnB code tn an deep c (gnA code tn an deep left c (Sr.mk pos seed))).s.pos:Int)⟩, .imm ⟨(.int .u64),((gnB code tn an deep c (gnA code tn an deep left c (Sr.mk pos seed))).s.seed:Int)⟩]),(10, .box [.imm ⟨(.int .i64),((gnB code tn an deep c (gnA code tn an deep left c (Sr.mk pos seed))).e.kind:Int)⟩, .imm ⟨(.int .i64),((gnB code tn an deep c (gnA code tn an deep left c (Sr.mk pos seed))).e.num:Int)⟩, .tree 7100]),(7100, .tree (.st .expr) ((gnB code tn an deep c (gnA code tn an deep left c (Sr.mk pos seed))).e.kids:List a0b))]) [] [] (fun u=>fun _ => .none) else .none)) else .none)) else .none)) else .none)) else .none)
abbrev c1s(c:Bool)(deep:Int)(tn:Int)(an:Int)(left:Int)(code:List Int)(pos:Int)(seed:Int):Prop:=((a0s code (Sr.mk pos seed) 999999000∧(6:Int)≤1000000)∧(((a2t code (Sr.mk pos seed) (6:Int))=true →
 ((a0s code (pkN code (Sr.mk pos seed) (6:Int)) 990000000∧(0≤tn∧tn≤3)∧0≤an∧an≤4)∧((a0w (lfE code tn an c (pkN code (Sr.mk pos seed) (6:Int))))=((exG code tn an deep.toNat c (Sr.mk pos seed) left).e)∧((tn=tn∧(an=an∧(left - (1:Int))=((exG code tn an deep.toNat c (Sr.mk pos seed) left).left)))∧((code=code∧(((lfN code tn an c (pkN code (Sr.mk pos seed) (6:Int))).pos)=((exG code tn an deep.toNat c (Sr.mk pos seed) left).s.pos)∧((lfN code tn an c (pkN code (Sr.mk pos seed) (6:Int))).seed)=((exG code tn an deep.toNat c (Sr.mk pos seed) left).s.seed)))∧True)))))∧((a2t code (Sr.mk pos seed) (6:Int))=false →
 (∃ u1:Unit,(InG code deep left (Sr.mk pos seed)∧((True∧(c=c∧(deep=deep∧(True∧True))))∧((True∧(tn=tn∧(an=an∧((left - (1:Int))=(left - 1)∧True))))∧((code=code∧(((pkN code (Sr.mk pos seed) (6:Int)).pos)=((pkN code (Sr.mk pos seed) 6).pos)∧(((pkN code (Sr.mk pos seed) (6:Int)).seed)=((pkN code (Sr.mk pos seed) 6).seed)∧True)))∧(((0:Int)=(0:Int)∧((0:Int)=(0:Int)∧(True∧True)))∧True)))))))))
abbrev c1t(c:Bool)(deep:Int)(tn:Int)(an:Int)(left:Int)(code:List Int)(pos:Int)(seed:Int):Prop:=((true=true →
 ((a0s code (Sr.mk pos seed) 990000000∧(0≤tn∧tn≤3)∧0≤an∧an≤4)∧((a0w (lfE code tn an c (Sr.mk pos seed)))=((exG code tn an deep.toNat c (Sr.mk pos seed) left).e)∧((tn=tn∧(an=an∧(left - (1:Int))=((exG code tn an deep.toNat c (Sr.mk pos seed) left).left)))∧((code=code∧(((lfN code tn an c (Sr.mk pos seed)).pos)=((exG code tn an deep.toNat c (Sr.mk pos seed) left).s.pos)∧((lfN code tn an c (Sr.mk pos seed)).seed)=((exG code tn an deep.toNat c (Sr.mk pos seed) left).s.seed)))∧True)))))∧(true=false →
 (∃ u1:Unit,(InG code deep left (Sr.mk pos seed)∧((True∧(c=c∧(deep=deep∧(True∧True))))∧((True∧(tn=tn∧(an=an∧((left - (1:Int))=(left - 1)∧True))))∧((code=code∧(pos=((pkN code (Sr.mk pos seed) 6).pos)∧(seed=((pkN code (Sr.mk pos seed) 6).seed)∧True)))∧(((0:Int)=(0:Int)∧((0:Int)=(0:Int)∧(True∧True)))∧True))))))))
abbrev b4t(n:Nat)(c:Bool)(deep:Int)(tn:Int)(an:Int)(left:Int)(code:List Int)(pos:Int)(seed:Int):Prop:=(a0d (deep - (1:Int))∧(((deep - (1:Int)).toNat<n∧a0s code (pkN code (pkN code (Sr.mk pos seed) 6) (10:Int)) (980000000 - 16 * (wG (deep - (1:Int)).toNat:Int))∧(0≤tn∧tn≤3)∧(0≤an∧an≤4)∧(deep - (1:Int))≤10 ∧ -1000000+(wG (deep - (1:Int)).toNat:Int)≤(left - 1)∧(left - 1)≤1000000)∧((a0b.mk (5:Int) (0:Int) ([(a0w ((exG code tn an (deep - (1:Int)).toNat true (pkN code (pkN code (Sr.mk pos seed) 6) (10:Int)) (left - 1)).e))]))=((exG code tn an deep.toNat c (Sr.mk pos seed) left).e)∧((tn=tn∧(an=an∧((exG code tn an (deep - (1:Int)).toNat true (pkN code (pkN code (Sr.mk pos seed) 6) (10:Int)) (left - 1)).left)=((exG code tn an deep.toNat c (Sr.mk pos seed) left).left)))∧((code=code∧(((exG code tn an (deep - (1:Int)).toNat true (pkN code (pkN code (Sr.mk pos seed) 6) (10:Int)) (left - 1)).s.pos)=((exG code tn an deep.toNat c (Sr.mk pos seed) left).s.pos)∧((exG code tn an (deep - (1:Int)).toNat true (pkN code (pkN code (Sr.mk pos seed) 6) (10:Int)) (left - 1)).s.seed)=((exG code tn an deep.toNat c (Sr.mk pos seed) left).s.seed)))∧True)))))
abbrev b4u(n:Nat)(c:Bool)(deep:Int)(tn:Int)(an:Int)(left:Int)(code:List Int)(pos:Int)(seed:Int):Prop:=(((decide ((pk code (pkN code (Sr.mk pos seed) 6) (10:Int))<(4:Int)))=true →
 (a0d (deep - (1:Int))∧(((deep - (1:Int)).toNat<n∧a0s code (pkN code (pkN code (Sr.mk pos seed) 6) (10:Int)) (980000000 - 16 * (wG (deep - (1:Int)).toNat:Int))∧(0≤tn∧tn≤3)∧(0≤an∧an≤4)∧(deep - (1:Int))≤10 ∧ -1000000+(wG (deep - (1:Int)).toNat:Int)≤(left - 1)∧(left - 1)≤1000000)∧((a0b.mk (8:Int) (0:Int) ([(a0w ((exG code tn an (deep - (1:Int)).toNat false (pkN code (pkN code (Sr.mk pos seed) 6) (10:Int)) (left - 1)).e))]))=((exG code tn an deep.toNat c (Sr.mk pos seed) left).e)∧((tn=tn∧(an=an∧((exG code tn an (deep - (1:Int)).toNat false (pkN code (pkN code (Sr.mk pos seed) 6) (10:Int)) (left - 1)).left)=((exG code tn an deep.toNat c (Sr.mk pos seed) left).left)))∧((code=code∧(((exG code tn an (deep - (1:Int)).toNat false (pkN code (pkN code (Sr.mk pos seed) 6) (10:Int)) (left - 1)).s.pos)=((exG code tn an deep.toNat c (Sr.mk pos seed) left).s.pos)∧((exG code tn an (deep - (1:Int)).toNat false (pkN code (pkN code (Sr.mk pos seed) 6) (10:Int)) (left - 1)).s.seed)=((exG code tn an deep.toNat c (Sr.mk pos seed) left).s.seed)))∧True))))))∧((decide ((pk code (pkN code (Sr.mk pos seed) 6) (10:Int))<(4:Int)))=false →
 (∃ u2:Unit,((InG code deep left (Sr.mk pos seed)∧¬ gnK code (Sr.mk pos seed)<4)∧((True∧(c=c∧(deep=deep∧(True∧((pk code (pkN code (Sr.mk pos seed) 6) (10:Int))=(gnK code (Sr.mk pos seed))∧True)))))∧((True∧(tn=tn∧(an=an∧((left - 1)=(left - 1)∧True))))∧((code=code∧(((pkN code (pkN code (Sr.mk pos seed) 6) (10:Int)).pos)=((gn2 code (Sr.mk pos seed)).pos)∧(((pkN code (pkN code (Sr.mk pos seed) 6) (10:Int)).seed)=((gn2 code (Sr.mk pos seed)).seed)∧True)))∧(((0:Int)=(0:Int)∧((0:Int)=(0:Int)∧(True∧True)))∧True))))))))
abbrev c1u(tn:Int)(an:Int)(left:Int)(code:List Int)(pos:Int)(seed:Int):Prop:=((True∧(tn=tn∧(an=an∧((left - 1)=(left - 1)∧True))))∧((code=code∧(((gn2 code (Sr.mk pos seed)).pos)=((gn2 code (Sr.mk pos seed)).pos)∧(((gn2 code (Sr.mk pos seed)).seed)=((gn2 code (Sr.mk pos seed)).seed)∧True)))∧(((0:Int)=(0:Int)∧((0:Int)=(0:Int)∧(True∧True)))∧True)))
abbrev c1v(c:Bool)(deep:Int)(tn:Int)(an:Int)(left:Int)(code:List Int)(pos:Int)(seed:Int):Prop:=((((gnA code tn an deep left c (Sr.mk pos seed)).e.kind)=((gnA code tn an deep left c (Sr.mk pos seed)).e.kind)∧(((gnA code tn an deep left c (Sr.mk pos seed)).e.num)=((gnA code tn an deep left c (Sr.mk pos seed)).e.num)∧(True∧True)))∧(((gnA code tn an deep left c (Sr.mk pos seed)).e.kids)=((gnA code tn an deep left c (Sr.mk pos seed)).e.kids)∧(((0:Int)=(0:Int)∧((0:Int)=(0:Int)∧(True∧True)))∧True)))
theorem d8n(n:Nat)(c:Bool)(deep:Int)(tn:Int)(an:Int)(left:Int)(code:List Int)(pos:Int)(seed:Int):awp (a2o [] [a2z] [] [36,55,56,64,65,80,92,96] [] [] [] [a1z,a1a,a7g,a6k n]) (a0i a5u) (c3x c deep tn an left code pos seed) 0 (a9b (a2o [] [a2z] [] [36,55,56,64,65,80,92,96] [] [] [] [a1z,a1a,a7g,a6k n]) a5u [[.p 1, .d (.int .i64), .d (.int .i64), .d (.int .i64)],[.d (.slice (.int .u8)), .d (.int .i64), .d (.int .u64)]] fun r ds=>a1e r [⟨(.st .expr),(exG code tn an deep.toNat c (Sr.mk pos seed) left).e⟩]∧b2i ds [[⟨(.int .i64),tn⟩,⟨(.int .i64),an⟩,⟨(.int .i64),(exG code tn an deep.toNat c (Sr.mk pos seed) left).left⟩],[⟨(.slice (.int .u8)),code⟩,⟨(.int .i64),(exG code tn an deep.toNat c (Sr.mk pos seed) left).s.pos⟩,⟨(.int .u64),(exG code tn an deep.toNat c (Sr.mk pos seed) left).s.seed⟩]]) (a2x a5u [.box 0, .val ⟨.bool,c⟩, .val ⟨(.int .i64),deep⟩] [[.p 1, .d (.int .i64), .d (.int .i64), .d (.int .i64)],[.d (.slice (.int .u8)), .d (.int .i64), .d (.int .u64)]] [[⟨(.int .i64),tn⟩,⟨(.int .i64),an⟩,⟨(.int .i64),left⟩],[⟨(.slice (.int .u8)),code⟩,⟨(.int .i64),pos⟩,⟨(.int .u64),seed⟩]]) =
 ((a0d left →
 (a0d (left - (1:Int))∧((a0d (left - (1:Int)) →
 (((decide ((left - (1:Int))<(1:Int)))=false →
 (((decide (deep<(1:Int)))=false →
 (c1s c deep tn an left code pos seed))∧((decide (deep<(1:Int)))=(!false) →
 (c1t c deep tn an left code pos seed))))∧((decide ((left - (1:Int))<(1:Int)))=(!false) →
 ((true=false →
 (c1s c deep tn an left code pos seed))∧(true=(!false) →
 (c1t c deep tn an left code pos seed))))))∧(∀ u1:Unit,(InG code deep left (Sr.mk pos seed) →
 ((a0s code (pkN code (Sr.mk pos seed) 6) 999999000∧(10:Int)≤1000000)∧((((decide ((pk code (pkN code (Sr.mk pos seed) 6) (10:Int))=(0:Int)))=false →
 ((c=true →
 (((decide ((pk code (pkN code (Sr.mk pos seed) 6) (10:Int))<(4:Int)))=true →
 (b4t n c deep tn an left code pos seed))∧((decide ((pk code (pkN code (Sr.mk pos seed) 6) (10:Int))<(4:Int)))=false →
 (b4u n c deep tn an left code pos seed))))∧(c=(!true) →
 ((false=true →
 (b4t n c deep tn an left code pos seed))∧(false=false →
 (b4u n c deep tn an left code pos seed))))))∧((decide ((pk code (pkN code (Sr.mk pos seed) 6) (10:Int))=(0:Int)))=(!false) →
 ((true=true →
 (b4t n c deep tn an left code pos seed))∧(true=false →
 (b4u n c deep tn an left code pos seed)))))∧(∀ u2:Unit,((InG code deep left (Sr.mk pos seed)∧¬ gnK code (Sr.mk pos seed)<4) →
 ((((decide ((gnK code (Sr.mk pos seed))<(6:Int)))=true →
 (∃ u3:Unit,((InG code deep left (Sr.mk pos seed)∧¬ gnK code (Sr.mk pos seed)<4)∧((True∧(c=c∧(deep=deep∧(True∧((6:Int)=(gnX code (Sr.mk pos seed))∧True)))))∧(c1u tn an left code pos seed)))))∧((decide ((gnK code (Sr.mk pos seed))<(6:Int)))=false →
 (∃ u3:Unit,((InG code deep left (Sr.mk pos seed)∧¬ gnK code (Sr.mk pos seed)<4)∧((True∧(c=c∧(deep=deep∧(True∧((7:Int)=(gnX code (Sr.mk pos seed))∧True)))))∧(c1u tn an left code pos seed))))))∧(∀ u3:Unit,((InG code deep left (Sr.mk pos seed)∧¬ gnK code (Sr.mk pos seed)<4) →
 (((c=false →
 ((a0s code (gn2 code (Sr.mk pos seed)) 999999000∧(5:Int)≤1000000)∧(a0d (deep - (1:Int))∧(((deep - (1:Int)).toNat<n∧a0s code (pkN code (gn2 code (Sr.mk pos seed)) (5:Int)) (980000000 - 16 * (wG (deep - (1:Int)).toNat:Int))∧(0≤tn∧tn≤3)∧(0≤an∧an≤4)∧(deep - (1:Int))≤10 ∧ -1000000+(wG (deep - (1:Int)).toNat:Int)≤(left - 1)∧(left - 1)≤1000000)∧(∃ u4:Unit,((InG code deep left (Sr.mk pos seed)∧¬ gnK code (Sr.mk pos seed)<4)∧((True∧(c=c∧(deep=deep∧(True∧((gnX code (Sr.mk pos seed))=(gnX code (Sr.mk pos seed))∧(True∧True))))))∧((True∧(tn=tn∧(an=an∧(((exG code tn an (deep - (1:Int)).toNat (a2t code (gn2 code (Sr.mk pos seed)) (5:Int)) (pkN code (gn2 code (Sr.mk pos seed)) (5:Int)) (left - 1)).left)=((gnA code tn an deep left c (Sr.mk pos seed)).left)∧True))))∧((code=code∧(((exG code tn an (deep - (1:Int)).toNat (a2t code (gn2 code (Sr.mk pos seed)) (5:Int)) (pkN code (gn2 code (Sr.mk pos seed)) (5:Int)) (left - 1)).s.pos)=((gnA code tn an deep left c (Sr.mk pos seed)).s.pos)∧(((exG code tn an (deep - (1:Int)).toNat (a2t code (gn2 code (Sr.mk pos seed)) (5:Int)) (pkN code (gn2 code (Sr.mk pos seed)) (5:Int)) (left - 1)).s.seed)=((gnA code tn an deep left c (Sr.mk pos seed)).s.seed)∧True)))∧((((exG code tn an (deep - (1:Int)).toNat (a2t code (gn2 code (Sr.mk pos seed)) (5:Int)) (pkN code (gn2 code (Sr.mk pos seed)) (5:Int)) (left - 1)).e).kind=((gnA code tn an deep left c (Sr.mk pos seed)).e.kind)∧(((exG code tn an (deep - (1:Int)).toNat (a2t code (gn2 code (Sr.mk pos seed)) (5:Int)) (pkN code (gn2 code (Sr.mk pos seed)) (5:Int)) (left - 1)).e).num=((gnA code tn an deep left c (Sr.mk pos seed)).e.num)∧(True∧True)))∧(((exG code tn an (deep - (1:Int)).toNat (a2t code (gn2 code (Sr.mk pos seed)) (5:Int)) (pkN code (gn2 code (Sr.mk pos seed)) (5:Int)) (left - 1)).e).kids=((gnA code tn an deep left c (Sr.mk pos seed)).e.kids)∧(((0:Int)=(0:Int)∧((0:Int)=(0:Int)∧(True∧True)))∧True))))))))))))∧(c=(!false) →
 (a0d (deep - (1:Int))∧(((deep - (1:Int)).toNat<n∧a0s code (gn2 code (Sr.mk pos seed)) (980000000 - 16 * (wG (deep - (1:Int)).toNat:Int))∧(0≤tn∧tn≤3)∧(0≤an∧an≤4)∧(deep - (1:Int))≤10 ∧ -1000000+(wG (deep - (1:Int)).toNat:Int)≤(left - 1)∧(left - 1)≤1000000)∧(∃ u4:Unit,((InG code deep left (Sr.mk pos seed)∧¬ gnK code (Sr.mk pos seed)<4)∧((True∧(c=c∧(deep=deep∧(True∧((gnX code (Sr.mk pos seed))=(gnX code (Sr.mk pos seed))∧(True∧True))))))∧((True∧(tn=tn∧(an=an∧(((exG code tn an (deep - (1:Int)).toNat true (gn2 code (Sr.mk pos seed)) (left - 1)).left)=((gnA code tn an deep left c (Sr.mk pos seed)).left)∧True))))∧((code=code∧(((exG code tn an (deep - (1:Int)).toNat true (gn2 code (Sr.mk pos seed)) (left - 1)).s.pos)=((gnA code tn an deep left c (Sr.mk pos seed)).s.pos)∧(((exG code tn an (deep - (1:Int)).toNat true (gn2 code (Sr.mk pos seed)) (left - 1)).s.seed)=((gnA code tn an deep left c (Sr.mk pos seed)).s.seed)∧True)))∧((((exG code tn an (deep - (1:Int)).toNat true (gn2 code (Sr.mk pos seed)) (left - 1)).e).kind=((gnA code tn an deep left c (Sr.mk pos seed)).e.kind)∧(((exG code tn an (deep - (1:Int)).toNat true (gn2 code (Sr.mk pos seed)) (left - 1)).e).num=((gnA code tn an deep left c (Sr.mk pos seed)).e.num)∧(True∧True)))∧(((exG code tn an (deep - (1:Int)).toNat true (gn2 code (Sr.mk pos seed)) (left - 1)).e).kids=((gnA code tn an deep left c (Sr.mk pos seed)).e.kids)∧(((0:Int)=(0:Int)∧((0:Int)=(0:Int)∧(True∧True)))∧True))))))))))))∧(∀ u4:Unit,((InG code deep left (Sr.mk pos seed)∧¬ gnK code (Sr.mk pos seed)<4) →
 (((c=false →
 ((a0s code (Sr.mk ((gnA code tn an deep left c (Sr.mk pos seed)).s.pos) ((gnA code tn an deep left c (Sr.mk pos seed)).s.seed)) 999999000∧(6:Int)≤1000000)∧(a0d (deep - (1:Int))∧(((deep - (1:Int)).toNat<n∧a0s code (pkN code (Sr.mk ((gnA code tn an deep left c (Sr.mk pos seed)).s.pos) ((gnA code tn an deep left c (Sr.mk pos seed)).s.seed)) (6:Int)) (980000000 - 16 * (wG (deep - (1:Int)).toNat:Int))∧(0≤tn∧tn≤3)∧(0≤an∧an≤4)∧(deep - (1:Int))≤10 ∧ -1000000+(wG (deep - (1:Int)).toNat:Int)≤((gnA code tn an deep left c (Sr.mk pos seed)).left)∧((gnA code tn an deep left c (Sr.mk pos seed)).left)≤1000000)∧(∃ u5:Unit,((InG code deep left (Sr.mk pos seed)∧¬ gnK code (Sr.mk pos seed)<4)∧((True∧((gnX code (Sr.mk pos seed))=(gnX code (Sr.mk pos seed))∧(True∧(True∧True))))∧((True∧(tn=tn∧(an=an∧(((exG code tn an (deep - (1:Int)).toNat (a2t code (Sr.mk ((gnA code tn an deep left c (Sr.mk pos seed)).s.pos) ((gnA code tn an deep left c (Sr.mk pos seed)).s.seed)) (6:Int)) (pkN code (Sr.mk ((gnA code tn an deep left c (Sr.mk pos seed)).s.pos) ((gnA code tn an deep left c (Sr.mk pos seed)).s.seed)) (6:Int)) ((gnA code tn an deep left c (Sr.mk pos seed)).left)).left)=((gnB code tn an deep c (gnA code tn an deep left c (Sr.mk pos seed))).left)∧True))))∧((code=code∧(((exG code tn an (deep - (1:Int)).toNat (a2t code (Sr.mk ((gnA code tn an deep left c (Sr.mk pos seed)).s.pos) ((gnA code tn an deep left c (Sr.mk pos seed)).s.seed)) (6:Int)) (pkN code (Sr.mk ((gnA code tn an deep left c (Sr.mk pos seed)).s.pos) ((gnA code tn an deep left c (Sr.mk pos seed)).s.seed)) (6:Int)) ((gnA code tn an deep left c (Sr.mk pos seed)).left)).s.pos)=((gnB code tn an deep c (gnA code tn an deep left c (Sr.mk pos seed))).s.pos)∧(((exG code tn an (deep - (1:Int)).toNat (a2t code (Sr.mk ((gnA code tn an deep left c (Sr.mk pos seed)).s.pos) ((gnA code tn an deep left c (Sr.mk pos seed)).s.seed)) (6:Int)) (pkN code (Sr.mk ((gnA code tn an deep left c (Sr.mk pos seed)).s.pos) ((gnA code tn an deep left c (Sr.mk pos seed)).s.seed)) (6:Int)) ((gnA code tn an deep left c (Sr.mk pos seed)).left)).s.seed)=((gnB code tn an deep c (gnA code tn an deep left c (Sr.mk pos seed))).s.seed)∧True)))∧((((exG code tn an (deep - (1:Int)).toNat (a2t code (Sr.mk ((gnA code tn an deep left c (Sr.mk pos seed)).s.pos) ((gnA code tn an deep left c (Sr.mk pos seed)).s.seed)) (6:Int)) (pkN code (Sr.mk ((gnA code tn an deep left c (Sr.mk pos seed)).s.pos) ((gnA code tn an deep left c (Sr.mk pos seed)).s.seed)) (6:Int)) ((gnA code tn an deep left c (Sr.mk pos seed)).left)).e).kind=((gnB code tn an deep c (gnA code tn an deep left c (Sr.mk pos seed))).e.kind)∧(((exG code tn an (deep - (1:Int)).toNat (a2t code (Sr.mk ((gnA code tn an deep left c (Sr.mk pos seed)).s.pos) ((gnA code tn an deep left c (Sr.mk pos seed)).s.seed)) (6:Int)) (pkN code (Sr.mk ((gnA code tn an deep left c (Sr.mk pos seed)).s.pos) ((gnA code tn an deep left c (Sr.mk pos seed)).s.seed)) (6:Int)) ((gnA code tn an deep left c (Sr.mk pos seed)).left)).e).num=((gnB code tn an deep c (gnA code tn an deep left c (Sr.mk pos seed))).e.num)∧(True∧True)))∧(((exG code tn an (deep - (1:Int)).toNat (a2t code (Sr.mk ((gnA code tn an deep left c (Sr.mk pos seed)).s.pos) ((gnA code tn an deep left c (Sr.mk pos seed)).s.seed)) (6:Int)) (pkN code (Sr.mk ((gnA code tn an deep left c (Sr.mk pos seed)).s.pos) ((gnA code tn an deep left c (Sr.mk pos seed)).s.seed)) (6:Int)) ((gnA code tn an deep left c (Sr.mk pos seed)).left)).e).kids=((gnB code tn an deep c (gnA code tn an deep left c (Sr.mk pos seed))).e.kids)∧(c1v c deep tn an left code pos seed))))))))))))∧(c=(!false) →
 (a0d (deep - (1:Int))∧(((deep - (1:Int)).toNat<n∧a0s code (Sr.mk ((gnA code tn an deep left c (Sr.mk pos seed)).s.pos) ((gnA code tn an deep left c (Sr.mk pos seed)).s.seed)) (980000000 - 16 * (wG (deep - (1:Int)).toNat:Int))∧(0≤tn∧tn≤3)∧(0≤an∧an≤4)∧(deep - (1:Int))≤10 ∧ -1000000+(wG (deep - (1:Int)).toNat:Int)≤((gnA code tn an deep left c (Sr.mk pos seed)).left)∧((gnA code tn an deep left c (Sr.mk pos seed)).left)≤1000000)∧(∃ u5:Unit,((InG code deep left (Sr.mk pos seed)∧¬ gnK code (Sr.mk pos seed)<4)∧((True∧((gnX code (Sr.mk pos seed))=(gnX code (Sr.mk pos seed))∧(True∧(True∧True))))∧((True∧(tn=tn∧(an=an∧(((exG code tn an (deep - (1:Int)).toNat true (Sr.mk ((gnA code tn an deep left c (Sr.mk pos seed)).s.pos) ((gnA code tn an deep left c (Sr.mk pos seed)).s.seed)) ((gnA code tn an deep left c (Sr.mk pos seed)).left)).left)=((gnB code tn an deep c (gnA code tn an deep left c (Sr.mk pos seed))).left)∧True))))∧((code=code∧(((exG code tn an (deep - (1:Int)).toNat true (Sr.mk ((gnA code tn an deep left c (Sr.mk pos seed)).s.pos) ((gnA code tn an deep left c (Sr.mk pos seed)).s.seed)) ((gnA code tn an deep left c (Sr.mk pos seed)).left)).s.pos)=((gnB code tn an deep c (gnA code tn an deep left c (Sr.mk pos seed))).s.pos)∧(((exG code tn an (deep - (1:Int)).toNat true (Sr.mk ((gnA code tn an deep left c (Sr.mk pos seed)).s.pos) ((gnA code tn an deep left c (Sr.mk pos seed)).s.seed)) ((gnA code tn an deep left c (Sr.mk pos seed)).left)).s.seed)=((gnB code tn an deep c (gnA code tn an deep left c (Sr.mk pos seed))).s.seed)∧True)))∧((((exG code tn an (deep - (1:Int)).toNat true (Sr.mk ((gnA code tn an deep left c (Sr.mk pos seed)).s.pos) ((gnA code tn an deep left c (Sr.mk pos seed)).s.seed)) ((gnA code tn an deep left c (Sr.mk pos seed)).left)).e).kind=((gnB code tn an deep c (gnA code tn an deep left c (Sr.mk pos seed))).e.kind)∧(((exG code tn an (deep - (1:Int)).toNat true (Sr.mk ((gnA code tn an deep left c (Sr.mk pos seed)).s.pos) ((gnA code tn an deep left c (Sr.mk pos seed)).s.seed)) ((gnA code tn an deep left c (Sr.mk pos seed)).left)).e).num=((gnB code tn an deep c (gnA code tn an deep left c (Sr.mk pos seed))).e.num)∧(True∧True)))∧(((exG code tn an (deep - (1:Int)).toNat true (Sr.mk ((gnA code tn an deep left c (Sr.mk pos seed)).s.pos) ((gnA code tn an deep left c (Sr.mk pos seed)).s.seed)) ((gnA code tn an deep left c (Sr.mk pos seed)).left)).e).kids=((gnB code tn an deep c (gnA code tn an deep left c (Sr.mk pos seed))).e.kids)∧(c1v c deep tn an left code pos seed))))))))))))∧(∀ u5:Unit,((InG code deep left (Sr.mk pos seed)∧¬ gnK code (Sr.mk pos seed)<4) →
 ((a0w (a0b.mk (gnX code (Sr.mk pos seed)) 0 [(a0b.mk ((gnA code tn an deep left c (Sr.mk pos seed)).e.kind) ((gnA code tn an deep left c (Sr.mk pos seed)).e.num) ((gnA code tn an deep left c (Sr.mk pos seed)).e.kids)),(a0b.mk ((gnB code tn an deep c (gnA code tn an deep left c (Sr.mk pos seed))).e.kind) ((gnB code tn an deep c (gnA code tn an deep left c (Sr.mk pos seed))).e.num) ((gnB code tn an deep c (gnA code tn an deep left c (Sr.mk pos seed))).e.kids))]))=((exG code tn an deep.toNat c (Sr.mk pos seed) left).e)∧((tn=tn∧(an=an∧((gnB code tn an deep c (gnA code tn an deep left c (Sr.mk pos seed))).left)=((exG code tn an deep.toNat c (Sr.mk pos seed) left).left)))∧((code=code∧(((gnB code tn an deep c (gnA code tn an deep left c (Sr.mk pos seed))).s.pos)=((exG code tn an deep.toNat c (Sr.mk pos seed) left).s.pos)∧((gnB code tn an deep c (gnA code tn an deep left c (Sr.mk pos seed))).s.seed)=((exG code tn an deep.toNat c (Sr.mk pos seed) left).s.seed)))∧True)))))))))))))))))))))):=by kernel_rfl
theorem d7y(n:Nat)(hE:a0p [])(hO:a4f [a2z])(hM:a4x [])(hS:a4p [a1z,a1a,a7g,a6k n]):SCt.Good (a6k (n+1)):=by
 refine⟨a0j b1a rfl (by decide),?_⟩
 show ∀ (c:Bool) (deep:Int) (tn:Int) (an:Int) (left:Int) (code:List Int) (pos:Int) (seed:Int),(deep.toNat<n+1∧a0s code (Sr.mk pos seed) (980000000 - 16 * (wG deep.toNat:Int))∧(0≤tn∧tn≤3)∧(0≤an∧an≤4)∧deep≤10 ∧ -1000000+(wG deep.toNat:Int)≤left∧left≤1000000)→b7w prog b3n [[.p 1, .d (.int .i64), .d (.int .i64), .d (.int .i64)],[.d (.slice (.int .u8)), .d (.int .i64), .d (.int .u64)]] [.box 0, .val ⟨.bool,c⟩, .val ⟨(.int .i64),deep⟩] [[⟨(.int .i64),tn⟩,⟨(.int .i64),an⟩,⟨(.int .i64),left⟩],[⟨(.slice (.int .u8)),code⟩,⟨(.int .i64),pos⟩,⟨(.int .u64),seed⟩]] [⟨(.st .expr),(exG code tn an deep.toNat c (Sr.mk pos seed) left).e⟩] [[⟨(.int .i64),tn⟩,⟨(.int .i64),an⟩,⟨(.int .i64),(exG code tn an deep.toNat c (Sr.mk pos seed) left).left⟩],[⟨(.slice (.int .u8)),code⟩,⟨(.int .i64),(exG code tn an deep.toNat c (Sr.mk pos seed) left).s.pos⟩,⟨(.int .u64),(exG code tn an deep.toNat c (Sr.mk pos seed) left).s.seed⟩]]
 intro c deep tn an left code pos seed hp
 refine a7z (own:=[36,55,56,64,65,80,92,96]) (wr:=[]) (cl:=[]) (ro:=[]) hE hO hM hS b1a d4w (c3x c deep tn an left code pos seed) rfl rfl ?_
 rewrite [d8n n c deep tn an left code pos seed]
 obtain⟨hlt,hs,ht,ha,hd10,hl0,hl1⟩:=hp
 have hw:=c0k deep.toNat
 have hwd:=d6s deep
 have hb0:=fun hd=>h0g code deep left (Sr.mk pos seed) hd hs hl0 hl1
 have hb1:=fun hd=>h0h code tn an deep left c (Sr.mk pos seed) hd hs hl0 hl1 ht ha
 refine fun a0=>⟨?_,⟨fun a1=>⟨fun a2=>⟨fun a3=>⟨?_,⟨fun a4=>⟨?_,⟨?_,⟨⟨rfl,⟨rfl,?_⟩⟩,⟨⟨rfl,⟨?_,?_⟩⟩,trivial⟩⟩⟩⟩,fun a4=>⟨(),⟨?_,⟨⟨trivial,⟨rfl,⟨rfl,⟨trivial,trivial⟩⟩⟩⟩,⟨⟨trivial,⟨rfl,⟨rfl,⟨?_,trivial⟩⟩⟩⟩,⟨⟨rfl,⟨?_,⟨?_,trivial⟩⟩⟩,⟨⟨rfl,⟨rfl,⟨trivial,trivial⟩⟩⟩,trivial⟩⟩⟩⟩⟩⟩⟩⟩,fun a3=>⟨fun a4=>⟨?_,⟨?_,⟨⟨rfl,⟨rfl,?_⟩⟩,⟨⟨rfl,⟨?_,?_⟩⟩,trivial⟩⟩⟩⟩,fun a4=>⟨(),⟨?_,⟨⟨trivial,⟨rfl,⟨rfl,⟨trivial,trivial⟩⟩⟩⟩,⟨⟨trivial,⟨rfl,⟨rfl,⟨?_,trivial⟩⟩⟩⟩,⟨⟨rfl,⟨?_,⟨?_,trivial⟩⟩⟩,⟨⟨rfl,⟨rfl,⟨trivial,trivial⟩⟩⟩,trivial⟩⟩⟩⟩⟩⟩⟩⟩,fun a2=>⟨fun a3=>⟨?_,⟨fun a4=>⟨?_,⟨?_,⟨⟨rfl,⟨rfl,?_⟩⟩,⟨⟨rfl,⟨?_,?_⟩⟩,trivial⟩⟩⟩⟩,fun a4=>⟨(),⟨?_,⟨⟨trivial,⟨rfl,⟨rfl,⟨trivial,trivial⟩⟩⟩⟩,⟨⟨trivial,⟨rfl,⟨rfl,⟨?_,trivial⟩⟩⟩⟩,⟨⟨rfl,⟨?_,⟨?_,trivial⟩⟩⟩,⟨⟨rfl,⟨rfl,⟨trivial,trivial⟩⟩⟩,trivial⟩⟩⟩⟩⟩⟩⟩⟩,fun a3=>⟨fun a4=>⟨?_,⟨?_,⟨⟨rfl,⟨rfl,?_⟩⟩,⟨⟨rfl,⟨?_,?_⟩⟩,trivial⟩⟩⟩⟩,fun a4=>⟨(),⟨?_,⟨⟨trivial,⟨rfl,⟨rfl,⟨trivial,trivial⟩⟩⟩⟩,⟨⟨trivial,⟨rfl,⟨rfl,⟨?_,trivial⟩⟩⟩⟩,⟨⟨rfl,⟨?_,⟨?_,trivial⟩⟩⟩,⟨⟨rfl,⟨rfl,⟨trivial,trivial⟩⟩⟩,trivial⟩⟩⟩⟩⟩⟩⟩⟩⟩,fun u1 a1=>have b1x0:=a1.d;have b1x1:=hwd a1.d;have b1x2:=hb0 a1.d;have b1x3:=(hb0 a1.d).l0;have b1x4:=(hb0 a1.d).l1;⟨?_,⟨⟨fun a2=>⟨fun a3=>⟨fun a4=>⟨?_,⟨?_,⟨?_,⟨⟨rfl,⟨rfl,?_⟩⟩,⟨⟨rfl,⟨?_,?_⟩⟩,trivial⟩⟩⟩⟩⟩,fun a4=>⟨fun a5=>⟨?_,⟨?_,⟨?_,⟨⟨rfl,⟨rfl,?_⟩⟩,⟨⟨rfl,⟨?_,?_⟩⟩,trivial⟩⟩⟩⟩⟩,fun a5=>⟨(),⟨?_,⟨⟨trivial,⟨rfl,⟨rfl,⟨trivial,⟨?_,trivial⟩⟩⟩⟩⟩,⟨⟨trivial,⟨rfl,⟨rfl,⟨rfl,trivial⟩⟩⟩⟩,⟨⟨rfl,⟨?_,⟨?_,trivial⟩⟩⟩,⟨⟨rfl,⟨rfl,⟨trivial,trivial⟩⟩⟩,trivial⟩⟩⟩⟩⟩⟩⟩⟩,fun a3=>⟨fun a4=>⟨?_,⟨?_,⟨?_,⟨⟨rfl,⟨rfl,?_⟩⟩,⟨⟨rfl,⟨?_,?_⟩⟩,trivial⟩⟩⟩⟩⟩,fun a4=>⟨fun a5=>⟨?_,⟨?_,⟨?_,⟨⟨rfl,⟨rfl,?_⟩⟩,⟨⟨rfl,⟨?_,?_⟩⟩,trivial⟩⟩⟩⟩⟩,fun a5=>⟨(),⟨?_,⟨⟨trivial,⟨rfl,⟨rfl,⟨trivial,⟨?_,trivial⟩⟩⟩⟩⟩,⟨⟨trivial,⟨rfl,⟨rfl,⟨rfl,trivial⟩⟩⟩⟩,⟨⟨rfl,⟨?_,⟨?_,trivial⟩⟩⟩,⟨⟨rfl,⟨rfl,⟨trivial,trivial⟩⟩⟩,trivial⟩⟩⟩⟩⟩⟩⟩⟩⟩,fun a2=>⟨fun a3=>⟨?_,⟨?_,⟨?_,⟨⟨rfl,⟨rfl,?_⟩⟩,⟨⟨rfl,⟨?_,?_⟩⟩,trivial⟩⟩⟩⟩⟩,fun a3=>⟨fun a4=>⟨?_,⟨?_,⟨?_,⟨⟨rfl,⟨rfl,?_⟩⟩,⟨⟨rfl,⟨?_,?_⟩⟩,trivial⟩⟩⟩⟩⟩,fun a4=>⟨(),⟨?_,⟨⟨trivial,⟨rfl,⟨rfl,⟨trivial,⟨?_,trivial⟩⟩⟩⟩⟩,⟨⟨trivial,⟨rfl,⟨rfl,⟨rfl,trivial⟩⟩⟩⟩,⟨⟨rfl,⟨?_,⟨?_,trivial⟩⟩⟩,⟨⟨rfl,⟨rfl,⟨trivial,trivial⟩⟩⟩,trivial⟩⟩⟩⟩⟩⟩⟩⟩⟩,fun u2=>fun a2=>⟨⟨fun a3=>⟨(),⟨?_,⟨⟨trivial,⟨rfl,⟨rfl,⟨trivial,⟨?_,trivial⟩⟩⟩⟩⟩,⟨⟨trivial,⟨rfl,⟨rfl,⟨rfl,trivial⟩⟩⟩⟩,⟨⟨rfl,⟨rfl,⟨rfl,trivial⟩⟩⟩,⟨⟨rfl,⟨rfl,⟨trivial,trivial⟩⟩⟩,trivial⟩⟩⟩⟩⟩⟩,fun a3=>⟨(),⟨?_,⟨⟨trivial,⟨rfl,⟨rfl,⟨trivial,⟨?_,trivial⟩⟩⟩⟩⟩,⟨⟨trivial,⟨rfl,⟨rfl,⟨rfl,trivial⟩⟩⟩⟩,⟨⟨rfl,⟨rfl,⟨rfl,trivial⟩⟩⟩,⟨⟨rfl,⟨rfl,⟨trivial,trivial⟩⟩⟩,trivial⟩⟩⟩⟩⟩⟩⟩,fun u3=>fun a3=>⟨⟨fun a4=>⟨?_,⟨?_,⟨?_,⟨(),⟨?_,⟨⟨trivial,⟨rfl,⟨rfl,⟨trivial,⟨rfl,⟨trivial,trivial⟩⟩⟩⟩⟩⟩,⟨⟨trivial,⟨rfl,⟨rfl,⟨?_,trivial⟩⟩⟩⟩,⟨⟨rfl,⟨?_,⟨?_,trivial⟩⟩⟩,⟨⟨?_,⟨?_,⟨trivial,trivial⟩⟩⟩,⟨?_,⟨⟨rfl,⟨rfl,⟨trivial,trivial⟩⟩⟩,trivial⟩⟩⟩⟩⟩⟩⟩⟩⟩⟩⟩,fun a4=>⟨?_,⟨?_,⟨(),⟨?_,⟨⟨trivial,⟨rfl,⟨rfl,⟨trivial,⟨rfl,⟨trivial,trivial⟩⟩⟩⟩⟩⟩,⟨⟨trivial,⟨rfl,⟨rfl,⟨?_,trivial⟩⟩⟩⟩,⟨⟨rfl,⟨?_,⟨?_,trivial⟩⟩⟩,⟨⟨?_,⟨?_,⟨trivial,trivial⟩⟩⟩,⟨?_,⟨⟨rfl,⟨rfl,⟨trivial,trivial⟩⟩⟩,trivial⟩⟩⟩⟩⟩⟩⟩⟩⟩⟩⟩,fun u4 a4=>have b4x0:=hb1 a4.1.d;have b4x1:=(hb1 a4.1.d).l0;have b4x2:=(hb1 a4.1.d).l1;⟨⟨fun a5=>⟨?_,⟨?_,⟨?_,⟨(),⟨?_,⟨⟨trivial,⟨rfl,⟨trivial,⟨trivial,trivial⟩⟩⟩⟩,⟨⟨trivial,⟨rfl,⟨rfl,⟨?_,trivial⟩⟩⟩⟩,⟨⟨rfl,⟨?_,⟨?_,trivial⟩⟩⟩,⟨⟨?_,⟨?_,⟨trivial,trivial⟩⟩⟩,⟨?_,⟨⟨rfl,⟨rfl,⟨trivial,trivial⟩⟩⟩,⟨rfl,⟨⟨rfl,⟨rfl,⟨trivial,trivial⟩⟩⟩,trivial⟩⟩⟩⟩⟩⟩⟩⟩⟩⟩⟩⟩⟩,fun a5=>⟨?_,⟨?_,⟨(),⟨?_,⟨⟨trivial,⟨rfl,⟨trivial,⟨trivial,trivial⟩⟩⟩⟩,⟨⟨trivial,⟨rfl,⟨rfl,⟨?_,trivial⟩⟩⟩⟩,⟨⟨rfl,⟨?_,⟨?_,trivial⟩⟩⟩,⟨⟨?_,⟨?_,⟨trivial,trivial⟩⟩⟩,⟨?_,⟨⟨rfl,⟨rfl,⟨trivial,trivial⟩⟩⟩,⟨rfl,⟨⟨rfl,⟨rfl,⟨trivial,trivial⟩⟩⟩,trivial⟩⟩⟩⟩⟩⟩⟩⟩⟩⟩⟩⟩⟩,fun u5=>fun a5=>⟨?_,⟨⟨rfl,⟨rfl,?_⟩⟩,⟨⟨rfl,⟨?_,?_⟩⟩,trivial⟩⟩⟩⟩⟩⟩⟩⟩⟩⟩
 all_goals try and_intros
 all_goals try simp only[a0b.eta,a0a.eta,a2b,a2d] at *
 all_goals (try simp only[c8d,a0b.eta,decide_eq_true_eq,decide_eq_false_iff_not,Bool.not_true,Bool.not_false,a0d] at *);first|rfl|trivial|omega|with_reducible assumption|exact hs.mono (by omega)|exact (hs.next _).mono (by omega)|exact InG.mk (by omega) (by omega) (by assumption)|exact a0s.mono (GnB.s (by assumption)) (by omega)|exact a0s.mono (a0s.next (GnB.s (by assumption)) _) (by omega)|(rw[h0c code tn an deep left c _ (by omega)];rfl)|(rw[h0d code tn an deep left c _ (by omega) (by omega) (by assumption)];rfl)|(rw[h0e code tn an deep left c _ (by assumption) (by first|(left;assumption)|(right;exact⟨by assumption,by assumption⟩))];rfl)|(rw[h0f code tn an deep left c _ (by assumption) (h0k (by assumption) (by assumption)) (by assumption)];rfl)|(rw[g7q code tn an deep left c _ (And.left (show InG code deep left (Sr.mk pos seed)∧¬ gnK code (Sr.mk pos seed)<4 by assumption)) (And.right (show InG code deep left (Sr.mk pos seed)∧¬ gnK code (Sr.mk pos seed)<4 by assumption))];rfl)|(unfold gnX;first|rw[if_pos (by assumption)]|rw[if_neg (by assumption)])|(cases c<;>first|rfl|contradiction)|contradiction |(rw[g7q code tn an deep left c _ (And.left (show InG code deep left (Sr.mk pos seed)∧¬ gnK code (Sr.mk pos seed)<4 by assumption)) (And.right (show InG code deep left (Sr.mk pos seed)∧¬ gnK code (Sr.mk pos seed)<4 by assumption))])
theorem f9g:∀ n,a4p [a6k n]
 | 0=>⟨⟨a0j b1a rfl (by decide),fun _ _ _ _ _ _ _ _ h=>absurd h.1 (Nat.not_lt_zero _)⟩,trivial⟩
 | n+1=>by
  have ih:=f9g n
  exact⟨d7y n trivial ⟨b3p,trivial⟩ trivial ⟨a6d,a3u,d3z,ih.1,trivial⟩,trivial⟩
theorem d3y:SCt.Good b1c :=
 ⟨a0j b1a rfl (by decide),fun c deep tn an left code pos seed hp=>(f9g (deep.toNat+1)).1.2 c deep tn an left code pos seed (⟨Nat.lt_succ_self _,hp⟩)⟩
end
end Go.Proofs.Ytlaoejdeanljgaa

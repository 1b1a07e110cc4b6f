/- What is drawn: triples. Printed by vmk.py. -/
import Derived.Test.YthebhlkdppmefaaGreatVmUse
import Derived.Test.YthebhlkdppmefaaGreatVmLib
import Derived.Test.YthebhlkdppmefaaGreatVmGen4
import Derived.Test.YthebhlkdppmefaaGreatVmCond3
import Derived.Test.YthebhlkdppmefaaGreatVmFrom5
import Derived.Test.YthebhlkdppmefaaGreatVmUnder2
set_option linter.unusedVariables false
set_option linter.unusedSimpArgs false
set_option linter.unusedSectionVars false
set_option maxRecDepth 4000
set_option maxHeartbeats 4000000
namespace Go.Proofs.YthebhlkdppmefaaGreat
noncomputable section
theorem f7t:Ctr.Good a5p:=d3d.plain
def peF(k n:Int)(c:a0b)(es:List a0b):a0b :=
 if k=1 then a0b.mk 2 0 [] else if k=2 then a0b.mk 1 0 [] else if k=3 then a0b.mk 4 n [] else if k=4 then c else
 if k=5 then a0b.mk 7 0 [es.getD 0 zE,es.getD 1 zE] else
 if k=6 then a0b.mk 6 0 [a0b.mk 7 0 [c,es.getD 0 zE],a0b.mk 7 0 [a0b.mk 5 0 [c],es.getD 1 zE]] else
 a0b.mk 7 0 [a0b.mk 8 0 [a0b.mk 7 0 [c,es.getD 0 zE]],a0b.mk 5 0 [c]]
mutual
def peE:a0d→a0b
 | ⟨k,n,c,ks⟩=>peF k n c (h8d ks)
def h8d:List a0d→List a0b
 | []=>[]
 | x::xs=>peE x::h8d xs
end
theorem d6o(z:a0b)(z':a0d):∀ (xs:List a0d) (i:Nat),i<xs.length→(h8d xs).getD i z=peE (xs.getD i z')
 | [],i,h=>by simp at h
 | x::xs,0,_=>rfl
 | x::xs,i+1,h=>by simpa [h8d] using d6o z z' xs i (by simpa using h)
def prG(p:a0d):Prop:=∃ gg:a0h,a1i gg=true∧a2g gg p=true
structure PeF(p:a0d):Prop where
 k:1≤p.kind∧p.kind≤7
 l2:p.kind=5∨p.kind=6→p.kids.length=2
 l1:p.kind=7→p.kids.length=1
 c:p.kind=4∨p.kind=6∨p.kind=7→a2m p.cond≤1048576
 kid:∀ i,i<p.kids.length→prG (p.kids.getD i zP)∧msz (p.kids.getD i zP)<msz p
theorem i7t(p:a0d)(h:prG p):PeF p:=by
 obtain⟨gg,hs,h⟩:=h
 have h0:=h
 rw[a7g,b9g] at h
 simp only[Bool.and_eq_true,decide_eq_true_eq] at h
 obtain⟨⟨⟨h1,_⟩,h3⟩,h4⟩:=h
 refine⟨?_,fun q=>?_,fun q=>?_,fun q=>?_,fun i hi=>⟨⟨gg,hs,b8z (a2g gg) _ p.kids i hi h4⟩,Nat.lt_of_lt_of_le (a3d _ p.kids i hi) (by have:=b8x p;omega)⟩⟩
 ·unfold a1x at h1
  split at h1
  ·omega
  ·split at h1
   ·omega
   ·split at h1<;>omega
 ·rcases q with q|q<;>rw[q] at h1<;>simp[a1x] at h1<;>omega
 ·rw[q] at h1;simp[a1x] at h1;omega
 ·have:a3n p.kind=true:=by rcases q with q|q|q<;>rw[q]<;>rfl
  rw[c0o,if_pos this] at h3
  exact i5u gg _ h3
theorem i7m(p:a0d)(h:p.kind=1):peE p=a0b.mk 2 0 []:=by cases p;subst h;rfl
theorem i7n(p:a0d)(h:p.kind=2):peE p=a0b.mk 1 0 []:=by cases p;subst h;rfl
theorem i7o(p:a0d)(h:p.kind=3):peE p=a0b.mk 4 p.num []:=by cases p;subst h;rfl
theorem i7p(p:a0d)(h:p.kind=4):peE p=p.cond:=by cases p;subst h;rfl
theorem i7q(p:a0d)(h:p.kind=5)(hl:p.kids.length=2):peE p=a0b.mk 7 0 [peE (p.kids.getD 0 zP),peE (p.kids.getD 1 zP)]:=by
 rw[←d6o zE _ p.kids 0 (by omega),←d6o zE _ p.kids 1 (by omega)]
 cases p;subst h;rfl
theorem i7r(p:a0d)(h:p.kind=6)(hl:p.kids.length=2):peE p=a0b.mk 6 0 [a0b.mk 7 0 [p.cond,peE (p.kids.getD 0 zP)],a0b.mk 7 0 [a0b.mk 5 0 [p.cond],peE (p.kids.getD 1 zP)]]:=by
 rw[←d6o zE _ p.kids 0 (by omega),←d6o zE _ p.kids 1 (by omega)]
 cases p;subst h;rfl
theorem i7s(p:a0d)(h:p.kind=7)(hl:p.kids.length=1):peE p=a0b.mk 7 0 [a0b.mk 8 0 [a0b.mk 7 0 [p.cond,peE (p.kids.getD 0 zP)]],a0b.mk 5 0 [p.cond]]:=by
 rw[←d6o zE _ p.kids 0 (by omega)]
 cases p;subst h;rfl
def b6a(n:Nat):Ctr:=⟨c3q,[.r (.st .prog)],fun (p:a0d)=>⟨(some (msz p<n∧prG p),[⟨(.st .expr),peE p⟩])⟩⟩
def c3e:Ctr:=⟨c3q,[.r (.st .prog)],fun (p:a0d)=>⟨(some (prG p),[⟨(.st .expr),peE p⟩])⟩⟩
def e5g(p:a0d):Nat→a0p:=(fun zb=>if Nat.beq zb 100012 then .mk (Unit) (fun u=>p.kind=6∨p.kind=7) (fun u=>0) [] [1,4,5,6,7,8,9,10,11,12,13,14,15,16,17,18,19,20,21,22,23,24,25,26,27,28,29,30,31,32,33,34,35,36,37,38,39,40,41] (fun u=>[]) [0,2,3,42,43,44,45,46,47,48,49,50,51,52,53,54,55,56,57,58,59,60,61,62,63,64,65,66,67,68,69,70,71,72,73,74,75,76,77,78,79,80] (fun u=>[]) [] [] (fun u=>(fun zb=>if Nat.beq zb 100013 then .mk (Unit) (fun u=>p.kind=6∨p.kind=7) (fun u=>0) [] [1,4,5,6,7,8,9,10,11,12,13,14,15,16,17,18,19,20,21,22,23,24,25,26,27,28,29,30,31,32,33,34,35,36,37,38,39,40,41,42,43,44,45,46,47,48,49,50,51,52] (fun u=>[(3, .ptr 3 0)]) [0,2,53,54,55,56,57,58,59,60,61,62,63,64,65,66,67,68,69,70,71,72,73,74,75,76,77,78,79,80] (fun u=>[(3, .box [.imm ⟨(.int .i64),((7:Int):Int)⟩, .imm ⟨(.int .i64),((0:Int):Int)⟩, .imm ⟨(.slice (.st .expr)),([p.cond,peE (p.kids.getD 0 zP)]:List a0b)⟩])]) [] [] (fun u=>fun _ => .none) else .none)) else .none)
theorem g7p(n:Nat)(p:a0d):awp (a0r [b6a n,a2v,a6j,a4v,a5f,a7y] [] [] [73]) (a0j b2w) (e5g p) 0 (a1c (a0r [b6a n,a2v,a6j,a4v,a5f,a7y] [] [] [73]) b2w fun r=>a1f r [⟨(.st .expr),peE p⟩]) (a0m b2w [.ref ⟨(.st .prog),p⟩]) =
 (((a0c p.kind →
 (((decide (p.kind=(1:Int)))=true →
 (a0n (a0b.mk 2 0 []))=(peE p))∧((decide (p.kind=(1:Int)))=false →
 (((decide (p.kind=(2:Int)))=true →
 (a0n (a0b.mk 1 0 []))=(peE p))∧((decide (p.kind=(2:Int)))=false →
 (((decide (p.kind=(3:Int)))=true →
 (a0c p.num →
 (a0b.mk (4:Int) p.num [])=(peE p)))∧((decide (p.kind=(3:Int)))=false →
 (((decide (p.kind=(4:Int)))=true →
 (a2m p.cond≤1048576∧(a0n p.cond)=(peE p)))∧((decide (p.kind=(4:Int)))=false →
 (((decide (p.kind=(5:Int)))=true →
 (a0k (0:Int) p.kids.length∧((msz (p.kids.getD 0 zP)<n∧prG (p.kids.getD 0 zP))∧(a0k (1:Int) p.kids.length∧(p.kids.length≤140737488355328 →
 (p.kids.length≤140737488355328 →
 ((msz (p.kids.getD 1 zP)<n∧prG (p.kids.getD 1 zP))∧(a0n (a0b.mk (7:Int) 0 [(peE (p.kids.getD 0 zP)),(peE (p.kids.getD 1 zP))]))=(peE p))))))))∧((decide (p.kind=(5:Int)))=false →
 (∃ u1:Unit,((p.kind=6∨p.kind=7)∧((p=p∧(True∧True))∧(((0:Int)=(0:Int)∧((0:Int)=(0:Int)∧(True∧True)))∧True)))))))))))))))∧(∀ u1:Unit,((p.kind=6∨p.kind=7) →
 ((a2m p.cond≤1048576∧(a0k (0:Int) p.kids.length∧((msz (p.kids.getD 0 zP)<n∧prG (p.kids.getD 0 zP))∧(p.kids.length≤140737488355328 →
 (∃ u2:Unit,((p.kind=6∨p.kind=7)∧((p=p∧(True∧(True∧True)))∧(((a0b.mk (7:Int) 0 [p.cond,(peE (p.kids.getD 0 zP))]).kind=(7:Int)∧((a0b.mk (7:Int) 0 [p.cond,(peE (p.kids.getD 0 zP))]).num=(0:Int)∧((a0b.mk (7:Int) 0 [p.cond,(peE (p.kids.getD 0 zP))]).kids=([p.cond,peE (p.kids.getD 0 zP)])∧True)))∧(((0:Int)=(0:Int)∧((0:Int)=(0:Int)∧(True∧True)))∧True)))))))))∧(∀ u2:Unit,((p.kind=6∨p.kind=7) →
 (a0c p.kind →
 (((decide (p.kind=(6:Int)))=true →
 (a2m p.cond≤1048576∧(a0k (1:Int) p.kids.length∧((msz (p.kids.getD 1 zP)<n∧prG (p.kids.getD 1 zP))∧(p.kids.length≤140737488355328 →
 (a0n (a0b.mk (6:Int) 0 [(a0b.mk (7:Int) (0:Int) ([p.cond,peE (p.kids.getD 0 zP)])),(a0b.mk (7:Int) 0 [(a0b.mk 5 0 [p.cond]),(peE (p.kids.getD 1 zP))])]))=(peE p))))))∧((decide (p.kind=(6:Int)))=false →
 (a2m p.cond≤1048576∧(a0n (a0b.mk (7:Int) 0 [(a0b.mk (8:Int) (0:Int) ([(a0b.mk (7:Int) (0:Int) ([p.cond,peE (p.kids.getD 0 zP)]))])),(a0b.mk 5 0 [p.cond])]))=(peE p)))))))))))):=by kernel_rfl
theorem g5v(n:Nat)(hE:a0o [b6a n,a2v,a6j,a4v,a5f,a7y]):Ctr.Good (b6a (n+1)):=by
 refine⟨a0l c0x rfl (by decide),?_⟩
 show ∀ (p:a0d),(msz p<n+1∧prG p)→a1e prog c3q [.ref ⟨(.st .prog),p⟩] (·=[⟨(.st .expr),peE p⟩])
 intro p hp
 refine a0w (wr:=[]) (cl:=[]) (ro:=[73]) hE c0x f6u (e5g p) ?_
 rewrite [g7p n p]
 have F:=i7t p hp.2
 have F2:=F.kid
 have F3:=F.k
 have F4:=F.l2
 have F5:=F.l1
 have F6:=F.c
 refine⟨fun a0=>⟨fun a1=>?_,fun a1=>⟨fun a2=>?_,fun a2=>⟨fun a3=>fun a4=>?_,fun a3=>⟨fun a4=>⟨?_,?_⟩,fun a4=>⟨fun a5=>⟨?_,⟨?_,⟨?_,fun a6=>fun a7=>⟨?_,?_⟩⟩⟩⟩,fun a5=>⟨(),⟨?_,⟨⟨rfl,⟨trivial,trivial⟩⟩,⟨⟨rfl,⟨rfl,⟨trivial,trivial⟩⟩⟩,trivial⟩⟩⟩⟩⟩⟩⟩⟩⟩,fun u1=>fun a0=>⟨⟨?_,⟨?_,⟨?_,fun a1=>⟨(),⟨?_,⟨⟨rfl,⟨trivial,⟨trivial,trivial⟩⟩⟩,⟨⟨?_,⟨?_,⟨?_,trivial⟩⟩⟩,⟨⟨rfl,⟨rfl,⟨trivial,trivial⟩⟩⟩,trivial⟩⟩⟩⟩⟩⟩⟩⟩,fun u2=>fun a1=>fun a2=>⟨fun a3=>⟨?_,⟨?_,⟨?_,fun a4=>?_⟩⟩⟩,fun a3=>⟨?_,?_⟩⟩⟩⟩
 all_goals try and_intros
 all_goals try simp only[a0b.eta,a0d.eta,a1g.eta,a0e.eta,a2u,a2z,a2o,a2f] at *
 all_goals (try simp only[a0b.eta,a0d.eta,decide_eq_true_eq,decide_eq_false_iff_not,a0k] at *);first|rfl|trivial|omega|exact F6 (by omega)|exact (F2 _ (by omega)).1|(have q:=(F2 _ (show 0<p.kids.length by omega)).2;omega)|(have q:=(F2 _ (show 1<p.kids.length by omega)).2;omega)|(rw[i7m p (by omega)];done)|(rw[i7n p (by omega)];done)|(rw[i7o p (by omega)];done)|(rw[i7p p (by omega)];done)|(rw[i7q p (by omega) (by omega)];done)|(rw[i7r p (by omega) (by omega)];done)|(rw[i7s p (by omega) (by omega)];done)
theorem h6f :∀ n,a0o [b6a n]
 | 0=>⟨⟨a0l c0x rfl (by decide),fun _ h=>absurd h.1 (Nat.not_lt_zero _)⟩,trivial⟩
 | n+1=>by
  have ih:=h6f  n
  exact⟨g5v n ⟨ih.1,g1c,g1d,c4g,c5w,d4t,trivial⟩,trivial⟩
theorem f7p :Ctr.Good c3e :=
 ⟨a0l c0x rfl (by decide),fun p hp=>(h6f  (msz p+1)).1.2 p (⟨Nat.lt_succ_self _,hp⟩)⟩
def a2G(code:List Int):a0h:=dgG code (Sr.mk 0 0)
def a2A(code:List Int):Sr:=dgN code (Sr.mk 0 0)
def a2L(code:List Int):List a0e:=dpV code (a2G code) (a2A code)
def a2B(code:List Int):Sr:=dpN code (a2G code) (a2A code)
def a2R(code:List Int):Gp:=pgG code (a2G code).tests (a2G code).actions 5 (a2B code) 7
def a2P(code:List Int):a0d:=(a2R code).p
def a2C(code:List Int):Sr:=(a2R code).s
def a2c(code:List Int):a0b:=cdE code (a2G code).tests (a2G code).actions (a2C code)
def a2D(code:List Int):Sr:=cdN code (a2G code).tests (a2G code).actions (a2C code)
def a2d(code:List Int):a0b:=cdE code (a2G code).tests (a2G code).actions (a2D code)
def a2E(code:List Int):Sr:=cdN code (a2G code).tests (a2G code).actions (a2D code)
def a2K(code:List Int):Int:=pk code (a2E code) 3
def a2x(code:List Int):a0b:=if a2K code=0 then ofA (a2G code) (wkL (a0g (a0a (a2G code)) (a2L code) (a2P code)) (a2d code)) else a2c code
def a2y(code:List Int):a0b:=if a2K code=1 then ofA (a2G code) (a0x (a2G code) (a2L code) (a2P code) (atN (a2G code) (a2c code))) else a2d code
def a2O(code:List Int):Bool:=okT (a2G code) (a1g.mk (a2x code) (a2P code) (a2y code))&&okE (a2G code) (peE (a2P code))
def a2T(code:List Int):a1g:=if a2O code=true then a1g.mk (a2x code) (a2P code) (a2y code) else a1g.mk (a0b.mk 2 0 []) (a0d.mk 1 0 zE []) (a0b.mk 2 0 [])
theorem g2f(p:Nat→Bool):∀ n,n≤8→a0v (a4x 8) (a0y p n)=true
 | 0,_=>rfl
 | n+1,h=>by
  rw[a0y,d1u,g2f p n (by omega)]
  cases p n
  ·rfl
  ·simp only[cond_true,a0v,a4x,Bool.and_true,Bool.true_and,decide_eq_true_eq];omega
theorem h7g(code:List Int)(h:pk code (a2E code) 3=0):ofA (a2G code) (wkL (a0g (a0a (a2G code)) (a2L code) (a2P code)) (a2d code))=a2x code:=(if_pos h).symm
theorem h7f(code:List Int)(h:¬ pk code (a2E code) 3=0):a2c code=a2x code:=(if_neg h).symm
theorem h7i(code:List Int)(h:pk code (a2E code) 3=1):ofA (a2G code) (a0x (a2G code) (a2L code) (a2P code) (atN (a2G code) (a2c code)))=a2y code:=(if_pos h).symm
theorem h7h(code:List Int)(h:¬ pk code (a2E code) 3=1):a2d code=a2y code:=(if_neg h).symm
structure A2F(code:List Int):Prop where
 g:a1i (a2G code)=true
 t:0≤(a2G code).tests∧(a2G code).tests≤3
 s0:a0z code (Sr.mk 0 0) 800000000
 s1:a0z code (a2A code) 800000000
 s2:a0z code (a2B code) 800000000
 s3:a0z code (a2C code) 800000000
 s4:a0z code (a2D code) 800000000
 s5:a0z code (a2E code) 800000000
 prems:a1t (a2G code) (a2L code)=true
 okl:okL (a2G code) (a2L code) (a2P code)
 gc:a1k (a2c code)=true
 gd:a1k (a2d code)=true
 w1:a0v (a4x 8) (wkL (a0g (a0a (a2G code)) (a2L code) (a2P code)) (a2d code))=true
 w2:(wkL (a0g (a0a (a2G code)) (a2L code) (a2P code)) (a2d code)).length≤8
 v0:a3k (a0a (a2G code)) (atN (a2G code) (a2c code))
 v1:a0v (a4x 8) (a0x (a2G code) (a2L code) (a2P code) (atN (a2G code) (a2c code)))=true
 v2:(a0x (a2G code) (a2L code) (a2P code) (atN (a2G code) (a2c code))).length≤8
 pe:prG (a2P code)
theorem h7e(code:List Int)(hb:a8t code)(hl:code.length≤1000000):A2F code:=by
 have q0:a0z code (Sr.mk 0 0) 0:=⟨hb,by decide,by decide,hl,by decide,by decide⟩
 obtain⟨g,q1⟩:=i6o code (Sr.mk 0 0) 0 q0
 have g:a1i (a2G code)=true:=g
 have q1:a0z code (a2A code) (0+8):=q1
 have hg:=(a4l _).1 g
 obtain⟨pr,q2⟩:=i5n code (a2G code) (a2A code) _ g q1
 have pr:a1t (a2G code) (a2L code)=true:=pr
 have q2:a0z code (a2B code) (0+8+2000):=q2
 have rb:=e2u code _ _ hg.1 hg.2 5 (a2B code) _ 7 q2
 have w5:wG 5=63:=rfl
 have q3:a0z code (a2C code) (0+8+2000+300 * wG 5):=rb.sr
 have tr:a2g (a2G code) (a2P code)=true:=e6f code (a2G code) g 5 (a2B code) _ 7 q2
 have c1:=d1v code _ _ _ (a2C code) hg.1 hg.2 q3
 have c2:=d1v code _ _ _ (a2D code) hg.1 hg.2 c1.sr
 have hL:okL (a2G code) (a2L code) (a2P code):=⟨g,e8i _ _ pr,tr⟩
 have hn:=(a5w _ g).2
 have hs:=b6t (a2G code) (a0a (a2G code)) (a2L code) (a2P code) tr
 have hw:(a0g (a0a (a2G code)) (a2L code) (a2P code)).length≤8:=by have:=hs.len;omega
 have hv:=g8d (a2G code) (a2c code)
 have e:=e0l (a2G code) (a2L code) (a2P code) hL _ hv
 refine⟨g,hg.1,q0.mono (by decide),q1.mono (by decide),q2.mono (by decide),q3.mono (by omega),c1.sr.mono (by omega),c2.sr.mono (by omega),pr,hL,b9i _ _ g (c1.isC g),b9i _ _ g (c2.isC g),g2f _ _ hw,Nat.le_trans (a6b _ _) hw,hv,?_,?_,⟨_,g,tr⟩⟩
 ·rw[e];exact g2f _ _ (by omega)
 ·rw[e];exact Nat.le_trans (a6b _ _) (by omega)
theorem i6l(code:List Int)(h1:okT (a2G code) (a1g.mk (a2x code) (a2P code) (a2y code))=true)(h2:okE (a2G code) (peE (a2P code))=true):a1g.mk (a2x code) (a2P code) (a2y code)=a2T code:=by
 have:a2O code=true:=by rw[a2O,h1,h2];rfl
 rw[a2T,if_pos this]
theorem i6k(code:List Int)(h:okT (a2G code) (a1g.mk (a2x code) (a2P code) (a2y code))=false∨okE (a2G code) (peE (a2P code))=false):a1g.mk (a0b.mk 2 0 []) (a0d.mk 1 0 zE []) (a0b.mk 2 0 [])=a2T code:=by
 have:a2O code=false:=by rcases h with h|h<;>simp[a2O,h]
 rw[a2T,this];rfl
def b5u:Ctr:=⟨c8r,[.v (.slice (.int .u8))],fun (code:List Int)=>⟨(some (a8t code∧code.length≤1000000),[⟨(.st .sig),a2G code⟩,⟨(.slice (.st .premise)),a2L code⟩,⟨(.st .triple),a2T code⟩])⟩⟩
def e1d(code:List Int):Nat→a0p:=(fun zb=>if Nat.beq zb 100006 then .mk (Unit) (fun u=>True) (fun u=>0) [1800,2104,2105,2402,2802] [0,1,11,12,13,14,15,16,17,18,19,20,21,22,23,24,25,26,27,28] (fun u=>[(7, .imm ⟨(.slice (.st .premise)),(a2L code:List a0e)⟩),(9, .ptr 9 0)]) [2,3,4,5,6,7,10,29,30,31,32,33,34,35,36,37,38,39,40,41,42,43,44,45,46,47,48,49,50,51,52,53,54,55,56,57,58,59,60,61,62,63,64,65,66] (fun u=>[(8, .box [.imm ⟨(.int .i64),((a2P code).kind:Int)⟩, .imm ⟨(.int .i64),((a2P code).num:Int)⟩, .imm ⟨(.int .i64),((a2P code).cond.kind:Int)⟩, .imm ⟨(.int .i64),((a2P code).cond.num:Int)⟩, .imm ⟨(.slice (.st .expr)),((a2P code).cond.kids:List a0b)⟩, .imm ⟨(.slice (.st .prog)),((a2P code).kids:List a0d)⟩]),(9, .box [.imm ⟨(.int .i64),((a2c code).kind:Int)⟩, .imm ⟨(.int .i64),((a2c code).num:Int)⟩, .imm ⟨(.slice (.st .expr)),((a2c code).kids:List a0b)⟩, .imm ⟨(.int .i64),((a2P code).kind:Int)⟩, .imm ⟨(.int .i64),((a2P code).num:Int)⟩, .imm ⟨(.int .i64),((a2P code).cond.kind:Int)⟩, .imm ⟨(.int .i64),((a2P code).cond.num:Int)⟩, .imm ⟨(.slice (.st .expr)),((a2P code).cond.kids:List a0b)⟩, .imm ⟨(.slice (.st .prog)),((a2P code).kids:List a0d)⟩, .imm ⟨(.int .i64),((a2d code).kind:Int)⟩, .imm ⟨(.int .i64),((a2d code).num:Int)⟩, .imm ⟨(.slice (.st .expr)),((a2d code).kids:List a0b)⟩]),(12, .box [.imm ⟨(.slice (.int .u8)),(code:List Int)⟩, .imm ⟨(.int .i64),((a2E code).pos:Int)⟩, .imm ⟨(.int .u64),((a2E code).seed:Int)⟩])]) [] [] (fun u=>(fun zb=>if Nat.beq zb 100011 then .mk (Unit) (fun u=>True) (fun u=>0) [] [0,1,5,11,12,13,14,15,16,17,18,19,20,21,22,23,24,25,26,27,28,29,30,31,32,33,34,35,36,37,38,39,40,41,42,43,44,45,46,47,48,49,50] (fun u=>[]) [2,3,4,6,7,8,10,51,52,53,54,55,56,57,58,59,60,61,62,63,64,65,66] (fun u=>[(9, .box [.imm ⟨(.int .i64),((a2x code).kind:Int)⟩, .imm ⟨(.int .i64),((a2x code).num:Int)⟩, .imm ⟨(.slice (.st .expr)),((a2x code).kids:List a0b)⟩, .imm ⟨(.int .i64),((a2P code).kind:Int)⟩, .imm ⟨(.int .i64),((a2P code).num:Int)⟩, .imm ⟨(.int .i64),((a2P code).cond.kind:Int)⟩, .imm ⟨(.int .i64),((a2P code).cond.num:Int)⟩, .imm ⟨(.slice (.st .expr)),((a2P code).cond.kids:List a0b)⟩, .imm ⟨(.slice (.st .prog)),((a2P code).kids:List a0d)⟩, .imm ⟨(.int .i64),((a2y code).kind:Int)⟩, .imm ⟨(.int .i64),((a2y code).num:Int)⟩, .imm ⟨(.slice (.st .expr)),((a2y code).kids:List a0b)⟩]),(12, .box [.imm ⟨(.slice (.int .u8)),(code:List Int)⟩, .imm ⟨(.int .i64),((pkN code (a2E code) 3).pos:Int)⟩, .imm ⟨(.int .u64),((pkN code (a2E code) 3).seed:Int)⟩])]) [] [] (fun u=>(fun zb=>if Nat.beq zb 100014 then .mk (Unit) (fun u=>True) (fun u=>0) [] [0,1,5,8,10,11,12,13,14,15,16,17,18,19,20,21,22,23,24,25,26,27,28,29,30,31,32,33,34,35,36,37,38,39,40,41,42,43,44,45,46,47,48,49,50,51,52,53,54,55,56,57,58,59,60,61,62,63] (fun u=>[]) [2,3,4,6,7,8,12,64,65,66] (fun u=>[(9, .box [.imm ⟨(.int .i64),((a2T code).pre.kind:Int)⟩, .imm ⟨(.int .i64),((a2T code).pre.num:Int)⟩, .imm ⟨(.slice (.st .expr)),((a2T code).pre.kids:List a0b)⟩, .imm ⟨(.int .i64),((a2T code).prog.kind:Int)⟩, .imm ⟨(.int .i64),((a2T code).prog.num:Int)⟩, .imm ⟨(.int .i64),((a2T code).prog.cond.kind:Int)⟩, .imm ⟨(.int .i64),((a2T code).prog.cond.num:Int)⟩, .imm ⟨(.slice (.st .expr)),((a2T code).prog.cond.kids:List a0b)⟩, .imm ⟨(.slice (.st .prog)),((a2T code).prog.kids:List a0d)⟩, .imm ⟨(.int .i64),((a2T code).post.kind:Int)⟩, .imm ⟨(.int .i64),((a2T code).post.num:Int)⟩, .imm ⟨(.slice (.st .expr)),((a2T code).post.kids:List a0b)⟩])]) [] [] (fun u=>fun _ => .none) else .none)) else .none)) else .none)
abbrev b1o(code:List Int):Prop:=((dgG code (Sr.mk (0:Int) (0:Int))).tests=(dgG code (Sr.mk (0:Int) (0:Int))).tests∧((dgG code (Sr.mk (0:Int) (0:Int))).actions=(dgG code (Sr.mk (0:Int) (0:Int))).actions∧True))
abbrev c4l(code:List Int):Prop:=(((pgG code (dgG code (Sr.mk (0:Int) (0:Int))).tests (dgG code (Sr.mk (0:Int) (0:Int))).actions 5 (dpN code (dgG code (Sr.mk (0:Int) (0:Int))) (dgN code (Sr.mk (0:Int) (0:Int)))) (7:Int)).p).kind=((pgG code (dgG code (Sr.mk (0:Int) (0:Int))).tests (dgG code (Sr.mk (0:Int) (0:Int))).actions 5 (dpN code (dgG code (Sr.mk (0:Int) (0:Int))) (dgN code (Sr.mk (0:Int) (0:Int)))) (7:Int)).p).kind∧(((pgG code (dgG code (Sr.mk (0:Int) (0:Int))).tests (dgG code (Sr.mk (0:Int) (0:Int))).actions 5 (dpN code (dgG code (Sr.mk (0:Int) (0:Int))) (dgN code (Sr.mk (0:Int) (0:Int)))) (7:Int)).p).num=((pgG code (dgG code (Sr.mk (0:Int) (0:Int))).tests (dgG code (Sr.mk (0:Int) (0:Int))).actions 5 (dpN code (dgG code (Sr.mk (0:Int) (0:Int))) (dgN code (Sr.mk (0:Int) (0:Int)))) (7:Int)).p).num∧(((pgG code (dgG code (Sr.mk (0:Int) (0:Int))).tests (dgG code (Sr.mk (0:Int) (0:Int))).actions 5 (dpN code (dgG code (Sr.mk (0:Int) (0:Int))) (dgN code (Sr.mk (0:Int) (0:Int)))) (7:Int)).p).cond.kind=((pgG code (dgG code (Sr.mk (0:Int) (0:Int))).tests (dgG code (Sr.mk (0:Int) (0:Int))).actions 5 (dpN code (dgG code (Sr.mk (0:Int) (0:Int))) (dgN code (Sr.mk (0:Int) (0:Int)))) (7:Int)).p).cond.kind∧(((pgG code (dgG code (Sr.mk (0:Int) (0:Int))).tests (dgG code (Sr.mk (0:Int) (0:Int))).actions 5 (dpN code (dgG code (Sr.mk (0:Int) (0:Int))) (dgN code (Sr.mk (0:Int) (0:Int)))) (7:Int)).p).cond.num=((pgG code (dgG code (Sr.mk (0:Int) (0:Int))).tests (dgG code (Sr.mk (0:Int) (0:Int))).actions 5 (dpN code (dgG code (Sr.mk (0:Int) (0:Int))) (dgN code (Sr.mk (0:Int) (0:Int)))) (7:Int)).p).cond.num∧((2104:Nat)=2104∧((2105:Nat)=2105∧True))))))
abbrev d5d(code:List Int):Prop:=((b1o code)∧(((0:Int)=(0:Int)∧((0:Int)=(0:Int)∧(True∧((0:Int)=(0:Int)∧((0:Int)=(0:Int)∧((0:Int)=(0:Int)∧((0:Int)=(0:Int)∧(True∧(True∧((0:Int)=(0:Int)∧((0:Int)=(0:Int)∧(True∧True))))))))))))∧(((0:Int)=(0:Int)∧((0:Int)=(0:Int)∧True))∧True)))
abbrev d5e(code:List Int):Prop:=(((a2P code).kind)=((a2P code).kind)∧(((a2P code).num)=((a2P code).num)∧(((a2P code).cond.kind)=((a2P code).cond.kind)∧(((a2P code).cond.num)=((a2P code).cond.num)∧(((a2P code).cond.kids)=((a2P code).cond.kids)∧(((a2P code).kids)=((a2P code).kids)∧(((a2d code).kind)=((a2y code).kind)∧(((a2d code).num)=((a2y code).num)∧(((a2d code).kids)=((a2y code).kids)∧True)))))))))
abbrev d5f(code:List Int):Prop:=((((a2P code).kind)=((a2P code).kind)∧(((a2P code).num)=((a2P code).num)∧(((a2P code).cond.kind)=((a2P code).cond.kind)∧(((a2P code).cond.num)=((a2P code).cond.num)∧(((a2P code).cond.kids)=((a2P code).cond.kids)∧(((a2P code).kids)=((a2P code).kids)∧True))))))∧(d5d code))
abbrev c4m(code:List Int):Prop:=((code=code∧(((pkN code (a2E code) (3:Int)).pos)=((pkN code (a2E code) 3).pos)∧(((pkN code (a2E code) (3:Int)).seed)=((pkN code (a2E code) 3).seed)∧True)))∧(d5f code))
abbrev d5g(code:List Int):Prop:=((code=code∧(((pkN code (a2E code) 3).pos)=((pkN code (a2E code) 3).pos)∧(((pkN code (a2E code) 3).seed)=((pkN code (a2E code) 3).seed)∧True)))∧(d5f code))
abbrev d5h(code:List Int):Prop:=(∃ u3:Unit,(True∧((True∧(True∧(True∧(True∧((a2L code)=(a2L code)∧(True∧True))))))∧(((a0b.mk 2 0 []).kind=((a2T code).pre.kind)∧((a0b.mk 2 0 []).num=((a2T code).pre.num)∧((a0b.mk 2 0 []).kids=((a2T code).pre.kids)∧((a0d.mk 1 0 zE []).kind=((a2T code).prog.kind)∧((a0d.mk 1 0 zE []).num=((a2T code).prog.num)∧((a0d.mk 1 0 zE []).cond.kind=((a2T code).prog.cond.kind)∧((a0d.mk 1 0 zE []).cond.num=((a2T code).prog.cond.num)∧((a0d.mk 1 0 zE []).cond.kids=((a2T code).prog.cond.kids)∧((a0d.mk 1 0 zE []).kids=((a2T code).prog.kids)∧((a0b.mk 2 0 []).kind=((a2T code).post.kind)∧((a0b.mk 2 0 []).num=((a2T code).post.num)∧((a0b.mk 2 0 []).kids=((a2T code).post.kids)∧True))))))))))))∧(d5g code)))))
abbrev d5i(code:List Int):Prop:=(∃ u3:Unit,(True∧((True∧(True∧(True∧(True∧((a2L code)=(a2L code)∧(True∧True))))))∧((((a2x code).kind)=((a2T code).pre.kind)∧(((a2x code).num)=((a2T code).pre.num)∧(((a2x code).kids)=((a2T code).pre.kids)∧(((a2P code).kind)=((a2T code).prog.kind)∧(((a2P code).num)=((a2T code).prog.num)∧(((a2P code).cond.kind)=((a2T code).prog.cond.kind)∧(((a2P code).cond.num)=((a2T code).prog.cond.num)∧(((a2P code).cond.kids)=((a2T code).prog.cond.kids)∧(((a2P code).kids)=((a2T code).prog.kids)∧(((a2y code).kind)=((a2T code).post.kind)∧(((a2y code).num)=((a2T code).post.num)∧(((a2y code).kids)=((a2T code).post.kids)∧True))))))))))))∧(d5g code)))))
abbrev c4n(code:List Int):Prop:=(((a2T code).pre.kind)=((a2T code).pre.kind)∧(((a2T code).pre.num)=((a2T code).pre.num)∧(((a2T code).pre.kids)=((a2T code).pre.kids)∧(((a2T code).prog.kind)=((a2T code).prog.kind)∧(((a2T code).prog.num)=((a2T code).prog.num)∧(((a2T code).prog.cond.kind)=((a2T code).prog.cond.kind)∧(((a2T code).prog.cond.num)=((a2T code).prog.cond.num)∧(((a2T code).prog.cond.kids)=((a2T code).prog.cond.kids)∧(((a2T code).prog.kids)=((a2T code).prog.kids)∧(((a2T code).post.kind)=((a2T code).post.kind)∧(((a2T code).post.num)=((a2T code).post.num)∧(((a2T code).post.kids)=((a2T code).post.kids)∧True))))))))))))
theorem g2o(code:List Int):awp (a2s [b8j,c2a,b0a,b5v,c3e,b3s,b0n,a5f,a5p] [] [] [14,17,20,23,27,30] [] [] [] [b0s,a6o,b3x,a6r,a1j]) (a0j b1d) (e1d code) 0 (a1c (a2s [b8j,c2a,b0a,b5v,c3e,b3s,b0n,a5f,a5p] [] [] [14,17,20,23,27,30] [] [] [] [b0s,a6o,b3x,a6r,a1j]) b1d fun r=>a1f r [⟨(.st .sig),a2G code⟩,⟨(.slice (.st .premise)),a2L code⟩,⟨(.st .triple),a2T code⟩]) (a0m b1d [.val ⟨(.slice (.int .u8)),code⟩]) =
 ((a0z code (Sr.mk (0:Int) (0:Int)) 900000000∧((a0z code (dgN code (Sr.mk (0:Int) (0:Int))) 890000000∧a1i (dgG code (Sr.mk (0:Int) (0:Int)))=true)∧(((a0z code (dpN code (dgG code (Sr.mk (0:Int) (0:Int))) (dgN code (Sr.mk (0:Int) (0:Int)))) 890000000∧a1i (dgG code (Sr.mk (0:Int) (0:Int)))=true)∧0≤(7:Int)∧(7:Int)≤1000)∧((((12:Nat)=12∧(0:Nat)=0)∧((b1o code)∧((c4l code)∧(((12:Nat)=12∧(0:Nat)=0)∧((b1o code)∧((a0z code (Sr.mk ((pgG code (dgG code (Sr.mk (0:Int) (0:Int))).tests (dgG code (Sr.mk (0:Int) (0:Int))).actions 5 (dpN code (dgG code (Sr.mk (0:Int) (0:Int))) (dgN code (Sr.mk (0:Int) (0:Int)))) (7:Int)).s.pos) ((pgG code (dgG code (Sr.mk (0:Int) (0:Int))).tests (dgG code (Sr.mk (0:Int) (0:Int))).actions 5 (dpN code (dgG code (Sr.mk (0:Int) (0:Int))) (dgN code (Sr.mk (0:Int) (0:Int)))) (7:Int)).s.seed)) 960000000∧a1i (dgG code (Sr.mk (0:Int) (0:Int)))=true)∧((c4l code)∧(((12:Nat)=12∧(0:Nat)=0)∧((b1o code)∧((a0z code (cdN code (dgG code (Sr.mk (0:Int) (0:Int))).tests (dgG code (Sr.mk (0:Int) (0:Int))).actions (Sr.mk ((pgG code (dgG code (Sr.mk (0:Int) (0:Int))).tests (dgG code (Sr.mk (0:Int) (0:Int))).actions 5 (dpN code (dgG code (Sr.mk (0:Int) (0:Int))) (dgN code (Sr.mk (0:Int) (0:Int)))) (7:Int)).s.pos) ((pgG code (dgG code (Sr.mk (0:Int) (0:Int))).tests (dgG code (Sr.mk (0:Int) (0:Int))).actions 5 (dpN code (dgG code (Sr.mk (0:Int) (0:Int))) (dgN code (Sr.mk (0:Int) (0:Int)))) (7:Int)).s.seed))) 960000000∧a1i (dgG code (Sr.mk (0:Int) (0:Int)))=true)∧((c4l code)∧(∃ u1:Unit,(True∧((True∧(True∧(True∧(True∧(True∧((dpV code (dgG code (Sr.mk (0:Int) (0:Int))) (dgN code (Sr.mk (0:Int) (0:Int))))=(a2L code)∧(True∧(True∧True))))))))∧((((pgG code (dgG code (Sr.mk (0:Int) (0:Int))).tests (dgG code (Sr.mk (0:Int) (0:Int))).actions 5 (dpN code (dgG code (Sr.mk (0:Int) (0:Int))) (dgN code (Sr.mk (0:Int) (0:Int)))) (7:Int)).p).kind=((a2P code).kind)∧(((pgG code (dgG code (Sr.mk (0:Int) (0:Int))).tests (dgG code (Sr.mk (0:Int) (0:Int))).actions 5 (dpN code (dgG code (Sr.mk (0:Int) (0:Int))) (dgN code (Sr.mk (0:Int) (0:Int)))) (7:Int)).p).num=((a2P code).num)∧(((pgG code (dgG code (Sr.mk (0:Int) (0:Int))).tests (dgG code (Sr.mk (0:Int) (0:Int))).actions 5 (dpN code (dgG code (Sr.mk (0:Int) (0:Int))) (dgN code (Sr.mk (0:Int) (0:Int)))) (7:Int)).p).cond.kind=((a2P code).cond.kind)∧(((pgG code (dgG code (Sr.mk (0:Int) (0:Int))).tests (dgG code (Sr.mk (0:Int) (0:Int))).actions 5 (dpN code (dgG code (Sr.mk (0:Int) (0:Int))) (dgN code (Sr.mk (0:Int) (0:Int)))) (7:Int)).p).cond.num=((a2P code).cond.num)∧(((pgG code (dgG code (Sr.mk (0:Int) (0:Int))).tests (dgG code (Sr.mk (0:Int) (0:Int))).actions 5 (dpN code (dgG code (Sr.mk (0:Int) (0:Int))) (dgN code (Sr.mk (0:Int) (0:Int)))) (7:Int)).p).cond.kids=((a2P code).cond.kids)∧(((pgG code (dgG code (Sr.mk (0:Int) (0:Int))).tests (dgG code (Sr.mk (0:Int) (0:Int))).actions 5 (dpN code (dgG code (Sr.mk (0:Int) (0:Int))) (dgN code (Sr.mk (0:Int) (0:Int)))) (7:Int)).p).kids=((a2P code).kids)∧True))))))∧(((cdE code (dgG code (Sr.mk (0:Int) (0:Int))).tests (dgG code (Sr.mk (0:Int) (0:Int))).actions (Sr.mk ((pgG code (dgG code (Sr.mk (0:Int) (0:Int))).tests (dgG code (Sr.mk (0:Int) (0:Int))).actions 5 (dpN code (dgG code (Sr.mk (0:Int) (0:Int))) (dgN code (Sr.mk (0:Int) (0:Int)))) (7:Int)).s.pos) ((pgG code (dgG code (Sr.mk (0:Int) (0:Int))).tests (dgG code (Sr.mk (0:Int) (0:Int))).actions 5 (dpN code (dgG code (Sr.mk (0:Int) (0:Int))) (dgN code (Sr.mk (0:Int) (0:Int)))) (7:Int)).s.seed))).kind=((a2c code).kind)∧((cdE code (dgG code (Sr.mk (0:Int) (0:Int))).tests (dgG code (Sr.mk (0:Int) (0:Int))).actions (Sr.mk ((pgG code (dgG code (Sr.mk (0:Int) (0:Int))).tests (dgG code (Sr.mk (0:Int) (0:Int))).actions 5 (dpN code (dgG code (Sr.mk (0:Int) (0:Int))) (dgN code (Sr.mk (0:Int) (0:Int)))) (7:Int)).s.pos) ((pgG code (dgG code (Sr.mk (0:Int) (0:Int))).tests (dgG code (Sr.mk (0:Int) (0:Int))).actions 5 (dpN code (dgG code (Sr.mk (0:Int) (0:Int))) (dgN code (Sr.mk (0:Int) (0:Int)))) (7:Int)).s.seed))).num=((a2c code).num)∧((cdE code (dgG code (Sr.mk (0:Int) (0:Int))).tests (dgG code (Sr.mk (0:Int) (0:Int))).actions (Sr.mk ((pgG code (dgG code (Sr.mk (0:Int) (0:Int))).tests (dgG code (Sr.mk (0:Int) (0:Int))).actions 5 (dpN code (dgG code (Sr.mk (0:Int) (0:Int))) (dgN code (Sr.mk (0:Int) (0:Int)))) (7:Int)).s.pos) ((pgG code (dgG code (Sr.mk (0:Int) (0:Int))).tests (dgG code (Sr.mk (0:Int) (0:Int))).actions 5 (dpN code (dgG code (Sr.mk (0:Int) (0:Int))) (dgN code (Sr.mk (0:Int) (0:Int)))) (7:Int)).s.seed))).kids=((a2c code).kids)∧(((pgG code (dgG code (Sr.mk (0:Int) (0:Int))).tests (dgG code (Sr.mk (0:Int) (0:Int))).actions 5 (dpN code (dgG code (Sr.mk (0:Int) (0:Int))) (dgN code (Sr.mk (0:Int) (0:Int)))) (7:Int)).p).kind=((a2P code).kind)∧(((pgG code (dgG code (Sr.mk (0:Int) (0:Int))).tests (dgG code (Sr.mk (0:Int) (0:Int))).actions 5 (dpN code (dgG code (Sr.mk (0:Int) (0:Int))) (dgN code (Sr.mk (0:Int) (0:Int)))) (7:Int)).p).num=((a2P code).num)∧(((pgG code (dgG code (Sr.mk (0:Int) (0:Int))).tests (dgG code (Sr.mk (0:Int) (0:Int))).actions 5 (dpN code (dgG code (Sr.mk (0:Int) (0:Int))) (dgN code (Sr.mk (0:Int) (0:Int)))) (7:Int)).p).cond.kind=((a2P code).cond.kind)∧(((pgG code (dgG code (Sr.mk (0:Int) (0:Int))).tests (dgG code (Sr.mk (0:Int) (0:Int))).actions 5 (dpN code (dgG code (Sr.mk (0:Int) (0:Int))) (dgN code (Sr.mk (0:Int) (0:Int)))) (7:Int)).p).cond.num=((a2P code).cond.num)∧(((pgG code (dgG code (Sr.mk (0:Int) (0:Int))).tests (dgG code (Sr.mk (0:Int) (0:Int))).actions 5 (dpN code (dgG code (Sr.mk (0:Int) (0:Int))) (dgN code (Sr.mk (0:Int) (0:Int)))) (7:Int)).p).cond.kids=((a2P code).cond.kids)∧(((pgG code (dgG code (Sr.mk (0:Int) (0:Int))).tests (dgG code (Sr.mk (0:Int) (0:Int))).actions 5 (dpN code (dgG code (Sr.mk (0:Int) (0:Int))) (dgN code (Sr.mk (0:Int) (0:Int)))) (7:Int)).p).kids=((a2P code).kids)∧((cdE code (dgG code (Sr.mk (0:Int) (0:Int))).tests (dgG code (Sr.mk (0:Int) (0:Int))).actions (cdN code (dgG code (Sr.mk (0:Int) (0:Int))).tests (dgG code (Sr.mk (0:Int) (0:Int))).actions (Sr.mk ((pgG code (dgG code (Sr.mk (0:Int) (0:Int))).tests (dgG code (Sr.mk (0:Int) (0:Int))).actions 5 (dpN code (dgG code (Sr.mk (0:Int) (0:Int))) (dgN code (Sr.mk (0:Int) (0:Int)))) (7:Int)).s.pos) ((pgG code (dgG code (Sr.mk (0:Int) (0:Int))).tests (dgG code (Sr.mk (0:Int) (0:Int))).actions 5 (dpN code (dgG code (Sr.mk (0:Int) (0:Int))) (dgN code (Sr.mk (0:Int) (0:Int)))) (7:Int)).s.seed)))).kind=((a2d code).kind)∧((cdE code (dgG code (Sr.mk (0:Int) (0:Int))).tests (dgG code (Sr.mk (0:Int) (0:Int))).actions (cdN code (dgG code (Sr.mk (0:Int) (0:Int))).tests (dgG code (Sr.mk (0:Int) (0:Int))).actions (Sr.mk ((pgG code (dgG code (Sr.mk (0:Int) (0:Int))).tests (dgG code (Sr.mk (0:Int) (0:Int))).actions 5 (dpN code (dgG code (Sr.mk (0:Int) (0:Int))) (dgN code (Sr.mk (0:Int) (0:Int)))) (7:Int)).s.pos) ((pgG code (dgG code (Sr.mk (0:Int) (0:Int))).tests (dgG code (Sr.mk (0:Int) (0:Int))).actions 5 (dpN code (dgG code (Sr.mk (0:Int) (0:Int))) (dgN code (Sr.mk (0:Int) (0:Int)))) (7:Int)).s.seed)))).num=((a2d code).num)∧((cdE code (dgG code (Sr.mk (0:Int) (0:Int))).tests (dgG code (Sr.mk (0:Int) (0:Int))).actions (cdN code (dgG code (Sr.mk (0:Int) (0:Int))).tests (dgG code (Sr.mk (0:Int) (0:Int))).actions (Sr.mk ((pgG code (dgG code (Sr.mk (0:Int) (0:Int))).tests (dgG code (Sr.mk (0:Int) (0:Int))).actions 5 (dpN code (dgG code (Sr.mk (0:Int) (0:Int))) (dgN code (Sr.mk (0:Int) (0:Int)))) (7:Int)).s.pos) ((pgG code (dgG code (Sr.mk (0:Int) (0:Int))).tests (dgG code (Sr.mk (0:Int) (0:Int))).actions 5 (dpN code (dgG code (Sr.mk (0:Int) (0:Int))) (dgN code (Sr.mk (0:Int) (0:Int)))) (7:Int)).s.seed)))).kids=((a2d code).kids)∧True))))))))))))∧((code=code∧(((cdN code (dgG code (Sr.mk (0:Int) (0:Int))).tests (dgG code (Sr.mk (0:Int) (0:Int))).actions (cdN code (dgG code (Sr.mk (0:Int) (0:Int))).tests (dgG code (Sr.mk (0:Int) (0:Int))).actions (Sr.mk ((pgG code (dgG code (Sr.mk (0:Int) (0:Int))).tests (dgG code (Sr.mk (0:Int) (0:Int))).actions 5 (dpN code (dgG code (Sr.mk (0:Int) (0:Int))) (dgN code (Sr.mk (0:Int) (0:Int)))) (7:Int)).s.pos) ((pgG code (dgG code (Sr.mk (0:Int) (0:Int))).tests (dgG code (Sr.mk (0:Int) (0:Int))).actions 5 (dpN code (dgG code (Sr.mk (0:Int) (0:Int))) (dgN code (Sr.mk (0:Int) (0:Int)))) (7:Int)).s.seed)))).pos)=((a2E code).pos)∧(((cdN code (dgG code (Sr.mk (0:Int) (0:Int))).tests (dgG code (Sr.mk (0:Int) (0:Int))).actions (cdN code (dgG code (Sr.mk (0:Int) (0:Int))).tests (dgG code (Sr.mk (0:Int) (0:Int))).actions (Sr.mk ((pgG code (dgG code (Sr.mk (0:Int) (0:Int))).tests (dgG code (Sr.mk (0:Int) (0:Int))).actions 5 (dpN code (dgG code (Sr.mk (0:Int) (0:Int))) (dgN code (Sr.mk (0:Int) (0:Int)))) (7:Int)).s.pos) ((pgG code (dgG code (Sr.mk (0:Int) (0:Int))).tests (dgG code (Sr.mk (0:Int) (0:Int))).actions 5 (dpN code (dgG code (Sr.mk (0:Int) (0:Int))) (dgN code (Sr.mk (0:Int) (0:Int)))) (7:Int)).s.seed)))).seed)=((a2E code).seed)∧True)))∧(d5d code))))))))))))))))))∧(∀ u1:Unit,(True →
 (((a0z code (a2E code) 999999000∧(3:Int)≤1000000)∧(((decide ((pk code (a2E code) (3:Int))=(0:Int)))=true →
 ((okL (dgG code (Sr.mk (0:Int) (0:Int))) (a2L code) (a0d.mk ((a2P code).kind) ((a2P code).num) (a0b.mk ((a2P code).cond.kind) ((a2P code).cond.num) ((a2P code).cond.kids)) ((a2P code).kids))∧a1t (dgG code (Sr.mk (0:Int) (0:Int))) (a2L code)=true∧a1k (a0b.mk ((a2d code).kind) ((a2d code).num) ((a2d code).kids))=true)∧((wkL (a0g (a0a (dgG code (Sr.mk (0:Int) (0:Int)))) (a2L code) (a0d.mk ((a2P code).kind) ((a2P code).num) (a0b.mk ((a2P code).cond.kind) ((a2P code).cond.num) ((a2P code).cond.kids)) ((a2P code).kids))) (a0b.mk ((a2d code).kind) ((a2d code).num) ((a2d code).kids))).length≤140737488355328 →
 (((0≤(dgG code (Sr.mk (0:Int) (0:Int))).tests∧(dgG code (Sr.mk (0:Int) (0:Int))).tests≤3)∧a0v (a4x 8) (wkL (a0g (a0a (dgG code (Sr.mk (0:Int) (0:Int)))) (a2L code) (a0d.mk ((a2P code).kind) ((a2P code).num) (a0b.mk ((a2P code).cond.kind) ((a2P code).cond.num) ((a2P code).cond.kids)) ((a2P code).kids))) (a0b.mk ((a2d code).kind) ((a2d code).num) ((a2d code).kids)))=true∧(wkL (a0g (a0a (dgG code (Sr.mk (0:Int) (0:Int)))) (a2L code) (a0d.mk ((a2P code).kind) ((a2P code).num) (a0b.mk ((a2P code).cond.kind) ((a2P code).cond.num) ((a2P code).cond.kids)) ((a2P code).kids))) (a0b.mk ((a2d code).kind) ((a2d code).num) ((a2d code).kids))).length≤8)∧(∃ u2:Unit,(True∧((True∧(True∧(True∧(True∧((a2L code)=(a2L code)∧(True∧(True∧True)))))))∧(((ofA (dgG code (Sr.mk (0:Int) (0:Int))) (wkL (a0g (a0a (dgG code (Sr.mk (0:Int) (0:Int)))) (a2L code) (a0d.mk ((a2P code).kind) ((a2P code).num) (a0b.mk ((a2P code).cond.kind) ((a2P code).cond.num) ((a2P code).cond.kids)) ((a2P code).kids))) (a0b.mk ((a2d code).kind) ((a2d code).num) ((a2d code).kids)))).kind=((a2x code).kind)∧((ofA (dgG code (Sr.mk (0:Int) (0:Int))) (wkL (a0g (a0a (dgG code (Sr.mk (0:Int) (0:Int)))) (a2L code) (a0d.mk ((a2P code).kind) ((a2P code).num) (a0b.mk ((a2P code).cond.kind) ((a2P code).cond.num) ((a2P code).cond.kids)) ((a2P code).kids))) (a0b.mk ((a2d code).kind) ((a2d code).num) ((a2d code).kids)))).num=((a2x code).num)∧((ofA (dgG code (Sr.mk (0:Int) (0:Int))) (wkL (a0g (a0a (dgG code (Sr.mk (0:Int) (0:Int)))) (a2L code) (a0d.mk ((a2P code).kind) ((a2P code).num) (a0b.mk ((a2P code).cond.kind) ((a2P code).cond.num) ((a2P code).cond.kids)) ((a2P code).kids))) (a0b.mk ((a2d code).kind) ((a2d code).num) ((a2d code).kids)))).kids=((a2x code).kids)∧(d5e code))))∧(c4m code)))))))))∧((decide ((pk code (a2E code) (3:Int))=(0:Int)))=false →
 (((decide ((pk code (a2E code) (3:Int))=(1:Int)))=true →
 ((a1i (dgG code (Sr.mk (0:Int) (0:Int)))=true∧a1k (a0b.mk ((a2c code).kind) ((a2c code).num) ((a2c code).kids))=true)∧((okL (dgG code (Sr.mk (0:Int) (0:Int))) (a2L code) (a0d.mk ((a2P code).kind) ((a2P code).num) (a0b.mk ((a2P code).cond.kind) ((a2P code).cond.num) ((a2P code).cond.kids)) ((a2P code).kids))∧a1t (dgG code (Sr.mk (0:Int) (0:Int))) (a2L code)=true∧a3k (a0a (dgG code (Sr.mk (0:Int) (0:Int)))) (atN (dgG code (Sr.mk (0:Int) (0:Int))) (a0b.mk ((a2c code).kind) ((a2c code).num) ((a2c code).kids))))∧((atN (dgG code (Sr.mk (0:Int) (0:Int))) (a0b.mk ((a2c code).kind) ((a2c code).num) ((a2c code).kids))).length≤140737488355328 →
 ((a0x (dgG code (Sr.mk (0:Int) (0:Int))) (a2L code) (a0d.mk ((a2P code).kind) ((a2P code).num) (a0b.mk ((a2P code).cond.kind) ((a2P code).cond.num) ((a2P code).cond.kids)) ((a2P code).kids)) (atN (dgG code (Sr.mk (0:Int) (0:Int))) (a0b.mk ((a2c code).kind) ((a2c code).num) ((a2c code).kids)))).length≤140737488355328 →
 (((0≤(dgG code (Sr.mk (0:Int) (0:Int))).tests∧(dgG code (Sr.mk (0:Int) (0:Int))).tests≤3)∧a0v (a4x 8) (a0x (dgG code (Sr.mk (0:Int) (0:Int))) (a2L code) (a0d.mk ((a2P code).kind) ((a2P code).num) (a0b.mk ((a2P code).cond.kind) ((a2P code).cond.num) ((a2P code).cond.kids)) ((a2P code).kids)) (atN (dgG code (Sr.mk (0:Int) (0:Int))) (a0b.mk ((a2c code).kind) ((a2c code).num) ((a2c code).kids))))=true∧(a0x (dgG code (Sr.mk (0:Int) (0:Int))) (a2L code) (a0d.mk ((a2P code).kind) ((a2P code).num) (a0b.mk ((a2P code).cond.kind) ((a2P code).cond.num) ((a2P code).cond.kids)) ((a2P code).kids)) (atN (dgG code (Sr.mk (0:Int) (0:Int))) (a0b.mk ((a2c code).kind) ((a2c code).num) ((a2c code).kids)))).length≤8)∧(∃ u2:Unit,(True∧((True∧(True∧(True∧(True∧((a2L code)=(a2L code)∧(True∧(True∧True)))))))∧((((a2c code).kind)=((a2x code).kind)∧(((a2c code).num)=((a2x code).num)∧(((a2c code).kids)=((a2x code).kids)∧(((a2P code).kind)=((a2P code).kind)∧(((a2P code).num)=((a2P code).num)∧(((a2P code).cond.kind)=((a2P code).cond.kind)∧(((a2P code).cond.num)=((a2P code).cond.num)∧(((a2P code).cond.kids)=((a2P code).cond.kids)∧(((a2P code).kids)=((a2P code).kids)∧((ofA (dgG code (Sr.mk (0:Int) (0:Int))) (a0x (dgG code (Sr.mk (0:Int) (0:Int))) (a2L code) (a0d.mk ((a2P code).kind) ((a2P code).num) (a0b.mk ((a2P code).cond.kind) ((a2P code).cond.num) ((a2P code).cond.kids)) ((a2P code).kids)) (atN (dgG code (Sr.mk (0:Int) (0:Int))) (a0b.mk ((a2c code).kind) ((a2c code).num) ((a2c code).kids))))).kind=((a2y code).kind)∧((ofA (dgG code (Sr.mk (0:Int) (0:Int))) (a0x (dgG code (Sr.mk (0:Int) (0:Int))) (a2L code) (a0d.mk ((a2P code).kind) ((a2P code).num) (a0b.mk ((a2P code).cond.kind) ((a2P code).cond.num) ((a2P code).cond.kids)) ((a2P code).kids)) (atN (dgG code (Sr.mk (0:Int) (0:Int))) (a0b.mk ((a2c code).kind) ((a2c code).num) ((a2c code).kids))))).num=((a2y code).num)∧((ofA (dgG code (Sr.mk (0:Int) (0:Int))) (a0x (dgG code (Sr.mk (0:Int) (0:Int))) (a2L code) (a0d.mk ((a2P code).kind) ((a2P code).num) (a0b.mk ((a2P code).cond.kind) ((a2P code).cond.num) ((a2P code).cond.kids)) ((a2P code).kids)) (atN (dgG code (Sr.mk (0:Int) (0:Int))) (a0b.mk ((a2c code).kind) ((a2c code).num) ((a2c code).kids))))).kids=((a2y code).kids)∧True))))))))))))∧(c4m code)))))))))))∧((decide ((pk code (a2E code) (3:Int))=(1:Int)))=false →
 (∃ u2:Unit,(True∧((True∧(True∧(True∧(True∧((a2L code)=(a2L code)∧(True∧(True∧True)))))))∧((((a2c code).kind)=((a2x code).kind)∧(((a2c code).num)=((a2x code).num)∧(((a2c code).kids)=((a2x code).kids)∧(d5e code))))∧(c4m code))))))))))∧(∀ u2:Unit,(True →
 (prG (a0d.mk ((a2P code).kind) ((a2P code).num) (a0b.mk ((a2P code).cond.kind) ((a2P code).cond.num) ((a2P code).cond.kids)) ((a2P code).kids))∧((((!(okT (dgG code (Sr.mk (0:Int) (0:Int))) (a1g.mk (a0b.mk ((a2x code).kind) ((a2x code).num) ((a2x code).kids)) (a0d.mk ((a2P code).kind) ((a2P code).num) (a0b.mk ((a2P code).cond.kind) ((a2P code).cond.num) ((a2P code).cond.kids)) ((a2P code).kids)) (a0b.mk ((a2y code).kind) ((a2y code).num) ((a2y code).kids)))))=false →
 (((!(okE (dgG code (Sr.mk (0:Int) (0:Int))) (a0n (peE (a0d.mk ((a2P code).kind) ((a2P code).num) (a0b.mk ((a2P code).cond.kind) ((a2P code).cond.num) ((a2P code).cond.kids)) ((a2P code).kids))))))=true →
 (d5h code))∧((!(okE (dgG code (Sr.mk (0:Int) (0:Int))) (a0n (peE (a0d.mk ((a2P code).kind) ((a2P code).num) (a0b.mk ((a2P code).cond.kind) ((a2P code).cond.num) ((a2P code).cond.kids)) ((a2P code).kids))))))=false →
 (d5i code))))∧((!(okT (dgG code (Sr.mk (0:Int) (0:Int))) (a1g.mk (a0b.mk ((a2x code).kind) ((a2x code).num) ((a2x code).kids)) (a0d.mk ((a2P code).kind) ((a2P code).num) (a0b.mk ((a2P code).cond.kind) ((a2P code).cond.num) ((a2P code).cond.kids)) ((a2P code).kids)) (a0b.mk ((a2y code).kind) ((a2y code).num) ((a2y code).kids)))))=(!false) →
 ((true=true →
 (d5h code))∧(true=false →
 (d5i code)))))∧(∀ u3:Unit,(True →
 ((a2L code).length≤140737488355328 →
 ((b1o code)∧((a2L code)=(a2L code)∧((c4n code)∧((a2L code)=(a2L code)∧((c4n code)∧((c4n code)∧((dgG code (Sr.mk (0:Int) (0:Int)))=(a2G code)∧((a2L code)=(a2L code)∧(a1g.mk (a0b.mk ((a2T code).pre.kind) ((a2T code).pre.num) ((a2T code).pre.kids)) (a0d.mk ((a2T code).prog.kind) ((a2T code).prog.num) (a0b.mk ((a2T code).prog.cond.kind) ((a2T code).prog.cond.num) ((a2T code).prog.cond.kids)) ((a2T code).prog.kids)) (a0b.mk ((a2T code).post.kind) ((a2T code).post.num) ((a2T code).post.kids)))=(a2T code)))))))))))))))))))))))):=by kernel_rfl
theorem g1s(hE:a0o [b8j,c2a,b0a,b5v,c3e,b3s,b0n,a5f,a5p])(hO:a5c [])(hM:a5s [])(hS:a5d [b0s,a6o,b3x,a6r,a1j]):Ctr.Good b5u:=by
 refine⟨a0l d6z rfl (by decide),?_⟩
 show ∀ (code:List Int),(a8t code∧code.length≤1000000)→a1e prog c8r [.val ⟨(.slice (.int .u8)),code⟩] (·=[⟨(.st .sig),a2G code⟩,⟨(.slice (.st .premise)),a2L code⟩,⟨(.st .triple),a2T code⟩])
 intro code hp
 refine g5m (own:=[14,17,20,23,27,30]) (wr:=[]) (cl:=[]) (ro:=[]) hE hO hM hS d6z f2b (e1d code) ?_
 rewrite [g2o code]
 have F:=h7e code hp.1 hp.2
 refine⟨?_,⟨?_,⟨?_,⟨⟨⟨?_,?_⟩,⟨⟨rfl,⟨rfl,?_⟩⟩,⟨⟨rfl,⟨rfl,⟨rfl,⟨rfl,⟨?_,⟨?_,?_⟩⟩⟩⟩⟩⟩,⟨⟨?_,?_⟩,⟨⟨rfl,⟨rfl,?_⟩⟩,⟨?_,⟨⟨rfl,⟨rfl,⟨rfl,⟨rfl,⟨?_,⟨?_,?_⟩⟩⟩⟩⟩⟩,⟨⟨?_,?_⟩,⟨⟨rfl,⟨rfl,?_⟩⟩,⟨?_,⟨⟨rfl,⟨rfl,⟨rfl,⟨rfl,⟨?_,⟨?_,?_⟩⟩⟩⟩⟩⟩,⟨(),⟨?_,⟨⟨trivial,⟨trivial,⟨trivial,⟨trivial,⟨trivial,⟨?_,⟨trivial,⟨trivial,trivial⟩⟩⟩⟩⟩⟩⟩⟩,⟨⟨?_,⟨?_,⟨?_,⟨?_,⟨?_,⟨?_,trivial⟩⟩⟩⟩⟩⟩,⟨⟨?_,⟨?_,⟨?_,⟨?_,⟨?_,⟨?_,⟨?_,⟨?_,⟨?_,⟨?_,⟨?_,⟨?_,trivial⟩⟩⟩⟩⟩⟩⟩⟩⟩⟩⟩⟩,⟨⟨rfl,⟨?_,⟨?_,trivial⟩⟩⟩,⟨⟨rfl,⟨rfl,trivial⟩⟩,⟨⟨rfl,⟨rfl,⟨trivial,⟨rfl,⟨rfl,⟨rfl,⟨rfl,⟨trivial,⟨trivial,⟨rfl,⟨rfl,⟨trivial,trivial⟩⟩⟩⟩⟩⟩⟩⟩⟩⟩⟩⟩,⟨⟨rfl,⟨rfl,trivial⟩⟩,trivial⟩⟩⟩⟩⟩⟩⟩⟩⟩⟩⟩⟩⟩⟩⟩⟩⟩⟩⟩⟩,fun u1=>fun a0=>⟨⟨?_,⟨fun a1=>⟨?_,fun a2=>⟨?_,⟨(),⟨?_,⟨⟨trivial,⟨trivial,⟨trivial,⟨trivial,⟨rfl,⟨trivial,⟨trivial,trivial⟩⟩⟩⟩⟩⟩⟩,⟨⟨?_,⟨?_,⟨?_,⟨rfl,⟨rfl,⟨rfl,⟨rfl,⟨rfl,⟨rfl,⟨?_,⟨?_,⟨?_,trivial⟩⟩⟩⟩⟩⟩⟩⟩⟩⟩⟩⟩,⟨⟨rfl,⟨?_,⟨?_,trivial⟩⟩⟩,⟨⟨rfl,⟨rfl,⟨rfl,⟨rfl,⟨rfl,⟨rfl,trivial⟩⟩⟩⟩⟩⟩,⟨⟨rfl,⟨rfl,trivial⟩⟩,⟨⟨rfl,⟨rfl,⟨trivial,⟨rfl,⟨rfl,⟨rfl,⟨rfl,⟨trivial,⟨trivial,⟨rfl,⟨rfl,⟨trivial,trivial⟩⟩⟩⟩⟩⟩⟩⟩⟩⟩⟩⟩,⟨⟨rfl,⟨rfl,trivial⟩⟩,trivial⟩⟩⟩⟩⟩⟩⟩⟩⟩⟩⟩,fun a1=>⟨fun a2=>⟨?_,⟨?_,fun a3=>fun a4=>⟨?_,⟨(),⟨?_,⟨⟨trivial,⟨trivial,⟨trivial,⟨trivial,⟨rfl,⟨trivial,⟨trivial,trivial⟩⟩⟩⟩⟩⟩⟩,⟨⟨?_,⟨?_,⟨?_,⟨rfl,⟨rfl,⟨rfl,⟨rfl,⟨rfl,⟨rfl,⟨?_,⟨?_,⟨?_,trivial⟩⟩⟩⟩⟩⟩⟩⟩⟩⟩⟩⟩,⟨⟨rfl,⟨?_,⟨?_,trivial⟩⟩⟩,⟨⟨rfl,⟨rfl,⟨rfl,⟨rfl,⟨rfl,⟨rfl,trivial⟩⟩⟩⟩⟩⟩,⟨⟨rfl,⟨rfl,trivial⟩⟩,⟨⟨rfl,⟨rfl,⟨trivial,⟨rfl,⟨rfl,⟨rfl,⟨rfl,⟨trivial,⟨trivial,⟨rfl,⟨rfl,⟨trivial,trivial⟩⟩⟩⟩⟩⟩⟩⟩⟩⟩⟩⟩,⟨⟨rfl,⟨rfl,trivial⟩⟩,trivial⟩⟩⟩⟩⟩⟩⟩⟩⟩⟩⟩⟩,fun a2=>⟨(),⟨?_,⟨⟨trivial,⟨trivial,⟨trivial,⟨trivial,⟨rfl,⟨trivial,⟨trivial,trivial⟩⟩⟩⟩⟩⟩⟩,⟨⟨?_,⟨?_,⟨?_,⟨rfl,⟨rfl,⟨rfl,⟨rfl,⟨rfl,⟨rfl,⟨?_,⟨?_,⟨?_,trivial⟩⟩⟩⟩⟩⟩⟩⟩⟩⟩⟩⟩,⟨⟨rfl,⟨?_,⟨?_,trivial⟩⟩⟩,⟨⟨rfl,⟨rfl,⟨rfl,⟨rfl,⟨rfl,⟨rfl,trivial⟩⟩⟩⟩⟩⟩,⟨⟨rfl,⟨rfl,trivial⟩⟩,⟨⟨rfl,⟨rfl,⟨trivial,⟨rfl,⟨rfl,⟨rfl,⟨rfl,⟨trivial,⟨trivial,⟨rfl,⟨rfl,⟨trivial,trivial⟩⟩⟩⟩⟩⟩⟩⟩⟩⟩⟩⟩,⟨⟨rfl,⟨rfl,trivial⟩⟩,trivial⟩⟩⟩⟩⟩⟩⟩⟩⟩⟩⟩⟩,fun u2=>fun a1=>⟨?_,⟨⟨fun a2=>⟨fun a3=>⟨(),⟨?_,⟨⟨trivial,⟨trivial,⟨trivial,⟨trivial,⟨rfl,⟨trivial,trivial⟩⟩⟩⟩⟩⟩,⟨⟨?_,⟨?_,⟨?_,⟨?_,⟨?_,⟨?_,⟨?_,⟨?_,⟨?_,⟨?_,⟨?_,⟨?_,trivial⟩⟩⟩⟩⟩⟩⟩⟩⟩⟩⟩⟩,⟨⟨rfl,⟨rfl,⟨rfl,trivial⟩⟩⟩,⟨⟨rfl,⟨rfl,⟨rfl,⟨rfl,⟨rfl,⟨rfl,trivial⟩⟩⟩⟩⟩⟩,⟨⟨rfl,⟨rfl,trivial⟩⟩,⟨⟨rfl,⟨rfl,⟨trivial,⟨rfl,⟨rfl,⟨rfl,⟨rfl,⟨trivial,⟨trivial,⟨rfl,⟨rfl,⟨trivial,trivial⟩⟩⟩⟩⟩⟩⟩⟩⟩⟩⟩⟩,⟨⟨rfl,⟨rfl,trivial⟩⟩,trivial⟩⟩⟩⟩⟩⟩⟩⟩⟩,fun a3=>⟨(),⟨?_,⟨⟨trivial,⟨trivial,⟨trivial,⟨trivial,⟨rfl,⟨trivial,trivial⟩⟩⟩⟩⟩⟩,⟨⟨?_,⟨?_,⟨?_,⟨?_,⟨?_,⟨?_,⟨?_,⟨?_,⟨?_,⟨?_,⟨?_,⟨?_,trivial⟩⟩⟩⟩⟩⟩⟩⟩⟩⟩⟩⟩,⟨⟨rfl,⟨rfl,⟨rfl,trivial⟩⟩⟩,⟨⟨rfl,⟨rfl,⟨rfl,⟨rfl,⟨rfl,⟨rfl,trivial⟩⟩⟩⟩⟩⟩,⟨⟨rfl,⟨rfl,trivial⟩⟩,⟨⟨rfl,⟨rfl,⟨trivial,⟨rfl,⟨rfl,⟨rfl,⟨rfl,⟨trivial,⟨trivial,⟨rfl,⟨rfl,⟨trivial,trivial⟩⟩⟩⟩⟩⟩⟩⟩⟩⟩⟩⟩,⟨⟨rfl,⟨rfl,trivial⟩⟩,trivial⟩⟩⟩⟩⟩⟩⟩⟩⟩⟩,fun a2=>⟨fun a3=>⟨(),⟨?_,⟨⟨trivial,⟨trivial,⟨trivial,⟨trivial,⟨rfl,⟨trivial,trivial⟩⟩⟩⟩⟩⟩,⟨⟨?_,⟨?_,⟨?_,⟨?_,⟨?_,⟨?_,⟨?_,⟨?_,⟨?_,⟨?_,⟨?_,⟨?_,trivial⟩⟩⟩⟩⟩⟩⟩⟩⟩⟩⟩⟩,⟨⟨rfl,⟨rfl,⟨rfl,trivial⟩⟩⟩,⟨⟨rfl,⟨rfl,⟨rfl,⟨rfl,⟨rfl,⟨rfl,trivial⟩⟩⟩⟩⟩⟩,⟨⟨rfl,⟨rfl,trivial⟩⟩,⟨⟨rfl,⟨rfl,⟨trivial,⟨rfl,⟨rfl,⟨rfl,⟨rfl,⟨trivial,⟨trivial,⟨rfl,⟨rfl,⟨trivial,trivial⟩⟩⟩⟩⟩⟩⟩⟩⟩⟩⟩⟩,⟨⟨rfl,⟨rfl,trivial⟩⟩,trivial⟩⟩⟩⟩⟩⟩⟩⟩⟩,fun a3=>⟨(),⟨?_,⟨⟨trivial,⟨trivial,⟨trivial,⟨trivial,⟨rfl,⟨trivial,trivial⟩⟩⟩⟩⟩⟩,⟨⟨?_,⟨?_,⟨?_,⟨?_,⟨?_,⟨?_,⟨?_,⟨?_,⟨?_,⟨?_,⟨?_,⟨?_,trivial⟩⟩⟩⟩⟩⟩⟩⟩⟩⟩⟩⟩,⟨⟨rfl,⟨rfl,⟨rfl,trivial⟩⟩⟩,⟨⟨rfl,⟨rfl,⟨rfl,⟨rfl,⟨rfl,⟨rfl,trivial⟩⟩⟩⟩⟩⟩,⟨⟨rfl,⟨rfl,trivial⟩⟩,⟨⟨rfl,⟨rfl,⟨trivial,⟨rfl,⟨rfl,⟨rfl,⟨rfl,⟨trivial,⟨trivial,⟨rfl,⟨rfl,⟨trivial,trivial⟩⟩⟩⟩⟩⟩⟩⟩⟩⟩⟩⟩,⟨⟨rfl,⟨rfl,trivial⟩⟩,trivial⟩⟩⟩⟩⟩⟩⟩⟩⟩⟩⟩,fun u3=>fun a2=>fun a3=>⟨⟨rfl,⟨rfl,?_⟩⟩,⟨rfl,⟨⟨rfl,⟨rfl,⟨rfl,⟨rfl,⟨rfl,⟨rfl,⟨rfl,⟨rfl,⟨rfl,⟨rfl,⟨rfl,⟨rfl,?_⟩⟩⟩⟩⟩⟩⟩⟩⟩⟩⟩⟩,⟨rfl,⟨⟨rfl,⟨rfl,⟨rfl,⟨rfl,⟨rfl,⟨rfl,⟨rfl,⟨rfl,⟨rfl,⟨rfl,⟨rfl,⟨rfl,?_⟩⟩⟩⟩⟩⟩⟩⟩⟩⟩⟩⟩,⟨⟨rfl,⟨rfl,⟨rfl,⟨rfl,⟨rfl,⟨rfl,⟨rfl,⟨rfl,⟨rfl,⟨rfl,⟨rfl,⟨rfl,?_⟩⟩⟩⟩⟩⟩⟩⟩⟩⟩⟩⟩,⟨?_,⟨rfl,?_⟩⟩⟩⟩⟩⟩⟩⟩⟩⟩⟩⟩⟩⟩⟩
 all_goals try and_intros
 all_goals try simp only[a0b.eta,a0d.eta,a1g.eta,a0e.eta,a2u,a2z,a2o,a2f] at *
 all_goals (try simp only[d5p,a0b.eta,a0d.eta,a0e.eta,decide_eq_true_eq,decide_eq_false_iff_not,Bool.not_true,Bool.not_false,Bool.not_eq_true',Bool.not_eq_false'] at *);first|rfl|trivial|omega|exact congrArg a0b.kind (h7g code (by first|assumption|omega))|exact congrArg a0b.num (h7g code (by first|assumption|omega))|exact congrArg a0b.kids (h7g code (by first|assumption|omega))|exact congrArg a0b.kind (h7f code (by first|assumption|omega))|exact congrArg a0b.num (h7f code (by first|assumption|omega))|exact congrArg a0b.kids (h7f code (by first|assumption|omega))|exact congrArg a0b.kind (h7i code (by first|assumption|omega))|exact congrArg a0b.num (h7i code (by first|assumption|omega))|exact congrArg a0b.kids (h7i code (by first|assumption|omega))|exact congrArg a0b.kind (h7h code (by first|assumption|omega))|exact congrArg a0b.num (h7h code (by first|assumption|omega))|exact congrArg a0b.kids (h7h code (by first|assumption|omega))|exact F.g|exact F.t.1|exact F.t.2|exact F.okl|exact F.prems|exact F.gc|exact F.gd|exact F.w1|exact F.w2|exact F.v0|exact F.v1|exact F.v2|exact F.pe|exact F.s0.mono (by decide)|exact F.s1.mono (by decide)|exact F.s2.mono (by decide)|exact F.s3.mono (by decide)|exact F.s4.mono (by decide)|exact F.s5.mono (by decide)|(rw[←i6l code (by assumption) (by assumption)];done)|(rw[←i6k code (by first|(left;assumption)|(right;assumption))];done)
theorem f3c:Ctr.Good b5u:=g1s ⟨f7w,g4p,d4v,f3f,f7p,f1b,e0n,c5w,f7t,trivial⟩ trivial trivial ⟨e6i,d4g,f1k,d3f,a3w,trivial⟩
end
end Go.Proofs.YthebhlkdppmefaaGreat

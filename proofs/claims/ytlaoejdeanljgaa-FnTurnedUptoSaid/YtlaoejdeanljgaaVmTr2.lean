/- Tr, Tr2. -/
import Derived.Test.YtlaoejdeanljgaaVmUse
import Derived.Test.YtlaoejdeanljgaaVmLib
import Derived.Test.YtlaoejdeanljgaaVmSz
import Derived.Test.YtlaoejdeanljgaaVmSame
import Derived.Test.YtlaoejdeanljgaaVmProg
import Derived.Test.YtlaoejdeanljgaaVmBld3
set_option linter.unusedVariables false
set_option linter.unusedSimpArgs false
set_option linter.unusedSectionVars false
set_option maxRecDepth 4000
set_option maxHeartbeats 4000000
namespace Go.Proofs.Ytlaoejdeanljgaa
noncomputable section
def b5u(x:a0a):Bool:=decide (x.kind=5)&&decide ((x.kids.getD 1 zP).kind=7)
def b0l(p x:a0a):Bool:=decide (x.kind=7)&&eqB x.cond p.cond
def b5v(p x:a0a):Bool:=decide (x.kind=5)&&(decide ((x.kids.getD 0 zP).kind=4)&&eqB (x.kids.getD 0 zP).cond p.cond)
def a7c(p x y:a0a):Bool:=decide (x.kind=5)&&(decide (y.kind=1)&&(decide ((x.kids.getD 1 zP).kind=7)&&(eqB (x.kids.getD 1 zP).cond p.cond&&eqB ((x.kids.getD 1 zP).kids.getD 0 zP) (x.kids.getD 0 zP))))
def a8b(x y:a0a):Bool:=decide (x.kind=5)&&(decide (y.kind=5)&&eqB (x.kids.getD 1 zP) (y.kids.getD 1 zP))
def b2j(x y:a0a):Bool:=decide (x.kind=7)&&(decide (y.kind=6)&&eqB x.cond y.cond)
def wV(p x:a0a)(ru:Int):a0a:=bif decide (ru=1) then (a0a.mk 6 0 p.cond [(a0a.mk 5 0 zE [x,p]),(a0a.mk 1 0 zE [])]) else bif decide (ru=10)&&b5u x then (a0a.mk 6 0 p.cond [(a0a.mk 5 0 zE [(x.kids.getD 0 zP),(a0a.mk 7 0 (a0b.mk 6 0 [p.cond,(x.kids.getD 1 zP).cond]) [(a0a.mk 6 0 (x.kids.getD 1 zP).cond [((x.kids.getD 1 zP).kids.getD 0 zP),(x.kids.getD 0 zP)])])]),(a0a.mk 1 0 zE [])]) else bif decide (ru=11)&&b0l p x then x else bif decide (ru=14)&&b5v p x then (a0a.mk 7 0 p.cond [(x.kids.getD 1 zP)]) else zP
def wO(p x:a0a)(ru:Int):Bool:=bif decide (ru=1) then true else bif decide (ru=10)&&b5u x then true else bif decide (ru=11)&&b0l p x then true else bif decide (ru=14)&&b5v p x then true else false
def iV(p x y:a0a)(ru:Int):a0a:=bif decide (ru=2)&&a7c p x y then (x.kids.getD 1 zP) else bif decide (ru=3)&&eqB x y then x else bif decide (ru=4) then (a0a.mk 6 0 (a0b.mk 5 0 [p.cond]) [y,x]) else bif decide (ru=9)&&a8b x y then (a0a.mk 5 0 zE [(a0a.mk 6 0 p.cond [(x.kids.getD 0 zP),(y.kids.getD 0 zP)]),(x.kids.getD 1 zP)]) else zP
def iO(p x y:a0a)(ru:Int):Bool:=bif decide (ru=2)&&a7c p x y then true else bif decide (ru=3)&&eqB x y then true else bif decide (ru=4) then true else bif decide (ru=9)&&a8b x y then true else false
def sV(x y:a0a)(ru:Int):a0a:=bif decide (ru=5)&&decide (x.kind=5) then (a0a.mk 5 0 zE [(x.kids.getD 0 zP),(a0a.mk 5 0 zE [(x.kids.getD 1 zP),y])]) else bif decide (ru=6)&&decide (y.kind=5) then (a0a.mk 5 0 zE [(a0a.mk 5 0 zE [x,(y.kids.getD 0 zP)]),(y.kids.getD 1 zP)]) else bif decide (ru=7)&&decide (x.kind=1) then y else bif decide (ru=7)&&decide (y.kind=1) then x else bif decide (ru=8)&&decide (x.kind=6) then (a0a.mk 6 0 x.cond [(a0a.mk 5 0 zE [(x.kids.getD 0 zP),y]),(a0a.mk 5 0 zE [(x.kids.getD 1 zP),y])]) else bif decide (ru=12)&&decide (x.kind=4) then (a0a.mk 6 0 x.cond [y,(a0a.mk 2 0 zE [])]) else bif decide (ru=13)&&b2j x y then (a0a.mk 5 0 zE [x,(y.kids.getD 1 zP)]) else zP
def sO(x y:a0a)(ru:Int):Bool:=bif decide (ru=5)&&decide (x.kind=5) then true else bif decide (ru=6)&&decide (y.kind=5) then true else bif decide (ru=7)&&decide (x.kind=1) then true else bif decide (ru=7)&&decide (y.kind=1) then true else bif decide (ru=8)&&decide (x.kind=6) then true else bif decide (ru=12)&&decide (x.kind=4) then true else bif decide (ru=13)&&b2j x y then true else false
def rwV(p:a0a)(ru:Int):a0a:=bif decide (p.kind=7) then wV p (p.kids.getD 0 zP) ru else bif decide (p.kind=6) then iV p (p.kids.getD 0 zP) (p.kids.getD 1 zP) ru else bif decide (p.kind=5) then sV (p.kids.getD 0 zP) (p.kids.getD 1 zP) ru else zP
def rwO(p:a0a)(ru:Int):Bool:=bif decide (p.kind=7) then wO p (p.kids.getD 0 zP) ru else bif decide (p.kind=6) then iO p (p.kids.getD 0 zP) (p.kids.getD 1 zP) ru else bif decide (p.kind=5) then sO (p.kids.getD 0 zP) (p.kids.getD 1 zP) ru else false
structure prT(p:a0a):Prop where
 tr:∃ gg:a0l,a1d gg p=true
 sz:a0e p≤100000
structure TrN(p:a0a):Prop where
 l2:p.kind=5∨p.kind=6→p.kids.length=2
 l1:p.kind=7→p.kids.length=1
 sz:a0e p≤100000
 sc:a0q p.cond≤100000
 skip:decide (p.kind=1)=eqB p (a0a.mk 1 0 zE [])
 loop:∀ c z,eqB p (a0a.mk 7 0 c [z])=(decide (p.kind=7)&&(eqB p.cond c&&eqB (p.kids.getD 0 zP) z))
 kid:∀ i,i<p.kids.length→prT (p.kids.getD i zP)
theorem d3e(x:a0b):a4o x=true↔x=zE:=by
 cases x with
 | mk k n ks=>simp[a4o,and_assoc]
theorem a5c(p:a0a)(h:prT p):TrN p:=by
 obtain⟨⟨gg,h⟩,hz⟩:=h
 rw[b8s,c0w] at h
 simp only[Bool.and_eq_true,decide_eq_true_eq] at h
 obtain⟨⟨⟨h1,h2⟩,h3⟩,h4⟩:=h
 have hs:=c3l p
 refine⟨fun q=>?_,fun q=>?_,hz,by omega,?_,fun c z=>?_,fun i hi=>⟨⟨gg,d6y (a1d gg) _ p.kids i hi h4⟩,?_⟩⟩
 ·rcases q with q|q<;>rw[q] at h1<;>simp[a1r] at h1<;>omega
 ·rw[q] at h1;simp[a1r] at h1;omega
 ·refine Bool.eq_iff_iff.2 ?_
  rw[decide_eq_true_eq,b1j]
  constructor
  ·intro q
   rw[q] at h1
   have hk:p.kids=[]:=by simp[a1r] at h1;exact List.eq_nil_of_length_eq_zero (by omega)
   have hc:p.cond=zE:=by rw[a8t,q] at h3;exact (d3e _).1 (by simpa [a2s] using h3)
   have hn:p.num=0:=by rw[a8u,q] at h2;simpa using h2
   cases p;simp_all
  ·intro q;rw[q]
 ·refine Bool.eq_iff_iff.2 ?_
  simp only[Bool.and_eq_true,decide_eq_true_eq,b1j]
  constructor
  ·intro q;rw[q];exact⟨rfl,rfl,rfl⟩
  ·rintro⟨q1,q2,q3⟩
   rw[q1] at h1
   have hl:p.kids.length=1:=by simp[a1r] at h1;omega
   have hn:p.num=0:=by rw[a8u,q1] at h2;simpa using h2
   cases p with
   | mk k n c' ks =>
    match ks,hl with
    | [a],_ =>
     simp at q1 q2 q3 hn
     subst q1 q2 q3 hn
     rfl
 ·have:=c1h a0e zP p.kids i hi
  omega
theorem e8f{α:Type}(x y:α):eqB x y=eqB y x:=Bool.eq_iff_iff.2 (by rw[b1j,b1j];exact eq_comm)
def a4v:Ctr:=⟨d1a,[.r (.st .prog), .v (.int .i64)],fun (p:a0a) (k:Int)=>⟨(none,[⟨.bool,decide (p.kind=k)⟩])⟩⟩
def e2u(p:a0a)(k:Int):Nat→a0t:=fun _ => .none
theorem f8n(p:a0a)(k:Int):awp (a0x []) (a0i b4o) (e2u p k) 0 (a1h (a0x []) b4o fun r=>a1e r [⟨.bool,decide (p.kind=k)⟩]) (a0r b4o [.ref ⟨(.st .prog),p⟩, .val ⟨(.int .i64),k⟩]) =
 ((a0d p.kind →
 (decide (p.kind=k))=(decide (p.kind=k)))):=by kernel_rfl
theorem f8g(hE:a0p []):Ctr.Good a4v:=by
 refine⟨a0j d8u rfl (by decide),?_⟩
 show ∀ (p:a0a) (k:Int),True→a1f prog d1a [.ref ⟨(.st .prog),p⟩, .val ⟨(.int .i64),k⟩] (·=[⟨.bool,decide (p.kind=k)⟩])
 intro p k _
 refine a0z (wr:=[]) (cl:=[]) (ro:=[]) hE d8u f1f (e2u p k) ?_
 rewrite [f8n p k]
 refine fun a0=>?_
 all_goals try and_intros
 all_goals first|rfl|trivial|omega|(simp only[decide_eq_true_eq,decide_eq_false_iff_not,a0h,a0d,a2j,a4q,a4a,a2p] at *;omega)|(simp[a0h,a0d] at *;omega)|grind
theorem c2s:Ctr.Good a4v:=f8g trivial
def b2u:Ctr:=⟨d7s,[.v (.st .prog), .v (.st .prog)],fun (p:a0a) (q:a0a)=>⟨(none,[⟨(.st .prog),a0a.mk 5 0 zE [p,q]⟩])⟩⟩
def f1u(p:a0a)(q:a0a):Nat→a0t:=fun _ => .none
theorem g1n(p:a0a)(q:a0a):awp (a0x [] [] [] [2,3]) (a0i b8y) (f1u p q) 0 (a1h (a0x [] [] [] [2,3]) b8y fun r=>a1e r [⟨(.st .prog),a0a.mk 5 0 zE [p,q]⟩]) (a0r b8y [.val ⟨(.st .prog),p⟩, .val ⟨(.st .prog),q⟩]) =
 ((a0a.mk (5:Int) (0:Int) zE ([p,q]))=(a0a.mk 5 0 zE [p,q])):=by kernel_rfl
theorem g1g(hE:a0p []):Ctr.Good b2u:=by
 refine⟨a0j e6n rfl (by decide),?_⟩
 show ∀ (p:a0a) (q:a0a),True→a1f prog d7s [.val ⟨(.st .prog),p⟩, .val ⟨(.st .prog),q⟩] (·=[⟨(.st .prog),a0a.mk 5 0 zE [p,q]⟩])
 intro p q _
 refine a0z (wr:=[]) (cl:=[]) (ro:=[2,3]) hE e6n f8c (f1u p q) ?_
 rewrite [g1n p q]
 refine ?_
 all_goals try and_intros
 all_goals first|rfl|trivial|omega|(simp only[decide_eq_true_eq,decide_eq_false_iff_not,a0h,a0d,a2j,a4q,a4a,a2p] at *;omega)|(simp[a0h,a0d] at *;omega)|grind
theorem d9a:Ctr.Good b2u:=g1g trivial
def a6v:Ctr:=⟨c6p,[.v (.st .expr), .v (.st .prog), .v (.st .prog)],fun (c:a0b) (p:a0a) (q:a0a)=>⟨(none,[⟨(.st .prog),a0a.mk 6 0 c [p,q]⟩])⟩⟩
def d9b(c:a0b)(p:a0a)(q:a0a):Nat→a0t:=fun _ => .none
theorem f5u(c:a0b)(p:a0a)(q:a0a):awp (a0x [] [] [] [3,4,5]) (a0i b1k) (d9b c p q) 0 (a1h (a0x [] [] [] [3,4,5]) b1k fun r=>a1e r [⟨(.st .prog),a0a.mk 6 0 c [p,q]⟩]) (a0r b1k [.val ⟨(.st .expr),c⟩, .val ⟨(.st .prog),p⟩, .val ⟨(.st .prog),q⟩]) =
 ((a0a.mk (6:Int) (0:Int) (a0w c) ([p,q]))=(a0a.mk 6 0 c [p,q])):=by kernel_rfl
theorem f4z(hE:a0p []):Ctr.Good a6v:=by
 refine⟨a0j d4c rfl (by decide),?_⟩
 show ∀ (c:a0b) (p:a0a) (q:a0a),True→a1f prog c6p [.val ⟨(.st .expr),c⟩, .val ⟨(.st .prog),p⟩, .val ⟨(.st .prog),q⟩] (·=[⟨(.st .prog),a0a.mk 6 0 c [p,q]⟩])
 intro c p q _
 refine a0z (wr:=[]) (cl:=[]) (ro:=[3,4,5]) hE d4c e7j (d9b c p q) ?_
 rewrite [f5u c p q]
 refine ?_
 all_goals try and_intros
 all_goals try simp only[a0b.eta,a0a.eta,a2b,a2d] at *
 all_goals first|rfl|trivial|omega|(simp only[decide_eq_true_eq,decide_eq_false_iff_not,a0h,a0d,a2j,a4q,a4a,a2p] at *;omega)|(simp[a0h,a0d] at *;omega)|grind
theorem c9x:Ctr.Good a6v:=f4z trivial
def a9p:Ctr:=⟨d3u,[.v (.st .expr), .v (.st .prog)],fun (c:a0b) (p:a0a)=>⟨(none,[⟨(.st .prog),a0a.mk 7 0 c [p]⟩])⟩⟩
def e6v(c:a0b)(p:a0a):Nat→a0t:=fun _ => .none
theorem g0y(c:a0b)(p:a0a):awp (a0x [] [] [] [2,3]) (a0i b6t) (e6v c p) 0 (a1h (a0x [] [] [] [2,3]) b6t fun r=>a1e r [⟨(.st .prog),a0a.mk 7 0 c [p]⟩]) (a0r b6t [.val ⟨(.st .expr),c⟩, .val ⟨(.st .prog),p⟩]) =
 ((a0a.mk (7:Int) (0:Int) (a0w c) ([p]))=(a0a.mk 7 0 c [p])):=by kernel_rfl
theorem g0j(hE:a0p []):Ctr.Good a9p:=by
 refine⟨a0j e0w rfl (by decide),?_⟩
 show ∀ (c:a0b) (p:a0a),True→a1f prog d3u [.val ⟨(.st .expr),c⟩, .val ⟨(.st .prog),p⟩] (·=[⟨(.st .prog),a0a.mk 7 0 c [p]⟩])
 intro c p _
 refine a0z (wr:=[]) (cl:=[]) (ro:=[2,3]) hE e0w f4m (e6v c p) ?_
 rewrite [g0y c p]
 refine ?_
 all_goals try and_intros
 all_goals try simp only[a0b.eta,a0a.eta,a2b,a2d] at *
 all_goals first|rfl|trivial|omega|(simp only[decide_eq_true_eq,decide_eq_false_iff_not,a0h,a0d,a2j,a4q,a4a,a2p] at *;omega)|(simp[a0h,a0d] at *;omega)|grind
theorem d5f:Ctr.Good a9p:=g0j trivial
def a9q:Ctr:=⟨d3v,[.v (.int .i64), .v (.slice (.st .expr))],fun (k:Int) (ks:List a0b)=>⟨(none,[⟨(.st .expr),a0b.mk k 0 ks⟩])⟩⟩
def e6w(k:Int)(ks:List a0b):Nat→a0t:=fun _ => .none
theorem g0z(k:Int)(ks:List a0b):awp (a0x []) (a0i b6u) (e6w k ks) 0 (a1h (a0x []) b6u fun r=>a1e r [⟨(.st .expr),a0b.mk k 0 ks⟩]) (a0r b6u [.val ⟨(.int .i64),k⟩, .val ⟨(.slice (.st .expr)),ks⟩]) =
 ((a0b.mk k (0:Int) ks)=(a0b.mk k 0 ks)):=by kernel_rfl
theorem g0k(hE:a0p []):Ctr.Good a9q:=by
 refine⟨a0j e0x rfl (by decide),?_⟩
 show ∀ (k:Int) (ks:List a0b),True→a1f prog d3v [.val ⟨(.int .i64),k⟩, .val ⟨(.slice (.st .expr)),ks⟩] (·=[⟨(.st .expr),a0b.mk k 0 ks⟩])
 intro k ks _
 refine a0z (wr:=[]) (cl:=[]) (ro:=[]) hE e0x f4n (e6w k ks) ?_
 rewrite [g0z k ks]
 refine ?_
 all_goals try and_intros
 all_goals first|rfl|trivial|omega|(simp only[decide_eq_true_eq,decide_eq_false_iff_not,a0h,a0d,a2j,a4q,a4a,a2p] at *;omega)|(simp[a0h,a0d] at *;omega)|grind
theorem d5g:Ctr.Good a9q:=g0k trivial
def b2s:Ctr:=⟨c2y,[.v (.st .prog), .v (.st .prog), .v (.int .i64)],fun (p:a0a) (x:a0a) (ru:Int)=>⟨(some (prT p∧prT x),[⟨(.st .prog),wV p x ru⟩,⟨.bool,wO p x ru⟩])⟩⟩
def d2n(p:a0a)(x:a0a)(ru:Int):Nat→a0t:=(fun zb=>if Nat.beq zb 100005 then .mk (Unit) (fun u=>True) (fun u=>0) [] [0,1,5,12,13,14,15,16,17,18,19,20,21,22,24,25,26,27,28,29,30,31,32,33,34,35,36,37,38] (fun u=>[(23, .imm ⟨.bool,((decide (ru=10)&&b5u x):Bool)⟩)]) [2,3,4,6,7,8,9,10,11,23,39,40,41,42,43,44,45,46,47,48,49,50,51,52,53,54,55,56,57,58,59,60,61,62,63,64,65,66,67,68,69,70,71,72,73,74,75,76,77,78,79,80,81,82,83,84,85,86,87,88,89,90,91,92,93,94,95,96,97,98,99,100,101,102,103,104,105,106,107,108,109,110,111,112,113,114,115,116,117,118] (fun u=>[]) [] [] (fun u=>(fun zb=>if Nat.beq zb 100009 then .mk (Unit) (fun u=>True) (fun u=>0) [] [0,1,5,8,9,10,11,12,13,14,15,16,17,18,19,20,21,22,23,24,25,26,27,28,29,30,31,32,33,34,35,36,37,38,39,40,41,42,43,44,45,46,47,48,49,50,51,52,53,54,55,56,57,58,59,60,61,62,63,64,65,66,67,68,70,71,72,73,74,75,76,77,78,79,80,81,82,83] (fun u=>[(69, .imm ⟨.bool,((decide (ru=11)&&b0l p x):Bool)⟩)]) [2,3,4,6,7,69,84,85,86,87,88,89,90,91,92,93,94,95,96,97,98,99,100,101,102,103,104,105,106,107,108,109,110,111,112,113,114,115,116,117,118] (fun u=>[]) [] [] (fun u=>(fun zb=>if Nat.beq zb 100011 then .mk (Unit) (fun u=>True) (fun u=>0) [] [0,1,2,5,8,9,10,11,12,13,14,15,16,17,18,19,20,21,22,23,24,25,26,27,28,29,30,31,32,33,34,35,36,37,38,39,40,41,42,43,44,45,46,47,48,49,50,51,52,53,54,55,56,57,58,59,60,61,62,63,64,65,66,67,68,69,70,71,72,73,74,75,76,77,78,79,80,81,82,83,84,86,87,88,89,90,91,92,93,94,95,96,97,98,99,100,101,102,103,104,105,106,107,108,109,110] (fun u=>[(85, .imm ⟨.bool,((decide (ru=14)&&b5v p x):Bool)⟩)]) [3,4,6,7,85,111,112,113,114,115,116,117,118] (fun u=>[]) [] [] (fun u=>fun _ => .none) else .none)) else .none)) else .none)
abbrev c7m :Prop:=(((1:Int)=(1:Int)∧((0:Int)=(0:Int)∧((0:Int)=(0:Int)∧((0:Int)=(0:Int)∧(True∧(True∧True))))))∧(((0:Int)=(0:Int)∧((0:Int)=(0:Int)∧((0:Int)=(0:Int)∧((0:Int)=(0:Int)∧(True∧(True∧True))))))∧True))
abbrev c7n(p:a0a)(x:a0a)(ru:Int):Prop:=(x.kids.length≤140737488355328 →
 (a0h (1:Int) x.kids.length∧(a0d (x.kids.getD 1 zP).kind →
 (∃ u1:Unit,(True∧((ru=ru∧(p=p∧(x=x∧(True∧(false=false∧(True∧((decide ((x.kids.getD 1 zP).kind=(7:Int)))=(decide (ru=10)&&b5u x)∧True)))))))∧c7m))))))
abbrev c7o(p:a0a)(x:a0a)(ru:Int):Prop:=(∃ u1:Unit,(True∧((ru=ru∧(p=p∧(x=x∧(True∧(false=false∧(True∧(false=(decide (ru=10)&&b5u x)∧True)))))))∧c7m)))
abbrev c7p(p:a0a)(x:a0a)(ru:Int):Prop:=(∃ u2:Unit,(True∧((ru=ru∧(p=p∧(x=x∧(True∧(false=false∧((eqB x.cond p.cond)=(decide (ru=11)&&b0l p x)∧True))))))∧(((0:Int)=(0:Int)∧((0:Int)=(0:Int)∧((0:Int)=(0:Int)∧((0:Int)=(0:Int)∧(True∧(True∧True))))))∧True))))
abbrev c7q(p:a0a)(x:a0a)(ru:Int):Prop:=(∃ u2:Unit,(True∧((ru=ru∧(p=p∧(x=x∧(True∧(false=false∧(false=(decide (ru=11)&&b0l p x)∧True))))))∧(((0:Int)=(0:Int)∧((0:Int)=(0:Int)∧((0:Int)=(0:Int)∧((0:Int)=(0:Int)∧(True∧(True∧True))))))∧True))))
abbrev b9u(p:a0a)(x:a0a)(ru:Int):Prop:=(x.kids.length≤140737488355328 →
 (∃ u3:Unit,(True∧((p=p∧(x=x∧(True∧(false=false∧((eqB (x.kids.getD 0 zP).cond p.cond)=(decide (ru=14)&&b5v p x)∧True)))))∧(((0:Int)=(0:Int)∧((0:Int)=(0:Int)∧((0:Int)=(0:Int)∧((0:Int)=(0:Int)∧(True∧(True∧True))))))∧True)))))
abbrev c7r(p:a0a)(x:a0a)(ru:Int):Prop:=(x.kids.length≤140737488355328 →
 (a0d (x.kids.getD 0 zP).kind →
 (b9u p x ru)))
abbrev b9v(p:a0a)(x:a0a)(ru:Int):Prop:=(∃ u3:Unit,(True∧((p=p∧(x=x∧(True∧(false=false∧(false=(decide (ru=14)&&b5v p x)∧True)))))∧(((0:Int)=(0:Int)∧((0:Int)=(0:Int)∧((0:Int)=(0:Int)∧((0:Int)=(0:Int)∧(True∧(True∧True))))))∧True))))
abbrev c7s(p:a0a)(x:a0a)(ru:Int):Prop:=(x.kids.length≤140737488355328 →
 (a0d (x.kids.getD 0 zP).kind →
 (b9v p x ru)))
theorem e9r(p:a0a)(x:a0a)(ru:Int):awp (a0x [b2u,a6v,a9p,a9q,a4b] [] [] [3,4,62]) (a0i a8h) (d2n p x ru) 0 (a1h (a0x [b2u,a6v,a9p,a9q,a4b] [] [] [3,4,62]) a8h fun r=>a1e r [⟨(.st .prog),wV p x ru⟩,⟨.bool,wO p x ru⟩]) (a0r a8h [.val ⟨(.st .prog),p⟩, .val ⟨(.st .prog),x⟩, .val ⟨(.int .i64),ru⟩]) =
 ((((decide (ru=(1:Int)))=true →
 ((a0g (a0a.mk 6 0 p.cond [(a0a.mk 5 0 zE [x,p]),(a0a.mk (1:Int) (0:Int) zE [])]))=(wV p x ru)∧true=(wO p x ru)))∧((decide (ru=(1:Int)))=false →
 ((((decide (ru=(10:Int)))=true →
 (a0d x.kind →
 (((decide (x.kind=(5:Int)))=true →
 (c7n p x ru))∧((decide (x.kind=(5:Int)))=(!true) →
 (c7o p x ru)))))∧((decide (ru=(10:Int)))=(!true) →
 ((false=true →
 (c7n p x ru))∧(false=(!true) →
 (c7o p x ru)))))∧(∀ u1:Unit,(True →
 (((decide (ru=10)&&b5u x)=true →
 (x.kids.length≤140737488355328 →
 (a0h (0:Int) x.kids.length∧(x.kids.length≤140737488355328 →
 (a0h (1:Int) x.kids.length∧(x.kids=x.kids∧(x.kids=x.kids∧(a0h (0:Int) x.kids.length∧((x.kids.getD 0 zP)=(x.kids.getD 0 zP)∧((x.kids.getD 0 zP)=(x.kids.getD 0 zP)∧(x.kids=x.kids∧(x.kids=x.kids∧(a0h (1:Int) x.kids.length∧((x.kids.getD 1 zP)=(x.kids.getD 1 zP)∧((x.kids.getD 1 zP)=(x.kids.getD 1 zP)∧(x.kids=x.kids∧(x.kids=x.kids∧(a0h (0:Int) x.kids.length∧((x.kids.getD 0 zP)=(x.kids.getD 0 zP)∧((x.kids.getD 0 zP)=(x.kids.getD 0 zP)∧(x.kids=x.kids∧(x.kids=x.kids∧(a0h (1:Int) x.kids.length∧((x.kids.getD 1 zP)=(x.kids.getD 1 zP)∧((x.kids.getD 1 zP)=(x.kids.getD 1 zP)∧(x.kids=x.kids∧(x.kids=x.kids∧(a0h (0:Int) x.kids.length∧((x.kids.getD 0 zP)=(x.kids.getD 0 zP)∧((x.kids.getD 0 zP)=(x.kids.getD 0 zP)∧(x.kids=x.kids∧(x.kids=x.kids∧(a0h (1:Int) x.kids.length∧((x.kids.getD 1 zP)=(x.kids.getD 1 zP)∧((x.kids.getD 1 zP)=(x.kids.getD 1 zP)∧(x.kids=x.kids∧(x.kids=x.kids∧(a0h (1:Int) x.kids.length∧((x.kids.getD 1 zP)=(x.kids.getD 1 zP)∧((x.kids.getD 1 zP)=(x.kids.getD 1 zP)∧(a0h (0:Int) (x.kids.getD 1 zP).kids.length∧((x.kids.getD 1 zP).kids.length≤140737488355328 →
 ((a0g (a0a.mk 6 0 p.cond [(a0a.mk 5 0 zE [(a0g (x.kids.getD 0 zP)),(a0a.mk 7 0 (a0b.mk (6:Int) 0 ([p.cond,(a0w (x.kids.getD 1 zP).cond)])) [(a0g (a0a.mk 6 0 (a0w (x.kids.getD 1 zP).cond) [((x.kids.getD 1 zP).kids.getD 0 zP),(a0g (x.kids.getD 0 zP))]))])]),(a0a.mk (1:Int) (0:Int) zE [])]))=(wV p x ru)∧true=(wO p x ru))))))))))))))))))))))))))))))))))))))))))))∧((decide (ru=10)&&b5u x)=false →
 ((((decide (ru=(11:Int)))=true →
 (a0d x.kind →
 (((decide (x.kind=(7:Int)))=true →
 (c7p p x ru))∧((decide (x.kind=(7:Int)))=(!true) →
 (c7q p x ru)))))∧((decide (ru=(11:Int)))=(!true) →
 ((false=true →
 (c7p p x ru))∧(false=(!true) →
 (c7q p x ru)))))∧(∀ u2:Unit,(True →
 (((decide (ru=11)&&b0l p x)=true →
 ((a0g x)=(wV p x ru)∧true=(wO p x ru)))∧((decide (ru=11)&&b0l p x)=false →
 ((((decide (ru=(14:Int)))=true →
 (((decide (x.kind=(5:Int)))=true →
 (a0h (0:Int) x.kids.length∧(((decide ((x.kids.getD 0 zP).kind=(4:Int)))=true →
 (a0h (0:Int) x.kids.length∧(a0d x.kind →
 (c7r p x ru))))∧((decide ((x.kids.getD 0 zP).kind=(4:Int)))=(!true) →
 (a0d x.kind →
 (c7s p x ru))))))∧((decide (x.kind=(5:Int)))=(!true) →
 ((false=true →
 (a0h (0:Int) x.kids.length∧(a0d x.kind →
 (b9u p x ru))))∧(false=(!true) →
 (a0d x.kind →
 (b9v p x ru)))))))∧((decide (ru=(14:Int)))=(!true) →
 ((false=true →
 (a0h (0:Int) x.kids.length∧(((decide ((x.kids.getD 0 zP).kind=(4:Int)))=true →
 (a0h (0:Int) x.kids.length∧(c7r p x ru)))∧((decide ((x.kids.getD 0 zP).kind=(4:Int)))=(!true) →
 (c7s p x ru)))))∧(false=(!true) →
 ((false=true →
 (a0h (0:Int) x.kids.length∧(b9u p x ru)))∧(false=(!true) →
 (b9v p x ru)))))))∧(∀ u3:Unit,(True →
 (((decide (ru=14)&&b5v p x)=true →
 (a0h (1:Int) x.kids.length∧(x.kids.length≤140737488355328 →
 ((a0g (a0a.mk 7 0 p.cond [(x.kids.getD 1 zP)]))=(wV p x ru)∧true=(wO p x ru)))))∧((decide (ru=14)&&b5v p x)=false →
 (zP=(wV p x ru)∧false=(wO p x ru)))))))))))))))))))):=by kernel_rfl
theorem e9a(hE:a0p [b2u,a6v,a9p,a9q,a4b]):Ctr.Good b2s:=by
 refine⟨a0j c9i rfl (by decide),?_⟩
 show ∀ (p:a0a) (x:a0a) (ru:Int),(prT p∧prT x)→a1f prog c2y [.val ⟨(.st .prog),p⟩, .val ⟨(.st .prog),x⟩, .val ⟨(.int .i64),ru⟩] (·=[⟨(.st .prog),wV p x ru⟩,⟨.bool,wO p x ru⟩])
 intro p x ru hp
 refine a0z (wr:=[]) (cl:=[]) (ro:=[3,4,62]) hE c9i e1d (d2n p x ru) ?_
 rewrite [e9r p x ru]
 have F:=a5c p hp.1
 have Fx:=a5c x hp.2
 refine⟨fun a0=>⟨?_,?_⟩,fun a0=>⟨⟨fun a1=>fun a2=>⟨fun a3=>fun a4=>⟨?_,fun a5=>⟨(),⟨?_,⟨⟨rfl,⟨rfl,⟨rfl,⟨trivial,⟨rfl,⟨trivial,⟨?_,trivial⟩⟩⟩⟩⟩⟩⟩,⟨⟨rfl,⟨rfl,⟨rfl,⟨rfl,⟨trivial,⟨trivial,trivial⟩⟩⟩⟩⟩⟩,⟨⟨rfl,⟨rfl,⟨rfl,⟨rfl,⟨trivial,⟨trivial,trivial⟩⟩⟩⟩⟩⟩,trivial⟩⟩⟩⟩⟩⟩,fun a3=>⟨(),⟨?_,⟨⟨rfl,⟨rfl,⟨rfl,⟨trivial,⟨rfl,⟨trivial,⟨?_,trivial⟩⟩⟩⟩⟩⟩⟩,⟨⟨rfl,⟨rfl,⟨rfl,⟨rfl,⟨trivial,⟨trivial,trivial⟩⟩⟩⟩⟩⟩,⟨⟨rfl,⟨rfl,⟨rfl,⟨rfl,⟨trivial,⟨trivial,trivial⟩⟩⟩⟩⟩⟩,trivial⟩⟩⟩⟩⟩⟩,fun a1=>⟨fun a2=>fun a3=>⟨?_,fun a4=>⟨(),⟨?_,⟨⟨rfl,⟨rfl,⟨rfl,⟨trivial,⟨rfl,⟨trivial,⟨?_,trivial⟩⟩⟩⟩⟩⟩⟩,⟨⟨rfl,⟨rfl,⟨rfl,⟨rfl,⟨trivial,⟨trivial,trivial⟩⟩⟩⟩⟩⟩,⟨⟨rfl,⟨rfl,⟨rfl,⟨rfl,⟨trivial,⟨trivial,trivial⟩⟩⟩⟩⟩⟩,trivial⟩⟩⟩⟩⟩⟩,fun a2=>⟨(),⟨?_,⟨⟨rfl,⟨rfl,⟨rfl,⟨trivial,⟨rfl,⟨trivial,⟨?_,trivial⟩⟩⟩⟩⟩⟩⟩,⟨⟨rfl,⟨rfl,⟨rfl,⟨rfl,⟨trivial,⟨trivial,trivial⟩⟩⟩⟩⟩⟩,⟨⟨rfl,⟨rfl,⟨rfl,⟨rfl,⟨trivial,⟨trivial,trivial⟩⟩⟩⟩⟩⟩,trivial⟩⟩⟩⟩⟩⟩⟩,fun u1=>fun a1=>⟨fun a2=>fun a3=>⟨?_,fun a4=>⟨?_,⟨rfl,⟨rfl,⟨?_,⟨rfl,⟨rfl,⟨rfl,⟨rfl,⟨?_,⟨rfl,⟨rfl,⟨rfl,⟨rfl,⟨?_,⟨rfl,⟨rfl,⟨rfl,⟨rfl,⟨?_,⟨rfl,⟨rfl,⟨rfl,⟨rfl,⟨?_,⟨rfl,⟨rfl,⟨rfl,⟨rfl,⟨?_,⟨rfl,⟨rfl,⟨rfl,⟨rfl,⟨?_,⟨rfl,⟨rfl,⟨?_,fun a5=>⟨?_,?_⟩⟩⟩⟩⟩⟩⟩⟩⟩⟩⟩⟩⟩⟩⟩⟩⟩⟩⟩⟩⟩⟩⟩⟩⟩⟩⟩⟩⟩⟩⟩⟩⟩⟩⟩⟩⟩⟩⟩,fun a2=>⟨⟨fun a3=>fun a4=>⟨fun a5=>⟨(),⟨?_,⟨⟨rfl,⟨rfl,⟨rfl,⟨trivial,⟨rfl,⟨?_,trivial⟩⟩⟩⟩⟩⟩,⟨⟨rfl,⟨rfl,⟨rfl,⟨rfl,⟨trivial,⟨trivial,trivial⟩⟩⟩⟩⟩⟩,trivial⟩⟩⟩⟩,fun a5=>⟨(),⟨?_,⟨⟨rfl,⟨rfl,⟨rfl,⟨trivial,⟨rfl,⟨?_,trivial⟩⟩⟩⟩⟩⟩,⟨⟨rfl,⟨rfl,⟨rfl,⟨rfl,⟨trivial,⟨trivial,trivial⟩⟩⟩⟩⟩⟩,trivial⟩⟩⟩⟩⟩,fun a3=>⟨fun a4=>⟨(),⟨?_,⟨⟨rfl,⟨rfl,⟨rfl,⟨trivial,⟨rfl,⟨?_,trivial⟩⟩⟩⟩⟩⟩,⟨⟨rfl,⟨rfl,⟨rfl,⟨rfl,⟨trivial,⟨trivial,trivial⟩⟩⟩⟩⟩⟩,trivial⟩⟩⟩⟩,fun a4=>⟨(),⟨?_,⟨⟨rfl,⟨rfl,⟨rfl,⟨trivial,⟨rfl,⟨?_,trivial⟩⟩⟩⟩⟩⟩,⟨⟨rfl,⟨rfl,⟨rfl,⟨rfl,⟨trivial,⟨trivial,trivial⟩⟩⟩⟩⟩⟩,trivial⟩⟩⟩⟩⟩⟩,fun u2=>fun a3=>⟨fun a4=>⟨?_,?_⟩,fun a4=>⟨⟨fun a5=>⟨fun a6=>⟨?_,⟨fun a7=>⟨?_,fun a8=>fun a9=>fun a10=>fun a11=>⟨(),⟨?_,⟨⟨rfl,⟨rfl,⟨trivial,⟨rfl,⟨?_,trivial⟩⟩⟩⟩⟩,⟨⟨rfl,⟨rfl,⟨rfl,⟨rfl,⟨trivial,⟨trivial,trivial⟩⟩⟩⟩⟩⟩,trivial⟩⟩⟩⟩⟩,fun a7=>fun a8=>fun a9=>fun a10=>⟨(),⟨?_,⟨⟨rfl,⟨rfl,⟨trivial,⟨rfl,⟨?_,trivial⟩⟩⟩⟩⟩,⟨⟨rfl,⟨rfl,⟨rfl,⟨rfl,⟨trivial,⟨trivial,trivial⟩⟩⟩⟩⟩⟩,trivial⟩⟩⟩⟩⟩⟩,fun a6=>⟨fun a7=>⟨?_,fun a8=>fun a9=>⟨(),⟨?_,⟨⟨rfl,⟨rfl,⟨trivial,⟨rfl,⟨?_,trivial⟩⟩⟩⟩⟩,⟨⟨rfl,⟨rfl,⟨rfl,⟨rfl,⟨trivial,⟨trivial,trivial⟩⟩⟩⟩⟩⟩,trivial⟩⟩⟩⟩⟩,fun a7=>fun a8=>⟨(),⟨?_,⟨⟨rfl,⟨rfl,⟨trivial,⟨rfl,⟨?_,trivial⟩⟩⟩⟩⟩,⟨⟨rfl,⟨rfl,⟨rfl,⟨rfl,⟨trivial,⟨trivial,trivial⟩⟩⟩⟩⟩⟩,trivial⟩⟩⟩⟩⟩⟩,fun a5=>⟨fun a6=>⟨?_,⟨fun a7=>⟨?_,fun a8=>fun a9=>fun a10=>⟨(),⟨?_,⟨⟨rfl,⟨rfl,⟨trivial,⟨rfl,⟨?_,trivial⟩⟩⟩⟩⟩,⟨⟨rfl,⟨rfl,⟨rfl,⟨rfl,⟨trivial,⟨trivial,trivial⟩⟩⟩⟩⟩⟩,trivial⟩⟩⟩⟩⟩,fun a7=>fun a8=>fun a9=>⟨(),⟨?_,⟨⟨rfl,⟨rfl,⟨trivial,⟨rfl,⟨?_,trivial⟩⟩⟩⟩⟩,⟨⟨rfl,⟨rfl,⟨rfl,⟨rfl,⟨trivial,⟨trivial,trivial⟩⟩⟩⟩⟩⟩,trivial⟩⟩⟩⟩⟩⟩,fun a6=>⟨fun a7=>⟨?_,fun a8=>⟨(),⟨?_,⟨⟨rfl,⟨rfl,⟨trivial,⟨rfl,⟨?_,trivial⟩⟩⟩⟩⟩,⟨⟨rfl,⟨rfl,⟨rfl,⟨rfl,⟨trivial,⟨trivial,trivial⟩⟩⟩⟩⟩⟩,trivial⟩⟩⟩⟩⟩,fun a7=>⟨(),⟨?_,⟨⟨rfl,⟨rfl,⟨trivial,⟨rfl,⟨?_,trivial⟩⟩⟩⟩⟩,⟨⟨rfl,⟨rfl,⟨rfl,⟨rfl,⟨trivial,⟨trivial,trivial⟩⟩⟩⟩⟩⟩,trivial⟩⟩⟩⟩⟩⟩⟩,fun u3=>fun a5=>⟨fun a6=>⟨?_,fun a7=>⟨?_,?_⟩⟩,fun a6=>⟨?_,?_⟩⟩⟩⟩⟩⟩⟩⟩
 all_goals try and_intros
 all_goals try simp only[a0b.eta,a0a.eta,a2b,a2d] at *
 all_goals (try simp only[Bool.not_true,Bool.not_false,Bool.true_eq_false,Bool.false_eq_true,Bool.not_eq_true',Bool.not_eq_false'] at *);first|done|rfl|trivial|(clear F Fx hp;first|(simp only[wV,wO,cond_true,cond_false,Bool.true_and,Bool.and_true,Bool.false_and,Bool.and_false,Bool.not_true,Bool.not_false, *];done)|(simp only[b5u,b0l,b5v,cond_true,cond_false,Bool.true_and,Bool.and_true,Bool.false_and,Bool.and_false,Bool.not_true,Bool.not_false, *];done))|(simp only[decide_eq_true_eq,decide_eq_false_iff_not,Bool.not_true,Bool.and_eq_true,Bool.not_false,a0h,b5u,b0l,b5v] at *;(try have:=F.l2 (by omega));(try have:=F.l1 (by omega));(try have:=Fx.l2 (by omega));(try have:=Fx.l1 (by omega));(try (have G:=a5c _ (Fx.kid 1 (by omega));(try have:=G.l2 (by omega));(try have:=G.l1 (by omega));clear G));omega)|exact hp
theorem e2e:Ctr.Good b2s:=e9a ⟨d9a,c9x,d5f,d5g,b8a,trivial⟩
def b0p:Ctr:=⟨c1e,[.v (.st .prog), .v (.int .i64)],fun (p:a0a) (ru:Int)=>⟨(some (prT p),[⟨(.st .prog),rwV p ru⟩,⟨.bool,rwO p ru⟩])⟩⟩
def d0q(p:a0a)(ru:Int):Nat→a0t:=(fun zb=>if Nat.beq zb 100008 then .mk (Unit) (fun u=>True) (fun u=>0) [] [0,3,6,9,10,11,12,13,14,15,16,17,18,19,20,21,22,23,24,25,26,27,28,29,30,31,32,33,34,36,37,38,39,40,41,42,43,44,45,46,47,48,49,50,51,52,53,54,55,56,57,58,59,60,61,125,126,127,128,129,130,131,132,133,134,135,136,137,138,139,140,141,142,143,144,145,146,147,148,149,150,151,152,153,154,155,156,157,158,159,160,161,162,163,164,165,166,167,168,169,170,171,172,173,174,175,176,177,178,179,180,181,182,183,184,185,186,187,188,189,190,191,192,193,194,195,196,197,198,199,200,201,202,203,204,205,206,207,208,209,210,211,212,213,214,215,216,217,218,219,220,221,222,223,224,225,226,227,228,229,230,231,232,233,234,235,236,237,238,239,240,241,242,243,244,245,246,247,248,249,250,251,252] (fun u=>[(35, .imm ⟨.bool,((decide (ru=2)&&a7c p (p.kids.getD 0 zP) (p.kids.getD 1 zP)):Bool)⟩)]) [1,2,4,5,7,8,35,62,63,64,65,66,67,68,69,70,71,72,73,74,75,76,77,78,79,80,81,82,83,84,85,86,87,88,89,90,91,92,93,94,95,96,97,98,99,100,101,102,103,104,105,106,107,108,109,110,111,112,113,114,115,116,117,118,119,120,121,122,123,124,253] (fun u=>[]) [] [] (fun u=>(fun zb=>if Nat.beq zb 100010 then .mk (Unit) (fun u=>True) (fun u=>0) [] [0,3,6,9,10,11,12,13,14,15,16,17,18,19,20,21,22,23,24,25,26,27,28,29,30,31,32,33,34,35,36,37,38,39,40,41,42,43,44,45,46,47,48,49,50,51,52,53,54,55,56,57,58,59,60,61,62,63,64,65,67,68,69,70,71,72,73,125,126,127,128,129,130,131,132,133,134,135,136,137,138,139,140,141,142,143,144,145,146,147,148,149,150,151,152,153,154,155,156,157,158,159,160,161,162,163,164,165,166,167,168,169,170,171,172,173,174,175,176,177,178,179,180,181,182,183,184,185,186,187,188,189,190,191,192,193,194,195,196,197,198,199,200,201,202,203,204,205,206,207,208,209,210,211,212,213,214,215,216,217,218,219,220,221,222,223,224,225,226,227,228,229,230,231,232,233,234,235,236,237,238,239,240,241,242,243,244,245,246,247,248,249,250,251,252] (fun u=>[(66, .imm ⟨.bool,((decide (ru=3)&&eqB (p.kids.getD 0 zP) (p.kids.getD 1 zP)):Bool)⟩)]) [1,2,4,5,7,8,66,74,75,76,77,78,79,80,81,82,83,84,85,86,87,88,89,90,91,92,93,94,95,96,97,98,99,100,101,102,103,104,105,106,107,108,109,110,111,112,113,114,115,116,117,118,119,120,121,122,123,124,253] (fun u=>[]) [] [] (fun u=>(fun zb=>if Nat.beq zb 100014 then .mk (Unit) (fun u=>True) (fun u=>0) [] [0,1,3,6,9,10,11,12,13,14,15,16,17,18,19,20,21,22,23,24,25,26,27,28,29,30,31,32,33,34,35,36,37,38,39,40,41,42,43,44,45,46,47,48,49,50,51,52,53,54,55,56,57,58,59,60,61,62,63,64,65,66,67,68,69,70,71,72,73,74,75,76,77,78,79,80,81,82,83,84,86,87,88,89,90,91,92,93,94,95,96,97,98,99,100,101,102,103,104,105,106,107,108,125,126,127,128,129,130,131,132,133,134,135,136,137,138,139,140,141,142,143,144,145,146,147,148,149,150,151,152,153,154,155,156,157,158,159,160,161,162,163,164,165,166,167,168,169,170,171,172,173,174,175,176,177,178,179,180,181,182,183,184,185,186,187,188,189,190,191,192,193,194,195,196,197,198,199,200,201,202,203,204,205,206,207,208,209,210,211,212,213,214,215,216,217,218,219,220,221,222,223,224,225,226,227,228,229,230,231,232,233,234,235,236,237,238,239,240,241,242,243,244,245,246,247,248,249,250,251,252] (fun u=>[(85, .imm ⟨.bool,((decide (ru=9)&&a8b (p.kids.getD 0 zP) (p.kids.getD 1 zP)):Bool)⟩)]) [2,4,5,7,8,85,109,110,111,112,113,114,115,116,117,118,119,120,121,122,123,124,253] (fun u=>[]) [] [] (fun u=>fun _ => .none) else .none)) else .none)) else if Nat.beq zb 100018 then .mk (Unit) (fun u=>True) (fun u=>0) [] [0,2,3,6,7,8,11,12,13,14,15,16,17,18,19,20,21,22,23,24,25,26,27,28,29,30,31,32,33,34,35,36,37,38,39,40,41,42,43,44,45,46,47,48,49,50,51,52,53,54,55,56,57,58,59,60,61,62,63,64,65,66,67,68,69,70,71,72,73,74,75,76,77,78,79,80,81,82,83,84,85,86,87,88,89,90,91,92,93,94,95,96,97,98,99,100,101,102,103,104,105,106,107,108,109,110,111,112,113,114,115,116,117,118,119,120,121,122,123,124,125,126,127,128,129,130,131,132,133,134,136,137,138,139,140,141,142] (fun u=>[(135, .imm ⟨.bool,((decide (ru=5)&&decide ((p.kids.getD 0 zP).kind=5)):Bool)⟩)]) [1,4,5,9,10,135,143,144,145,146,147,148,149,150,151,152,153,154,155,156,157,158,159,160,161,162,163,164,165,166,167,168,169,170,171,172,173,174,175,176,177,178,179,180,181,182,183,184,185,186,187,188,189,190,191,192,193,194,195,196,197,198,199,200,201,202,203,204,205,206,207,208,209,210,211,212,213,214,215,216,217,218,219,220,221,222,223,224,225,226,227,228,229,230,231,232,233,234,235,236,237,238,239,240,241,242,243,244,245,246,247,248,249,250,251,252,253] (fun u=>[]) [] [] (fun u=>(fun zb=>if Nat.beq zb 100020 then .mk (Unit) (fun u=>True) (fun u=>0) [] [0,2,3,6,7,8,11,12,13,14,15,16,17,18,19,20,21,22,23,24,25,26,27,28,29,30,31,32,33,34,35,36,37,38,39,40,41,42,43,44,45,46,47,48,49,50,51,52,53,54,55,56,57,58,59,60,61,62,63,64,65,66,67,68,69,70,71,72,73,74,75,76,77,78,79,80,81,82,83,84,85,86,87,88,89,90,91,92,93,94,95,96,97,98,99,100,101,102,103,104,105,106,107,108,109,110,111,112,113,114,115,116,117,118,119,120,121,122,123,124,125,126,127,128,129,130,131,132,133,134,135,136,137,138,139,140,141,142,143,144,145,146,147,148,149,150,151,152,153,155,156,157,158,159,160,161] (fun u=>[(154, .imm ⟨.bool,((decide (ru=6)&&decide ((p.kids.getD 1 zP).kind=5)):Bool)⟩)]) [1,4,5,9,10,154,162,163,164,165,166,167,168,169,170,171,172,173,174,175,176,177,178,179,180,181,182,183,184,185,186,187,188,189,190,191,192,193,194,195,196,197,198,199,200,201,202,203,204,205,206,207,208,209,210,211,212,213,214,215,216,217,218,219,220,221,222,223,224,225,226,227,228,229,230,231,232,233,234,235,236,237,238,239,240,241,242,243,244,245,246,247,248,249,250,251,252,253] (fun u=>[]) [] [] (fun u=>(fun zb=>if Nat.beq zb 100022 then .mk (Unit) (fun u=>True) (fun u=>0) [] [0,2,3,6,7,8,11,12,13,14,15,16,17,18,19,20,21,22,23,24,25,26,27,28,29,30,31,32,33,34,35,36,37,38,39,40,41,42,43,44,45,46,47,48,49,50,51,52,53,54,55,56,57,58,59,60,61,62,63,64,65,66,67,68,69,70,71,72,73,74,75,76,77,78,79,80,81,82,83,84,85,86,87,88,89,90,91,92,93,94,95,96,97,98,99,100,101,102,103,104,105,106,107,108,109,110,111,112,113,114,115,116,117,118,119,120,121,122,123,124,125,126,127,128,129,130,131,132,133,134,135,136,137,138,139,140,141,142,143,144,145,146,147,148,149,150,151,152,153,154,155,156,157,158,159,160,161,162,163,164,165,166,167,168,169,170,171,172,174,175,176,177,178,179,180] (fun u=>[(173, .imm ⟨.bool,((decide (ru=7)&&decide ((p.kids.getD 0 zP).kind=1)):Bool)⟩)]) [1,4,5,9,10,173,181,182,183,184,185,186,187,188,189,190,191,192,193,194,195,196,197,198,199,200,201,202,203,204,205,206,207,208,209,210,211,212,213,214,215,216,217,218,219,220,221,222,223,224,225,226,227,228,229,230,231,232,233,234,235,236,237,238,239,240,241,242,243,244,245,246,247,248,249,250,251,252,253] (fun u=>[]) [] [] (fun u=>(fun zb=>if Nat.beq zb 100024 then .mk (Unit) (fun u=>True) (fun u=>0) [] [0,2,3,6,7,8,11,12,13,14,15,16,17,18,19,20,21,22,23,24,25,26,27,28,29,30,31,32,33,34,35,36,37,38,39,40,41,42,43,44,45,46,47,48,49,50,51,52,53,54,55,56,57,58,59,60,61,62,63,64,65,66,67,68,69,70,71,72,73,74,75,76,77,78,79,80,81,82,83,84,85,86,87,88,89,90,91,92,93,94,95,96,97,98,99,100,101,102,103,104,105,106,107,108,109,110,111,112,113,114,115,116,117,118,119,120,121,122,123,124,125,126,127,128,129,130,131,132,133,134,135,136,137,138,139,140,141,142,143,144,145,146,147,148,149,150,151,152,153,154,155,156,157,158,159,160,161,162,163,164,165,166,167,168,169,170,171,172,173,174,175,176,177,178,179,180,181,183,184,185,186,187,188,189] (fun u=>[(182, .imm ⟨.bool,((decide (ru=7)&&decide ((p.kids.getD 1 zP).kind=1)):Bool)⟩)]) [1,4,5,9,10,182,190,191,192,193,194,195,196,197,198,199,200,201,202,203,204,205,206,207,208,209,210,211,212,213,214,215,216,217,218,219,220,221,222,223,224,225,226,227,228,229,230,231,232,233,234,235,236,237,238,239,240,241,242,243,244,245,246,247,248,249,250,251,252,253] (fun u=>[]) [] [] (fun u=>(fun zb=>if Nat.beq zb 100026 then .mk (Unit) (fun u=>True) (fun u=>0) [] [0,2,3,6,7,8,11,12,13,14,15,16,17,18,19,20,21,22,23,24,25,26,27,28,29,30,31,32,33,34,35,36,37,38,39,40,41,42,43,44,45,46,47,48,49,50,51,52,53,54,55,56,57,58,59,60,61,62,63,64,65,66,67,68,69,70,71,72,73,74,75,76,77,78,79,80,81,82,83,84,85,86,87,88,89,90,91,92,93,94,95,96,97,98,99,100,101,102,103,104,105,106,107,108,109,110,111,112,113,114,115,116,117,118,119,120,121,122,123,124,125,126,127,128,129,130,131,132,133,134,135,136,137,138,139,140,141,142,143,144,145,146,147,148,149,150,151,152,153,154,155,156,157,158,159,160,161,162,163,164,165,166,167,168,169,170,171,172,173,174,175,176,177,178,179,180,181,182,183,184,185,186,187,188,189,190,192,193,194,195,196,197,198] (fun u=>[(191, .imm ⟨.bool,((decide (ru=8)&&decide ((p.kids.getD 0 zP).kind=6)):Bool)⟩)]) [1,4,5,9,10,191,199,200,201,202,203,204,205,206,207,208,209,210,211,212,213,214,215,216,217,218,219,220,221,222,223,224,225,226,227,228,229,230,231,232,233,234,235,236,237,238,239,240,241,242,243,244,245,246,247,248,249,250,251,252,253] (fun u=>[]) [] [] (fun u=>(fun zb=>if Nat.beq zb 100028 then .mk (Unit) (fun u=>True) (fun u=>0) [] [0,2,3,6,7,8,11,12,13,14,15,16,17,18,19,20,21,22,23,24,25,26,27,28,29,30,31,32,33,34,35,36,37,38,39,40,41,42,43,44,45,46,47,48,49,50,51,52,53,54,55,56,57,58,59,60,61,62,63,64,65,66,67,68,69,70,71,72,73,74,75,76,77,78,79,80,81,82,83,84,85,86,87,88,89,90,91,92,93,94,95,96,97,98,99,100,101,102,103,104,105,106,107,108,109,110,111,112,113,114,115,116,117,118,119,120,121,122,123,124,125,126,127,128,129,130,131,132,133,134,135,136,137,138,139,140,141,142,143,144,145,146,147,148,149,150,151,152,153,154,155,156,157,158,159,160,161,162,163,164,165,166,167,168,169,170,171,172,173,174,175,176,177,178,179,180,181,182,183,184,185,186,187,188,189,190,191,192,193,194,195,196,197,198,199,200,201,202,203,204,205,206,207,208,209,210,211,212,213,215,216,217,218,219,220,221] (fun u=>[(214, .imm ⟨.bool,((decide (ru=12)&&decide ((p.kids.getD 0 zP).kind=4)):Bool)⟩)]) [1,4,5,9,10,214,222,223,224,225,226,227,228,229,230,231,232,233,234,235,236,237,238,239,240,241,242,243,244,245,246,247,248,249,250,251,252,253] (fun u=>[]) [] [] (fun u=>(fun zb=>if Nat.beq zb 100030 then .mk (Unit) (fun u=>True) (fun u=>0) [] [0,1,2,3,6,7,8,11,12,13,14,15,16,17,18,19,20,21,22,23,24,25,26,27,28,29,30,31,32,33,34,35,36,37,38,39,40,41,42,43,44,45,46,47,48,49,50,51,52,53,54,55,56,57,58,59,60,61,62,63,64,65,66,67,68,69,70,71,72,73,74,75,76,77,78,79,80,81,82,83,84,85,86,87,88,89,90,91,92,93,94,95,96,97,98,99,100,101,102,103,104,105,106,107,108,109,110,111,112,113,114,115,116,117,118,119,120,121,122,123,124,125,126,127,128,129,130,131,132,133,134,135,136,137,138,139,140,141,142,143,144,145,146,147,148,149,150,151,152,153,154,155,156,157,158,159,160,161,162,163,164,165,166,167,168,169,170,171,172,173,174,175,176,177,178,179,180,181,182,183,184,185,186,187,188,189,190,191,192,193,194,195,196,197,198,199,200,201,202,203,204,205,206,207,208,209,210,211,212,213,214,215,216,217,218,219,220,221,222,223,224,225,226,228,229,230,231,232,233,234,235,236,237,238,239,240,241,242,243,244,245,246] (fun u=>[(227, .imm ⟨.bool,((decide (ru=13)&&b2j (p.kids.getD 0 zP) (p.kids.getD 1 zP)):Bool)⟩)]) [4,5,9,10,227,247,248,249,250,251,252,253] (fun u=>[]) [] [] (fun u=>fun _ => .none) else .none)) else .none)) else .none)) else .none)) else .none)) else .none)) else .none)
abbrev a1n(p:a0a):Prop:=(((p.kids.getD 1 zP).kind=(p.kids.getD 1 zP).kind∧((p.kids.getD 1 zP).num=(p.kids.getD 1 zP).num∧((p.kids.getD 1 zP).cond.kind=(p.kids.getD 1 zP).cond.kind∧((p.kids.getD 1 zP).cond.num=(p.kids.getD 1 zP).cond.num∧((p.kids.getD 1 zP).cond.kids=(p.kids.getD 1 zP).cond.kids∧((p.kids.getD 1 zP).kids=(p.kids.getD 1 zP).kids∧True))))))∧(((p.kids.getD 0 zP).kind=(p.kids.getD 0 zP).kind∧((p.kids.getD 0 zP).num=(p.kids.getD 0 zP).num∧((p.kids.getD 0 zP).cond.kind=(p.kids.getD 0 zP).cond.kind∧((p.kids.getD 0 zP).cond.num=(p.kids.getD 0 zP).cond.num∧((p.kids.getD 0 zP).cond.kids=(p.kids.getD 0 zP).cond.kids∧((p.kids.getD 0 zP).kids=(p.kids.getD 0 zP).kids∧True))))))∧(((0:Int)=(0:Int)∧((0:Int)=(0:Int)∧((0:Int)=(0:Int)∧((0:Int)=(0:Int)∧(True∧(True∧True))))))∧True)))
abbrev c5q(p:a0a)(ru:Int):Prop:=((p.kids.getD 0 zP).kids.length≤140737488355328 →
 ((p.kids.getD 0 zP).kids.length≤140737488355328 →
 (∃ u1:Unit,(True∧((ru=ru∧(p=p∧(True∧(false=false∧(True∧(True∧((eqB ((p.kids.getD 0 zP).kids.getD 1 zP) (a0a.mk 7 0 p.cond [((p.kids.getD 0 zP).kids.getD 0 zP)]))=(decide (ru=2)&&a7c p (p.kids.getD 0 zP) (p.kids.getD 1 zP))∧True)))))))∧(a1n p))))))
abbrev c5r(p:a0a)(ru:Int):Prop:=(a0h (1:Int) (p.kids.getD 0 zP).kids.length∧(a0h (0:Int) (p.kids.getD 0 zP).kids.length∧(a0d (p.kids.getD 0 zP).kind →
 (c5q p ru))))
abbrev b2n(p:a0a)(ru:Int):Prop:=(∃ u1:Unit,(True∧((ru=ru∧(p=p∧(True∧(false=false∧(True∧(True∧(false=(decide (ru=2)&&a7c p (p.kids.getD 0 zP) (p.kids.getD 1 zP))∧True)))))))∧(a1n p))))
abbrev c5s(p:a0a)(ru:Int):Prop:=(a0h (1:Int) (p.kids.getD 0 zP).kids.length∧(a0h (0:Int) (p.kids.getD 0 zP).kids.length∧(c5q p ru)))
abbrev b2o(p:a0a)(ru:Int):Prop:=((p.kids.getD 0 zP).kids.length≤140737488355328 →
 ((p.kids.getD 1 zP).kids.length≤140737488355328 →
 (∃ u3:Unit,(True∧((p=p∧(True∧(false=false∧(True∧(True∧((eqB ((p.kids.getD 0 zP).kids.getD 1 zP) ((p.kids.getD 1 zP).kids.getD 1 zP))=(decide (ru=9)&&a8b (p.kids.getD 0 zP) (p.kids.getD 1 zP))∧True))))))∧(a1n p))))))
abbrev b2p(p:a0a)(ru:Int):Prop:=(∃ u3:Unit,(True∧((p=p∧(True∧(false=false∧(True∧(True∧(false=(decide (ru=9)&&a8b (p.kids.getD 0 zP) (p.kids.getD 1 zP))∧True))))))∧(a1n p))))
abbrev b8b(p:a0a)(ru:Int):Prop:=(∃ u7:Unit,(True∧((True∧(false=false∧(True∧(True∧((eqB (a0w (p.kids.getD 0 zP).cond) (a0w (p.kids.getD 1 zP).cond))=(decide (ru=13)&&b2j (p.kids.getD 0 zP) (p.kids.getD 1 zP))∧True)))))∧(a1n p))))
abbrev b8c(p:a0a)(ru:Int):Prop:=(∃ u7:Unit,(True∧((True∧(false=false∧(True∧(True∧(false=(decide (ru=13)&&b2j (p.kids.getD 0 zP) (p.kids.getD 1 zP))∧True)))))∧(a1n p))))
abbrev c5t(p:a0a)(ru:Int):Prop:=(a0d (p.kids.getD 1 zP).kind →
 (((decide ((p.kids.getD 1 zP).kind=(6:Int)))=true →
 (b8b p ru))∧((decide ((p.kids.getD 1 zP).kind=(6:Int)))=(!true) →
 (b8c p ru))))
theorem e6d(p:a0a)(ru:Int):awp (a0x [b2u,a6v,a9p,a9q,a4b,b7k,b2s] [] [] [2,80]) (a0i a7m) (d0q p ru) 0 (a1h (a0x [b2u,a6v,a9p,a9q,a4b,b7k,b2s] [] [] [2,80]) a7m fun r=>a1e r [⟨(.st .prog),rwV p ru⟩,⟨.bool,rwO p ru⟩]) (a0r a7m [.val ⟨(.st .prog),p⟩, .val ⟨(.int .i64),ru⟩]) =
 ((a0d p.kind →
 (((decide (p.kind=(7:Int)))=true →
 (a0h (0:Int) p.kids.length∧((prT p∧prT (p.kids.getD 0 zP))∧(p.kids.length≤140737488355328 →
 ((a0g (wV p (p.kids.getD 0 zP) ru))=(rwV p ru)∧(wO p (p.kids.getD 0 zP) ru)=(rwO p ru))))))∧((decide (p.kind=(7:Int)))=false →
 (((decide (p.kind=(6:Int)))=true →
 (p.kids.length≤140737488355328 →
 (a0h (0:Int) p.kids.length∧(p.kids.length≤140737488355328 →
 (a0h (1:Int) p.kids.length∧(p.kids=p.kids∧(p.kids=p.kids∧(a0h (0:Int) p.kids.length∧((p.kids.getD 0 zP)=(p.kids.getD 0 zP)∧((p.kids.getD 0 zP)=(p.kids.getD 0 zP)∧(p.kids=p.kids∧(p.kids=p.kids∧(a0h (1:Int) p.kids.length∧((p.kids.getD 1 zP)=(p.kids.getD 1 zP)∧((p.kids.getD 1 zP)=(p.kids.getD 1 zP)∧(p.kids=p.kids∧(p.kids=p.kids∧(a0h (0:Int) p.kids.length∧((p.kids.getD 0 zP)=(p.kids.getD 0 zP)∧((p.kids.getD 0 zP)=(p.kids.getD 0 zP)∧(p.kids=p.kids∧(p.kids=p.kids∧(a0h (1:Int) p.kids.length∧((p.kids.getD 1 zP)=(p.kids.getD 1 zP)∧((p.kids.getD 1 zP)=(p.kids.getD 1 zP)∧(p.kids=p.kids∧(p.kids=p.kids∧(a0h (0:Int) p.kids.length∧((p.kids.getD 0 zP)=(p.kids.getD 0 zP)∧((p.kids.getD 0 zP)=(p.kids.getD 0 zP)∧(p.kids=p.kids∧(p.kids=p.kids∧(a0h (1:Int) p.kids.length∧((p.kids.getD 1 zP)=(p.kids.getD 1 zP)∧((p.kids.getD 1 zP)=(p.kids.getD 1 zP)∧(p.kids=p.kids∧(p.kids=p.kids∧(a0h (1:Int) p.kids.length∧((p.kids.getD 1 zP)=(p.kids.getD 1 zP)∧((p.kids.getD 1 zP)=(p.kids.getD 1 zP)∧((((decide (ru=(2:Int)))=true →
 (((decide ((p.kids.getD 0 zP).kind=(5:Int)))=true →
 (((eqB (a0g (p.kids.getD 1 zP)) (a0a.mk (1:Int) (0:Int) zE []))=true →
 (c5r p ru))∧((eqB (a0g (p.kids.getD 1 zP)) (a0a.mk (1:Int) (0:Int) zE []))=(!true) →
 (a0d (p.kids.getD 0 zP).kind →
 (b2n p ru)))))∧((decide ((p.kids.getD 0 zP).kind=(5:Int)))=(!true) →
 ((false=true →
 (c5r p ru))∧(false=(!true) →
 (a0d (p.kids.getD 0 zP).kind →
 (b2n p ru)))))))∧((decide (ru=(2:Int)))=(!true) →
 ((false=true →
 (((eqB (a0g (p.kids.getD 1 zP)) (a0a.mk (1:Int) (0:Int) zE []))=true →
 (c5s p ru))∧((eqB (a0g (p.kids.getD 1 zP)) (a0a.mk (1:Int) (0:Int) zE []))=(!true) →
 (b2n p ru))))∧(false=(!true) →
 ((false=true →
 (c5s p ru))∧(false=(!true) →
 (b2n p ru)))))))∧(∀ u1:Unit,(True →
 (((decide (ru=2)&&a7c p (p.kids.getD 0 zP) (p.kids.getD 1 zP))=true →
 ((p.kids.getD 0 zP).kids.length≤140737488355328 →
 (a0h (1:Int) (p.kids.getD 0 zP).kids.length∧((a0g ((p.kids.getD 0 zP).kids.getD 1 zP))=(rwV p ru)∧true=(rwO p ru)))))∧((decide (ru=2)&&a7c p (p.kids.getD 0 zP) (p.kids.getD 1 zP))=false →
 ((((decide (ru=(3:Int)))=true →
 (∃ u2:Unit,(True∧((ru=ru∧(p=p∧(True∧(false=false∧(True∧(True∧((eqB (a0g (p.kids.getD 0 zP)) (a0g (p.kids.getD 1 zP)))=(decide (ru=3)&&eqB (p.kids.getD 0 zP) (p.kids.getD 1 zP))∧True)))))))∧(a1n p)))))∧((decide (ru=(3:Int)))=(!true) →
 (∃ u2:Unit,(True∧((ru=ru∧(p=p∧(True∧(false=false∧(True∧(True∧(false=(decide (ru=3)&&eqB (p.kids.getD 0 zP) (p.kids.getD 1 zP))∧True)))))))∧(a1n p))))))∧(∀ u2:Unit,(True →
 (((decide (ru=3)&&eqB (p.kids.getD 0 zP) (p.kids.getD 1 zP))=true →
 ((a0g (p.kids.getD 0 zP))=(rwV p ru)∧true=(rwO p ru)))∧((decide (ru=3)&&eqB (p.kids.getD 0 zP) (p.kids.getD 1 zP))=false →
 (((decide (ru=(4:Int)))=true →
 ((a0g (a0a.mk 6 0 (a0b.mk (5:Int) 0 ([p.cond])) [(a0g (p.kids.getD 1 zP)),(a0g (p.kids.getD 0 zP))]))=(rwV p ru)∧true=(rwO p ru)))∧((decide (ru=(4:Int)))=false →
 ((((decide (ru=(9:Int)))=true →
 (((decide ((p.kids.getD 0 zP).kind=(5:Int)))=true →
 (((decide ((p.kids.getD 1 zP).kind=(5:Int)))=true →
 (a0h (1:Int) (p.kids.getD 0 zP).kids.length∧(a0h (1:Int) (p.kids.getD 1 zP).kids.length∧(a0d (p.kids.getD 0 zP).kind →
 (a0d (p.kids.getD 1 zP).kind →
 (b2o p ru))))))∧((decide ((p.kids.getD 1 zP).kind=(5:Int)))=(!true) →
 (a0d (p.kids.getD 0 zP).kind →
 (a0d (p.kids.getD 1 zP).kind →
 (b2p p ru))))))∧((decide ((p.kids.getD 0 zP).kind=(5:Int)))=(!true) →
 ((false=true →
 (a0h (1:Int) (p.kids.getD 0 zP).kids.length∧(a0h (1:Int) (p.kids.getD 1 zP).kids.length∧(a0d (p.kids.getD 0 zP).kind →
 (b2o p ru)))))∧(false=(!true) →
 (a0d (p.kids.getD 0 zP).kind →
 (b2p p ru)))))))∧((decide (ru=(9:Int)))=(!true) →
 ((false=true →
 (((decide ((p.kids.getD 1 zP).kind=(5:Int)))=true →
 (a0h (1:Int) (p.kids.getD 0 zP).kids.length∧(a0h (1:Int) (p.kids.getD 1 zP).kids.length∧(a0d (p.kids.getD 1 zP).kind →
 (b2o p ru)))))∧((decide ((p.kids.getD 1 zP).kind=(5:Int)))=(!true) →
 (a0d (p.kids.getD 1 zP).kind →
 (b2p p ru)))))∧(false=(!true) →
 ((false=true →
 (a0h (1:Int) (p.kids.getD 0 zP).kids.length∧(a0h (1:Int) (p.kids.getD 1 zP).kids.length∧(b2o p ru))))∧(false=(!true) →
 (b2p p ru)))))))∧(∀ u3:Unit,(True →
 (((decide (ru=9)&&a8b (p.kids.getD 0 zP) (p.kids.getD 1 zP))=true →
 (a0h (0:Int) (p.kids.getD 0 zP).kids.length∧(a0h (0:Int) (p.kids.getD 1 zP).kids.length∧(a0h (1:Int) (p.kids.getD 0 zP).kids.length∧((p.kids.getD 0 zP).kids.length≤140737488355328 →
 ((p.kids.getD 1 zP).kids.length≤140737488355328 →
 ((p.kids.getD 0 zP).kids.length≤140737488355328 →
 ((a0g (a0a.mk 5 0 zE [(a0a.mk 6 0 p.cond [((p.kids.getD 0 zP).kids.getD 0 zP),((p.kids.getD 1 zP).kids.getD 0 zP)]),((p.kids.getD 0 zP).kids.getD 1 zP)]))=(rwV p ru)∧true=(rwO p ru)))))))))∧((decide (ru=9)&&a8b (p.kids.getD 0 zP) (p.kids.getD 1 zP))=false →
 (zP=(rwV p ru)∧false=(rwO p ru)))))))))))))))))))))))))))))))))))))))))))))))))))))))))))∧((decide (p.kind=(6:Int)))=false →
 (((decide (p.kind=(5:Int)))=true →
 (p.kids.length≤140737488355328 →
 (a0h (0:Int) p.kids.length∧(p.kids.length≤140737488355328 →
 (a0h (1:Int) p.kids.length∧(p.kids=p.kids∧(p.kids=p.kids∧(a0h (0:Int) p.kids.length∧((p.kids.getD 0 zP)=(p.kids.getD 0 zP)∧((p.kids.getD 0 zP)=(p.kids.getD 0 zP)∧(p.kids=p.kids∧(p.kids=p.kids∧(a0h (1:Int) p.kids.length∧((p.kids.getD 1 zP)=(p.kids.getD 1 zP)∧((p.kids.getD 1 zP)=(p.kids.getD 1 zP)∧(p.kids=p.kids∧(p.kids=p.kids∧(a0h (0:Int) p.kids.length∧((p.kids.getD 0 zP)=(p.kids.getD 0 zP)∧((p.kids.getD 0 zP)=(p.kids.getD 0 zP)∧(p.kids=p.kids∧(p.kids=p.kids∧(a0h (1:Int) p.kids.length∧((p.kids.getD 1 zP)=(p.kids.getD 1 zP)∧((p.kids.getD 1 zP)=(p.kids.getD 1 zP)∧(p.kids=p.kids∧(p.kids=p.kids∧(a0h (0:Int) p.kids.length∧((p.kids.getD 0 zP)=(p.kids.getD 0 zP)∧((p.kids.getD 0 zP)=(p.kids.getD 0 zP)∧(p.kids=p.kids∧(p.kids=p.kids∧(a0h (1:Int) p.kids.length∧((p.kids.getD 1 zP)=(p.kids.getD 1 zP)∧((p.kids.getD 1 zP)=(p.kids.getD 1 zP)∧(p.kids=p.kids∧(p.kids=p.kids∧(a0h (1:Int) p.kids.length∧((p.kids.getD 1 zP)=(p.kids.getD 1 zP)∧((p.kids.getD 1 zP)=(p.kids.getD 1 zP)∧((((decide (ru=(5:Int)))=true →
 (a0d (p.kids.getD 0 zP).kind →
 (∃ u1:Unit,(True∧((ru=ru∧(True∧(false=false∧(True∧(True∧((decide ((p.kids.getD 0 zP).kind=(5:Int)))=(decide (ru=5)&&decide ((p.kids.getD 0 zP).kind=5))∧True))))))∧(a1n p))))))∧((decide (ru=(5:Int)))=(!true) →
 (∃ u1:Unit,(True∧((ru=ru∧(True∧(false=false∧(True∧(True∧(false=(decide (ru=5)&&decide ((p.kids.getD 0 zP).kind=5))∧True))))))∧(a1n p))))))∧(∀ u1:Unit,(True →
 (((decide (ru=5)&&decide ((p.kids.getD 0 zP).kind=5))=true →
 (a0h (0:Int) (p.kids.getD 0 zP).kids.length∧(a0h (1:Int) (p.kids.getD 0 zP).kids.length∧((p.kids.getD 0 zP).kids.length≤140737488355328 →
 ((p.kids.getD 0 zP).kids.length≤140737488355328 →
 ((a0g (a0a.mk 5 0 zE [((p.kids.getD 0 zP).kids.getD 0 zP),(a0a.mk 5 0 zE [((p.kids.getD 0 zP).kids.getD 1 zP),(a0g (p.kids.getD 1 zP))])]))=(rwV p ru)∧true=(rwO p ru)))))))∧((decide (ru=5)&&decide ((p.kids.getD 0 zP).kind=5))=false →
 ((((decide (ru=(6:Int)))=true →
 (a0d (p.kids.getD 1 zP).kind →
 (∃ u2:Unit,(True∧((ru=ru∧(True∧(false=false∧(True∧(True∧((decide ((p.kids.getD 1 zP).kind=(5:Int)))=(decide (ru=6)&&decide ((p.kids.getD 1 zP).kind=5))∧True))))))∧(a1n p))))))∧((decide (ru=(6:Int)))=(!true) →
 (∃ u2:Unit,(True∧((ru=ru∧(True∧(false=false∧(True∧(True∧(false=(decide (ru=6)&&decide ((p.kids.getD 1 zP).kind=5))∧True))))))∧(a1n p))))))∧(∀ u2:Unit,(True →
 (((decide (ru=6)&&decide ((p.kids.getD 1 zP).kind=5))=true →
 (a0h (0:Int) (p.kids.getD 1 zP).kids.length∧(a0h (1:Int) (p.kids.getD 1 zP).kids.length∧((p.kids.getD 1 zP).kids.length≤140737488355328 →
 ((p.kids.getD 1 zP).kids.length≤140737488355328 →
 ((a0g (a0a.mk 5 0 zE [(a0a.mk 5 0 zE [(a0g (p.kids.getD 0 zP)),((p.kids.getD 1 zP).kids.getD 0 zP)]),((p.kids.getD 1 zP).kids.getD 1 zP)]))=(rwV p ru)∧true=(rwO p ru)))))))∧((decide (ru=6)&&decide ((p.kids.getD 1 zP).kind=5))=false →
 ((((decide (ru=(7:Int)))=true →
 (a0d (p.kids.getD 0 zP).kind →
 (∃ u3:Unit,(True∧((ru=ru∧(True∧(false=false∧(True∧(True∧((decide ((p.kids.getD 0 zP).kind=(1:Int)))=(decide (ru=7)&&decide ((p.kids.getD 0 zP).kind=1))∧True))))))∧(a1n p))))))∧((decide (ru=(7:Int)))=(!true) →
 (∃ u3:Unit,(True∧((ru=ru∧(True∧(false=false∧(True∧(True∧(false=(decide (ru=7)&&decide ((p.kids.getD 0 zP).kind=1))∧True))))))∧(a1n p))))))∧(∀ u3:Unit,(True →
 (((decide (ru=7)&&decide ((p.kids.getD 0 zP).kind=1))=true →
 ((a0g (p.kids.getD 1 zP))=(rwV p ru)∧true=(rwO p ru)))∧((decide (ru=7)&&decide ((p.kids.getD 0 zP).kind=1))=false →
 ((((decide (ru=(7:Int)))=true →
 (a0d (p.kids.getD 1 zP).kind →
 (∃ u4:Unit,(True∧((ru=ru∧(True∧(false=false∧(True∧(True∧((decide ((p.kids.getD 1 zP).kind=(1:Int)))=(decide (ru=7)&&decide ((p.kids.getD 1 zP).kind=1))∧True))))))∧(a1n p))))))∧((decide (ru=(7:Int)))=(!true) →
 (∃ u4:Unit,(True∧((ru=ru∧(True∧(false=false∧(True∧(True∧(false=(decide (ru=7)&&decide ((p.kids.getD 1 zP).kind=1))∧True))))))∧(a1n p))))))∧(∀ u4:Unit,(True →
 (((decide (ru=7)&&decide ((p.kids.getD 1 zP).kind=1))=true →
 ((a0g (p.kids.getD 0 zP))=(rwV p ru)∧true=(rwO p ru)))∧((decide (ru=7)&&decide ((p.kids.getD 1 zP).kind=1))=false →
 ((((decide (ru=(8:Int)))=true →
 (a0d (p.kids.getD 0 zP).kind →
 (∃ u5:Unit,(True∧((ru=ru∧(True∧(false=false∧(True∧(True∧((decide ((p.kids.getD 0 zP).kind=(6:Int)))=(decide (ru=8)&&decide ((p.kids.getD 0 zP).kind=6))∧True))))))∧(a1n p))))))∧((decide (ru=(8:Int)))=(!true) →
 (∃ u5:Unit,(True∧((ru=ru∧(True∧(false=false∧(True∧(True∧(false=(decide (ru=8)&&decide ((p.kids.getD 0 zP).kind=6))∧True))))))∧(a1n p))))))∧(∀ u5:Unit,(True →
 (((decide (ru=8)&&decide ((p.kids.getD 0 zP).kind=6))=true →
 (a0h (0:Int) (p.kids.getD 0 zP).kids.length∧(a0h (1:Int) (p.kids.getD 0 zP).kids.length∧((p.kids.getD 0 zP).kids.length≤140737488355328 →
 ((p.kids.getD 0 zP).kids.length≤140737488355328 →
 ((a0g (a0a.mk 6 0 (a0w (p.kids.getD 0 zP).cond) [(a0a.mk 5 0 zE [((p.kids.getD 0 zP).kids.getD 0 zP),(a0g (p.kids.getD 1 zP))]),(a0a.mk 5 0 zE [((p.kids.getD 0 zP).kids.getD 1 zP),(a0g (p.kids.getD 1 zP))])]))=(rwV p ru)∧true=(rwO p ru)))))))∧((decide (ru=8)&&decide ((p.kids.getD 0 zP).kind=6))=false →
 ((((decide (ru=(12:Int)))=true →
 (a0d (p.kids.getD 0 zP).kind →
 (∃ u6:Unit,(True∧((ru=ru∧(True∧(false=false∧(True∧(True∧((decide ((p.kids.getD 0 zP).kind=(4:Int)))=(decide (ru=12)&&decide ((p.kids.getD 0 zP).kind=4))∧True))))))∧(a1n p))))))∧((decide (ru=(12:Int)))=(!true) →
 (∃ u6:Unit,(True∧((ru=ru∧(True∧(false=false∧(True∧(True∧(false=(decide (ru=12)&&decide ((p.kids.getD 0 zP).kind=4))∧True))))))∧(a1n p))))))∧(∀ u6:Unit,(True →
 (((decide (ru=12)&&decide ((p.kids.getD 0 zP).kind=4))=true →
 ((a0g (a0a.mk 6 0 (a0w (p.kids.getD 0 zP).cond) [(a0g (p.kids.getD 1 zP)),(a0a.mk (2:Int) (0:Int) zE [])]))=(rwV p ru)∧true=(rwO p ru)))∧((decide (ru=12)&&decide ((p.kids.getD 0 zP).kind=4))=false →
 ((((decide (ru=(13:Int)))=true →
 (a0d (p.kids.getD 0 zP).kind →
 (((decide ((p.kids.getD 0 zP).kind=(7:Int)))=true →
 (c5t p ru))∧((decide ((p.kids.getD 0 zP).kind=(7:Int)))=(!true) →
 ((false=true →
 (b8b p ru))∧(false=(!true) →
 (b8c p ru)))))))∧((decide (ru=(13:Int)))=(!true) →
 ((false=true →
 (c5t p ru))∧(false=(!true) →
 ((false=true →
 (b8b p ru))∧(false=(!true) →
 (b8c p ru)))))))∧(∀ u7:Unit,(True →
 (((decide (ru=13)&&b2j (p.kids.getD 0 zP) (p.kids.getD 1 zP))=true →
 (a0h (1:Int) (p.kids.getD 1 zP).kids.length∧((p.kids.getD 1 zP).kids.length≤140737488355328 →
 ((a0g (a0a.mk 5 0 zE [(a0g (p.kids.getD 0 zP)),((p.kids.getD 1 zP).kids.getD 1 zP)]))=(rwV p ru)∧true=(rwO p ru)))))∧((decide (ru=13)&&b2j (p.kids.getD 0 zP) (p.kids.getD 1 zP))=false →
 (zP=(rwV p ru)∧false=(rwO p ru)))))))))))))))))))))))))))))))))))))))))))))))))))))))))))))))))))))))))))))∧((decide (p.kind=(5:Int)))=false →
 (zP=(rwV p ru)∧false=(rwO p ru)))))))))):=by kernel_rfl
theorem e5w(hE:a0p [b2u,a6v,a9p,a9q,a4b,b7k,b2s]):Ctr.Good b0p:=by
 refine⟨a0j c7j rfl (by decide),?_⟩
 show ∀ (p:a0a) (ru:Int),(prT p)→a1f prog c1e [.val ⟨(.st .prog),p⟩, .val ⟨(.int .i64),ru⟩] (·=[⟨(.st .prog),rwV p ru⟩,⟨.bool,rwO p ru⟩])
 intro p ru hp
 refine a0z (wr:=[]) (cl:=[]) (ro:=[2,80]) hE c7j d9y (d0q p ru) ?_
 rewrite [e6d p ru]
 have F:=a5c p hp
 have Fx:=fun h=>a5c (p.kids.getD 0 zP) (F.kid 0 h)
 have Fy:=fun h=>a5c (p.kids.getD 1 zP) (F.kid 1 h)
 refine fun a0=>⟨fun a1=>⟨?_,⟨?_,fun a2=>⟨?_,?_⟩⟩⟩,fun a1=>⟨fun a2=>fun a3=>⟨?_,fun a4=>⟨?_,⟨rfl,⟨rfl,⟨?_,⟨rfl,⟨rfl,⟨rfl,⟨rfl,⟨?_,⟨rfl,⟨rfl,⟨rfl,⟨rfl,⟨?_,⟨rfl,⟨rfl,⟨rfl,⟨rfl,⟨?_,⟨rfl,⟨rfl,⟨rfl,⟨rfl,⟨?_,⟨rfl,⟨rfl,⟨rfl,⟨rfl,⟨?_,⟨rfl,⟨rfl,⟨rfl,⟨rfl,⟨?_,⟨rfl,⟨rfl,⟨⟨fun a5=>⟨fun a6=>⟨fun a7=>⟨?_,⟨?_,fun a8=>fun a9=>fun a10=>⟨(),⟨?_,⟨⟨rfl,⟨rfl,⟨trivial,⟨rfl,⟨trivial,⟨trivial,⟨?_,trivial⟩⟩⟩⟩⟩⟩⟩,⟨⟨rfl,⟨rfl,⟨rfl,⟨rfl,⟨rfl,⟨rfl,trivial⟩⟩⟩⟩⟩⟩,⟨⟨rfl,⟨rfl,⟨rfl,⟨rfl,⟨rfl,⟨rfl,trivial⟩⟩⟩⟩⟩⟩,⟨⟨rfl,⟨rfl,⟨rfl,⟨rfl,⟨trivial,⟨trivial,trivial⟩⟩⟩⟩⟩⟩,trivial⟩⟩⟩⟩⟩⟩⟩⟩,fun a7=>fun a8=>⟨(),⟨?_,⟨⟨rfl,⟨rfl,⟨trivial,⟨rfl,⟨trivial,⟨trivial,⟨?_,trivial⟩⟩⟩⟩⟩⟩⟩,⟨⟨rfl,⟨rfl,⟨rfl,⟨rfl,⟨rfl,⟨rfl,trivial⟩⟩⟩⟩⟩⟩,⟨⟨rfl,⟨rfl,⟨rfl,⟨rfl,⟨rfl,⟨rfl,trivial⟩⟩⟩⟩⟩⟩,⟨⟨rfl,⟨rfl,⟨rfl,⟨rfl,⟨trivial,⟨trivial,trivial⟩⟩⟩⟩⟩⟩,trivial⟩⟩⟩⟩⟩⟩⟩,fun a6=>⟨fun a7=>⟨?_,⟨?_,fun a8=>fun a9=>fun a10=>⟨(),⟨?_,⟨⟨rfl,⟨rfl,⟨trivial,⟨rfl,⟨trivial,⟨trivial,⟨?_,trivial⟩⟩⟩⟩⟩⟩⟩,⟨⟨rfl,⟨rfl,⟨rfl,⟨rfl,⟨rfl,⟨rfl,trivial⟩⟩⟩⟩⟩⟩,⟨⟨rfl,⟨rfl,⟨rfl,⟨rfl,⟨rfl,⟨rfl,trivial⟩⟩⟩⟩⟩⟩,⟨⟨rfl,⟨rfl,⟨rfl,⟨rfl,⟨trivial,⟨trivial,trivial⟩⟩⟩⟩⟩⟩,trivial⟩⟩⟩⟩⟩⟩⟩⟩,fun a7=>fun a8=>⟨(),⟨?_,⟨⟨rfl,⟨rfl,⟨trivial,⟨rfl,⟨trivial,⟨trivial,⟨?_,trivial⟩⟩⟩⟩⟩⟩⟩,⟨⟨rfl,⟨rfl,⟨rfl,⟨rfl,⟨rfl,⟨rfl,trivial⟩⟩⟩⟩⟩⟩,⟨⟨rfl,⟨rfl,⟨rfl,⟨rfl,⟨rfl,⟨rfl,trivial⟩⟩⟩⟩⟩⟩,⟨⟨rfl,⟨rfl,⟨rfl,⟨rfl,⟨trivial,⟨trivial,trivial⟩⟩⟩⟩⟩⟩,trivial⟩⟩⟩⟩⟩⟩⟩⟩,fun a5=>⟨fun a6=>⟨fun a7=>⟨?_,⟨?_,fun a8=>fun a9=>⟨(),⟨?_,⟨⟨rfl,⟨rfl,⟨trivial,⟨rfl,⟨trivial,⟨trivial,⟨?_,trivial⟩⟩⟩⟩⟩⟩⟩,⟨⟨rfl,⟨rfl,⟨rfl,⟨rfl,⟨rfl,⟨rfl,trivial⟩⟩⟩⟩⟩⟩,⟨⟨rfl,⟨rfl,⟨rfl,⟨rfl,⟨rfl,⟨rfl,trivial⟩⟩⟩⟩⟩⟩,⟨⟨rfl,⟨rfl,⟨rfl,⟨rfl,⟨trivial,⟨trivial,trivial⟩⟩⟩⟩⟩⟩,trivial⟩⟩⟩⟩⟩⟩⟩⟩,fun a7=>⟨(),⟨?_,⟨⟨rfl,⟨rfl,⟨trivial,⟨rfl,⟨trivial,⟨trivial,⟨?_,trivial⟩⟩⟩⟩⟩⟩⟩,⟨⟨rfl,⟨rfl,⟨rfl,⟨rfl,⟨rfl,⟨rfl,trivial⟩⟩⟩⟩⟩⟩,⟨⟨rfl,⟨rfl,⟨rfl,⟨rfl,⟨rfl,⟨rfl,trivial⟩⟩⟩⟩⟩⟩,⟨⟨rfl,⟨rfl,⟨rfl,⟨rfl,⟨trivial,⟨trivial,trivial⟩⟩⟩⟩⟩⟩,trivial⟩⟩⟩⟩⟩⟩⟩,fun a6=>⟨fun a7=>⟨?_,⟨?_,fun a8=>fun a9=>⟨(),⟨?_,⟨⟨rfl,⟨rfl,⟨trivial,⟨rfl,⟨trivial,⟨trivial,⟨?_,trivial⟩⟩⟩⟩⟩⟩⟩,⟨⟨rfl,⟨rfl,⟨rfl,⟨rfl,⟨rfl,⟨rfl,trivial⟩⟩⟩⟩⟩⟩,⟨⟨rfl,⟨rfl,⟨rfl,⟨rfl,⟨rfl,⟨rfl,trivial⟩⟩⟩⟩⟩⟩,⟨⟨rfl,⟨rfl,⟨rfl,⟨rfl,⟨trivial,⟨trivial,trivial⟩⟩⟩⟩⟩⟩,trivial⟩⟩⟩⟩⟩⟩⟩⟩,fun a7=>⟨(),⟨?_,⟨⟨rfl,⟨rfl,⟨trivial,⟨rfl,⟨trivial,⟨trivial,⟨?_,trivial⟩⟩⟩⟩⟩⟩⟩,⟨⟨rfl,⟨rfl,⟨rfl,⟨rfl,⟨rfl,⟨rfl,trivial⟩⟩⟩⟩⟩⟩,⟨⟨rfl,⟨rfl,⟨rfl,⟨rfl,⟨rfl,⟨rfl,trivial⟩⟩⟩⟩⟩⟩,⟨⟨rfl,⟨rfl,⟨rfl,⟨rfl,⟨trivial,⟨trivial,trivial⟩⟩⟩⟩⟩⟩,trivial⟩⟩⟩⟩⟩⟩⟩⟩⟩,fun u1=>fun a5=>⟨fun a6=>fun a7=>⟨?_,⟨?_,?_⟩⟩,fun a6=>⟨⟨fun a7=>⟨(),⟨?_,⟨⟨rfl,⟨rfl,⟨trivial,⟨rfl,⟨trivial,⟨trivial,⟨?_,trivial⟩⟩⟩⟩⟩⟩⟩,⟨⟨rfl,⟨rfl,⟨rfl,⟨rfl,⟨rfl,⟨rfl,trivial⟩⟩⟩⟩⟩⟩,⟨⟨rfl,⟨rfl,⟨rfl,⟨rfl,⟨rfl,⟨rfl,trivial⟩⟩⟩⟩⟩⟩,⟨⟨rfl,⟨rfl,⟨rfl,⟨rfl,⟨trivial,⟨trivial,trivial⟩⟩⟩⟩⟩⟩,trivial⟩⟩⟩⟩⟩⟩,fun a7=>⟨(),⟨?_,⟨⟨rfl,⟨rfl,⟨trivial,⟨rfl,⟨trivial,⟨trivial,⟨?_,trivial⟩⟩⟩⟩⟩⟩⟩,⟨⟨rfl,⟨rfl,⟨rfl,⟨rfl,⟨rfl,⟨rfl,trivial⟩⟩⟩⟩⟩⟩,⟨⟨rfl,⟨rfl,⟨rfl,⟨rfl,⟨rfl,⟨rfl,trivial⟩⟩⟩⟩⟩⟩,⟨⟨rfl,⟨rfl,⟨rfl,⟨rfl,⟨trivial,⟨trivial,trivial⟩⟩⟩⟩⟩⟩,trivial⟩⟩⟩⟩⟩⟩⟩,fun u2=>fun a7=>⟨fun a8=>⟨?_,?_⟩,fun a8=>⟨fun a9=>⟨?_,?_⟩,fun a9=>⟨⟨fun a10=>⟨fun a11=>⟨fun a12=>⟨?_,⟨?_,fun a13=>fun a14=>fun a15=>fun a16=>⟨(),⟨?_,⟨⟨rfl,⟨trivial,⟨rfl,⟨trivial,⟨trivial,⟨?_,trivial⟩⟩⟩⟩⟩⟩,⟨⟨rfl,⟨rfl,⟨rfl,⟨rfl,⟨rfl,⟨rfl,trivial⟩⟩⟩⟩⟩⟩,⟨⟨rfl,⟨rfl,⟨rfl,⟨rfl,⟨rfl,⟨rfl,trivial⟩⟩⟩⟩⟩⟩,⟨⟨rfl,⟨rfl,⟨rfl,⟨rfl,⟨trivial,⟨trivial,trivial⟩⟩⟩⟩⟩⟩,trivial⟩⟩⟩⟩⟩⟩⟩⟩,fun a12=>fun a13=>fun a14=>⟨(),⟨?_,⟨⟨rfl,⟨trivial,⟨rfl,⟨trivial,⟨trivial,⟨?_,trivial⟩⟩⟩⟩⟩⟩,⟨⟨rfl,⟨rfl,⟨rfl,⟨rfl,⟨rfl,⟨rfl,trivial⟩⟩⟩⟩⟩⟩,⟨⟨rfl,⟨rfl,⟨rfl,⟨rfl,⟨rfl,⟨rfl,trivial⟩⟩⟩⟩⟩⟩,⟨⟨rfl,⟨rfl,⟨rfl,⟨rfl,⟨trivial,⟨trivial,trivial⟩⟩⟩⟩⟩⟩,trivial⟩⟩⟩⟩⟩⟩⟩,fun a11=>⟨fun a12=>⟨?_,⟨?_,fun a13=>fun a14=>fun a15=>⟨(),⟨?_,⟨⟨rfl,⟨trivial,⟨rfl,⟨trivial,⟨trivial,⟨?_,trivial⟩⟩⟩⟩⟩⟩,⟨⟨rfl,⟨rfl,⟨rfl,⟨rfl,⟨rfl,⟨rfl,trivial⟩⟩⟩⟩⟩⟩,⟨⟨rfl,⟨rfl,⟨rfl,⟨rfl,⟨rfl,⟨rfl,trivial⟩⟩⟩⟩⟩⟩,⟨⟨rfl,⟨rfl,⟨rfl,⟨rfl,⟨trivial,⟨trivial,trivial⟩⟩⟩⟩⟩⟩,trivial⟩⟩⟩⟩⟩⟩⟩⟩,fun a12=>fun a13=>⟨(),⟨?_,⟨⟨rfl,⟨trivial,⟨rfl,⟨trivial,⟨trivial,⟨?_,trivial⟩⟩⟩⟩⟩⟩,⟨⟨rfl,⟨rfl,⟨rfl,⟨rfl,⟨rfl,⟨rfl,trivial⟩⟩⟩⟩⟩⟩,⟨⟨rfl,⟨rfl,⟨rfl,⟨rfl,⟨rfl,⟨rfl,trivial⟩⟩⟩⟩⟩⟩,⟨⟨rfl,⟨rfl,⟨rfl,⟨rfl,⟨trivial,⟨trivial,trivial⟩⟩⟩⟩⟩⟩,trivial⟩⟩⟩⟩⟩⟩⟩⟩,fun a10=>⟨fun a11=>⟨fun a12=>⟨?_,⟨?_,fun a13=>fun a14=>fun a15=>⟨(),⟨?_,⟨⟨rfl,⟨trivial,⟨rfl,⟨trivial,⟨trivial,⟨?_,trivial⟩⟩⟩⟩⟩⟩,⟨⟨rfl,⟨rfl,⟨rfl,⟨rfl,⟨rfl,⟨rfl,trivial⟩⟩⟩⟩⟩⟩,⟨⟨rfl,⟨rfl,⟨rfl,⟨rfl,⟨rfl,⟨rfl,trivial⟩⟩⟩⟩⟩⟩,⟨⟨rfl,⟨rfl,⟨rfl,⟨rfl,⟨trivial,⟨trivial,trivial⟩⟩⟩⟩⟩⟩,trivial⟩⟩⟩⟩⟩⟩⟩⟩,fun a12=>fun a13=>⟨(),⟨?_,⟨⟨rfl,⟨trivial,⟨rfl,⟨trivial,⟨trivial,⟨?_,trivial⟩⟩⟩⟩⟩⟩,⟨⟨rfl,⟨rfl,⟨rfl,⟨rfl,⟨rfl,⟨rfl,trivial⟩⟩⟩⟩⟩⟩,⟨⟨rfl,⟨rfl,⟨rfl,⟨rfl,⟨rfl,⟨rfl,trivial⟩⟩⟩⟩⟩⟩,⟨⟨rfl,⟨rfl,⟨rfl,⟨rfl,⟨trivial,⟨trivial,trivial⟩⟩⟩⟩⟩⟩,trivial⟩⟩⟩⟩⟩⟩⟩,fun a11=>⟨fun a12=>⟨?_,⟨?_,fun a13=>fun a14=>⟨(),⟨?_,⟨⟨rfl,⟨trivial,⟨rfl,⟨trivial,⟨trivial,⟨?_,trivial⟩⟩⟩⟩⟩⟩,⟨⟨rfl,⟨rfl,⟨rfl,⟨rfl,⟨rfl,⟨rfl,trivial⟩⟩⟩⟩⟩⟩,⟨⟨rfl,⟨rfl,⟨rfl,⟨rfl,⟨rfl,⟨rfl,trivial⟩⟩⟩⟩⟩⟩,⟨⟨rfl,⟨rfl,⟨rfl,⟨rfl,⟨trivial,⟨trivial,trivial⟩⟩⟩⟩⟩⟩,trivial⟩⟩⟩⟩⟩⟩⟩⟩,fun a12=>⟨(),⟨?_,⟨⟨rfl,⟨trivial,⟨rfl,⟨trivial,⟨trivial,⟨?_,trivial⟩⟩⟩⟩⟩⟩,⟨⟨rfl,⟨rfl,⟨rfl,⟨rfl,⟨rfl,⟨rfl,trivial⟩⟩⟩⟩⟩⟩,⟨⟨rfl,⟨rfl,⟨rfl,⟨rfl,⟨rfl,⟨rfl,trivial⟩⟩⟩⟩⟩⟩,⟨⟨rfl,⟨rfl,⟨rfl,⟨rfl,⟨trivial,⟨trivial,trivial⟩⟩⟩⟩⟩⟩,trivial⟩⟩⟩⟩⟩⟩⟩⟩⟩,fun u3=>fun a10=>⟨fun a11=>⟨?_,⟨?_,⟨?_,fun a12=>fun a13=>fun a14=>⟨?_,?_⟩⟩⟩⟩,fun a11=>⟨?_,?_⟩⟩⟩⟩⟩⟩⟩⟩⟩⟩⟩⟩⟩⟩⟩⟩⟩⟩⟩⟩⟩⟩⟩⟩⟩⟩⟩⟩⟩⟩⟩⟩⟩⟩⟩⟩⟩⟩⟩⟩⟩⟩⟩⟩⟩,fun a2=>⟨fun a3=>fun a4=>⟨?_,fun a5=>⟨?_,⟨rfl,⟨rfl,⟨?_,⟨rfl,⟨rfl,⟨rfl,⟨rfl,⟨?_,⟨rfl,⟨rfl,⟨rfl,⟨rfl,⟨?_,⟨rfl,⟨rfl,⟨rfl,⟨rfl,⟨?_,⟨rfl,⟨rfl,⟨rfl,⟨rfl,⟨?_,⟨rfl,⟨rfl,⟨rfl,⟨rfl,⟨?_,⟨rfl,⟨rfl,⟨rfl,⟨rfl,⟨?_,⟨rfl,⟨rfl,⟨⟨fun a6=>fun a7=>⟨(),⟨?_,⟨⟨rfl,⟨trivial,⟨rfl,⟨trivial,⟨trivial,⟨?_,trivial⟩⟩⟩⟩⟩⟩,⟨⟨rfl,⟨rfl,⟨rfl,⟨rfl,⟨rfl,⟨rfl,trivial⟩⟩⟩⟩⟩⟩,⟨⟨rfl,⟨rfl,⟨rfl,⟨rfl,⟨rfl,⟨rfl,trivial⟩⟩⟩⟩⟩⟩,⟨⟨rfl,⟨rfl,⟨rfl,⟨rfl,⟨trivial,⟨trivial,trivial⟩⟩⟩⟩⟩⟩,trivial⟩⟩⟩⟩⟩⟩,fun a6=>⟨(),⟨?_,⟨⟨rfl,⟨trivial,⟨rfl,⟨trivial,⟨trivial,⟨?_,trivial⟩⟩⟩⟩⟩⟩,⟨⟨rfl,⟨rfl,⟨rfl,⟨rfl,⟨rfl,⟨rfl,trivial⟩⟩⟩⟩⟩⟩,⟨⟨rfl,⟨rfl,⟨rfl,⟨rfl,⟨rfl,⟨rfl,trivial⟩⟩⟩⟩⟩⟩,⟨⟨rfl,⟨rfl,⟨rfl,⟨rfl,⟨trivial,⟨trivial,trivial⟩⟩⟩⟩⟩⟩,trivial⟩⟩⟩⟩⟩⟩⟩,fun u1=>fun a6=>⟨fun a7=>⟨?_,⟨?_,fun a8=>fun a9=>⟨?_,?_⟩⟩⟩,fun a7=>⟨⟨fun a8=>fun a9=>⟨(),⟨?_,⟨⟨rfl,⟨trivial,⟨rfl,⟨trivial,⟨trivial,⟨?_,trivial⟩⟩⟩⟩⟩⟩,⟨⟨rfl,⟨rfl,⟨rfl,⟨rfl,⟨rfl,⟨rfl,trivial⟩⟩⟩⟩⟩⟩,⟨⟨rfl,⟨rfl,⟨rfl,⟨rfl,⟨rfl,⟨rfl,trivial⟩⟩⟩⟩⟩⟩,⟨⟨rfl,⟨rfl,⟨rfl,⟨rfl,⟨trivial,⟨trivial,trivial⟩⟩⟩⟩⟩⟩,trivial⟩⟩⟩⟩⟩⟩,fun a8=>⟨(),⟨?_,⟨⟨rfl,⟨trivial,⟨rfl,⟨trivial,⟨trivial,⟨?_,trivial⟩⟩⟩⟩⟩⟩,⟨⟨rfl,⟨rfl,⟨rfl,⟨rfl,⟨rfl,⟨rfl,trivial⟩⟩⟩⟩⟩⟩,⟨⟨rfl,⟨rfl,⟨rfl,⟨rfl,⟨rfl,⟨rfl,trivial⟩⟩⟩⟩⟩⟩,⟨⟨rfl,⟨rfl,⟨rfl,⟨rfl,⟨trivial,⟨trivial,trivial⟩⟩⟩⟩⟩⟩,trivial⟩⟩⟩⟩⟩⟩⟩,fun u2=>fun a8=>⟨fun a9=>⟨?_,⟨?_,fun a10=>fun a11=>⟨?_,?_⟩⟩⟩,fun a9=>⟨⟨fun a10=>fun a11=>⟨(),⟨?_,⟨⟨rfl,⟨trivial,⟨rfl,⟨trivial,⟨trivial,⟨?_,trivial⟩⟩⟩⟩⟩⟩,⟨⟨rfl,⟨rfl,⟨rfl,⟨rfl,⟨rfl,⟨rfl,trivial⟩⟩⟩⟩⟩⟩,⟨⟨rfl,⟨rfl,⟨rfl,⟨rfl,⟨rfl,⟨rfl,trivial⟩⟩⟩⟩⟩⟩,⟨⟨rfl,⟨rfl,⟨rfl,⟨rfl,⟨trivial,⟨trivial,trivial⟩⟩⟩⟩⟩⟩,trivial⟩⟩⟩⟩⟩⟩,fun a10=>⟨(),⟨?_,⟨⟨rfl,⟨trivial,⟨rfl,⟨trivial,⟨trivial,⟨?_,trivial⟩⟩⟩⟩⟩⟩,⟨⟨rfl,⟨rfl,⟨rfl,⟨rfl,⟨rfl,⟨rfl,trivial⟩⟩⟩⟩⟩⟩,⟨⟨rfl,⟨rfl,⟨rfl,⟨rfl,⟨rfl,⟨rfl,trivial⟩⟩⟩⟩⟩⟩,⟨⟨rfl,⟨rfl,⟨rfl,⟨rfl,⟨trivial,⟨trivial,trivial⟩⟩⟩⟩⟩⟩,trivial⟩⟩⟩⟩⟩⟩⟩,fun u3=>fun a10=>⟨fun a11=>⟨?_,?_⟩,fun a11=>⟨⟨fun a12=>fun a13=>⟨(),⟨?_,⟨⟨rfl,⟨trivial,⟨rfl,⟨trivial,⟨trivial,⟨?_,trivial⟩⟩⟩⟩⟩⟩,⟨⟨rfl,⟨rfl,⟨rfl,⟨rfl,⟨rfl,⟨rfl,trivial⟩⟩⟩⟩⟩⟩,⟨⟨rfl,⟨rfl,⟨rfl,⟨rfl,⟨rfl,⟨rfl,trivial⟩⟩⟩⟩⟩⟩,⟨⟨rfl,⟨rfl,⟨rfl,⟨rfl,⟨trivial,⟨trivial,trivial⟩⟩⟩⟩⟩⟩,trivial⟩⟩⟩⟩⟩⟩,fun a12=>⟨(),⟨?_,⟨⟨rfl,⟨trivial,⟨rfl,⟨trivial,⟨trivial,⟨?_,trivial⟩⟩⟩⟩⟩⟩,⟨⟨rfl,⟨rfl,⟨rfl,⟨rfl,⟨rfl,⟨rfl,trivial⟩⟩⟩⟩⟩⟩,⟨⟨rfl,⟨rfl,⟨rfl,⟨rfl,⟨rfl,⟨rfl,trivial⟩⟩⟩⟩⟩⟩,⟨⟨rfl,⟨rfl,⟨rfl,⟨rfl,⟨trivial,⟨trivial,trivial⟩⟩⟩⟩⟩⟩,trivial⟩⟩⟩⟩⟩⟩⟩,fun u4=>fun a12=>⟨fun a13=>⟨?_,?_⟩,fun a13=>⟨⟨fun a14=>fun a15=>⟨(),⟨?_,⟨⟨rfl,⟨trivial,⟨rfl,⟨trivial,⟨trivial,⟨?_,trivial⟩⟩⟩⟩⟩⟩,⟨⟨rfl,⟨rfl,⟨rfl,⟨rfl,⟨rfl,⟨rfl,trivial⟩⟩⟩⟩⟩⟩,⟨⟨rfl,⟨rfl,⟨rfl,⟨rfl,⟨rfl,⟨rfl,trivial⟩⟩⟩⟩⟩⟩,⟨⟨rfl,⟨rfl,⟨rfl,⟨rfl,⟨trivial,⟨trivial,trivial⟩⟩⟩⟩⟩⟩,trivial⟩⟩⟩⟩⟩⟩,fun a14=>⟨(),⟨?_,⟨⟨rfl,⟨trivial,⟨rfl,⟨trivial,⟨trivial,⟨?_,trivial⟩⟩⟩⟩⟩⟩,⟨⟨rfl,⟨rfl,⟨rfl,⟨rfl,⟨rfl,⟨rfl,trivial⟩⟩⟩⟩⟩⟩,⟨⟨rfl,⟨rfl,⟨rfl,⟨rfl,⟨rfl,⟨rfl,trivial⟩⟩⟩⟩⟩⟩,⟨⟨rfl,⟨rfl,⟨rfl,⟨rfl,⟨trivial,⟨trivial,trivial⟩⟩⟩⟩⟩⟩,trivial⟩⟩⟩⟩⟩⟩⟩,fun u5=>fun a14=>⟨fun a15=>⟨?_,⟨?_,fun a16=>fun a17=>⟨?_,?_⟩⟩⟩,fun a15=>⟨⟨fun a16=>fun a17=>⟨(),⟨?_,⟨⟨rfl,⟨trivial,⟨rfl,⟨trivial,⟨trivial,⟨?_,trivial⟩⟩⟩⟩⟩⟩,⟨⟨rfl,⟨rfl,⟨rfl,⟨rfl,⟨rfl,⟨rfl,trivial⟩⟩⟩⟩⟩⟩,⟨⟨rfl,⟨rfl,⟨rfl,⟨rfl,⟨rfl,⟨rfl,trivial⟩⟩⟩⟩⟩⟩,⟨⟨rfl,⟨rfl,⟨rfl,⟨rfl,⟨trivial,⟨trivial,trivial⟩⟩⟩⟩⟩⟩,trivial⟩⟩⟩⟩⟩⟩,fun a16=>⟨(),⟨?_,⟨⟨rfl,⟨trivial,⟨rfl,⟨trivial,⟨trivial,⟨?_,trivial⟩⟩⟩⟩⟩⟩,⟨⟨rfl,⟨rfl,⟨rfl,⟨rfl,⟨rfl,⟨rfl,trivial⟩⟩⟩⟩⟩⟩,⟨⟨rfl,⟨rfl,⟨rfl,⟨rfl,⟨rfl,⟨rfl,trivial⟩⟩⟩⟩⟩⟩,⟨⟨rfl,⟨rfl,⟨rfl,⟨rfl,⟨trivial,⟨trivial,trivial⟩⟩⟩⟩⟩⟩,trivial⟩⟩⟩⟩⟩⟩⟩,fun u6=>fun a16=>⟨fun a17=>⟨?_,?_⟩,fun a17=>⟨⟨fun a18=>fun a19=>⟨fun a20=>fun a21=>⟨fun a22=>⟨(),⟨?_,⟨⟨trivial,⟨rfl,⟨trivial,⟨trivial,⟨?_,trivial⟩⟩⟩⟩⟩,⟨⟨rfl,⟨rfl,⟨rfl,⟨rfl,⟨rfl,⟨rfl,trivial⟩⟩⟩⟩⟩⟩,⟨⟨rfl,⟨rfl,⟨rfl,⟨rfl,⟨rfl,⟨rfl,trivial⟩⟩⟩⟩⟩⟩,⟨⟨rfl,⟨rfl,⟨rfl,⟨rfl,⟨trivial,⟨trivial,trivial⟩⟩⟩⟩⟩⟩,trivial⟩⟩⟩⟩⟩⟩,fun a22=>⟨(),⟨?_,⟨⟨trivial,⟨rfl,⟨trivial,⟨trivial,⟨?_,trivial⟩⟩⟩⟩⟩,⟨⟨rfl,⟨rfl,⟨rfl,⟨rfl,⟨rfl,⟨rfl,trivial⟩⟩⟩⟩⟩⟩,⟨⟨rfl,⟨rfl,⟨rfl,⟨rfl,⟨rfl,⟨rfl,trivial⟩⟩⟩⟩⟩⟩,⟨⟨rfl,⟨rfl,⟨rfl,⟨rfl,⟨trivial,⟨trivial,trivial⟩⟩⟩⟩⟩⟩,trivial⟩⟩⟩⟩⟩⟩⟩,fun a20=>⟨fun a21=>⟨(),⟨?_,⟨⟨trivial,⟨rfl,⟨trivial,⟨trivial,⟨?_,trivial⟩⟩⟩⟩⟩,⟨⟨rfl,⟨rfl,⟨rfl,⟨rfl,⟨rfl,⟨rfl,trivial⟩⟩⟩⟩⟩⟩,⟨⟨rfl,⟨rfl,⟨rfl,⟨rfl,⟨rfl,⟨rfl,trivial⟩⟩⟩⟩⟩⟩,⟨⟨rfl,⟨rfl,⟨rfl,⟨rfl,⟨trivial,⟨trivial,trivial⟩⟩⟩⟩⟩⟩,trivial⟩⟩⟩⟩⟩⟩,fun a21=>⟨(),⟨?_,⟨⟨trivial,⟨rfl,⟨trivial,⟨trivial,⟨?_,trivial⟩⟩⟩⟩⟩,⟨⟨rfl,⟨rfl,⟨rfl,⟨rfl,⟨rfl,⟨rfl,trivial⟩⟩⟩⟩⟩⟩,⟨⟨rfl,⟨rfl,⟨rfl,⟨rfl,⟨rfl,⟨rfl,trivial⟩⟩⟩⟩⟩⟩,⟨⟨rfl,⟨rfl,⟨rfl,⟨rfl,⟨trivial,⟨trivial,trivial⟩⟩⟩⟩⟩⟩,trivial⟩⟩⟩⟩⟩⟩⟩⟩,fun a18=>⟨fun a19=>fun a20=>⟨fun a21=>⟨(),⟨?_,⟨⟨trivial,⟨rfl,⟨trivial,⟨trivial,⟨?_,trivial⟩⟩⟩⟩⟩,⟨⟨rfl,⟨rfl,⟨rfl,⟨rfl,⟨rfl,⟨rfl,trivial⟩⟩⟩⟩⟩⟩,⟨⟨rfl,⟨rfl,⟨rfl,⟨rfl,⟨rfl,⟨rfl,trivial⟩⟩⟩⟩⟩⟩,⟨⟨rfl,⟨rfl,⟨rfl,⟨rfl,⟨trivial,⟨trivial,trivial⟩⟩⟩⟩⟩⟩,trivial⟩⟩⟩⟩⟩⟩,fun a21=>⟨(),⟨?_,⟨⟨trivial,⟨rfl,⟨trivial,⟨trivial,⟨?_,trivial⟩⟩⟩⟩⟩,⟨⟨rfl,⟨rfl,⟨rfl,⟨rfl,⟨rfl,⟨rfl,trivial⟩⟩⟩⟩⟩⟩,⟨⟨rfl,⟨rfl,⟨rfl,⟨rfl,⟨rfl,⟨rfl,trivial⟩⟩⟩⟩⟩⟩,⟨⟨rfl,⟨rfl,⟨rfl,⟨rfl,⟨trivial,⟨trivial,trivial⟩⟩⟩⟩⟩⟩,trivial⟩⟩⟩⟩⟩⟩⟩,fun a19=>⟨fun a20=>⟨(),⟨?_,⟨⟨trivial,⟨rfl,⟨trivial,⟨trivial,⟨?_,trivial⟩⟩⟩⟩⟩,⟨⟨rfl,⟨rfl,⟨rfl,⟨rfl,⟨rfl,⟨rfl,trivial⟩⟩⟩⟩⟩⟩,⟨⟨rfl,⟨rfl,⟨rfl,⟨rfl,⟨rfl,⟨rfl,trivial⟩⟩⟩⟩⟩⟩,⟨⟨rfl,⟨rfl,⟨rfl,⟨rfl,⟨trivial,⟨trivial,trivial⟩⟩⟩⟩⟩⟩,trivial⟩⟩⟩⟩⟩⟩,fun a20=>⟨(),⟨?_,⟨⟨trivial,⟨rfl,⟨trivial,⟨trivial,⟨?_,trivial⟩⟩⟩⟩⟩,⟨⟨rfl,⟨rfl,⟨rfl,⟨rfl,⟨rfl,⟨rfl,trivial⟩⟩⟩⟩⟩⟩,⟨⟨rfl,⟨rfl,⟨rfl,⟨rfl,⟨rfl,⟨rfl,trivial⟩⟩⟩⟩⟩⟩,⟨⟨rfl,⟨rfl,⟨rfl,⟨rfl,⟨trivial,⟨trivial,trivial⟩⟩⟩⟩⟩⟩,trivial⟩⟩⟩⟩⟩⟩⟩⟩⟩,fun u7=>fun a18=>⟨fun a19=>⟨?_,fun a20=>⟨?_,?_⟩⟩,fun a19=>⟨?_,?_⟩⟩⟩⟩⟩⟩⟩⟩⟩⟩⟩⟩⟩⟩⟩⟩⟩⟩⟩⟩⟩⟩⟩⟩⟩⟩⟩⟩⟩⟩⟩⟩⟩⟩⟩⟩⟩⟩⟩⟩⟩⟩⟩⟩⟩⟩⟩⟩⟩⟩⟩⟩,fun a3=>⟨?_,?_⟩⟩⟩⟩
 all_goals try and_intros
 all_goals try simp only[a0b.eta,a0a.eta,a2b,a2d] at *
 all_goals (try simp only[Bool.not_true,Bool.not_false,Bool.true_eq_false,Bool.false_eq_true,Bool.not_eq_true',Bool.not_eq_false'] at *);first|done|rfl|trivial|(clear F hp;first|(simp only[rwV,rwO,iV,iO,sV,sO,cond_true,cond_false,Bool.true_and,Bool.and_true,Bool.false_and,Bool.and_false,Bool.not_true,Bool.not_false, *];done)|(simp only[a7c,a8b,b2j,cond_true,cond_false,Bool.true_and,Bool.and_true,Bool.false_and,Bool.and_false,Bool.not_true,Bool.not_false, *];done))|(simp only[decide_eq_true_eq,decide_eq_false_iff_not,Bool.not_true,Bool.and_eq_true,Bool.not_false,a0h,a7c,a8b,b2j] at *;(try have:=F.l2 (by omega));(try have:=F.l1 (by omega));(try (have G:=a5c _ (F.kid 0 (by omega));(try have:=G.l2 (by omega));(try have:=G.l1 (by omega));clear G));(try (have G:=a5c _ (F.kid 1 (by omega));(try have:=G.l2 (by omega));(try have:=G.l1 (by omega));clear G));omega)|exact hp|exact F.kid 0 (by have:=F.l1 (of_decide_eq_true (by assumption));omega)|(have k6:p.kind=6:=of_decide_eq_true (by assumption);have l:=F.l2 (.inr k6);have hx:=Fx (by omega);have hy:=Fy (by omega);have e1:=hy.skip;clear F Fx Fy hy hp;first|(have kx:(p.kids.getD 0 zP).kind=5:=of_decide_eq_true (by assumption);have e2:=(a5c _ (hx.kid 1 (by have:=hx.l2 (.inl kx);omega))).loop p.cond ((p.kids.getD 0 zP).kids.getD 0 zP);clear hx kx k6 l;simp only[a7c,e1,e2,cond_true,cond_false,Bool.true_and,Bool.and_true,Bool.false_and,Bool.and_false, *];done)|(clear hx k6 l;simp only[a7c,e1,cond_true,cond_false,Bool.true_and,Bool.and_true,Bool.false_and,Bool.and_false, *];done))
theorem e0c:Ctr.Good b0p:=e5w ⟨d9a,c9x,d5f,d5g,b8a,e2c,e2e,trivial⟩
theorem g3w(k n:Int)(c:a0b)(a b:a0a):a0e (a0a.mk k n c [a,b])=a0q c+2+(a0e a+a0e b):=by simp only[a0e,a3v,List.length_cons,List.length_nil];omega
theorem g3v(k n:Int)(c:a0b)(a:a0a):a0e (a0a.mk k n c [a])=a0q c+1+a0e a:=by simp only[a0e,a3v,List.length_cons,List.length_nil];omega
theorem g3u(k n:Int)(c:a0b):a0e (a0a.mk k n c [])=a0q c:=by simp only[a0e,a3v,List.length_nil];omega
theorem g3t(k n:Int)(a b:a0b):a0q (a0b.mk k n [a,b])=2+(a0q a+a0q b):=by simp only[a0q,a7p,List.length_cons,List.length_nil];omega
theorem g3s(k n:Int)(a:a0b):a0q (a0b.mk k n [a])=1+a0q a:=by simp only[a0q,a7p,List.length_cons,List.length_nil];omega
theorem g3r(k n:Int):a0q (a0b.mk k n [])=0:=by simp only[a0q,a7p,List.length_nil]
def b0w:Ctr:=⟨c3d,[.r (.st .prog), .v (.int .i64)],fun (p:a0a) (ru:Int)=>⟨(some (prT p),[⟨(.st .prog),bif decide (p.kind=7) then wV p (p.kids.getD 0 zP) ru else zP⟩,⟨.bool,bif decide (p.kind=7) then wO p (p.kids.getD 0 zP) ru else false⟩])⟩⟩
def d0t(p:a0a)(ru:Int):Nat→a0t:=fun _ => .none
abbrev a3p(p:a0a)(ru:Int):Prop:=(zP=(bif decide (p.kind=7) then wV p (p.kids.getD 0 zP) ru else zP)∧false=(bif decide (p.kind=7) then wO p (p.kids.getD 0 zP) ru else false))
abbrev c5u(p:a0a)(ru:Int):Prop:=((p.kids.getD 0 zP).kids.length≤140737488355328 →
 (a0h (1:Int) (p.kids.getD 0 zP).kids.length∧(p=p∧(p=p∧(p.cond=p.cond∧(((p.kids.getD 0 zP).kids.getD 1 zP)=((p.kids.getD 0 zP).kids.getD 1 zP)∧(((p.kids.getD 0 zP).kids.getD 1 zP)=((p.kids.getD 0 zP).kids.getD 1 zP)∧(((p.kids.getD 0 zP).kids.getD 1 zP).cond=((p.kids.getD 0 zP).kids.getD 1 zP).cond∧(a0q p.cond≤1048576∧(((p.kids.getD 0 zP).kids.getD 1 zP)=((p.kids.getD 0 zP).kids.getD 1 zP)∧(((p.kids.getD 0 zP).kids.getD 1 zP)=((p.kids.getD 0 zP).kids.getD 1 zP)∧(((p.kids.getD 0 zP).kids.getD 1 zP).cond=((p.kids.getD 0 zP).kids.getD 1 zP).cond∧(a0q ((p.kids.getD 0 zP).kids.getD 1 zP).cond≤1048576∧(((p.kids.getD 0 zP).kids.getD 1 zP).kids.length≤140737488355328 →
 (a0h (0:Int) ((p.kids.getD 0 zP).kids.getD 1 zP).kids.length∧((p.kids.getD 0 zP).kids.length≤140737488355328 →
 (a0h (0:Int) (p.kids.getD 0 zP).kids.length∧(((p.kids.getD 0 zP).kids.getD 1 zP)=((p.kids.getD 0 zP).kids.getD 1 zP)∧(((p.kids.getD 0 zP).kids.getD 1 zP)=((p.kids.getD 0 zP).kids.getD 1 zP)∧(((p.kids.getD 0 zP).kids.getD 1 zP).cond=((p.kids.getD 0 zP).kids.getD 1 zP).cond∧(((p.kids.getD 0 zP).kids.getD 1 zP).cond=((p.kids.getD 0 zP).kids.getD 1 zP).cond∧(((p.kids.getD 0 zP).kids.getD 1 zP)=((p.kids.getD 0 zP).kids.getD 1 zP)∧(((p.kids.getD 0 zP).kids.getD 1 zP)=((p.kids.getD 0 zP).kids.getD 1 zP)∧(((p.kids.getD 0 zP).kids.getD 1 zP).kids=((p.kids.getD 0 zP).kids.getD 1 zP).kids∧(((p.kids.getD 0 zP).kids.getD 1 zP).kids=((p.kids.getD 0 zP).kids.getD 1 zP).kids∧(a0h (0:Int) ((p.kids.getD 0 zP).kids.getD 1 zP).kids.length∧((((p.kids.getD 0 zP).kids.getD 1 zP).kids.getD 0 zP)=(((p.kids.getD 0 zP).kids.getD 1 zP).kids.getD 0 zP)∧((((p.kids.getD 0 zP).kids.getD 1 zP).kids.getD 0 zP)=(((p.kids.getD 0 zP).kids.getD 1 zP).kids.getD 0 zP)∧((p.kids.getD 0 zP)=(p.kids.getD 0 zP)∧((p.kids.getD 0 zP)=(p.kids.getD 0 zP)∧((p.kids.getD 0 zP).kids=(p.kids.getD 0 zP).kids∧((p.kids.getD 0 zP).kids=(p.kids.getD 0 zP).kids∧(a0h (0:Int) (p.kids.getD 0 zP).kids.length∧(((p.kids.getD 0 zP).kids.getD 0 zP)=((p.kids.getD 0 zP).kids.getD 0 zP)∧(((p.kids.getD 0 zP).kids.getD 0 zP)=((p.kids.getD 0 zP).kids.getD 0 zP)∧((a0q ((p.kids.getD 0 zP).kids.getD 1 zP).cond≤1048576∧a0e (((p.kids.getD 0 zP).kids.getD 1 zP).kids.getD 0 zP)≤1048576∧a0e ((p.kids.getD 0 zP).kids.getD 0 zP)≤1048576)∧((p.kids.getD 0 zP).kids.length≤140737488355328 →
 (a0h (0:Int) (p.kids.getD 0 zP).kids.length∧(p=p∧(p=p∧(p.cond=p.cond∧(p.cond=p.cond∧((p.kids.getD 0 zP)=(p.kids.getD 0 zP)∧((p.kids.getD 0 zP)=(p.kids.getD 0 zP)∧((p.kids.getD 0 zP).kids=(p.kids.getD 0 zP).kids∧((p.kids.getD 0 zP).kids=(p.kids.getD 0 zP).kids∧(a0h (0:Int) (p.kids.getD 0 zP).kids.length∧(((p.kids.getD 0 zP).kids.getD 0 zP)=((p.kids.getD 0 zP).kids.getD 0 zP)∧(((p.kids.getD 0 zP).kids.getD 0 zP)=((p.kids.getD 0 zP).kids.getD 0 zP)∧(((a0b.mk (6:Int) 0 [(a0w p.cond),(a0w ((p.kids.getD 0 zP).kids.getD 1 zP).cond)]).kind=(a0b.mk (6:Int) 0 [(a0w p.cond),(a0w ((p.kids.getD 0 zP).kids.getD 1 zP).cond)]).kind∧((a0b.mk (6:Int) 0 [(a0w p.cond),(a0w ((p.kids.getD 0 zP).kids.getD 1 zP).cond)]).num=(a0b.mk (6:Int) 0 [(a0w p.cond),(a0w ((p.kids.getD 0 zP).kids.getD 1 zP).cond)]).num∧((6102:Nat)=6102∧True)))∧(((a0a.mk 6 0 ((p.kids.getD 0 zP).kids.getD 1 zP).cond [(((p.kids.getD 0 zP).kids.getD 1 zP).kids.getD 0 zP),((p.kids.getD 0 zP).kids.getD 0 zP)]).kind=(a0a.mk 6 0 ((p.kids.getD 0 zP).kids.getD 1 zP).cond [(((p.kids.getD 0 zP).kids.getD 1 zP).kids.getD 0 zP),((p.kids.getD 0 zP).kids.getD 0 zP)]).kind∧((a0a.mk 6 0 ((p.kids.getD 0 zP).kids.getD 1 zP).cond [(((p.kids.getD 0 zP).kids.getD 1 zP).kids.getD 0 zP),((p.kids.getD 0 zP).kids.getD 0 zP)]).num=(a0a.mk 6 0 ((p.kids.getD 0 zP).kids.getD 1 zP).cond [(((p.kids.getD 0 zP).kids.getD 1 zP).kids.getD 0 zP),((p.kids.getD 0 zP).kids.getD 0 zP)]).num∧((a0a.mk 6 0 ((p.kids.getD 0 zP).kids.getD 1 zP).cond [(((p.kids.getD 0 zP).kids.getD 1 zP).kids.getD 0 zP),((p.kids.getD 0 zP).kids.getD 0 zP)]).cond.kind=(a0a.mk 6 0 ((p.kids.getD 0 zP).kids.getD 1 zP).cond [(((p.kids.getD 0 zP).kids.getD 1 zP).kids.getD 0 zP),((p.kids.getD 0 zP).kids.getD 0 zP)]).cond.kind∧((a0a.mk 6 0 ((p.kids.getD 0 zP).kids.getD 1 zP).cond [(((p.kids.getD 0 zP).kids.getD 1 zP).kids.getD 0 zP),((p.kids.getD 0 zP).kids.getD 0 zP)]).cond.num=(a0a.mk 6 0 ((p.kids.getD 0 zP).kids.getD 1 zP).cond [(((p.kids.getD 0 zP).kids.getD 1 zP).kids.getD 0 zP),((p.kids.getD 0 zP).kids.getD 0 zP)]).cond.num∧((7804:Nat)=7804∧((7805:Nat)=7805∧True))))))∧((a0q (a0w (a0b.mk (6:Int) 0 [(a0w p.cond),(a0w ((p.kids.getD 0 zP).kids.getD 1 zP).cond)]))≤1048576∧a0e (a0g (a0a.mk 6 0 ((p.kids.getD 0 zP).kids.getD 1 zP).cond [(((p.kids.getD 0 zP).kids.getD 1 zP).kids.getD 0 zP),((p.kids.getD 0 zP).kids.getD 0 zP)]))≤1048576)∧(p=p∧(p=p∧(p.cond=p.cond∧(p.cond=p.cond∧((p.kids.getD 0 zP)=(p.kids.getD 0 zP)∧((p.kids.getD 0 zP)=(p.kids.getD 0 zP)∧((p.kids.getD 0 zP).kids=(p.kids.getD 0 zP).kids∧((p.kids.getD 0 zP).kids=(p.kids.getD 0 zP).kids∧(a0h (0:Int) (p.kids.getD 0 zP).kids.length∧(((p.kids.getD 0 zP).kids.getD 0 zP)=((p.kids.getD 0 zP).kids.getD 0 zP)∧(((p.kids.getD 0 zP).kids.getD 0 zP)=((p.kids.getD 0 zP).kids.getD 0 zP)∧((a0e ((p.kids.getD 0 zP).kids.getD 0 zP)≤1048576∧a0e (a0g (a0a.mk 7 0 (a0w (a0b.mk (6:Int) 0 [(a0w p.cond),(a0w ((p.kids.getD 0 zP).kids.getD 1 zP).cond)])) [(a0g (a0a.mk 6 0 ((p.kids.getD 0 zP).kids.getD 1 zP).cond [(((p.kids.getD 0 zP).kids.getD 1 zP).kids.getD 0 zP),((p.kids.getD 0 zP).kids.getD 0 zP)]))]))≤1048576)∧(p=p∧(p=p∧(p.cond=p.cond∧(p.cond=p.cond∧(p=p∧(p=p∧(p.cond=p.cond∧(p.cond=p.cond∧((a0q p.cond≤1048576∧a0e (a0g (a0a.mk 5 0 zE [((p.kids.getD 0 zP).kids.getD 0 zP),(a0g (a0a.mk 7 0 (a0w (a0b.mk (6:Int) 0 [(a0w p.cond),(a0w ((p.kids.getD 0 zP).kids.getD 1 zP).cond)])) [(a0g (a0a.mk 6 0 ((p.kids.getD 0 zP).kids.getD 1 zP).cond [(((p.kids.getD 0 zP).kids.getD 1 zP).kids.getD 0 zP),((p.kids.getD 0 zP).kids.getD 0 zP)]))]))]))≤1048576∧a0e (a0g (a0a.mk 1 0 zE []))≤1048576)∧((a0g (a0a.mk 6 0 p.cond [(a0g (a0a.mk 5 0 zE [((p.kids.getD 0 zP).kids.getD 0 zP),(a0g (a0a.mk 7 0 (a0w (a0b.mk (6:Int) 0 [(a0w p.cond),(a0w ((p.kids.getD 0 zP).kids.getD 1 zP).cond)])) [(a0g (a0a.mk 6 0 ((p.kids.getD 0 zP).kids.getD 1 zP).cond [(((p.kids.getD 0 zP).kids.getD 1 zP).kids.getD 0 zP),((p.kids.getD 0 zP).kids.getD 0 zP)]))]))])),(a0g (a0a.mk 1 0 zE []))]))=(bif decide (p.kind=7) then wV p (p.kids.getD 0 zP) ru else zP)∧true=(bif decide (p.kind=7) then wO p (p.kids.getD 0 zP) ru else false)))))))))))))))))))))))))))))))))))))))))))))))))))))))))))))))))))))))))))
abbrev c5v(p:a0a)(ru:Int):Prop:=(a0e (p.kids.getD 0 zP)≤1048576∧((a0g (p.kids.getD 0 zP))=(bif decide (p.kind=7) then wV p (p.kids.getD 0 zP) ru else zP)∧true=(bif decide (p.kind=7) then wO p (p.kids.getD 0 zP) ru else false)))
abbrev b8d(p:a0a)(ru:Int):Prop:=(a0h (1:Int) (p.kids.getD 0 zP).kids.length∧((p.kids.getD 0 zP).kids.length≤140737488355328 →
 ((a0q p.cond≤1048576∧a0e ((p.kids.getD 0 zP).kids.getD 1 zP)≤1048576)∧((a0g (a0a.mk 7 0 p.cond [((p.kids.getD 0 zP).kids.getD 1 zP)]))=(bif decide (p.kind=7) then wV p (p.kids.getD 0 zP) ru else zP)∧true=(bif decide (p.kind=7) then wO p (p.kids.getD 0 zP) ru else false)))))
abbrev c5w(p:a0a)(ru:Int):Prop:=((p.kids.getD 0 zP).kids.length≤140737488355328 →
 (((eqB p.cond ((p.kids.getD 0 zP).kids.getD 0 zP).cond)=true →
 (b8d p ru))∧((eqB p.cond ((p.kids.getD 0 zP).kids.getD 0 zP).cond)=false →
 (a3p p ru))))
theorem e6g(p:a0a)(ru:Int):awp (a2o [a4v,a3i,a3j] [a2v,a2g,a1x,a1l,a2k,a1o,a2z,a2m] [] [32,33,34,55,59,60,77,90,91,92,93,108,143] []) (a0i a8q) (d0t p ru) 0 (a5b (a2o [a4v,a3i,a3j] [a2v,a2g,a1x,a1l,a2k,a1o,a2z,a2m] [] [32,33,34,55,59,60,77,90,91,92,93,108,143] []) a8q fun r=>a1e r [⟨(.st .prog),bif decide (p.kind=7) then wV p (p.kids.getD 0 zP) ru else zP⟩,⟨.bool,bif decide (p.kind=7) then wO p (p.kids.getD 0 zP) ru else false⟩]) (a7h a8q [.ref ⟨(.st .prog),p⟩, .val ⟨(.int .i64),ru⟩]) =
 ((((!(decide (p.kind=(7:Int))))=true →
 (a3p p ru))∧((!(decide (p.kind=(7:Int))))=false →
 (p.kids.length≤140737488355328 →
 (a0h (0:Int) p.kids.length∧(((decide (ru=(1:Int)))=true →
 (p=p∧(p=p∧(p.cond=p.cond∧(p.cond=p.cond∧((p.kids.getD 0 zP)=(p.kids.getD 0 zP)∧((p.kids.getD 0 zP)=(p.kids.getD 0 zP)∧((p.kids.getD 0 zP)=(p.kids.getD 0 zP)∧(p=p∧(p=p∧(p=p∧((a0e (p.kids.getD 0 zP)≤1048576∧a0e p≤1048576)∧(p=p∧(p=p∧(p.cond=p.cond∧(p.cond=p.cond∧(p=p∧(p=p∧(p.cond=p.cond∧(p.cond=p.cond∧((a0q p.cond≤1048576∧a0e (a0g (a0a.mk 5 0 zE [(p.kids.getD 0 zP),p]))≤1048576∧a0e (a0g (a0a.mk 1 0 zE []))≤1048576)∧((a0g (a0a.mk 6 0 p.cond [(a0g (a0a.mk 5 0 zE [(p.kids.getD 0 zP),p])),(a0g (a0a.mk 1 0 zE []))]))=(bif decide (p.kind=7) then wV p (p.kids.getD 0 zP) ru else zP)∧true=(bif decide (p.kind=7) then wO p (p.kids.getD 0 zP) ru else false)))))))))))))))))))))))∧((decide (ru=(1:Int)))=false →
 (((decide (ru=(10:Int)))=true →
 (((decide ((p.kids.getD 0 zP).kind=(5:Int)))=true →
 ((p.kids.getD 0 zP).kids.length≤140737488355328 →
 (a0h (1:Int) (p.kids.getD 0 zP).kids.length∧(((decide (((p.kids.getD 0 zP).kids.getD 1 zP).kind=(7:Int)))=true →
 (c5u p ru))∧((decide (((p.kids.getD 0 zP).kids.getD 1 zP).kind=(7:Int)))=false →
 (a3p p ru))))))∧((decide ((p.kids.getD 0 zP).kind=(5:Int)))=(!true) →
 ((false=true →
 (c5u p ru))∧(false=false →
 (a3p p ru))))))∧((decide (ru=(10:Int)))=false →
 (((decide (ru=(11:Int)))=true →
 (((decide ((p.kids.getD 0 zP).kind=(7:Int)))=true →
 (((eqB p.cond (p.kids.getD 0 zP).cond)=true →
 (c5v p ru))∧((eqB p.cond (p.kids.getD 0 zP).cond)=false →
 (a3p p ru))))∧((decide ((p.kids.getD 0 zP).kind=(7:Int)))=(!true) →
 ((false=true →
 (c5v p ru))∧(false=false →
 (a3p p ru))))))∧((decide (ru=(11:Int)))=false →
 (((decide (ru=(14:Int)))=true →
 (((decide ((p.kids.getD 0 zP).kind=(5:Int)))=true →
 (a0h (0:Int) (p.kids.getD 0 zP).kids.length∧(((decide (((p.kids.getD 0 zP).kids.getD 0 zP).kind=(4:Int)))=true →
 (a0h (0:Int) (p.kids.getD 0 zP).kids.length∧((p.kids.getD 0 zP).kids.length≤140737488355328 →
 (c5w p ru))))∧((decide (((p.kids.getD 0 zP).kids.getD 0 zP).kind=(4:Int)))=(!true) →
 ((p.kids.getD 0 zP).kids.length≤140737488355328 →
 ((false=true →
 (b8d p ru))∧(false=false →
 (a3p p ru))))))))∧((decide ((p.kids.getD 0 zP).kind=(5:Int)))=(!true) →
 ((false=true →
 (a0h (0:Int) (p.kids.getD 0 zP).kids.length∧(c5w p ru)))∧(false=(!true) →
 ((false=true →
 (b8d p ru))∧(false=false →
 (a3p p ru))))))))∧((decide (ru=(14:Int)))=false →
 (a3p p ru)))))))))))))):=by kernel_rfl
theorem e5z(hE:a0p [a4v,a3i,a3j])(hO:a4f [a2v,a2g,a1x,a1l,a2k,a1o,a2z,a2m])(hM:a4x [])(hS:a4p []):Ctr.OGood b0w:=by
 refine⟨a0j c9n rfl (by decide),?_⟩
 show ∀ (p:a0a) (ru:Int),(prT p)→a6f prog c3d [.ref ⟨(.st .prog),p⟩, .val ⟨(.int .i64),ru⟩] [⟨(.st .prog),bif decide (p.kind=7) then wV p (p.kids.getD 0 zP) ru else zP⟩,⟨.bool,bif decide (p.kind=7) then wO p (p.kids.getD 0 zP) ru else false⟩]
 intro p ru hp
 refine a4e (own:=[32,33,34,55,59,60,77,90,91,92,93,108,143]) (wr:=[]) (cl:=[]) (ro:=[]) hE hO hM hS c9n e1m (d0t p ru) ?_
 rewrite [e6g p ru]
 have F:=a5c p hp
 have Fx:=fun h=>a5c (p.kids.getD 0 zP) (F.kid 0 h)
 have Fy:=fun h=>a5c (p.kids.getD 1 zP) (F.kid 1 h)
 refine⟨fun a0=>⟨?_,?_⟩,fun a0=>fun a1=>⟨?_,⟨fun a2=>⟨rfl,⟨rfl,⟨rfl,⟨rfl,⟨rfl,⟨rfl,⟨rfl,⟨rfl,⟨rfl,⟨rfl,⟨?_,⟨rfl,⟨rfl,⟨rfl,⟨rfl,⟨rfl,⟨rfl,⟨rfl,⟨rfl,⟨?_,⟨?_,?_⟩⟩⟩⟩⟩⟩⟩⟩⟩⟩⟩⟩⟩⟩⟩⟩⟩⟩⟩⟩⟩,fun a2=>⟨fun a3=>⟨fun a4=>fun a5=>⟨?_,⟨fun a6=>fun a7=>⟨?_,⟨rfl,⟨rfl,⟨rfl,⟨rfl,⟨rfl,⟨rfl,⟨?_,⟨rfl,⟨rfl,⟨rfl,⟨?_,fun a8=>⟨?_,fun a9=>⟨?_,⟨rfl,⟨rfl,⟨rfl,⟨rfl,⟨rfl,⟨rfl,⟨rfl,⟨rfl,⟨?_,⟨rfl,⟨rfl,⟨rfl,⟨rfl,⟨rfl,⟨rfl,⟨?_,⟨rfl,⟨rfl,⟨?_,fun a10=>⟨?_,⟨rfl,⟨rfl,⟨rfl,⟨rfl,⟨rfl,⟨rfl,⟨rfl,⟨rfl,⟨?_,⟨rfl,⟨rfl,⟨⟨rfl,⟨rfl,⟨?_,?_⟩⟩⟩,⟨⟨rfl,⟨rfl,⟨rfl,⟨rfl,⟨?_,⟨?_,?_⟩⟩⟩⟩⟩⟩,⟨?_,⟨rfl,⟨rfl,⟨rfl,⟨rfl,⟨rfl,⟨rfl,⟨rfl,⟨rfl,⟨?_,⟨rfl,⟨rfl,⟨?_,⟨rfl,⟨rfl,⟨rfl,⟨rfl,⟨rfl,⟨rfl,⟨rfl,⟨rfl,⟨?_,⟨?_,?_⟩⟩⟩⟩⟩⟩⟩⟩⟩⟩⟩⟩⟩⟩⟩⟩⟩⟩⟩⟩⟩⟩⟩⟩⟩⟩⟩⟩⟩⟩⟩⟩⟩⟩⟩⟩⟩⟩⟩⟩⟩⟩⟩⟩⟩⟩⟩⟩⟩⟩⟩⟩⟩⟩⟩⟩⟩⟩⟩⟩⟩⟩⟩⟩⟩⟩⟩⟩⟩⟩,fun a6=>⟨?_,?_⟩⟩⟩,fun a4=>⟨fun a5=>fun a6=>⟨?_,⟨rfl,⟨rfl,⟨rfl,⟨rfl,⟨rfl,⟨rfl,⟨?_,⟨rfl,⟨rfl,⟨rfl,⟨?_,fun a7=>⟨?_,fun a8=>⟨?_,⟨rfl,⟨rfl,⟨rfl,⟨rfl,⟨rfl,⟨rfl,⟨rfl,⟨rfl,⟨?_,⟨rfl,⟨rfl,⟨rfl,⟨rfl,⟨rfl,⟨rfl,⟨?_,⟨rfl,⟨rfl,⟨?_,fun a9=>⟨?_,⟨rfl,⟨rfl,⟨rfl,⟨rfl,⟨rfl,⟨rfl,⟨rfl,⟨rfl,⟨?_,⟨rfl,⟨rfl,⟨⟨rfl,⟨rfl,⟨?_,?_⟩⟩⟩,⟨⟨rfl,⟨rfl,⟨rfl,⟨rfl,⟨?_,⟨?_,?_⟩⟩⟩⟩⟩⟩,⟨?_,⟨rfl,⟨rfl,⟨rfl,⟨rfl,⟨rfl,⟨rfl,⟨rfl,⟨rfl,⟨?_,⟨rfl,⟨rfl,⟨?_,⟨rfl,⟨rfl,⟨rfl,⟨rfl,⟨rfl,⟨rfl,⟨rfl,⟨rfl,⟨?_,⟨?_,?_⟩⟩⟩⟩⟩⟩⟩⟩⟩⟩⟩⟩⟩⟩⟩⟩⟩⟩⟩⟩⟩⟩⟩⟩⟩⟩⟩⟩⟩⟩⟩⟩⟩⟩⟩⟩⟩⟩⟩⟩⟩⟩⟩⟩⟩⟩⟩⟩⟩⟩⟩⟩⟩⟩⟩⟩⟩⟩⟩⟩⟩⟩⟩⟩⟩⟩⟩⟩⟩⟩,fun a5=>⟨?_,?_⟩⟩⟩,fun a3=>⟨fun a4=>⟨fun a5=>⟨fun a6=>⟨?_,⟨?_,?_⟩⟩,fun a6=>⟨?_,?_⟩⟩,fun a5=>⟨fun a6=>⟨?_,⟨?_,?_⟩⟩,fun a6=>⟨?_,?_⟩⟩⟩,fun a4=>⟨fun a5=>⟨fun a6=>⟨?_,⟨fun a7=>⟨?_,fun a8=>fun a9=>⟨fun a10=>⟨?_,fun a11=>⟨?_,⟨?_,?_⟩⟩⟩,fun a10=>⟨?_,?_⟩⟩⟩,fun a7=>fun a8=>⟨fun a9=>⟨?_,fun a10=>⟨?_,⟨?_,?_⟩⟩⟩,fun a9=>⟨?_,?_⟩⟩⟩⟩,fun a6=>⟨fun a7=>⟨?_,fun a8=>⟨fun a9=>⟨?_,fun a10=>⟨?_,⟨?_,?_⟩⟩⟩,fun a9=>⟨?_,?_⟩⟩⟩,fun a7=>⟨fun a8=>⟨?_,fun a9=>⟨?_,⟨?_,?_⟩⟩⟩,fun a8=>⟨?_,?_⟩⟩⟩⟩,fun a5=>⟨?_,?_⟩⟩⟩⟩⟩⟩⟩
 all_goals try and_intros
 all_goals try simp only[a0b.eta,a0a.eta,a2b,a2d] at *
 all_goals (try simp only[e8f p.cond,Bool.not_true,Bool.not_false,Bool.true_eq_false,Bool.false_eq_true,Bool.not_eq_true',Bool.not_eq_false'] at *);first|done|rfl|trivial|exact hp|exact F.kid 0 (by have:=F.l1 (of_decide_eq_true (by assumption));omega)|(clear F Fx Fy hp;first|(simp only[wV,wO,cond_true,cond_false,Bool.true_and,Bool.and_true,Bool.false_and,Bool.and_false,Bool.not_true,Bool.not_false, *];done)|(simp only[b5u,b0l,b5v,cond_true,cond_false,Bool.true_and,Bool.and_true,Bool.false_and,Bool.and_false,Bool.not_true,Bool.not_false, *];done)|(simp only[wV,wO,b5u,b0l,b5v,cond_true,cond_false,Bool.true_and,Bool.and_true,Bool.false_and,Bool.and_false,Bool.not_true,Bool.not_false, *];done)|(have hk:decide (ru=1)=true:=(by assumption);obtain rfl:=of_decide_eq_true hk;simp only[wV,wO,b5u,b0l,b5v,cond_true,cond_false,Bool.true_and,Bool.and_true,Bool.false_and,Bool.and_false,Bool.not_true,Bool.not_false,Int.reduceEq,decide_false,decide_true, *];done)|(have hk:decide (ru=10)=true:=(by assumption);obtain rfl:=of_decide_eq_true hk;simp only[wV,wO,b5u,b0l,b5v,cond_true,cond_false,Bool.true_and,Bool.and_true,Bool.false_and,Bool.and_false,Bool.not_true,Bool.not_false,Int.reduceEq,decide_false,decide_true, *];done)|(have hk:decide (ru=11)=true:=(by assumption);obtain rfl:=of_decide_eq_true hk;simp only[wV,wO,b5u,b0l,b5v,cond_true,cond_false,Bool.true_and,Bool.and_true,Bool.false_and,Bool.and_false,Bool.not_true,Bool.not_false,Int.reduceEq,decide_false,decide_true, *];done)|(have hk:decide (ru=14)=true:=(by assumption);obtain rfl:=of_decide_eq_true hk;simp only[wV,wO,b5u,b0l,b5v,cond_true,cond_false,Bool.true_and,Bool.and_true,Bool.false_and,Bool.and_false,Bool.not_true,Bool.not_false,Int.reduceEq,decide_false,decide_true, *];done))|(simp only[decide_eq_true_eq,decide_eq_false_iff_not,Bool.and_eq_true,Bool.and_eq_false_iff,a0h,b1j] at *;(try have:=F.l2 (by omega));(try have:=F.l1 (by omega));(try have hx:=Fx (by omega));(try have hy:=Fy (by omega));(try have:=hx.l2 (by omega));(try have:=hx.l1 (by omega));(try have:=hy.l2 (by omega));(try have:=hy.l1 (by omega));(try have hx0:=a5c _ (hx.kid 0 (by omega)));(try have hx1:=a5c _ (hx.kid 1 (by omega)));(try have hy0:=a5c _ (hy.kid 0 (by omega)));(try have hy1:=a5c _ (hy.kid 1 (by omega)));(try have:=hx0.l2 (by omega));(try have:=hx0.l1 (by omega));(try have:=hx1.l2 (by omega));(try have:=hx1.l1 (by omega));(try have:=hy0.l2 (by omega));(try have:=hy0.l1 (by omega));(try have:=hy1.l2 (by omega));(try have:=hy1.l1 (by omega));(try have hx10:=a5c _ (hx1.kid 0 (by omega)));(try have:=F.sz);(try have:=F.sc);(try have:=hx.sz);(try have:=hx.sc);(try have:=hy.sz);(try have:=hy.sc);(try have:=hx0.sz);(try have:=hx0.sc);(try have:=hx1.sz);(try have:=hx1.sc);(try have:=hy0.sz);(try have:=hy0.sc);(try have:=hy1.sz);(try have:=hy1.sc);(try have:=hx10.sz);(try have:=hx10.sc);(try simp only[g3w,g3v,g3u,g3t,g3s,g3r]);omega)
theorem e0g:Ctr.OGood b0w:=e5z ⟨c2s,b4c,b4d,trivial⟩ ⟨b0y,a6u,a6c,a4m,a5g,a4i,b3p,a8z,trivial⟩ trivial trivial
def b5e:Ctr:=⟨c7c,[.r (.st .prog), .v (.int .i64)],fun (p:a0a) (ru:Int)=>⟨(some (prT p),[⟨(.st .prog),bif decide (p.kind=6) then iV p (p.kids.getD 0 zP) (p.kids.getD 1 zP) ru else zP⟩,⟨.bool,bif decide (p.kind=6) then iO p (p.kids.getD 0 zP) (p.kids.getD 1 zP) ru else false⟩])⟩⟩
def d5z(p:a0a)(ru:Int):Nat→a0t:=fun _ => .none
abbrev a3m(p:a0a)(ru:Int):Prop:=(zP=(bif decide (p.kind=6) then iV p (p.kids.getD 0 zP) (p.kids.getD 1 zP) ru else zP)∧false=(bif decide (p.kind=6) then iO p (p.kids.getD 0 zP) (p.kids.getD 1 zP) ru else false))
abbrev c0z(p:a0a)(ru:Int):Prop:=(a0e ((p.kids.getD 0 zP).kids.getD 1 zP)≤1048576∧((a0g ((p.kids.getD 0 zP).kids.getD 1 zP))=(bif decide (p.kind=6) then iV p (p.kids.getD 0 zP) (p.kids.getD 1 zP) ru else zP)∧true=(bif decide (p.kind=6) then iO p (p.kids.getD 0 zP) (p.kids.getD 1 zP) ru else false)))
abbrev d0m(p:a0a)(ru:Int):Prop:=(a0h (0:Int) ((p.kids.getD 0 zP).kids.getD 1 zP).kids.length∧(a0h (0:Int) (p.kids.getD 0 zP).kids.length∧(((p.kids.getD 0 zP).kids.getD 1 zP).kids.length≤140737488355328 →
 ((p.kids.getD 0 zP).kids.length≤140737488355328 →
 (((eqB (((p.kids.getD 0 zP).kids.getD 1 zP).kids.getD 0 zP) ((p.kids.getD 0 zP).kids.getD 0 zP))=true →
 (c0z p ru))∧((eqB (((p.kids.getD 0 zP).kids.getD 1 zP).kids.getD 0 zP) ((p.kids.getD 0 zP).kids.getD 0 zP))=false →
 (a3m p ru)))))))
abbrev d0n(p:a0a)(ru:Int):Prop:=((p.kids.getD 0 zP).kids.length≤140737488355328 →
 (a0h (1:Int) (p.kids.getD 0 zP).kids.length∧(((decide (((p.kids.getD 0 zP).kids.getD 1 zP).kind=(7:Int)))=true →
 (((eqB ((p.kids.getD 0 zP).kids.getD 1 zP).cond p.cond)=true →
 (d0m p ru))∧((eqB ((p.kids.getD 0 zP).kids.getD 1 zP).cond p.cond)=(!true) →
 ((false=true →
 (c0z p ru))∧(false=false →
 (a3m p ru))))))∧((decide (((p.kids.getD 0 zP).kids.getD 1 zP).kind=(7:Int)))=(!true) →
 ((false=true →
 (d0m p ru))∧(false=(!true) →
 ((false=true →
 (c0z p ru))∧(false=false →
 (a3m p ru)))))))))
abbrev c1a(p:a0a)(ru:Int):Prop:=((p.kids.getD 0 zP).kids.length≤140737488355328 →
 (a0h (0:Int) (p.kids.getD 0 zP).kids.length∧((p.kids.getD 1 zP).kids.length≤140737488355328 →
 (a0h (0:Int) (p.kids.getD 1 zP).kids.length∧((p.kids.getD 0 zP).kids.length≤140737488355328 →
 (a0h (1:Int) (p.kids.getD 0 zP).kids.length∧(p=p∧(p=p∧(p.cond=p.cond∧(p.cond=p.cond∧((p.kids.getD 0 zP)=(p.kids.getD 0 zP)∧((p.kids.getD 0 zP)=(p.kids.getD 0 zP)∧((p.kids.getD 0 zP).kids=(p.kids.getD 0 zP).kids∧((p.kids.getD 0 zP).kids=(p.kids.getD 0 zP).kids∧(a0h (0:Int) (p.kids.getD 0 zP).kids.length∧(((p.kids.getD 0 zP).kids.getD 0 zP)=((p.kids.getD 0 zP).kids.getD 0 zP)∧(((p.kids.getD 0 zP).kids.getD 0 zP)=((p.kids.getD 0 zP).kids.getD 0 zP)∧((p.kids.getD 1 zP)=(p.kids.getD 1 zP)∧((p.kids.getD 1 zP)=(p.kids.getD 1 zP)∧((p.kids.getD 1 zP).kids=(p.kids.getD 1 zP).kids∧((p.kids.getD 1 zP).kids=(p.kids.getD 1 zP).kids∧(a0h (0:Int) (p.kids.getD 1 zP).kids.length∧(((p.kids.getD 1 zP).kids.getD 0 zP)=((p.kids.getD 1 zP).kids.getD 0 zP)∧(((p.kids.getD 1 zP).kids.getD 0 zP)=((p.kids.getD 1 zP).kids.getD 0 zP)∧((p.kids.getD 0 zP)=(p.kids.getD 0 zP)∧((p.kids.getD 0 zP)=(p.kids.getD 0 zP)∧((p.kids.getD 0 zP).kids=(p.kids.getD 0 zP).kids∧((p.kids.getD 0 zP).kids=(p.kids.getD 0 zP).kids∧(a0h (1:Int) (p.kids.getD 0 zP).kids.length∧(((p.kids.getD 0 zP).kids.getD 1 zP)=((p.kids.getD 0 zP).kids.getD 1 zP)∧(((p.kids.getD 0 zP).kids.getD 1 zP)=((p.kids.getD 0 zP).kids.getD 1 zP)∧((a0q p.cond≤1048576∧a0e ((p.kids.getD 0 zP).kids.getD 0 zP)≤1048576∧a0e ((p.kids.getD 1 zP).kids.getD 0 zP)≤1048576)∧((p.kids.getD 0 zP)=(p.kids.getD 0 zP)∧((p.kids.getD 0 zP)=(p.kids.getD 0 zP)∧((p.kids.getD 0 zP).kids=(p.kids.getD 0 zP).kids∧((p.kids.getD 0 zP).kids=(p.kids.getD 0 zP).kids∧(a0h (1:Int) (p.kids.getD 0 zP).kids.length∧(((p.kids.getD 0 zP).kids.getD 1 zP)=((p.kids.getD 0 zP).kids.getD 1 zP)∧(((p.kids.getD 0 zP).kids.getD 1 zP)=((p.kids.getD 0 zP).kids.getD 1 zP)∧((a0e (a0g (a0a.mk 6 0 p.cond [((p.kids.getD 0 zP).kids.getD 0 zP),((p.kids.getD 1 zP).kids.getD 0 zP)]))≤1048576∧a0e ((p.kids.getD 0 zP).kids.getD 1 zP)≤1048576)∧((a0g (a0a.mk 5 0 zE [(a0g (a0a.mk 6 0 p.cond [((p.kids.getD 0 zP).kids.getD 0 zP),((p.kids.getD 1 zP).kids.getD 0 zP)])),((p.kids.getD 0 zP).kids.getD 1 zP)]))=(bif decide (p.kind=6) then iV p (p.kids.getD 0 zP) (p.kids.getD 1 zP) ru else zP)∧true=(bif decide (p.kind=6) then iO p (p.kids.getD 0 zP) (p.kids.getD 1 zP) ru else false))))))))))))))))))))))))))))))))))))))))))
abbrev d0o(p:a0a)(ru:Int):Prop:=(a0h (1:Int) (p.kids.getD 0 zP).kids.length∧(a0h (1:Int) (p.kids.getD 1 zP).kids.length∧((p.kids.getD 0 zP).kids.length≤140737488355328 →
 ((p.kids.getD 1 zP).kids.length≤140737488355328 →
 (((eqB ((p.kids.getD 0 zP).kids.getD 1 zP) ((p.kids.getD 1 zP).kids.getD 1 zP))=true →
 (c1a p ru))∧((eqB ((p.kids.getD 0 zP).kids.getD 1 zP) ((p.kids.getD 1 zP).kids.getD 1 zP))=false →
 (a3m p ru)))))))
theorem f4c(p:a0a)(ru:Int):awp (a2o [a4v,a3i,a3j] [a2v,a2g,a1x,a1l,a2k,a1o,a2z,a2m] [] [62,69,76,83,121,128] []) (a0i b1z) (d5z p ru) 0 (a5b (a2o [a4v,a3i,a3j] [a2v,a2g,a1x,a1l,a2k,a1o,a2z,a2m] [] [62,69,76,83,121,128] []) b1z fun r=>a1e r [⟨(.st .prog),bif decide (p.kind=6) then iV p (p.kids.getD 0 zP) (p.kids.getD 1 zP) ru else zP⟩,⟨.bool,bif decide (p.kind=6) then iO p (p.kids.getD 0 zP) (p.kids.getD 1 zP) ru else false⟩]) (a7h b1z [.ref ⟨(.st .prog),p⟩, .val ⟨(.int .i64),ru⟩]) =
 ((((!(decide (p.kind=(6:Int))))=true →
 (a3m p ru))∧((!(decide (p.kind=(6:Int))))=false →
 (a0h (0:Int) p.kids.length∧(a0h (1:Int) p.kids.length∧(p.kids.length≤140737488355328 →
 (p.kids.length≤140737488355328 →
 (((decide (ru=(2:Int)))=true →
 (((decide ((p.kids.getD 0 zP).kind=(5:Int)))=true →
 (((decide ((p.kids.getD 1 zP).kind=(1:Int)))=true →
 (d0n p ru))∧((decide ((p.kids.getD 1 zP).kind=(1:Int)))=false →
 (a3m p ru))))∧((decide ((p.kids.getD 0 zP).kind=(5:Int)))=(!true) →
 ((false=true →
 (d0n p ru))∧(false=false →
 (a3m p ru))))))∧((decide (ru=(2:Int)))=false →
 (((decide (ru=(3:Int)))=true →
 (((eqB (p.kids.getD 0 zP) (p.kids.getD 1 zP))=true →
 (a0e (p.kids.getD 0 zP)≤1048576∧((a0g (p.kids.getD 0 zP))=(bif decide (p.kind=6) then iV p (p.kids.getD 0 zP) (p.kids.getD 1 zP) ru else zP)∧true=(bif decide (p.kind=6) then iO p (p.kids.getD 0 zP) (p.kids.getD 1 zP) ru else false))))∧((eqB (p.kids.getD 0 zP) (p.kids.getD 1 zP))=false →
 (a3m p ru))))∧((decide (ru=(3:Int)))=false →
 (((decide (ru=(4:Int)))=true →
 (p=p∧(p=p∧(p.cond=p.cond∧(p.cond=p.cond∧((p.kids.getD 1 zP)=(p.kids.getD 1 zP)∧((p.kids.getD 1 zP)=(p.kids.getD 1 zP)∧((p.kids.getD 1 zP)=(p.kids.getD 1 zP)∧((p.kids.getD 0 zP)=(p.kids.getD 0 zP)∧((p.kids.getD 0 zP)=(p.kids.getD 0 zP)∧((p.kids.getD 0 zP)=(p.kids.getD 0 zP)∧(a0q p.cond≤1048576∧((p.kids.getD 1 zP)=(p.kids.getD 1 zP)∧((p.kids.getD 1 zP)=(p.kids.getD 1 zP)∧((p.kids.getD 1 zP)=(p.kids.getD 1 zP)∧((p.kids.getD 0 zP)=(p.kids.getD 0 zP)∧((p.kids.getD 0 zP)=(p.kids.getD 0 zP)∧((p.kids.getD 0 zP)=(p.kids.getD 0 zP)∧((a0q (a0w (a0b.mk 5 0 [p.cond]))≤1048576∧a0e (p.kids.getD 1 zP)≤1048576∧a0e (p.kids.getD 0 zP)≤1048576)∧((a0g (a0a.mk 6 0 (a0w (a0b.mk 5 0 [p.cond])) [(p.kids.getD 1 zP),(p.kids.getD 0 zP)]))=(bif decide (p.kind=6) then iV p (p.kids.getD 0 zP) (p.kids.getD 1 zP) ru else zP)∧true=(bif decide (p.kind=6) then iO p (p.kids.getD 0 zP) (p.kids.getD 1 zP) ru else false)))))))))))))))))))))∧((decide (ru=(4:Int)))=false →
 (((decide (ru=(9:Int)))=true →
 (((decide ((p.kids.getD 0 zP).kind=(5:Int)))=true →
 (((decide ((p.kids.getD 1 zP).kind=(5:Int)))=true →
 (d0o p ru))∧((decide ((p.kids.getD 1 zP).kind=(5:Int)))=(!true) →
 ((false=true →
 (c1a p ru))∧(false=false →
 (a3m p ru))))))∧((decide ((p.kids.getD 0 zP).kind=(5:Int)))=(!true) →
 ((false=true →
 (d0o p ru))∧(false=(!true) →
 ((false=true →
 (c1a p ru))∧(false=false →
 (a3m p ru))))))))∧((decide (ru=(9:Int)))=false →
 (a3m p ru)))))))))))))))):=by kernel_rfl
theorem f2v(hE:a0p [a4v,a3i,a3j])(hO:a4f [a2v,a2g,a1x,a1l,a2k,a1o,a2z,a2m])(hM:a4x [])(hS:a4p []):Ctr.OGood b5e:=by
 refine⟨a0j d4p rfl (by decide),?_⟩
 show ∀ (p:a0a) (ru:Int),(prT p)→a6f prog c7c [.ref ⟨(.st .prog),p⟩, .val ⟨(.int .i64),ru⟩] [⟨(.st .prog),bif decide (p.kind=6) then iV p (p.kids.getD 0 zP) (p.kids.getD 1 zP) ru else zP⟩,⟨.bool,bif decide (p.kind=6) then iO p (p.kids.getD 0 zP) (p.kids.getD 1 zP) ru else false⟩]
 intro p ru hp
 refine a4e (own:=[62,69,76,83,121,128]) (wr:=[]) (cl:=[]) (ro:=[]) hE hO hM hS d4p e7y (d5z p ru) ?_
 rewrite [f4c p ru]
 have F:=a5c p hp
 have Fx:=fun h=>a5c (p.kids.getD 0 zP) (F.kid 0 h)
 have Fy:=fun h=>a5c (p.kids.getD 1 zP) (F.kid 1 h)
 refine⟨fun a0=>⟨?_,?_⟩,fun a0=>⟨?_,⟨?_,fun a1=>fun a2=>⟨fun a3=>⟨fun a4=>⟨fun a5=>fun a6=>⟨?_,⟨fun a7=>⟨fun a8=>⟨?_,⟨?_,fun a9=>fun a10=>⟨fun a11=>⟨?_,⟨?_,?_⟩⟩,fun a11=>⟨?_,?_⟩⟩⟩⟩,fun a8=>⟨fun a9=>⟨?_,⟨?_,?_⟩⟩,fun a9=>⟨?_,?_⟩⟩⟩,fun a7=>⟨fun a8=>⟨?_,⟨?_,fun a9=>fun a10=>⟨fun a11=>⟨?_,⟨?_,?_⟩⟩,fun a11=>⟨?_,?_⟩⟩⟩⟩,fun a8=>⟨fun a9=>⟨?_,⟨?_,?_⟩⟩,fun a9=>⟨?_,?_⟩⟩⟩⟩⟩,fun a5=>⟨?_,?_⟩⟩,fun a4=>⟨fun a5=>fun a6=>⟨?_,⟨fun a7=>⟨fun a8=>⟨?_,⟨?_,fun a9=>fun a10=>⟨fun a11=>⟨?_,⟨?_,?_⟩⟩,fun a11=>⟨?_,?_⟩⟩⟩⟩,fun a8=>⟨fun a9=>⟨?_,⟨?_,?_⟩⟩,fun a9=>⟨?_,?_⟩⟩⟩,fun a7=>⟨fun a8=>⟨?_,⟨?_,fun a9=>fun a10=>⟨fun a11=>⟨?_,⟨?_,?_⟩⟩,fun a11=>⟨?_,?_⟩⟩⟩⟩,fun a8=>⟨fun a9=>⟨?_,⟨?_,?_⟩⟩,fun a9=>⟨?_,?_⟩⟩⟩⟩⟩,fun a5=>⟨?_,?_⟩⟩⟩,fun a3=>⟨fun a4=>⟨fun a5=>⟨?_,⟨?_,?_⟩⟩,fun a5=>⟨?_,?_⟩⟩,fun a4=>⟨fun a5=>⟨rfl,⟨rfl,⟨rfl,⟨rfl,⟨rfl,⟨rfl,⟨rfl,⟨rfl,⟨rfl,⟨rfl,⟨?_,⟨rfl,⟨rfl,⟨rfl,⟨rfl,⟨rfl,⟨rfl,⟨?_,⟨?_,?_⟩⟩⟩⟩⟩⟩⟩⟩⟩⟩⟩⟩⟩⟩⟩⟩⟩⟩⟩,fun a5=>⟨fun a6=>⟨fun a7=>⟨fun a8=>⟨?_,⟨?_,fun a9=>fun a10=>⟨fun a11=>fun a12=>⟨?_,fun a13=>⟨?_,fun a14=>⟨?_,⟨rfl,⟨rfl,⟨rfl,⟨rfl,⟨rfl,⟨rfl,⟨rfl,⟨rfl,⟨?_,⟨rfl,⟨rfl,⟨rfl,⟨rfl,⟨rfl,⟨rfl,⟨?_,⟨rfl,⟨rfl,⟨rfl,⟨rfl,⟨rfl,⟨rfl,⟨?_,⟨rfl,⟨rfl,⟨?_,⟨rfl,⟨rfl,⟨rfl,⟨rfl,⟨?_,⟨rfl,⟨rfl,⟨?_,⟨?_,?_⟩⟩⟩⟩⟩⟩⟩⟩⟩⟩⟩⟩⟩⟩⟩⟩⟩⟩⟩⟩⟩⟩⟩⟩⟩⟩⟩⟩⟩⟩⟩⟩⟩⟩⟩⟩⟩⟩,fun a11=>⟨?_,?_⟩⟩⟩⟩,fun a8=>⟨fun a9=>fun a10=>⟨?_,fun a11=>⟨?_,fun a12=>⟨?_,⟨rfl,⟨rfl,⟨rfl,⟨rfl,⟨rfl,⟨rfl,⟨rfl,⟨rfl,⟨?_,⟨rfl,⟨rfl,⟨rfl,⟨rfl,⟨rfl,⟨rfl,⟨?_,⟨rfl,⟨rfl,⟨rfl,⟨rfl,⟨rfl,⟨rfl,⟨?_,⟨rfl,⟨rfl,⟨?_,⟨rfl,⟨rfl,⟨rfl,⟨rfl,⟨?_,⟨rfl,⟨rfl,⟨?_,⟨?_,?_⟩⟩⟩⟩⟩⟩⟩⟩⟩⟩⟩⟩⟩⟩⟩⟩⟩⟩⟩⟩⟩⟩⟩⟩⟩⟩⟩⟩⟩⟩⟩⟩⟩⟩⟩⟩⟩⟩,fun a9=>⟨?_,?_⟩⟩⟩,fun a7=>⟨fun a8=>⟨?_,⟨?_,fun a9=>fun a10=>⟨fun a11=>fun a12=>⟨?_,fun a13=>⟨?_,fun a14=>⟨?_,⟨rfl,⟨rfl,⟨rfl,⟨rfl,⟨rfl,⟨rfl,⟨rfl,⟨rfl,⟨?_,⟨rfl,⟨rfl,⟨rfl,⟨rfl,⟨rfl,⟨rfl,⟨?_,⟨rfl,⟨rfl,⟨rfl,⟨rfl,⟨rfl,⟨rfl,⟨?_,⟨rfl,⟨rfl,⟨?_,⟨rfl,⟨rfl,⟨rfl,⟨rfl,⟨?_,⟨rfl,⟨rfl,⟨?_,⟨?_,?_⟩⟩⟩⟩⟩⟩⟩⟩⟩⟩⟩⟩⟩⟩⟩⟩⟩⟩⟩⟩⟩⟩⟩⟩⟩⟩⟩⟩⟩⟩⟩⟩⟩⟩⟩⟩⟩⟩,fun a11=>⟨?_,?_⟩⟩⟩⟩,fun a8=>⟨fun a9=>fun a10=>⟨?_,fun a11=>⟨?_,fun a12=>⟨?_,⟨rfl,⟨rfl,⟨rfl,⟨rfl,⟨rfl,⟨rfl,⟨rfl,⟨rfl,⟨?_,⟨rfl,⟨rfl,⟨rfl,⟨rfl,⟨rfl,⟨rfl,⟨?_,⟨rfl,⟨rfl,⟨rfl,⟨rfl,⟨rfl,⟨rfl,⟨?_,⟨rfl,⟨rfl,⟨?_,⟨rfl,⟨rfl,⟨rfl,⟨rfl,⟨?_,⟨rfl,⟨rfl,⟨?_,⟨?_,?_⟩⟩⟩⟩⟩⟩⟩⟩⟩⟩⟩⟩⟩⟩⟩⟩⟩⟩⟩⟩⟩⟩⟩⟩⟩⟩⟩⟩⟩⟩⟩⟩⟩⟩⟩⟩⟩⟩,fun a9=>⟨?_,?_⟩⟩⟩⟩,fun a6=>⟨?_,?_⟩⟩⟩⟩⟩⟩⟩⟩
 all_goals try and_intros
 all_goals try simp only[a0b.eta,a0a.eta,a2b,a2d] at *
 all_goals (try simp only[e8f p.cond,Bool.not_true,Bool.not_false,Bool.true_eq_false,Bool.false_eq_true,Bool.not_eq_true',Bool.not_eq_false'] at *);first|done|rfl|trivial|exact hp|exact F.kid 0 (by have:=F.l1 (of_decide_eq_true (by assumption));omega)|(clear F Fx Fy hp;first|(simp only[iV,iO,cond_true,cond_false,Bool.true_and,Bool.and_true,Bool.false_and,Bool.and_false,Bool.not_true,Bool.not_false, *];done)|(simp only[a7c,a8b,cond_true,cond_false,Bool.true_and,Bool.and_true,Bool.false_and,Bool.and_false,Bool.not_true,Bool.not_false, *];done)|(simp only[iV,iO,a7c,a8b,cond_true,cond_false,Bool.true_and,Bool.and_true,Bool.false_and,Bool.and_false,Bool.not_true,Bool.not_false, *];done)|(have hk:decide (ru=2)=true:=(by assumption);obtain rfl:=of_decide_eq_true hk;simp only[iV,iO,a7c,a8b,cond_true,cond_false,Bool.true_and,Bool.and_true,Bool.false_and,Bool.and_false,Bool.not_true,Bool.not_false,Int.reduceEq,decide_false,decide_true, *];done)|(have hk:decide (ru=3)=true:=(by assumption);obtain rfl:=of_decide_eq_true hk;simp only[iV,iO,a7c,a8b,cond_true,cond_false,Bool.true_and,Bool.and_true,Bool.false_and,Bool.and_false,Bool.not_true,Bool.not_false,Int.reduceEq,decide_false,decide_true, *];done)|(have hk:decide (ru=4)=true:=(by assumption);obtain rfl:=of_decide_eq_true hk;simp only[iV,iO,a7c,a8b,cond_true,cond_false,Bool.true_and,Bool.and_true,Bool.false_and,Bool.and_false,Bool.not_true,Bool.not_false,Int.reduceEq,decide_false,decide_true, *];done)|(have hk:decide (ru=9)=true:=(by assumption);obtain rfl:=of_decide_eq_true hk;simp only[iV,iO,a7c,a8b,cond_true,cond_false,Bool.true_and,Bool.and_true,Bool.false_and,Bool.and_false,Bool.not_true,Bool.not_false,Int.reduceEq,decide_false,decide_true, *];done))|(simp only[decide_eq_true_eq,decide_eq_false_iff_not,Bool.and_eq_true,Bool.and_eq_false_iff,a0h,b1j] at *;(try have:=F.l2 (by omega));(try have:=F.l1 (by omega));(try have hx:=Fx (by omega));(try have hy:=Fy (by omega));(try have:=hx.l2 (by omega));(try have:=hx.l1 (by omega));(try have:=hy.l2 (by omega));(try have:=hy.l1 (by omega));(try have hx0:=a5c _ (hx.kid 0 (by omega)));(try have hx1:=a5c _ (hx.kid 1 (by omega)));(try have hy0:=a5c _ (hy.kid 0 (by omega)));(try have hy1:=a5c _ (hy.kid 1 (by omega)));(try have:=hx0.l2 (by omega));(try have:=hx0.l1 (by omega));(try have:=hx1.l2 (by omega));(try have:=hx1.l1 (by omega));(try have:=hy0.l2 (by omega));(try have:=hy0.l1 (by omega));(try have:=hy1.l2 (by omega));(try have:=hy1.l1 (by omega));(try have hx10:=a5c _ (hx1.kid 0 (by omega)));(try have:=F.sz);(try have:=F.sc);(try have:=hx.sz);(try have:=hx.sc);(try have:=hy.sz);(try have:=hy.sc);(try have:=hx0.sz);(try have:=hx0.sc);(try have:=hx1.sz);(try have:=hx1.sc);(try have:=hy0.sz);(try have:=hy0.sc);(try have:=hy1.sz);(try have:=hy1.sc);(try have:=hx10.sz);(try have:=hx10.sc);(try simp only[g3w,g3v,g3u,g3t,g3s,g3r]);omega)
theorem e5u:Ctr.OGood b5e:=f2v ⟨c2s,b4c,b4d,trivial⟩ ⟨b0y,a6u,a6c,a4m,a5g,a4i,b3p,a8z,trivial⟩ trivial trivial
def b3d:Ctr:=⟨c4p,[.r (.st .prog), .v (.int .i64)],fun (p:a0a) (ru:Int)=>⟨(some (prT p),[⟨(.st .prog),bif decide (p.kind=5) then sV (p.kids.getD 0 zP) (p.kids.getD 1 zP) ru else zP⟩,⟨.bool,bif decide (p.kind=5) then sO (p.kids.getD 0 zP) (p.kids.getD 1 zP) ru else false⟩])⟩⟩
def d2w(p:a0a)(ru:Int):Nat→a0t:=fun _ => .none
abbrev a3n(p:a0a)(ru:Int):Prop:=(zP=(bif decide (p.kind=5) then sV (p.kids.getD 0 zP) (p.kids.getD 1 zP) ru else zP)∧false=(bif decide (p.kind=5) then sO (p.kids.getD 0 zP) (p.kids.getD 1 zP) ru else false))
abbrev b9z(p:a0a)(ru:Int):Prop:=(a0h (1:Int) (p.kids.getD 1 zP).kids.length∧((p.kids.getD 1 zP).kids.length≤140737488355328 →
 ((a0e (p.kids.getD 0 zP)≤1048576∧a0e ((p.kids.getD 1 zP).kids.getD 1 zP)≤1048576)∧((a0g (a0a.mk 5 0 zE [(p.kids.getD 0 zP),((p.kids.getD 1 zP).kids.getD 1 zP)]))=(bif decide (p.kind=5) then sV (p.kids.getD 0 zP) (p.kids.getD 1 zP) ru else zP)∧true=(bif decide (p.kind=5) then sO (p.kids.getD 0 zP) (p.kids.getD 1 zP) ru else false)))))
abbrev c8b(p:a0a)(ru:Int):Prop:=(((eqB (p.kids.getD 0 zP).cond (p.kids.getD 1 zP).cond)=true →
 (b9z p ru))∧((eqB (p.kids.getD 0 zP).cond (p.kids.getD 1 zP).cond)=false →
 (a3n p ru)))
theorem f0a(p:a0a)(ru:Int):awp (a2o [a4v,a3i,a3j] [a2v,a2g,a1x,a1l,a2k,a1o,a2z,a2m] [] [42,43,57,64,70,74,92,102,103,116,143] []) (a0i b0g) (d2w p ru) 0 (a5b (a2o [a4v,a3i,a3j] [a2v,a2g,a1x,a1l,a2k,a1o,a2z,a2m] [] [42,43,57,64,70,74,92,102,103,116,143] []) b0g fun r=>a1e r [⟨(.st .prog),bif decide (p.kind=5) then sV (p.kids.getD 0 zP) (p.kids.getD 1 zP) ru else zP⟩,⟨.bool,bif decide (p.kind=5) then sO (p.kids.getD 0 zP) (p.kids.getD 1 zP) ru else false⟩]) (a7h b0g [.ref ⟨(.st .prog),p⟩, .val ⟨(.int .i64),ru⟩]) =
 ((((!(decide (p.kind=(5:Int))))=true →
 (a3n p ru))∧((!(decide (p.kind=(5:Int))))=false →
 (a0h (0:Int) p.kids.length∧(a0h (1:Int) p.kids.length∧(p.kids.length≤140737488355328 →
 (p.kids.length≤140737488355328 →
 (((decide (ru=(5:Int)))=true →
 (((decide ((p.kids.getD 0 zP).kind=(5:Int)))=true →
 ((p.kids.getD 0 zP).kids.length≤140737488355328 →
 (a0h (0:Int) (p.kids.getD 0 zP).kids.length∧((p.kids.getD 0 zP).kids.length≤140737488355328 →
 (a0h (1:Int) (p.kids.getD 0 zP).kids.length∧((p.kids.getD 0 zP)=(p.kids.getD 0 zP)∧((p.kids.getD 0 zP)=(p.kids.getD 0 zP)∧((p.kids.getD 0 zP).kids=(p.kids.getD 0 zP).kids∧((p.kids.getD 0 zP).kids=(p.kids.getD 0 zP).kids∧(a0h (0:Int) (p.kids.getD 0 zP).kids.length∧(((p.kids.getD 0 zP).kids.getD 0 zP)=((p.kids.getD 0 zP).kids.getD 0 zP)∧(((p.kids.getD 0 zP).kids.getD 0 zP)=((p.kids.getD 0 zP).kids.getD 0 zP)∧((p.kids.getD 0 zP)=(p.kids.getD 0 zP)∧((p.kids.getD 0 zP)=(p.kids.getD 0 zP)∧((p.kids.getD 0 zP).kids=(p.kids.getD 0 zP).kids∧((p.kids.getD 0 zP).kids=(p.kids.getD 0 zP).kids∧(a0h (1:Int) (p.kids.getD 0 zP).kids.length∧(((p.kids.getD 0 zP).kids.getD 1 zP)=((p.kids.getD 0 zP).kids.getD 1 zP)∧(((p.kids.getD 0 zP).kids.getD 1 zP)=((p.kids.getD 0 zP).kids.getD 1 zP)∧((p.kids.getD 1 zP)=(p.kids.getD 1 zP)∧((p.kids.getD 1 zP)=(p.kids.getD 1 zP)∧((p.kids.getD 1 zP)=(p.kids.getD 1 zP)∧((a0e ((p.kids.getD 0 zP).kids.getD 1 zP)≤1048576∧a0e (p.kids.getD 1 zP)≤1048576)∧((p.kids.getD 0 zP)=(p.kids.getD 0 zP)∧((p.kids.getD 0 zP)=(p.kids.getD 0 zP)∧((p.kids.getD 0 zP).kids=(p.kids.getD 0 zP).kids∧((p.kids.getD 0 zP).kids=(p.kids.getD 0 zP).kids∧(a0h (0:Int) (p.kids.getD 0 zP).kids.length∧(((p.kids.getD 0 zP).kids.getD 0 zP)=((p.kids.getD 0 zP).kids.getD 0 zP)∧(((p.kids.getD 0 zP).kids.getD 0 zP)=((p.kids.getD 0 zP).kids.getD 0 zP)∧((a0e ((p.kids.getD 0 zP).kids.getD 0 zP)≤1048576∧a0e (a0g (a0a.mk 5 0 zE [((p.kids.getD 0 zP).kids.getD 1 zP),(p.kids.getD 1 zP)]))≤1048576)∧((a0g (a0a.mk 5 0 zE [((p.kids.getD 0 zP).kids.getD 0 zP),(a0g (a0a.mk 5 0 zE [((p.kids.getD 0 zP).kids.getD 1 zP),(p.kids.getD 1 zP)]))]))=(bif decide (p.kind=5) then sV (p.kids.getD 0 zP) (p.kids.getD 1 zP) ru else zP)∧true=(bif decide (p.kind=5) then sO (p.kids.getD 0 zP) (p.kids.getD 1 zP) ru else false)))))))))))))))))))))))))))))))))∧((decide ((p.kids.getD 0 zP).kind=(5:Int)))=false →
 (a3n p ru))))∧((decide (ru=(5:Int)))=false →
 (((decide (ru=(6:Int)))=true →
 (((decide ((p.kids.getD 1 zP).kind=(5:Int)))=true →
 ((p.kids.getD 1 zP).kids.length≤140737488355328 →
 (a0h (0:Int) (p.kids.getD 1 zP).kids.length∧((p.kids.getD 1 zP).kids.length≤140737488355328 →
 (a0h (1:Int) (p.kids.getD 1 zP).kids.length∧((p.kids.getD 0 zP)=(p.kids.getD 0 zP)∧((p.kids.getD 0 zP)=(p.kids.getD 0 zP)∧((p.kids.getD 0 zP)=(p.kids.getD 0 zP)∧((p.kids.getD 1 zP)=(p.kids.getD 1 zP)∧((p.kids.getD 1 zP)=(p.kids.getD 1 zP)∧((p.kids.getD 1 zP).kids=(p.kids.getD 1 zP).kids∧((p.kids.getD 1 zP).kids=(p.kids.getD 1 zP).kids∧(a0h (0:Int) (p.kids.getD 1 zP).kids.length∧(((p.kids.getD 1 zP).kids.getD 0 zP)=((p.kids.getD 1 zP).kids.getD 0 zP)∧(((p.kids.getD 1 zP).kids.getD 0 zP)=((p.kids.getD 1 zP).kids.getD 0 zP)∧((p.kids.getD 1 zP)=(p.kids.getD 1 zP)∧((p.kids.getD 1 zP)=(p.kids.getD 1 zP)∧((p.kids.getD 1 zP).kids=(p.kids.getD 1 zP).kids∧((p.kids.getD 1 zP).kids=(p.kids.getD 1 zP).kids∧(a0h (1:Int) (p.kids.getD 1 zP).kids.length∧(((p.kids.getD 1 zP).kids.getD 1 zP)=((p.kids.getD 1 zP).kids.getD 1 zP)∧(((p.kids.getD 1 zP).kids.getD 1 zP)=((p.kids.getD 1 zP).kids.getD 1 zP)∧((a0e (p.kids.getD 0 zP)≤1048576∧a0e ((p.kids.getD 1 zP).kids.getD 0 zP)≤1048576)∧((p.kids.getD 1 zP)=(p.kids.getD 1 zP)∧((p.kids.getD 1 zP)=(p.kids.getD 1 zP)∧((p.kids.getD 1 zP).kids=(p.kids.getD 1 zP).kids∧((p.kids.getD 1 zP).kids=(p.kids.getD 1 zP).kids∧(a0h (1:Int) (p.kids.getD 1 zP).kids.length∧(((p.kids.getD 1 zP).kids.getD 1 zP)=((p.kids.getD 1 zP).kids.getD 1 zP)∧(((p.kids.getD 1 zP).kids.getD 1 zP)=((p.kids.getD 1 zP).kids.getD 1 zP)∧((a0e (a0g (a0a.mk 5 0 zE [(p.kids.getD 0 zP),((p.kids.getD 1 zP).kids.getD 0 zP)]))≤1048576∧a0e ((p.kids.getD 1 zP).kids.getD 1 zP)≤1048576)∧((a0g (a0a.mk 5 0 zE [(a0g (a0a.mk 5 0 zE [(p.kids.getD 0 zP),((p.kids.getD 1 zP).kids.getD 0 zP)])),((p.kids.getD 1 zP).kids.getD 1 zP)]))=(bif decide (p.kind=5) then sV (p.kids.getD 0 zP) (p.kids.getD 1 zP) ru else zP)∧true=(bif decide (p.kind=5) then sO (p.kids.getD 0 zP) (p.kids.getD 1 zP) ru else false)))))))))))))))))))))))))))))))))∧((decide ((p.kids.getD 1 zP).kind=(5:Int)))=false →
 (a3n p ru))))∧((decide (ru=(6:Int)))=false →
 (((decide (ru=(7:Int)))=true →
 (((decide ((p.kids.getD 0 zP).kind=(1:Int)))=true →
 (a0e (p.kids.getD 1 zP)≤1048576∧((a0g (p.kids.getD 1 zP))=(bif decide (p.kind=5) then sV (p.kids.getD 0 zP) (p.kids.getD 1 zP) ru else zP)∧true=(bif decide (p.kind=5) then sO (p.kids.getD 0 zP) (p.kids.getD 1 zP) ru else false))))∧((decide ((p.kids.getD 0 zP).kind=(1:Int)))=false →
 (((decide ((p.kids.getD 1 zP).kind=(1:Int)))=true →
 (a0e (p.kids.getD 0 zP)≤1048576∧((a0g (p.kids.getD 0 zP))=(bif decide (p.kind=5) then sV (p.kids.getD 0 zP) (p.kids.getD 1 zP) ru else zP)∧true=(bif decide (p.kind=5) then sO (p.kids.getD 0 zP) (p.kids.getD 1 zP) ru else false))))∧((decide ((p.kids.getD 1 zP).kind=(1:Int)))=false →
 (a3n p ru))))))∧((decide (ru=(7:Int)))=false →
 (((decide (ru=(8:Int)))=true →
 (((decide ((p.kids.getD 0 zP).kind=(6:Int)))=true →
 ((p.kids.getD 0 zP).kids.length≤140737488355328 →
 (a0h (0:Int) (p.kids.getD 0 zP).kids.length∧((p.kids.getD 0 zP).kids.length≤140737488355328 →
 (a0h (1:Int) (p.kids.getD 0 zP).kids.length∧((p.kids.getD 0 zP)=(p.kids.getD 0 zP)∧((p.kids.getD 0 zP)=(p.kids.getD 0 zP)∧((p.kids.getD 0 zP).cond=(p.kids.getD 0 zP).cond∧((p.kids.getD 0 zP).cond=(p.kids.getD 0 zP).cond∧((p.kids.getD 0 zP)=(p.kids.getD 0 zP)∧((p.kids.getD 0 zP)=(p.kids.getD 0 zP)∧((p.kids.getD 0 zP).kids=(p.kids.getD 0 zP).kids∧((p.kids.getD 0 zP).kids=(p.kids.getD 0 zP).kids∧(a0h (0:Int) (p.kids.getD 0 zP).kids.length∧(((p.kids.getD 0 zP).kids.getD 0 zP)=((p.kids.getD 0 zP).kids.getD 0 zP)∧(((p.kids.getD 0 zP).kids.getD 0 zP)=((p.kids.getD 0 zP).kids.getD 0 zP)∧((p.kids.getD 1 zP)=(p.kids.getD 1 zP)∧((p.kids.getD 1 zP)=(p.kids.getD 1 zP)∧((p.kids.getD 1 zP)=(p.kids.getD 1 zP)∧((p.kids.getD 0 zP)=(p.kids.getD 0 zP)∧((p.kids.getD 0 zP)=(p.kids.getD 0 zP)∧((p.kids.getD 0 zP).kids=(p.kids.getD 0 zP).kids∧((p.kids.getD 0 zP).kids=(p.kids.getD 0 zP).kids∧(a0h (1:Int) (p.kids.getD 0 zP).kids.length∧(((p.kids.getD 0 zP).kids.getD 1 zP)=((p.kids.getD 0 zP).kids.getD 1 zP)∧(((p.kids.getD 0 zP).kids.getD 1 zP)=((p.kids.getD 0 zP).kids.getD 1 zP)∧((p.kids.getD 1 zP)=(p.kids.getD 1 zP)∧((p.kids.getD 1 zP)=(p.kids.getD 1 zP)∧((p.kids.getD 1 zP)=(p.kids.getD 1 zP)∧((a0e ((p.kids.getD 0 zP).kids.getD 0 zP)≤1048576∧a0e (p.kids.getD 1 zP)≤1048576)∧((p.kids.getD 0 zP)=(p.kids.getD 0 zP)∧((p.kids.getD 0 zP)=(p.kids.getD 0 zP)∧((p.kids.getD 0 zP).cond=(p.kids.getD 0 zP).cond∧((p.kids.getD 0 zP).cond=(p.kids.getD 0 zP).cond∧((p.kids.getD 0 zP)=(p.kids.getD 0 zP)∧((p.kids.getD 0 zP)=(p.kids.getD 0 zP)∧((p.kids.getD 0 zP).kids=(p.kids.getD 0 zP).kids∧((p.kids.getD 0 zP).kids=(p.kids.getD 0 zP).kids∧(a0h (1:Int) (p.kids.getD 0 zP).kids.length∧(((p.kids.getD 0 zP).kids.getD 1 zP)=((p.kids.getD 0 zP).kids.getD 1 zP)∧(((p.kids.getD 0 zP).kids.getD 1 zP)=((p.kids.getD 0 zP).kids.getD 1 zP)∧((p.kids.getD 1 zP)=(p.kids.getD 1 zP)∧((p.kids.getD 1 zP)=(p.kids.getD 1 zP)∧((p.kids.getD 1 zP)=(p.kids.getD 1 zP)∧((a0e ((p.kids.getD 0 zP).kids.getD 1 zP)≤1048576∧a0e (p.kids.getD 1 zP)≤1048576)∧((p.kids.getD 0 zP)=(p.kids.getD 0 zP)∧((p.kids.getD 0 zP)=(p.kids.getD 0 zP)∧((p.kids.getD 0 zP).cond=(p.kids.getD 0 zP).cond∧((p.kids.getD 0 zP).cond=(p.kids.getD 0 zP).cond∧((a0q (p.kids.getD 0 zP).cond≤1048576∧a0e (a0g (a0a.mk 5 0 zE [((p.kids.getD 0 zP).kids.getD 0 zP),(p.kids.getD 1 zP)]))≤1048576∧a0e (a0g (a0a.mk 5 0 zE [((p.kids.getD 0 zP).kids.getD 1 zP),(p.kids.getD 1 zP)]))≤1048576)∧((a0g (a0a.mk 6 0 (p.kids.getD 0 zP).cond [(a0g (a0a.mk 5 0 zE [((p.kids.getD 0 zP).kids.getD 0 zP),(p.kids.getD 1 zP)])),(a0g (a0a.mk 5 0 zE [((p.kids.getD 0 zP).kids.getD 1 zP),(p.kids.getD 1 zP)]))]))=(bif decide (p.kind=5) then sV (p.kids.getD 0 zP) (p.kids.getD 1 zP) ru else zP)∧true=(bif decide (p.kind=5) then sO (p.kids.getD 0 zP) (p.kids.getD 1 zP) ru else false))))))))))))))))))))))))))))))))))))))))))))))))))))∧((decide ((p.kids.getD 0 zP).kind=(6:Int)))=false →
 (a3n p ru))))∧((decide (ru=(8:Int)))=false →
 (((decide (ru=(12:Int)))=true →
 (((decide ((p.kids.getD 0 zP).kind=(4:Int)))=true →
 ((a0q (p.kids.getD 0 zP).cond≤1048576∧a0e (p.kids.getD 1 zP)≤1048576∧a0e (a0a.mk (2:Int) (0:Int) zE [])≤1048576)∧((a0g (a0a.mk 6 0 (p.kids.getD 0 zP).cond [(p.kids.getD 1 zP),(a0a.mk (2:Int) (0:Int) zE [])]))=(bif decide (p.kind=5) then sV (p.kids.getD 0 zP) (p.kids.getD 1 zP) ru else zP)∧true=(bif decide (p.kind=5) then sO (p.kids.getD 0 zP) (p.kids.getD 1 zP) ru else false))))∧((decide ((p.kids.getD 0 zP).kind=(4:Int)))=false →
 (a3n p ru))))∧((decide (ru=(12:Int)))=false →
 (((decide (ru=(13:Int)))=true →
 (((decide ((p.kids.getD 0 zP).kind=(7:Int)))=true →
 (((decide ((p.kids.getD 1 zP).kind=(6:Int)))=true →
 (c8b p ru))∧((decide ((p.kids.getD 1 zP).kind=(6:Int)))=(!true) →
 ((false=true →
 (b9z p ru))∧(false=false →
 (a3n p ru))))))∧((decide ((p.kids.getD 0 zP).kind=(7:Int)))=(!true) →
 ((false=true →
 (c8b p ru))∧(false=(!true) →
 ((false=true →
 (b9z p ru))∧(false=false →
 (a3n p ru))))))))∧((decide (ru=(13:Int)))=false →
 (a3n p ru)))))))))))))))))))):=by kernel_rfl
theorem e9j(hE:a0p [a4v,a3i,a3j])(hO:a4f [a2v,a2g,a1x,a1l,a2k,a1o,a2z,a2m])(hM:a4x [])(hS:a4p []):Ctr.OGood b3d:=by
 refine⟨a0j d1s rfl (by decide),?_⟩
 show ∀ (p:a0a) (ru:Int),(prT p)→a6f prog c4p [.ref ⟨(.st .prog),p⟩, .val ⟨(.int .i64),ru⟩] [⟨(.st .prog),bif decide (p.kind=5) then sV (p.kids.getD 0 zP) (p.kids.getD 1 zP) ru else zP⟩,⟨.bool,bif decide (p.kind=5) then sO (p.kids.getD 0 zP) (p.kids.getD 1 zP) ru else false⟩]
 intro p ru hp
 refine a4e (own:=[42,43,57,64,70,74,92,102,103,116,143]) (wr:=[]) (cl:=[]) (ro:=[]) hE hO hM hS d1s e5d (d2w p ru) ?_
 rewrite [f0a p ru]
 have F:=a5c p hp
 have Fx:=fun h=>a5c (p.kids.getD 0 zP) (F.kid 0 h)
 have Fy:=fun h=>a5c (p.kids.getD 1 zP) (F.kid 1 h)
 refine⟨fun a0=>⟨?_,?_⟩,fun a0=>⟨?_,⟨?_,fun a1=>fun a2=>⟨fun a3=>⟨fun a4=>fun a5=>⟨?_,fun a6=>⟨?_,⟨rfl,⟨rfl,⟨rfl,⟨rfl,⟨?_,⟨rfl,⟨rfl,⟨rfl,⟨rfl,⟨rfl,⟨rfl,⟨?_,⟨rfl,⟨rfl,⟨rfl,⟨rfl,⟨rfl,⟨?_,⟨rfl,⟨rfl,⟨rfl,⟨rfl,⟨?_,⟨rfl,⟨rfl,⟨?_,⟨?_,?_⟩⟩⟩⟩⟩⟩⟩⟩⟩⟩⟩⟩⟩⟩⟩⟩⟩⟩⟩⟩⟩⟩⟩⟩⟩⟩⟩⟩⟩,fun a4=>⟨?_,?_⟩⟩,fun a3=>⟨fun a4=>⟨fun a5=>fun a6=>⟨?_,fun a7=>⟨?_,⟨rfl,⟨rfl,⟨rfl,⟨rfl,⟨rfl,⟨rfl,⟨rfl,⟨?_,⟨rfl,⟨rfl,⟨rfl,⟨rfl,⟨rfl,⟨rfl,⟨?_,⟨rfl,⟨rfl,⟨?_,⟨rfl,⟨rfl,⟨rfl,⟨rfl,⟨?_,⟨rfl,⟨rfl,⟨?_,⟨?_,?_⟩⟩⟩⟩⟩⟩⟩⟩⟩⟩⟩⟩⟩⟩⟩⟩⟩⟩⟩⟩⟩⟩⟩⟩⟩⟩⟩⟩⟩,fun a5=>⟨?_,?_⟩⟩,fun a4=>⟨fun a5=>⟨fun a6=>⟨?_,⟨?_,?_⟩⟩,fun a6=>⟨fun a7=>⟨?_,⟨?_,?_⟩⟩,fun a7=>⟨?_,?_⟩⟩⟩,fun a5=>⟨fun a6=>⟨fun a7=>fun a8=>⟨?_,fun a9=>⟨?_,⟨rfl,⟨rfl,⟨rfl,⟨rfl,⟨rfl,⟨rfl,⟨rfl,⟨rfl,⟨?_,⟨rfl,⟨rfl,⟨rfl,⟨rfl,⟨rfl,⟨rfl,⟨rfl,⟨rfl,⟨rfl,⟨?_,⟨rfl,⟨rfl,⟨rfl,⟨rfl,⟨rfl,⟨?_,⟨rfl,⟨rfl,⟨rfl,⟨rfl,⟨rfl,⟨rfl,⟨rfl,⟨rfl,⟨?_,⟨rfl,⟨rfl,⟨rfl,⟨rfl,⟨rfl,⟨?_,⟨rfl,⟨rfl,⟨rfl,⟨rfl,⟨?_,⟨?_,?_⟩⟩⟩⟩⟩⟩⟩⟩⟩⟩⟩⟩⟩⟩⟩⟩⟩⟩⟩⟩⟩⟩⟩⟩⟩⟩⟩⟩⟩⟩⟩⟩⟩⟩⟩⟩⟩⟩⟩⟩⟩⟩⟩⟩⟩⟩⟩⟩,fun a7=>⟨?_,?_⟩⟩,fun a6=>⟨fun a7=>⟨fun a8=>⟨?_,⟨?_,?_⟩⟩,fun a8=>⟨?_,?_⟩⟩,fun a7=>⟨fun a8=>⟨fun a9=>⟨fun a10=>⟨fun a11=>⟨?_,fun a12=>⟨?_,⟨?_,?_⟩⟩⟩,fun a11=>⟨?_,?_⟩⟩,fun a10=>⟨fun a11=>⟨?_,fun a12=>⟨?_,⟨?_,?_⟩⟩⟩,fun a11=>⟨?_,?_⟩⟩⟩,fun a9=>⟨fun a10=>⟨fun a11=>⟨?_,fun a12=>⟨?_,⟨?_,?_⟩⟩⟩,fun a11=>⟨?_,?_⟩⟩,fun a10=>⟨fun a11=>⟨?_,fun a12=>⟨?_,⟨?_,?_⟩⟩⟩,fun a11=>⟨?_,?_⟩⟩⟩⟩,fun a8=>⟨?_,?_⟩⟩⟩⟩⟩⟩⟩⟩⟩⟩
 all_goals try and_intros
 all_goals try simp only[a0b.eta,a0a.eta,a2b,a2d] at *
 all_goals (try simp only[e8f p.cond,Bool.not_true,Bool.not_false,Bool.true_eq_false,Bool.false_eq_true,Bool.not_eq_true',Bool.not_eq_false'] at *);first|done|rfl|trivial|exact hp|exact F.kid 0 (by have:=F.l1 (of_decide_eq_true (by assumption));omega)|(clear F Fx Fy hp;first|(simp only[sV,sO,cond_true,cond_false,Bool.true_and,Bool.and_true,Bool.false_and,Bool.and_false,Bool.not_true,Bool.not_false, *];done)|(simp only[b2j,cond_true,cond_false,Bool.true_and,Bool.and_true,Bool.false_and,Bool.and_false,Bool.not_true,Bool.not_false, *];done)|(simp only[sV,sO,b2j,cond_true,cond_false,Bool.true_and,Bool.and_true,Bool.false_and,Bool.and_false,Bool.not_true,Bool.not_false, *];done)|(have hk:decide (ru=5)=true:=(by assumption);obtain rfl:=of_decide_eq_true hk;simp only[sV,sO,b2j,cond_true,cond_false,Bool.true_and,Bool.and_true,Bool.false_and,Bool.and_false,Bool.not_true,Bool.not_false,Int.reduceEq,decide_false,decide_true, *];done)|(have hk:decide (ru=6)=true:=(by assumption);obtain rfl:=of_decide_eq_true hk;simp only[sV,sO,b2j,cond_true,cond_false,Bool.true_and,Bool.and_true,Bool.false_and,Bool.and_false,Bool.not_true,Bool.not_false,Int.reduceEq,decide_false,decide_true, *];done)|(have hk:decide (ru=7)=true:=(by assumption);obtain rfl:=of_decide_eq_true hk;simp only[sV,sO,b2j,cond_true,cond_false,Bool.true_and,Bool.and_true,Bool.false_and,Bool.and_false,Bool.not_true,Bool.not_false,Int.reduceEq,decide_false,decide_true, *];done)|(have hk:decide (ru=8)=true:=(by assumption);obtain rfl:=of_decide_eq_true hk;simp only[sV,sO,b2j,cond_true,cond_false,Bool.true_and,Bool.and_true,Bool.false_and,Bool.and_false,Bool.not_true,Bool.not_false,Int.reduceEq,decide_false,decide_true, *];done)|(have hk:decide (ru=12)=true:=(by assumption);obtain rfl:=of_decide_eq_true hk;simp only[sV,sO,b2j,cond_true,cond_false,Bool.true_and,Bool.and_true,Bool.false_and,Bool.and_false,Bool.not_true,Bool.not_false,Int.reduceEq,decide_false,decide_true, *];done)|(have hk:decide (ru=13)=true:=(by assumption);obtain rfl:=of_decide_eq_true hk;simp only[sV,sO,b2j,cond_true,cond_false,Bool.true_and,Bool.and_true,Bool.false_and,Bool.and_false,Bool.not_true,Bool.not_false,Int.reduceEq,decide_false,decide_true, *];done))|(simp only[decide_eq_true_eq,decide_eq_false_iff_not,Bool.and_eq_true,Bool.and_eq_false_iff,a0h,b1j] at *;(try have:=F.l2 (by omega));(try have:=F.l1 (by omega));(try have hx:=Fx (by omega));(try have hy:=Fy (by omega));(try have:=hx.l2 (by omega));(try have:=hx.l1 (by omega));(try have:=hy.l2 (by omega));(try have:=hy.l1 (by omega));(try have hx0:=a5c _ (hx.kid 0 (by omega)));(try have hx1:=a5c _ (hx.kid 1 (by omega)));(try have hy0:=a5c _ (hy.kid 0 (by omega)));(try have hy1:=a5c _ (hy.kid 1 (by omega)));(try have:=hx0.l2 (by omega));(try have:=hx0.l1 (by omega));(try have:=hx1.l2 (by omega));(try have:=hx1.l1 (by omega));(try have:=hy0.l2 (by omega));(try have:=hy0.l1 (by omega));(try have:=hy1.l2 (by omega));(try have:=hy1.l1 (by omega));(try have hx10:=a5c _ (hx1.kid 0 (by omega)));(try have:=F.sz);(try have:=F.sc);(try have:=hx.sz);(try have:=hx.sc);(try have:=hy.sz);(try have:=hy.sc);(try have:=hx0.sz);(try have:=hx0.sc);(try have:=hx1.sz);(try have:=hx1.sc);(try have:=hy0.sz);(try have:=hy0.sc);(try have:=hy1.sz);(try have:=hy1.sc);(try have:=hx10.sz);(try have:=hx10.sc);(try simp only[g3w,g3v,g3u,g3t,g3s,g3r]);omega)
theorem e3e:Ctr.OGood b3d:=e9j ⟨c2s,b4c,b4d,trivial⟩ ⟨b0y,a6u,a6c,a4m,a5g,a4i,b3p,a8z,trivial⟩ trivial trivial
theorem g8x(p:a0a)(ru:Int)(h:ru=1∨ru=10∨ru=11∨ru=14):(bif decide (p.kind=7) then wV p (p.kids.getD 0 zP) ru else zP)=rwV p ru∧(bif decide (p.kind=7) then wO p (p.kids.getD 0 zP) ru else false)=rwO p ru:=by
 unfold rwV rwO
 have e:∀ x y,iV p x y ru=zP∧iO p x y ru=false∧sV x y ru=zP∧sO x y ru=false:=fun x y=>by
  rcases h with rfl|rfl|rfl|rfl<;>simp only[iV,iO,sV,sO,Int.reduceEq,decide_false,Bool.false_and,cond_false,and_self]
 cases decide (p.kind=7)
 ·simp only[cond_false,e]
  cases decide (p.kind=6)<;>cases decide (p.kind=5)<;>exact⟨rfl,rfl⟩
 ·exact⟨rfl,rfl⟩
theorem g6t(k a b:Int)(h:a≠b)(hk:decide (k=a)=true):decide (k=b)=false:=by
 rw[decide_eq_true_eq] at hk;rw[decide_eq_false_iff_not];omega
theorem g8v(p:a0a)(ru:Int)(h:ru=2∨ru=3∨ru=4∨ru=9):(bif decide (p.kind=6) then iV p (p.kids.getD 0 zP) (p.kids.getD 1 zP) ru else zP)=rwV p ru∧(bif decide (p.kind=6) then iO p (p.kids.getD 0 zP) (p.kids.getD 1 zP) ru else false)=rwO p ru:=by
 unfold rwV rwO
 have e:∀ x y,wV p x ru=zP∧wO p x ru=false∧sV x y ru=zP∧sO x y ru=false:=fun x y=>by
  rcases h with rfl|rfl|rfl|rfl<;>simp only[wV,wO,sV,sO,Int.reduceEq,decide_false,Bool.false_and,cond_false,and_self]
 cases h6:decide (p.kind=6)
 ·simp only[cond_false,e _ zP,e]
  cases decide (p.kind=7)<;>cases decide (p.kind=5)<;>exact⟨rfl,rfl⟩
 ·rw[g6t _ 6 7 (by decide) h6];exact⟨rfl,rfl⟩
theorem g8w(p:a0a)(ru:Int)(h1:ru≠1)(h2:ru≠2)(h3:ru≠3)(h4:ru≠4)(h9:ru≠9)(h10:ru≠10)(h11:ru≠11)(h14:ru≠14):(bif decide (p.kind=5) then sV (p.kids.getD 0 zP) (p.kids.getD 1 zP) ru else zP)=rwV p ru∧(bif decide (p.kind=5) then sO (p.kids.getD 0 zP) (p.kids.getD 1 zP) ru else false)=rwO p ru:=by
 unfold rwV rwO
 have e:∀ x y,wV p x ru=zP∧wO p x ru=false∧iV p x y ru=zP∧iO p x y ru=false:=fun x y=>by
  simp only[wV,wO,iV,iO,decide_eq_false h1,decide_eq_false h2,decide_eq_false h3,decide_eq_false h4,decide_eq_false h9,decide_eq_false h10,decide_eq_false h11,decide_eq_false h14,Bool.false_and,cond_false,and_self]
 cases h5:decide (p.kind=5)
 ·simp only[cond_false,e _ zP,e]
  cases decide (p.kind=7)<;>cases decide (p.kind=6)<;>exact⟨rfl,rfl⟩
 ·rw[g6t _ 5 7 (by decide) h5,g6t _ 5 6 (by decide) h5];exact⟨rfl,rfl⟩
def c5x:Ctr:=⟨b4f,[.r (.st .prog), .v (.int .i64)],fun (p:a0a) (ru:Int)=>⟨(some (prT p),[⟨(.st .prog),rwV p ru⟩,⟨.bool,rwO p ru⟩])⟩⟩
def c6a(p:a0a)(ru:Int):Nat→a0t:=fun _ => .none
abbrev a9g(p:a0a)(ru:Int):Prop:=(prT p∧((a0g (bif decide (p.kind=7) then wV p (p.kids.getD 0 zP) ru else zP))=(rwV p ru)∧(bif decide (p.kind=7) then wO p (p.kids.getD 0 zP) ru else false)=(rwO p ru)))
abbrev a9h(p:a0a)(ru:Int):Prop:=(prT p∧((a0g (bif decide (p.kind=6) then iV p (p.kids.getD 0 zP) (p.kids.getD 1 zP) ru else zP))=(rwV p ru)∧(bif decide (p.kind=6) then iO p (p.kids.getD 0 zP) (p.kids.getD 1 zP) ru else false)=(rwO p ru)))
abbrev a9i(p:a0a)(ru:Int):Prop:=(prT p∧((a0g (bif decide (p.kind=5) then sV (p.kids.getD 0 zP) (p.kids.getD 1 zP) ru else zP))=(rwV p ru)∧(bif decide (p.kind=5) then sO (p.kids.getD 0 zP) (p.kids.getD 1 zP) ru else false)=(rwO p ru)))
abbrev a9j(p:a0a)(ru:Int):Prop:=(((decide (ru=(2:Int)))=true →
 (((decide (ru=(2:Int)))=true →
 (a9h p ru))∧((decide (ru=(2:Int)))=false →
 (a9i p ru))))∧((decide (ru=(2:Int)))=false →
 (((decide (ru=(3:Int)))=true →
 (((decide (ru=(3:Int)))=true →
 (a9h p ru))∧((decide (ru=(3:Int)))=false →
 (a9i p ru))))∧((decide (ru=(3:Int)))=false →
 (((decide (ru=(4:Int)))=true →
 (((decide (ru=(4:Int)))=true →
 (a9h p ru))∧((decide (ru=(4:Int)))=false →
 (a9i p ru))))∧((decide (ru=(4:Int)))=false →
 (((decide (ru=(9:Int)))=true →
 (a9h p ru))∧((decide (ru=(9:Int)))=false →
 (a9i p ru)))))))))
theorem e0q(p:a0a)(ru:Int):awp (a2o [] [b0w,b5e,b3d] [] [14,24,29] []) (a0i a6r) (c6a p ru) 0 (a5b (a2o [] [b0w,b5e,b3d] [] [14,24,29] []) a6r fun r=>a1e r [⟨(.st .prog),rwV p ru⟩,⟨.bool,rwO p ru⟩]) (a7h a6r [.ref ⟨(.st .prog),p⟩, .val ⟨(.int .i64),ru⟩]) =
 ((((decide (ru=(1:Int)))=true →
 (((decide (ru=(1:Int)))=true →
 (a9g p ru))∧((decide (ru=(1:Int)))=false →
 (a9j p ru))))∧((decide (ru=(1:Int)))=false →
 (((decide (ru=(10:Int)))=true →
 (((decide (ru=(10:Int)))=true →
 (a9g p ru))∧((decide (ru=(10:Int)))=false →
 (a9j p ru))))∧((decide (ru=(10:Int)))=false →
 (((decide (ru=(11:Int)))=true →
 (((decide (ru=(11:Int)))=true →
 (a9g p ru))∧((decide (ru=(11:Int)))=false →
 (a9j p ru))))∧((decide (ru=(11:Int)))=false →
 (((decide (ru=(14:Int)))=true →
 (a9g p ru))∧((decide (ru=(14:Int)))=false →
 (a9j p ru)))))))))):=by kernel_rfl
theorem e0j(hE:a0p [])(hO:a4f [b0w,b5e,b3d])(hM:a4x [])(hS:a4p []):Ctr.OGood c5x:=by
 refine⟨a0j c5j rfl (by decide),?_⟩
 show ∀ (p:a0a) (ru:Int),(prT p)→a6f prog b4f [.ref ⟨(.st .prog),p⟩, .val ⟨(.int .i64),ru⟩] [⟨(.st .prog),rwV p ru⟩,⟨.bool,rwO p ru⟩]
 intro p ru hp
 refine a4e (own:=[14,24,29]) (wr:=[]) (cl:=[]) (ro:=[]) hE hO hM hS c5j d7c (c6a p ru) ?_
 rewrite [e0q p ru]
 refine⟨fun a0=>⟨fun a1=>⟨?_,⟨?_,?_⟩⟩,fun a1=>⟨fun a2=>⟨fun a3=>⟨?_,⟨?_,?_⟩⟩,fun a3=>⟨?_,⟨?_,?_⟩⟩⟩,fun a2=>⟨fun a3=>⟨fun a4=>⟨?_,⟨?_,?_⟩⟩,fun a4=>⟨?_,⟨?_,?_⟩⟩⟩,fun a3=>⟨fun a4=>⟨fun a5=>⟨?_,⟨?_,?_⟩⟩,fun a5=>⟨?_,⟨?_,?_⟩⟩⟩,fun a4=>⟨fun a5=>⟨?_,⟨?_,?_⟩⟩,fun a5=>⟨?_,⟨?_,?_⟩⟩⟩⟩⟩⟩⟩,fun a0=>⟨fun a1=>⟨fun a2=>⟨?_,⟨?_,?_⟩⟩,fun a2=>⟨fun a3=>⟨fun a4=>⟨?_,⟨?_,?_⟩⟩,fun a4=>⟨?_,⟨?_,?_⟩⟩⟩,fun a3=>⟨fun a4=>⟨fun a5=>⟨?_,⟨?_,?_⟩⟩,fun a5=>⟨?_,⟨?_,?_⟩⟩⟩,fun a4=>⟨fun a5=>⟨fun a6=>⟨?_,⟨?_,?_⟩⟩,fun a6=>⟨?_,⟨?_,?_⟩⟩⟩,fun a5=>⟨fun a6=>⟨?_,⟨?_,?_⟩⟩,fun a6=>⟨?_,⟨?_,?_⟩⟩⟩⟩⟩⟩⟩,fun a1=>⟨fun a2=>⟨fun a3=>⟨?_,⟨?_,?_⟩⟩,fun a3=>⟨fun a4=>⟨fun a5=>⟨?_,⟨?_,?_⟩⟩,fun a5=>⟨?_,⟨?_,?_⟩⟩⟩,fun a4=>⟨fun a5=>⟨fun a6=>⟨?_,⟨?_,?_⟩⟩,fun a6=>⟨?_,⟨?_,?_⟩⟩⟩,fun a5=>⟨fun a6=>⟨fun a7=>⟨?_,⟨?_,?_⟩⟩,fun a7=>⟨?_,⟨?_,?_⟩⟩⟩,fun a6=>⟨fun a7=>⟨?_,⟨?_,?_⟩⟩,fun a7=>⟨?_,⟨?_,?_⟩⟩⟩⟩⟩⟩⟩,fun a2=>⟨fun a3=>⟨?_,⟨?_,?_⟩⟩,fun a3=>⟨fun a4=>⟨fun a5=>⟨?_,⟨?_,?_⟩⟩,fun a5=>⟨?_,⟨?_,?_⟩⟩⟩,fun a4=>⟨fun a5=>⟨fun a6=>⟨?_,⟨?_,?_⟩⟩,fun a6=>⟨?_,⟨?_,?_⟩⟩⟩,fun a5=>⟨fun a6=>⟨fun a7=>⟨?_,⟨?_,?_⟩⟩,fun a7=>⟨?_,⟨?_,?_⟩⟩⟩,fun a6=>⟨fun a7=>⟨?_,⟨?_,?_⟩⟩,fun a7=>⟨?_,⟨?_,?_⟩⟩⟩⟩⟩⟩⟩⟩⟩⟩
 all_goals try and_intros
 all_goals try simp only[a0b.eta,a0a.eta,a2b,a2d] at *
 all_goals first|rfl|trivial|exact hp|(simp only[decide_eq_true_eq,decide_eq_false_iff_not] at *;first|exact (g8x p ru (by omega)).1|exact (g8x p ru (by omega)).2|exact (g8v p ru (by omega)).1|exact (g8v p ru (by omega)).2|exact (g8w p ru (by omega) (by omega) (by omega) (by omega) (by omega) (by omega) (by omega) (by omega)).1|exact (g8w p ru (by omega) (by omega) (by omega) (by omega) (by omega) (by omega) (by omega) (by omega)).2)
theorem d6i:Ctr.OGood c5x:=e0j trivial ⟨e0g,e5u,e3e,trivial⟩ trivial trivial
end
end Go.Proofs.Ytlaoejdeanljgaa

set_option linter.unusedVariables false
set_option linter.unusedSimpArgs false
set_option linter.unusedSectionVars false
set_option maxRecDepth 4000
set_option maxHeartbeats 4000000
namespace Go.Proofs.Ytlaoejdeanljgaa
noncomputable section
def atO:a0a→List Int→Bool
 | _,[]=>true
 | p,k::ks=>decide (0≤k∧k≤(p.kids.length:Int) - 1)&&atO (p.kids.getD k.toNat zP) ks
def a2a:a0a→List Int→a0a
 | p,[]=>p
 | p,k::ks=>a2a (p.kids.getD k.toNat zP) ks
def atW(b:a0a):a0a→List Int→a0a
 | _,[]=>b
 | p,k::ks=>a0a.mk p.kind p.num p.cond (p.kids.set k.toNat (atW b (p.kids.getD k.toNat zP) ks))
def atP(p:a0a)(ks:List Int):a0a:=bif atO p ks then a2a p ks else zP
theorem f4i(k:Int):∀ (ks:List Int) (p:a0a),atO p (ks++[k])=(atO p ks&&decide (0≤k∧k≤((a2a p ks).kids.length:Int) - 1))∧a2a p (ks++[k])=(a2a p ks).kids.getD k.toNat zP
 | [],p=>⟨Bool.and_comm _ _,rfl⟩
 | j::ks,p=>by
  have:=f4i k ks (p.kids.getD j.toNat zP)
  refine⟨?_,this.2⟩
  show (decide _&&atO _ (ks++[k]))=((decide _&&atO _ ks)&&decide _)
  rw[this.1,Bool.and_assoc];rfl
theorem g1s:∀ (ks js:List Int) (p:a0a),atO p ks=false→atO p (ks++js)=false
 | [],_,_,h=>by cases h
 | k::ks,js,p,h=>by
  simp only[List.cons_append,atO,Bool.and_eq_false_iff] at h ⊢
  rcases h with h|h
  ·exact .inl h
  ·exact .inr (g1s ks js _ h)
theorem g1t(p:a0a)(ks:List Int)(i:Nat)(h:i<ks.length):atO p (ks.take (i+1))=(atO p (ks.take i)&&decide (0≤ks.getD i 0∧ks.getD i 0≤((a2a p (ks.take i)).kids.length:Int) - 1))∧a2a p (ks.take (i+1))=(a2a p (ks.take i)).kids.getD (ks.getD i 0).toNat zP:=by
 rw[a9s 0 ks i h];exact f4i _ _ _
theorem g4h(p:a0a)(ks:List Int)(i:Nat)(h:atO p (ks.take (i+1))=false):atP p ks=zP∧atO p ks=false:=by
 have:atO p ks=false:=by
  rw[←List.take_append_drop (i+1) ks]
  exact g1s _ _ _ h
 exact⟨by rw[atP,this];rfl,this⟩
theorem g4i(p:a0a)(ks:List Int)(i:Nat)(h:ks.length≤i)(ho:atO p (ks.take i)=true):a2a p (ks.take i)=atP p ks∧atO p ks=true:=by
 rw[List.take_of_length_le h] at ho ⊢
 exact⟨by rw[atP,ho];rfl,ho⟩
theorem g4j:∀ (ks:List Int) (p:a0a),prT p→atO p ks=true→prT (a2a p ks)
 | [],_,h,_=>h
 | k::ks,p,h,ho=>by
  simp only[atO,Bool.and_eq_true,decide_eq_true_eq] at ho
  exact g4j ks _ ((a5c p h).kid _ (by omega)) ho.2
mutual
theorem g2f(gg:a0l):∀ p:a0a,a1d gg p=true→a0e p+1≤202 * a1g p
 | ⟨k,n,c,ks⟩,h=>by
  have h0:=h
  rw[b8s,c0w] at h0
  simp only[Bool.and_eq_true,decide_eq_true_eq] at h0
  obtain⟨⟨⟨h1,_⟩,h3⟩,h4⟩:=h0
  have ih:=g0s gg ks h4
  have hc:a0q c≤199:=by
   rw[a8t] at h3
   split at h3
   ·simp only[isC,Bool.and_eq_true,f4w] at h3
    have:=d8h c
    omega
   ·rw[(d3e c).1 h3];simp[a0q,a7p]
  have hk:ks.length≤2:=by
   simp only[a1r] at h1
   split at h1
   ·omega
   ·split at h1
    ·omega
    ·split at h1<;>omega
  simp only[a0e,a1g]
  omega
theorem g0s(gg:a0l):∀ ps:List a0a,a2r (a1d gg) ps=true→a3v ps≤202 * c2i ps
 | [],_=>by simp[a3v]
 | p::ps,h=>by
  simp only[a2r,Bool.and_eq_true] at h
  have h1:=g2f gg p h.1
  have h2:=g0s gg ps h.2
  simp only[a3v,c2i]
  omega
end
theorem g0d(gg:a0l)(p:a0a)(h:isP gg p=true):a0e p≤12120∧prT p:=by
 simp only[isP,a9m,Bool.and_eq_true,decide_eq_true_eq] at h
 have:=g2f gg p h.1.1
 have h2:a0e p≤12120:=by omega
 exact⟨h2,⟨⟨gg,h.1.1⟩,by omega⟩⟩
def a8y(n:Nat):Ctr:=⟨b7q,[.v (.st .prog)],fun (p:a0a)=>⟨(some (msz p<n∧a0e p≤1048576),[⟨(.st .prog),p⟩])⟩⟩
def b6b:Ctr:=⟨b7q,[.v (.st .prog)],fun (p:a0a)=>⟨(some (a0e p≤1048576),[⟨(.st .prog),p⟩])⟩⟩
def d0s(p:a0a):Nat→a0t:=(fun zb=>if Nat.beq zb 0 then .mk (Nat) (fun i=>i≤p.kids.length) (fun i=>p.kids.length - i) [] [0,1,4,6,7,8,9,10,11,12,13,14] (fun i=>[(17, .imm ⟨(.int .i64),((i:Int):Int)⟩)]) [2,5,15,16,17,18,19,20,21,22,23,24,25,26,27,28,29] (fun i=>[(3, .box [.imm ⟨(.int .i64),(p.kind:Int)⟩, .imm ⟨(.int .i64),(p.num:Int)⟩, .imm ⟨(.int .i64),(p.cond.kind:Int)⟩, .imm ⟨(.int .i64),(p.cond.num:Int)⟩, .tree 3400, .tree 3500]),(3400, .tree (.st .expr) (p.cond.kids:List a0b)),(3500, .tree (.st .prog) (p.kids.take i:List a0a))]) [] [] (fun i=>fun _ => .none) else .none)
theorem e6f(n:Nat)(p:a0a):awp (a2o [] [b6a,a8y n] [] [12,24,25,26] [] [] [1]) (a0i a8g) (d0s p) 0 (a5b (a2o [] [b6a,a8y n] [] [12,24,25,26] [] [] [1]) a8g fun r=>a1e r [⟨(.st .prog),p⟩]) (a7h a8g [.val ⟨(.st .prog),p⟩]) =
 ((a0d p.kind →
 (a0d p.num →
 (p.kind=p.kind∧(p.kind=p.kind∧(p.num=p.num∧(p.num=p.num∧(p.cond=p.cond∧(p.cond=p.cond∧(a0q p.cond≤1048576∧(p.kind=p.kind∧(p.kind=p.kind∧(p.num=p.num∧(p.num=p.num∧(p.kids.length≤140737488355328 →
 (a0d ((p.kids.length:Int)) →
 ((∃ i1:Nat,(i1≤p.kids.length∧((True∧(True∧(p.kids=p.kids∧(((p.kids.length:Int))=((p.kids.length:Int))∧((0:Int)=(i1:Int)∧True)))))∧((p.kind=p.kind∧(p.num=p.num∧(p.cond.kind=p.cond.kind∧(p.cond.num=p.cond.num∧(True∧(True∧True))))))∧(p.cond.kids=p.cond.kids∧((p.kids.take i1)=[]∧(((0:Int)=(0:Int)∧((0:Int)=(0:Int)∧((0:Int)=(0:Int)∧((0:Int)=(0:Int)∧(True∧(True∧True))))))∧True)))))))∧(∀ i1:Nat,(i1≤p.kids.length →
 (((decide ((i1:Int)<((p.kids.length:Int))))=true →
 (a0h (i1:Int) p.kids.length∧(((3:Nat)=3∧(5:Nat)=5)∧((3500:Nat)=3500∧(((p.kids.getD i1 zP).kind=(p.kids.getD i1 zP).kind∧((p.kids.getD i1 zP).num=(p.kids.getD i1 zP).num∧((p.kids.getD i1 zP).cond.kind=(p.kids.getD i1 zP).cond.kind∧((p.kids.getD i1 zP).cond.num=(p.kids.getD i1 zP).cond.num∧((p.kids.getD i1 zP).cond.kids=(p.kids.getD i1 zP).cond.kids∧((p.kids.getD i1 zP).kids=(p.kids.getD i1 zP).kids∧True))))))∧((msz (a0g (p.kids.getD i1 zP))<n∧a0e (a0g (p.kids.getD i1 zP))≤1048576)∧(((3:Nat)=3∧(5:Nat)=5)∧((3500:Nat)=3500∧(((3:Nat)=3∧(5:Nat)=5)∧((3500:Nat)=3500∧(a2p ((p.kids.take i1).length+([(a0g (p.kids.getD i1 zP))]).length) 80∧(a0d ((i1:Int)+(1:Int))∧(∃ i2:Nat,(i2≤p.kids.length∧(p.kids.length - i2<p.kids.length - i1∧((True∧(True∧(p.kids=p.kids∧(((p.kids.length:Int))=((p.kids.length:Int))∧(((i1:Int)+(1:Int))=(i2:Int)∧True)))))∧((p.kind=p.kind∧(p.num=p.num∧(p.cond.kind=p.cond.kind∧(p.cond.num=p.cond.num∧(True∧(True∧True))))))∧(p.cond.kids=p.cond.kids∧(((p.kids.take i1)++([(a0g (p.kids.getD i1 zP))]))=(p.kids.take i2)∧(((0:Int)=(0:Int)∧((0:Int)=(0:Int)∧((0:Int)=(0:Int)∧((0:Int)=(0:Int)∧(True∧(True∧True))))))∧True))))))))))))))))))))∧((decide ((i1:Int)<((p.kids.length:Int))))=false →
 (a0a.mk p.kind p.num (a0b.mk p.cond.kind p.cond.num p.cond.kids) (p.kids.take i1))=p))))))))))))))))))))):=by kernel_rfl
theorem e5y(n:Nat)(hE:a0p [])(hO:a4f [b6a,a8y n])(hM:a4x [])(hS:a4p []):Ctr.OGood (a8y (n+1)):=by
 refine⟨a0j b5p rfl (by decide),?_⟩
 show ∀ (p:a0a),(msz p<n+1∧a0e p≤1048576)→a6f prog b7q [.val ⟨(.st .prog),p⟩] [⟨(.st .prog),p⟩]
 intro p hp
 refine a4e (own:=[12,24,25,26]) (wr:=[]) (cl:=[]) (ro:=[1]) hE hO hM hS b5p e1c (d0s p) ?_
 rewrite [e6f n p]
 rw[c3l] at hp
 have f0:=b3j p
 have f1:=fun i (h:i<p.kids.length)=>c1h a0e zP p.kids i h
 have f2:=fun i (h:i<p.kids.length)=>a1w zP p.kids i h
 have f3:=fun i (h:i<p.kids.length)=>a9s zP p.kids i h
 have f4:p.kids.take 0=[]:=by simp
 have f5:∀ i,p.kids.length≤i→p.kids.take i=p.kids:=fun i h=>List.take_of_length_le h
 have f6:∀ i,(p.kids.take i).length≤p.kids.length:=fun i=>by simp;omega
 have f7:∀ ks,ks=p.kids→a0a.mk p.kind p.num p.cond ks=p:=fun ks h=>by subst h;cases p;rfl
 refine fun a0=>fun a1=>⟨rfl,⟨rfl,⟨rfl,⟨rfl,⟨rfl,⟨rfl,⟨?_,⟨rfl,⟨rfl,⟨rfl,⟨rfl,fun a2=>fun a3=>⟨⟨0,⟨?_,⟨⟨trivial,⟨trivial,⟨rfl,⟨rfl,⟨?_,trivial⟩⟩⟩⟩⟩,⟨⟨rfl,⟨rfl,⟨rfl,⟨rfl,⟨trivial,⟨trivial,trivial⟩⟩⟩⟩⟩⟩,⟨rfl,⟨?_,⟨⟨rfl,⟨rfl,⟨rfl,⟨rfl,⟨trivial,⟨trivial,trivial⟩⟩⟩⟩⟩⟩,trivial⟩⟩⟩⟩⟩⟩⟩,fun i1=>fun a4=>⟨fun a5=>⟨?_,⟨⟨?_,?_⟩,⟨?_,⟨⟨rfl,⟨rfl,⟨rfl,⟨rfl,⟨rfl,⟨rfl,?_⟩⟩⟩⟩⟩⟩,⟨?_,⟨⟨?_,?_⟩,⟨?_,⟨⟨?_,?_⟩,⟨?_,⟨?_,⟨?_,⟨i1+1,⟨?_,⟨?_,⟨⟨trivial,⟨trivial,⟨rfl,⟨rfl,⟨?_,trivial⟩⟩⟩⟩⟩,⟨⟨rfl,⟨rfl,⟨rfl,⟨rfl,⟨trivial,⟨trivial,trivial⟩⟩⟩⟩⟩⟩,⟨rfl,⟨?_,⟨⟨rfl,⟨rfl,⟨rfl,⟨rfl,⟨trivial,⟨trivial,trivial⟩⟩⟩⟩⟩⟩,trivial⟩⟩⟩⟩⟩⟩⟩⟩⟩⟩⟩⟩⟩⟩⟩⟩⟩⟩⟩,fun a5=>?_⟩⟩⟩⟩⟩⟩⟩⟩⟩⟩⟩⟩⟩
 all_goals try and_intros
 all_goals try simp only[a0b.eta,a0a.eta,a2b,a2d] at *
 all_goals first|rfl|trivial|omega|(simp only[decide_eq_true_eq,decide_eq_false_iff_not,a0h,a0d,a2p,List.length_cons,List.length_nil] at *;first|omega|(have:=f6 i1;omega)|exact f7 _ (f5 _ (by omega))|grind)|grind
theorem f0r:∀ n,a4f [a8y n]
 | 0=>⟨⟨a0j b5p rfl (by decide),fun _ h=>absurd h.1 (Nat.not_lt_zero _)⟩,trivial⟩
 | n+1=>by
  have ih:=f0r n
  exact⟨e5y n trivial ⟨e0e,ih.1,trivial⟩ trivial trivial,trivial⟩
theorem e0f:Ctr.OGood b6b :=
 ⟨a0j b5p rfl (by decide),fun p hp=>(f0r (msz p+1)).1.2 p (⟨Nat.lt_succ_self _,hp⟩)⟩
def b6l:Ctr:=⟨c6t,[.v (.int .i64)],fun (ru:Int)=>⟨(none,[⟨.bool,decide (1≤ru∧ru≤14)⟩])⟩⟩
def d9f(ru:Int):Nat→a0t:=fun _ => .none
theorem f5y(ru:Int):awp (a0x [a2u]) (a0i b1o) (d9f ru) 0 (a1h (a0x [a2u]) b1o fun r=>a1e r [⟨.bool,decide (1≤ru∧ru≤14)⟩]) (a0r b1o [.val ⟨(.int .i64),ru⟩]) =
 (((decide ((1:Int)≤ru∧ru≤(14:Int)))=(decide (1≤ru∧ru≤14)))):=by kernel_rfl
theorem f5d(hE:a0p [a2u]):Ctr.Good b6l:=by
 refine⟨a0j d4g rfl (by decide),?_⟩
 show ∀ (ru:Int),True→a1f prog c6t [.val ⟨(.int .i64),ru⟩] (·=[⟨.bool,decide (1≤ru∧ru≤14)⟩])
 intro ru _
 refine a0z (wr:=[]) (cl:=[]) (ro:=[]) hE d4g e7n (d9f ru) ?_
 rewrite [f5y ru]
 refine ?_
 all_goals try and_intros
 all_goals first|rfl|trivial|omega|(simp only[decide_eq_true_eq,decide_eq_false_iff_not,a0h,a0d,a2j,a4q,a4a,a2p] at *;omega)|(simp[a0h,a0d] at *;omega)|grind
theorem e8l:Ctr.Good b6l:=f5d ⟨b0m,trivial⟩
def b6n:Ctr:=⟨c6v,[.v (.st .prog), .v (.slice (.int .i64))],fun (p:a0a) (ks:List Int)=>⟨(some (a0e p≤1048576),[⟨(.st .prog),atP p ks⟩,⟨.bool,atO p ks⟩])⟩⟩
def d9h(p:a0a)(ks:List Int):Nat→a0t:=(fun zb=>if Nat.beq zb 0 then .mk (Nat) (fun i=>i≤ks.length∧atO p (ks.take i)=true) (fun i=>ks.length - i) [] [0,1,3,6] (fun i=>[(10, .imm ⟨(.int .i64),((i:Int):Int)⟩)]) [4,5,7,8,9,10,11,12,13,14,15,16,17,18,19,20,21,22,23,24,25,26,27,28] (fun i=>[(2, .box [.imm ⟨(.int .i64),((a2a p (ks.take i)).kind:Int)⟩, .imm ⟨(.int .i64),((a2a p (ks.take i)).num:Int)⟩, .imm ⟨(.int .i64),((a2a p (ks.take i)).cond.kind:Int)⟩, .imm ⟨(.int .i64),((a2a p (ks.take i)).cond.num:Int)⟩, .imm ⟨(.slice (.st .expr)),((a2a p (ks.take i)).cond.kids:List a0b)⟩, .imm ⟨(.slice (.st .prog)),((a2a p (ks.take i)).kids:List a0a)⟩])]) [] [] (fun i=>fun _ => .none) else .none)
theorem f6a(p:a0a)(ks:List Int):awp (a0x [a2u]) (a0i b1q) (d9h p ks) 0 (a1h (a0x [a2u]) b1q fun r=>a1e r [⟨(.st .prog),atP p ks⟩,⟨.bool,atO p ks⟩]) (a0r b1q [.val ⟨(.st .prog),p⟩, .val ⟨(.slice (.int .i64)),ks⟩]) =
 ((a0d ((ks.length:Int)) →
 ((∃ i1:Nat,((i1≤ks.length∧atO p (ks.take i1)=true)∧((True∧(True∧(ks=ks∧(((ks.length:Int))=((ks.length:Int))∧((0:Int)=(i1:Int)∧True)))))∧((p.kind=((a2a p (ks.take i1)).kind)∧(p.num=((a2a p (ks.take i1)).num)∧(p.cond.kind=((a2a p (ks.take i1)).cond.kind)∧(p.cond.num=((a2a p (ks.take i1)).cond.num)∧(p.cond.kids=((a2a p (ks.take i1)).cond.kids)∧(p.kids=((a2a p (ks.take i1)).kids)∧True))))))∧(((0:Int)=(0:Int)∧((0:Int)=(0:Int)∧((0:Int)=(0:Int)∧((0:Int)=(0:Int)∧(True∧(True∧True))))))∧True)))))∧(∀ i1:Nat,((i1≤ks.length∧atO p (ks.take i1)=true) →
 (((decide ((i1:Int)<((ks.length:Int))))=true →
 (a0h (i1:Int) ks.length∧(a0d (ks.getD i1 (0:Int)) →
 (((a2a p (ks.take i1)).kids).length≤140737488355328 →
 (a0d ((((a2a p (ks.take i1)).kids).length:Int)) →
 (a0d (((((a2a p (ks.take i1)).kids).length:Int)) - (1:Int))∧((((!(decide ((0:Int)≤(ks.getD i1 (0:Int))∧(ks.getD i1 (0:Int))≤(((((a2a p (ks.take i1)).kids).length:Int)) - (1:Int)))))=true) →
 (zP=(atP p ks)∧false=(atO p ks)))∧(((!(decide ((0:Int)≤(ks.getD i1 (0:Int))∧(ks.getD i1 (0:Int))≤(((((a2a p (ks.take i1)).kids).length:Int)) - (1:Int)))))=false) →
 (((a2a p (ks.take i1)).kids).length≤140737488355328 →
 (a0h (ks.getD i1 (0:Int)) ((a2a p (ks.take i1)).kids).length∧(a0d ((i1:Int)+(1:Int))∧(∃ i2:Nat,((i2≤ks.length∧atO p (ks.take i2)=true)∧(ks.length - i2<ks.length - i1∧((True∧(True∧(ks=ks∧(((ks.length:Int))=((ks.length:Int))∧(((i1:Int)+(1:Int))=(i2:Int)∧True)))))∧(((((a2a p (ks.take i1)).kids).getD (Int.toNat (ks.getD i1 (0:Int))) zP).kind=((a2a p (ks.take i2)).kind)∧((((a2a p (ks.take i1)).kids).getD (Int.toNat (ks.getD i1 (0:Int))) zP).num=((a2a p (ks.take i2)).num)∧((((a2a p (ks.take i1)).kids).getD (Int.toNat (ks.getD i1 (0:Int))) zP).cond.kind=((a2a p (ks.take i2)).cond.kind)∧((((a2a p (ks.take i1)).kids).getD (Int.toNat (ks.getD i1 (0:Int))) zP).cond.num=((a2a p (ks.take i2)).cond.num)∧((((a2a p (ks.take i1)).kids).getD (Int.toNat (ks.getD i1 (0:Int))) zP).cond.kids=((a2a p (ks.take i2)).cond.kids)∧((((a2a p (ks.take i1)).kids).getD (Int.toNat (ks.getD i1 (0:Int))) zP).kids=((a2a p (ks.take i2)).kids)∧True))))))∧(((0:Int)=(0:Int)∧((0:Int)=(0:Int)∧((0:Int)=(0:Int)∧((0:Int)=(0:Int)∧(True∧(True∧True))))))∧True)))))))))))))))))∧((decide ((i1:Int)<((ks.length:Int))))=false →
 ((a0a.mk ((a2a p (ks.take i1)).kind) ((a2a p (ks.take i1)).num) (a0b.mk ((a2a p (ks.take i1)).cond.kind) ((a2a p (ks.take i1)).cond.num) ((a2a p (ks.take i1)).cond.kids)) ((a2a p (ks.take i1)).kids))=(atP p ks)∧true=(atO p ks))))))))):=by kernel_rfl
theorem f5f(hE:a0p [a2u]):Ctr.Good b6n:=by
 refine⟨a0j d4i rfl (by decide),?_⟩
 show ∀ (p:a0a) (ks:List Int),(a0e p≤1048576)→a1f prog c6v [.val ⟨(.st .prog),p⟩, .val ⟨(.slice (.int .i64)),ks⟩] (·=[⟨(.st .prog),atP p ks⟩,⟨.bool,atO p ks⟩])
 intro p ks hp
 refine a0z (wr:=[]) (cl:=[]) (ro:=[]) hE d4i e7p (d9h p ks) ?_
 rewrite [f6a p ks]
 have f0:a2a p (ks.take 0)=p:=by simp[a2a]
 have f1:atO p (ks.take 0)=true:=by simp[atO]
 refine fun a0=>⟨⟨0,⟨?_,⟨⟨trivial,⟨trivial,⟨rfl,⟨rfl,⟨?_,trivial⟩⟩⟩⟩⟩,⟨⟨?_,⟨?_,⟨?_,⟨?_,⟨?_,⟨?_,trivial⟩⟩⟩⟩⟩⟩,⟨⟨rfl,⟨rfl,⟨rfl,⟨rfl,⟨trivial,⟨trivial,trivial⟩⟩⟩⟩⟩⟩,trivial⟩⟩⟩⟩⟩,fun i1 a1=>have b1x0:=g1t p ks i1;have b1x1:=g4h p ks i1;have b1x2:=g4i p ks i1;⟨fun a2=>⟨?_,fun a3=>fun a4=>fun a5=>⟨?_,⟨fun a6=>⟨?_,?_⟩,fun a6=>fun a7=>⟨?_,⟨?_,⟨i1+1,⟨?_,⟨?_,⟨⟨trivial,⟨trivial,⟨rfl,⟨rfl,⟨?_,trivial⟩⟩⟩⟩⟩,⟨⟨?_,⟨?_,⟨?_,⟨?_,⟨?_,⟨?_,trivial⟩⟩⟩⟩⟩⟩,⟨⟨rfl,⟨rfl,⟨rfl,⟨rfl,⟨trivial,⟨trivial,trivial⟩⟩⟩⟩⟩⟩,trivial⟩⟩⟩⟩⟩⟩⟩⟩⟩⟩⟩,fun a2=>⟨?_,?_⟩⟩⟩
 all_goals try and_intros
 all_goals (try simp only[decide_eq_true_eq,decide_eq_false_iff_not,a0h,a0d,Bool.not_eq_true',Bool.not_eq_false'] at *);first|with_reducible rfl|with_reducible trivial|omega|exact (b1x1 (by rw[(b1x0 (by omega)).1,a1.2,decide_eq_false (by assumption)];rfl)).1.symm|exact (b1x1 (by rw[(b1x0 (by omega)).1,a1.2,decide_eq_false (by assumption)];rfl)).2.symm|(rw[(b1x0 (by omega)).1,a1.2,decide_eq_true (by assumption)];rfl)|(rw[(b1x0 (by omega)).2];done)|exact (b1x2 (by omega) a1.2).1|exact (b1x2 (by omega) a1.2).2.symm|(rw[f0];done)|(simp only[a0b.eta,a0a.eta];exact (b1x2 (by omega) a1.2).1)
theorem e8n:Ctr.Good b6n:=f5f ⟨b0m,trivial⟩
structure WcF(p b:a0a)(ks:List Int):Prop where
 l:((ks.take (ks.length:Int).toNat).drop 1).length+1=ks.length
 k:0≤ks.getD 0 0∧ks.getD 0 0<(p.kids.length:Int)
 o:atO (p.kids.getD (ks.getD 0 0).toNat zP) ((ks.take (ks.length:Int).toNat).drop 1)=true
 w:atW b p ks=a0a.mk p.kind p.num p.cond (p.kids.set (ks.getD 0 0).toNat (atW b (p.kids.getD (ks.getD 0 0).toNat zP) ((ks.take (ks.length:Int).toNat).drop 1)))
 s:a0e (p.kids.getD (ks.getD 0 0).toNat zP)≤a0e p
theorem h1o(p b:a0a)(ks:List Int)(h:¬ (ks.length:Int)=0)(ho:atO p ks=true):WcF p b ks:=by
 match ks,h with
 | k::js,_ =>
  have e:(((k::js).take ((k::js).length:Int).toNat).drop 1)=js:=by simp
  simp only[atO,Bool.and_eq_true,decide_eq_true_eq] at ho
  have f1:=c1h a0e zP p.kids k.toNat (by omega)
  have f2:=c3l p
  refine⟨by rw[e];rfl,⟨ho.1.1,by show k<_;omega⟩,by rw[e];exact ho.2,by rw[e];rfl,by show a0e (p.kids.getD k.toNat _)≤_;omega⟩
theorem h1n(p b:a0a)(ks:List Int)(h:(ks.length:Int)=0):b=atW b p ks:=by
 match ks,h with
 | [],_=>rfl
def b0t(n:Nat):Ctr:=⟨b7s,[.v (.st .prog), .v (.slice (.int .i64)), .v (.st .prog)],fun (p:a0a) (ks:List Int) (b:a0a)=>⟨(some (ks.length<n∧a0e p≤1000000∧atO p ks=true),[⟨(.st .prog),atW b p ks⟩])⟩⟩
def b7m:Ctr:=⟨b7s,[.v (.st .prog), .v (.slice (.int .i64)), .v (.st .prog)],fun (p:a0a) (ks:List Int) (b:a0a)=>⟨(some (a0e p≤1000000∧atO p ks=true),[⟨(.st .prog),atW b p ks⟩])⟩⟩
def d2q(p:a0a)(ks:List Int)(b:a0a):Nat→a0t:=fun _ => .none
theorem e9u(n:Nat)(p:a0a)(ks:List Int)(b:a0a):awp (a0x [b0t n] [] [] [3,5]) (a0i a8k) (d2q p ks b) 0 (a1h (a0x [b0t n] [] [] [3,5]) a8k fun r=>a1e r [⟨(.st .prog),atW b p ks⟩]) (a0r a8k [.val ⟨(.st .prog),p⟩, .val ⟨(.slice (.int .i64)),ks⟩, .val ⟨(.st .prog),b⟩]) =
 ((a0d ((ks.length:Int)) →
 (((decide (((ks.length:Int))=(0:Int)))=true →
 (a0g b)=(atW b p ks))∧((decide (((ks.length:Int))=(0:Int)))=false →
 (p.kids.length≤140737488355328 →
 (p.kids.length≤1048576∧(a0h (0:Int) ks.length∧(a0h (0:Int) ks.length∧(a0h (ks.getD 0 (0:Int)) p.kids.length∧(a4q (1:Int) ((ks.length:Int)) ks.length∧((((ks.take (Int.toNat ((ks.length:Int)))).drop 1).length<n∧a0e (p.kids.getD (Int.toNat (ks.getD 0 (0:Int))) zP)≤1000000∧atO (p.kids.getD (Int.toNat (ks.getD 0 (0:Int))) zP) ((ks.take (Int.toNat ((ks.length:Int)))).drop 1)=true)∧(a0d (ks.getD 0 (0:Int)) →
 (p.kids.length≤140737488355328 →
 (a0d (ks.getD 0 (0:Int)) →
 (a0h (ks.getD 0 (0:Int)) p.kids.length∧(a0a.mk p.kind p.num (a0w p.cond) (p.kids.set (Int.toNat (ks.getD 0 (0:Int))) (atW b (p.kids.getD (Int.toNat (ks.getD 0 (0:Int))) zP) ((ks.take (Int.toNat ((ks.length:Int)))).drop 1))))=(atW b p ks)))))))))))))))):=by kernel_rfl
theorem e9d(n:Nat)(hE:a0p [b0t n]):Ctr.Good (b0t (n+1)):=by
 refine⟨a0j b5r rfl (by decide),?_⟩
 show ∀ (p:a0a) (ks:List Int) (b:a0a),(ks.length<n+1∧a0e p≤1000000∧atO p ks=true)→a1f prog b7s [.val ⟨(.st .prog),p⟩, .val ⟨(.slice (.int .i64)),ks⟩, .val ⟨(.st .prog),b⟩] (·=[⟨(.st .prog),atW b p ks⟩])
 intro p ks b hp
 refine a0z (wr:=[]) (cl:=[]) (ro:=[3,5]) hE b5r e1g (d2q p ks b) ?_
 rewrite [e9u n p ks b]
 have f0:=h1n p b ks
 have f1:=fun h=>h1o p b ks h hp.2.2
 have f2:=c3l p
 refine fun a0=>⟨fun a1=>?_,fun a1=>fun a2=>⟨?_,⟨?_,⟨?_,⟨?_,⟨?_,⟨?_,fun a3=>fun a4=>fun a5=>⟨?_,?_⟩⟩⟩⟩⟩⟩⟩⟩
 all_goals try and_intros
 all_goals try simp only[a0b.eta,a0a.eta,a2b,a2d] at *
 all_goals (try simp only[decide_eq_true_eq,decide_eq_false_iff_not,a0h,a4q,List.length_set] at *);first|with_reducible rfl|with_reducible trivial|omega|exact f0 (by assumption)|(have F:=f1 (by assumption);have g1:=F.l;have g2:=F.k;have g3:=F.s;first|omega|exact F.o|exact F.w.symm)
theorem f6n :∀ n,a0p [b0t n]
 | 0=>⟨⟨a0j b5r rfl (by decide),fun _ _ _ h=>absurd h.1 (Nat.not_lt_zero _)⟩,trivial⟩
 | n+1=>by
  have ih:=f6n  n
  exact⟨e9d n ⟨ih.1,trivial⟩,trivial⟩
theorem e2h :Ctr.Good b7m :=
 ⟨a0j b5r rfl (by decide),fun p ks b hp=>(f6n  (ks.length+1)).1.2 p ks b (⟨Nat.lt_succ_self _,hp⟩)⟩
def trA(gg:a0l)(p:a0a)(ks:List Int)(ru:Int):a0a:=atW (rwV (atP p ks) ru) p ks
def trC(gg:a0l)(p:a0a)(ks:List Int)(ru:Int):Int :=
 if okP gg p=true then (if atO p ks=true∧(1≤ru∧ru≤14) then (if rwO (atP p ks) ru=true then (if isP gg (trA gg p ks ru)=true then 0 else 3) else 6) else 2) else 1
def trV(gg:a0l)(p:a0a)(ks:List Int)(ru:Int):a0a:=if trC gg p ks ru=0 then trA gg p ks ru else zP
structure TvF(gg:a0l)(p:a0a)(ks:List Int)(ru:Int):Prop where
 n:okP gg p=false→trV gg p ks ru=zP∧trC gg p ks ru=1
 a:okP gg p=true→(atO p ks=false∨¬ (1≤ru∧ru≤14))→trV gg p ks ru=zP∧trC gg p ks ru=2
 b:okP gg p=true→atO p ks=true→(1≤ru∧ru≤14)→rwO (atP p ks) ru=false→trV gg p ks ru=zP∧trC gg p ks ru=6
 c:okP gg p=true→atO p ks=true→(1≤ru∧ru≤14)→rwO (atP p ks) ru=true→isP gg (trA gg p ks ru)=false→trV gg p ks ru=zP∧trC gg p ks ru=3
 d:okP gg p=true→atO p ks=true→(1≤ru∧ru≤14)→rwO (atP p ks) ru=true→isP gg (trA gg p ks ru)=true→trV gg p ks ru=trA gg p ks ru∧trC gg p ks ru=0
 s:okP gg p=true→a1y gg=true∧a0e p≤12120
 pt:okP gg p=true→atO p ks=true→prT (atP p ks)
 z:isP gg (trA gg p ks ru)=true→a0e (trA gg p ks ru)≤12120
theorem g9v(gg:a0l)(p:a0a)(ks:List Int)(ru:Int):TvF gg p ks ru:=by
 refine⟨fun h=>?_,fun h h1=>?_,fun h h1 h2 h3=>?_,fun h h1 h2 h3 h4=>?_,fun h h1 h2 h3 h4=>?_,fun h=>?_,fun h h1=>?_,fun h=>(g0d gg _ h).1⟩
 ·have e:trC gg p ks ru=1:=by simp[trC,h]
  exact⟨by rw[trV,e];rfl,e⟩
 ·have e:trC gg p ks ru=2:=by
   unfold trC
   rw[if_pos h,if_neg]
   rintro⟨q1,q2⟩
   rcases h1 with h1|h1
   ·rw[q1] at h1;cases h1
   ·exact h1 q2
  exact⟨by rw[trV,e];rfl,e⟩
 ·have e:trC gg p ks ru=6:=by
   unfold trC
   rw[if_pos h,if_pos ⟨h1,h2⟩,h3];rfl
  exact⟨by rw[trV,e];rfl,e⟩
 ·have e:trC gg p ks ru=3:=by
   unfold trC
   rw[if_pos h,if_pos ⟨h1,h2⟩,if_pos h3,h4];rfl
  exact⟨by rw[trV,e];rfl,e⟩
 ·have e:trC gg p ks ru=0:=by
   unfold trC
   rw[if_pos h,if_pos ⟨h1,h2⟩,if_pos h3,if_pos h4]
  exact⟨by rw[trV,if_pos e],e⟩
 ·simp only[okP,Bool.and_eq_true] at h
  exact⟨h.1,(g0d gg p h.2).1⟩
 ·simp only[okP,Bool.and_eq_true] at h
  rw[atP,h1]
  exact g4j ks p (g0d gg p h.2).2 h1
def a6t:Ctr:=⟨c1c,[.v (.st .sig), .v (.st .prog), .v (.slice (.int .i64)), .v (.int .i64)],fun (gg:a0l) (p:a0a) (ks:List Int) (ru:Int)=>⟨(none,[⟨(.st .prog),trV gg p ks ru⟩,⟨(.int .i64),trC gg p ks ru⟩])⟩⟩
def c8c(gg:a0l)(p:a0a)(ks:List Int)(ru:Int):Nat→a0t:=fun _ => .none
abbrev c3t(gg:a0l)(p:a0a)(ks:List Int)(ru:Int):Prop:=(prT (a0g (atP p ks))∧(((!(rwO (a0g (atP p ks)) ru))=true →
 (zP=(trV gg p ks ru)∧(6:Int)=(trC gg p ks ru)))∧((!(rwO (a0g (atP p ks)) ru))=false →
 ((a0e p≤1000000∧atO p ks=true)∧(a1y gg=true∧(((!(isP gg (a0g (atW (a0g (rwV (a0g (atP p ks)) ru)) p ks))))=true →
 (zP=(trV gg p ks ru)∧(3:Int)=(trC gg p ks ru)))∧((!(isP gg (a0g (atW (a0g (rwV (a0g (atP p ks)) ru)) p ks))))=false →
 (a0e (a0g (atW (a0g (rwV (a0g (atP p ks)) ru)) p ks))≤1048576∧((a0g (atW (a0g (rwV (a0g (atP p ks)) ru)) p ks))=(trV gg p ks ru)∧(0:Int)=(trC gg p ks ru))))))))))
theorem e3v(gg:a0l)(p:a0a)(ks:List Int)(ru:Int):awp (a2o [b0o,b6n,b6l,b0p,b7m,a6w] [b6b] [] [52] [] [] [4,5]) (a0i a7k) (c8c gg p ks ru) 0 (a5b (a2o [b0o,b6n,b6l,b0p,b7m,a6w] [b6b] [] [52] [] [] [4,5]) a7k fun r=>a1e r [⟨(.st .prog),trV gg p ks ru⟩,⟨(.int .i64),trC gg p ks ru⟩]) (a7h a7k [.val ⟨(.st .sig),gg⟩, .val ⟨(.st .prog),p⟩, .val ⟨(.slice (.int .i64)),ks⟩, .val ⟨(.int .i64),ru⟩]) =
 ((((!(okP gg p))=true →
 (zP=(trV gg p ks ru)∧(1:Int)=(trC gg p ks ru)))∧((!(okP gg p))=false →
 (a0e p≤1048576∧(((!(atO p ks))=false →
 ((((!(decide (1≤ru∧ru≤14)))=true) →
 (zP=(trV gg p ks ru)∧(2:Int)=(trC gg p ks ru)))∧(((!(decide (1≤ru∧ru≤14)))=false) →
 (c3t gg p ks ru))))∧((!(atO p ks))=(!false) →
 ((true=true →
 (zP=(trV gg p ks ru)∧(2:Int)=(trC gg p ks ru)))∧(true=false →
 (c3t gg p ks ru))))))))):=by kernel_rfl
theorem e3f(hE:a0p [b0o,b6n,b6l,b0p,b7m,a6w])(hO:a4f [b6b])(hM:a4x [])(hS:a4p []):Ctr.OGood a6t:=by
 refine⟨a0j c7h rfl (by decide),?_⟩
 show ∀ (gg:a0l) (p:a0a) (ks:List Int) (ru:Int),True→a6f prog c1c [.val ⟨(.st .sig),gg⟩, .val ⟨(.st .prog),p⟩, .val ⟨(.slice (.int .i64)),ks⟩, .val ⟨(.int .i64),ru⟩] [⟨(.st .prog),trV gg p ks ru⟩,⟨(.int .i64),trC gg p ks ru⟩]
 intro gg p ks ru _
 refine a4e (own:=[52]) (wr:=[]) (cl:=[]) (ro:=[4,5]) hE hO hM hS c7h d9w (c8c gg p ks ru) ?_
 rewrite [e3v gg p ks ru]
 have T:=g9v gg p ks ru
 refine⟨fun a0=>⟨?_,?_⟩,fun a0=>⟨?_,⟨fun a1=>⟨fun a2=>⟨?_,?_⟩,fun a2=>⟨?_,⟨fun a3=>⟨?_,?_⟩,fun a3=>⟨?_,⟨?_,⟨fun a4=>⟨?_,?_⟩,fun a4=>⟨?_,⟨?_,?_⟩⟩⟩⟩⟩⟩⟩⟩,fun a1=>⟨fun a2=>⟨?_,?_⟩,fun a2=>⟨?_,⟨fun a3=>⟨?_,?_⟩,fun a3=>⟨?_,⟨?_,⟨fun a4=>⟨?_,?_⟩,fun a4=>⟨?_,⟨?_,?_⟩⟩⟩⟩⟩⟩⟩⟩⟩⟩⟩
 all_goals try and_intros
 all_goals try simp only[a0b.eta,a0a.eta,a2b,a2d] at *
 all_goals (try simp only[Bool.not_false,Bool.not_true,decide_eq_true_eq,decide_eq_false_iff_not,Bool.not_eq_true',Bool.not_eq_false'] at *);first|with_reducible rfl|with_reducible trivial|with_reducible assumption|exact (T.n (by assumption)).1.symm|exact (T.n (by assumption)).2.symm|exact (T.a (by assumption) (.inl (by assumption))).1.symm|exact (T.a (by assumption) (.inl (by assumption))).2.symm|exact (T.a (by assumption) (.inr (by assumption))).1.symm|exact (T.a (by assumption) (.inr (by assumption))).2.symm|exact (T.b (by assumption) (by assumption) (by assumption) (by assumption)).1.symm|exact (T.b (by assumption) (by assumption) (by assumption) (by assumption)).2.symm|exact (T.c (by assumption) (by assumption) (by assumption) (by assumption) (by assumption)).1.symm|exact (T.c (by assumption) (by assumption) (by assumption) (by assumption) (by assumption)).2.symm|exact (T.d (by assumption) (by assumption) (by assumption) (by assumption) (by assumption)).1.symm|exact (T.d (by assumption) (by assumption) (by assumption) (by assumption) (by assumption)).2.symm|exact T.pt (by assumption) (by assumption)|(have q:=(T.s (by assumption));first|exact q.1|(have q2:=q.2;omega))|(have q:=T.z (by assumption);unfold trA at q;omega)
theorem d7u:Ctr.OGood a6t:=e3f ⟨e0b,e8n,e8l,e0c,e2h,c9y,trivial⟩ ⟨e0f,trivial⟩ trivial trivial
end
end Go.Proofs.Ytlaoejdeanljgaa

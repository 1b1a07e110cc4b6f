/- Bld, Bld2, Bld3. -/
import Derived.Test.YtlaoejdeanljgaaVmUse
import Derived.Test.YtlaoejdeanljgaaVmLib
import Derived.Test.YtlaoejdeanljgaaVmHeld
import Derived.Test.YtlaoejdeanljgaaVmValid
set_option linter.unusedVariables false
set_option linter.unusedSimpArgs false
set_option linter.unusedSectionVars false
set_option maxRecDepth 4000
set_option maxHeartbeats 4000000
namespace Go.Proofs.Ytlaoejdeanljgaa
noncomputable section
def a9a(n:Nat):Ctr:=⟨b8q,[.v (.st .expr)],fun (e:a0c)=>⟨(some (msz e<n∧a0l e≤1048576),[⟨(.st .expr),e⟩])⟩⟩
def b6t:Ctr:=⟨b8q,[.v (.st .expr)],fun (e:a0c)=>⟨(some (a0l e≤1048576),[⟨(.st .expr),e⟩])⟩⟩
def d1n(e:a0c):Nat→a0s:=(fun zb=>if Nat.beq zb 0 then .mk (Nat) (fun i=>i≤e.kids.length) (fun i=>e.kids.length - i) [] [0,1,4,6,7,8,9,10,11] (fun i=>[(14, .imm ⟨(.int .i64),((i:Int):Int)⟩)]) [2,5,12,13,14,15,16,17,18,19,20,21,22,23,24,25,26] (fun i=>[(3, .box [.imm ⟨(.int .i64),(e.kind:Int)⟩, .imm ⟨(.int .i64),(e.num:Int)⟩, .tree 2400]),(2400, .tree (.st .expr) (e.kids.take i:List a0c))]) [] [] (fun i=>fun _ => .none) else .none)
theorem e7k(n:Nat)(e:a0c):awp (a2o [] [a9a n] [] [21,22,23] [] [] [1]) (a0k a8e) (d1n e) 0 (a3r (a2o [] [a9a n] [] [21,22,23] [] [] [1]) a8e fun r=>a1d r [⟨(.st .expr),e⟩]) (a4z a8e [.val ⟨(.st .expr),e⟩]) =
 ((a0d e.kind →
 (a0d e.num →
 (e.kids.length≤140737488355328 →
 (a0d ((e.kids.length:Int)) →
 ((∃ i1:Nat,(i1≤e.kids.length∧((True∧(True∧(e.kids=e.kids∧(((e.kids.length:Int))=((e.kids.length:Int))∧((0:Int)=(i1:Int)∧True)))))∧((e.kind=e.kind∧(e.num=e.num∧(True∧True)))∧((e.kids.take i1)=[]∧(((0:Int)=(0:Int)∧((0:Int)=(0:Int)∧(True∧True)))∧True))))))∧(∀ i1:Nat,(i1≤e.kids.length →
 (((decide ((i1:Int)<((e.kids.length:Int))))=true →
 (a0g (i1:Int) e.kids.length∧(((3:Nat)=3∧(2:Nat)=2)∧((2400:Nat)=2400∧(((e.kids.getD i1 zE).kind=(e.kids.getD i1 zE).kind∧((e.kids.getD i1 zE).num=(e.kids.getD i1 zE).num∧((e.kids.getD i1 zE).kids=(e.kids.getD i1 zE).kids∧True)))∧((msz (a1g (e.kids.getD i1 zE))<n∧a0l (a1g (e.kids.getD i1 zE))≤1048576)∧(((3:Nat)=3∧(2:Nat)=2)∧((2400:Nat)=2400∧(((3:Nat)=3∧(2:Nat)=2)∧((2400:Nat)=2400∧(a1x ((e.kids.take i1).length+([(a1g (e.kids.getD i1 zE))]).length) 40∧(a0d ((i1:Int)+(1:Int))∧(∃ i2:Nat,(i2≤e.kids.length∧(e.kids.length - i2<e.kids.length - i1∧((True∧(True∧(e.kids=e.kids∧(((e.kids.length:Int))=((e.kids.length:Int))∧(((i1:Int)+(1:Int))=(i2:Int)∧True)))))∧((e.kind=e.kind∧(e.num=e.num∧(True∧True)))∧(((e.kids.take i1)++([(a1g (e.kids.getD i1 zE))]))=(e.kids.take i2)∧(((0:Int)=(0:Int)∧((0:Int)=(0:Int)∧(True∧True)))∧True)))))))))))))))))))∧((decide ((i1:Int)<((e.kids.length:Int))))=false →
 (a0c.mk e.kind e.num (e.kids.take i1))=e)))))))))):=by kernel_rfl
theorem e6z(n:Nat)(hE:a0m [])(hO:a4g [a9a n])(hM:a5a [])(hS:a5v []):Ctr.OGood (a9a (n+1)):=by
 refine⟨a0j b6d rfl (by decide),?_⟩
 show ∀ (e:a0c),(msz e<n+1∧a0l e≤1048576)→a4k prog b8q [.val ⟨(.st .expr),e⟩] [⟨(.st .expr),e⟩]
 intro e hp
 refine a2x (own:=[21,22,23]) (wr:=[]) (cl:=[]) (ro:=[1]) hE hO hM hS b6d e1q (d1n e) ?_
 rewrite [e7k n e]
 rw[c0p] at hp
 have f0:=a5n e
 have f1:=fun i (h:i<e.kids.length)=>b1b a0l zE e.kids i h
 have f2:=fun i (h:i<e.kids.length)=>a1i zE e.kids i h
 have f3:=fun i (h:i<e.kids.length)=>a5r zE e.kids i h
 have f4:e.kids.take 0=[]:=by simp
 have f5:∀ i,e.kids.length≤i→e.kids.take i=e.kids:=fun i h=>List.take_of_length_le h
 have f6:∀ i,(e.kids.take i).length≤e.kids.length:=fun i=>by simp;omega
 have f7:∀ ks,ks=e.kids→a0c.mk e.kind e.num ks=e:=fun ks h=>by subst h;cases e;rfl
 refine fun a0=>fun a1=>fun a2=>fun a3=>⟨⟨0,⟨?_,⟨⟨trivial,⟨trivial,⟨rfl,⟨rfl,⟨?_,trivial⟩⟩⟩⟩⟩,⟨⟨rfl,⟨rfl,⟨trivial,trivial⟩⟩⟩,⟨?_,⟨⟨rfl,⟨rfl,⟨trivial,trivial⟩⟩⟩,trivial⟩⟩⟩⟩⟩⟩,fun i1=>fun a4=>⟨fun a5=>⟨?_,⟨⟨?_,?_⟩,⟨?_,⟨⟨rfl,⟨rfl,⟨rfl,?_⟩⟩⟩,⟨?_,⟨⟨?_,?_⟩,⟨?_,⟨⟨?_,?_⟩,⟨?_,⟨?_,⟨?_,⟨i1+1,⟨?_,⟨?_,⟨⟨trivial,⟨trivial,⟨rfl,⟨rfl,⟨?_,trivial⟩⟩⟩⟩⟩,⟨⟨rfl,⟨rfl,⟨trivial,trivial⟩⟩⟩,⟨?_,⟨⟨rfl,⟨rfl,⟨trivial,trivial⟩⟩⟩,trivial⟩⟩⟩⟩⟩⟩⟩⟩⟩⟩⟩⟩⟩⟩⟩⟩⟩⟩,fun a5=>?_⟩⟩
 all_goals try and_intros
 all_goals try simp only[a0c.eta,a0a.eta,a1y,a2a] at *
 all_goals first|rfl|trivial|omega|(simp only[decide_eq_true_eq,decide_eq_false_iff_not,a0g,a0d,a1x,List.length_cons,List.length_nil] at *;first|omega|(have:=f6 i1;omega)|exact f7 _ (f5 _ (by omega))|grind)|grind
theorem f2v:∀ n,a4g [a9a n]
 | 0=>⟨⟨a0j b6d rfl (by decide),fun _ h=>absurd h.1 (Nat.not_lt_zero _)⟩,trivial⟩
 | n+1=>by
  have ih:=f2v n
  exact⟨e6z n trivial ⟨ih.1,trivial⟩ trivial trivial,trivial⟩
theorem e0v:Ctr.OGood b6t :=
 ⟨a0j b6d rfl (by decide),fun e hp=>(f2v (msz e+1)).1.2 e (⟨Nat.lt_succ_self _,hp⟩)⟩
end
end Go.Proofs.Ytlaoejdeanljgaa

set_option linter.unusedVariables false
set_option linter.unusedSimpArgs false
set_option linter.unusedSectionVars false
set_option maxRecDepth 4000
set_option maxHeartbeats 4000000
namespace Go.Proofs.Ytlaoejdeanljgaa
noncomputable section
def b3l(n:Nat):Ctr:=⟨c2g,[.r (.st .expr)],fun (e:a0c)=>⟨(some (msz e<n∧a0l e≤1048576),[⟨(.st .expr),e⟩])⟩⟩
def a1v:Ctr:=⟨c2g,[.r (.st .expr)],fun (e:a0c)=>⟨(some (a0l e≤1048576),[⟨(.st .expr),e⟩])⟩⟩
def d6s(e:a0c):Nat→a0s:=(fun zb=>if Nat.beq zb 0 then .mk (Nat) (fun i=>i≤e.kids.length) (fun i=>e.kids.length - i) [] [1,5,6,7,8,9,10,11,12,13] (fun i=>[(4, .imm ⟨(.int .i64),((i:Int):Int)⟩)]) [0,2,4,14,15,16,17,18,19,20,21,22,23,24,25,26,27,28,29,30,31,32,33,34,35] (fun i=>[(3, .box [.imm ⟨(.int .i64),(e.kind:Int)⟩, .imm ⟨(.int .i64),(e.num:Int)⟩, .tree 3400]),(3400, .tree (.st .expr) (e.kids.take i:List a0c))]) [] [] (fun i=>fun _ => .none) else .none)
theorem f6o(n:Nat)(e:a0c):awp (a2o [] [b3l n] [] [31,32,33] []) (a0k b1v) (d6s e) 0 (a3r (a2o [] [b3l n] [] [31,32,33] []) b1v fun r=>a1d r [⟨(.st .expr),e⟩]) (a4z b1v [.ref ⟨(.st .expr),e⟩]) =
 ((a0d e.kind →
 (a0d e.num →
 ((∃ i1:Nat,(i1≤e.kids.length∧((e=e∧(True∧(True∧((0:Int)=(i1:Int)∧True))))∧((e.kind=e.kind∧(e.num=e.num∧(True∧True)))∧((e.kids.take i1)=[]∧(((0:Int)=(0:Int)∧((0:Int)=(0:Int)∧(True∧True)))∧True))))))∧(∀ i1:Nat,(i1≤e.kids.length →
 (e.kids.length≤140737488355328 →
 (a0d ((e.kids.length:Int)) →
 (((decide ((i1:Int)<((e.kids.length:Int))))=true →
 (e.kids.length≤140737488355328 →
 (a0d (i1:Int) →
 (a0g (i1:Int) e.kids.length∧(((3:Nat)=3∧(2:Nat)=2)∧((3400:Nat)=3400∧(e=e∧(e=e∧(e.kids=e.kids∧(e.kids=e.kids∧((i1:Int)=(i1:Int)∧(a0g (i1:Int) e.kids.length∧((e.kids.getD i1 zE)=(e.kids.getD i1 zE)∧((msz (e.kids.getD i1 zE)<n∧a0l (e.kids.getD i1 zE)≤1048576)∧(((3:Nat)=3∧(2:Nat)=2)∧((3400:Nat)=3400∧(((3:Nat)=3∧(2:Nat)=2)∧((3400:Nat)=3400∧(a1x ((e.kids.take i1).length+([(a1g (e.kids.getD i1 zE))]).length) 40∧(a0d ((i1:Int)+(1:Int))∧(∃ i2:Nat,(i2≤e.kids.length∧(e.kids.length - i2<e.kids.length - i1∧((e=e∧(True∧(True∧(((i1:Int)+(1:Int))=(i2:Int)∧True))))∧((e.kind=e.kind∧(e.num=e.num∧(True∧True)))∧(((e.kids.take i1)++([(a1g (e.kids.getD i1 zE))]))=(e.kids.take i2)∧(((0:Int)=(0:Int)∧((0:Int)=(0:Int)∧(True∧True)))∧True)))))))))))))))))))))))))))∧((decide ((i1:Int)<((e.kids.length:Int))))=false →
 (a0c.mk e.kind e.num (e.kids.take i1))=e)))))))))):=by kernel_rfl
theorem f5g(n:Nat)(hE:a0m [])(hO:a4g [b3l n])(hM:a5a [])(hS:a5v []):Ctr.OGood (b3l (n+1)):=by
 refine⟨a0j b9v rfl (by decide),?_⟩
 show ∀ (e:a0c),(msz e<n+1∧a0l e≤1048576)→a4k prog c2g [.ref ⟨(.st .expr),e⟩] [⟨(.st .expr),e⟩]
 intro e hp
 refine a2x (own:=[31,32,33]) (wr:=[]) (cl:=[]) (ro:=[]) hE hO hM hS b9v e9m (d6s e) ?_
 rewrite [f6o n e]
 rw[c0p] at hp
 have f0:=a5n e
 have f1:=fun i (h:i<e.kids.length)=>b1b a0l zE e.kids i h
 have f2:=fun i (h:i<e.kids.length)=>a1i zE e.kids i h
 have f3:=fun i (h:i<e.kids.length)=>a5r zE e.kids i h
 have f4:e.kids.take 0=[]:=by simp
 have f5:∀ i,e.kids.length≤i→e.kids.take i=e.kids:=fun i h=>List.take_of_length_le h
 have f6:∀ i,(e.kids.take i).length≤e.kids.length:=fun i=>by simp;omega
 have f7:∀ ks,ks=e.kids→a0c.mk e.kind e.num ks=e:=fun ks h=>by subst h;cases e;rfl
 refine fun a0=>fun a1=>⟨⟨0,⟨?_,⟨⟨rfl,⟨trivial,⟨trivial,⟨?_,trivial⟩⟩⟩⟩,⟨⟨rfl,⟨rfl,⟨trivial,trivial⟩⟩⟩,⟨?_,⟨⟨rfl,⟨rfl,⟨trivial,trivial⟩⟩⟩,trivial⟩⟩⟩⟩⟩⟩,fun i1=>fun a2=>fun a3=>fun a4=>⟨fun a5=>fun a6=>fun a7=>⟨?_,⟨⟨?_,?_⟩,⟨?_,⟨rfl,⟨rfl,⟨rfl,⟨rfl,⟨rfl,⟨?_,⟨rfl,⟨?_,⟨⟨?_,?_⟩,⟨?_,⟨⟨?_,?_⟩,⟨?_,⟨?_,⟨?_,⟨i1+1,⟨?_,⟨?_,⟨⟨rfl,⟨trivial,⟨trivial,⟨?_,trivial⟩⟩⟩⟩,⟨⟨rfl,⟨rfl,⟨trivial,trivial⟩⟩⟩,⟨?_,⟨⟨rfl,⟨rfl,⟨trivial,trivial⟩⟩⟩,trivial⟩⟩⟩⟩⟩⟩⟩⟩⟩⟩⟩⟩⟩⟩⟩⟩⟩⟩⟩⟩⟩⟩⟩⟩,fun a5=>?_⟩⟩
 all_goals try and_intros
 all_goals try simp only[a0c.eta,a0a.eta,a1y,a2a] at *
 all_goals first|rfl|trivial|omega|(simp only[decide_eq_true_eq,decide_eq_false_iff_not,a0g,a0d,a1x,List.length_cons,List.length_nil] at *;first|omega|(have:=f6 i1;omega)|exact f7 _ (f5 _ (by omega))|grind)|grind
theorem f9f:∀ n,a4g [b3l n]
 | 0=>⟨⟨a0j b9v rfl (by decide),fun _ h=>absurd h.1 (Nat.not_lt_zero _)⟩,trivial⟩
 | n+1=>by
  have ih:=f9f n
  exact⟨f5g n trivial ⟨ih.1,trivial⟩ trivial trivial,trivial⟩
theorem a5o:Ctr.OGood a1v :=
 ⟨a0j b9v rfl (by decide),fun e hp=>(f9f (msz e+1)).1.2 e (⟨Nat.lt_succ_self _,hp⟩)⟩
def a3m:Ctr:=⟨c5j,[.v (.int .i64), .o (.st .expr), .o (.st .expr)],fun (k:Int) (a:a0c) (b:a0c)=>⟨(none,[⟨(.st .expr),a0c.mk k 0 [a,b]⟩])⟩⟩
def d3r(k:Int)(a:a0c)(b:a0c):Nat→a0s:=fun _ => .none
theorem f2f(k:Int)(a:a0c)(b:a0c):awp (a2o [] [] [] [10] []) (a0k a9x) (d3r k a b) 0 (a3r (a2o [] [] [] [10] []) a9x fun r=>a1d r [⟨(.st .expr),a0c.mk k 0 [a,b]⟩]) (a4z a9x [.val ⟨(.int .i64),k⟩, .own ⟨(.st .expr),a⟩, .own ⟨(.st .expr),b⟩]) =
 ((a0c.mk k (0:Int) ([(a1g a),(a1g b)]))=(a0c.mk k 0 [a,b])):=by kernel_rfl
theorem f1l(hE:a0m [])(hO:a4g [])(hM:a5a [])(hS:a5v []):Ctr.OGood a3m:=by
 refine⟨a0j d2n rfl (by decide),?_⟩
 show ∀ (k:Int) (a:a0c) (b:a0c),True→a4k prog c5j [.val ⟨(.int .i64),k⟩, .own ⟨(.st .expr),a⟩, .own ⟨(.st .expr),b⟩] [⟨(.st .expr),a0c.mk k 0 [a,b]⟩]
 intro k a b _
 refine a2x (own:=[10]) (wr:=[]) (cl:=[]) (ro:=[]) hE hO hM hS d2n e5x (d3r k a b) ?_
 rewrite [f2f k a b]
 refine ?_
 all_goals try and_intros
 all_goals try simp only[a0c.eta,a0a.eta,a1y,a2a] at *
 all_goals first|rfl|trivial|omega|(simp only[decide_eq_true_eq,decide_eq_false_iff_not,a0g,a0d,a1z,a2w,a1w,a1x] at *;omega)|(simp[a0g,a0d] at *;omega)|grind
theorem b9i:Ctr.OGood a3m:=f1l trivial trivial trivial trivial
def a3w:Ctr:=⟨c7u,[.v (.st .expr)],fun (c:a0c)=>⟨(some (a0l c≤1048576),[⟨(.st .expr),a0c.mk 5 0 [c]⟩])⟩⟩
def d6u(c:a0c):Nat→a0s:=fun _ => .none
theorem f6q(c:a0c):awp (a2o [] [a1v] [] [3,4] [] [] [1]) (a0k b1y) (d6u c) 0 (a3r (a2o [] [a1v] [] [3,4] [] [] [1]) b1y fun r=>a1d r [⟨(.st .expr),a0c.mk 5 0 [c]⟩]) (a4z b1y [.val ⟨(.st .expr),c⟩]) =
 ((a0l c≤1048576∧(a0c.mk (5:Int) (0:Int) ([(a1g c)]))=(a0c.mk 5 0 [c]))):=by kernel_rfl
theorem f5i(hE:a0m [])(hO:a4g [a1v])(hM:a5a [])(hS:a5v []):Ctr.OGood a3w:=by
 refine⟨a0j d5l rfl (by decide),?_⟩
 show ∀ (c:a0c),(a0l c≤1048576)→a4k prog c7u [.val ⟨(.st .expr),c⟩] [⟨(.st .expr),a0c.mk 5 0 [c]⟩]
 intro c hp
 refine a2x (own:=[3,4]) (wr:=[]) (cl:=[]) (ro:=[1]) hE hO hM hS d5l e9p (d6u c) ?_
 rewrite [f6q c]
 refine⟨?_,?_⟩
 all_goals try and_intros
 all_goals try simp only[a0c.eta,a0a.eta,a1y,a2a] at *
 all_goals first|rfl|trivial|omega|(simp only[decide_eq_true_eq,decide_eq_false_iff_not,a0g,a0d,a1z,a2w,a1w,a1x] at *;omega)|(simp[a0g,a0d] at *;omega)|grind
theorem c1f:Ctr.OGood a3w:=f5i trivial ⟨a5o,trivial⟩ trivial trivial
mutual
theorem g3h:∀ x:a0c,a0l x+1=a1a x
 | ⟨_,_,ks⟩=>by
  have:=g0j ks
  simp only[a0l,a1a];omega
theorem g0j:∀ xs:List a0c,xs.length+b4d xs=c3i xs
 | []=>rfl
 | x::xs=>by
  have h1:=g3h x
  have h2:=g0j xs
  simp only[b4d,c3i,List.length_cons];omega
end
end
end Go.Proofs.Ytlaoejdeanljgaa

set_option linter.unusedVariables false
set_option linter.unusedSimpArgs false
set_option linter.unusedSectionVars false
set_option maxRecDepth 4000
set_option maxHeartbeats 4000000
namespace Go.Proofs.Ytlaoejdeanljgaa
noncomputable section
def b3m(n:Nat):Ctr:=⟨b7n,[.r (.st .prog)],fun (p:a0a)=>⟨(some (msz p<n∧a0i p≤1048576),[⟨(.st .prog),p⟩])⟩⟩
def a2i:Ctr:=⟨b7n,[.r (.st .prog)],fun (p:a0a)=>⟨(some (a0i p≤1048576),[⟨(.st .prog),p⟩])⟩⟩
def d6v(p:a0a):Nat→a0s:=(fun zb=>if Nat.beq zb 0 then .mk (Nat) (fun i=>i≤p.kids.length) (fun i=>p.kids.length - i) [] [1,5,6,7,8,9,10,11,12,13,14,15,16,17] (fun i=>[(4, .imm ⟨(.int .i64),((i:Int):Int)⟩)]) [0,2,4,18,19,20,21,22,23,24,25,26,27,28,29,30,31,32,33,34,35,36,37,38,39] (fun i=>[(3, .box [.imm ⟨(.int .i64),(p.kind:Int)⟩, .imm ⟨(.int .i64),(p.num:Int)⟩, .imm ⟨(.int .i64),(p.cond.kind:Int)⟩, .imm ⟨(.int .i64),(p.cond.num:Int)⟩, .tree 3400, .tree 3500]),(3400, .tree (.st .expr) (p.cond.kids:List a0c)),(3500, .tree (.st .prog) (p.kids.take i:List a0a))]) [] [] (fun i=>fun _ => .none) else .none)
theorem f6r(n:Nat)(p:a0a):awp (a2o [] [a1v,b3m n] [] [16,35,36,37] []) (a0k b1z) (d6v p) 0 (a3r (a2o [] [a1v,b3m n] [] [16,35,36,37] []) b1z fun r=>a1d r [⟨(.st .prog),p⟩]) (a4z b1z [.ref ⟨(.st .prog),p⟩]) =
 ((a0d p.kind →
 (a0d p.num →
 (p=p∧(p=p∧(p.kind=p.kind∧(p.kind=p.kind∧(p=p∧(p=p∧(p.num=p.num∧(p.num=p.num∧(p=p∧(p=p∧(p.cond=p.cond∧(a0l p.cond≤1048576∧(p=p∧(p=p∧(p.kind=p.kind∧(p.kind=p.kind∧(p=p∧(p=p∧(p.num=p.num∧(p.num=p.num∧((∃ i1:Nat,(i1≤p.kids.length∧((p=p∧(True∧(True∧((0:Int)=(i1:Int)∧True))))∧((p.kind=p.kind∧(p.num=p.num∧(p.cond.kind=p.cond.kind∧(p.cond.num=p.cond.num∧(True∧(True∧True))))))∧(p.cond.kids=p.cond.kids∧((p.kids.take i1)=[]∧(((0:Int)=(0:Int)∧((0:Int)=(0:Int)∧((0:Int)=(0:Int)∧((0:Int)=(0:Int)∧(True∧(True∧True))))))∧True)))))))∧(∀ i1:Nat,(i1≤p.kids.length →
 (p.kids.length≤140737488355328 →
 (a0d ((p.kids.length:Int)) →
 (((decide ((i1:Int)<((p.kids.length:Int))))=true →
 (p.kids.length≤140737488355328 →
 (a0d (i1:Int) →
 (a0g (i1:Int) p.kids.length∧(((3:Nat)=3∧(5:Nat)=5)∧((3500:Nat)=3500∧(p=p∧(p=p∧(p.kids=p.kids∧(p.kids=p.kids∧((i1:Int)=(i1:Int)∧(a0g (i1:Int) p.kids.length∧((p.kids.getD i1 zP)=(p.kids.getD i1 zP)∧((msz (p.kids.getD i1 zP)<n∧a0i (p.kids.getD i1 zP)≤1048576)∧(((3:Nat)=3∧(5:Nat)=5)∧((3500:Nat)=3500∧(((3:Nat)=3∧(5:Nat)=5)∧((3500:Nat)=3500∧(a1x ((p.kids.take i1).length+([(a0b (p.kids.getD i1 zP))]).length) 80∧(a0d ((i1:Int)+(1:Int))∧(∃ i2:Nat,(i2≤p.kids.length∧(p.kids.length - i2<p.kids.length - i1∧((p=p∧(True∧(True∧(((i1:Int)+(1:Int))=(i2:Int)∧True))))∧((p.kind=p.kind∧(p.num=p.num∧(p.cond.kind=p.cond.kind∧(p.cond.num=p.cond.num∧(True∧(True∧True))))))∧(p.cond.kids=p.cond.kids∧(((p.kids.take i1)++([(a0b (p.kids.getD i1 zP))]))=(p.kids.take i2)∧(((0:Int)=(0:Int)∧((0:Int)=(0:Int)∧((0:Int)=(0:Int)∧((0:Int)=(0:Int)∧(True∧(True∧True))))))∧True))))))))))))))))))))))))))))∧((decide ((i1:Int)<((p.kids.length:Int))))=false →
 (a0a.mk p.kind p.num (a0c.mk p.cond.kind p.cond.num p.cond.kids) (p.kids.take i1))=p)))))))))))))))))))))))))))))):=by kernel_rfl
theorem f5j(n:Nat)(hE:a0m [])(hO:a4g [a1v,b3m n])(hM:a5a [])(hS:a5v []):Ctr.OGood (b3m (n+1)):=by
 refine⟨a0j b9w rfl (by decide),?_⟩
 show ∀ (p:a0a),(msz p<n+1∧a0i p≤1048576)→a4k prog b7n [.ref ⟨(.st .prog),p⟩] [⟨(.st .prog),p⟩]
 intro p hp
 refine a2x (own:=[16,35,36,37]) (wr:=[]) (cl:=[]) (ro:=[]) hE hO hM hS b9w e9q (d6v p) ?_
 rewrite [f6r n p]
 rw[a9k] at hp
 have f0:=a5q p
 have f1:=fun i (h:i<p.kids.length)=>b1b a0i zP p.kids i h
 have f2:=fun i (h:i<p.kids.length)=>a1i zP p.kids i h
 have f3:=fun i (h:i<p.kids.length)=>a5r zP p.kids i h
 have f4:p.kids.take 0=[]:=by simp
 have f5:∀ i,p.kids.length≤i→p.kids.take i=p.kids:=fun i h=>List.take_of_length_le h
 have f6:∀ i,(p.kids.take i).length≤p.kids.length:=fun i=>by simp;omega
 have f7:∀ ks,ks=p.kids→a0a.mk p.kind p.num p.cond ks=p:=fun ks h=>by subst h;cases p;rfl
 refine fun a0=>fun a1=>⟨rfl,⟨rfl,⟨rfl,⟨rfl,⟨rfl,⟨rfl,⟨rfl,⟨rfl,⟨rfl,⟨rfl,⟨rfl,⟨?_,⟨rfl,⟨rfl,⟨rfl,⟨rfl,⟨rfl,⟨rfl,⟨rfl,⟨rfl,⟨⟨0,⟨?_,⟨⟨rfl,⟨trivial,⟨trivial,⟨?_,trivial⟩⟩⟩⟩,⟨⟨rfl,⟨rfl,⟨rfl,⟨rfl,⟨trivial,⟨trivial,trivial⟩⟩⟩⟩⟩⟩,⟨rfl,⟨?_,⟨⟨rfl,⟨rfl,⟨rfl,⟨rfl,⟨trivial,⟨trivial,trivial⟩⟩⟩⟩⟩⟩,trivial⟩⟩⟩⟩⟩⟩⟩,fun i1=>fun a2=>fun a3=>fun a4=>⟨fun a5=>fun a6=>fun a7=>⟨?_,⟨⟨?_,?_⟩,⟨?_,⟨rfl,⟨rfl,⟨rfl,⟨rfl,⟨rfl,⟨?_,⟨rfl,⟨?_,⟨⟨?_,?_⟩,⟨?_,⟨⟨?_,?_⟩,⟨?_,⟨?_,⟨?_,⟨i1+1,⟨?_,⟨?_,⟨⟨rfl,⟨trivial,⟨trivial,⟨?_,trivial⟩⟩⟩⟩,⟨⟨rfl,⟨rfl,⟨rfl,⟨rfl,⟨trivial,⟨trivial,trivial⟩⟩⟩⟩⟩⟩,⟨rfl,⟨?_,⟨⟨rfl,⟨rfl,⟨rfl,⟨rfl,⟨trivial,⟨trivial,trivial⟩⟩⟩⟩⟩⟩,trivial⟩⟩⟩⟩⟩⟩⟩⟩⟩⟩⟩⟩⟩⟩⟩⟩⟩⟩⟩⟩⟩⟩⟩⟩⟩,fun a5=>?_⟩⟩⟩⟩⟩⟩⟩⟩⟩⟩⟩⟩⟩⟩⟩⟩⟩⟩⟩⟩⟩⟩
 all_goals try and_intros
 all_goals try simp only[a0c.eta,a0a.eta,a1y,a2a] at *
 all_goals first|rfl|trivial|omega|(simp only[decide_eq_true_eq,decide_eq_false_iff_not,a0g,a0d,a1x,List.length_cons,List.length_nil] at *;first|omega|(have:=f6 i1;omega)|exact f7 _ (f5 _ (by omega))|grind)|grind
theorem f9e:∀ n,a4g [b3m n]
 | 0=>⟨⟨a0j b9w rfl (by decide),fun _ h=>absurd h.1 (Nat.not_lt_zero _)⟩,trivial⟩
 | n+1=>by
  have ih:=f9e n
  exact⟨f5j n trivial ⟨a5o,ih.1,trivial⟩ trivial trivial,trivial⟩
theorem a5p:Ctr.OGood a2i :=
 ⟨a0j b9w rfl (by decide),fun p hp=>(f9e (msz p+1)).1.2 p (⟨Nat.lt_succ_self _,hp⟩)⟩
def a3n:Ctr:=⟨c5p,[],⟨(none,[⟨(.st .prog),a0a.mk 1 0 zE []⟩])⟩⟩
def d3t :Nat→a0s:=fun _ => .none
theorem f2h :awp (a2o [] [] [] [] []) (a0k b0f) (d3t ) 0 (a3r (a2o [] [] [] [] []) b0f fun r=>a1d r [⟨(.st .prog),a0a.mk 1 0 zE []⟩]) (a4z b0f []) =
 ((a0a.mk (1:Int) (0:Int) zE [])=(a0a.mk 1 0 zE [])):=by kernel_rfl
theorem f1n(hE:a0m [])(hO:a4g [])(hM:a5a [])(hS:a5v []):Ctr.OGood a3n:=by
 refine⟨a0j d2t rfl (by decide),?_⟩
 show True→a4k prog c5p [] [⟨(.st .prog),a0a.mk 1 0 zE []⟩]
 intro  _
 refine a2x (own:=[]) (wr:=[]) (cl:=[]) (ro:=[]) hE hO hM hS d2t e6f (d3t ) ?_
 rewrite [f2h ]
 refine ?_
 all_goals try and_intros
 all_goals first|rfl|trivial|omega|(simp only[decide_eq_true_eq,decide_eq_false_iff_not,a0g,a0d,a1z,a2w,a1w,a1x] at *;omega)|(simp[a0g,a0d] at *;omega)|grind
theorem b9j:Ctr.OGood a3n:=f1n trivial trivial trivial trivial
def a3x:Ctr:=⟨c7v,[.v (.st .prog), .v (.st .prog)],fun (p:a0a) (q:a0a)=>⟨(some (a0i p≤1048576∧a0i q≤1048576),[⟨(.st .prog),a0a.mk 5 0 zE [p,q]⟩])⟩⟩
def d6w(p:a0a)(q:a0a):Nat→a0s:=fun _ => .none
theorem f6s(p:a0a)(q:a0a):awp (a2o [] [a2i] [] [5,6,7] [] [] [2,3]) (a0k b2a) (d6w p q) 0 (a3r (a2o [] [a2i] [] [5,6,7] [] [] [2,3]) b2a fun r=>a1d r [⟨(.st .prog),a0a.mk 5 0 zE [p,q]⟩]) (a4z b2a [.val ⟨(.st .prog),p⟩, .val ⟨(.st .prog),q⟩]) =
 ((a0i p≤1048576∧(a0i q≤1048576∧(a0a.mk (5:Int) (0:Int) zE ([(a0b p),(a0b q)]))=(a0a.mk 5 0 zE [p,q])))):=by kernel_rfl
theorem f5k(hE:a0m [])(hO:a4g [a2i])(hM:a5a [])(hS:a5v []):Ctr.OGood a3x:=by
 refine⟨a0j d5m rfl (by decide),?_⟩
 show ∀ (p:a0a) (q:a0a),(a0i p≤1048576∧a0i q≤1048576)→a4k prog c7v [.val ⟨(.st .prog),p⟩, .val ⟨(.st .prog),q⟩] [⟨(.st .prog),a0a.mk 5 0 zE [p,q]⟩]
 intro p q hp
 refine a2x (own:=[5,6,7]) (wr:=[]) (cl:=[]) (ro:=[2,3]) hE hO hM hS d5m e9r (d6w p q) ?_
 rewrite [f6s p q]
 refine⟨?_,⟨?_,?_⟩⟩
 all_goals try and_intros
 all_goals try simp only[a0c.eta,a0a.eta,a1y,a2a] at *
 all_goals first|rfl|trivial|omega|(simp only[decide_eq_true_eq,decide_eq_false_iff_not,a0g,a0d,a1z,a2w,a1w,a1x] at *;omega)|(simp[a0g,a0d] at *;omega)|grind
theorem c1g:Ctr.OGood a3x:=f5k trivial ⟨a5p,trivial⟩ trivial trivial
def a4h:Ctr:=⟨d1w,[.v (.st .expr), .v (.st .prog), .v (.st .prog)],fun (c:a0c) (p:a0a) (q:a0a)=>⟨(some (a0l c≤1048576∧a0i p≤1048576∧a0i q≤1048576),[⟨(.st .prog),a0a.mk 6 0 c [p,q]⟩])⟩⟩
def e0a(c:a0c)(p:a0a)(q:a0a):Nat→a0s:=fun _ => .none
theorem f9a(c:a0c)(p:a0a)(q:a0a):awp (a2o [] [a2i,a1v] [] [7,8,9,10] [] [] [3,4,5]) (a0k b5a) (e0a c p q) 0 (a3r (a2o [] [a2i,a1v] [] [7,8,9,10] [] [] [3,4,5]) b5a fun r=>a1d r [⟨(.st .prog),a0a.mk 6 0 c [p,q]⟩]) (a4z b5a [.val ⟨(.st .expr),c⟩, .val ⟨(.st .prog),p⟩, .val ⟨(.st .prog),q⟩]) =
 ((a0l c≤1048576∧(a0i p≤1048576∧(a0i q≤1048576∧(a0a.mk (6:Int) (0:Int) (a1g c) ([(a0b p),(a0b q)]))=(a0a.mk 6 0 c [p,q]))))):=by kernel_rfl
theorem f8e(hE:a0m [])(hO:a4g [a2i,a1v])(hM:a5a [])(hS:a5v []):Ctr.OGood a4h:=by
 refine⟨a0j d9b rfl (by decide),?_⟩
 show ∀ (c:a0c) (p:a0a) (q:a0a),(a0l c≤1048576∧a0i p≤1048576∧a0i q≤1048576)→a4k prog d1w [.val ⟨(.st .expr),c⟩, .val ⟨(.st .prog),p⟩, .val ⟨(.st .prog),q⟩] [⟨(.st .prog),a0a.mk 6 0 c [p,q]⟩]
 intro c p q hp
 refine a2x (own:=[7,8,9,10]) (wr:=[]) (cl:=[]) (ro:=[3,4,5]) hE hO hM hS d9b f3k (e0a c p q) ?_
 rewrite [f9a c p q]
 refine⟨?_,⟨?_,⟨?_,?_⟩⟩⟩
 all_goals try and_intros
 all_goals try simp only[a0c.eta,a0a.eta,a1y,a2a] at *
 all_goals first|rfl|trivial|omega|(simp only[decide_eq_true_eq,decide_eq_false_iff_not,a0g,a0d,a1z,a2w,a1w,a1x] at *;omega)|(simp[a0g,a0d] at *;omega)|grind
theorem c2y:Ctr.OGood a4h:=f8e trivial ⟨a5p,a5o,trivial⟩ trivial trivial
def a3e:Ctr:=⟨c4i,[.v (.st .expr), .v (.st .prog)],fun (c:a0c) (p:a0a)=>⟨(some (a0l c≤1048576∧a0i p≤1048576),[⟨(.st .prog),a0a.mk 7 0 c [p]⟩])⟩⟩
def d1r(c:a0c)(p:a0a):Nat→a0s:=fun _ => .none
theorem e7o(c:a0c)(p:a0a):awp (a2o [] [a2i,a1v] [] [5,6,7] [] [] [2,3]) (a0k a8q) (d1r c p) 0 (a3r (a2o [] [a2i,a1v] [] [5,6,7] [] [] [2,3]) a8q fun r=>a1d r [⟨(.st .prog),a0a.mk 7 0 c [p]⟩]) (a4z a8q [.val ⟨(.st .expr),c⟩, .val ⟨(.st .prog),p⟩]) =
 ((a0l c≤1048576∧(a0i p≤1048576∧(a0a.mk (7:Int) (0:Int) (a1g c) ([(a0b p)]))=(a0a.mk 7 0 c [p])))):=by kernel_rfl
theorem e7d(hE:a0m [])(hO:a4g [a2i,a1v])(hM:a5a [])(hS:a5v []):Ctr.OGood a3e:=by
 refine⟨a0j d0f rfl (by decide),?_⟩
 show ∀ (c:a0c) (p:a0a),(a0l c≤1048576∧a0i p≤1048576)→a4k prog c4i [.val ⟨(.st .expr),c⟩, .val ⟨(.st .prog),p⟩] [⟨(.st .prog),a0a.mk 7 0 c [p]⟩]
 intro c p hp
 refine a2x (own:=[5,6,7]) (wr:=[]) (cl:=[]) (ro:=[2,3]) hE hO hM hS d0f e2e (d1r c p) ?_
 rewrite [e7o c p]
 refine⟨?_,⟨?_,?_⟩⟩
 all_goals try and_intros
 all_goals try simp only[a0c.eta,a0a.eta,a1y,a2a] at *
 all_goals first|rfl|trivial|omega|(simp only[decide_eq_true_eq,decide_eq_false_iff_not,a0g,a0d,a1z,a2w,a1w,a1x] at *;omega)|(simp[a0g,a0d] at *;omega)|grind
theorem b7v:Ctr.OGood a3e:=e7d trivial ⟨a5p,a5o,trivial⟩ trivial trivial
end
end Go.Proofs.Ytlaoejdeanljgaa

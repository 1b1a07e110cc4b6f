/- Expressions that the reference builds; premises as expressions. Printed by vmk.py. -/
import Derived.Test.YthebhlkdppmefaaGreatVmUse
import Derived.Test.YthebhlkdppmefaaGreatVmLib
import Derived.Test.YthebhlkdppmefaaGreatVmSz
import Derived.Test.YthebhlkdppmefaaGreatVmPrem
import Derived.Test.YthebhlkdppmefaaGreatVmBld
set_option linter.unusedVariables false
set_option linter.unusedSimpArgs false
set_option linter.unusedSectionVars false
set_option maxRecDepth 4000
set_option maxHeartbeats 4000000
namespace Go.Proofs.YthebhlkdppmefaaGreat
noncomputable section
def b6h(n:Nat):Ctr:=⟨c5q,[.r (.st .expr)],fun (e:a0b)=>⟨(some (msz e<n∧a2m e≤1048576),[⟨(.st .expr),e⟩])⟩⟩
def a2v:Ctr:=⟨c5q,[.r (.st .expr)],fun (e:a0b)=>⟨(some (a2m e≤1048576),[⟨(.st .expr),e⟩])⟩⟩
def e5p(e:a0b):Nat→a0p:=(fun zb=>if Nat.beq zb 0 then .mk (Nat) (fun i=>i≤e.kids.length) (fun i=>e.kids.length - i) [] [1,5,6,7,8,9,10,11,12,13] (fun i=>[(4, .imm ⟨(.int .i64),((i:Int):Int)⟩)]) [0,2,4,14,15,16,17,18,19,20,21,22,23,24,25,26,27,28,29,30,31,32,33,34,35] (fun i=>[(3, .box [.imm ⟨(.int .i64),(e.kind:Int)⟩, .imm ⟨(.int .i64),(e.num:Int)⟩, .tree 3400]),(3400, .tree (.st .expr) (e.kids.take i:List a0b))]) [] [] (fun i=>fun _ => .none) else .none)
theorem g7x(n:Nat)(e:a0b):awp (a2s [] [b6h n] [] [31,32,33] []) (a0j b5a) (e5p e) 0 (a5k (a2s [] [b6h n] [] [31,32,33] []) b5a fun r=>a1f r [⟨(.st .expr),e⟩]) (a8e b5a [.ref ⟨(.st .expr),e⟩]) =
 ((a0c e.kind →
 (a0c e.num →
 ((∃ i1:Nat,(i1≤e.kids.length∧((e=e∧(True∧(True∧((0:Int)=(i1:Int)∧True))))∧((e.kind=e.kind∧(e.num=e.num∧(True∧True)))∧((e.kids.take i1)=[]∧(((0:Int)=(0:Int)∧((0:Int)=(0:Int)∧(True∧True)))∧True))))))∧(∀ i1:Nat,(i1≤e.kids.length →
 (e.kids.length≤140737488355328 →
 (a0c ((e.kids.length:Int)) →
 (((decide ((i1:Int)<((e.kids.length:Int))))=true →
 (e.kids.length≤140737488355328 →
 (a0c (i1:Int) →
 (a0k (i1:Int) e.kids.length∧(((3:Nat)=3∧(2:Nat)=2)∧((3400:Nat)=3400∧(e=e∧(e=e∧(e.kids=e.kids∧(e.kids=e.kids∧((i1:Int)=(i1:Int)∧(a0k (i1:Int) e.kids.length∧((e.kids.getD i1 zE)=(e.kids.getD i1 zE)∧((msz (e.kids.getD i1 zE)<n∧a2m (e.kids.getD i1 zE)≤1048576)∧(((3:Nat)=3∧(2:Nat)=2)∧((3400:Nat)=3400∧(((3:Nat)=3∧(2:Nat)=2)∧((3400:Nat)=3400∧(a1p ((e.kids.take i1).length+([(a0n (e.kids.getD i1 zE))]).length) 40∧(a0c ((i1:Int)+(1:Int))∧(∃ i2:Nat,(i2≤e.kids.length∧(e.kids.length - i2<e.kids.length - i1∧((e=e∧(True∧(True∧(((i1:Int)+(1:Int))=(i2:Int)∧True))))∧((e.kind=e.kind∧(e.num=e.num∧(True∧True)))∧(((e.kids.take i1)++([(a0n (e.kids.getD i1 zE))]))=(e.kids.take i2)∧(((0:Int)=(0:Int)∧((0:Int)=(0:Int)∧(True∧True)))∧True)))))))))))))))))))))))))))∧((decide ((i1:Int)<((e.kids.length:Int))))=false →
 (a0b.mk e.kind e.num (e.kids.take i1))=e)))))))))):=by kernel_rfl
theorem g6d(n:Nat)(hE:a0o [])(hO:a5c [b6h n])(hM:a5s [])(hS:a5d []):Ctr.OGood (b6h (n+1)):=by
 refine⟨a0l c2z rfl (by decide),?_⟩
 show ∀ (e:a0b),(msz e<n+1∧a2m e≤1048576)→a6q prog c5q [.ref ⟨(.st .expr),e⟩] [⟨(.st .expr),e⟩]
 intro e hp
 refine a4j (own:=[31,32,33]) (wr:=[]) (cl:=[]) (ro:=[]) hE hO hM hS c2z g0m (e5p e) ?_
 rewrite [g7x n e]
 rw[h8j] at hp
 have f0:=c2e e
 have f1:=fun i (h:i<e.kids.length)=>g2g a2m zE e.kids i h
 have f2:=fun i (h:i<e.kids.length)=>a3d zE e.kids i h
 have f3:=fun i (h:i<e.kids.length)=>a8f zE e.kids i h
 have f4:e.kids.take 0=[]:=by simp
 have f5:∀ i,e.kids.length≤i→e.kids.take i=e.kids:=fun i h=>List.take_of_length_le h
 have f6:∀ i,(e.kids.take i).length≤e.kids.length:=fun i=>by simp;omega
 have f7:∀ ks,ks=e.kids→a0b.mk e.kind e.num ks=e:=fun ks h=>by subst h;cases e;rfl
 refine fun a0=>fun a1=>⟨⟨0,⟨?_,⟨⟨rfl,⟨trivial,⟨trivial,⟨?_,trivial⟩⟩⟩⟩,⟨⟨rfl,⟨rfl,⟨trivial,trivial⟩⟩⟩,⟨?_,⟨⟨rfl,⟨rfl,⟨trivial,trivial⟩⟩⟩,trivial⟩⟩⟩⟩⟩⟩,fun i1=>fun a2=>fun a3=>fun a4=>⟨fun a5=>fun a6=>fun a7=>⟨?_,⟨⟨?_,?_⟩,⟨?_,⟨rfl,⟨rfl,⟨rfl,⟨rfl,⟨rfl,⟨?_,⟨rfl,⟨?_,⟨⟨?_,?_⟩,⟨?_,⟨⟨?_,?_⟩,⟨?_,⟨?_,⟨?_,⟨i1+1,⟨?_,⟨?_,⟨⟨rfl,⟨trivial,⟨trivial,⟨?_,trivial⟩⟩⟩⟩,⟨⟨rfl,⟨rfl,⟨trivial,trivial⟩⟩⟩,⟨?_,⟨⟨rfl,⟨rfl,⟨trivial,trivial⟩⟩⟩,trivial⟩⟩⟩⟩⟩⟩⟩⟩⟩⟩⟩⟩⟩⟩⟩⟩⟩⟩⟩⟩⟩⟩⟩⟩,fun a5=>?_⟩⟩
 all_goals try and_intros
 all_goals try simp only[a0b.eta,a0d.eta,a1g.eta,a0e.eta,a2u,a2z,a2o,a2f] at *
 all_goals first|rfl|trivial|omega|(simp only[decide_eq_true_eq,decide_eq_false_iff_not,a0k,a0c,a1p,List.length_cons,List.length_nil] at *;first|omega|(have:=f6 i1;omega)|exact f7 _ (f5 _ (by omega))|grind)|grind
theorem h0l:∀ n,a5c [b6h n]
 | 0=>⟨⟨a0l c2z rfl (by decide),fun _ h=>absurd h.1 (Nat.not_lt_zero _)⟩,trivial⟩
 | n+1=>by
  have ih:=h0l n
  exact⟨g6d n trivial ⟨ih.1,trivial⟩ trivial trivial,trivial⟩
theorem b1r:Ctr.OGood a2v :=
 ⟨a0l c2z rfl (by decide),fun e hp=>(h0l (msz e+1)).1.2 e (⟨Nat.lt_succ_self _,hp⟩)⟩
def b6g:Ctr:=⟨b8o,[.v (.int .i64), .o (.st .expr), .o (.st .expr)],fun (k:Int) (a:a0b) (b:a0b)=>⟨(none,[⟨(.st .expr),a0b.mk k 0 [a,b]⟩])⟩⟩
def e1m(k:Int)(a:a0b)(b:a0b):Nat→a0p:=fun _ => .none
theorem g2w(k:Int)(a:a0b)(b:a0b):awp (a2s [] [] [] [10] []) (a0j a6f) (e1m k a b) 0 (a5k (a2s [] [] [] [10] []) a6f fun r=>a1f r [⟨(.st .expr),a0b.mk k 0 [a,b]⟩]) (a8e a6f [.val ⟨(.int .i64),k⟩, .own ⟨(.st .expr),a⟩, .own ⟨(.st .expr),b⟩]) =
 ((a0b.mk k (0:Int) ([(a0n a),(a0n b)]))=(a0b.mk k 0 [a,b])):=by kernel_rfl
theorem g2a(hE:a0o [])(hO:a5c [])(hM:a5s [])(hS:a5d []):Ctr.OGood b6g:=by
 refine⟨a0l c0w rfl (by decide),?_⟩
 show ∀ (k:Int) (a:a0b) (b:a0b),True→a6q prog b8o [.val ⟨(.int .i64),k⟩, .own ⟨(.st .expr),a⟩, .own ⟨(.st .expr),b⟩] [⟨(.st .expr),a0b.mk k 0 [a,b]⟩]
 intro k a b _
 refine a4j (own:=[10]) (wr:=[]) (cl:=[]) (ro:=[]) hE hO hM hS c0w d4s (e1m k a b) ?_
 rewrite [g2w k a b]
 refine ?_
 all_goals try and_intros
 all_goals try simp only[a0b.eta,a0d.eta,a1g.eta,a0e.eta,a2u,a2z,a2o,a2f] at *
 all_goals first|rfl|trivial|omega|(simp only[decide_eq_true_eq,decide_eq_false_iff_not,a0k,a0c,a2k,a8i,a5r,a1p] at *;omega)|(simp[a0k,a0c] at *;omega)|grind
theorem f4l:Ctr.OGood b6g:=g2a trivial trivial trivial trivial
def a6j:Ctr:=⟨d4d,[.v (.st .expr)],fun (c:a0b)=>⟨(some (a2m c≤1048576),[⟨(.st .expr),a0b.mk 5 0 [c]⟩])⟩⟩
def e5q(c:a0b):Nat→a0p:=fun _ => .none
theorem g7y(c:a0b):awp (a2s [] [a2v] [] [3,4] [] [] [1]) (a0j b5d) (e5q c) 0 (a5k (a2s [] [a2v] [] [3,4] [] [] [1]) b5d fun r=>a1f r [⟨(.st .expr),a0b.mk 5 0 [c]⟩]) (a8e b5d [.val ⟨(.st .expr),c⟩]) =
 ((a2m c≤1048576∧(a0b.mk (5:Int) (0:Int) ([(a0n c)]))=(a0b.mk 5 0 [c]))):=by kernel_rfl
theorem g6e(hE:a0o [])(hO:a5c [a2v])(hM:a5s [])(hS:a5d []):Ctr.OGood a6j:=by
 refine⟨a0l e3o rfl (by decide),?_⟩
 show ∀ (c:a0b),(a2m c≤1048576)→a6q prog d4d [.val ⟨(.st .expr),c⟩] [⟨(.st .expr),a0b.mk 5 0 [c]⟩]
 intro c hp
 refine a4j (own:=[3,4]) (wr:=[]) (cl:=[]) (ro:=[1]) hE hO hM hS e3o g0p (e5q c) ?_
 rewrite [g7y c]
 refine⟨?_,?_⟩
 all_goals try and_intros
 all_goals try simp only[a0b.eta,a0d.eta,a1g.eta,a0e.eta,a2u,a2z,a2o,a2f] at *
 all_goals first|rfl|trivial|omega|(simp only[decide_eq_true_eq,decide_eq_false_iff_not,a0k,a0c,a2k,a8i,a5r,a1p] at *;omega)|(simp[a0k,a0c] at *;omega)|grind
theorem d5n:Ctr.OGood a6j:=g6e trivial ⟨b1r,trivial⟩ trivial trivial
theorem g1c:Ctr.Good a2v:=b1r.plain
theorem g1d:Ctr.Good a6j:=d5n.plain
mutual
theorem g2h:∀ x:a0b,a2m x+1=a1d x
 | ⟨_,_,ks⟩=>by
  have:=h1u ks
  simp only[a2m,a1d];omega
theorem h1u:∀ xs:List a0b,xs.length+c2u xs=a8z xs
 | []=>rfl
 | x::xs=>by
  have h1:=g2h x
  have h2:=h1u xs
  simp only[c2u,a8z,List.length_cons];omega
end
theorem i5u(gg:a0h)(x:a0b)(h:isC gg x=true):a2m x≤1048576:=by
 simp only[isC,Bool.and_eq_true,e4l] at h
 have:=g2h x
 omega
end
end Go.Proofs.YthebhlkdppmefaaGreat

/- Bld, Bld2, Bld3. -/
import Derived.Test.YtlaoejdeanljgaaVmUse
import Derived.Test.YtlaoejdeanljgaaVmLib
import Derived.Test.YtlaoejdeanljgaaVmSz
import Derived.Test.YtlaoejdeanljgaaVmValid
set_option linter.unusedVariables false
set_option linter.unusedSimpArgs false
set_option linter.unusedSectionVars false
set_option maxRecDepth 4000
set_option maxHeartbeats 4000000
namespace Go.Proofs.Ytlaoejdeanljgaa
noncomputable section
def a8x(n:Nat):Ctr:=⟨b7p,[.v (.st .expr)],fun (e:a0b)=>⟨(some (msz e<n∧a0q e≤1048576),[⟨(.st .expr),e⟩])⟩⟩
def b6a:Ctr:=⟨b7p,[.v (.st .expr)],fun (e:a0b)=>⟨(some (a0q e≤1048576),[⟨(.st .expr),e⟩])⟩⟩
def d0r(e:a0b):Nat→a0t:=(fun zb=>if Nat.beq zb 0 then .mk (Nat) (fun i=>i≤e.kids.length) (fun i=>e.kids.length - i) [] [0,1,4,6,7,8,9,10,11] (fun i=>[(14, .imm ⟨(.int .i64),((i:Int):Int)⟩)]) [2,5,12,13,14,15,16,17,18,19,20,21,22,23,24,25,26] (fun i=>[(3, .box [.imm ⟨(.int .i64),(e.kind:Int)⟩, .imm ⟨(.int .i64),(e.num:Int)⟩, .tree 2400]),(2400, .tree (.st .expr) (e.kids.take i:List a0b))]) [] [] (fun i=>fun _ => .none) else .none)
theorem e6e(n:Nat)(e:a0b):awp (a2o [] [a8x n] [] [21,22,23] [] [] [1]) (a0i a8f) (d0r e) 0 (a5b (a2o [] [a8x n] [] [21,22,23] [] [] [1]) a8f fun r=>a1e r [⟨(.st .expr),e⟩]) (a7h a8f [.val ⟨(.st .expr),e⟩]) =
 ((a0d e.kind →
 (a0d e.num →
 (e.kids.length≤140737488355328 →
 (a0d ((e.kids.length:Int)) →
 ((∃ i1:Nat,(i1≤e.kids.length∧((True∧(True∧(e.kids=e.kids∧(((e.kids.length:Int))=((e.kids.length:Int))∧((0:Int)=(i1:Int)∧True)))))∧((e.kind=e.kind∧(e.num=e.num∧(True∧True)))∧((e.kids.take i1)=[]∧(((0:Int)=(0:Int)∧((0:Int)=(0:Int)∧(True∧True)))∧True))))))∧(∀ i1:Nat,(i1≤e.kids.length →
 (((decide ((i1:Int)<((e.kids.length:Int))))=true →
 (a0h (i1:Int) e.kids.length∧(((3:Nat)=3∧(2:Nat)=2)∧((2400:Nat)=2400∧(((e.kids.getD i1 zE).kind=(e.kids.getD i1 zE).kind∧((e.kids.getD i1 zE).num=(e.kids.getD i1 zE).num∧((e.kids.getD i1 zE).kids=(e.kids.getD i1 zE).kids∧True)))∧((msz (a0w (e.kids.getD i1 zE))<n∧a0q (a0w (e.kids.getD i1 zE))≤1048576)∧(((3:Nat)=3∧(2:Nat)=2)∧((2400:Nat)=2400∧(((3:Nat)=3∧(2:Nat)=2)∧((2400:Nat)=2400∧(a2p ((e.kids.take i1).length+([(a0w (e.kids.getD i1 zE))]).length) 40∧(a0d ((i1:Int)+(1:Int))∧(∃ i2:Nat,(i2≤e.kids.length∧(e.kids.length - i2<e.kids.length - i1∧((True∧(True∧(e.kids=e.kids∧(((e.kids.length:Int))=((e.kids.length:Int))∧(((i1:Int)+(1:Int))=(i2:Int)∧True)))))∧((e.kind=e.kind∧(e.num=e.num∧(True∧True)))∧(((e.kids.take i1)++([(a0w (e.kids.getD i1 zE))]))=(e.kids.take i2)∧(((0:Int)=(0:Int)∧((0:Int)=(0:Int)∧(True∧True)))∧True)))))))))))))))))))∧((decide ((i1:Int)<((e.kids.length:Int))))=false →
 (a0b.mk e.kind e.num (e.kids.take i1))=e)))))))))):=by kernel_rfl
theorem e5x(n:Nat)(hE:a0p [])(hO:a4f [a8x n])(hM:a4x [])(hS:a4p []):Ctr.OGood (a8x (n+1)):=by
 refine⟨a0j b5o rfl (by decide),?_⟩
 show ∀ (e:a0b),(msz e<n+1∧a0q e≤1048576)→a6f prog b7p [.val ⟨(.st .expr),e⟩] [⟨(.st .expr),e⟩]
 intro e hp
 refine a4e (own:=[21,22,23]) (wr:=[]) (cl:=[]) (ro:=[1]) hE hO hM hS b5o e1b (d0r e) ?_
 rewrite [e6e n e]
 rw[f3j] at hp
 have f0:=b3v e
 have f1:=fun i (h:i<e.kids.length)=>c1h a0q zE e.kids i h
 have f2:=fun i (h:i<e.kids.length)=>a1w zE e.kids i h
 have f3:=fun i (h:i<e.kids.length)=>a9s zE e.kids i h
 have f4:e.kids.take 0=[]:=by simp
 have f5:∀ i,e.kids.length≤i→e.kids.take i=e.kids:=fun i h=>List.take_of_length_le h
 have f6:∀ i,(e.kids.take i).length≤e.kids.length:=fun i=>by simp;omega
 have f7:∀ ks,ks=e.kids→a0b.mk e.kind e.num ks=e:=fun ks h=>by subst h;cases e;rfl
 refine fun a0=>fun a1=>fun a2=>fun a3=>⟨⟨0,⟨?_,⟨⟨trivial,⟨trivial,⟨rfl,⟨rfl,⟨?_,trivial⟩⟩⟩⟩⟩,⟨⟨rfl,⟨rfl,⟨trivial,trivial⟩⟩⟩,⟨?_,⟨⟨rfl,⟨rfl,⟨trivial,trivial⟩⟩⟩,trivial⟩⟩⟩⟩⟩⟩,fun i1=>fun a4=>⟨fun a5=>⟨?_,⟨⟨?_,?_⟩,⟨?_,⟨⟨rfl,⟨rfl,⟨rfl,?_⟩⟩⟩,⟨?_,⟨⟨?_,?_⟩,⟨?_,⟨⟨?_,?_⟩,⟨?_,⟨?_,⟨?_,⟨i1+1,⟨?_,⟨?_,⟨⟨trivial,⟨trivial,⟨rfl,⟨rfl,⟨?_,trivial⟩⟩⟩⟩⟩,⟨⟨rfl,⟨rfl,⟨trivial,trivial⟩⟩⟩,⟨?_,⟨⟨rfl,⟨rfl,⟨trivial,trivial⟩⟩⟩,trivial⟩⟩⟩⟩⟩⟩⟩⟩⟩⟩⟩⟩⟩⟩⟩⟩⟩⟩,fun a5=>?_⟩⟩
 all_goals try and_intros
 all_goals try simp only[a0b.eta,a0a.eta,a2b,a2d] at *
 all_goals first|rfl|trivial|omega|(simp only[decide_eq_true_eq,decide_eq_false_iff_not,a0h,a0d,a2p,List.length_cons,List.length_nil] at *;first|omega|(have:=f6 i1;omega)|exact f7 _ (f5 _ (by omega))|grind)|grind
theorem f0q:∀ n,a4f [a8x n]
 | 0=>⟨⟨a0j b5o rfl (by decide),fun _ h=>absurd h.1 (Nat.not_lt_zero _)⟩,trivial⟩
 | n+1=>by
  have ih:=f0q n
  exact⟨e5x n trivial ⟨ih.1,trivial⟩ trivial trivial,trivial⟩
theorem e0e:Ctr.OGood b6a :=
 ⟨a0j b5o rfl (by decide),fun e hp=>(f0q (msz e+1)).1.2 e (⟨Nat.lt_succ_self _,hp⟩)⟩
end
end Go.Proofs.Ytlaoejdeanljgaa

set_option linter.unusedVariables false
set_option linter.unusedSimpArgs false
set_option linter.unusedSectionVars false
set_option maxRecDepth 4000
set_option maxHeartbeats 4000000
namespace Go.Proofs.Ytlaoejdeanljgaa
noncomputable section
def b3e(n:Nat):Ctr:=⟨c0s,[.r (.st .expr)],fun (e:a0b)=>⟨(some (msz e<n∧a0q e≤1048576),[⟨(.st .expr),e⟩])⟩⟩
def a1o:Ctr:=⟨c0s,[.r (.st .expr)],fun (e:a0b)=>⟨(some (a0q e≤1048576),[⟨(.st .expr),e⟩])⟩⟩
def d5y(e:a0b):Nat→a0t:=(fun zb=>if Nat.beq zb 0 then .mk (Nat) (fun i=>i≤e.kids.length) (fun i=>e.kids.length - i) [] [1,5,6,7,8,9,10,11,12,13] (fun i=>[(4, .imm ⟨(.int .i64),((i:Int):Int)⟩)]) [0,2,4,14,15,16,17,18,19,20,21,22,23,24,25,26,27,28,29,30,31,32,33,34,35] (fun i=>[(3, .box [.imm ⟨(.int .i64),(e.kind:Int)⟩, .imm ⟨(.int .i64),(e.num:Int)⟩, .tree 3400]),(3400, .tree (.st .expr) (e.kids.take i:List a0b))]) [] [] (fun i=>fun _ => .none) else .none)
theorem f4b(n:Nat)(e:a0b):awp (a2o [] [b3e n] [] [31,32,33] []) (a0i b1w) (d5y e) 0 (a5b (a2o [] [b3e n] [] [31,32,33] []) b1w fun r=>a1e r [⟨(.st .expr),e⟩]) (a7h b1w [.ref ⟨(.st .expr),e⟩]) =
 ((a0d e.kind →
 (a0d e.num →
 ((∃ i1:Nat,(i1≤e.kids.length∧((e=e∧(True∧(True∧((0:Int)=(i1:Int)∧True))))∧((e.kind=e.kind∧(e.num=e.num∧(True∧True)))∧((e.kids.take i1)=[]∧(((0:Int)=(0:Int)∧((0:Int)=(0:Int)∧(True∧True)))∧True))))))∧(∀ i1:Nat,(i1≤e.kids.length →
 (e.kids.length≤140737488355328 →
 (a0d ((e.kids.length:Int)) →
 (((decide ((i1:Int)<((e.kids.length:Int))))=true →
 (e.kids.length≤140737488355328 →
 (a0d (i1:Int) →
 (a0h (i1:Int) e.kids.length∧(((3:Nat)=3∧(2:Nat)=2)∧((3400:Nat)=3400∧(e=e∧(e=e∧(e.kids=e.kids∧(e.kids=e.kids∧((i1:Int)=(i1:Int)∧(a0h (i1:Int) e.kids.length∧((e.kids.getD i1 zE)=(e.kids.getD i1 zE)∧((msz (e.kids.getD i1 zE)<n∧a0q (e.kids.getD i1 zE)≤1048576)∧(((3:Nat)=3∧(2:Nat)=2)∧((3400:Nat)=3400∧(((3:Nat)=3∧(2:Nat)=2)∧((3400:Nat)=3400∧(a2p ((e.kids.take i1).length+([(a0w (e.kids.getD i1 zE))]).length) 40∧(a0d ((i1:Int)+(1:Int))∧(∃ i2:Nat,(i2≤e.kids.length∧(e.kids.length - i2<e.kids.length - i1∧((e=e∧(True∧(True∧(((i1:Int)+(1:Int))=(i2:Int)∧True))))∧((e.kind=e.kind∧(e.num=e.num∧(True∧True)))∧(((e.kids.take i1)++([(a0w (e.kids.getD i1 zE))]))=(e.kids.take i2)∧(((0:Int)=(0:Int)∧((0:Int)=(0:Int)∧(True∧True)))∧True)))))))))))))))))))))))))))∧((decide ((i1:Int)<((e.kids.length:Int))))=false →
 (a0b.mk e.kind e.num (e.kids.take i1))=e)))))))))):=by kernel_rfl
theorem f2u(n:Nat)(hE:a0p [])(hO:a4f [b3e n])(hM:a4x [])(hS:a4p []):Ctr.OGood (b3e (n+1)):=by
 refine⟨a0j b8v rfl (by decide),?_⟩
 show ∀ (e:a0b),(msz e<n+1∧a0q e≤1048576)→a6f prog c0s [.ref ⟨(.st .expr),e⟩] [⟨(.st .expr),e⟩]
 intro e hp
 refine a4e (own:=[31,32,33]) (wr:=[]) (cl:=[]) (ro:=[]) hE hO hM hS b8v e7v (d5y e) ?_
 rewrite [f4b n e]
 rw[f3j] at hp
 have f0:=b3v e
 have f1:=fun i (h:i<e.kids.length)=>c1h a0q zE e.kids i h
 have f2:=fun i (h:i<e.kids.length)=>a1w zE e.kids i h
 have f3:=fun i (h:i<e.kids.length)=>a9s zE e.kids i h
 have f4:e.kids.take 0=[]:=by simp
 have f5:∀ i,e.kids.length≤i→e.kids.take i=e.kids:=fun i h=>List.take_of_length_le h
 have f6:∀ i,(e.kids.take i).length≤e.kids.length:=fun i=>by simp;omega
 have f7:∀ ks,ks=e.kids→a0b.mk e.kind e.num ks=e:=fun ks h=>by subst h;cases e;rfl
 refine fun a0=>fun a1=>⟨⟨0,⟨?_,⟨⟨rfl,⟨trivial,⟨trivial,⟨?_,trivial⟩⟩⟩⟩,⟨⟨rfl,⟨rfl,⟨trivial,trivial⟩⟩⟩,⟨?_,⟨⟨rfl,⟨rfl,⟨trivial,trivial⟩⟩⟩,trivial⟩⟩⟩⟩⟩⟩,fun i1=>fun a2=>fun a3=>fun a4=>⟨fun a5=>fun a6=>fun a7=>⟨?_,⟨⟨?_,?_⟩,⟨?_,⟨rfl,⟨rfl,⟨rfl,⟨rfl,⟨rfl,⟨?_,⟨rfl,⟨?_,⟨⟨?_,?_⟩,⟨?_,⟨⟨?_,?_⟩,⟨?_,⟨?_,⟨?_,⟨i1+1,⟨?_,⟨?_,⟨⟨rfl,⟨trivial,⟨trivial,⟨?_,trivial⟩⟩⟩⟩,⟨⟨rfl,⟨rfl,⟨trivial,trivial⟩⟩⟩,⟨?_,⟨⟨rfl,⟨rfl,⟨trivial,trivial⟩⟩⟩,trivial⟩⟩⟩⟩⟩⟩⟩⟩⟩⟩⟩⟩⟩⟩⟩⟩⟩⟩⟩⟩⟩⟩⟩⟩,fun a5=>?_⟩⟩
 all_goals try and_intros
 all_goals try simp only[a0b.eta,a0a.eta,a2b,a2d] at *
 all_goals first|rfl|trivial|omega|(simp only[decide_eq_true_eq,decide_eq_false_iff_not,a0h,a0d,a2p,List.length_cons,List.length_nil] at *;first|omega|(have:=f6 i1;omega)|exact f7 _ (f5 _ (by omega))|grind)|grind
theorem f6p:∀ n,a4f [b3e n]
 | 0=>⟨⟨a0j b8v rfl (by decide),fun _ h=>absurd h.1 (Nat.not_lt_zero _)⟩,trivial⟩
 | n+1=>by
  have ih:=f6p n
  exact⟨f2u n trivial ⟨ih.1,trivial⟩ trivial trivial,trivial⟩
theorem a4i:Ctr.OGood a1o :=
 ⟨a0j b8v rfl (by decide),fun e hp=>(f6p (msz e+1)).1.2 e (⟨Nat.lt_succ_self _,hp⟩)⟩
def a2z:Ctr:=⟨b5f,[.v (.int .i64), .o (.st .expr), .o (.st .expr)],fun (k:Int) (a:a0b) (b:a0b)=>⟨(none,[⟨(.st .expr),a0b.mk k 0 [a,b]⟩])⟩⟩
def d2v(k:Int)(a:a0b)(b:a0b):Nat→a0t:=fun _ => .none
theorem e9z(k:Int)(a:a0b)(b:a0b):awp (a2o [] [] [] [10] []) (a0i a4y) (d2v k a b) 0 (a5b (a2o [] [] [] [10] []) a4y fun r=>a1e r [⟨(.st .expr),a0b.mk k 0 [a,b]⟩]) (a7h a4y [.val ⟨(.int .i64),k⟩, .own ⟨(.st .expr),a⟩, .own ⟨(.st .expr),b⟩]) =
 ((a0b.mk k (0:Int) ([(a0w a),(a0w b)]))=(a0b.mk k 0 [a,b])):=by kernel_rfl
theorem e9i(hE:a0p [])(hO:a4f [])(hM:a4x [])(hS:a4p []):Ctr.OGood a2z:=by
 refine⟨a0j b7c rfl (by decide),?_⟩
 show ∀ (k:Int) (a:a0b) (b:a0b),True→a6f prog b5f [.val ⟨(.int .i64),k⟩, .own ⟨(.st .expr),a⟩, .own ⟨(.st .expr),b⟩] [⟨(.st .expr),a0b.mk k 0 [a,b]⟩]
 intro k a b _
 refine a4e (own:=[10]) (wr:=[]) (cl:=[]) (ro:=[]) hE hO hM hS b7c c7k (d2v k a b) ?_
 rewrite [e9z k a b]
 refine ?_
 all_goals try and_intros
 all_goals try simp only[a0b.eta,a0a.eta,a2b,a2d] at *
 all_goals first|rfl|trivial|omega|(simp only[decide_eq_true_eq,decide_eq_false_iff_not,a0h,a0d,a2j,a4q,a4a,a2p] at *;omega)|(simp[a0h,a0d] at *;omega)|grind
theorem b3p:Ctr.OGood a2z:=e9i trivial trivial trivial trivial
def a2m:Ctr:=⟨c7d,[.v (.st .expr)],fun (c:a0b)=>⟨(some (a0q c≤1048576),[⟨(.st .expr),a0b.mk 5 0 [c]⟩])⟩⟩
def d6a(c:a0b):Nat→a0t:=fun _ => .none
theorem f4d(c:a0b):awp (a2o [] [a1o] [] [3,4] [] [] [1]) (a0i b2a) (d6a c) 0 (a5b (a2o [] [a1o] [] [3,4] [] [] [1]) b2a fun r=>a1e r [⟨(.st .expr),a0b.mk 5 0 [c]⟩]) (a7h b2a [.val ⟨(.st .expr),c⟩]) =
 ((a0q c≤1048576∧(a0b.mk (5:Int) (0:Int) ([(a0w c)]))=(a0b.mk 5 0 [c]))):=by kernel_rfl
theorem f2w(hE:a0p [])(hO:a4f [a1o])(hM:a4x [])(hS:a4p []):Ctr.OGood a2m:=by
 refine⟨a0j d4q rfl (by decide),?_⟩
 show ∀ (c:a0b),(a0q c≤1048576)→a6f prog c7d [.val ⟨(.st .expr),c⟩] [⟨(.st .expr),a0b.mk 5 0 [c]⟩]
 intro c hp
 refine a4e (own:=[3,4]) (wr:=[]) (cl:=[]) (ro:=[1]) hE hO hM hS d4q e7z (d6a c) ?_
 rewrite [f4d c]
 refine⟨?_,?_⟩
 all_goals try and_intros
 all_goals try simp only[a0b.eta,a0a.eta,a2b,a2d] at *
 all_goals first|rfl|trivial|omega|(simp only[decide_eq_true_eq,decide_eq_false_iff_not,a0h,a0d,a2j,a4q,a4a,a2p] at *;omega)|(simp[a0h,a0d] at *;omega)|grind
theorem a8z:Ctr.OGood a2m:=f2w trivial ⟨a4i,trivial⟩ trivial trivial
theorem e8r:Ctr.Good a1o:=a4i.plain
theorem e8s:Ctr.Good a2m:=a8z.plain
mutual
theorem d8h:∀ x:a0b,a0q x+1=a0u x
 | ⟨_,_,ks⟩=>by
  have:=f7u ks
  simp only[a0q,a0u];omega
theorem f7u:∀ xs:List a0b,xs.length+a7p xs=a8s xs
 | []=>rfl
 | x::xs=>by
  have h1:=d8h x
  have h2:=f7u xs
  simp only[a7p,a8s,List.length_cons];omega
end
theorem g9m(gg:a0l)(x:a0b)(h:isC gg x=true):a0q x≤1048576:=by
 simp only[isC,Bool.and_eq_true,f4w] at h
 have:=d8h x
 omega
end
end Go.Proofs.Ytlaoejdeanljgaa

set_option linter.unusedVariables false
set_option linter.unusedSimpArgs false
set_option linter.unusedSectionVars false
set_option maxRecDepth 4000
set_option maxHeartbeats 4000000
namespace Go.Proofs.Ytlaoejdeanljgaa
noncomputable section
def b3f(n:Nat):Ctr:=⟨b6q,[.r (.st .prog)],fun (p:a0a)=>⟨(some (msz p<n∧a0e p≤1048576),[⟨(.st .prog),p⟩])⟩⟩
def a2k:Ctr:=⟨b6q,[.r (.st .prog)],fun (p:a0a)=>⟨(some (a0e p≤1048576),[⟨(.st .prog),p⟩])⟩⟩
def d6b(p:a0a):Nat→a0t:=(fun zb=>if Nat.beq zb 0 then .mk (Nat) (fun i=>i≤p.kids.length) (fun i=>p.kids.length - i) [] [1,5,6,7,8,9,10,11,12,13,14,15,16,17] (fun i=>[(4, .imm ⟨(.int .i64),((i:Int):Int)⟩)]) [0,2,4,18,19,20,21,22,23,24,25,26,27,28,29,30,31,32,33,34,35,36,37,38,39] (fun i=>[(3, .box [.imm ⟨(.int .i64),(p.kind:Int)⟩, .imm ⟨(.int .i64),(p.num:Int)⟩, .imm ⟨(.int .i64),(p.cond.kind:Int)⟩, .imm ⟨(.int .i64),(p.cond.num:Int)⟩, .tree 3400, .tree 3500]),(3400, .tree (.st .expr) (p.cond.kids:List a0b)),(3500, .tree (.st .prog) (p.kids.take i:List a0a))]) [] [] (fun i=>fun _ => .none) else .none)
theorem f4e(n:Nat)(p:a0a):awp (a2o [] [a1o,b3f n] [] [16,35,36,37] []) (a0i b2b) (d6b p) 0 (a5b (a2o [] [a1o,b3f n] [] [16,35,36,37] []) b2b fun r=>a1e r [⟨(.st .prog),p⟩]) (a7h b2b [.ref ⟨(.st .prog),p⟩]) =
 ((a0d p.kind →
 (a0d p.num →
 (p=p∧(p=p∧(p.kind=p.kind∧(p.kind=p.kind∧(p=p∧(p=p∧(p.num=p.num∧(p.num=p.num∧(p=p∧(p=p∧(p.cond=p.cond∧(a0q p.cond≤1048576∧(p=p∧(p=p∧(p.kind=p.kind∧(p.kind=p.kind∧(p=p∧(p=p∧(p.num=p.num∧(p.num=p.num∧((∃ i1:Nat,(i1≤p.kids.length∧((p=p∧(True∧(True∧((0:Int)=(i1:Int)∧True))))∧((p.kind=p.kind∧(p.num=p.num∧(p.cond.kind=p.cond.kind∧(p.cond.num=p.cond.num∧(True∧(True∧True))))))∧(p.cond.kids=p.cond.kids∧((p.kids.take i1)=[]∧(((0:Int)=(0:Int)∧((0:Int)=(0:Int)∧((0:Int)=(0:Int)∧((0:Int)=(0:Int)∧(True∧(True∧True))))))∧True)))))))∧(∀ i1:Nat,(i1≤p.kids.length →
 (p.kids.length≤140737488355328 →
 (a0d ((p.kids.length:Int)) →
 (((decide ((i1:Int)<((p.kids.length:Int))))=true →
 (p.kids.length≤140737488355328 →
 (a0d (i1:Int) →
 (a0h (i1:Int) p.kids.length∧(((3:Nat)=3∧(5:Nat)=5)∧((3500:Nat)=3500∧(p=p∧(p=p∧(p.kids=p.kids∧(p.kids=p.kids∧((i1:Int)=(i1:Int)∧(a0h (i1:Int) p.kids.length∧((p.kids.getD i1 zP)=(p.kids.getD i1 zP)∧((msz (p.kids.getD i1 zP)<n∧a0e (p.kids.getD i1 zP)≤1048576)∧(((3:Nat)=3∧(5:Nat)=5)∧((3500:Nat)=3500∧(((3:Nat)=3∧(5:Nat)=5)∧((3500:Nat)=3500∧(a2p ((p.kids.take i1).length+([(a0g (p.kids.getD i1 zP))]).length) 80∧(a0d ((i1:Int)+(1:Int))∧(∃ i2:Nat,(i2≤p.kids.length∧(p.kids.length - i2<p.kids.length - i1∧((p=p∧(True∧(True∧(((i1:Int)+(1:Int))=(i2:Int)∧True))))∧((p.kind=p.kind∧(p.num=p.num∧(p.cond.kind=p.cond.kind∧(p.cond.num=p.cond.num∧(True∧(True∧True))))))∧(p.cond.kids=p.cond.kids∧(((p.kids.take i1)++([(a0g (p.kids.getD i1 zP))]))=(p.kids.take i2)∧(((0:Int)=(0:Int)∧((0:Int)=(0:Int)∧((0:Int)=(0:Int)∧((0:Int)=(0:Int)∧(True∧(True∧True))))))∧True))))))))))))))))))))))))))))∧((decide ((i1:Int)<((p.kids.length:Int))))=false →
 (a0a.mk p.kind p.num (a0b.mk p.cond.kind p.cond.num p.cond.kids) (p.kids.take i1))=p)))))))))))))))))))))))))))))):=by kernel_rfl
theorem f2x(n:Nat)(hE:a0p [])(hO:a4f [a1o,b3f n])(hM:a4x [])(hS:a4p []):Ctr.OGood (b3f (n+1)):=by
 refine⟨a0j b8w rfl (by decide),?_⟩
 show ∀ (p:a0a),(msz p<n+1∧a0e p≤1048576)→a6f prog b6q [.ref ⟨(.st .prog),p⟩] [⟨(.st .prog),p⟩]
 intro p hp
 refine a4e (own:=[16,35,36,37]) (wr:=[]) (cl:=[]) (ro:=[]) hE hO hM hS b8w e8a (d6b p) ?_
 rewrite [f4e n p]
 rw[c3l] at hp
 have f0:=b3j p
 have f1:=fun i (h:i<p.kids.length)=>c1h a0e zP p.kids i h
 have f2:=fun i (h:i<p.kids.length)=>a1w zP p.kids i h
 have f3:=fun i (h:i<p.kids.length)=>a9s zP p.kids i h
 have f4:p.kids.take 0=[]:=by simp
 have f5:∀ i,p.kids.length≤i→p.kids.take i=p.kids:=fun i h=>List.take_of_length_le h
 have f6:∀ i,(p.kids.take i).length≤p.kids.length:=fun i=>by simp;omega
 have f7:∀ ks,ks=p.kids→a0a.mk p.kind p.num p.cond ks=p:=fun ks h=>by subst h;cases p;rfl
 refine fun a0=>fun a1=>⟨rfl,⟨rfl,⟨rfl,⟨rfl,⟨rfl,⟨rfl,⟨rfl,⟨rfl,⟨rfl,⟨rfl,⟨rfl,⟨?_,⟨rfl,⟨rfl,⟨rfl,⟨rfl,⟨rfl,⟨rfl,⟨rfl,⟨rfl,⟨⟨0,⟨?_,⟨⟨rfl,⟨trivial,⟨trivial,⟨?_,trivial⟩⟩⟩⟩,⟨⟨rfl,⟨rfl,⟨rfl,⟨rfl,⟨trivial,⟨trivial,trivial⟩⟩⟩⟩⟩⟩,⟨rfl,⟨?_,⟨⟨rfl,⟨rfl,⟨rfl,⟨rfl,⟨trivial,⟨trivial,trivial⟩⟩⟩⟩⟩⟩,trivial⟩⟩⟩⟩⟩⟩⟩,fun i1=>fun a2=>fun a3=>fun a4=>⟨fun a5=>fun a6=>fun a7=>⟨?_,⟨⟨?_,?_⟩,⟨?_,⟨rfl,⟨rfl,⟨rfl,⟨rfl,⟨rfl,⟨?_,⟨rfl,⟨?_,⟨⟨?_,?_⟩,⟨?_,⟨⟨?_,?_⟩,⟨?_,⟨?_,⟨?_,⟨i1+1,⟨?_,⟨?_,⟨⟨rfl,⟨trivial,⟨trivial,⟨?_,trivial⟩⟩⟩⟩,⟨⟨rfl,⟨rfl,⟨rfl,⟨rfl,⟨trivial,⟨trivial,trivial⟩⟩⟩⟩⟩⟩,⟨rfl,⟨?_,⟨⟨rfl,⟨rfl,⟨rfl,⟨rfl,⟨trivial,⟨trivial,trivial⟩⟩⟩⟩⟩⟩,trivial⟩⟩⟩⟩⟩⟩⟩⟩⟩⟩⟩⟩⟩⟩⟩⟩⟩⟩⟩⟩⟩⟩⟩⟩⟩,fun a5=>?_⟩⟩⟩⟩⟩⟩⟩⟩⟩⟩⟩⟩⟩⟩⟩⟩⟩⟩⟩⟩⟩⟩
 all_goals try and_intros
 all_goals try simp only[a0b.eta,a0a.eta,a2b,a2d] at *
 all_goals first|rfl|trivial|omega|(simp only[decide_eq_true_eq,decide_eq_false_iff_not,a0h,a0d,a2p,List.length_cons,List.length_nil] at *;first|omega|(have:=f6 i1;omega)|exact f7 _ (f5 _ (by omega))|grind)|grind
theorem f6o:∀ n,a4f [b3f n]
 | 0=>⟨⟨a0j b8w rfl (by decide),fun _ h=>absurd h.1 (Nat.not_lt_zero _)⟩,trivial⟩
 | n+1=>by
  have ih:=f6o n
  exact⟨f2x n trivial ⟨a4i,ih.1,trivial⟩ trivial trivial,trivial⟩
theorem a5g:Ctr.OGood a2k :=
 ⟨a0j b8w rfl (by decide),fun p hp=>(f6o (msz p+1)).1.2 p (⟨Nat.lt_succ_self _,hp⟩)⟩
def a1x:Ctr:=⟨c4q,[],⟨(none,[⟨(.st .prog),a0a.mk 1 0 zE []⟩])⟩⟩
def d2x :Nat→a0t:=fun _ => .none
theorem f0b :awp (a2o [] [] [] [] []) (a0i b0h) (d2x ) 0 (a5b (a2o [] [] [] [] []) b0h fun r=>a1e r [⟨(.st .prog),a0a.mk 1 0 zE []⟩]) (a7h b0h []) =
 ((a0a.mk (1:Int) (0:Int) zE [])=(a0a.mk 1 0 zE [])):=by kernel_rfl
theorem e9k(hE:a0p [])(hO:a4f [])(hM:a4x [])(hS:a4p []):Ctr.OGood a1x:=by
 refine⟨a0j d1t rfl (by decide),?_⟩
 show True→a6f prog c4q [] [⟨(.st .prog),a0a.mk 1 0 zE []⟩]
 intro  _
 refine a4e (own:=[]) (wr:=[]) (cl:=[]) (ro:=[]) hE hO hM hS d1t e5e (d2x ) ?_
 rewrite [f0b ]
 refine ?_
 all_goals try and_intros
 all_goals first|rfl|trivial|omega|(simp only[decide_eq_true_eq,decide_eq_false_iff_not,a0h,a0d,a2j,a4q,a4a,a2p] at *;omega)|(simp[a0h,a0d] at *;omega)|grind
theorem a6c:Ctr.OGood a1x:=e9k trivial trivial trivial trivial
def a2g:Ctr:=⟨c7e,[.v (.st .prog), .v (.st .prog)],fun (p:a0a) (q:a0a)=>⟨(some (a0e p≤1048576∧a0e q≤1048576),[⟨(.st .prog),a0a.mk 5 0 zE [p,q]⟩])⟩⟩
def d6c(p:a0a)(q:a0a):Nat→a0t:=fun _ => .none
theorem f4f(p:a0a)(q:a0a):awp (a2o [] [a2k] [] [5,6,7] [] [] [2,3]) (a0i b2c) (d6c p q) 0 (a5b (a2o [] [a2k] [] [5,6,7] [] [] [2,3]) b2c fun r=>a1e r [⟨(.st .prog),a0a.mk 5 0 zE [p,q]⟩]) (a7h b2c [.val ⟨(.st .prog),p⟩, .val ⟨(.st .prog),q⟩]) =
 ((a0e p≤1048576∧(a0e q≤1048576∧(a0a.mk (5:Int) (0:Int) zE ([(a0g p),(a0g q)]))=(a0a.mk 5 0 zE [p,q])))):=by kernel_rfl
theorem f2y(hE:a0p [])(hO:a4f [a2k])(hM:a4x [])(hS:a4p []):Ctr.OGood a2g:=by
 refine⟨a0j d4r rfl (by decide),?_⟩
 show ∀ (p:a0a) (q:a0a),(a0e p≤1048576∧a0e q≤1048576)→a6f prog c7e [.val ⟨(.st .prog),p⟩, .val ⟨(.st .prog),q⟩] [⟨(.st .prog),a0a.mk 5 0 zE [p,q]⟩]
 intro p q hp
 refine a4e (own:=[5,6,7]) (wr:=[]) (cl:=[]) (ro:=[2,3]) hE hO hM hS d4r e8b (d6c p q) ?_
 rewrite [f4f p q]
 refine⟨?_,⟨?_,?_⟩⟩
 all_goals try and_intros
 all_goals try simp only[a0b.eta,a0a.eta,a2b,a2d] at *
 all_goals first|rfl|trivial|omega|(simp only[decide_eq_true_eq,decide_eq_false_iff_not,a0h,a0d,a2j,a4q,a4a,a2p] at *;omega)|(simp[a0h,a0d] at *;omega)|grind
theorem a6u:Ctr.OGood a2g:=f2y trivial ⟨a5g,trivial⟩ trivial trivial
def a2v:Ctr:=⟨d0z,[.v (.st .expr), .v (.st .prog), .v (.st .prog)],fun (c:a0b) (p:a0a) (q:a0a)=>⟨(some (a0q c≤1048576∧a0e p≤1048576∧a0e q≤1048576),[⟨(.st .prog),a0a.mk 6 0 c [p,q]⟩])⟩⟩
def d9p(c:a0b)(p:a0a)(q:a0a):Nat→a0t:=fun _ => .none
theorem f6i(c:a0b)(p:a0a)(q:a0a):awp (a2o [] [a2k,a1o] [] [7,8,9,10] [] [] [3,4,5]) (a0i b4n) (d9p c p q) 0 (a5b (a2o [] [a2k,a1o] [] [7,8,9,10] [] [] [3,4,5]) b4n fun r=>a1e r [⟨(.st .prog),a0a.mk 6 0 c [p,q]⟩]) (a7h b4n [.val ⟨(.st .expr),c⟩, .val ⟨(.st .prog),p⟩, .val ⟨(.st .prog),q⟩]) =
 ((a0q c≤1048576∧(a0e p≤1048576∧(a0e q≤1048576∧(a0a.mk (6:Int) (0:Int) (a0w c) ([(a0g p),(a0g q)]))=(a0a.mk 6 0 c [p,q]))))):=by kernel_rfl
theorem f5n(hE:a0p [])(hO:a4f [a2k,a1o])(hM:a4x [])(hS:a4p []):Ctr.OGood a2v:=by
 refine⟨a0j d8t rfl (by decide),?_⟩
 show ∀ (c:a0b) (p:a0a) (q:a0a),(a0q c≤1048576∧a0e p≤1048576∧a0e q≤1048576)→a6f prog d0z [.val ⟨(.st .expr),c⟩, .val ⟨(.st .prog),p⟩, .val ⟨(.st .prog),q⟩] [⟨(.st .prog),a0a.mk 6 0 c [p,q]⟩]
 intro c p q hp
 refine a4e (own:=[7,8,9,10]) (wr:=[]) (cl:=[]) (ro:=[3,4,5]) hE hO hM hS d8t f1e (d9p c p q) ?_
 rewrite [f6i c p q]
 refine⟨?_,⟨?_,⟨?_,?_⟩⟩⟩
 all_goals try and_intros
 all_goals try simp only[a0b.eta,a0a.eta,a2b,a2d] at *
 all_goals first|rfl|trivial|omega|(simp only[decide_eq_true_eq,decide_eq_false_iff_not,a0h,a0d,a2j,a4q,a4a,a2p] at *;omega)|(simp[a0h,a0d] at *;omega)|grind
theorem b0y:Ctr.OGood a2v:=f5n trivial ⟨a5g,a4i,trivial⟩ trivial trivial
def a1l:Ctr:=⟨c3f,[.v (.st .expr), .v (.st .prog)],fun (c:a0b) (p:a0a)=>⟨(some (a0q c≤1048576∧a0e p≤1048576),[⟨(.st .prog),a0a.mk 7 0 c [p]⟩])⟩⟩
def d0u(c:a0b)(p:a0a):Nat→a0t:=fun _ => .none
theorem e6h(c:a0b)(p:a0a):awp (a2o [] [a2k,a1o] [] [5,6,7] [] [] [2,3]) (a0i a8r) (d0u c p) 0 (a5b (a2o [] [a2k,a1o] [] [5,6,7] [] [] [2,3]) a8r fun r=>a1e r [⟨(.st .prog),a0a.mk 7 0 c [p]⟩]) (a7h a8r [.val ⟨(.st .expr),c⟩, .val ⟨(.st .prog),p⟩]) =
 ((a0q c≤1048576∧(a0e p≤1048576∧(a0a.mk (7:Int) (0:Int) (a0w c) ([(a0g p)]))=(a0a.mk 7 0 c [p])))):=by kernel_rfl
theorem e6a(hE:a0p [])(hO:a4f [a2k,a1o])(hM:a4x [])(hS:a4p []):Ctr.OGood a1l:=by
 refine⟨a0j c9o rfl (by decide),?_⟩
 show ∀ (c:a0b) (p:a0a),(a0q c≤1048576∧a0e p≤1048576)→a6f prog c3f [.val ⟨(.st .expr),c⟩, .val ⟨(.st .prog),p⟩] [⟨(.st .prog),a0a.mk 7 0 c [p]⟩]
 intro c p hp
 refine a4e (own:=[5,6,7]) (wr:=[]) (cl:=[]) (ro:=[2,3]) hE hO hM hS c9o e1n (d0u c p) ?_
 rewrite [e6h c p]
 refine⟨?_,⟨?_,?_⟩⟩
 all_goals try and_intros
 all_goals try simp only[a0b.eta,a0a.eta,a2b,a2d] at *
 all_goals first|rfl|trivial|omega|(simp only[decide_eq_true_eq,decide_eq_false_iff_not,a0h,a0d,a2j,a4q,a4a,a2p] at *;omega)|(simp[a0h,a0d] at *;omega)|grind
theorem a4m:Ctr.OGood a1l:=e6a trivial ⟨a5g,a4i,trivial⟩ trivial trivial
end
end Go.Proofs.Ytlaoejdeanljgaa

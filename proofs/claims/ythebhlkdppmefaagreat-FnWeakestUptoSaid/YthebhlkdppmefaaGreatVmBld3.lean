/- Programs that the reference builds. Printed by vmk.py. -/
import Derived.Test.YthebhlkdppmefaaGreatVmUse
import Derived.Test.YthebhlkdppmefaaGreatVmLib
import Derived.Test.YthebhlkdppmefaaGreatVmSz
import Derived.Test.YthebhlkdppmefaaGreatVmBld
import Derived.Test.YthebhlkdppmefaaGreatVmBld2
set_option linter.unusedVariables false
set_option linter.unusedSimpArgs false
set_option linter.unusedSectionVars false
set_option maxRecDepth 4000
set_option maxHeartbeats 4000000
namespace Go.Proofs.YthebhlkdppmefaaGreat
noncomputable section
def b6i(n:Nat):Ctr:=⟨c5r,[.r (.st .prog)],fun (p:a0d)=>⟨(some (msz p<n∧a2e p≤1048576),[⟨(.st .prog),p⟩])⟩⟩
def a5j:Ctr:=⟨c5r,[.r (.st .prog)],fun (p:a0d)=>⟨(some (a2e p≤1048576),[⟨(.st .prog),p⟩])⟩⟩
def e5r(p:a0d):Nat→a0p:=(fun zb=>if Nat.beq zb 0 then .mk (Nat) (fun i=>i≤p.kids.length) (fun i=>p.kids.length - i) [] [1,5,6,7,8,9,10,11,12,13,14,15,16,17] (fun i=>[(4, .imm ⟨(.int .i64),((i:Int):Int)⟩)]) [0,2,4,18,19,20,21,22,23,24,25,26,27,28,29,30,31,32,33,34,35,36,37,38,39] (fun i=>[(3, .box [.imm ⟨(.int .i64),(p.kind:Int)⟩, .imm ⟨(.int .i64),(p.num:Int)⟩, .imm ⟨(.int .i64),(p.cond.kind:Int)⟩, .imm ⟨(.int .i64),(p.cond.num:Int)⟩, .tree 3400, .tree 3500]),(3400, .tree (.st .expr) (p.cond.kids:List a0b)),(3500, .tree (.st .prog) (p.kids.take i:List a0d))]) [] [] (fun i=>fun _ => .none) else .none)
theorem g7z(n:Nat)(p:a0d):awp (a2s [] [a2v,b6i n] [] [16,35,36,37] []) (a0j b5e) (e5r p) 0 (a5k (a2s [] [a2v,b6i n] [] [16,35,36,37] []) b5e fun r=>a1f r [⟨(.st .prog),p⟩]) (a8e b5e [.ref ⟨(.st .prog),p⟩]) =
 ((a0c p.kind →
 (a0c p.num →
 (p=p∧(p=p∧(p.kind=p.kind∧(p.kind=p.kind∧(p=p∧(p=p∧(p.num=p.num∧(p.num=p.num∧(p=p∧(p=p∧(p.cond=p.cond∧(a2m p.cond≤1048576∧(p=p∧(p=p∧(p.kind=p.kind∧(p.kind=p.kind∧(p=p∧(p=p∧(p.num=p.num∧(p.num=p.num∧((∃ i1:Nat,(i1≤p.kids.length∧((p=p∧(True∧(True∧((0:Int)=(i1:Int)∧True))))∧((p.kind=p.kind∧(p.num=p.num∧(p.cond.kind=p.cond.kind∧(p.cond.num=p.cond.num∧(True∧(True∧True))))))∧(p.cond.kids=p.cond.kids∧((p.kids.take i1)=[]∧(((0:Int)=(0:Int)∧((0:Int)=(0:Int)∧((0:Int)=(0:Int)∧((0:Int)=(0:Int)∧(True∧(True∧True))))))∧True)))))))∧(∀ i1:Nat,(i1≤p.kids.length →
 (p.kids.length≤140737488355328 →
 (a0c ((p.kids.length:Int)) →
 (((decide ((i1:Int)<((p.kids.length:Int))))=true →
 (p.kids.length≤140737488355328 →
 (a0c (i1:Int) →
 (a0k (i1:Int) p.kids.length∧(((3:Nat)=3∧(5:Nat)=5)∧((3500:Nat)=3500∧(p=p∧(p=p∧(p.kids=p.kids∧(p.kids=p.kids∧((i1:Int)=(i1:Int)∧(a0k (i1:Int) p.kids.length∧((p.kids.getD i1 zP)=(p.kids.getD i1 zP)∧((msz (p.kids.getD i1 zP)<n∧a2e (p.kids.getD i1 zP)≤1048576)∧(((3:Nat)=3∧(5:Nat)=5)∧((3500:Nat)=3500∧(((3:Nat)=3∧(5:Nat)=5)∧((3500:Nat)=3500∧(a1p ((p.kids.take i1).length+([(a1a (p.kids.getD i1 zP))]).length) 80∧(a0c ((i1:Int)+(1:Int))∧(∃ i2:Nat,(i2≤p.kids.length∧(p.kids.length - i2<p.kids.length - i1∧((p=p∧(True∧(True∧(((i1:Int)+(1:Int))=(i2:Int)∧True))))∧((p.kind=p.kind∧(p.num=p.num∧(p.cond.kind=p.cond.kind∧(p.cond.num=p.cond.num∧(True∧(True∧True))))))∧(p.cond.kids=p.cond.kids∧(((p.kids.take i1)++([(a1a (p.kids.getD i1 zP))]))=(p.kids.take i2)∧(((0:Int)=(0:Int)∧((0:Int)=(0:Int)∧((0:Int)=(0:Int)∧((0:Int)=(0:Int)∧(True∧(True∧True))))))∧True))))))))))))))))))))))))))))∧((decide ((i1:Int)<((p.kids.length:Int))))=false →
 (a0d.mk p.kind p.num (a0b.mk p.cond.kind p.cond.num p.cond.kids) (p.kids.take i1))=p)))))))))))))))))))))))))))))):=by kernel_rfl
theorem g6f(n:Nat)(hE:a0o [])(hO:a5c [a2v,b6i n])(hM:a5s [])(hS:a5d []):Ctr.OGood (b6i (n+1)):=by
 refine⟨a0l c3a rfl (by decide),?_⟩
 show ∀ (p:a0d),(msz p<n+1∧a2e p≤1048576)→a6q prog c5r [.ref ⟨(.st .prog),p⟩] [⟨(.st .prog),p⟩]
 intro p hp
 refine a4j (own:=[16,35,36,37]) (wr:=[]) (cl:=[]) (ro:=[]) hE hO hM hS c3a g0q (e5r p) ?_
 rewrite [g7z n p]
 rw[h8k] at hp
 have f0:=b8x p
 have f1:=fun i (h:i<p.kids.length)=>g2g a2e zP p.kids i h
 have f2:=fun i (h:i<p.kids.length)=>a3d zP p.kids i h
 have f3:=fun i (h:i<p.kids.length)=>a8f zP p.kids i h
 have f4:p.kids.take 0=[]:=by simp
 have f5:∀ i,p.kids.length≤i→p.kids.take i=p.kids:=fun i h=>List.take_of_length_le h
 have f6:∀ i,(p.kids.take i).length≤p.kids.length:=fun i=>by simp;omega
 have f7:∀ ks,ks=p.kids→a0d.mk p.kind p.num p.cond ks=p:=fun ks h=>by subst h;cases p;rfl
 refine fun a0=>fun a1=>⟨rfl,⟨rfl,⟨rfl,⟨rfl,⟨rfl,⟨rfl,⟨rfl,⟨rfl,⟨rfl,⟨rfl,⟨rfl,⟨?_,⟨rfl,⟨rfl,⟨rfl,⟨rfl,⟨rfl,⟨rfl,⟨rfl,⟨rfl,⟨⟨0,⟨?_,⟨⟨rfl,⟨trivial,⟨trivial,⟨?_,trivial⟩⟩⟩⟩,⟨⟨rfl,⟨rfl,⟨rfl,⟨rfl,⟨trivial,⟨trivial,trivial⟩⟩⟩⟩⟩⟩,⟨rfl,⟨?_,⟨⟨rfl,⟨rfl,⟨rfl,⟨rfl,⟨trivial,⟨trivial,trivial⟩⟩⟩⟩⟩⟩,trivial⟩⟩⟩⟩⟩⟩⟩,fun i1=>fun a2=>fun a3=>fun a4=>⟨fun a5=>fun a6=>fun a7=>⟨?_,⟨⟨?_,?_⟩,⟨?_,⟨rfl,⟨rfl,⟨rfl,⟨rfl,⟨rfl,⟨?_,⟨rfl,⟨?_,⟨⟨?_,?_⟩,⟨?_,⟨⟨?_,?_⟩,⟨?_,⟨?_,⟨?_,⟨i1+1,⟨?_,⟨?_,⟨⟨rfl,⟨trivial,⟨trivial,⟨?_,trivial⟩⟩⟩⟩,⟨⟨rfl,⟨rfl,⟨rfl,⟨rfl,⟨trivial,⟨trivial,trivial⟩⟩⟩⟩⟩⟩,⟨rfl,⟨?_,⟨⟨rfl,⟨rfl,⟨rfl,⟨rfl,⟨trivial,⟨trivial,trivial⟩⟩⟩⟩⟩⟩,trivial⟩⟩⟩⟩⟩⟩⟩⟩⟩⟩⟩⟩⟩⟩⟩⟩⟩⟩⟩⟩⟩⟩⟩⟩⟩,fun a5=>?_⟩⟩⟩⟩⟩⟩⟩⟩⟩⟩⟩⟩⟩⟩⟩⟩⟩⟩⟩⟩⟩⟩
 all_goals try and_intros
 all_goals try simp only[a0b.eta,a0d.eta,a1g.eta,a0e.eta,a2u,a2z,a2o,a2f] at *
 all_goals first|rfl|trivial|omega|(simp only[decide_eq_true_eq,decide_eq_false_iff_not,a0k,a0c,a1p,List.length_cons,List.length_nil] at *;first|omega|(have:=f6 i1;omega)|exact f7 _ (f5 _ (by omega))|grind)|grind
theorem h0k:∀ n,a5c [b6i n]
 | 0=>⟨⟨a0l c3a rfl (by decide),fun _ h=>absurd h.1 (Nat.not_lt_zero _)⟩,trivial⟩
 | n+1=>by
  have ih:=h0k n
  exact⟨g6f n trivial ⟨b1r,ih.1,trivial⟩ trivial trivial,trivial⟩
theorem c4u:Ctr.OGood a5j :=
 ⟨a0l c3a rfl (by decide),fun p hp=>(h0k (msz p+1)).1.2 p (⟨Nat.lt_succ_self _,hp⟩)⟩
def a5p:Ctr:=⟨d1c,[],⟨(none,[⟨(.st .prog),a0d.mk 1 0 zE []⟩])⟩⟩
def e1n :Nat→a0p:=fun _ => .none
theorem g2x :awp (a2s [] [] [] [] []) (a0j b3a) (e1n ) 0 (a5k (a2s [] [] [] [] []) b3a fun r=>a1f r [⟨(.st .prog),a0d.mk 1 0 zE []⟩]) (a8e b3a []) =
 ((a0d.mk (1:Int) (0:Int) zE [])=(a0d.mk 1 0 zE [])):=by kernel_rfl
theorem g2b(hE:a0o [])(hO:a5c [])(hM:a5s [])(hS:a5d []):Ctr.OGood a5p:=by
 refine⟨a0l e0f rfl (by decide),?_⟩
 show True→a6q prog d1c [] [⟨(.st .prog),a0d.mk 1 0 zE []⟩]
 intro  _
 refine a4j (own:=[]) (wr:=[]) (cl:=[]) (ro:=[]) hE hO hM hS e0f f6y (e1n ) ?_
 rewrite [g2x ]
 refine ?_
 all_goals try and_intros
 all_goals first|rfl|trivial|omega|(simp only[decide_eq_true_eq,decide_eq_false_iff_not,a0k,a0c,a2k,a8i,a5r,a1p] at *;omega)|(simp[a0k,a0c] at *;omega)|grind
theorem d3d:Ctr.OGood a5p:=g2b trivial trivial trivial trivial
def b8l:Ctr:=⟨d4e,[.v (.st .prog), .v (.st .prog)],fun (p:a0d) (q:a0d)=>⟨(some (a2e p≤1048576∧a2e q≤1048576),[⟨(.st .prog),a0d.mk 5 0 zE [p,q]⟩])⟩⟩
def e5s(p:a0d)(q:a0d):Nat→a0p:=fun _ => .none
theorem g8a(p:a0d)(q:a0d):awp (a2s [] [a5j] [] [5,6,7] [] [] [2,3]) (a0j b5f) (e5s p q) 0 (a5k (a2s [] [a5j] [] [5,6,7] [] [] [2,3]) b5f fun r=>a1f r [⟨(.st .prog),a0d.mk 5 0 zE [p,q]⟩]) (a8e b5f [.val ⟨(.st .prog),p⟩, .val ⟨(.st .prog),q⟩]) =
 ((a2e p≤1048576∧(a2e q≤1048576∧(a0d.mk (5:Int) (0:Int) zE ([(a1a p),(a1a q)]))=(a0d.mk 5 0 zE [p,q])))):=by kernel_rfl
theorem g6g(hE:a0o [])(hO:a5c [a5j])(hM:a5s [])(hS:a5d []):Ctr.OGood b8l:=by
 refine⟨a0l e3p rfl (by decide),?_⟩
 show ∀ (p:a0d) (q:a0d),(a2e p≤1048576∧a2e q≤1048576)→a6q prog d4e [.val ⟨(.st .prog),p⟩, .val ⟨(.st .prog),q⟩] [⟨(.st .prog),a0d.mk 5 0 zE [p,q]⟩]
 intro p q hp
 refine a4j (own:=[5,6,7]) (wr:=[]) (cl:=[]) (ro:=[2,3]) hE hO hM hS e3p g0r (e5s p q) ?_
 rewrite [g8a p q]
 refine⟨?_,⟨?_,?_⟩⟩
 all_goals try and_intros
 all_goals try simp only[a0b.eta,a0d.eta,a1g.eta,a0e.eta,a2u,a2z,a2o,a2f] at *
 all_goals first|rfl|trivial|omega|(simp only[decide_eq_true_eq,decide_eq_false_iff_not,a0k,a0c,a2k,a8i,a5r,a1p] at *;omega)|(simp[a0k,a0c] at *;omega)|grind
theorem f7x:Ctr.OGood b8l:=g6g trivial ⟨c4u,trivial⟩ trivial trivial
def c0b:Ctr:=⟨d8w,[.v (.st .expr), .v (.st .prog), .v (.st .prog)],fun (c:a0b) (p:a0d) (q:a0d)=>⟨(some (a2m c≤1048576∧a2e p≤1048576∧a2e q≤1048576),[⟨(.st .prog),a0d.mk 6 0 c [p,q]⟩])⟩⟩
def f0c(c:a0b)(p:a0d)(q:a0d):Nat→a0p:=fun _ => .none
theorem h0f(c:a0b)(p:a0d)(q:a0d):awp (a2s [] [a5j,a2v] [] [7,8,9,10] [] [] [3,4,5]) (a0j b7n) (f0c c p q) 0 (a5k (a2s [] [a5j,a2v] [] [7,8,9,10] [] [] [3,4,5]) b7n fun r=>a1f r [⟨(.st .prog),a0d.mk 6 0 c [p,q]⟩]) (a8e b7n [.val ⟨(.st .expr),c⟩, .val ⟨(.st .prog),p⟩, .val ⟨(.st .prog),q⟩]) =
 ((a2m c≤1048576∧(a2e p≤1048576∧(a2e q≤1048576∧(a0d.mk (6:Int) (0:Int) (a0n c) ([(a1a p),(a1a q)]))=(a0d.mk 6 0 c [p,q]))))):=by kernel_rfl
theorem g9g(hE:a0o [])(hO:a5c [a5j,a2v])(hM:a5s [])(hS:a5d []):Ctr.OGood c0b:=by
 refine⟨a0l e9h rfl (by decide),?_⟩
 show ∀ (c:a0b) (p:a0d) (q:a0d),(a2m c≤1048576∧a2e p≤1048576∧a2e q≤1048576)→a6q prog d8w [.val ⟨(.st .expr),c⟩, .val ⟨(.st .prog),p⟩, .val ⟨(.st .prog),q⟩] [⟨(.st .prog),a0d.mk 6 0 c [p,q]⟩]
 intro c p q hp
 refine a4j (own:=[7,8,9,10]) (wr:=[]) (cl:=[]) (ro:=[3,4,5]) hE hO hM hS e9h g4e (f0c c p q) ?_
 rewrite [h0f c p q]
 refine⟨?_,⟨?_,⟨?_,?_⟩⟩⟩
 all_goals try and_intros
 all_goals try simp only[a0b.eta,a0d.eta,a1g.eta,a0e.eta,a2u,a2z,a2o,a2f] at *
 all_goals first|rfl|trivial|omega|(simp only[decide_eq_true_eq,decide_eq_false_iff_not,a0k,a0c,a2k,a8i,a5r,a1p] at *;omega)|(simp[a0k,a0c] at *;omega)|grind
theorem g1m:Ctr.OGood c0b:=g9g trivial ⟨c4u,b1r,trivial⟩ trivial trivial
def b3w:Ctr:=⟨c8u,[.v (.st .expr), .v (.st .prog)],fun (c:a0b) (p:a0d)=>⟨(some (a2m c≤1048576∧a2e p≤1048576),[⟨(.st .prog),a0d.mk 7 0 c [p]⟩])⟩⟩
def d8p(c:a0b)(p:a0d):Nat→a0p:=fun _ => .none
theorem f8s(c:a0b)(p:a0d):awp (a2s [] [a5j,a2v] [] [5,6,7] [] [] [2,3]) (a0j b1i) (d8p c p) 0 (a5k (a2s [] [a5j,a2v] [] [5,6,7] [] [] [2,3]) b1i fun r=>a1f r [⟨(.st .prog),a0d.mk 7 0 c [p]⟩]) (a8e b1i [.val ⟨(.st .expr),c⟩, .val ⟨(.st .prog),p⟩]) =
 ((a2m c≤1048576∧(a2e p≤1048576∧(a0d.mk (7:Int) (0:Int) (a0n c) ([(a1a p)]))=(a0d.mk 7 0 c [p])))):=by kernel_rfl
theorem f8h(hE:a0o [])(hO:a5c [a5j,a2v])(hM:a5s [])(hS:a5d []):Ctr.OGood b3w:=by
 refine⟨a0l d7c rfl (by decide),?_⟩
 show ∀ (c:a0b) (p:a0d),(a2m c≤1048576∧a2e p≤1048576)→a6q prog c8u [.val ⟨(.st .expr),c⟩, .val ⟨(.st .prog),p⟩] [⟨(.st .prog),a0d.mk 7 0 c [p]⟩]
 intro c p hp
 refine a4j (own:=[5,6,7]) (wr:=[]) (cl:=[]) (ro:=[2,3]) hE hO hM hS d7c f2g (d8p c p) ?_
 rewrite [f8s c p]
 refine⟨?_,⟨?_,?_⟩⟩
 all_goals try and_intros
 all_goals try simp only[a0b.eta,a0d.eta,a1g.eta,a0e.eta,a2u,a2z,a2o,a2f] at *
 all_goals first|rfl|trivial|omega|(simp only[decide_eq_true_eq,decide_eq_false_iff_not,a0k,a0c,a2k,a8i,a5r,a1p] at *;omega)|(simp[a0k,a0c] at *;omega)|grind
theorem f1c:Ctr.OGood b3w:=f8h trivial ⟨c4u,b1r,trivial⟩ trivial trivial
end
end Go.Proofs.YthebhlkdppmefaaGreat

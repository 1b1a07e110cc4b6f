/- Sz, To, Eq, OwnFam, OwnFam2, Held. -/
import Derived.Test.YtlaoejdeanljgaaVmUse
import Derived.Test.YtlaoejdeanljgaaVmLib
set_option linter.unusedVariables false
set_option linter.unusedSimpArgs false
set_option linter.unusedSectionVars false
set_option maxRecDepth 4000
set_option maxHeartbeats 4000000
namespace Go.Proofs.Ytlaoejdeanljgaa
noncomputable section
mutual
def a0l:a0c→Nat
 | ⟨_,_,kids⟩=>kids.length+b4d kids
def b4d:List a0c→Nat
 | []=>0
 | k::ks=>a0l k+b4d ks
end
theorem d4v:∀ xs,b4d xs=szL a0l xs
 | []=>rfl
 | x::xs=>by rw[b4d,szL,d4v xs]
theorem c0p(x:a0c):a0l x=(x.kids.length+szL a0l x.kids):=by
 cases x;simp[a0l,d4v];try omega
def b5m(n:Nat):Ctr:=⟨c2e,[.v (.st .expr), .v (.int .i64)],fun (x:a0c) (left:Int)=>⟨(some (msz x<n∧0≤left∧left≤1048576),[⟨(.int .i64),szR (a0l x) left⟩])⟩⟩
def c1w:Ctr:=⟨c2e,[.v (.st .expr), .v (.int .i64)],fun (x:a0c) (left:Int)=>⟨(some (0≤left∧left≤1048576),[⟨(.int .i64),szR (a0l x) left⟩])⟩⟩
def b2y(n:Nat):Ctr:=⟨c5g,[.v (.slice (.st .expr)), .v (.int .i64)],fun (xs:List a0c) (left:Int)=>⟨(some (msz xs<n∧0≤left∧left≤1048576),[⟨(.int .i64),szR (xs.length+szL a0l xs) left⟩])⟩⟩
def d9u(x:a0c)(left:Int):Nat→a0s:=fun _ => .none
theorem f8u(n:Nat)(x:a0c)(left:Int):awp (a0u [b2y n] [] [] [2]) (a0k b1s) (d9u x left) 0 (a1b (a0u [b2y n] [] [] [2]) b1s fun r=>a1d r [⟨(.int .i64),szR (a0l x) left⟩]) (a0p b1s [.val ⟨(.st .expr),x⟩, .val ⟨(.int .i64),left⟩]) =
 ((x.kids.length≤140737488355328 →
 ((msz x.kids<n∧0≤left∧left≤1048576)∧(a0d (szR (x.kids.length+szL a0l x.kids) left) →
 (((decide ((szR (x.kids.length+szL a0l x.kids) left)<(0:Int)))=true →
 (-1:Int)=(szR (a0l x) left))∧((decide ((szR (x.kids.length+szL a0l x.kids) left)<(0:Int)))=false →
 (szR (x.kids.length+szL a0l x.kids) left)=(szR (a0l x) left))))))):=by kernel_rfl
theorem f7y(n:Nat)(hE:a0m [b2y n]):Ctr.Good (b5m (n+1)):=by
 refine⟨a0j b9t rfl (by decide),?_⟩
 show ∀ (x:a0c) (left:Int),(msz x<n+1∧0≤left∧left≤1048576)→a0z prog c2e [.val ⟨(.st .expr),x⟩, .val ⟨(.int .i64),left⟩] (·=[⟨(.int .i64),szR (a0l x) left⟩])
 intro x left hp
 refine a0x (wr:=[]) (cl:=[]) (ro:=[2]) hE b9t e9j (d9u x left) ?_
 rewrite [f8u n x left]
 have f0:=a5k (x.kids.length+szL a0l x.kids) (left)
 have fz:=a5k ((x.kids.length+szL a0l x.kids)) left
 have f0k:=a5n x
 refine fun a0=>⟨?_,fun a1=>⟨fun a2=>?_,fun a2=>?_⟩⟩
 all_goals try and_intros
 all_goals try rw[c0p]
 all_goals first|rfl|trivial|omega|(simp only[decide_eq_true_eq,decide_eq_false_iff_not,a0g,a0d,a1z,a2w,a1w,a1x] at *;omega)|(simp[a0g,a0d] at *;omega)|grind
def d6a(xs:List a0c)(left:Int):Nat→a0s:=(fun zb=>if Nat.beq zb 0 then .mk (Nat) (fun k=>k≤xs.length∧(xs.length+szL a0l (xs.take k):Int)≤left) (fun k=>xs.length - k) [] [2,3,6,7,8,9,10,11] (fun k=>[(5, .imm ⟨(.int .i64),((k:Int):Int)⟩),(1, .imm ⟨(.int .i64),(left - (xs.length+szL a0l (xs.take k):Int):Int)⟩)]) [0,1,4,5,12,13,14,15,16,17,18,19,20,21,22,23,24,25,26] (fun k=>[]) [] [] (fun k=>fun _ => .none) else .none)
theorem f5x(n:Nat)(xs:List a0c)(left:Int):awp (a0u [b5m n]) (a0k a9r) (d6a xs left) 0 (a1b (a0u [b5m n]) a9r fun r=>a1d r [⟨(.int .i64),szR (xs.length+szL a0l xs) left⟩]) (a0p a9r [.val ⟨(.slice (.st .expr)),xs⟩, .val ⟨(.int .i64),left⟩]) =
 ((a0d ((xs.length:Int)) →
 (a0d (left - ((xs.length:Int)))∧(((decide ((left - ((xs.length:Int)))<(0:Int)))=true →
 (-1:Int)=(szR (xs.length+szL a0l xs) left))∧((decide ((left - ((xs.length:Int)))<(0:Int)))=false →
 ((∃ k1:Nat,((k1≤xs.length∧(xs.length+szL a0l (xs.take k1):Int)≤left)∧((xs=xs∧((left - ((xs.length:Int)))=(left - (xs.length+szL a0l (xs.take k1):Int))∧((0:Int)=(k1:Int)∧True)))∧True)))∧(∀ k1:Nat,((k1≤xs.length∧(xs.length+szL a0l (xs.take k1):Int)≤left) →
 (a0d ((xs.length:Int)) →
 (((decide ((k1:Int)<((xs.length:Int))))=true →
 (a0g (k1:Int) xs.length∧((msz (xs.getD k1 zE)<n∧0≤(left - (xs.length+szL a0l (xs.take k1):Int))∧(left - (xs.length+szL a0l (xs.take k1):Int))≤1048576)∧(a0d (szR (a0l (xs.getD k1 zE)) (left - (xs.length+szL a0l (xs.take k1):Int))) →
 (((decide ((szR (a0l (xs.getD k1 zE)) (left - (xs.length+szL a0l (xs.take k1):Int)))<(0:Int)))=true →
 (-1:Int)=(szR (xs.length+szL a0l xs) left))∧((decide ((szR (a0l (xs.getD k1 zE)) (left - (xs.length+szL a0l (xs.take k1):Int)))<(0:Int)))=false →
 (a0d ((k1:Int)+(1:Int))∧(∃ k2:Nat,((k2≤xs.length∧(xs.length+szL a0l (xs.take k2):Int)≤left)∧(xs.length - k2<xs.length - k1∧((xs=xs∧((szR (a0l (xs.getD k1 zE)) (left - (xs.length+szL a0l (xs.take k1):Int)))=(left - (xs.length+szL a0l (xs.take k2):Int))∧(((k1:Int)+(1:Int))=(k2:Int)∧True)))∧True)))))))))))∧((decide ((k1:Int)<((xs.length:Int))))=false →
 (left - (xs.length+szL a0l (xs.take k1):Int))=(szR (xs.length+szL a0l xs) left)))))))))))):=by kernel_rfl
theorem f4p(n:Nat)(hE:a0m [b5m n]):Ctr.Good (b2y (n+1)):=by
 refine⟨a0j c3q rfl (by decide),?_⟩
 show ∀ (xs:List a0c) (left:Int),(msz xs<n+1∧0≤left∧left≤1048576)→a0z prog c5g [.val ⟨(.slice (.st .expr)),xs⟩, .val ⟨(.int .i64),left⟩] (·=[⟨(.int .i64),szR (xs.length+szL a0l xs) left⟩])
 intro xs left hp
 refine a0x (wr:=[]) (cl:=[]) (ro:=[]) hE c3q e5r (d6a xs left) ?_
 rewrite [f5x n xs left]
 have f0:=a5k (xs.length+szL a0l xs) left
 have f1:=b4c a0l xs
 refine fun a0=>⟨?_,⟨fun a1=>?_,fun a1=>⟨⟨0,⟨?_,⟨⟨rfl,⟨?_,⟨?_,trivial⟩⟩⟩,trivial⟩⟩⟩,fun k1 a2=>have b2x0:=a6v a0l zE xs k1;have b2x1:=a2l a0l xs k1;have b2x2:=a2l a0l xs (k1+1);have b2x3:=b0h a0l xs k1;have b2x4:=a1i zE xs k1;have b2x5:=a5k (a0l (xs.getD k1 zE)) (left - (xs.length+szL a0l (xs.take k1):Int));fun a3=>⟨fun a4=>⟨?_,⟨?_,fun a5=>⟨fun a6=>?_,fun a6=>⟨?_,⟨k1+1,⟨?_,⟨?_,⟨⟨rfl,⟨?_,⟨?_,trivial⟩⟩⟩,trivial⟩⟩⟩⟩⟩⟩⟩⟩,fun a4=>?_⟩⟩⟩⟩
 all_goals try and_intros
 all_goals first|rfl|trivial|omega|(simp only[decide_eq_true_eq,decide_eq_false_iff_not,a0g,a0d,a1z,a2w,a1w,a1x] at *;omega)|(simp[a0g,a0d] at *;omega)|grind
theorem e7v :∀ n,a0m [b5m n,b2y n]
 | 0=>⟨⟨a0j b9t rfl (by decide),fun _ _ h=>absurd h.1 (Nat.not_lt_zero _)⟩,⟨a0j c3q rfl (by decide),fun _ _ h=>absurd h.1 (Nat.not_lt_zero _)⟩,trivial⟩
 | n+1=>by
  have ih:=e7v  n
  exact⟨f7y n ⟨ih.2.1,trivial⟩,f4p n ⟨ih.1,trivial⟩,trivial⟩
theorem f0l :Ctr.Good c1w :=
 ⟨a0j b9t rfl (by decide),fun x left hp=>(e7v  (msz x+1)).1.2 x left (⟨Nat.lt_succ_self _,hp⟩)⟩
mutual
def a0i:a0a→Nat
 | ⟨_,_,cond,kids⟩=>a0l cond+kids.length+b4e kids
def b4e:List a0a→Nat
 | []=>0
 | k::ks=>a0i k+b4e ks
end
theorem d4w:∀ xs,b4e xs=szL a0i xs
 | []=>rfl
 | x::xs=>by rw[b4e,szL,d4w xs]
theorem a9k(x:a0a):a0i x=(a0l x.cond)+(x.kids.length+szL a0i x.kids):=by
 cases x;simp[a0i,d4w];try omega
def b5n(n:Nat):Ctr:=⟨c2f,[.v (.st .prog), .v (.int .i64)],fun (x:a0a) (left:Int)=>⟨(some (msz x<n∧0≤left∧left≤1048576),[⟨(.int .i64),szR (a0i x) left⟩])⟩⟩
def c1x:Ctr:=⟨c2f,[.v (.st .prog), .v (.int .i64)],fun (x:a0a) (left:Int)=>⟨(some (0≤left∧left≤1048576),[⟨(.int .i64),szR (a0i x) left⟩])⟩⟩
def b2z(n:Nat):Ctr:=⟨c5h,[.v (.slice (.st .prog)), .v (.int .i64)],fun (xs:List a0a) (left:Int)=>⟨(some (msz xs<n∧0≤left∧left≤1048576),[⟨(.int .i64),szR (xs.length+szL a0i xs) left⟩])⟩⟩
def d9v(x:a0a)(left:Int):Nat→a0s:=fun _ => .none
theorem f8v(n:Nat)(x:a0a)(left:Int):awp (a0u [c1w,b2z n] [] [] [2]) (a0k b1t) (d9v x left) 0 (a1b (a0u [c1w,b2z n] [] [] [2]) b1t fun r=>a1d r [⟨(.int .i64),szR (a0i x) left⟩]) (a0p b1t [.val ⟨(.st .prog),x⟩, .val ⟨(.int .i64),left⟩]) =
 (((0≤left∧left≤1048576)∧(a0d (szR (a0l x.cond) left) →
 (((decide ((szR (a0l x.cond) left)<(0:Int)))=true →
 (-1:Int)=(szR (a0i x) left))∧((decide ((szR (a0l x.cond) left)<(0:Int)))=false →
 (x.kids.length≤140737488355328 →
 ((msz x.kids<n∧0≤(szR (a0l x.cond) left)∧(szR (a0l x.cond) left)≤1048576)∧(a0d (szR (x.kids.length+szL a0i x.kids) (szR (a0l x.cond) left)) →
 (((decide ((szR (x.kids.length+szL a0i x.kids) (szR (a0l x.cond) left))<(0:Int)))=true →
 (-1:Int)=(szR (a0i x) left))∧((decide ((szR (x.kids.length+szL a0i x.kids) (szR (a0l x.cond) left))<(0:Int)))=false →
 (szR (x.kids.length+szL a0i x.kids) (szR (a0l x.cond) left))=(szR (a0i x) left))))))))))):=by kernel_rfl
theorem f7z(n:Nat)(hE:a0m [c1w,b2z n]):Ctr.Good (b5n (n+1)):=by
 refine⟨a0j b9u rfl (by decide),?_⟩
 show ∀ (x:a0a) (left:Int),(msz x<n+1∧0≤left∧left≤1048576)→a0z prog c2f [.val ⟨(.st .prog),x⟩, .val ⟨(.int .i64),left⟩] (·=[⟨(.int .i64),szR (a0i x) left⟩])
 intro x left hp
 refine a0x (wr:=[]) (cl:=[]) (ro:=[2]) hE b9u e9k (d9v x left) ?_
 rewrite [f8v n x left]
 have f0:=a5k (a0l x.cond) (left)
 have f1:=a5k (x.kids.length+szL a0i x.kids) (szR (a0l x.cond) left)
 have fz:=a5k ((a0l x.cond)+(x.kids.length+szL a0i x.kids)) left
 have f0k:=a5q x
 refine⟨?_,fun a0=>⟨fun a1=>?_,fun a1=>fun a2=>⟨?_,fun a3=>⟨fun a4=>?_,fun a4=>?_⟩⟩⟩⟩
 all_goals try and_intros
 all_goals try rw[a9k]
 all_goals first|rfl|trivial|omega|(simp only[decide_eq_true_eq,decide_eq_false_iff_not,a0g,a0d,a1z,a2w,a1w,a1x] at *;omega)|(simp[a0g,a0d] at *;omega)|grind
def d6b(xs:List a0a)(left:Int):Nat→a0s:=(fun zb=>if Nat.beq zb 0 then .mk (Nat) (fun k=>k≤xs.length∧(xs.length+szL a0i (xs.take k):Int)≤left) (fun k=>xs.length - k) [] [2,3,6,7,8,9,10,11] (fun k=>[(5, .imm ⟨(.int .i64),((k:Int):Int)⟩),(1, .imm ⟨(.int .i64),(left - (xs.length+szL a0i (xs.take k):Int):Int)⟩)]) [0,1,4,5,12,13,14,15,16,17,18,19,20,21,22,23,24,25,26] (fun k=>[]) [] [] (fun k=>fun _ => .none) else .none)
theorem f5y(n:Nat)(xs:List a0a)(left:Int):awp (a0u [b5n n]) (a0k a9s) (d6b xs left) 0 (a1b (a0u [b5n n]) a9s fun r=>a1d r [⟨(.int .i64),szR (xs.length+szL a0i xs) left⟩]) (a0p a9s [.val ⟨(.slice (.st .prog)),xs⟩, .val ⟨(.int .i64),left⟩]) =
 ((a0d ((xs.length:Int)) →
 (a0d (left - ((xs.length:Int)))∧(((decide ((left - ((xs.length:Int)))<(0:Int)))=true →
 (-1:Int)=(szR (xs.length+szL a0i xs) left))∧((decide ((left - ((xs.length:Int)))<(0:Int)))=false →
 ((∃ k1:Nat,((k1≤xs.length∧(xs.length+szL a0i (xs.take k1):Int)≤left)∧((xs=xs∧((left - ((xs.length:Int)))=(left - (xs.length+szL a0i (xs.take k1):Int))∧((0:Int)=(k1:Int)∧True)))∧True)))∧(∀ k1:Nat,((k1≤xs.length∧(xs.length+szL a0i (xs.take k1):Int)≤left) →
 (a0d ((xs.length:Int)) →
 (((decide ((k1:Int)<((xs.length:Int))))=true →
 (a0g (k1:Int) xs.length∧((msz (xs.getD k1 zP)<n∧0≤(left - (xs.length+szL a0i (xs.take k1):Int))∧(left - (xs.length+szL a0i (xs.take k1):Int))≤1048576)∧(a0d (szR (a0i (xs.getD k1 zP)) (left - (xs.length+szL a0i (xs.take k1):Int))) →
 (((decide ((szR (a0i (xs.getD k1 zP)) (left - (xs.length+szL a0i (xs.take k1):Int)))<(0:Int)))=true →
 (-1:Int)=(szR (xs.length+szL a0i xs) left))∧((decide ((szR (a0i (xs.getD k1 zP)) (left - (xs.length+szL a0i (xs.take k1):Int)))<(0:Int)))=false →
 (a0d ((k1:Int)+(1:Int))∧(∃ k2:Nat,((k2≤xs.length∧(xs.length+szL a0i (xs.take k2):Int)≤left)∧(xs.length - k2<xs.length - k1∧((xs=xs∧((szR (a0i (xs.getD k1 zP)) (left - (xs.length+szL a0i (xs.take k1):Int)))=(left - (xs.length+szL a0i (xs.take k2):Int))∧(((k1:Int)+(1:Int))=(k2:Int)∧True)))∧True)))))))))))∧((decide ((k1:Int)<((xs.length:Int))))=false →
 (left - (xs.length+szL a0i (xs.take k1):Int))=(szR (xs.length+szL a0i xs) left)))))))))))):=by kernel_rfl
theorem f4q(n:Nat)(hE:a0m [b5n n]):Ctr.Good (b2z (n+1)):=by
 refine⟨a0j c3r rfl (by decide),?_⟩
 show ∀ (xs:List a0a) (left:Int),(msz xs<n+1∧0≤left∧left≤1048576)→a0z prog c5h [.val ⟨(.slice (.st .prog)),xs⟩, .val ⟨(.int .i64),left⟩] (·=[⟨(.int .i64),szR (xs.length+szL a0i xs) left⟩])
 intro xs left hp
 refine a0x (wr:=[]) (cl:=[]) (ro:=[]) hE c3r e5s (d6b xs left) ?_
 rewrite [f5y n xs left]
 have f0:=a5k (xs.length+szL a0i xs) left
 have f1:=b4c a0i xs
 refine fun a0=>⟨?_,⟨fun a1=>?_,fun a1=>⟨⟨0,⟨?_,⟨⟨rfl,⟨?_,⟨?_,trivial⟩⟩⟩,trivial⟩⟩⟩,fun k1 a2=>have b2x0:=a6v a0i zP xs k1;have b2x1:=a2l a0i xs k1;have b2x2:=a2l a0i xs (k1+1);have b2x3:=b0h a0i xs k1;have b2x4:=a1i zP xs k1;have b2x5:=a5k (a0i (xs.getD k1 zP)) (left - (xs.length+szL a0i (xs.take k1):Int));fun a3=>⟨fun a4=>⟨?_,⟨?_,fun a5=>⟨fun a6=>?_,fun a6=>⟨?_,⟨k1+1,⟨?_,⟨?_,⟨⟨rfl,⟨?_,⟨?_,trivial⟩⟩⟩,trivial⟩⟩⟩⟩⟩⟩⟩⟩,fun a4=>?_⟩⟩⟩⟩
 all_goals try and_intros
 all_goals first|rfl|trivial|omega|(simp only[decide_eq_true_eq,decide_eq_false_iff_not,a0g,a0d,a1z,a2w,a1w,a1x] at *;omega)|(simp[a0g,a0d] at *;omega)|grind
theorem e7w :∀ n,a0m [b5n n,b2z n]
 | 0=>⟨⟨a0j b9u rfl (by decide),fun _ _ h=>absurd h.1 (Nat.not_lt_zero _)⟩,⟨a0j c3r rfl (by decide),fun _ _ h=>absurd h.1 (Nat.not_lt_zero _)⟩,trivial⟩
 | n+1=>by
  have ih:=e7w  n
  exact⟨f7z n ⟨f0l,ih.2.1,trivial⟩,f4q n ⟨ih.1,trivial⟩,trivial⟩
theorem f0m :Ctr.Good c1x :=
 ⟨a0j b9u rfl (by decide),fun x left hp=>(e7w  (msz x+1)).1.2 x left (⟨Nat.lt_succ_self _,hp⟩)⟩
end
end Go.Proofs.Ytlaoejdeanljgaa

set_option linter.unusedVariables false
set_option linter.unusedSimpArgs false
set_option linter.unusedSectionVars false
set_option maxRecDepth 4000
set_option maxHeartbeats 4000000
namespace Go.Proofs.Ytlaoejdeanljgaa
noncomputable section
def b9e:Ctr:=⟨d1u,[.v (.st .sig)],fun (x:a0v)=>⟨(none,[⟨(.st .sig),x⟩])⟩⟩
def e3m(x:a0v):Nat→a0s:=fun _ => .none
theorem g1f(x:a0v):awp (a0u [] [] [] [1]) (a0k b4x) (e3m x) 0 (a1b (a0u [] [] [] [1]) b4x fun r=>a1d r [⟨(.st .sig),x⟩]) (a0p b4x [.val ⟨(.st .sig),x⟩]) =
 ((a0d x.tests →
 (a0d x.actions →
 x=x))):=by kernel_rfl
theorem g0x(hE:a0m []):Ctr.Good b9e:=by
 refine⟨a0j d8y rfl (by decide),?_⟩
 show ∀ (x:a0v),True→a0z prog d1u [.val ⟨(.st .sig),x⟩] (·=[⟨(.st .sig),x⟩])
 intro x _
 refine a0x (wr:=[]) (cl:=[]) (ro:=[1]) hE d8y f3h (e3m x) ?_
 rewrite [g1f x]
 refine fun a0=>fun a1=>rfl
 all_goals try and_intros
 all_goals first|rfl|trivial|omega|(simp only[decide_eq_true_eq,decide_eq_false_iff_not,a0g,a0d,a1z,a2w,a1w,a1x] at *;omega)|(simp[a0g,a0d] at *;omega)|grind
theorem f3w:Ctr.Good b9e:=g0x trivial
def b5o(n:Nat):Ctr:=⟨a8t,[.v (.st .expr)],fun (x:a0c)=>⟨(some (msz x<n∧a0l x≤1048576),[⟨(.st .expr),x⟩])⟩⟩
def c1y:Ctr:=⟨a8t,[.v (.st .expr)],fun (x:a0c)=>⟨(some (a0l x≤1048576),[⟨(.st .expr),x⟩])⟩⟩
def b3a(n:Nat):Ctr:=⟨b5r,[.v (.slice (.st .expr))],fun (xs:List a0c)=>⟨(some (msz xs<n∧xs.length+szL a0l xs≤1048576),[⟨(.slice (.st .expr)),xs⟩])⟩⟩
def d9w(x:a0c):Nat→a0s:=fun _ => .none
theorem f8w(n:Nat)(x:a0c):awp (a0u [b3a n] [] [] [1]) (a0k a5z) (d9w x) 0 (a1b (a0u [b3a n] [] [] [1]) a5z fun r=>a1d r [⟨(.st .expr),x⟩]) (a0p a5z [.val ⟨(.st .expr),x⟩]) =
 ((a0d x.kind →
 (a0d x.num →
 (x.kids.length≤140737488355328 →
 ((msz x.kids<n∧x.kids.length+szL a0l x.kids≤1048576)∧(x.kids.length≤140737488355328 →
 (a1g x)=x)))))):=by kernel_rfl
theorem f8a(n:Nat)(hE:a0m [b3a n]):Ctr.Good (b5o (n+1)):=by
 refine⟨a0j a6e rfl (by decide),?_⟩
 show ∀ (x:a0c),(msz x<n+1∧a0l x≤1048576)→a0z prog a8t [.val ⟨(.st .expr),x⟩] (·=[⟨(.st .expr),x⟩])
 intro x hp
 refine a0x (wr:=[]) (cl:=[]) (ro:=[1]) hE a6e d0h (d9w x) ?_
 rewrite [f8w n x]
 rw[c0p] at hp
 have f0k:=a5n x
 refine fun a0=>fun a1=>fun a2=>⟨?_,fun a3=>?_⟩
 all_goals try and_intros
 all_goals try simp only[a0c.eta,a0a.eta,a1y,a2a] at *
 all_goals first|rfl|trivial|omega|(simp only[decide_eq_true_eq,decide_eq_false_iff_not,a0g,a0d,a1z,a2w,a1w,a1x] at *;omega)|(simp[a0g,a0d] at *;omega)|grind
def d6c(xs:List a0c):Nat→a0s:=(fun zb=>if Nat.beq zb 0 then .mk (Nat) (fun k=>k≤xs.length) (fun k=>xs.length - k) [] [1,5,6,7] (fun k=>[(4, .imm ⟨(.int .i64),((k:Int):Int)⟩),(3, .row 7)]) [0,2,3,4,8,9,10,11,12,13,14,15,16,17,18,19,20,21,22] (fun k=>[(7, .row g3p (.st .expr) (a3i xs k zE:List a0c))]) [] [] (fun k=>fun _ => .none) else .none)
theorem f5z(n:Nat)(xs:List a0c):awp (a0u [b5o n]) (a0k a5b) (d6c xs) 0 (a1b (a0u [b5o n]) a5b fun r=>a1d r [⟨(.slice (.st .expr)),xs⟩]) (a0p a5b [.val ⟨(.slice (.st .expr)),xs⟩]) =
 ((a0d ((xs.length:Int)) →
 (a1w ((xs.length:Int)) ((xs.length:Int)) 40∧((∃ k1:Nat,(k1≤xs.length∧((xs=xs∧(True∧(True∧((0:Int)=(k1:Int)∧True))))∧((List.replicate (Int.toNat ((xs.length:Int))) zE)=(a3i xs k1 zE)∧True))))∧(∀ k1:Nat,(k1≤xs.length →
 (a0d ((xs.length:Int)) →
 (((decide ((k1:Int)<((xs.length:Int))))=true →
 (a0g (k1:Int) xs.length∧((msz (xs.getD k1 zE)<n∧a0l (xs.getD k1 zE)≤1048576)∧(a0g (k1:Int) (a3i xs k1 zE).length∧(a0d ((k1:Int)+(1:Int))∧(∃ k2:Nat,(k2≤xs.length∧(xs.length - k2<xs.length - k1∧((xs=xs∧(True∧(True∧(((k1:Int)+(1:Int))=(k2:Int)∧True))))∧(((a3i xs k1 zE).set k1 (xs.getD k1 zE))=(a3i xs k2 zE)∧True))))))))))∧((decide ((k1:Int)<((xs.length:Int))))=false →
 (a3i xs k1 zE)=xs))))))))):=by kernel_rfl
theorem f4r(n:Nat)(hE:a0m [b5o n]):Ctr.Good (b3a (n+1)):=by
 refine⟨a0j a7z rfl (by decide),?_⟩
 show ∀ (xs:List a0c),(msz xs<n+1∧xs.length+szL a0l xs≤1048576)→a0z prog b5r [.val ⟨(.slice (.st .expr)),xs⟩] (·=[⟨(.slice (.st .expr)),xs⟩])
 intro xs hp
 refine a0x (wr:=[]) (cl:=[]) (ro:=[]) hE a7z c8b (d6c xs) ?_
 rewrite [f5z n xs]
 refine fun a0=>⟨?_,⟨⟨0,⟨?_,⟨⟨rfl,⟨trivial,⟨trivial,⟨?_,trivial⟩⟩⟩⟩,⟨?_,trivial⟩⟩⟩⟩,fun k1 a1=>have b1x0:=a8r xs zE k1;have b1x1:=b7s xs zE k1;have b1x2:=a8s xs zE zE k1;have b1x3:=b1b a0l zE xs k1;have b1x4:=a1i zE xs k1;fun a2=>⟨fun a3=>⟨?_,⟨?_,⟨?_,⟨?_,⟨k1+1,⟨?_,⟨?_,⟨⟨rfl,⟨trivial,⟨trivial,⟨?_,trivial⟩⟩⟩⟩,⟨?_,trivial⟩⟩⟩⟩⟩⟩⟩⟩⟩,fun a3=>?_⟩⟩⟩
 all_goals try and_intros
 all_goals first|rfl|trivial|omega|(simp only[decide_eq_true_eq,decide_eq_false_iff_not,a0g,a0d,a1z,a2w,a1w,a1x] at *;omega)|(simp[a0g,a0d] at *;omega)|grind|exact c3d xs _|(simp only[decide_eq_true_eq,decide_eq_false_iff_not] at *;first|exact a8s _ _ _ _ (by omega)|exact a8r _ _ _ (by omega)|(simp only[a1w];omega))
theorem e7x :∀ n,a0m [b5o n,b3a n]
 | 0=>⟨⟨a0j a6e rfl (by decide),fun _ h=>absurd h.1 (Nat.not_lt_zero _)⟩,⟨a0j a7z rfl (by decide),fun _ h=>absurd h.1 (Nat.not_lt_zero _)⟩,trivial⟩
 | n+1=>by
  have ih:=e7x  n
  exact⟨f8a n ⟨ih.2.1,trivial⟩,f4r n ⟨ih.1,trivial⟩,trivial⟩
theorem f0n :Ctr.Good c1y :=
 ⟨a0j a6e rfl (by decide),fun x hp=>(e7x  (msz x+1)).1.2 x (⟨Nat.lt_succ_self _,hp⟩)⟩
def b5p(n:Nat):Ctr:=⟨a8u,[.v (.st .prog)],fun (x:a0a)=>⟨(some (msz x<n∧a0i x≤1048576),[⟨(.st .prog),x⟩])⟩⟩
def c1z:Ctr:=⟨a8u,[.v (.st .prog)],fun (x:a0a)=>⟨(some (a0i x≤1048576),[⟨(.st .prog),x⟩])⟩⟩
def b3b(n:Nat):Ctr:=⟨b5s,[.v (.slice (.st .prog))],fun (xs:List a0a)=>⟨(some (msz xs<n∧xs.length+szL a0i xs≤1048576),[⟨(.slice (.st .prog)),xs⟩])⟩⟩
def d9x(x:a0a):Nat→a0s:=fun _ => .none
theorem f8x(n:Nat)(x:a0a):awp (a0u [c1y,b3b n] [] [] [1]) (a0k a6a) (d9x x) 0 (a1b (a0u [c1y,b3b n] [] [] [1]) a6a fun r=>a1d r [⟨(.st .prog),x⟩]) (a0p a6a [.val ⟨(.st .prog),x⟩]) =
 ((a0d x.kind →
 (a0d x.num →
 (a0l x.cond≤1048576∧(x.kids.length≤140737488355328 →
 ((msz x.kids<n∧x.kids.length+szL a0i x.kids≤1048576)∧(x.kids.length≤140737488355328 →
 (a0b x)=x))))))):=by kernel_rfl
theorem f8b(n:Nat)(hE:a0m [c1y,b3b n]):Ctr.Good (b5p (n+1)):=by
 refine⟨a0j a6f rfl (by decide),?_⟩
 show ∀ (x:a0a),(msz x<n+1∧a0i x≤1048576)→a0z prog a8u [.val ⟨(.st .prog),x⟩] (·=[⟨(.st .prog),x⟩])
 intro x hp
 refine a0x (wr:=[]) (cl:=[]) (ro:=[1]) hE a6f d0i (d9x x) ?_
 rewrite [f8x n x]
 rw[a9k] at hp
 have f0k:=a5q x
 refine fun a0=>fun a1=>⟨?_,fun a2=>⟨?_,fun a3=>?_⟩⟩
 all_goals try and_intros
 all_goals try simp only[a0c.eta,a0a.eta,a1y,a2a] at *
 all_goals first|rfl|trivial|omega|(simp only[decide_eq_true_eq,decide_eq_false_iff_not,a0g,a0d,a1z,a2w,a1w,a1x] at *;omega)|(simp[a0g,a0d] at *;omega)|grind
def d6d(xs:List a0a):Nat→a0s:=(fun zb=>if Nat.beq zb 0 then .mk (Nat) (fun k=>k≤xs.length) (fun k=>xs.length - k) [] [1,5,6,7] (fun k=>[(4, .imm ⟨(.int .i64),((k:Int):Int)⟩),(3, .row 7)]) [0,2,3,4,8,9,10,11,12,13,14,15,16,17,18,19,20,21,22] (fun k=>[(7, .row g3q (.st .prog) (a3i xs k zP:List a0a))]) [] [] (fun k=>fun _ => .none) else .none)
theorem f6a(n:Nat)(xs:List a0a):awp (a0u [b5p n]) (a0k a5c) (d6d xs) 0 (a1b (a0u [b5p n]) a5c fun r=>a1d r [⟨(.slice (.st .prog)),xs⟩]) (a0p a5c [.val ⟨(.slice (.st .prog)),xs⟩]) =
 ((a0d ((xs.length:Int)) →
 (a1w ((xs.length:Int)) ((xs.length:Int)) 80∧((∃ k1:Nat,(k1≤xs.length∧((xs=xs∧(True∧(True∧((0:Int)=(k1:Int)∧True))))∧((List.replicate (Int.toNat ((xs.length:Int))) zP)=(a3i xs k1 zP)∧True))))∧(∀ k1:Nat,(k1≤xs.length →
 (a0d ((xs.length:Int)) →
 (((decide ((k1:Int)<((xs.length:Int))))=true →
 (a0g (k1:Int) xs.length∧((msz (xs.getD k1 zP)<n∧a0i (xs.getD k1 zP)≤1048576)∧(a0g (k1:Int) (a3i xs k1 zP).length∧(a0d ((k1:Int)+(1:Int))∧(∃ k2:Nat,(k2≤xs.length∧(xs.length - k2<xs.length - k1∧((xs=xs∧(True∧(True∧(((k1:Int)+(1:Int))=(k2:Int)∧True))))∧(((a3i xs k1 zP).set k1 (xs.getD k1 zP))=(a3i xs k2 zP)∧True))))))))))∧((decide ((k1:Int)<((xs.length:Int))))=false →
 (a3i xs k1 zP)=xs))))))))):=by kernel_rfl
theorem f4s(n:Nat)(hE:a0m [b5p n]):Ctr.Good (b3b (n+1)):=by
 refine⟨a0j a8a rfl (by decide),?_⟩
 show ∀ (xs:List a0a),(msz xs<n+1∧xs.length+szL a0i xs≤1048576)→a0z prog b5s [.val ⟨(.slice (.st .prog)),xs⟩] (·=[⟨(.slice (.st .prog)),xs⟩])
 intro xs hp
 refine a0x (wr:=[]) (cl:=[]) (ro:=[]) hE a8a c8c (d6d xs) ?_
 rewrite [f6a n xs]
 refine fun a0=>⟨?_,⟨⟨0,⟨?_,⟨⟨rfl,⟨trivial,⟨trivial,⟨?_,trivial⟩⟩⟩⟩,⟨?_,trivial⟩⟩⟩⟩,fun k1 a1=>have b1x0:=a8r xs zP k1;have b1x1:=b7s xs zP k1;have b1x2:=a8s xs zP zP k1;have b1x3:=b1b a0i zP xs k1;have b1x4:=a1i zP xs k1;fun a2=>⟨fun a3=>⟨?_,⟨?_,⟨?_,⟨?_,⟨k1+1,⟨?_,⟨?_,⟨⟨rfl,⟨trivial,⟨trivial,⟨?_,trivial⟩⟩⟩⟩,⟨?_,trivial⟩⟩⟩⟩⟩⟩⟩⟩⟩,fun a3=>?_⟩⟩⟩
 all_goals try and_intros
 all_goals first|rfl|trivial|omega|(simp only[decide_eq_true_eq,decide_eq_false_iff_not,a0g,a0d,a1z,a2w,a1w,a1x] at *;omega)|(simp[a0g,a0d] at *;omega)|grind|exact c3d xs _|(simp only[decide_eq_true_eq,decide_eq_false_iff_not] at *;first|exact a8s _ _ _ _ (by omega)|exact a8r _ _ _ (by omega)|(simp only[a1w];omega))
theorem e7y :∀ n,a0m [b5p n,b3b n]
 | 0=>⟨⟨a0j a6f rfl (by decide),fun _ h=>absurd h.1 (Nat.not_lt_zero _)⟩,⟨a0j a8a rfl (by decide),fun _ h=>absurd h.1 (Nat.not_lt_zero _)⟩,trivial⟩
 | n+1=>by
  have ih:=e7y  n
  exact⟨f8b n ⟨f0n,ih.2.1,trivial⟩,f4s n ⟨ih.1,trivial⟩,trivial⟩
theorem f0o :Ctr.Good c1z :=
 ⟨a0j a6f rfl (by decide),fun x hp=>(e7y  (msz x+1)).1.2 x (⟨Nat.lt_succ_self _,hp⟩)⟩
def b2v:Ctr:=⟨b3s,[.v (.slice (.int .i64))],fun (xs:List Int)=>⟨(some (xs.length≤1048576),[⟨(.slice (.int .i64)),xs⟩])⟩⟩
def d3m(xs:List Int):Nat→a0s:=(fun zb=>if Nat.beq zb 0 then .mk (Nat) (fun k=>k≤xs.length) (fun k=>xs.length - k) [] [1,5,6,7] (fun k=>[(4, .imm ⟨(.int .i64),((k:Int):Int)⟩),(3, .row 7)]) [0,2,3,4,8,9,10,11,12,13,14,15,16,17,18,19,20,21] (fun k=>[(7, .row f6u (.int .i64) (a3i xs k (0:Int):List Int))]) [] [] (fun k=>fun _ => .none) else .none)
theorem f2a(xs:List Int):awp (a0u []) (a0k a4n) (d3m xs) 0 (a1b (a0u []) a4n fun r=>a1d r [⟨(.slice (.int .i64)),xs⟩]) (a0p a4n [.val ⟨(.slice (.int .i64)),xs⟩]) =
 ((a0d ((xs.length:Int)) →
 (a1w ((xs.length:Int)) ((xs.length:Int)) 8∧((∃ k1:Nat,(k1≤xs.length∧((xs=xs∧(True∧(True∧((0:Int)=(k1:Int)∧True))))∧((List.replicate (Int.toNat ((xs.length:Int))) (0:Int))=(a3i xs k1 (0:Int))∧True))))∧(∀ k1:Nat,(k1≤xs.length →
 (a0d ((xs.length:Int)) →
 (((decide ((k1:Int)<((xs.length:Int))))=true →
 (a0g (k1:Int) xs.length∧(a0d (xs.getD k1 (0:Int)) →
 (a0g (k1:Int) (a3i xs k1 (0:Int)).length∧(a0d ((k1:Int)+(1:Int))∧(∃ k2:Nat,(k2≤xs.length∧(xs.length - k2<xs.length - k1∧((xs=xs∧(True∧(True∧(((k1:Int)+(1:Int))=(k2:Int)∧True))))∧(((a3i xs k1 (0:Int)).set k1 (xs.getD k1 (0:Int)))=(a3i xs k2 (0:Int))∧True))))))))))∧((decide ((k1:Int)<((xs.length:Int))))=false →
 (a3i xs k1 (0:Int))=xs))))))))):=by kernel_rfl
theorem f1g(hE:a0m []):Ctr.Good b2v:=by
 refine⟨a0j b6h rfl (by decide),?_⟩
 show ∀ (xs:List Int),(xs.length≤1048576)→a0z prog b3s [.val ⟨(.slice (.int .i64)),xs⟩] (·=[⟨(.slice (.int .i64)),xs⟩])
 intro xs hp
 refine a0x (wr:=[]) (cl:=[]) (ro:=[]) hE b6h c6e (d3m xs) ?_
 rewrite [f2a xs]
 refine fun a0=>⟨?_,⟨⟨0,⟨?_,⟨⟨rfl,⟨trivial,⟨trivial,⟨?_,trivial⟩⟩⟩⟩,⟨?_,trivial⟩⟩⟩⟩,fun k1 a1=>have b1x0:=a8r xs (0:Int) k1;have b1x1:=b7s xs (0:Int) k1;have b1x2:=a8s xs (0:Int) (0:Int) k1;fun a2=>⟨fun a3=>⟨?_,fun a4=>⟨?_,⟨?_,⟨k1+1,⟨?_,⟨?_,⟨⟨rfl,⟨trivial,⟨trivial,⟨?_,trivial⟩⟩⟩⟩,⟨?_,trivial⟩⟩⟩⟩⟩⟩⟩⟩,fun a3=>?_⟩⟩⟩
 all_goals try and_intros
 all_goals first|rfl|trivial|omega|(simp only[decide_eq_true_eq,decide_eq_false_iff_not,a0g,a0d,a1z,a2w,a1w,a1x] at *;omega)|(simp[a0g,a0d] at *;omega)|grind|exact c3d xs _|(simp only[decide_eq_true_eq,decide_eq_false_iff_not] at *;first|exact a8s _ _ _ _ (by omega)|exact a8r _ _ _ (by omega)|(simp only[a1w];omega))
theorem e3d:Ctr.Good b2v:=f1g trivial
end
end Go.Proofs.Ytlaoejdeanljgaa

set_option linter.unusedVariables false
set_option linter.unusedSimpArgs false
set_option linter.unusedSectionVars false
set_option maxRecDepth 4000
set_option maxHeartbeats 4000000
namespace Go.Proofs.Ytlaoejdeanljgaa
noncomputable section
def b5k(n:Nat):Ctr:=⟨c2c,[.v (.st .expr), .v (.st .expr)],fun (x:a0c) (y:a0c)=>⟨(some (msz x<n),[⟨.bool,eqB x y⟩])⟩⟩
def c1u:Ctr:=⟨c2c,[.v (.st .expr), .v (.st .expr)],fun (x:a0c) (y:a0c)=>⟨(none,[⟨.bool,eqB x y⟩])⟩⟩
def b2w(n:Nat):Ctr:=⟨c5e,[.v (.slice (.st .expr)), .v (.slice (.st .expr))],fun (xs:List a0c) (ys:List a0c)=>⟨(some (msz xs<n),[⟨.bool,eqB xs ys⟩])⟩⟩
def d9s(x:a0c)(y:a0c):Nat→a0s:=fun _ => .none
theorem f8s(n:Nat)(x:a0c)(y:a0c):awp (a0u [b2w n] [] [] [2,3]) (a0k b1q) (d9s x y) 0 (a1b (a0u [b2w n] [] [] [2,3]) b1q fun r=>a1d r [⟨.bool,eqB x y⟩]) (a0p b1q [.val ⟨(.st .expr),x⟩, .val ⟨(.st .expr),y⟩]) =
 ((a0d x.kind →
 (a0d y.kind →
 (((!(decide (x.kind=y.kind)))=true →
 false=(eqB x y))∧((!(decide (x.kind=y.kind)))=false →
 (a0d x.num →
 (a0d y.num →
 (((!(decide (x.num=y.num)))=true →
 false=(eqB x y))∧((!(decide (x.num=y.num)))=false →
 (x.kids.length≤140737488355328 →
 (y.kids.length≤140737488355328 →
 (msz x.kids<n∧(((!(eqB x.kids y.kids))=true →
 false=(eqB x y))∧((!(eqB x.kids y.kids))=false →
 true=(eqB x y))))))))))))))):=by kernel_rfl
theorem f7w(n:Nat)(hE:a0m [b2w n]):Ctr.Good (b5k (n+1)):=by
 refine⟨a0j b9r rfl (by decide),?_⟩
 show ∀ (x:a0c) (y:a0c),(msz x<n+1)→a0z prog c2c [.val ⟨(.st .expr),x⟩, .val ⟨(.st .expr),y⟩] (·=[⟨.bool,eqB x y⟩])
 intro x y hp
 refine a0x (wr:=[]) (cl:=[]) (ro:=[2,3]) hE b9r e9h (d9s x y) ?_
 rewrite [f8s n x y]
 have f0k:=a5n x
 refine fun a0=>fun a1=>⟨fun a2=>?_,fun a2=>fun a3=>fun a4=>⟨fun a5=>?_,fun a5=>fun a6=>fun a7=>⟨?_,⟨fun a8=>?_,fun a8=>?_⟩⟩⟩⟩
 all_goals try and_intros
 all_goals first|rfl|trivial|(simp only[decide_eq_true_eq,decide_eq_false_iff_not,a0g,a0d] at *;omega)|(refine b5x fun hab=>?_;subst hab;simp_all)|(refine d0p ?_;cases x;cases y;simp_all)
def d5y(xs:List a0c)(ys:List a0c):Nat→a0s:=(fun zb=>if Nat.beq zb 0 then .mk (Nat) (fun k=>k≤xs.length∧xs.length=ys.length∧xs.take k=ys.take k) (fun k=>xs.length - k) [] [2,3,6,7,8,9,10] (fun k=>[(5, .imm ⟨(.int .i64),((k:Int):Int)⟩)]) [0,1,4,5,11,12,13,14,15,16,17,18,19,20,21,22,23,24,25,26] (fun k=>[]) [] [] (fun k=>fun _ => .none) else .none)
theorem f5v(n:Nat)(xs:List a0c)(ys:List a0c):awp (a0u [b5k n]) (a0k a9p) (d5y xs ys) 0 (a1b (a0u [b5k n]) a9p fun r=>a1d r [⟨.bool,eqB xs ys⟩]) (a0p a9p [.val ⟨(.slice (.st .expr)),xs⟩, .val ⟨(.slice (.st .expr)),ys⟩]) =
 ((a0d ((xs.length:Int)) →
 (a0d ((ys.length:Int)) →
 (((!(decide (((xs.length:Int))=((ys.length:Int)))))=true →
 false=(eqB xs ys))∧((!(decide (((xs.length:Int))=((ys.length:Int)))))=false →
 ((∃ k1:Nat,((k1≤xs.length∧xs.length=ys.length∧xs.take k1=ys.take k1)∧((xs=xs∧(ys=ys∧((0:Int)=(k1:Int)∧True)))∧True)))∧(∀ k1:Nat,((k1≤xs.length∧xs.length=ys.length∧xs.take k1=ys.take k1) →
 (a0d ((xs.length:Int)) →
 (((decide ((k1:Int)<((xs.length:Int))))=true →
 (a0g (k1:Int) xs.length∧(a0g (k1:Int) ys.length∧(msz (xs.getD k1 zE)<n∧(((!(eqB (xs.getD k1 zE) (ys.getD k1 zE)))=true →
 false=(eqB xs ys))∧((!(eqB (xs.getD k1 zE) (ys.getD k1 zE)))=false →
 (a0d ((k1:Int)+(1:Int))∧(∃ k2:Nat,((k2≤xs.length∧xs.length=ys.length∧xs.take k2=ys.take k2)∧(xs.length - k2<xs.length - k1∧((xs=xs∧(ys=ys∧(((k1:Int)+(1:Int))=(k2:Int)∧True)))∧True)))))))))))∧((decide ((k1:Int)<((xs.length:Int))))=false →
 true=(eqB xs ys)))))))))))):=by kernel_rfl
theorem f4n(n:Nat)(hE:a0m [b5k n]):Ctr.Good (b2w (n+1)):=by
 refine⟨a0j c3o rfl (by decide),?_⟩
 show ∀ (xs:List a0c) (ys:List a0c),(msz xs<n+1)→a0z prog c5e [.val ⟨(.slice (.st .expr)),xs⟩, .val ⟨(.slice (.st .expr)),ys⟩] (·=[⟨.bool,eqB xs ys⟩])
 intro xs ys hp
 refine a0x (wr:=[]) (cl:=[]) (ro:=[]) hE c3o e5p (d5y xs ys) ?_
 rewrite [f5v n xs ys]
 refine fun a0=>fun a1=>⟨fun a2=>?_,fun a2=>⟨⟨0,⟨?_,⟨⟨rfl,⟨rfl,⟨?_,trivial⟩⟩⟩,trivial⟩⟩⟩,fun k1 a3=>have b3x0:=a3u zE xs ys k1;have b3x1:=a2n xs ys k1;have b3x2:=a1i zE xs k1;fun a4=>⟨fun a5=>⟨?_,⟨?_,⟨?_,⟨fun a6=>?_,fun a6=>⟨?_,⟨k1+1,⟨?_,⟨?_,⟨⟨rfl,⟨rfl,⟨?_,trivial⟩⟩⟩,trivial⟩⟩⟩⟩⟩⟩⟩⟩⟩,fun a5=>?_⟩⟩⟩
 all_goals try and_intros
 all_goals first|rfl|trivial|(simp only[decide_eq_true_eq,decide_eq_false_iff_not,Bool.not_eq_false',decide_not,Bool.not_eq_true',a0g,a0d] at *;first|omega|(refine b5x fun hab=>?_;subst hab;simp_all;done)|(refine d0p (a2n _ _ _ (by omega) (by omega) (by simp_all))))|(refine b5x fun hab=>?_;subst hab;simp_all;done)|(simp_all;done)|(refine a3u zE _ _ _ (by simp_all;omega) (by simp_all;omega) (by simp_all) ?_;simp_all;done)
theorem e7t :∀ n,a0m [b5k n,b2w n]
 | 0=>⟨⟨a0j b9r rfl (by decide),fun _ _ h=>absurd h (Nat.not_lt_zero _)⟩,⟨a0j c3o rfl (by decide),fun _ _ h=>absurd h (Nat.not_lt_zero _)⟩,trivial⟩
 | n+1=>by
  have ih:=e7t  n
  exact⟨f7w n ⟨ih.2.1,trivial⟩,f4n n ⟨ih.1,trivial⟩,trivial⟩
theorem f0i :Ctr.Good c1u :=
 ⟨a0j b9r rfl (by decide),fun x y hp=>(e7t  (msz x+1)).1.2 x y (Nat.lt_succ_self _)⟩
def b5l(n:Nat):Ctr:=⟨c2d,[.v (.st .prog), .v (.st .prog)],fun (x:a0a) (y:a0a)=>⟨(some (msz x<n),[⟨.bool,eqB x y⟩])⟩⟩
def c1v:Ctr:=⟨c2d,[.v (.st .prog), .v (.st .prog)],fun (x:a0a) (y:a0a)=>⟨(none,[⟨.bool,eqB x y⟩])⟩⟩
def b2x(n:Nat):Ctr:=⟨c5f,[.v (.slice (.st .prog)), .v (.slice (.st .prog))],fun (xs:List a0a) (ys:List a0a)=>⟨(some (msz xs<n),[⟨.bool,eqB xs ys⟩])⟩⟩
def d9t(x:a0a)(y:a0a):Nat→a0s:=fun _ => .none
theorem f8t(n:Nat)(x:a0a)(y:a0a):awp (a0u [c1u,b2x n] [] [] [2,3]) (a0k b1r) (d9t x y) 0 (a1b (a0u [c1u,b2x n] [] [] [2,3]) b1r fun r=>a1d r [⟨.bool,eqB x y⟩]) (a0p b1r [.val ⟨(.st .prog),x⟩, .val ⟨(.st .prog),y⟩]) =
 ((a0d x.kind →
 (a0d y.kind →
 (((!(decide (x.kind=y.kind)))=true →
 false=(eqB x y))∧((!(decide (x.kind=y.kind)))=false →
 (a0d x.num →
 (a0d y.num →
 (((!(decide (x.num=y.num)))=true →
 false=(eqB x y))∧((!(decide (x.num=y.num)))=false →
 (((!(eqB x.cond y.cond))=true →
 false=(eqB x y))∧((!(eqB x.cond y.cond))=false →
 (x.kids.length≤140737488355328 →
 (y.kids.length≤140737488355328 →
 (msz x.kids<n∧(((!(eqB x.kids y.kids))=true →
 false=(eqB x y))∧((!(eqB x.kids y.kids))=false →
 true=(eqB x y))))))))))))))))):=by kernel_rfl
theorem f7x(n:Nat)(hE:a0m [c1u,b2x n]):Ctr.Good (b5l (n+1)):=by
 refine⟨a0j b9s rfl (by decide),?_⟩
 show ∀ (x:a0a) (y:a0a),(msz x<n+1)→a0z prog c2d [.val ⟨(.st .prog),x⟩, .val ⟨(.st .prog),y⟩] (·=[⟨.bool,eqB x y⟩])
 intro x y hp
 refine a0x (wr:=[]) (cl:=[]) (ro:=[2,3]) hE b9s e9i (d9t x y) ?_
 rewrite [f8t n x y]
 have f0k:=a5q x
 refine fun a0=>fun a1=>⟨fun a2=>?_,fun a2=>fun a3=>fun a4=>⟨fun a5=>?_,fun a5=>⟨fun a6=>?_,fun a6=>fun a7=>fun a8=>⟨?_,⟨fun a9=>?_,fun a9=>?_⟩⟩⟩⟩⟩
 all_goals try and_intros
 all_goals first|rfl|trivial|(simp only[decide_eq_true_eq,decide_eq_false_iff_not,a0g,a0d] at *;omega)|(refine b5x fun hab=>?_;subst hab;simp_all)|(refine d0p ?_;cases x;cases y;simp_all)
def d5z(xs:List a0a)(ys:List a0a):Nat→a0s:=(fun zb=>if Nat.beq zb 0 then .mk (Nat) (fun k=>k≤xs.length∧xs.length=ys.length∧xs.take k=ys.take k) (fun k=>xs.length - k) [] [2,3,6,7,8,9,10] (fun k=>[(5, .imm ⟨(.int .i64),((k:Int):Int)⟩)]) [0,1,4,5,11,12,13,14,15,16,17,18,19,20,21,22,23,24,25,26] (fun k=>[]) [] [] (fun k=>fun _ => .none) else .none)
theorem f5w(n:Nat)(xs:List a0a)(ys:List a0a):awp (a0u [b5l n]) (a0k a9q) (d5z xs ys) 0 (a1b (a0u [b5l n]) a9q fun r=>a1d r [⟨.bool,eqB xs ys⟩]) (a0p a9q [.val ⟨(.slice (.st .prog)),xs⟩, .val ⟨(.slice (.st .prog)),ys⟩]) =
 ((a0d ((xs.length:Int)) →
 (a0d ((ys.length:Int)) →
 (((!(decide (((xs.length:Int))=((ys.length:Int)))))=true →
 false=(eqB xs ys))∧((!(decide (((xs.length:Int))=((ys.length:Int)))))=false →
 ((∃ k1:Nat,((k1≤xs.length∧xs.length=ys.length∧xs.take k1=ys.take k1)∧((xs=xs∧(ys=ys∧((0:Int)=(k1:Int)∧True)))∧True)))∧(∀ k1:Nat,((k1≤xs.length∧xs.length=ys.length∧xs.take k1=ys.take k1) →
 (a0d ((xs.length:Int)) →
 (((decide ((k1:Int)<((xs.length:Int))))=true →
 (a0g (k1:Int) xs.length∧(a0g (k1:Int) ys.length∧(msz (xs.getD k1 zP)<n∧(((!(eqB (xs.getD k1 zP) (ys.getD k1 zP)))=true →
 false=(eqB xs ys))∧((!(eqB (xs.getD k1 zP) (ys.getD k1 zP)))=false →
 (a0d ((k1:Int)+(1:Int))∧(∃ k2:Nat,((k2≤xs.length∧xs.length=ys.length∧xs.take k2=ys.take k2)∧(xs.length - k2<xs.length - k1∧((xs=xs∧(ys=ys∧(((k1:Int)+(1:Int))=(k2:Int)∧True)))∧True)))))))))))∧((decide ((k1:Int)<((xs.length:Int))))=false →
 true=(eqB xs ys)))))))))))):=by kernel_rfl
theorem f4o(n:Nat)(hE:a0m [b5l n]):Ctr.Good (b2x (n+1)):=by
 refine⟨a0j c3p rfl (by decide),?_⟩
 show ∀ (xs:List a0a) (ys:List a0a),(msz xs<n+1)→a0z prog c5f [.val ⟨(.slice (.st .prog)),xs⟩, .val ⟨(.slice (.st .prog)),ys⟩] (·=[⟨.bool,eqB xs ys⟩])
 intro xs ys hp
 refine a0x (wr:=[]) (cl:=[]) (ro:=[]) hE c3p e5q (d5z xs ys) ?_
 rewrite [f5w n xs ys]
 refine fun a0=>fun a1=>⟨fun a2=>?_,fun a2=>⟨⟨0,⟨?_,⟨⟨rfl,⟨rfl,⟨?_,trivial⟩⟩⟩,trivial⟩⟩⟩,fun k1 a3=>have b3x0:=a3u zP xs ys k1;have b3x1:=a2n xs ys k1;have b3x2:=a1i zP xs k1;fun a4=>⟨fun a5=>⟨?_,⟨?_,⟨?_,⟨fun a6=>?_,fun a6=>⟨?_,⟨k1+1,⟨?_,⟨?_,⟨⟨rfl,⟨rfl,⟨?_,trivial⟩⟩⟩,trivial⟩⟩⟩⟩⟩⟩⟩⟩⟩,fun a5=>?_⟩⟩⟩
 all_goals try and_intros
 all_goals first|rfl|trivial|(simp only[decide_eq_true_eq,decide_eq_false_iff_not,Bool.not_eq_false',decide_not,Bool.not_eq_true',a0g,a0d] at *;first|omega|(refine b5x fun hab=>?_;subst hab;simp_all;done)|(refine d0p (a2n _ _ _ (by omega) (by omega) (by simp_all))))|(refine b5x fun hab=>?_;subst hab;simp_all;done)|(simp_all;done)|(refine a3u zP _ _ _ (by simp_all;omega) (by simp_all;omega) (by simp_all) ?_;simp_all;done)
theorem e7u :∀ n,a0m [b5l n,b2x n]
 | 0=>⟨⟨a0j b9s rfl (by decide),fun _ _ h=>absurd h (Nat.not_lt_zero _)⟩,⟨a0j c3p rfl (by decide),fun _ _ h=>absurd h (Nat.not_lt_zero _)⟩,trivial⟩
 | n+1=>by
  have ih:=e7u  n
  exact⟨f7x n ⟨f0i,ih.2.1,trivial⟩,f4o n ⟨ih.1,trivial⟩,trivial⟩
theorem f0j :Ctr.Good c1v :=
 ⟨a0j b9s rfl (by decide),fun x y hp=>(e7u  (msz x+1)).1.2 x y (Nat.lt_succ_self _)⟩
def b2s:Ctr:=⟨c4c,[.v (.slice (.int .i64)), .v (.slice (.int .i64))],fun (xs:List Int) (ys:List Int)=>⟨(none,[⟨.bool,eqB xs ys⟩])⟩⟩
def d3j(xs:List Int)(ys:List Int):Nat→a0s:=(fun zb=>if Nat.beq zb 0 then .mk (Nat) (fun k=>k≤xs.length∧xs.length=ys.length∧xs.take k=ys.take k) (fun k=>xs.length - k) [] [2,3,6,7,8,9,10] (fun k=>[(5, .imm ⟨(.int .i64),((k:Int):Int)⟩)]) [0,1,4,5,11,12,13,14,15,16,17,18,19,20,21,22,23,24,25] (fun k=>[]) [] [] (fun k=>fun _ => .none) else .none)
theorem f1x(xs:List Int)(ys:List Int):awp (a0u []) (a0k a8k) (d3j xs ys) 0 (a1b (a0u []) a8k fun r=>a1d r [⟨.bool,eqB xs ys⟩]) (a0p a8k [.val ⟨(.slice (.int .i64)),xs⟩, .val ⟨(.slice (.int .i64)),ys⟩]) =
 ((a0d ((xs.length:Int)) →
 (a0d ((ys.length:Int)) →
 (((!(decide (((xs.length:Int))=((ys.length:Int)))))=true →
 false=(eqB xs ys))∧((!(decide (((xs.length:Int))=((ys.length:Int)))))=false →
 ((∃ k1:Nat,((k1≤xs.length∧xs.length=ys.length∧xs.take k1=ys.take k1)∧((xs=xs∧(ys=ys∧((0:Int)=(k1:Int)∧True)))∧True)))∧(∀ k1:Nat,((k1≤xs.length∧xs.length=ys.length∧xs.take k1=ys.take k1) →
 (a0d ((xs.length:Int)) →
 (((decide ((k1:Int)<((xs.length:Int))))=true →
 (a0g (k1:Int) xs.length∧(a0g (k1:Int) ys.length∧(a0d (xs.getD k1 (0:Int)) →
 (a0d (ys.getD k1 (0:Int)) →
 (((!(decide ((xs.getD k1 (0:Int))=(ys.getD k1 (0:Int)))))=true →
 false=(eqB xs ys))∧((!(decide ((xs.getD k1 (0:Int))=(ys.getD k1 (0:Int)))))=false →
 (a0d ((k1:Int)+(1:Int))∧(∃ k2:Nat,((k2≤xs.length∧xs.length=ys.length∧xs.take k2=ys.take k2)∧(xs.length - k2<xs.length - k1∧((xs=xs∧(ys=ys∧(((k1:Int)+(1:Int))=(k2:Int)∧True)))∧True))))))))))))∧((decide ((k1:Int)<((xs.length:Int))))=false →
 true=(eqB xs ys)))))))))))):=by kernel_rfl
theorem f1d(hE:a0m []):Ctr.Good b2s:=by
 refine⟨a0j c9z rfl (by decide),?_⟩
 show ∀ (xs:List Int) (ys:List Int),True→a0z prog c4c [.val ⟨(.slice (.int .i64)),xs⟩, .val ⟨(.slice (.int .i64)),ys⟩] (·=[⟨.bool,eqB xs ys⟩])
 intro xs ys _
 refine a0x (wr:=[]) (cl:=[]) (ro:=[]) hE c9z e1w (d3j xs ys) ?_
 rewrite [f1x xs ys]
 refine fun a0=>fun a1=>⟨fun a2=>?_,fun a2=>⟨⟨0,⟨?_,⟨⟨rfl,⟨rfl,⟨?_,trivial⟩⟩⟩,trivial⟩⟩⟩,fun k1 a3=>have b3x0:=a3u (0:Int) xs ys k1;have b3x1:=a2n xs ys k1;fun a4=>⟨fun a5=>⟨?_,⟨?_,fun a6=>fun a7=>⟨fun a8=>?_,fun a8=>⟨?_,⟨k1+1,⟨?_,⟨?_,⟨⟨rfl,⟨rfl,⟨?_,trivial⟩⟩⟩,trivial⟩⟩⟩⟩⟩⟩⟩⟩,fun a5=>?_⟩⟩⟩
 all_goals try and_intros
 all_goals first|rfl|trivial|(simp only[decide_eq_true_eq,decide_eq_false_iff_not,Bool.not_eq_false',decide_not,Bool.not_eq_true',a0g,a0d] at *;first|omega|(refine b5x fun hab=>?_;subst hab;simp_all;done)|(refine d0p (a2n _ _ _ (by omega) (by omega) (by simp_all))))|(refine b5x fun hab=>?_;subst hab;simp_all;done)|(simp_all;done)|(refine a3u (0:Int) _ _ _ (by simp_all;omega) (by simp_all;omega) (by simp_all) ?_;simp_all;done)
theorem e3a:Ctr.Good b2s:=f1d trivial
end
end Go.Proofs.Ytlaoejdeanljgaa

set_option linter.unusedVariables false
set_option linter.unusedSimpArgs false
set_option linter.unusedSectionVars false
set_option maxRecDepth 4000
set_option maxHeartbeats 4000000
namespace Go.Proofs.Ytlaoejdeanljgaa
noncomputable section
def a6m(k:Int):List Int→List Int
 | []=>[]
 | _::xs=>k::a6m (k+1) xs
theorem c2a:∀ (k:Int) (xs:List Int),(a6m k xs).length=xs.length
 | _,[]=>rfl
 | k,_::xs=>by simp[a6m,c2a (k+1) xs]
theorem e8n:∀ (k:Int) (xs:List Int) (i:Nat) (d:Int),i<xs.length→(a6m k xs).getD i d=k+i
 | k,[],i,d,h=>by simp at h
 | k,_::xs,0,d,h=>by simp[a6m]
 | k,_::xs,i+1,d,h=>by
  have:=e8n (k+1) xs i d (by simpa using h)
  simp[a6m] at this ⊢;omega
def a1h{α:Type}(f:List α)(xs:List α)(i:Nat):List α:=f.take i++xs.drop i
theorem d2v{α:Type}(f xs:List α):xs=a1h f xs 0:=by simp[a1h]
theorem f0p{α:Type}(f xs:List α)(i:Nat)(h:f.length=xs.length)(hi:xs.length≤i):a1h f xs i=f:=by
 simp[a1h,List.take_of_length_le (h ▸ hi),List.drop_eq_nil_of_le hi]
theorem c5w{α:Type}(f xs:List α)(i:Nat)(h:f.length=xs.length):(a1h f xs i).length=xs.length:=by
 simp[a1h];omega
theorem f9n{α:Type}(f xs:List α)(d:α)(i:Nat)(h:f.length=xs.length)(hi:i<xs.length):(a1h f xs i).getD i d=xs.getD i d:=by
 simp only[a1h,List.getD_eq_getElem?_getD]
 rw[List.getElem?_append_right (by simp;omega)]
 simp[h,Nat.min_eq_left (Nat.le_of_lt hi)]
theorem f0q{α:Type}(f xs:List α)(d:α)(i:Nat)(h:f.length=xs.length)(hi:i<xs.length):(a1h f xs i).set i (f.getD i d)=a1h f xs (i+1):=by
 unfold a1h
 rw[List.set_append_right _ _ (by simp;omega)]
 have e:i - (List.take i f).length=0:=by simp;omega
 rw[e,List.drop_eq_getElem_cons (by omega:i<xs.length),List.set_cons_zero,a5r d f i (by omega)]
 simp
def a4u:MK:=⟨c8u,⟨(.slice (.int .i64)),fun (xs:List Int) (k:Int)=>(some (0≤k∧k+(xs.length:Int)≤4611686018427387904),a6m k xs,k+(xs.length:Int))⟩⟩
def b9g(xs:List Int)(k:Int):Nat→a0s:=(fun zb=>if Nat.beq zb 0 then .mk (Nat) (fun i=>i≤xs.length) (fun i=>xs.length - i) [] [2,3] (fun i=>[(5, .imm ⟨(.int .i64),((i:Int):Int)⟩),(1, .imm ⟨(.int .i64),(k+(i:Int):Int)⟩),(0, .tree 50)]) [0,1,4,5,6,7,8,9,10,11,12,13,14,15,16,17,18] (fun i=>[(50, .tree (.int .i64) (a1h (a6m k xs) xs i:List Int))]) [] [] (fun i=>fun _ => .none) else .none)
theorem e1f(xs:List Int)(k:Int):awp (a2o [] [] [] [] []) (a0k a3v) (b9g xs k) 0 (a6s a3v a4u.m xs k) (a3o a3v ⟨(.slice (.int .i64)),xs⟩ k) =
 (((∃ i1:Nat,(i1≤xs.length∧((True∧(k=(k+(i1:Int))∧((0:Int)=(0:Int)∧((0:Int)=(i1:Int)∧True))))∧(xs=(a1h (a6m k xs) xs i1)∧True))))∧(∀ i1:Nat,(i1≤xs.length →
 (((decide ((i1:Int)<(((a1h (a6m k xs) xs i1).length:Int))))=true →
 (a0g (i1:Int) (a1h (a6m k xs) xs i1).length∧(a0d ((k+(i1:Int))+(1:Int))∧(a0d ((i1:Int)+(1:Int))∧(∃ i2:Nat,(i2≤xs.length∧(xs.length - i2<xs.length - i1∧((True∧(((k+(i1:Int))+(1:Int))=(k+(i2:Int))∧((0:Int)=(0:Int)∧(((i1:Int)+(1:Int))=(i2:Int)∧True))))∧(((a1h (a6m k xs) xs i1).set i1 (k+(i1:Int)))=(a1h (a6m k xs) xs i2)∧True)))))))))∧((decide ((i1:Int)<(((a1h (a6m k xs) xs i1).length:Int))))=false →
 ((k+(i1:Int))=(k+(xs.length:Int))∧(a1h (a6m k xs) xs i1)=(a6m k xs)))))))):=by kernel_rfl
theorem e1b(hE:a0m [])(hO:a4g [])(hM:a5a [])(hS:a5v []):MK.Good a4u:=by
 refine⟨a0j c6c rfl (by decide),c1k (own:=[]) (wr:=[]) (cl:=[]) (ro:=[]) hE hO hM hS c6c d7q (fun xs k=>b9g xs k) (fun x=>Nat.le_of_ble_eq_true rfl) (Nat.le_of_ble_eq_true (by kernel_rfl)) ?_⟩
 show ∀ (xs:List Int) (k:Int),(0≤k∧k+(xs.length:Int)≤4611686018427387904)→a0d k→awp (a2o [] [] [] [] []) (a0k a3v) (b9g xs k) 0 (a6s a3v a4u.m xs k) (a3o a3v ⟨(.slice (.int .i64)),xs⟩ k)
 intro xs k hp hk
 rewrite [e1f xs k]
 have f0:=d2v (a6m k xs) xs
 refine⟨⟨0,⟨?_,⟨⟨trivial,⟨?_,⟨rfl,⟨?_,trivial⟩⟩⟩⟩,⟨?_,trivial⟩⟩⟩⟩,fun i1 a0=>have b0x0:=f0p (a6m k xs) xs i1 (c2a k xs);have b0x1:=c5w (a6m k xs) xs i1 (c2a k xs);have b0x2:=f0q (a6m k xs) xs 0 i1 (c2a k xs);have b0x3:=e8n k xs i1 0;⟨fun a1=>⟨?_,⟨?_,⟨?_,⟨i1+1,⟨?_,⟨?_,⟨⟨trivial,⟨?_,⟨rfl,⟨?_,trivial⟩⟩⟩⟩,⟨?_,trivial⟩⟩⟩⟩⟩⟩⟩⟩,fun a1=>⟨?_,?_⟩⟩⟩
 all_goals try and_intros
 all_goals first|rfl|trivial|(simp only[decide_eq_true_eq,decide_eq_false_iff_not,a0g,a0d,a1z] at *;omega)|(simp only[decide_eq_true_eq,decide_eq_false_iff_not,a0g,a0d] at *;first|omega|(rw[←d2v];done)|grind)|grind
theorem d7b:MK.Good a4u:=e1b trivial trivial trivial trivial
def b0u:Ctr:=⟨b3s,[.v (.slice (.int .i64))],fun (xs:List Int)=>⟨(some (xs.length≤1048576),[⟨(.slice (.int .i64)),xs⟩])⟩⟩
def d1p(xs:List Int):Nat→a0s:=(fun zb=>if Nat.beq zb 0 then .mk (Nat) (fun k=>k≤xs.length) (fun k=>xs.length - k) [] [1,5,6,7] (fun k=>[(4, .imm ⟨(.int .i64),((k:Int):Int)⟩),(3, .row 7)]) [0,2,3,4,8,9,10,11,12,13,14,15,16,17,18,19,20,21] (fun k=>[(7, .row f6u (.int .i64) (a3i xs k 0:List Int))]) [] [] (fun k=>fun _ => .none) else .none)
theorem e7m(xs:List Int):awp (a2o [] [] [] [] []) (a0k a4n) (d1p xs) 0 (a3r (a2o [] [] [] [] []) a4n fun r=>a1d r [⟨(.slice (.int .i64)),xs⟩]) (a4z a4n [.val ⟨(.slice (.int .i64)),xs⟩]) =
 ((a0d ((xs.length:Int)) →
 (a1w ((xs.length:Int)) ((xs.length:Int)) 8∧((∃ k1:Nat,(k1≤xs.length∧((xs=xs∧(True∧(True∧((0:Int)=(k1:Int)∧True))))∧((List.replicate (Int.toNat ((xs.length:Int))) (0:Int))=(a3i xs k1 0)∧True))))∧(∀ k1:Nat,(k1≤xs.length →
 (a0d ((xs.length:Int)) →
 (((decide ((k1:Int)<((xs.length:Int))))=true →
 (a0g (k1:Int) xs.length∧(a0d (xs.getD k1 (0:Int)) →
 (a0g (k1:Int) (a3i xs k1 0).length∧(a0d ((k1:Int)+(1:Int))∧(∃ k2:Nat,(k2≤xs.length∧(xs.length - k2<xs.length - k1∧((xs=xs∧(True∧(True∧(((k1:Int)+(1:Int))=(k2:Int)∧True))))∧(((a3i xs k1 0).set k1 (xs.getD k1 (0:Int)))=(a3i xs k2 0)∧True))))))))))∧((decide ((k1:Int)<((xs.length:Int))))=false →
 (a3i xs k1 0)=xs))))))))):=by kernel_rfl
theorem e7b(hE:a0m [])(hO:a4g [])(hM:a5a [])(hS:a5v []):Ctr.OGood b0u:=by
 refine⟨a0j b6h rfl (by decide),?_⟩
 show ∀ (xs:List Int),(xs.length≤1048576)→a4k prog b3s [.val ⟨(.slice (.int .i64)),xs⟩] [⟨(.slice (.int .i64)),xs⟩]
 intro xs hp
 refine a2x (own:=[]) (wr:=[]) (cl:=[]) (ro:=[]) hE hO hM hS b6h c6e (d1p xs) ?_
 rewrite [e7m xs]
 refine fun a0=>⟨?_,⟨⟨0,⟨?_,⟨⟨rfl,⟨trivial,⟨trivial,⟨?_,trivial⟩⟩⟩⟩,⟨?_,trivial⟩⟩⟩⟩,fun k1 a1=>have b1x0:=a8r xs 0 k1;have b1x1:=b7s xs 0 k1;have b1x2:=a8s xs 0 0 k1;fun a2=>⟨fun a3=>⟨?_,fun a4=>⟨?_,⟨?_,⟨k1+1,⟨?_,⟨?_,⟨⟨rfl,⟨trivial,⟨trivial,⟨?_,trivial⟩⟩⟩⟩,⟨?_,trivial⟩⟩⟩⟩⟩⟩⟩⟩,fun a3=>?_⟩⟩⟩
 all_goals try and_intros
 all_goals first|rfl|trivial|omega|(simp only[decide_eq_true_eq,decide_eq_false_iff_not,a0g,a0d,a1z,a2w,a1w,a1x] at *;omega)|(simp[a0g,a0d] at *;omega)|grind|exact c3d xs _|(simp only[decide_eq_true_eq,decide_eq_false_iff_not] at *;first|exact a8s _ _ _ _ (by omega)|exact a8r _ _ _ (by omega)|(simp only[a1w];omega))
theorem e0x:Ctr.OGood b0u:=e7b trivial trivial trivial trivial
def b3j(n:Nat):Ctr:=⟨a8t,[.v (.st .expr)],fun (x:a0c)=>⟨(some (msz x<n∧a0l x≤1048576),[⟨(.st .expr),x⟩])⟩⟩
def c0d:Ctr:=⟨a8t,[.v (.st .expr)],fun (x:a0c)=>⟨(some (a0l x≤1048576),[⟨(.st .expr),x⟩])⟩⟩
def b0w(n:Nat):Ctr:=⟨b5r,[.v (.slice (.st .expr))],fun (xs:List a0c)=>⟨(some (msz xs<n∧xs.length+szL a0l xs≤1048576),[⟨(.slice (.st .expr)),xs⟩])⟩⟩
def d6q(x:a0c):Nat→a0s:=fun _ => .none
theorem f6m(n:Nat)(x:a0c):awp (a2o [] [b0w n] [] [12] [] [] [1]) (a0k a5z) (d6q x) 0 (a3r (a2o [] [b0w n] [] [12] [] [] [1]) a5z fun r=>a1d r [⟨(.st .expr),x⟩]) (a4z a5z [.val ⟨(.st .expr),x⟩]) =
 ((a0d x.kind →
 (a0d x.num →
 (x.kids.length≤140737488355328 →
 ((msz x.kids<n∧x.kids.length+szL a0l x.kids≤1048576)∧(a1g x)=x))))):=by kernel_rfl
theorem f5e(n:Nat)(hE:a0m [])(hO:a4g [b0w n])(hM:a5a [])(hS:a5v []):Ctr.OGood (b3j (n+1)):=by
 refine⟨a0j a6e rfl (by decide),?_⟩
 show ∀ (x:a0c),(msz x<n+1∧a0l x≤1048576)→a4k prog a8t [.val ⟨(.st .expr),x⟩] [⟨(.st .expr),x⟩]
 intro x hp
 refine a2x (own:=[12]) (wr:=[]) (cl:=[]) (ro:=[1]) hE hO hM hS a6e d0h (d6q x) ?_
 rewrite [f6m n x]
 rw[c0p] at hp
 have f0k:=a5n x
 refine fun a0=>fun a1=>fun a2=>⟨?_,?_⟩
 all_goals try and_intros
 all_goals try simp only[a0c.eta,a0a.eta,a1y,a2a] at *
 all_goals first|rfl|trivial|omega|(simp only[decide_eq_true_eq,decide_eq_false_iff_not,a0g,a0d,a1z,a2w,a1w,a1x] at *;omega)|(simp[a0g,a0d] at *;omega)|grind
def d3p(xs:List a0c):Nat→a0s:=(fun zb=>if Nat.beq zb 0 then .mk (Nat) (fun k=>k≤xs.length) (fun k=>xs.length - k) [] [1,5,6,7] (fun k=>[(4, .imm ⟨(.int .i64),((k:Int):Int)⟩),(3, .tree 7)]) [0,2,3,4,8,9,10,11,12,13,14,15,16,17,18,19,20,21,22] (fun k=>[(7, .tree (.st .expr) (a3i xs k zE:List a0c))]) [] [] (fun k=>fun _ => .none) else .none)
theorem f2d(n:Nat)(xs:List a0c):awp (a2o [] [b3j n] [] [7,20] []) (a0k a5b) (d3p xs) 0 (a3r (a2o [] [b3j n] [] [7,20] []) a5b fun r=>a1d r [⟨(.slice (.st .expr)),xs⟩]) (a4z a5b [.val ⟨(.slice (.st .expr)),xs⟩]) =
 ((a0d ((xs.length:Int)) →
 (a1w ((xs.length:Int)) ((xs.length:Int)) 40∧((∃ k1:Nat,(k1≤xs.length∧((xs=xs∧(True∧(True∧((0:Int)=(k1:Int)∧True))))∧((List.replicate (Int.toNat ((xs.length:Int))) zE)=(a3i xs k1 zE)∧True))))∧(∀ k1:Nat,(k1≤xs.length →
 (a0d ((xs.length:Int)) →
 (((decide ((k1:Int)<((xs.length:Int))))=true →
 (a0g (k1:Int) xs.length∧((msz (xs.getD k1 zE)<n∧a0l (xs.getD k1 zE)≤1048576)∧(a0g (k1:Int) (a3i xs k1 zE).length∧(a0d ((k1:Int)+(1:Int))∧(∃ k2:Nat,(k2≤xs.length∧(xs.length - k2<xs.length - k1∧((xs=xs∧(True∧(True∧(((k1:Int)+(1:Int))=(k2:Int)∧True))))∧(((a3i xs k1 zE).set k1 (a1g (xs.getD k1 zE)))=(a3i xs k2 zE)∧True))))))))))∧((decide ((k1:Int)<((xs.length:Int))))=false →
 (a3i xs k1 zE)=xs))))))))):=by kernel_rfl
theorem f1j(n:Nat)(hE:a0m [])(hO:a4g [b3j n])(hM:a5a [])(hS:a5v []):Ctr.OGood (b0w (n+1)):=by
 refine⟨a0j a7z rfl (by decide),?_⟩
 show ∀ (xs:List a0c),(msz xs<n+1∧xs.length+szL a0l xs≤1048576)→a4k prog b5r [.val ⟨(.slice (.st .expr)),xs⟩] [⟨(.slice (.st .expr)),xs⟩]
 intro xs hp
 refine a2x (own:=[7,20]) (wr:=[]) (cl:=[]) (ro:=[]) hE hO hM hS a7z c8b (d3p xs) ?_
 rewrite [f2d n xs]
 refine fun a0=>⟨?_,⟨⟨0,⟨?_,⟨⟨rfl,⟨trivial,⟨trivial,⟨?_,trivial⟩⟩⟩⟩,⟨?_,trivial⟩⟩⟩⟩,fun k1 a1=>have b1x0:=a8r xs zE k1;have b1x1:=b7s xs zE k1;have b1x2:=a8s xs zE zE k1;have b1x3:=b1b a0l zE xs k1;have b1x4:=a1i zE xs k1;fun a2=>⟨fun a3=>⟨?_,⟨?_,⟨?_,⟨?_,⟨k1+1,⟨?_,⟨?_,⟨⟨rfl,⟨trivial,⟨trivial,⟨?_,trivial⟩⟩⟩⟩,⟨?_,trivial⟩⟩⟩⟩⟩⟩⟩⟩⟩,fun a3=>?_⟩⟩⟩
 all_goals try and_intros
 all_goals try simp only[a0c.eta,a0a.eta,a1y,a2a] at *
 all_goals first|rfl|trivial|omega|(simp only[decide_eq_true_eq,decide_eq_false_iff_not,a0g,a0d,a1z,a2w,a1w,a1x] at *;omega)|(simp[a0g,a0d] at *;omega)|grind|exact c3d xs _|(simp only[decide_eq_true_eq,decide_eq_false_iff_not] at *;first|exact a8s _ _ _ _ (by omega)|exact a8r _ _ _ (by omega)|(simp only[a1w];omega))
theorem d8w:∀ n,a4g [b3j n,b0w n]
 | 0=>⟨⟨a0j a6e rfl (by decide),fun _ h=>absurd h.1 (Nat.not_lt_zero _)⟩,⟨a0j a7z rfl (by decide),fun _ h=>absurd h.1 (Nat.not_lt_zero _)⟩,trivial⟩
 | n+1=>by
  have ih:=d8w n
  exact⟨f5e n trivial ⟨ih.2.1,trivial⟩ trivial trivial,f1j n trivial ⟨ih.1,trivial⟩ trivial trivial,trivial⟩
theorem e6q:Ctr.OGood c0d :=
 ⟨a0j a6e rfl (by decide),fun x hp=>(d8w (msz x+1)).1.2 x (⟨Nat.lt_succ_self _,hp⟩)⟩
mutual
def a0n:a0c→Nat
 | ⟨_,_,ks⟩=>2+c5v ks
def c5v:List a0c→Nat
 | []=>0
 | x::xs=>a0n x+c5v xs
end
theorem d0m:∀ xs,c5v xs=szL a0n xs
 | []=>rfl
 | x::xs=>by rw[c5v,szL,d0m xs]
theorem f7b(x:a0c):a0n x=2+szL a0n x.kids:=by
 cases x;simp[a0n,d0m]
mutual
def mkX(k:Int):a0c→a0c
 | ⟨_,_,ks⟩=>⟨k,k+1,a0w (k+2) ks⟩
def a0w(k:Int):List a0c→List a0c
 | []=>[]
 | x::xs=>mkX k x::a0w (k+(a0n x:Int)) xs
end
theorem h0z(k:Int)(x:a0c):mkX k x=⟨k,k+1,a0w (k+2) x.kids⟩:=by cases x;rfl
theorem b3y:∀ (k:Int) (xs:List a0c),(a0w k xs).length=xs.length
 | _,[]=>rfl
 | k,x::xs=>by simp[a0w,b3y _ xs]
theorem e3x(z:a0c):∀ (k:Int) (xs:List a0c) (i:Nat),i<xs.length→(a0w k xs).getD i z=mkX (k+(szL a0n (xs.take i):Int)) (xs.getD i z)
 | k,[],i,h=>by simp at h
 | k,x::xs,0,h=>by simp[a0w,szL]
 | k,x::xs,i+1,h=>by
  have:=e3x z (k+(a0n x:Int)) xs i (by simpa using h)
  simp only[a0w,List.getD_cons_succ,this,List.take_succ_cons,szL]
  congr 1
  omega
theorem g4o:∀ xs:List a0c,xs.length≤szL a0n xs
 | []=>by simp[szL]
 | x::xs=>by
  have:=g4o xs
  have:=f7b x
  simp only[szL,List.length_cons];omega
theorem g3f{α:Type}(l:List α)(i:Nat)(y z:α)(h:i<l.length):(l.set i y).getD i z=y:=by
 simp[List.getD,h]
theorem h0g(k:Int)(xs:List a0c)(i:Nat)(z:a0c)(h:i<xs.length)(y1 y2 y3:a0c)(h3:y3=mkX (k+(szL a0n (xs.take i):Int)) (xs.getD i z)) :
  (((a1h (a0w k xs) xs i).set i y1).set i y2).set i y3=a1h (a0w k xs) xs (i+1):=by
 rw[List.set_set,List.set_set,h3,←e3x z k xs i h,f0q _ _ z i (b3y k xs) h]
def a4v(n:Nat):MK:=⟨c2v,⟨(.slice (.st .expr)),fun (xs:List a0c) (k:Int)=>(some (msz xs<n∧0≤k∧k+(szL a0n xs:Int)≤4611686018427387904),a0w k xs,k+(szL a0n xs:Int))⟩⟩
def a5m:MK:=⟨c2v,⟨(.slice (.st .expr)),fun (xs:List a0c) (k:Int)=>(some (0≤k∧k+(szL a0n xs:Int)≤4611686018427387904),a0w k xs,k+(szL a0n xs:Int))⟩⟩
def c1d(xs:List a0c)(k:Int):Nat→a0s:=(fun zb=>if Nat.beq zb 0 then .mk (Nat) (fun i=>i≤xs.length) (fun i=>xs.length - i) [] [2,3] (fun i=>[(5, .imm ⟨(.int .i64),((i:Int):Int)⟩),(1, .imm ⟨(.int .i64),(k+(szL a0n (xs.take i):Int):Int)⟩),(0, .tree 50)]) [0,1,4,5,6,7,8,9,10,11,12,13,14,15,16,17,18,19,20,21,22,23,24,25,26,27,28,29,30,31,32,33] (fun i=>[(50, .tree (.st .expr) (a1h (a0w k xs) xs i:List a0c))]) [] [] (fun i=>fun _ => .none) else .none)
theorem e4q(n:Nat)(xs:List a0c)(k:Int):awp (a2o [] [] [a4v n] [32] []) (a0k a4e) (c1d xs k) 0 (a6s a4e (a4v (n+1)).m xs k) (a3o a4e ⟨(.slice (.st .expr)),xs⟩ k) =
 (((∃ i1:Nat,(i1≤xs.length∧((True∧(k=(k+(szL a0n (xs.take i1):Int))∧((0:Int)=(0:Int)∧((0:Int)=(i1:Int)∧True))))∧(xs=(a1h (a0w k xs) xs i1)∧True))))∧(∀ i1:Nat,(i1≤xs.length →
 (((decide ((i1:Int)<(((a1h (a0w k xs) xs i1).length:Int))))=true →
 (a0g (i1:Int) (a1h (a0w k xs) xs i1).length∧(a0d ((k+(szL a0n (xs.take i1):Int))+(1:Int))∧(a0g (i1:Int) ((a1h (a0w k xs) xs i1).set i1 (a0c.mk (k+(szL a0n (xs.take i1):Int)) ((a1h (a0w k xs) xs i1).getD i1 zE).num ((a1h (a0w k xs) xs i1).getD i1 zE).kids)).length∧(a0d (((k+(szL a0n (xs.take i1):Int))+(1:Int))+(1:Int))∧(a0g (i1:Int) (((a1h (a0w k xs) xs i1).set i1 (a0c.mk (k+(szL a0n (xs.take i1):Int)) ((a1h (a0w k xs) xs i1).getD i1 zE).num ((a1h (a0w k xs) xs i1).getD i1 zE).kids)).set i1 (a0c.mk (((a1h (a0w k xs) xs i1).set i1 (a0c.mk (k+(szL a0n (xs.take i1):Int)) ((a1h (a0w k xs) xs i1).getD i1 zE).num ((a1h (a0w k xs) xs i1).getD i1 zE).kids)).getD i1 zE).kind ((k+(szL a0n (xs.take i1):Int))+(1:Int)) (((a1h (a0w k xs) xs i1).set i1 (a0c.mk (k+(szL a0n (xs.take i1):Int)) ((a1h (a0w k xs) xs i1).getD i1 zE).num ((a1h (a0w k xs) xs i1).getD i1 zE).kids)).getD i1 zE).kids)).length∧((msz ((((a1h (a0w k xs) xs i1).set i1 (a0c.mk (k+(szL a0n (xs.take i1):Int)) ((a1h (a0w k xs) xs i1).getD i1 zE).num ((a1h (a0w k xs) xs i1).getD i1 zE).kids)).set i1 (a0c.mk (((a1h (a0w k xs) xs i1).set i1 (a0c.mk (k+(szL a0n (xs.take i1):Int)) ((a1h (a0w k xs) xs i1).getD i1 zE).num ((a1h (a0w k xs) xs i1).getD i1 zE).kids)).getD i1 zE).kind ((k+(szL a0n (xs.take i1):Int))+(1:Int)) (((a1h (a0w k xs) xs i1).set i1 (a0c.mk (k+(szL a0n (xs.take i1):Int)) ((a1h (a0w k xs) xs i1).getD i1 zE).num ((a1h (a0w k xs) xs i1).getD i1 zE).kids)).getD i1 zE).kids)).getD i1 zE).kids<n∧0≤(((k+(szL a0n (xs.take i1):Int))+(1:Int))+(1:Int))∧(((k+(szL a0n (xs.take i1):Int))+(1:Int))+(1:Int))+(szL a0n ((((a1h (a0w k xs) xs i1).set i1 (a0c.mk (k+(szL a0n (xs.take i1):Int)) ((a1h (a0w k xs) xs i1).getD i1 zE).num ((a1h (a0w k xs) xs i1).getD i1 zE).kids)).set i1 (a0c.mk (((a1h (a0w k xs) xs i1).set i1 (a0c.mk (k+(szL a0n (xs.take i1):Int)) ((a1h (a0w k xs) xs i1).getD i1 zE).num ((a1h (a0w k xs) xs i1).getD i1 zE).kids)).getD i1 zE).kind ((k+(szL a0n (xs.take i1):Int))+(1:Int)) (((a1h (a0w k xs) xs i1).set i1 (a0c.mk (k+(szL a0n (xs.take i1):Int)) ((a1h (a0w k xs) xs i1).getD i1 zE).num ((a1h (a0w k xs) xs i1).getD i1 zE).kids)).getD i1 zE).kids)).getD i1 zE).kids:Int)≤4611686018427387904)∧(a0d ((i1:Int)+(1:Int))∧(∃ i2:Nat,(i2≤xs.length∧(xs.length - i2<xs.length - i1∧((True∧(((((k+(szL a0n (xs.take i1):Int))+(1:Int))+(1:Int))+(szL a0n ((((a1h (a0w k xs) xs i1).set i1 (a0c.mk (k+(szL a0n (xs.take i1):Int)) ((a1h (a0w k xs) xs i1).getD i1 zE).num ((a1h (a0w k xs) xs i1).getD i1 zE).kids)).set i1 (a0c.mk (((a1h (a0w k xs) xs i1).set i1 (a0c.mk (k+(szL a0n (xs.take i1):Int)) ((a1h (a0w k xs) xs i1).getD i1 zE).num ((a1h (a0w k xs) xs i1).getD i1 zE).kids)).getD i1 zE).kind ((k+(szL a0n (xs.take i1):Int))+(1:Int)) (((a1h (a0w k xs) xs i1).set i1 (a0c.mk (k+(szL a0n (xs.take i1):Int)) ((a1h (a0w k xs) xs i1).getD i1 zE).num ((a1h (a0w k xs) xs i1).getD i1 zE).kids)).getD i1 zE).kids)).getD i1 zE).kids:Int))=(k+(szL a0n (xs.take i2):Int))∧((0:Int)=(0:Int)∧(((i1:Int)+(1:Int))=(i2:Int)∧True))))∧(((((a1h (a0w k xs) xs i1).set i1 (a0c.mk (k+(szL a0n (xs.take i1):Int)) ((a1h (a0w k xs) xs i1).getD i1 zE).num ((a1h (a0w k xs) xs i1).getD i1 zE).kids)).set i1 (a0c.mk (((a1h (a0w k xs) xs i1).set i1 (a0c.mk (k+(szL a0n (xs.take i1):Int)) ((a1h (a0w k xs) xs i1).getD i1 zE).num ((a1h (a0w k xs) xs i1).getD i1 zE).kids)).getD i1 zE).kind ((k+(szL a0n (xs.take i1):Int))+(1:Int)) (((a1h (a0w k xs) xs i1).set i1 (a0c.mk (k+(szL a0n (xs.take i1):Int)) ((a1h (a0w k xs) xs i1).getD i1 zE).num ((a1h (a0w k xs) xs i1).getD i1 zE).kids)).getD i1 zE).kids)).set i1 (a0c.mk ((((a1h (a0w k xs) xs i1).set i1 (a0c.mk (k+(szL a0n (xs.take i1):Int)) ((a1h (a0w k xs) xs i1).getD i1 zE).num ((a1h (a0w k xs) xs i1).getD i1 zE).kids)).set i1 (a0c.mk (((a1h (a0w k xs) xs i1).set i1 (a0c.mk (k+(szL a0n (xs.take i1):Int)) ((a1h (a0w k xs) xs i1).getD i1 zE).num ((a1h (a0w k xs) xs i1).getD i1 zE).kids)).getD i1 zE).kind ((k+(szL a0n (xs.take i1):Int))+(1:Int)) (((a1h (a0w k xs) xs i1).set i1 (a0c.mk (k+(szL a0n (xs.take i1):Int)) ((a1h (a0w k xs) xs i1).getD i1 zE).num ((a1h (a0w k xs) xs i1).getD i1 zE).kids)).getD i1 zE).kids)).getD i1 zE).kind ((((a1h (a0w k xs) xs i1).set i1 (a0c.mk (k+(szL a0n (xs.take i1):Int)) ((a1h (a0w k xs) xs i1).getD i1 zE).num ((a1h (a0w k xs) xs i1).getD i1 zE).kids)).set i1 (a0c.mk (((a1h (a0w k xs) xs i1).set i1 (a0c.mk (k+(szL a0n (xs.take i1):Int)) ((a1h (a0w k xs) xs i1).getD i1 zE).num ((a1h (a0w k xs) xs i1).getD i1 zE).kids)).getD i1 zE).kind ((k+(szL a0n (xs.take i1):Int))+(1:Int)) (((a1h (a0w k xs) xs i1).set i1 (a0c.mk (k+(szL a0n (xs.take i1):Int)) ((a1h (a0w k xs) xs i1).getD i1 zE).num ((a1h (a0w k xs) xs i1).getD i1 zE).kids)).getD i1 zE).kids)).getD i1 zE).num (a0w (((k+(szL a0n (xs.take i1):Int))+(1:Int))+(1:Int)) ((((a1h (a0w k xs) xs i1).set i1 (a0c.mk (k+(szL a0n (xs.take i1):Int)) ((a1h (a0w k xs) xs i1).getD i1 zE).num ((a1h (a0w k xs) xs i1).getD i1 zE).kids)).set i1 (a0c.mk (((a1h (a0w k xs) xs i1).set i1 (a0c.mk (k+(szL a0n (xs.take i1):Int)) ((a1h (a0w k xs) xs i1).getD i1 zE).num ((a1h (a0w k xs) xs i1).getD i1 zE).kids)).getD i1 zE).kind ((k+(szL a0n (xs.take i1):Int))+(1:Int)) (((a1h (a0w k xs) xs i1).set i1 (a0c.mk (k+(szL a0n (xs.take i1):Int)) ((a1h (a0w k xs) xs i1).getD i1 zE).num ((a1h (a0w k xs) xs i1).getD i1 zE).kids)).getD i1 zE).kids)).getD i1 zE).kids)))=(a1h (a0w k xs) xs i2)∧True)))))))))))))∧((decide ((i1:Int)<(((a1h (a0w k xs) xs i1).length:Int))))=false →
 ((k+(szL a0n (xs.take i1):Int))=(k+(szL a0n xs:Int))∧(a1h (a0w k xs) xs i1)=(a0w k xs)))))))):=by kernel_rfl
theorem e4b(n:Nat)(hE:a0m [])(hO:a4g [])(hM:a5a [a4v n])(hS:a5v []):MK.Good (a4v (n+1)):=by
 refine⟨a0j b4k rfl (by decide),c1k (own:=[32]) (wr:=[]) (cl:=[]) (ro:=[]) hE hO hM hS b4k e0m (fun xs k=>c1d xs k) (fun x=>Nat.le_of_ble_eq_true rfl) (Nat.le_of_ble_eq_true (by kernel_rfl)) ?_⟩
 show ∀ (xs:List a0c) (k:Int),(msz xs<n+1∧0≤k∧k+(szL a0n xs:Int)≤4611686018427387904)→a0d k→awp (a2o [] [] [a4v n] [32] []) (a0k a4e) (c1d xs k) 0 (a6s a4e (a4v (n+1)).m xs k) (a3o a4e ⟨(.slice (.st .expr)),xs⟩ k)
 intro xs k hp hk
 rewrite [e4q n xs k]
 have f0:=d2v (a0w k xs) xs
 have f1:=b4c a0n xs
 have f2:=g4o xs
 refine⟨⟨0,⟨?_,⟨⟨trivial,⟨?_,⟨rfl,⟨?_,trivial⟩⟩⟩⟩,⟨?_,trivial⟩⟩⟩⟩,fun i1 a0=>have b0x0:=f0p (a0w k xs) xs i1 (b3y k xs);have b0x1:=c5w (a0w k xs) xs i1 (b3y k xs);have b0x2:=f9n (a0w k xs) xs zE i1 (b3y k xs);have b0x3:=a6v a0n zE xs i1;have b0x4:=a2l a0n xs i1;have b0x5:=a2l a0n xs (i1+1);have b0x6:=b0h a0n xs i1;have b0x7:=f7b (xs.getD i1 zE);have b0x8:=a1i zE xs i1;have b0x9:=a5n (xs.getD i1 zE);have b0x10:=h0z (k+(szL a0n (xs.take i1):Int)) (xs.getD i1 zE);have b0x11:=(fun (y:a0c) (h:i1<xs.length)=>g3f (a1h (a0w k xs) xs i1) i1 y zE (by rw[c5w _ _ i1 (b3y k xs)];exact h));have b0x12:=(fun (h:i1<xs.length) (y1 y2 y3:a0c)=>h0g k xs i1 zE h y1 y2 y3);⟨fun a1=>⟨?_,⟨?_,⟨?_,⟨?_,⟨?_,⟨?_,⟨?_,⟨i1+1,⟨?_,⟨?_,⟨⟨trivial,⟨?_,⟨rfl,⟨?_,trivial⟩⟩⟩⟩,⟨?_,trivial⟩⟩⟩⟩⟩⟩⟩⟩⟩⟩⟩⟩,fun a1=>⟨?_,?_⟩⟩⟩
 all_goals try and_intros
 all_goals first|rfl|trivial|omega|(simp only[List.set_set,List.length_set,decide_eq_true_eq,decide_eq_false_iff_not,a0g,a0d] at *;first|omega|(have hi:i2<xs.length:=by omega);simp only[b0x11 _ hi,b0x2 hi];first|omega|(refine b0x12 hi (a0c.mk 0 0 []) (a0c.mk 0 0 []) _ ?_;rw[b0x10,Int.add_assoc];rfl))|grind
theorem d4y:∀ n,a5a [a4v n]
 | 0=>⟨⟨a0j b4k rfl (by decide),fun _ _ _ _ _ h=>absurd (show msz _<0 from h.1) (Nat.not_lt_zero _)⟩,trivial⟩
 | n+1=>by
  have ih:=d4y n
  exact⟨e4b n trivial trivial ⟨ih.1,trivial⟩ trivial,trivial⟩
theorem c3y:MK.Good a5m :=
 ⟨a0j b4k rfl (by decide),fun (xs:List a0c) (k:Int) w v fp (hp:0≤k∧k+(szL a0n xs:Int)≤4611686018427387904)=>(d4y (msz xs+1)).1.2 xs k w v fp (show (msz xs<msz xs+1∧(0≤k∧k+(szL a0n xs:Int)≤4611686018427387904)) from ⟨Nat.lt_succ_self _,hp⟩)⟩
def a6c:MK:=⟨d3x,⟨(.st .expr),fun (x:a0c) (k:Int)=>(some (0≤k∧k+(szL a0n x.kids:Int)≤4611686018427387904),(a0c.mk x.kind x.num (a0w k x.kids)),k+(szL a0n x.kids:Int))⟩⟩
def c2o(x:a0c)(k:Int):Nat→a0s:=fun _ => .none
theorem e7i(x:a0c)(k:Int):awp (a2o [] [] [a5m] [8] []) (a0k a4l) (c2o x k) 0 (a6s a4l a6c.m x k) (a3o a4l ⟨(.st .expr),x⟩ k) =
 (((0≤k∧k+(szL a0n x.kids:Int)≤4611686018427387904)∧((k+(szL a0n x.kids:Int))=(k+(szL a0n x.kids:Int))∧(a0c.mk x.kind x.num (a0w k x.kids))=(a0c.mk x.kind x.num (a0w k x.kids))))):=by kernel_rfl
theorem e6x(hE:a0m [])(hO:a4g [])(hM:a5a [a5m])(hS:a5v []):MK.Good a6c:=by
 refine⟨a0j d0c rfl (by decide),c1k (own:=[8]) (wr:=[]) (cl:=[]) (ro:=[]) hE hO hM hS d0c e1z (fun x k=>c2o x k) (fun x=>Nat.le_of_ble_eq_true rfl) (Nat.le_of_ble_eq_true (by kernel_rfl)) ?_⟩
 show ∀ (x:a0c) (k:Int),(0≤k∧k+(szL a0n x.kids:Int)≤4611686018427387904)→a0d k→awp (a2o [] [] [a5m] [8] []) (a0k a4l) (c2o x k) 0 (a6s a4l a6c.m x k) (a3o a4l ⟨(.st .expr),x⟩ k)
 intro x k hp hk
 rewrite [e7i x k]
 refine⟨?_,⟨rfl,rfl⟩⟩
 all_goals try and_intros
 all_goals first|rfl|trivial|omega|(simp only[decide_eq_true_eq,decide_eq_false_iff_not,a0g,a0d,a1z,a2w,a1w,a1x] at *;omega)|(simp[a0g,a0d] at *;omega)|grind
theorem e0t:MK.Good a6c:=e6x trivial trivial ⟨c3y,trivial⟩ trivial
end
end Go.Proofs.Ytlaoejdeanljgaa

set_option linter.unusedVariables false
set_option linter.unusedSimpArgs false
set_option linter.unusedSectionVars false
namespace Go.Proofs.Ytlaoejdeanljgaa
noncomputable section
def mkL{α:Type}(cnt:α→Nat)(mk:Int→α→α)(k:Int):List α→List α
 | []=>[]
 | x::xs=>mk k x::mkL cnt mk (k+(cnt x:Int)) xs
theorem c0f{α:Type}(cnt:α→Nat)(mk:Int→α→α):∀ (k:Int) (xs:List α),(mkL cnt mk k xs).length=xs.length
 | _,[]=>rfl
 | k,x::xs=>by simp[mkL,c0f cnt mk _ xs]
theorem f0u{α:Type}(cnt:α→Nat)(mk:Int→α→α)(z:α):∀ (k:Int) (xs:List α) (i:Nat),i<xs.length→(mkL cnt mk k xs).getD i z=mk (k+(szL cnt (xs.take i):Int)) (xs.getD i z)
 | k,[],i,h=>by simp at h
 | k,x::xs,0,h=>by simp[mkL,szL]
 | k,x::xs,i+1,h=>by
  have:=f0u cnt mk z (k+(cnt x:Int)) xs i (by simpa using h)
  simp only[mkL,List.getD_cons_succ,this,List.take_succ_cons,szL]
  congr 1
  omega
theorem g8z{α:Type}(cnt:α→Nat)(mk:Int→α→α)(k:Int)(xs:List α)(i:Nat)(z:α)(h:i<xs.length)(y:α)(e:y=mk (k+(szL cnt (xs.take i):Int)) (xs.getD i z)) :
  (a1h (mkL cnt mk k xs) xs i).set i y=a1h (mkL cnt mk k xs) xs (i+1):=by
 rw[e,←f0u cnt mk z k xs i h,f0q _ _ z i (c0f cnt mk k xs) h]
theorem g1z{α:Type}(cnt:α→Nat)(h:∀ x,1≤cnt x):∀ xs:List α,xs.length≤szL cnt xs
 | []=>by simp[szL]
 | x::xs=>by
  have:=g1z cnt h xs
  have:=h x
  simp only[szL,List.length_cons];omega
end
end Go.Proofs.Ytlaoejdeanljgaa

set_option linter.unusedVariables false
set_option linter.unusedSimpArgs false
set_option linter.unusedSectionVars false
set_option maxRecDepth 4000
set_option maxHeartbeats 4000000
namespace Go.Proofs.Ytlaoejdeanljgaa
noncomputable section
mutual
theorem g4n:∀ (k:Int) (x:a0c),a0n (mkX k x)=a0n x
 | k,⟨a,b,ks⟩=>by
  have:=e9u (k+2) ks
  simp only[mkX,a0n,this]
theorem e9u:∀ (k:Int) (xs:List a0c),c5v (a0w k xs)=c5v xs
 | _,[]=>rfl
 | k,x::xs=>by
  have h1:=g4n k x
  have h2:=e9u (k+(a0n x:Int)) xs
  simp only[a0w,c5v,h1,h2]
end
mutual
theorem h1a:∀ (k:Int) (x:a0c),mkX k (mkX k x)=mkX k x
 | k,⟨a,b,ks⟩=>by
  have:=e5g (k+2) ks
  simp only[mkX,this]
theorem e5g:∀ (k:Int) (xs:List a0c),a0w k (a0w k xs)=a0w k xs
 | _,[]=>rfl
 | k,x::xs=>by
  have h1:=h1a k x
  have h2:=g4n k x
  have h3:=e5g (k+(a0n x:Int)) xs
  simp only[a0w,h1,h2,h3]
end
def a7w(k:Int)(xs:List a0c):Bool:=eqB (a0w k xs) xs
def a2k(k:Int)(xs:List a0c):Int:=bif a7w k xs then k+(szL a0n xs:Int) else -1
theorem c6i(k:Int)(xs:List a0c):(a7w k xs=true∧a2k k xs=k+(szL a0n xs:Int))∨(a7w k xs=false∧a2k k xs = -1):=by
 unfold a2k
 cases a7w k xs<;>simp
theorem f9u(z:a0c):∀ (k:Int) (xs:List a0c) (i:Nat),i<xs.length→a0w k (xs.take (i+1))=a0w k (xs.take i)++[mkX (k+(szL a0n (xs.take i):Int)) (xs.getD i z)]
 | k,[],i,h=>by simp at h
 | k,x::xs,0,h=>by simp[a0w,szL]
 | k,x::xs,i+1,h=>by
  have:=f9u z (k+(a0n x:Int)) xs i (by simpa using h)
  simp only[List.take_succ_cons,a0w,this,List.getD_cons_succ,szL,List.cons_append]
  congr 4
  omega
def okX(k:Int)(x:a0c):Bool:=decide (x.kind=k)&&decide (x.num=k+1)&&a7w (k+2) x.kids
theorem g4u(k:Int)(x:a0c):okX k x=true↔mkX k x=x:=by
 cases x
 simp[okX,a7w,mkX]
 constructor
 ·rintro⟨⟨h1,h2⟩,h3⟩;exact⟨h1.symm,h2.symm,h3⟩
 ·rintro⟨h1,h2,h3⟩;exact⟨⟨h1.symm,h2.symm⟩,h3⟩
theorem g7r(z:a0c)(k:Int)(xs:List a0c)(i:Nat)(h:i<xs.length):a7w k (xs.take (i+1))=(a7w k (xs.take i)&&okX (k+(szL a0n (xs.take i):Int)) (xs.getD i z)):=by
 rw[Bool.eq_iff_iff,Bool.and_eq_true,g4u]
 simp only[a7w,a6g]
 rw[f9u z k xs i h,a5r z xs i h]
 constructor
 ·intro e
  have:=List.append_inj e (by rw[b3y])
  exact⟨this.1,by simpa using this.2⟩
 ·rintro⟨e1,e2⟩;rw[e1,e2]
theorem g9b(z:a0c)(k:Int)(xs:List a0c)(i:Nat)(h:i<xs.length)(e:okX (k+(szL a0n (xs.take i):Int)) (xs.getD i z)=false):a7w k xs=false:=by
 cases hb:a7w k xs with
 | false=>rfl
 | true =>
  have h1:=e3x z k xs i h
  simp only[a7w,a6g] at hb
  rw[hb] at h1
  have:=(g4u _ _).2 h1.symm
  rw[e] at this;cases this
theorem g7q(k:Int)(xs:List a0c)(i:Nat)(h:xs.length≤i):a7w k (xs.take i)=a7w k xs:=by rw[List.take_of_length_le h]
theorem g7p(k:Int)(x:a0c):okX k x=(decide (x.kind=k)&&decide (x.num=k+1)&&a7w (k+1+1) x.kids):=by
 rw[okX,show k+2=k+1+1 by omega]
def a8x(n:Nat):Ctr:=⟨b6x,[.v (.slice (.st .expr)), .v (.int .i64)],fun (xs:List a0c) (k:Int)=>⟨(some (msz xs<n∧0≤k∧k+(szL a0n xs:Int)≤4611686018427387904),[⟨(.int .i64),a2k k xs⟩])⟩⟩
def a6b:Ctr:=⟨b6x,[.v (.slice (.st .expr)), .v (.int .i64)],fun (xs:List a0c) (k:Int)=>⟨(some (0≤k∧k+(szL a0n xs:Int)≤4611686018427387904),[⟨(.int .i64),a2k k xs⟩])⟩⟩
def d1l(xs:List a0c)(k:Int):Nat→a0s:=(fun zb=>if Nat.beq zb 0 then .mk (Nat) (fun i=>i≤xs.length∧a7w k (xs.take i)=true) (fun i=>xs.length - i) [] [2,3] (fun i=>[(5, .imm ⟨(.int .i64),((i:Int):Int)⟩),(1, .imm ⟨(.int .i64),((k+(szL a0n (xs.take i):Int)):Int)⟩)]) [0,1,4,5,6,7,8,9,10,11,12,13,14,15,16,17,18,19,20,21,22,23,24,25,26,27,28,29,30,31,32,33,34,35,36,37,38,39] (fun i=>[]) [] [] (fun i=>fun _ => .none) else .none)
theorem e7g(n:Nat)(xs:List a0c)(k:Int):awp (a0u [a8x n]) (a0k a7j) (d1l xs k) 0 (a1b (a0u [a8x n]) a7j fun r=>a1d r [⟨(.int .i64),a2k k xs⟩]) (a0p a7j [.val ⟨(.slice (.st .expr)),xs⟩, .val ⟨(.int .i64),k⟩]) =
 (((∃ i1:Nat,((i1≤xs.length∧a7w k (xs.take i1)=true)∧((xs=xs∧(k=(k+(szL a0n (xs.take i1):Int))∧((0:Int)=(i1:Int)∧True)))∧True)))∧(∀ i1:Nat,((i1≤xs.length∧a7w k (xs.take i1)=true) →
 (a0d ((xs.length:Int)) →
 (((decide ((i1:Int)<((xs.length:Int))))=true →
 (a0g (i1:Int) xs.length∧(a0d (xs.getD i1 zE).kind →
 (((!(decide ((xs.getD i1 zE).kind=(k+(szL a0n (xs.take i1):Int)))))=true →
 (-1:Int)=(a2k k xs))∧((!(decide ((xs.getD i1 zE).kind=(k+(szL a0n (xs.take i1):Int)))))=false →
 (a0d ((k+(szL a0n (xs.take i1):Int))+(1:Int))∧(a0g (i1:Int) xs.length∧(a0d (xs.getD i1 zE).num →
 (((!(decide ((xs.getD i1 zE).num=((k+(szL a0n (xs.take i1):Int))+(1:Int)))))=true →
 (-1:Int)=(a2k k xs))∧((!(decide ((xs.getD i1 zE).num=((k+(szL a0n (xs.take i1):Int))+(1:Int)))))=false →
 (a0d (((k+(szL a0n (xs.take i1):Int))+(1:Int))+(1:Int))∧(a0g (i1:Int) xs.length∧((xs.getD i1 zE).kids.length≤140737488355328 →
 ((msz (xs.getD i1 zE).kids<n∧0≤(((k+(szL a0n (xs.take i1):Int))+(1:Int))+(1:Int))∧(((k+(szL a0n (xs.take i1):Int))+(1:Int))+(1:Int))+(szL a0n (xs.getD i1 zE).kids:Int)≤4611686018427387904)∧(a0d (a2k (((k+(szL a0n (xs.take i1):Int))+(1:Int))+(1:Int)) (xs.getD i1 zE).kids) →
 (((decide ((a2k (((k+(szL a0n (xs.take i1):Int))+(1:Int))+(1:Int)) (xs.getD i1 zE).kids)<(0:Int)))=true →
 (-1:Int)=(a2k k xs))∧((decide ((a2k (((k+(szL a0n (xs.take i1):Int))+(1:Int))+(1:Int)) (xs.getD i1 zE).kids)<(0:Int)))=false →
 (a0d ((i1:Int)+(1:Int))∧(∃ i2:Nat,((i2≤xs.length∧a7w k (xs.take i2)=true)∧(xs.length - i2<xs.length - i1∧((xs=xs∧((a2k (((k+(szL a0n (xs.take i1):Int))+(1:Int))+(1:Int)) (xs.getD i1 zE).kids)=(k+(szL a0n (xs.take i2):Int))∧(((i1:Int)+(1:Int))=(i2:Int)∧True)))∧True))))))))))))))))))))))∧((decide ((i1:Int)<((xs.length:Int))))=false →
 (k+(szL a0n (xs.take i1):Int))=(a2k k xs)))))))):=by kernel_rfl
theorem e6v(n:Nat)(hE:a0m [a8x n]):Ctr.Good (a8x (n+1)):=by
 refine⟨a0j b4i rfl (by decide),?_⟩
 show ∀ (xs:List a0c) (k:Int),(msz xs<n+1∧0≤k∧k+(szL a0n xs:Int)≤4611686018427387904)→a0z prog b6x [.val ⟨(.slice (.st .expr)),xs⟩, .val ⟨(.int .i64),k⟩] (·=[⟨(.int .i64),a2k k xs⟩])
 intro xs k hp
 refine a0x (wr:=[]) (cl:=[]) (ro:=[]) hE b4i e0k (d1l xs k) ?_
 rewrite [e7g n xs k]
 have f0:a7w k (xs.take 0)=true:=by simp[a7w,a0w]
 have f1:=b4c a0n xs
 have f2:=c6i k xs
 refine⟨⟨0,⟨?_,⟨⟨rfl,⟨?_,⟨?_,trivial⟩⟩⟩,trivial⟩⟩⟩,fun i1 a0=>have b0x0:=g7r zE k xs i1;have b0x1:=g9b zE k xs i1;have b0x2:=g7q k xs i1;have b0x3:=g7p (k+(szL a0n (xs.take i1):Int)) (xs.getD i1 zE);have b0x4:=c6i ((k+(szL a0n (xs.take i1):Int))+1+1) (xs.getD i1 zE).kids;have b0x5:=a6v a0n zE xs i1;have b0x6:=a2l a0n xs i1;have b0x7:=a2l a0n xs (i1+1);have b0x8:=b0h a0n xs i1;have b0x9:=f7b (xs.getD i1 zE);have b0x10:=a1i zE xs i1;have b0x11:=a5n (xs.getD i1 zE);fun a1=>⟨fun a2=>⟨?_,fun a3=>⟨fun a4=>?_,fun a4=>⟨?_,⟨?_,fun a5=>⟨fun a6=>?_,fun a6=>⟨?_,⟨?_,fun a7=>⟨?_,fun a8=>⟨fun a9=>?_,fun a9=>⟨?_,⟨i1+1,⟨?_,⟨?_,⟨⟨rfl,⟨?_,⟨?_,trivial⟩⟩⟩,trivial⟩⟩⟩⟩⟩⟩⟩⟩⟩⟩⟩⟩⟩⟩,fun a2=>?_⟩⟩
 all_goals try and_intros
 all_goals first|rfl|trivial|omega|(simp only[decide_eq_true_eq,decide_eq_false_iff_not,a0g,a0d,Bool.not_eq_true',Bool.not_eq_false'] at *;first|omega|grind)
theorem d8u :∀ n,a0m [a8x n]
 | 0=>⟨⟨a0j b4i rfl (by decide),fun _ _ h=>absurd h.1 (Nat.not_lt_zero _)⟩,trivial⟩
 | n+1=>by
  have ih:=d8u  n
  exact⟨e6v n ⟨ih.1,trivial⟩,trivial⟩
theorem c4q :Ctr.Good a6b :=
 ⟨a0j b4i rfl (by decide),fun xs k hp=>(d8u  (msz xs+1)).1.2 xs k (⟨Nat.lt_succ_self _,hp⟩)⟩
def b2t:Ctr:=⟨c4d,[.v (.st .expr), .v (.int .i64)],fun (x:a0c) (k:Int)=>⟨(some (0≤k∧k+(szL a0n x.kids:Int)≤4611686018427387904),[⟨(.int .i64),a2k k x.kids⟩])⟩⟩
def d3k(x:a0c)(k:Int):Nat→a0s:=fun _ => .none
theorem f1y(x:a0c)(k:Int):awp (a0u [a6b] [] [] [2]) (a0k a8l) (d3k x k) 0 (a1b (a0u [a6b] [] [] [2]) a8l fun r=>a1d r [⟨(.int .i64),a2k k x.kids⟩]) (a0p a8l [.val ⟨(.st .expr),x⟩, .val ⟨(.int .i64),k⟩]) =
 ((x.kids.length≤140737488355328 →
 ((0≤k∧k+(szL a0n x.kids:Int)≤4611686018427387904)∧(a0d (a2k k x.kids) →
 (((decide ((a2k k x.kids)<(0:Int)))=true →
 (-1:Int)=(a2k k x.kids))∧((decide ((a2k k x.kids)<(0:Int)))=false →
 (a2k k x.kids)=(a2k k x.kids))))))):=by kernel_rfl
theorem f1e(hE:a0m [a6b]):Ctr.Good b2t:=by
 refine⟨a0j d0a rfl (by decide),?_⟩
 show ∀ (x:a0c) (k:Int),(0≤k∧k+(szL a0n x.kids:Int)≤4611686018427387904)→a0z prog c4d [.val ⟨(.st .expr),x⟩, .val ⟨(.int .i64),k⟩] (·=[⟨(.int .i64),a2k k x.kids⟩])
 intro x k hp
 refine a0x (wr:=[]) (cl:=[]) (ro:=[2]) hE d0a e1x (d3k x k) ?_
 rewrite [f1y x k]
 have f2:=c6i k x.kids
 refine fun a0=>⟨?_,fun a1=>⟨fun a2=>?_,fun a2=>rfl⟩⟩
 all_goals try and_intros
 all_goals first|rfl|trivial|omega|(simp only[decide_eq_true_eq,decide_eq_false_iff_not,a0g,a0d,Bool.not_eq_true',Bool.not_eq_false'] at *;first|omega|grind)
theorem e3b:Ctr.Good b2t:=f1e ⟨c4q,trivial⟩
end
end Go.Proofs.Ytlaoejdeanljgaa

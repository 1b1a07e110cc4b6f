/- Expr, Expr2, Shaped. -/
import Derived.Test.YtlaoejdeanljgaaVmUse
import Derived.Test.YtlaoejdeanljgaaVmLib
set_option linter.unusedVariables false
set_option linter.unusedSimpArgs false
set_option linter.unusedSectionVars false
set_option maxRecDepth 4000
set_option maxHeartbeats 4000000
namespace Go.Proofs.Ytlaoejdeanljgaa
noncomputable section
mutual
def a1a:a0c→Nat
 | ⟨_,_,ks⟩=>1+c3i ks
def c3i:List a0c→Nat
 | []=>0
 | k::ks=>a1a k+c3i ks
end
theorem f4k:∀ xs,c3i xs=szL a1a xs
 | []=>rfl
 | x::xs=>by rw[c3i,szL,f4k xs]
theorem f9x(x:a0c):a1a x=1+szL a1a x.kids:=by
 cases x;simp[a1a,f4k]
mutual
def a1q:a0c→Nat
 | ⟨_,_,ks⟩=>1+c4y ks
def c4y:List a0c→Nat
 | []=>0
 | k::ks=>max (a1q k) (c4y ks)
end
theorem f3s:∀ xs,c4y xs=a3p a1q xs
 | []=>rfl
 | x::xs=>by rw[c4y,a3p,f3s xs]
theorem e2k(x:a0c):a1q x=1+a3p a1q x.kids:=by
 cases x;simp[a1q,f3s]
mutual
theorem e8d:∀ x:a0c,a1q x≤a1a x
 | ⟨k,n,ks⟩=>by
  have:=e2n ks
  simp only[a1q,a1a];omega
theorem e2n:∀ xs:List a0c,c4y xs≤c3i xs
 | []=>by simp[c4y]
 | x::xs=>by
  have h1:=e8d x
  have h2:=e2n xs
  simp only[c4y,c3i];omega
end
def e5b(k:Int):Bool:=decide (k=1)||decide (k=2)||decide (k=3)||decide (k=5)||decide (k=6)||decide (k=7)
mutual
def a1n:a0c→Bool
 | ⟨k,_,ks⟩=>e5b k&&f3r ks
def f3r:List a0c→Bool
 | []=>true
 | k::ks=>a1n k&&f3r ks
end
theorem f9j:∀ xs,f3r xs=a2t a1n xs
 | []=>rfl
 | x::xs=>by rw[f3r,a2t,f9j xs]
theorem g2a(x:a0c):a1n x=(e5b x.kind&&a2t a1n x.kids):=by
 cases x;simp[a1n,f9j]
def a2u(k:Int):Int:=if k=1∨k=2∨k=3∨k=4 then 0 else if k=5∨k=8 then 1 else if k=6∨k=7 then 2 else -1
def a2p:Ctr:=⟨c7q,[.v (.int .i64), .v (.int .i64), .v (.int .i64)],fun (n:Int) (least:Int) (most:Int)=>⟨(none,[⟨.bool,decide (least≤n∧n≤most)⟩])⟩⟩
def d9r(n:Int)(least:Int)(most:Int):Nat→a0s:=fun _ => .none
theorem f8r(n:Int)(least:Int)(most:Int):awp (a0u []) (a0k b1p) (d9r n least most) 0 (a1b (a0u []) b1p fun r=>a1d r [⟨.bool,decide (least≤n∧n≤most)⟩]) (a0p b1p [.val ⟨(.int .i64),n⟩, .val ⟨(.int .i64),least⟩, .val ⟨(.int .i64),most⟩]) =
 ((((decide (least≤n))=true →
 ((decide (n≤most))=(decide (least≤n∧n≤most))))∧((decide (least≤n))=(!true) →
 (false=(decide (least≤n∧n≤most)))))):=by kernel_rfl
theorem f7v(hE:a0m []):Ctr.Good a2p:=by
 refine⟨a0j d5h rfl (by decide),?_⟩
 show ∀ (n:Int) (least:Int) (most:Int),True→a0z prog c7q [.val ⟨(.int .i64),n⟩, .val ⟨(.int .i64),least⟩, .val ⟨(.int .i64),most⟩] (·=[⟨.bool,decide (least≤n∧n≤most)⟩])
 intro n least most _
 refine a0x (wr:=[]) (cl:=[]) (ro:=[]) hE d5h e9g (d9r n least most) ?_
 rewrite [f8r n least most]
 refine⟨fun a0=>?_,fun a0=>?_⟩
 all_goals try and_intros
 all_goals first|rfl|trivial|(simp_all;done)|(simp_all;omega)
theorem b0l:Ctr.Good a2p:=f7v trivial
def a3l:Ctr:=⟨c4f,[.v (.int .i64), .v (.int .i64), .v (.int .i64)],fun (n:Int) (low:Int) (high:Int)=>⟨(none,[⟨.bool,decide (low≤n∧n≤high)⟩])⟩⟩
def e3n(n:Int)(low:Int)(high:Int):Nat→a0s:=fun _ => .none
theorem g1g(n:Int)(low:Int)(high:Int):awp (a0u []) (a0k b4y) (e3n n low high) 0 (a1b (a0u []) b4y fun r=>a1d r [⟨.bool,decide (low≤n∧n≤high)⟩]) (a0p b4y [.val ⟨(.int .i64),n⟩, .val ⟨(.int .i64),low⟩, .val ⟨(.int .i64),high⟩]) =
 ((((decide (low≤n))=true →
 ((decide (n≤high))=(decide (low≤n∧n≤high))))∧((decide (low≤n))=(!true) →
 (false=(decide (low≤n∧n≤high)))))):=by kernel_rfl
theorem g0y(hE:a0m []):Ctr.Good a3l:=by
 refine⟨a0j d8z rfl (by decide),?_⟩
 show ∀ (n:Int) (low:Int) (high:Int),True→a0z prog c4f [.val ⟨(.int .i64),n⟩, .val ⟨(.int .i64),low⟩, .val ⟨(.int .i64),high⟩] (·=[⟨.bool,decide (low≤n∧n≤high)⟩])
 intro n low high _
 refine a0x (wr:=[]) (cl:=[]) (ro:=[]) hE d8z f3i (e3n n low high) ?_
 rewrite [g1g n low high]
 refine⟨fun a0=>?_,fun a0=>?_⟩
 all_goals try and_intros
 all_goals first|rfl|trivial|(simp_all;done)|(simp_all;omega)
theorem b8d:Ctr.Good a3l:=g0y trivial
def a7a:Ctr:=⟨c7r,[.v (.int .i64), .v (.int .i64)],fun (a:Int) (b:Int)=>⟨(none,[⟨(.int .i64),max a b⟩])⟩⟩
def d9y(a:Int)(b:Int):Nat→a0s:=fun _ => .none
theorem f8y(a:Int)(b:Int):awp (a0u []) (a0k b1u) (d9y a b) 0 (a1b (a0u []) b1u fun r=>a1d r [⟨(.int .i64),max a b⟩]) (a0p b1u [.val ⟨(.int .i64),a⟩, .val ⟨(.int .i64),b⟩]) =
 ((((decide (b<a))=true →
 a=(max a b))∧((decide (b<a))=false →
 b=(max a b)))):=by kernel_rfl
theorem f8c(hE:a0m []):Ctr.Good a7a:=by
 refine⟨a0j d5i rfl (by decide),?_⟩
 show ∀ (a:Int) (b:Int),True→a0z prog c7r [.val ⟨(.int .i64),a⟩, .val ⟨(.int .i64),b⟩] (·=[⟨(.int .i64),max a b⟩])
 intro a b _
 refine a0x (wr:=[]) (cl:=[]) (ro:=[]) hE d5i e9l (d9y a b) ?_
 rewrite [f8y a b]
 refine⟨fun a0=>?_,fun a0=>?_⟩
 all_goals try and_intros
 all_goals first|rfl|trivial|(simp_all;omega)
theorem d0u:Ctr.Good a7a:=f8c trivial
def b7l:Ctr:=⟨c7o,[.v (.int .i64)],fun (k:Int)=>⟨(none,[⟨(.int .i64),a2u k⟩])⟩⟩
def d9o(k:Int):Nat→a0s:=fun _ => .none
abbrev d2w(k:Int):Prop:=(((decide (k=(6:Int)))=true →
 (((decide (k=(6:Int)))=true →
 (2:Int)=(a2u k))∧((decide (k=(6:Int)))=false →
 (-1:Int)=(a2u k))))∧((decide (k=(6:Int)))=false →
 (((decide (k=(7:Int)))=true →
 (2:Int)=(a2u k))∧((decide (k=(7:Int)))=false →
 (-1:Int)=(a2u k)))))
abbrev b8e(k:Int):Prop:=(((decide (k=(5:Int)))=true →
 (((decide (k=(5:Int)))=true →
 (1:Int)=(a2u k))∧((decide (k=(5:Int)))=false →
 (d2w k))))∧((decide (k=(5:Int)))=false →
 (((decide (k=(8:Int)))=true →
 (1:Int)=(a2u k))∧((decide (k=(8:Int)))=false →
 (d2w k)))))
theorem f8o(k:Int):awp (a0u []) (a0k b1m) (d9o k) 0 (a1b (a0u []) b1m fun r=>a1d r [⟨(.int .i64),a2u k⟩]) (a0p b1m [.val ⟨(.int .i64),k⟩]) =
 ((((decide (k=(1:Int)))=true →
 (((decide (k=(1:Int)))=true →
 (0:Int)=(a2u k))∧((decide (k=(1:Int)))=false →
 (b8e k))))∧((decide (k=(1:Int)))=false →
 (((decide (k=(2:Int)))=true →
 (((decide (k=(2:Int)))=true →
 (0:Int)=(a2u k))∧((decide (k=(2:Int)))=false →
 (b8e k))))∧((decide (k=(2:Int)))=false →
 (((decide (k=(3:Int)))=true →
 (((decide (k=(3:Int)))=true →
 (0:Int)=(a2u k))∧((decide (k=(3:Int)))=false →
 (b8e k))))∧((decide (k=(3:Int)))=false →
 (((decide (k=(4:Int)))=true →
 (0:Int)=(a2u k))∧((decide (k=(4:Int)))=false →
 (b8e k)))))))))):=by kernel_rfl
theorem f7s(hE:a0m []):Ctr.Good b7l:=by
 refine⟨a0j d5f rfl (by decide),?_⟩
 show ∀ (k:Int),True→a0z prog c7o [.val ⟨(.int .i64),k⟩] (·=[⟨(.int .i64),a2u k⟩])
 intro k _
 refine a0x (wr:=[]) (cl:=[]) (ro:=[]) hE d5f e9d (d9o k) ?_
 rewrite [f8o k]
 refine⟨fun a0=>⟨fun a1=>?_,fun a1=>⟨fun a2=>⟨fun a3=>?_,fun a3=>⟨fun a4=>⟨fun a5=>?_,fun a5=>?_⟩,fun a4=>⟨fun a5=>?_,fun a5=>?_⟩⟩⟩,fun a2=>⟨fun a3=>?_,fun a3=>⟨fun a4=>⟨fun a5=>?_,fun a5=>?_⟩,fun a4=>⟨fun a5=>?_,fun a5=>?_⟩⟩⟩⟩⟩,fun a0=>⟨fun a1=>⟨fun a2=>?_,fun a2=>⟨fun a3=>⟨fun a4=>?_,fun a4=>⟨fun a5=>⟨fun a6=>?_,fun a6=>?_⟩,fun a5=>⟨fun a6=>?_,fun a6=>?_⟩⟩⟩,fun a3=>⟨fun a4=>?_,fun a4=>⟨fun a5=>⟨fun a6=>?_,fun a6=>?_⟩,fun a5=>⟨fun a6=>?_,fun a6=>?_⟩⟩⟩⟩⟩,fun a1=>⟨fun a2=>⟨fun a3=>?_,fun a3=>⟨fun a4=>⟨fun a5=>?_,fun a5=>⟨fun a6=>⟨fun a7=>?_,fun a7=>?_⟩,fun a6=>⟨fun a7=>?_,fun a7=>?_⟩⟩⟩,fun a4=>⟨fun a5=>?_,fun a5=>⟨fun a6=>⟨fun a7=>?_,fun a7=>?_⟩,fun a6=>⟨fun a7=>?_,fun a7=>?_⟩⟩⟩⟩⟩,fun a2=>⟨fun a3=>?_,fun a3=>⟨fun a4=>⟨fun a5=>?_,fun a5=>⟨fun a6=>⟨fun a7=>?_,fun a7=>?_⟩,fun a6=>⟨fun a7=>?_,fun a7=>?_⟩⟩⟩,fun a4=>⟨fun a5=>?_,fun a5=>⟨fun a6=>⟨fun a7=>?_,fun a7=>?_⟩,fun a6=>⟨fun a7=>?_,fun a7=>?_⟩⟩⟩⟩⟩⟩⟩⟩
 all_goals try and_intros
 all_goals first|rfl|trivial|(simp only[decide_eq_true_eq,decide_eq_false_iff_not] at *;simp[a2u, *];done)|(simp only[decide_eq_true_eq,decide_eq_false_iff_not] at *;unfold a2u;repeat (first|omega|split))
theorem f0f:Ctr.Good b7l:=f7s trivial
def b5e:Ctr:=⟨c5i,[.v (.int .i64)],fun (k:Int)=>⟨(none,[⟨(.int .i64),a2u k⟩])⟩⟩
def d6e(k:Int):Nat→a0s:=fun _ => .none
abbrev d0x(k:Int):Prop:=(((decide (k=(6:Int)))=true →
 (((decide (k=(6:Int)))=true →
 (2:Int)=(a2u k))∧((decide (k=(6:Int)))=false →
 (-1:Int)=(a2u k))))∧((decide (k=(6:Int)))=false →
 (((decide (k=(7:Int)))=true →
 (2:Int)=(a2u k))∧((decide (k=(7:Int)))=false →
 (-1:Int)=(a2u k)))))
abbrev b6p(k:Int):Prop:=(((decide (k=(5:Int)))=true →
 (((decide (k=(5:Int)))=true →
 (1:Int)=(a2u k))∧((decide (k=(5:Int)))=false →
 (d0x k))))∧((decide (k=(5:Int)))=false →
 (((decide (k=(8:Int)))=true →
 (1:Int)=(a2u k))∧((decide (k=(8:Int)))=false →
 (d0x k)))))
theorem f6b(k:Int):awp (a0u []) (a0k a9t) (d6e k) 0 (a1b (a0u []) a9t fun r=>a1d r [⟨(.int .i64),a2u k⟩]) (a0p a9t [.val ⟨(.int .i64),k⟩]) =
 ((((decide (k=(1:Int)))=true →
 (((decide (k=(1:Int)))=true →
 (0:Int)=(a2u k))∧((decide (k=(1:Int)))=false →
 (b6p k))))∧((decide (k=(1:Int)))=false →
 (((decide (k=(2:Int)))=true →
 (((decide (k=(2:Int)))=true →
 (0:Int)=(a2u k))∧((decide (k=(2:Int)))=false →
 (b6p k))))∧((decide (k=(2:Int)))=false →
 (((decide (k=(3:Int)))=true →
 (((decide (k=(3:Int)))=true →
 (0:Int)=(a2u k))∧((decide (k=(3:Int)))=false →
 (b6p k))))∧((decide (k=(3:Int)))=false →
 (((decide (k=(4:Int)))=true →
 (0:Int)=(a2u k))∧((decide (k=(4:Int)))=false →
 (b6p k)))))))))):=by kernel_rfl
theorem f4t(hE:a0m []):Ctr.Good b5e:=by
 refine⟨a0j d2m rfl (by decide),?_⟩
 show ∀ (k:Int),True→a0z prog c5i [.val ⟨(.int .i64),k⟩] (·=[⟨(.int .i64),a2u k⟩])
 intro k _
 refine a0x (wr:=[]) (cl:=[]) (ro:=[]) hE d2m e5t (d6e k) ?_
 rewrite [f6b k]
 refine⟨fun a0=>⟨fun a1=>?_,fun a1=>⟨fun a2=>⟨fun a3=>?_,fun a3=>⟨fun a4=>⟨fun a5=>?_,fun a5=>?_⟩,fun a4=>⟨fun a5=>?_,fun a5=>?_⟩⟩⟩,fun a2=>⟨fun a3=>?_,fun a3=>⟨fun a4=>⟨fun a5=>?_,fun a5=>?_⟩,fun a4=>⟨fun a5=>?_,fun a5=>?_⟩⟩⟩⟩⟩,fun a0=>⟨fun a1=>⟨fun a2=>?_,fun a2=>⟨fun a3=>⟨fun a4=>?_,fun a4=>⟨fun a5=>⟨fun a6=>?_,fun a6=>?_⟩,fun a5=>⟨fun a6=>?_,fun a6=>?_⟩⟩⟩,fun a3=>⟨fun a4=>?_,fun a4=>⟨fun a5=>⟨fun a6=>?_,fun a6=>?_⟩,fun a5=>⟨fun a6=>?_,fun a6=>?_⟩⟩⟩⟩⟩,fun a1=>⟨fun a2=>⟨fun a3=>?_,fun a3=>⟨fun a4=>⟨fun a5=>?_,fun a5=>⟨fun a6=>⟨fun a7=>?_,fun a7=>?_⟩,fun a6=>⟨fun a7=>?_,fun a7=>?_⟩⟩⟩,fun a4=>⟨fun a5=>?_,fun a5=>⟨fun a6=>⟨fun a7=>?_,fun a7=>?_⟩,fun a6=>⟨fun a7=>?_,fun a7=>?_⟩⟩⟩⟩⟩,fun a2=>⟨fun a3=>?_,fun a3=>⟨fun a4=>⟨fun a5=>?_,fun a5=>⟨fun a6=>⟨fun a7=>?_,fun a7=>?_⟩,fun a6=>⟨fun a7=>?_,fun a7=>?_⟩⟩⟩,fun a4=>⟨fun a5=>?_,fun a5=>⟨fun a6=>⟨fun a7=>?_,fun a7=>?_⟩,fun a6=>⟨fun a7=>?_,fun a7=>?_⟩⟩⟩⟩⟩⟩⟩⟩
 all_goals try and_intros
 all_goals first|rfl|trivial|(simp only[decide_eq_true_eq,decide_eq_false_iff_not] at *;simp[a2u, *];done)|(simp only[decide_eq_true_eq,decide_eq_false_iff_not] at *;unfold a2u;repeat (first|omega|split))
theorem e6h:Ctr.Good b5e:=f4t trivial
def a7e(n:Nat):Ctr:=⟨b3p,[.v (.st .expr)],fun (x:a0c)=>⟨(some (msz x<n),[⟨.bool,a1n x⟩])⟩⟩
def a4r:Ctr:=⟨b3p,[.v (.st .expr)],fun (x:a0c)=>⟨(none,[⟨.bool,a1n x⟩])⟩⟩
def c6r(x:a0c):Nat→a0s:=(fun zb=>if Nat.beq zb 1 then .mk (Nat) (fun k=>k≤x.kids.length∧a2t a1n (x.kids.take k)=true) (fun k=>x.kids.length - k) [] [0,1,3,5,6,7,8,9,10,11,12,13,14] (fun k=>[(17, .imm ⟨(.int .i64),((k:Int):Int)⟩)]) [2,4,15,16,17,18,19,20,21,22,23,24] (fun k=>[]) [] [] (fun k=>fun _ => .none) else .none)
abbrev a5e(n:Nat)(x:a0c):Prop:=(x.kids.length≤140737488355328 →
 (a0d ((x.kids.length:Int)) →
 ((∃ k1:Nat,((k1≤x.kids.length∧a2t a1n (x.kids.take k1)=true)∧((x.kids=x.kids∧(((x.kids.length:Int))=((x.kids.length:Int))∧((0:Int)=(k1:Int)∧True)))∧True)))∧(∀ k1:Nat,((k1≤x.kids.length∧a2t a1n (x.kids.take k1)=true) →
 (((decide ((k1:Int)<((x.kids.length:Int))))=true →
 (a0g (k1:Int) x.kids.length∧(msz (a1g (x.kids.getD k1 zE))<n∧(((!(a1n (a1g (x.kids.getD k1 zE))))=true →
 false=(a1n x))∧((!(a1n (a1g (x.kids.getD k1 zE))))=false →
 (a0d ((k1:Int)+(1:Int))∧(∃ k2:Nat,((k2≤x.kids.length∧a2t a1n (x.kids.take k2)=true)∧(x.kids.length - k2<x.kids.length - k1∧((x.kids=x.kids∧(((x.kids.length:Int))=((x.kids.length:Int))∧(((k1:Int)+(1:Int))=(k2:Int)∧True)))∧True))))))))))∧((decide ((k1:Int)<((x.kids.length:Int))))=false →
 true=(a1n x))))))))
theorem e1d(n:Nat)(x:a0c):awp (a0u [a7e n] [] [] [1]) (a0k a6h) (c6r x) 0 (a1b (a0u [a7e n] [] [] [1]) a6h fun r=>a1d r [⟨.bool,a1n x⟩]) (a0p a6h [.val ⟨(.st .expr),x⟩]) =
 ((a0d x.kind →
 (((decide (x.kind=(1:Int)))=true →
 (((decide (x.kind=(1:Int)))=true →
 (a5e n x))∧((decide (x.kind=(1:Int)))=false →
 false=(a1n x))))∧((decide (x.kind=(1:Int)))=false →
 (((decide (x.kind=(2:Int)))=true →
 (((decide (x.kind=(2:Int)))=true →
 (a5e n x))∧((decide (x.kind=(2:Int)))=false →
 false=(a1n x))))∧((decide (x.kind=(2:Int)))=false →
 (((decide (x.kind=(3:Int)))=true →
 (((decide (x.kind=(3:Int)))=true →
 (a5e n x))∧((decide (x.kind=(3:Int)))=false →
 false=(a1n x))))∧((decide (x.kind=(3:Int)))=false →
 (((decide (x.kind=(5:Int)))=true →
 (((decide (x.kind=(5:Int)))=true →
 (a5e n x))∧((decide (x.kind=(5:Int)))=false →
 false=(a1n x))))∧((decide (x.kind=(5:Int)))=false →
 (((decide (x.kind=(6:Int)))=true →
 (((decide (x.kind=(6:Int)))=true →
 (a5e n x))∧((decide (x.kind=(6:Int)))=false →
 false=(a1n x))))∧((decide (x.kind=(6:Int)))=false →
 (((decide (x.kind=(7:Int)))=true →
 (a5e n x))∧((decide (x.kind=(7:Int)))=false →
 false=(a1n x))))))))))))))):=by kernel_rfl
theorem e0z(n:Nat)(hE:a0m [a7e n]):Ctr.Good (a7e (n+1)):=by
 refine⟨a0j b1c rfl (by decide),?_⟩
 show ∀ (x:a0c),(msz x<n+1)→a0z prog b3p [.val ⟨(.st .expr),x⟩] (·=[⟨.bool,a1n x⟩])
 intro x hp
 refine a0x (wr:=[]) (cl:=[]) (ro:=[1]) hE b1c d5n (c6r x) ?_
 rewrite [e1d n x]
 have f0:=a5n x
 have f1:=c4t a1n x.kids
 refine fun a0=>⟨fun a1=>⟨fun a2=>fun a3=>fun a4=>⟨⟨0,⟨?_,⟨⟨rfl,⟨rfl,⟨?_,trivial⟩⟩⟩,trivial⟩⟩⟩,fun k1 a5=>have b5x0:=a4q a1n zE x.kids k1;have b5x1:=a5s a1n zE x.kids k1;have b5x2:=a4p a1n x.kids k1;have b5x3:=a1i zE x.kids k1;⟨fun a6=>⟨?_,⟨?_,⟨fun a7=>?_,fun a7=>⟨?_,⟨k1+1,⟨?_,⟨?_,⟨⟨rfl,⟨rfl,⟨?_,trivial⟩⟩⟩,trivial⟩⟩⟩⟩⟩⟩⟩⟩,fun a6=>?_⟩⟩,fun a2=>?_⟩,fun a1=>⟨fun a2=>⟨fun a3=>fun a4=>fun a5=>⟨⟨0,⟨?_,⟨⟨rfl,⟨rfl,⟨?_,trivial⟩⟩⟩,trivial⟩⟩⟩,fun k1 a6=>have b6x0:=a4q a1n zE x.kids k1;have b6x1:=a5s a1n zE x.kids k1;have b6x2:=a4p a1n x.kids k1;have b6x3:=a1i zE x.kids k1;⟨fun a7=>⟨?_,⟨?_,⟨fun a8=>?_,fun a8=>⟨?_,⟨k1+1,⟨?_,⟨?_,⟨⟨rfl,⟨rfl,⟨?_,trivial⟩⟩⟩,trivial⟩⟩⟩⟩⟩⟩⟩⟩,fun a7=>?_⟩⟩,fun a3=>?_⟩,fun a2=>⟨fun a3=>⟨fun a4=>fun a5=>fun a6=>⟨⟨0,⟨?_,⟨⟨rfl,⟨rfl,⟨?_,trivial⟩⟩⟩,trivial⟩⟩⟩,fun k1 a7=>have b7x0:=a4q a1n zE x.kids k1;have b7x1:=a5s a1n zE x.kids k1;have b7x2:=a4p a1n x.kids k1;have b7x3:=a1i zE x.kids k1;⟨fun a8=>⟨?_,⟨?_,⟨fun a9=>?_,fun a9=>⟨?_,⟨k1+1,⟨?_,⟨?_,⟨⟨rfl,⟨rfl,⟨?_,trivial⟩⟩⟩,trivial⟩⟩⟩⟩⟩⟩⟩⟩,fun a8=>?_⟩⟩,fun a4=>?_⟩,fun a3=>⟨fun a4=>⟨fun a5=>fun a6=>fun a7=>⟨⟨0,⟨?_,⟨⟨rfl,⟨rfl,⟨?_,trivial⟩⟩⟩,trivial⟩⟩⟩,fun k1 a8=>have b8x0:=a4q a1n zE x.kids k1;have b8x1:=a5s a1n zE x.kids k1;have b8x2:=a4p a1n x.kids k1;have b8x3:=a1i zE x.kids k1;⟨fun a9=>⟨?_,⟨?_,⟨fun a10=>?_,fun a10=>⟨?_,⟨k1+1,⟨?_,⟨?_,⟨⟨rfl,⟨rfl,⟨?_,trivial⟩⟩⟩,trivial⟩⟩⟩⟩⟩⟩⟩⟩,fun a9=>?_⟩⟩,fun a5=>?_⟩,fun a4=>⟨fun a5=>⟨fun a6=>fun a7=>fun a8=>⟨⟨0,⟨?_,⟨⟨rfl,⟨rfl,⟨?_,trivial⟩⟩⟩,trivial⟩⟩⟩,fun k1 a9=>have b9x0:=a4q a1n zE x.kids k1;have b9x1:=a5s a1n zE x.kids k1;have b9x2:=a4p a1n x.kids k1;have b9x3:=a1i zE x.kids k1;⟨fun a10=>⟨?_,⟨?_,⟨fun a11=>?_,fun a11=>⟨?_,⟨k1+1,⟨?_,⟨?_,⟨⟨rfl,⟨rfl,⟨?_,trivial⟩⟩⟩,trivial⟩⟩⟩⟩⟩⟩⟩⟩,fun a10=>?_⟩⟩,fun a6=>?_⟩,fun a5=>⟨fun a6=>fun a7=>fun a8=>⟨⟨0,⟨?_,⟨⟨rfl,⟨rfl,⟨?_,trivial⟩⟩⟩,trivial⟩⟩⟩,fun k1 a9=>have b9x0:=a4q a1n zE x.kids k1;have b9x1:=a5s a1n zE x.kids k1;have b9x2:=a4p a1n x.kids k1;have b9x3:=a1i zE x.kids k1;⟨fun a10=>⟨?_,⟨?_,⟨fun a11=>?_,fun a11=>⟨?_,⟨k1+1,⟨?_,⟨?_,⟨⟨rfl,⟨rfl,⟨?_,trivial⟩⟩⟩,trivial⟩⟩⟩⟩⟩⟩⟩⟩,fun a10=>?_⟩⟩,fun a6=>?_⟩⟩⟩⟩⟩⟩
 all_goals try and_intros
 all_goals try simp only[a0c.eta,a0a.eta,a1y,a2a] at *
 all_goals try rw[g2a x]
 all_goals first|rfl|trivial|(simp only[decide_eq_true_eq,decide_eq_false_iff_not,a0g,a0d] at *;omega)|(simp_all [e5b];done)|(simp_all [e5b,a0g,a0d];omega)
theorem f2k :∀ n,a0m [a7e n]
 | 0=>⟨⟨a0j b1c rfl (by decide),fun _ h=>absurd h (Nat.not_lt_zero _)⟩,trivial⟩
 | n+1=>by
  have ih:=f2k  n
  exact⟨e0z n ⟨ih.1,trivial⟩,trivial⟩
theorem c3e :Ctr.Good a4r :=
 ⟨a0j b1c rfl (by decide),fun x hp=>(f2k  (msz x+1)).1.2 x (Nat.lt_succ_self _)⟩
def a6q(n:Nat):Ctr:=⟨b1d,[.r (.st .expr)],fun (x:a0c)=>⟨(some (msz x<n),[⟨.bool,a1n x⟩])⟩⟩
def a4j:Ctr:=⟨b1d,[.r (.st .expr)],fun (x:a0c)=>⟨(none,[⟨.bool,a1n x⟩])⟩⟩
def c4s(x:a0c):Nat→a0s:=(fun zb=>if Nat.beq zb 0 then .mk (Nat) (fun k=>k≤x.kids.length∧a2t a1n (x.kids.take k)=true) (fun k=>x.kids.length - k) [] [1,4,5,6,7,8,9,10,11,12,13,14,15,16] (fun k=>[(3, .imm ⟨(.int .i64),((k:Int):Int)⟩)]) [0,2,3,17,18,19,20,21,22,23,24,25,26,27,28,29,30,31,32,33] (fun k=>[]) [] [] (fun k=>fun _ => .none) else .none)
abbrev c3h(n:Nat)(x:a0c):Prop:=((∃ k1:Nat,((k1≤x.kids.length∧a2t a1n (x.kids.take k1)=true)∧((x=x∧((0:Int)=(k1:Int)∧True))∧True)))∧(∀ k1:Nat,((k1≤x.kids.length∧a2t a1n (x.kids.take k1)=true) →
 (x.kids.length≤140737488355328 →
 (a0d ((x.kids.length:Int)) →
 (((decide ((k1:Int)<((x.kids.length:Int))))=true →
 (x.kids.length≤140737488355328 →
 (a0g (k1:Int) x.kids.length∧(msz (x.kids.getD k1 zE)<n∧(((!(a1n (x.kids.getD k1 zE)))=true →
 false=(a1n x))∧((!(a1n (x.kids.getD k1 zE)))=false →
 (a0d ((k1:Int)+(1:Int))∧(∃ k2:Nat,((k2≤x.kids.length∧a2t a1n (x.kids.take k2)=true)∧(x.kids.length - k2<x.kids.length - k1∧((x=x∧(((k1:Int)+(1:Int))=(k2:Int)∧True))∧True)))))))))))∧((decide ((k1:Int)<((x.kids.length:Int))))=false →
 true=(a1n x))))))))
theorem d8t(n:Nat)(x:a0c):awp (a0u [a6q n,a3l]) (a0k a5t) (c4s x) 0 (a1b (a0u [a6q n,a3l]) a5t fun r=>a1d r [⟨.bool,a1n x⟩]) (a0p a5t [.ref ⟨(.st .expr),x⟩]) =
 ((a0d x.kind →
 ((((!(decide ((1:Int)≤x.kind∧x.kind≤(7:Int))))=false) →
 (a0d x.kind →
 (((decide (x.kind=(4:Int)))=true →
 false=(a1n x))∧((decide (x.kind=(4:Int)))=false →
 (c3h n x)))))∧(((!(decide ((1:Int)≤x.kind∧x.kind≤(7:Int))))=(!false)) →
 ((true=true →
 false=(a1n x))∧(true=false →
 (c3h n x))))))):=by kernel_rfl
theorem d8n(n:Nat)(hE:a0m [a6q n,a3l]):Ctr.Good (a6q (n+1)):=by
 refine⟨a0j a9c rfl (by decide),?_⟩
 show ∀ (x:a0c),(msz x<n+1)→a0z prog b1d [.ref ⟨(.st .expr),x⟩] (·=[⟨.bool,a1n x⟩])
 intro x hp
 refine a0x (wr:=[]) (cl:=[]) (ro:=[]) hE a9c d4j (c4s x) ?_
 rewrite [d8t n x]
 have f0:=a5n x
 have f1:=c4t a1n x.kids
 refine fun a0=>⟨fun a1=>fun a2=>⟨fun a3=>?_,fun a3=>⟨⟨0,⟨?_,⟨⟨rfl,⟨?_,trivial⟩⟩,trivial⟩⟩⟩,fun k1 a4=>have b4x0:=a4q a1n zE x.kids k1;have b4x1:=a5s a1n zE x.kids k1;have b4x2:=a4p a1n x.kids k1;have b4x3:=a1i zE x.kids k1;fun a5=>fun a6=>⟨fun a7=>fun a8=>⟨?_,⟨?_,⟨fun a9=>?_,fun a9=>⟨?_,⟨k1+1,⟨?_,⟨?_,⟨⟨rfl,⟨?_,trivial⟩⟩,trivial⟩⟩⟩⟩⟩⟩⟩⟩,fun a7=>?_⟩⟩⟩,fun a1=>⟨fun a2=>?_,fun a2=>⟨⟨0,⟨?_,⟨⟨rfl,⟨?_,trivial⟩⟩,trivial⟩⟩⟩,fun k1 a3=>have b3x0:=a4q a1n zE x.kids k1;have b3x1:=a5s a1n zE x.kids k1;have b3x2:=a4p a1n x.kids k1;have b3x3:=a1i zE x.kids k1;fun a4=>fun a5=>⟨fun a6=>fun a7=>⟨?_,⟨?_,⟨fun a8=>?_,fun a8=>⟨?_,⟨k1+1,⟨?_,⟨?_,⟨⟨rfl,⟨?_,trivial⟩⟩,trivial⟩⟩⟩⟩⟩⟩⟩⟩,fun a6=>?_⟩⟩⟩⟩
 all_goals try and_intros
 all_goals try rw[g2a x]
 all_goals first|rfl|trivial|(simp only[decide_eq_true_eq,decide_eq_false_iff_not,a0g,a0d] at *;omega)|(simp_all [e5b];done)|(simp_all [e5b,a0g,a0d];omega)
theorem f2l :∀ n,a0m [a6q n]
 | 0=>⟨⟨a0j a9c rfl (by decide),fun _ h=>absurd h (Nat.not_lt_zero _)⟩,trivial⟩
 | n+1=>by
  have ih:=f2l  n
  exact⟨d8n n ⟨ih.1,b8d,trivial⟩,trivial⟩
theorem c1h :Ctr.Good a4j :=
 ⟨a0j a9c rfl (by decide),fun x hp=>(f2l  (msz x+1)).1.2 x (Nat.lt_succ_self _)⟩
def c8x(t a:Int)(x:a0c):Bool:=decide (a2u x.kind=(x.kids.length:Int)) &&
 (if x.kind=3 then decide (0≤x.num∧x.num≤t) else if x.kind=4 then decide (0≤x.num∧x.num≤a) else decide (x.num=0)) &&
 (!decide (x.kind=5)||a1n (x.kids.getD 0 ⟨0,0,[]⟩))
mutual
def a2c(t a:Int):a0c→Bool
 | ⟨k,n,ks⟩=>c8x t a ⟨k,n,ks⟩&&f5t t a ks
def f5t(t a:Int):List a0c→Bool
 | []=>true
 | k::ks=>a2c t a k&&f5t t a ks
end
theorem g0m(t a:Int):∀ xs,f5t t a xs=a2t (a2c t a) xs
 | []=>rfl
 | x::xs=>by rw[f5t,a2t,g0m t a xs]
theorem g3k(t a:Int)(x:a0c):a2c t a x=(c8x t a x&&a2t (a2c t a) x.kids):=by
 cases x;simp[a2c,g0m]
def a0r(n:Int):Int:=IntKind.wrap .i64 (n - 1)
def b3c(n:Nat):Ctr:=⟨c0h,[.r (.st .expr), .v (.int .i64)],fun (x:a0c) (left:Int)=>⟨(some (msz x<n∧0≤left∧left≤1048576),[⟨(.int .i64),szR (a1a x) left⟩])⟩⟩
def b9z:Ctr:=⟨c0h,[.r (.st .expr), .v (.int .i64)],fun (x:a0c) (left:Int)=>⟨(some (0≤left∧left≤1048576),[⟨(.int .i64),szR (a1a x) left⟩])⟩⟩
def d6f(x:a0c)(left:Int):Nat→a0s:=(fun zb=>if Nat.beq zb 0 then .mk (Nat) (fun k=>k≤x.kids.length) (fun k=>x.kids.length - k) [] [2,3,6,7] (fun k=>[(5, .imm ⟨(.int .i64),((k:Int):Int)⟩),(1, .imm ⟨(.int .i64),(szR (1+szL a1a (x.kids.take k)) left:Int)⟩)]) [0,1,4,5,8,9,10,11,12,13,14,15,16,17,18,19,20,21,22,23,24,25,26,27,28,29] (fun k=>[]) [] [] (fun k=>fun _ => .none) else .none)
abbrev d0y(n:Nat)(x:a0c)(left:Int)(k1:Nat):Prop:=(x.kids.length≤140737488355328 →
 (a0g (k1:Int) x.kids.length∧((msz (x.kids.getD k1 zE)<n∧0≤(szR (1+szL a1a (x.kids.take k1)) left)∧(szR (1+szL a1a (x.kids.take k1)) left)≤1048576)∧(a0d (szR (a1a (x.kids.getD k1 zE)) (szR (1+szL a1a (x.kids.take k1)) left)) →
 (a0d ((k1:Int)+(1:Int))∧(∃ k2:Nat,(k2≤x.kids.length∧(x.kids.length - k2<x.kids.length - k1∧((x=x∧((szR (a1a (x.kids.getD k1 zE)) (szR (1+szL a1a (x.kids.take k1)) left))=(szR (1+szL a1a (x.kids.take k2)) left)∧((0:Int)=(0:Int)∧(((k1:Int)+(1:Int))=(k2:Int)∧True))))∧True)))))))))
theorem f6c(n:Nat)(x:a0c)(left:Int):awp (a0u [b3c n]) (a0k a9u) (d6f x left) 0 (a1b (a0u [b3c n]) a9u fun r=>a1d r [⟨(.int .i64),szR (a1a x) left⟩]) (a0p a9u [.ref ⟨(.st .expr),x⟩, .val ⟨(.int .i64),left⟩]) =
 ((a0d (left - (1:Int))∧((∃ k1:Nat,(k1≤x.kids.length∧((x=x∧((left - (1:Int))=(szR (1+szL a1a (x.kids.take k1)) left)∧((0:Int)=(0:Int)∧((0:Int)=(k1:Int)∧True))))∧True)))∧(∀ k1:Nat,(k1≤x.kids.length →
 (x.kids.length≤140737488355328 →
 (a0d ((x.kids.length:Int)) →
 (((decide ((k1:Int)<((x.kids.length:Int))))=true →
 (((decide ((0:Int)≤(szR (1+szL a1a (x.kids.take k1)) left)))=true →
 (d0y n x left k1))∧((decide ((0:Int)≤(szR (1+szL a1a (x.kids.take k1)) left)))=false →
 (szR (1+szL a1a (x.kids.take k1)) left)=(szR (a1a x) left))))∧((decide ((k1:Int)<((x.kids.length:Int))))=(!true) →
 ((false=true →
 (d0y n x left k1))∧(false=false →
 (szR (1+szL a1a (x.kids.take k1)) left)=(szR (a1a x) left)))))))))))):=by kernel_rfl
theorem f4u(n:Nat)(hE:a0m [b3c n]):Ctr.Good (b3c (n+1)):=by
 refine⟨a0j b7w rfl (by decide),?_⟩
 show ∀ (x:a0c) (left:Int),(msz x<n+1∧0≤left∧left≤1048576)→a0z prog c0h [.ref ⟨(.st .expr),x⟩, .val ⟨(.int .i64),left⟩] (·=[⟨(.int .i64),szR (a1a x) left⟩])
 intro x left hp
 refine a0x (wr:=[]) (cl:=[]) (ro:=[]) hE b7w e5u (d6f x left) ?_
 rewrite [f6c n x left]
 have f0:=a5n x
 have f1:=b4c a1a x.kids
 have f2:=a5k (1+szL a1a (x.kids.take 0)) left
 refine⟨?_,⟨⟨0,⟨?_,⟨⟨rfl,⟨?_,⟨rfl,⟨?_,trivial⟩⟩⟩⟩,trivial⟩⟩⟩,fun k1 a0=>have b0x0:=a6v a1a zE x.kids k1;have b0x1:=a2l a1a x.kids k1;have b0x2:=a2l a1a x.kids (k1+1);have b0x3:=b0h a1a x.kids k1;have b0x4:=a1i zE x.kids k1;have b0x5:=a5k (1+szL a1a (x.kids.take k1)) left;have b0x6:=a5k (1+szL a1a (x.kids.take (k1+1))) left;have b0x7:=a5k (a1a (x.kids.getD k1 zE)) (szR (1+szL a1a (x.kids.take k1)) left);have b0x8:=a5k (1+szL a1a x.kids) left;fun a1=>fun a2=>⟨fun a3=>⟨fun a4=>fun a5=>⟨?_,⟨?_,fun a6=>⟨?_,⟨k1+1,⟨?_,⟨?_,⟨⟨rfl,⟨?_,⟨rfl,⟨?_,trivial⟩⟩⟩⟩,trivial⟩⟩⟩⟩⟩⟩⟩,fun a4=>?_⟩,fun a3=>⟨fun a4=>fun a5=>⟨?_,⟨?_,fun a6=>⟨?_,⟨k1+1,⟨?_,⟨?_,⟨⟨rfl,⟨?_,⟨rfl,⟨?_,trivial⟩⟩⟩⟩,trivial⟩⟩⟩⟩⟩⟩⟩,fun a4=>?_⟩⟩⟩⟩
 all_goals try and_intros
 all_goals try rw[f9x x]
 all_goals first|rfl|trivial|omega|(simp only[decide_eq_true_eq,decide_eq_false_iff_not,a0g,a0d,a1z,a2w,a1w,a1x] at *;omega)|(simp[a0g,a0d] at *;omega)|grind
theorem f2o :∀ n,a0m [b3c n]
 | 0=>⟨⟨a0j b7w rfl (by decide),fun _ _ h=>absurd h.1 (Nat.not_lt_zero _)⟩,trivial⟩
 | n+1=>by
  have ih:=f2o  n
  exact⟨f4u n ⟨ih.1,trivial⟩,trivial⟩
theorem e6i :Ctr.Good b9z :=
 ⟨a0j b7w rfl (by decide),fun x left hp=>(f2o  (msz x+1)).1.2 x left (⟨Nat.lt_succ_self _,hp⟩)⟩
def b0s(n:Nat):Ctr:=⟨b8u,[.r (.st .expr)],fun (x:a0c)=>⟨(some (msz x<n∧a1q x≤1048576),[⟨(.int .i64),(a1q x:Int)⟩])⟩⟩
def b8o:Ctr:=⟨b8u,[.r (.st .expr)],fun (x:a0c)=>⟨(some (a1q x≤1048576),[⟨(.int .i64),(a1q x:Int)⟩])⟩⟩
def d3n(x:a0c):Nat→a0s:=(fun zb=>if Nat.beq zb 0 then .mk (Nat) (fun k=>k≤x.kids.length) (fun k=>x.kids.length - k) [] [1] (fun k=>[(4, .imm ⟨(.int .i64),((k:Int):Int)⟩),(3, .imm ⟨(.int .i64),((a3p a1q (x.kids.take k):Int):Int)⟩)]) [0,2,3,4,5,6,7,8,9,10,11,12,13,14,15,16,17,18,19,20,21,22,23,24] (fun k=>[]) [] [] (fun k=>fun _ => .none) else .none)
theorem f2b(n:Nat)(x:a0c):awp (a0u [b0s n,a7a]) (a0k a8n) (d3n x) 0 (a1b (a0u [b0s n,a7a]) a8n fun r=>a1d r [⟨(.int .i64),(a1q x:Int)⟩]) (a0p a8n [.ref ⟨(.st .expr),x⟩]) =
 (((∃ k1:Nat,(k1≤x.kids.length∧((x=x∧((0:Int)=(0:Int)∧((0:Int)=(a3p a1q (x.kids.take k1):Int)∧((0:Int)=(k1:Int)∧True))))∧True)))∧(∀ k1:Nat,(k1≤x.kids.length →
 (x.kids.length≤140737488355328 →
 (a0d ((x.kids.length:Int)) →
 (((decide ((k1:Int)<((x.kids.length:Int))))=true →
 (x.kids.length≤140737488355328 →
 (a0g (k1:Int) x.kids.length∧((msz (x.kids.getD k1 zE)<n∧a1q (x.kids.getD k1 zE)≤1048576)∧(a0d ((a1q (x.kids.getD k1 zE):Int)) →
 (a0d (max (a3p a1q (x.kids.take k1):Int) ((a1q (x.kids.getD k1 zE):Int))) →
 (a0d ((k1:Int)+(1:Int))∧(∃ k2:Nat,(k2≤x.kids.length∧(x.kids.length - k2<x.kids.length - k1∧((x=x∧((0:Int)=(0:Int)∧((max (a3p a1q (x.kids.take k1):Int) ((a1q (x.kids.getD k1 zE):Int)))=(a3p a1q (x.kids.take k2):Int)∧(((k1:Int)+(1:Int))=(k2:Int)∧True))))∧True)))))))))))∧((decide ((k1:Int)<((x.kids.length:Int))))=false →
 (a0d ((a3p a1q (x.kids.take k1):Int)+(1:Int))∧((a3p a1q (x.kids.take k1):Int)+(1:Int))=(a1q x:Int)))))))))):=by kernel_rfl
theorem f1h(n:Nat)(hE:a0m [b0s n,a7a]):Ctr.Good (b0s (n+1)):=by
 refine⟨a0j b6i rfl (by decide),?_⟩
 show ∀ (x:a0c),(msz x<n+1∧a1q x≤1048576)→a0z prog b8u [.ref ⟨(.st .expr),x⟩] (·=[⟨(.int .i64),(a1q x:Int)⟩])
 intro x hp
 refine a0x (wr:=[]) (cl:=[]) (ro:=[]) hE b6i e2b (d3n x) ?_
 rewrite [f2b n x]
 rw[e2k x] at hp
 have f0:=a5n x
 have f1:=d3w a1q x.kids
 refine⟨⟨0,⟨?_,⟨⟨rfl,⟨rfl,⟨?_,⟨?_,trivial⟩⟩⟩⟩,trivial⟩⟩⟩,fun k1 a0=>have b0x0:=b5y a1q zE x.kids k1;have b0x1:=a5x a1q x.kids k1;have b0x2:=a5x a1q x.kids (k1+1);have b0x3:=c2r a1q x.kids k1;have b0x4:=a1i zE x.kids k1;have b0x5:=e3w a1q zE x.kids k1;fun a1=>fun a2=>⟨fun a3=>fun a4=>⟨?_,⟨?_,fun a5=>fun a6=>⟨?_,⟨k1+1,⟨?_,⟨?_,⟨⟨rfl,⟨rfl,⟨?_,⟨?_,trivial⟩⟩⟩⟩,trivial⟩⟩⟩⟩⟩⟩⟩,fun a3=>⟨?_,?_⟩⟩⟩
 all_goals try and_intros
 all_goals try rw[e2k x]
 all_goals first|rfl|trivial|omega|(simp only[decide_eq_true_eq,decide_eq_false_iff_not,a0g,a0d,a1z,a2w,a1w,a1x] at *;omega)|(simp[a0g,a0d] at *;omega)|grind
theorem e7s :∀ n,a0m [b0s n]
 | 0=>⟨⟨a0j b6i rfl (by decide),fun _ h=>absurd h.1 (Nat.not_lt_zero _)⟩,trivial⟩
 | n+1=>by
  have ih:=e7s  n
  exact⟨f1h n ⟨ih.1,d0u,trivial⟩,trivial⟩
theorem e3e :Ctr.Good b8o :=
 ⟨a0j b6i rfl (by decide),fun x hp=>(e7s  (msz x+1)).1.2 x (⟨Nat.lt_succ_self _,hp⟩)⟩
def b3e(n:Nat):Ctr:=⟨c0j,[.v (.st .sig), .r (.st .expr)],fun (gg:a0v) (x:a0c)=>⟨(some (msz x<n),[⟨.bool,a2c (a0r gg.tests) (a0r gg.actions) x⟩])⟩⟩
def c0a:Ctr:=⟨c0j,[.v (.st .sig), .r (.st .expr)],fun (gg:a0v) (x:a0c)=>⟨(none,[⟨.bool,a2c (a0r gg.tests) (a0r gg.actions) x⟩])⟩⟩
def d6h(gg:a0v)(x:a0c):Nat→a0s:=(fun zb=>if Nat.beq zb 1 then .mk (Nat) (fun k=>k≤x.kids.length∧a2t (a2c (a0r gg.tests) (a0r gg.actions)) (x.kids.take k)=true) (fun k=>x.kids.length - k) [] [0,3,6,7,8,9,10,11,12,13,14,15,16,17,18,19,20,21,22,23,24,25,26,27,28,29,30,31,32,33,34,35,36,37,38,39,40,41,42,43,44,45,46,47,48,49,50,51,52,53,54,55,56,57,58,59,60,61] (fun k=>[(5, .imm ⟨(.int .i64),((k:Int):Int)⟩)]) [1,2,4,5,62,63,64,65,66,67,68,69,70,71,72,73,74,75,76,77,78,79] (fun k=>[]) [] [] (fun k=>fun _ => .none) else .none)
abbrev c2l(n:Nat)(gg:a0v)(x:a0c):Prop:=((∃ k1:Nat,((k1≤x.kids.length∧a2t (a2c (a0r gg.tests) (a0r gg.actions)) (x.kids.take k1)=true)∧((x=x∧(gg=gg∧((0:Int)=(k1:Int)∧True)))∧True)))∧(∀ k1:Nat,((k1≤x.kids.length∧a2t (a2c (a0r gg.tests) (a0r gg.actions)) (x.kids.take k1)=true) →
 (x.kids.length≤140737488355328 →
 (a0d ((x.kids.length:Int)) →
 (((decide ((k1:Int)<((x.kids.length:Int))))=true →
 (a0g (k1:Int) x.kids.length∧(x.kids.length≤140737488355328 →
 (msz (x.kids.getD k1 zE)<n∧(((!(a2c (a0r gg.tests) (a0r gg.actions) (x.kids.getD k1 zE)))=true →
 false=(a2c (a0r gg.tests) (a0r gg.actions) x))∧((!(a2c (a0r gg.tests) (a0r gg.actions) (x.kids.getD k1 zE)))=false →
 (a0d ((k1:Int)+(1:Int))∧(∃ k2:Nat,((k2≤x.kids.length∧a2t (a2c (a0r gg.tests) (a0r gg.actions)) (x.kids.take k2)=true)∧(x.kids.length - k2<x.kids.length - k1∧((x=x∧(gg=gg∧(((k1:Int)+(1:Int))=(k2:Int)∧True)))∧True)))))))))))∧((decide ((k1:Int)<((x.kids.length:Int))))=false →
 true=(a2c (a0r gg.tests) (a0r gg.actions) x))))))))
theorem f6e(n:Nat)(gg:a0v)(x:a0c):awp (a0u [b3e n,b5e,a3l,a4j] [29,39] [] [2]) (a0k a9w) (d6h gg x) 0 (a1b (a0u [b3e n,b5e,a3l,a4j] [29,39] [] [2]) a9w fun r=>a1d r [⟨.bool,a2c (a0r gg.tests) (a0r gg.actions) x⟩]) (a0p a9w [.val ⟨(.st .sig),gg⟩, .ref ⟨(.st .expr),x⟩]) =
 ((x.kids.length≤140737488355328 →
 (a0d ((x.kids.length:Int)) →
 (a0d x.kind →
 (a0d (a2u x.kind) →
 (((!(decide (((x.kids.length:Int))=(a2u x.kind))))=true →
 false=(a2c (a0r gg.tests) (a0r gg.actions) x))∧((!(decide (((x.kids.length:Int))=(a2u x.kind))))=false →
 (a0d x.kind →
 (((decide (x.kind=(3:Int)))=true →
 (a0d x.num →
 (a0d gg.tests →
 ((decide ((0:Int)≤x.num∧x.num≤(IntKind.wrap .i64 (gg.tests - (1:Int)))))=(a2c (a0r gg.tests) (a0r gg.actions) x)))))∧((decide (x.kind=(3:Int)))=false →
 (((decide (x.kind=(4:Int)))=true →
 (a0d x.num →
 (a0d gg.actions →
 ((decide ((0:Int)≤x.num∧x.num≤(IntKind.wrap .i64 (gg.actions - (1:Int)))))=(a2c (a0r gg.tests) (a0r gg.actions) x)))))∧((decide (x.kind=(4:Int)))=false →
 (a0d x.num →
 (((!(decide (x.num=(0:Int))))=false →
 (a0d x.kind →
 (((decide (x.kind=(5:Int)))=true →
 (x.kids.length≤140737488355328 →
 (a0g (0:Int) x.kids.length∧(((!(a1n (x.kids.getD 0 zE)))=true →
 false=(a2c (a0r gg.tests) (a0r gg.actions) x))∧((!(a1n (x.kids.getD 0 zE)))=false →
 (c2l n gg x))))))∧((decide (x.kind=(5:Int)))=(!true) →
 ((false=true →
 false=(a2c (a0r gg.tests) (a0r gg.actions) x))∧(false=false →
 (c2l n gg x)))))))∧((!(decide (x.num=(0:Int))))=(!false) →
 ((true=true →
 false=(a2c (a0r gg.tests) (a0r gg.actions) x))∧(true=false →
 (c2l n gg x)))))))))))))))))):=by kernel_rfl
theorem f4w(n:Nat)(hE:a0m [b3e n,b5e,a3l,a4j]):Ctr.Good (b3e (n+1)):=by
 refine⟨a0j b7y rfl (by decide),?_⟩
 show ∀ (gg:a0v) (x:a0c),(msz x<n+1)→a0z prog c0j [.val ⟨(.st .sig),gg⟩, .ref ⟨(.st .expr),x⟩] (·=[⟨.bool,a2c (a0r gg.tests) (a0r gg.actions) x⟩])
 intro gg x hp
 refine a0x (wr:=[29,39]) (cl:=[]) (ro:=[2]) hE b7y e5w (d6h gg x) ?_
 rewrite [f6e n gg x]
 have f0:=a5n x
 have f1:=c4t (a2c (a0r gg.tests) (a0r gg.actions)) x.kids
 refine fun a0=>fun a1=>fun a2=>fun a3=>⟨fun a4=>?_,fun a4=>fun a5=>⟨fun a6=>fun a7=>fun a8=>?_,fun a6=>⟨fun a7=>fun a8=>fun a9=>?_,fun a7=>fun a8=>⟨fun a9=>fun a10=>⟨fun a11=>fun a12=>⟨?_,⟨fun a13=>?_,fun a13=>⟨⟨0,⟨?_,⟨⟨rfl,⟨rfl,⟨?_,trivial⟩⟩⟩,trivial⟩⟩⟩,fun k1 a14=>have b14x0:=a4q (a2c (a0r gg.tests) (a0r gg.actions)) zE x.kids k1;have b14x1:=a5s (a2c (a0r gg.tests) (a0r gg.actions)) zE x.kids k1;have b14x2:=a4p (a2c (a0r gg.tests) (a0r gg.actions)) x.kids k1;have b14x3:=a1i zE x.kids k1;fun a15=>fun a16=>⟨fun a17=>⟨?_,fun a18=>⟨?_,⟨fun a19=>?_,fun a19=>⟨?_,⟨k1+1,⟨?_,⟨?_,⟨⟨rfl,⟨rfl,⟨?_,trivial⟩⟩⟩,trivial⟩⟩⟩⟩⟩⟩⟩⟩,fun a17=>?_⟩⟩⟩⟩,fun a11=>⟨fun a12=>?_,fun a12=>⟨⟨0,⟨?_,⟨⟨rfl,⟨rfl,⟨?_,trivial⟩⟩⟩,trivial⟩⟩⟩,fun k1 a13=>have b13x0:=a4q (a2c (a0r gg.tests) (a0r gg.actions)) zE x.kids k1;have b13x1:=a5s (a2c (a0r gg.tests) (a0r gg.actions)) zE x.kids k1;have b13x2:=a4p (a2c (a0r gg.tests) (a0r gg.actions)) x.kids k1;have b13x3:=a1i zE x.kids k1;fun a14=>fun a15=>⟨fun a16=>⟨?_,fun a17=>⟨?_,⟨fun a18=>?_,fun a18=>⟨?_,⟨k1+1,⟨?_,⟨?_,⟨⟨rfl,⟨rfl,⟨?_,trivial⟩⟩⟩,trivial⟩⟩⟩⟩⟩⟩⟩⟩,fun a16=>?_⟩⟩⟩⟩,fun a9=>⟨fun a10=>?_,fun a10=>⟨⟨0,⟨?_,⟨⟨rfl,⟨rfl,⟨?_,trivial⟩⟩⟩,trivial⟩⟩⟩,fun k1 a11=>have b11x0:=a4q (a2c (a0r gg.tests) (a0r gg.actions)) zE x.kids k1;have b11x1:=a5s (a2c (a0r gg.tests) (a0r gg.actions)) zE x.kids k1;have b11x2:=a4p (a2c (a0r gg.tests) (a0r gg.actions)) x.kids k1;have b11x3:=a1i zE x.kids k1;fun a12=>fun a13=>⟨fun a14=>⟨?_,fun a15=>⟨?_,⟨fun a16=>?_,fun a16=>⟨?_,⟨k1+1,⟨?_,⟨?_,⟨⟨rfl,⟨rfl,⟨?_,trivial⟩⟩⟩,trivial⟩⟩⟩⟩⟩⟩⟩⟩,fun a14=>?_⟩⟩⟩⟩⟩⟩⟩
 all_goals try and_intros
 all_goals try rw[g3k _ _ x]
 all_goals first|rfl|trivial|(simp only[decide_eq_true_eq,decide_eq_false_iff_not,a0g,a0d] at *;omega)|(simp_all [c8x,a0r];done)|(simp_all [c8x,a0r,a0g,a0d];omega)|grind [c8x,a0r,a2u,a0g,a0d]
theorem f2u :∀ n,a0m [b3e n]
 | 0=>⟨⟨a0j b7y rfl (by decide),fun _ _ h=>absurd h (Nat.not_lt_zero _)⟩,trivial⟩
 | n+1=>by
  have ih:=f2u  n
  exact⟨f4w n ⟨ih.1,e6h,b8d,c1h,trivial⟩,trivial⟩
theorem e6j :Ctr.Good c0a :=
 ⟨a0j b7y rfl (by decide),fun gg x hp=>(f2u  (msz x+1)).1.2 gg x (Nat.lt_succ_self _)⟩
end
end Go.Proofs.Ytlaoejdeanljgaa

set_option linter.unusedVariables false
set_option linter.unusedSimpArgs false
set_option linter.unusedSectionVars false
set_option maxRecDepth 4000
set_option maxHeartbeats 4000000
namespace Go.Proofs.Ytlaoejdeanljgaa
noncomputable section
def a2r(gg:a0v):Bool:=decide (0≤gg.tests∧gg.tests≤3)&&decide (0≤gg.actions∧gg.actions≤4)
def shB(gg:a0v)(x:a0c)(nodes depth:Int):Bool:=a2c (a0r gg.tests) (a0r gg.actions) x&&decide ((a1a x:Int)≤nodes)&&decide ((a1q x:Int)≤depth)
def shN(gg:a0v)(x:a0c)(nodes depth:Int):Int:=bif shB gg x nodes depth then nodes - a1a x else 0
def b2o:Ctr:=⟨c3z,[.v (.st .sig)],fun (gg:a0v)=>⟨(none,[⟨.bool,a2r gg⟩])⟩⟩
def d3e(gg:a0v):Nat→a0s:=fun _ => .none
theorem f1s(gg:a0v):awp (a0u [a2p] [] [] [1]) (a0k a8d) (d3e gg) 0 (a1b (a0u [a2p] [] [] [1]) a8d fun r=>a1d r [⟨.bool,a2r gg⟩]) (a0p a8d [.val ⟨(.st .sig),gg⟩]) =
 ((a0d gg.tests →
 ((((decide ((0:Int)≤gg.tests∧gg.tests≤(3:Int)))=true) →
 (a0d gg.actions →
 ((decide ((0:Int)≤gg.actions∧gg.actions≤(4:Int)))=(a2r gg))))∧(((decide ((0:Int)≤gg.tests∧gg.tests≤(3:Int)))=(!true)) →
 false=(a2r gg))))):=by kernel_rfl
theorem f0y(hE:a0m [a2p]):Ctr.Good b2o:=by
 refine⟨a0j c9w rfl (by decide),?_⟩
 show ∀ (gg:a0v),True→a0z prog c3z [.val ⟨(.st .sig),gg⟩] (·=[⟨.bool,a2r gg⟩])
 intro gg _
 refine a0x (wr:=[]) (cl:=[]) (ro:=[1]) hE c9w e1p (d3e gg) ?_
 rewrite [f1s gg]
 refine fun a0=>⟨fun a1=>fun a2=>?_,fun a1=>?_⟩
 all_goals try and_intros
 all_goals first|rfl|trivial|(simp_all [a2r];done)|(simp_all [a2r];omega)
theorem e2v:Ctr.Good b2o:=f0y ⟨b0l,trivial⟩
def a7b:Ctr:=⟨c7s,[.v (.st .sig)],fun (gg:a0v)=>⟨(none,[⟨.bool,a2r gg⟩])⟩⟩
def d9z(gg:a0v):Nat→a0s:=fun _ => .none
theorem f8z(gg:a0v):awp (a0u [a3l] [] [] [1]) (a0k b1w) (d9z gg) 0 (a1b (a0u [a3l] [] [] [1]) b1w fun r=>a1d r [⟨.bool,a2r gg⟩]) (a0p b1w [.val ⟨(.st .sig),gg⟩]) =
 ((a0d gg.tests →
 ((((decide ((0:Int)≤gg.tests∧gg.tests≤(3:Int)))=true) →
 (a0d gg.actions →
 ((decide ((0:Int)≤gg.actions∧gg.actions≤(4:Int)))=(a2r gg))))∧(((decide ((0:Int)≤gg.tests∧gg.tests≤(3:Int)))=(!true)) →
 false=(a2r gg))))):=by kernel_rfl
theorem f8d(hE:a0m [a3l]):Ctr.Good a7b:=by
 refine⟨a0j d5j rfl (by decide),?_⟩
 show ∀ (gg:a0v),True→a0z prog c7s [.val ⟨(.st .sig),gg⟩] (·=[⟨.bool,a2r gg⟩])
 intro gg _
 refine a0x (wr:=[]) (cl:=[]) (ro:=[1]) hE d5j e9n (d9z gg) ?_
 rewrite [f8z gg]
 refine fun a0=>⟨fun a1=>fun a2=>?_,fun a1=>?_⟩
 all_goals try and_intros
 all_goals first|rfl|trivial|(simp_all [a2r];done)|(simp_all [a2r];omega)
theorem d0v:Ctr.Good a7b:=f8d ⟨b8d,trivial⟩
end
end Go.Proofs.Ytlaoejdeanljgaa

set_option linter.unusedVariables false
set_option linter.unusedSimpArgs false
set_option linter.unusedSectionVars false
set_option maxRecDepth 4000
set_option maxHeartbeats 4000000
namespace Go.Proofs.Ytlaoejdeanljgaa
noncomputable section
def f4m(t a:Int)(x:a0c):Bool:=if x.kind=3 then decide (0≤x.num∧x.num≤t) else if x.kind=4 then decide (0≤x.num∧x.num≤a) else decide (x.num=0)
theorem g8s(t a:Int)(x:a0c):c8x t a x=(decide (a2u x.kind=(x.kids.length:Int))&&f4m t a x&&(!decide (x.kind=5)||a1n (x.kids.getD 0 ⟨0,0,[]⟩))):=rfl
theorem c6w(gg:a0v)(x:a0c)(nodes depth:Int) :
  (a2c (a0r gg.tests) (a0r gg.actions) x=true∧(a1a x:Int)≤nodes∧(a1q x:Int)≤depth∧shB gg x nodes depth=true∧shN gg x nodes depth=nodes - a1a x) ∨
  ((a2c (a0r gg.tests) (a0r gg.actions) x=false∨nodes<(a1a x:Int)∨depth<(a1q x:Int))∧shB gg x nodes depth=false∧shN gg x nodes depth=0):=by
 unfold shN shB
 cases a2c (a0r gg.tests) (a0r gg.actions) x
 ·right;simp
 ·rcases Int.lt_or_le nodes (a1a x) with h|h
  ·right;simp[h,Int.not_le.2 h]
  ·rcases Int.lt_or_le depth (a1q x) with h'|h'
   ·right;simp[h',Int.not_le.2 h']
   ·left;simp[h,h']
def b5j(n:Nat):Ctr:=⟨c2b,[.v (.st .sig), .v (.st .expr), .v (.int .i64), .v (.int .i64)],fun (gg:a0v) (x:a0c) (nodes:Int) (depth:Int)=>⟨(some (msz x<n∧0≤nodes∧nodes≤1048576∧0≤depth∧depth≤1048576),[⟨(.int .i64),shN gg x nodes depth⟩,⟨.bool,shB gg x nodes depth⟩])⟩⟩
def c1t:Ctr:=⟨c2b,[.v (.st .sig), .v (.st .expr), .v (.int .i64), .v (.int .i64)],fun (gg:a0v) (x:a0c) (nodes:Int) (depth:Int)=>⟨(some (0≤nodes∧nodes≤1048576∧0≤depth∧depth≤1048576),[⟨(.int .i64),shN gg x nodes depth⟩,⟨.bool,shB gg x nodes depth⟩])⟩⟩
def d9q(gg:a0v)(x:a0c)(nodes:Int)(depth:Int):Nat→a0s:=(fun zb=>if Nat.beq zb 100012 then .mk (Unit) (fun u=>a2u x.kind=(x.kids.length:Int)∧1≤nodes∧1≤depth∧f4m (a0r gg.tests) (a0r gg.actions) x=true) (fun u=>0) [] [0,1,6,7,10,14,15,16,17,18,19,20,21,22,23,24,25,26,27,28,29,30,31,32,33,34,35,36,37,38,39,40,41,42,43,44,45,46,47,48,49,50,51] (fun u=>[]) [2,3,4,5,8,9,11,12,13,52,53,54,55,56,57,58,59,60,61,62,63,64,65,66,67,68,69,70,71,72,73,74,75,76,77,78,79,80,81,82,83,84,85] (fun u=>[]) [] [] (fun u=>(fun zb=>if Nat.beq zb 100014 then .mk (Unit) (fun u=>c8x (a0r gg.tests) (a0r gg.actions) x=true∧1≤nodes∧1≤depth) (fun u=>0) [] [0,1,6,7,10,14,15,16,17,18,19,20,21,22,23,24,25,26,27,28,29,30,31,32,33,34,35,36,37,38,39,40,41,42,43,44,45,46,47,48,49,50,51,52,53,54,55,56,57,58,59,60,61,62] (fun u=>[]) [2,3,4,5,8,9,11,12,13,63,64,65,66,67,68,69,70,71,72,73,74,75,76,77,78,79,80,81,82,83,84,85] (fun u=>[]) [] [] (fun u=>(fun zb=>if Nat.beq zb 1 then .mk (Nat) (fun k=>k≤x.kids.length∧a2t (a2c (a0r gg.tests) (a0r gg.actions)) (x.kids.take k)=true∧1+(szL a1a (x.kids.take k):Int)≤nodes∧1+(a3p a1q (x.kids.take k):Int)≤depth) (fun k=>x.kids.length - k) [] [0,1,5,6,7,10,14,15,16,17,18,19,20,21,22,23,24,25,26,27,28,29,30,31,32,33,34,35,36,37,38,39,40,41,42,43,44,45,46,47,48,49,50,51,52,53,54,55,56,57,58,59,60,61,62,63,64,65] (fun k=>[(68, .imm ⟨(.int .i64),((k:Int):Int)⟩),(2, .imm ⟨(.int .i64),(nodes - (1+(szL a1a (x.kids.take k):Int)):Int)⟩)]) [2,3,4,8,9,11,12,13,66,67,68,69,70,71,72,73,74,75,76,77,78,79,80,81,82,83,84,85] (fun k=>[]) [] [] (fun k=>fun _ => .none) else .none)) else .none)) else .none)
abbrev c3w(gg:a0v)(x:a0c)(nodes:Int)(depth:Int):Prop:=(∃ u1:Unit,((a2u x.kind=(x.kids.length:Int)∧1≤nodes∧1≤depth∧f4m (a0r gg.tests) (a0r gg.actions) x=true)∧((nodes=nodes∧(depth=depth∧(gg=gg∧(x=x∧True))))∧True)))
abbrev d2x(gg:a0v)(x:a0c)(nodes:Int)(depth:Int):Prop:=(∃ u2:Unit,((c8x (a0r gg.tests) (a0r gg.actions) x=true∧1≤nodes∧1≤depth)∧((nodes=nodes∧(depth=depth∧(gg=gg∧(x=x∧True))))∧True)))
abbrev d2y(n:Nat)(gg:a0v)(x:a0c)(nodes:Int)(depth:Int):Prop:=((a0d x.kind →
 (((decide (x.kind=(3:Int)))=true →
 (a0d x.num →
 (a0d gg.tests →
 ((((!(decide ((0:Int)≤x.num∧x.num≤(IntKind.wrap .i64 (gg.tests - (1:Int))))))=true) →
 ((0:Int)=(shN gg x nodes depth)∧false=(shB gg x nodes depth)))∧(((!(decide ((0:Int)≤x.num∧x.num≤(IntKind.wrap .i64 (gg.tests - (1:Int))))))=false) →
 (c3w gg x nodes depth))))))∧((decide (x.kind=(3:Int)))=false →
 (((decide (x.kind=(4:Int)))=true →
 (a0d x.num →
 (a0d gg.actions →
 ((((!(decide ((0:Int)≤x.num∧x.num≤(IntKind.wrap .i64 (gg.actions - (1:Int))))))=true) →
 ((0:Int)=(shN gg x nodes depth)∧false=(shB gg x nodes depth)))∧(((!(decide ((0:Int)≤x.num∧x.num≤(IntKind.wrap .i64 (gg.actions - (1:Int))))))=false) →
 (c3w gg x nodes depth))))))∧((decide (x.kind=(4:Int)))=false →
 (a0d x.num →
 (((!(decide (x.num=(0:Int))))=true →
 ((0:Int)=(shN gg x nodes depth)∧false=(shB gg x nodes depth)))∧((!(decide (x.num=(0:Int))))=false →
 (c3w gg x nodes depth)))))))))∧(∀ u1:Unit,((a2u x.kind=(x.kids.length:Int)∧1≤nodes∧1≤depth∧f4m (a0r gg.tests) (a0r gg.actions) x=true) →
 ((a0d x.kind →
 (((decide (x.kind=(5:Int)))=true →
 (x.kids.length≤140737488355328 →
 (a0g (0:Int) x.kids.length∧(((!(a1n (x.kids.getD 0 zE)))=true →
 ((0:Int)=(shN gg x nodes depth)∧false=(shB gg x nodes depth)))∧((!(a1n (x.kids.getD 0 zE)))=false →
 (d2x gg x nodes depth))))))∧((decide (x.kind=(5:Int)))=(!true) →
 ((false=true →
 ((0:Int)=(shN gg x nodes depth)∧false=(shB gg x nodes depth)))∧(false=false →
 (d2x gg x nodes depth))))))∧(∀ u2:Unit,((c8x (a0r gg.tests) (a0r gg.actions) x=true∧1≤nodes∧1≤depth) →
 (a0d (nodes - (1:Int))∧(x.kids.length≤140737488355328 →
 (a0d ((x.kids.length:Int)) →
 ((∃ k3:Nat,((k3≤x.kids.length∧a2t (a2c (a0r gg.tests) (a0r gg.actions)) (x.kids.take k3)=true∧1+(szL a1a (x.kids.take k3):Int)≤nodes∧1+(a3p a1q (x.kids.take k3):Int)≤depth)∧(((nodes - (1:Int))=(nodes - (1+(szL a1a (x.kids.take k3):Int)))∧(depth=depth∧(gg=gg∧(x.kids=x.kids∧(((x.kids.length:Int))=((x.kids.length:Int))∧((0:Int)=(k3:Int)∧True))))))∧True)))∧(∀ k3:Nat,((k3≤x.kids.length∧a2t (a2c (a0r gg.tests) (a0r gg.actions)) (x.kids.take k3)=true∧1+(szL a1a (x.kids.take k3):Int)≤nodes∧1+(a3p a1q (x.kids.take k3):Int)≤depth) →
 (((decide ((k3:Int)<((x.kids.length:Int))))=true →
 (a0g (k3:Int) x.kids.length∧(a0d (depth - (1:Int))∧((msz (a1g (x.kids.getD k3 zE))<n∧0≤(nodes - (1+(szL a1a (x.kids.take k3):Int)))∧(nodes - (1+(szL a1a (x.kids.take k3):Int)))≤1048576∧0≤(depth - (1:Int))∧(depth - (1:Int))≤1048576)∧(a0d (shN gg (a1g (x.kids.getD k3 zE)) (nodes - (1+(szL a1a (x.kids.take k3):Int))) (depth - (1:Int))) →
 (((!(shB gg (a1g (x.kids.getD k3 zE)) (nodes - (1+(szL a1a (x.kids.take k3):Int))) (depth - (1:Int))))=true →
 ((0:Int)=(shN gg x nodes depth)∧false=(shB gg x nodes depth)))∧((!(shB gg (a1g (x.kids.getD k3 zE)) (nodes - (1+(szL a1a (x.kids.take k3):Int))) (depth - (1:Int))))=false →
 (a0d ((k3:Int)+(1:Int))∧(∃ k4:Nat,((k4≤x.kids.length∧a2t (a2c (a0r gg.tests) (a0r gg.actions)) (x.kids.take k4)=true∧1+(szL a1a (x.kids.take k4):Int)≤nodes∧1+(a3p a1q (x.kids.take k4):Int)≤depth)∧(x.kids.length - k4<x.kids.length - k3∧(((shN gg (a1g (x.kids.getD k3 zE)) (nodes - (1+(szL a1a (x.kids.take k3):Int))) (depth - (1:Int)))=(nodes - (1+(szL a1a (x.kids.take k4):Int)))∧(depth=depth∧(gg=gg∧(x.kids=x.kids∧(((x.kids.length:Int))=((x.kids.length:Int))∧(((k3:Int)+(1:Int))=(k4:Int)∧True))))))∧True))))))))))))∧((decide ((k3:Int)<((x.kids.length:Int))))=false →
 ((nodes - (1+(szL a1a (x.kids.take k3):Int)))=(shN gg x nodes depth)∧true=(shB gg x nodes depth))))))))))))))))
abbrev d2z(n:Nat)(gg:a0v)(x:a0c)(nodes:Int)(depth:Int):Prop:=(a0d x.kind →
 (a0d (a2u x.kind) →
 (x.kids.length≤140737488355328 →
 (a0d ((x.kids.length:Int)) →
 (((!(decide ((a2u x.kind)=((x.kids.length:Int)))))=true →
 ((0:Int)=(shN gg x nodes depth)∧false=(shB gg x nodes depth)))∧((!(decide ((a2u x.kind)=((x.kids.length:Int)))))=false →
 (d2y n gg x nodes depth)))))))
abbrev d3a(n:Nat)(gg:a0v)(x:a0c)(nodes:Int)(depth:Int):Prop:=((true=true →
 ((0:Int)=(shN gg x nodes depth)∧false=(shB gg x nodes depth)))∧(true=false →
 (d2y n gg x nodes depth)))
theorem f8q(n:Nat)(gg:a0v)(x:a0c)(nodes:Int)(depth:Int):awp (a0u [b5j n,b7l,a2p,a4r] [40,49] [] [4,5]) (a0k b1o) (d9q gg x nodes depth) 0 (a1b (a0u [b5j n,b7l,a2p,a4r] [40,49] [] [4,5]) b1o fun r=>a1d r [⟨(.int .i64),shN gg x nodes depth⟩,⟨.bool,shB gg x nodes depth⟩]) (a0p b1o [.val ⟨(.st .sig),gg⟩, .val ⟨(.st .expr),x⟩, .val ⟨(.int .i64),nodes⟩, .val ⟨(.int .i64),depth⟩]) =
 ((((decide (nodes=(0:Int)))=false →
 (((decide (depth=(0:Int)))=false →
 (d2z n gg x nodes depth))∧((decide (depth=(0:Int)))=(!false) →
 (d3a n gg x nodes depth))))∧((decide (nodes=(0:Int)))=(!false) →
 ((true=false →
 (d2z n gg x nodes depth))∧(true=(!false) →
 (d3a n gg x nodes depth)))))):=by kernel_rfl
theorem f7u(n:Nat)(hE:a0m [b5j n,b7l,a2p,a4r]):Ctr.Good (b5j (n+1)):=by
 refine⟨a0j b9q rfl (by decide),?_⟩
 show ∀ (gg:a0v) (x:a0c) (nodes:Int) (depth:Int),(msz x<n+1∧0≤nodes∧nodes≤1048576∧0≤depth∧depth≤1048576)→a0z prog c2b [.val ⟨(.st .sig),gg⟩, .val ⟨(.st .expr),x⟩, .val ⟨(.int .i64),nodes⟩, .val ⟨(.int .i64),depth⟩] (·=[⟨(.int .i64),shN gg x nodes depth⟩,⟨.bool,shB gg x nodes depth⟩])
 intro gg x nodes depth hp
 refine a0x (wr:=[40,49]) (cl:=[]) (ro:=[4,5]) hE b9q e9f (d9q gg x nodes depth) ?_
 rewrite [f8q n gg x nodes depth]
 have fs:=c6w gg x nodes depth
 rw[g3k _ _ x,f9x x,e2k x] at fs
 have f0:=a5n x
 have f1:=b4c a1a x.kids
 have f2:=d3w a1q x.kids
 have f3:=c4t (a2c (a0r gg.tests) (a0r gg.actions)) x.kids
 refine⟨fun a0=>⟨fun a1=>fun a2=>fun a3=>fun a4=>fun a5=>⟨fun a6=>⟨?_,?_⟩,fun a6=>⟨fun a7=>⟨fun a8=>fun a9=>fun a10=>⟨fun a11=>⟨?_,?_⟩,fun a11=>⟨(),⟨?_,⟨⟨rfl,⟨rfl,⟨rfl,⟨rfl,trivial⟩⟩⟩⟩,trivial⟩⟩⟩⟩,fun a8=>⟨fun a9=>fun a10=>fun a11=>⟨fun a12=>⟨?_,?_⟩,fun a12=>⟨(),⟨?_,⟨⟨rfl,⟨rfl,⟨rfl,⟨rfl,trivial⟩⟩⟩⟩,trivial⟩⟩⟩⟩,fun a9=>fun a10=>⟨fun a11=>⟨?_,?_⟩,fun a11=>⟨(),⟨?_,⟨⟨rfl,⟨rfl,⟨rfl,⟨rfl,trivial⟩⟩⟩⟩,trivial⟩⟩⟩⟩⟩⟩,fun u1=>fun a7=>⟨fun a8=>⟨fun a9=>fun a10=>⟨?_,⟨fun a11=>⟨?_,?_⟩,fun a11=>⟨(),⟨?_,⟨⟨rfl,⟨rfl,⟨rfl,⟨rfl,trivial⟩⟩⟩⟩,trivial⟩⟩⟩⟩⟩,fun a9=>⟨fun a10=>⟨?_,?_⟩,fun a10=>⟨(),⟨?_,⟨⟨rfl,⟨rfl,⟨rfl,⟨rfl,trivial⟩⟩⟩⟩,trivial⟩⟩⟩⟩⟩,fun u2=>fun a8=>⟨?_,fun a9=>fun a10=>⟨⟨0,⟨?_,⟨⟨?_,⟨rfl,⟨rfl,⟨rfl,⟨rfl,⟨?_,trivial⟩⟩⟩⟩⟩⟩,trivial⟩⟩⟩,fun k3 a11=>have b11x0:=a4q (a2c (a0r gg.tests) (a0r gg.actions)) zE x.kids k3;have b11x1:=a5s (a2c (a0r gg.tests) (a0r gg.actions)) zE x.kids k3;have b11x2:=a4p (a2c (a0r gg.tests) (a0r gg.actions)) x.kids k3;have b11x3:=a1i zE x.kids k3;have b11x4:=a6v a1a zE x.kids k3;have b11x5:=a2l a1a x.kids (k3+1);have b11x6:=b0h a1a x.kids k3;have b11x7:=b5y a1q zE x.kids k3;have b11x8:=a5x a1q x.kids (k3+1);have b11x9:=c2r a1q x.kids k3;have b11x10:=c6w gg (x.kids.getD k3 zE) (nodes - (1+(szL a1a (x.kids.take k3):Int))) (depth - 1);⟨fun a12=>⟨?_,⟨?_,⟨?_,fun a13=>⟨fun a14=>⟨?_,?_⟩,fun a14=>⟨?_,⟨k3+1,⟨?_,⟨?_,⟨⟨?_,⟨rfl,⟨rfl,⟨rfl,⟨rfl,⟨?_,trivial⟩⟩⟩⟩⟩⟩,trivial⟩⟩⟩⟩⟩⟩⟩⟩⟩,fun a12=>⟨?_,?_⟩⟩⟩⟩⟩⟩⟩,fun a1=>⟨fun a2=>⟨?_,?_⟩,fun a2=>⟨fun a3=>⟨fun a4=>fun a5=>fun a6=>⟨fun a7=>⟨?_,?_⟩,fun a7=>⟨(),⟨?_,⟨⟨rfl,⟨rfl,⟨rfl,⟨rfl,trivial⟩⟩⟩⟩,trivial⟩⟩⟩⟩,fun a4=>⟨fun a5=>fun a6=>fun a7=>⟨fun a8=>⟨?_,?_⟩,fun a8=>⟨(),⟨?_,⟨⟨rfl,⟨rfl,⟨rfl,⟨rfl,trivial⟩⟩⟩⟩,trivial⟩⟩⟩⟩,fun a5=>fun a6=>⟨fun a7=>⟨?_,?_⟩,fun a7=>⟨(),⟨?_,⟨⟨rfl,⟨rfl,⟨rfl,⟨rfl,trivial⟩⟩⟩⟩,trivial⟩⟩⟩⟩⟩⟩,fun u1=>fun a3=>⟨fun a4=>⟨fun a5=>fun a6=>⟨?_,⟨fun a7=>⟨?_,?_⟩,fun a7=>⟨(),⟨?_,⟨⟨rfl,⟨rfl,⟨rfl,⟨rfl,trivial⟩⟩⟩⟩,trivial⟩⟩⟩⟩⟩,fun a5=>⟨fun a6=>⟨?_,?_⟩,fun a6=>⟨(),⟨?_,⟨⟨rfl,⟨rfl,⟨rfl,⟨rfl,trivial⟩⟩⟩⟩,trivial⟩⟩⟩⟩⟩,fun u2=>fun a4=>⟨?_,fun a5=>fun a6=>⟨⟨0,⟨?_,⟨⟨?_,⟨rfl,⟨rfl,⟨rfl,⟨rfl,⟨?_,trivial⟩⟩⟩⟩⟩⟩,trivial⟩⟩⟩,fun k3 a7=>have b7x0:=a4q (a2c (a0r gg.tests) (a0r gg.actions)) zE x.kids k3;have b7x1:=a5s (a2c (a0r gg.tests) (a0r gg.actions)) zE x.kids k3;have b7x2:=a4p (a2c (a0r gg.tests) (a0r gg.actions)) x.kids k3;have b7x3:=a1i zE x.kids k3;have b7x4:=a6v a1a zE x.kids k3;have b7x5:=a2l a1a x.kids (k3+1);have b7x6:=b0h a1a x.kids k3;have b7x7:=b5y a1q zE x.kids k3;have b7x8:=a5x a1q x.kids (k3+1);have b7x9:=c2r a1q x.kids k3;have b7x10:=c6w gg (x.kids.getD k3 zE) (nodes - (1+(szL a1a (x.kids.take k3):Int))) (depth - 1);⟨fun a8=>⟨?_,⟨?_,⟨?_,fun a9=>⟨fun a10=>⟨?_,?_⟩,fun a10=>⟨?_,⟨k3+1,⟨?_,⟨?_,⟨⟨?_,⟨rfl,⟨rfl,⟨rfl,⟨rfl,⟨?_,trivial⟩⟩⟩⟩⟩⟩,trivial⟩⟩⟩⟩⟩⟩⟩⟩⟩,fun a8=>⟨?_,?_⟩⟩⟩⟩⟩⟩⟩⟩,fun a0=>⟨fun a1=>fun a2=>fun a3=>fun a4=>fun a5=>⟨fun a6=>⟨?_,?_⟩,fun a6=>⟨fun a7=>⟨fun a8=>fun a9=>fun a10=>⟨fun a11=>⟨?_,?_⟩,fun a11=>⟨(),⟨?_,⟨⟨rfl,⟨rfl,⟨rfl,⟨rfl,trivial⟩⟩⟩⟩,trivial⟩⟩⟩⟩,fun a8=>⟨fun a9=>fun a10=>fun a11=>⟨fun a12=>⟨?_,?_⟩,fun a12=>⟨(),⟨?_,⟨⟨rfl,⟨rfl,⟨rfl,⟨rfl,trivial⟩⟩⟩⟩,trivial⟩⟩⟩⟩,fun a9=>fun a10=>⟨fun a11=>⟨?_,?_⟩,fun a11=>⟨(),⟨?_,⟨⟨rfl,⟨rfl,⟨rfl,⟨rfl,trivial⟩⟩⟩⟩,trivial⟩⟩⟩⟩⟩⟩,fun u1=>fun a7=>⟨fun a8=>⟨fun a9=>fun a10=>⟨?_,⟨fun a11=>⟨?_,?_⟩,fun a11=>⟨(),⟨?_,⟨⟨rfl,⟨rfl,⟨rfl,⟨rfl,trivial⟩⟩⟩⟩,trivial⟩⟩⟩⟩⟩,fun a9=>⟨fun a10=>⟨?_,?_⟩,fun a10=>⟨(),⟨?_,⟨⟨rfl,⟨rfl,⟨rfl,⟨rfl,trivial⟩⟩⟩⟩,trivial⟩⟩⟩⟩⟩,fun u2=>fun a8=>⟨?_,fun a9=>fun a10=>⟨⟨0,⟨?_,⟨⟨?_,⟨rfl,⟨rfl,⟨rfl,⟨rfl,⟨?_,trivial⟩⟩⟩⟩⟩⟩,trivial⟩⟩⟩,fun k3 a11=>have b11x0:=a4q (a2c (a0r gg.tests) (a0r gg.actions)) zE x.kids k3;have b11x1:=a5s (a2c (a0r gg.tests) (a0r gg.actions)) zE x.kids k3;have b11x2:=a4p (a2c (a0r gg.tests) (a0r gg.actions)) x.kids k3;have b11x3:=a1i zE x.kids k3;have b11x4:=a6v a1a zE x.kids k3;have b11x5:=a2l a1a x.kids (k3+1);have b11x6:=b0h a1a x.kids k3;have b11x7:=b5y a1q zE x.kids k3;have b11x8:=a5x a1q x.kids (k3+1);have b11x9:=c2r a1q x.kids k3;have b11x10:=c6w gg (x.kids.getD k3 zE) (nodes - (1+(szL a1a (x.kids.take k3):Int))) (depth - 1);⟨fun a12=>⟨?_,⟨?_,⟨?_,fun a13=>⟨fun a14=>⟨?_,?_⟩,fun a14=>⟨?_,⟨k3+1,⟨?_,⟨?_,⟨⟨?_,⟨rfl,⟨rfl,⟨rfl,⟨rfl,⟨?_,trivial⟩⟩⟩⟩⟩⟩,trivial⟩⟩⟩⟩⟩⟩⟩⟩⟩,fun a12=>⟨?_,?_⟩⟩⟩⟩⟩⟩⟩,fun a1=>⟨fun a2=>⟨?_,?_⟩,fun a2=>⟨fun a3=>⟨fun a4=>fun a5=>fun a6=>⟨fun a7=>⟨?_,?_⟩,fun a7=>⟨(),⟨?_,⟨⟨rfl,⟨rfl,⟨rfl,⟨rfl,trivial⟩⟩⟩⟩,trivial⟩⟩⟩⟩,fun a4=>⟨fun a5=>fun a6=>fun a7=>⟨fun a8=>⟨?_,?_⟩,fun a8=>⟨(),⟨?_,⟨⟨rfl,⟨rfl,⟨rfl,⟨rfl,trivial⟩⟩⟩⟩,trivial⟩⟩⟩⟩,fun a5=>fun a6=>⟨fun a7=>⟨?_,?_⟩,fun a7=>⟨(),⟨?_,⟨⟨rfl,⟨rfl,⟨rfl,⟨rfl,trivial⟩⟩⟩⟩,trivial⟩⟩⟩⟩⟩⟩,fun u1=>fun a3=>⟨fun a4=>⟨fun a5=>fun a6=>⟨?_,⟨fun a7=>⟨?_,?_⟩,fun a7=>⟨(),⟨?_,⟨⟨rfl,⟨rfl,⟨rfl,⟨rfl,trivial⟩⟩⟩⟩,trivial⟩⟩⟩⟩⟩,fun a5=>⟨fun a6=>⟨?_,?_⟩,fun a6=>⟨(),⟨?_,⟨⟨rfl,⟨rfl,⟨rfl,⟨rfl,trivial⟩⟩⟩⟩,trivial⟩⟩⟩⟩⟩,fun u2=>fun a4=>⟨?_,fun a5=>fun a6=>⟨⟨0,⟨?_,⟨⟨?_,⟨rfl,⟨rfl,⟨rfl,⟨rfl,⟨?_,trivial⟩⟩⟩⟩⟩⟩,trivial⟩⟩⟩,fun k3 a7=>have b7x0:=a4q (a2c (a0r gg.tests) (a0r gg.actions)) zE x.kids k3;have b7x1:=a5s (a2c (a0r gg.tests) (a0r gg.actions)) zE x.kids k3;have b7x2:=a4p (a2c (a0r gg.tests) (a0r gg.actions)) x.kids k3;have b7x3:=a1i zE x.kids k3;have b7x4:=a6v a1a zE x.kids k3;have b7x5:=a2l a1a x.kids (k3+1);have b7x6:=b0h a1a x.kids k3;have b7x7:=b5y a1q zE x.kids k3;have b7x8:=a5x a1q x.kids (k3+1);have b7x9:=c2r a1q x.kids k3;have b7x10:=c6w gg (x.kids.getD k3 zE) (nodes - (1+(szL a1a (x.kids.take k3):Int))) (depth - 1);⟨fun a8=>⟨?_,⟨?_,⟨?_,fun a9=>⟨fun a10=>⟨?_,?_⟩,fun a10=>⟨?_,⟨k3+1,⟨?_,⟨?_,⟨⟨?_,⟨rfl,⟨rfl,⟨rfl,⟨rfl,⟨?_,trivial⟩⟩⟩⟩⟩⟩,trivial⟩⟩⟩⟩⟩⟩⟩⟩⟩,fun a8=>⟨?_,?_⟩⟩⟩⟩⟩⟩⟩⟩⟩
 all_goals try and_intros
 all_goals try simp only[a0c.eta,a0a.eta,a1y,a2a] at *
 all_goals ((try simp only[a0r] at *);generalize IntKind.wrap .i64 (gg.tests - 1)=T at *;generalize IntKind.wrap .i64 (gg.actions - 1)=A at *;first|rfl|trivial|(simp only[decide_eq_true_eq,decide_eq_false_iff_not,a0g,a0d] at *;omega)|(rcases fs with ⟨t1,t2,t3,t4,t5⟩|⟨t1,t4,t5⟩<;>(try rw[t4])<;>(try rw[t5])<;>clear t4 t5<;>simp only[decide_eq_true_eq,decide_eq_false_iff_not,g8s,f4m,Bool.and_eq_true,Bool.and_eq_false_iff,Bool.not_eq_true',Bool.not_eq_false',a0d] at *<;>first|rfl|omega|grind|grind [a2u]))
theorem e1j :∀ n,a0m [b5j n]
 | 0=>⟨⟨a0j b9q rfl (by decide),fun _ _ _ _ h=>absurd h.1 (Nat.not_lt_zero _)⟩,trivial⟩
 | n+1=>by
  have ih:=e1j  n
  exact⟨f7u n ⟨ih.1,f0f,b0l,c3e,trivial⟩,trivial⟩
theorem f0h :Ctr.Good c1t :=
 ⟨a0j b9q rfl (by decide),fun gg x nodes depth hp=>(e1j  (msz x+1)).1.2 gg x nodes depth (⟨Nat.lt_succ_self _,hp⟩)⟩
end
end Go.Proofs.Ytlaoejdeanljgaa

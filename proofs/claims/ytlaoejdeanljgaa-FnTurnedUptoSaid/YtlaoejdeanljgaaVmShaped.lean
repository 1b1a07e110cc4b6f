/- Expr, Expr2, Shaped. -/
import Derived.Test.YtlaoejdeanljgaaVmUse
import Derived.Test.YtlaoejdeanljgaaVmLib
set_option linter.unusedVariables false
set_option linter.unusedSimpArgs false
set_option linter.unusedSectionVars false
set_option maxRecDepth 4000
set_option maxHeartbeats 4000000
namespace Go.Proofs.Ytlaoejdeanljgaa
noncomputable section
mutual
def a0u:a0b→Nat
 | ⟨_,_,ks⟩=>1+a8s ks
def a8s:List a0b→Nat
 | []=>0
 | k::ks=>a0u k+a8s ks
end
theorem f2c:∀ xs,a8s xs=szL a0u xs
 | []=>rfl
 | x::xs=>by rw[a8s,szL,f2c xs]
theorem f7g(x:a0b):a0u x=1+szL a0u x.kids:=by
 cases x;simp[a0u,f2c]
mutual
def a1j:a0b→Nat
 | ⟨_,_,ks⟩=>1+a9t ks
def a9t:List a0b→Nat
 | []=>0
 | k::ks=>max (a1j k) (a9t ks)
end
theorem f1l:∀ xs,a9t xs=a3r a1j xs
 | []=>rfl
 | x::xs=>by rw[a9t,a3r,f1l xs]
theorem e1s(x:a0b):a1j x=1+a3r a1j x.kids:=by
 cases x;simp[a1j,f1l]
mutual
theorem e6q:∀ x:a0b,a1j x≤a0u x
 | ⟨k,n,ks⟩=>by
  have:=e1v ks
  simp only[a1j,a0u];omega
theorem e1v:∀ xs:List a0b,a9t xs≤a8s xs
 | []=>by simp[a9t]
 | x::xs=>by
  have h1:=e6q x
  have h2:=e1v xs
  simp only[a9t,a8s];omega
end
def c5b(k:Int):Bool:=decide (k=1)||decide (k=2)||decide (k=3)||decide (k=5)||decide (k=6)||decide (k=7)
mutual
def a1i:a0b→Bool
 | ⟨k,_,ks⟩=>c5b k&&c5l ks
def c5l:List a0b→Bool
 | []=>true
 | k::ks=>a1i k&&c5l ks
end
theorem f6u:∀ xs,c5l xs=a2r a1i xs
 | []=>rfl
 | x::xs=>by rw[c5l,a2r,f6u xs]
theorem f9o(x:a0b):a1i x=(c5b x.kind&&a2r a1i x.kids):=by
 cases x;simp[a1i,f6u]
def a2q(k:Int):Int:=if k=1∨k=2∨k=3∨k=4 then 0 else if k=5∨k=8 then 1 else if k=6∨k=7 then 2 else -1
def a2u:Ctr:=⟨c6w,[.v (.int .i64), .v (.int .i64), .v (.int .i64)],fun (n:Int) (least:Int) (most:Int)=>⟨(none,[⟨.bool,decide (least≤n∧n≤most)⟩])⟩⟩
def d9j(n:Int)(least:Int)(most:Int):Nat→a0t:=fun _ => .none
theorem f6c(n:Int)(least:Int)(most:Int):awp (a0x []) (a0i b1s) (d9j n least most) 0 (a1h (a0x []) b1s fun r=>a1e r [⟨.bool,decide (least≤n∧n≤most)⟩]) (a0r b1s [.val ⟨(.int .i64),n⟩, .val ⟨(.int .i64),least⟩, .val ⟨(.int .i64),most⟩]) =
 ((((decide (least≤n))=true →
 ((decide (n≤most))=(decide (least≤n∧n≤most))))∧((decide (least≤n))=(!true) →
 (false=(decide (least≤n∧n≤most)))))):=by kernel_rfl
theorem f5h(hE:a0p []):Ctr.Good a2u:=by
 refine⟨a0j d4j rfl (by decide),?_⟩
 show ∀ (n:Int) (least:Int) (most:Int),True→a1f prog c6w [.val ⟨(.int .i64),n⟩, .val ⟨(.int .i64),least⟩, .val ⟨(.int .i64),most⟩] (·=[⟨.bool,decide (least≤n∧n≤most)⟩])
 intro n least most _
 refine a0z (wr:=[]) (cl:=[]) (ro:=[]) hE d4j e7r (d9j n least most) ?_
 rewrite [f6c n least most]
 refine⟨fun a0=>?_,fun a0=>?_⟩
 all_goals try and_intros
 all_goals first|rfl|trivial|(simp_all;done)|(simp_all;omega)
theorem b0m:Ctr.Good a2u:=f5h trivial
def a3q:Ctr:=⟨c3b,[.v (.int .i64), .v (.int .i64), .v (.int .i64)],fun (n:Int) (low:Int) (high:Int)=>⟨(none,[⟨.bool,decide (low≤n∧n≤high)⟩])⟩⟩
def e2s(n:Int)(low:Int)(high:Int):Nat→a0t:=fun _ => .none
theorem f8l(n:Int)(low:Int)(high:Int):awp (a0x []) (a0i b4l) (e2s n low high) 0 (a1h (a0x []) b4l fun r=>a1e r [⟨.bool,decide (low≤n∧n≤high)⟩]) (a0r b4l [.val ⟨(.int .i64),n⟩, .val ⟨(.int .i64),low⟩, .val ⟨(.int .i64),high⟩]) =
 ((((decide (low≤n))=true →
 ((decide (n≤high))=(decide (low≤n∧n≤high))))∧((decide (low≤n))=(!true) →
 (false=(decide (low≤n∧n≤high)))))):=by kernel_rfl
theorem f8e(hE:a0p []):Ctr.Good a3q:=by
 refine⟨a0j d8r rfl (by decide),?_⟩
 show ∀ (n:Int) (low:Int) (high:Int),True→a1f prog c3b [.val ⟨(.int .i64),n⟩, .val ⟨(.int .i64),low⟩, .val ⟨(.int .i64),high⟩] (·=[⟨.bool,decide (low≤n∧n≤high)⟩])
 intro n low high _
 refine a0z (wr:=[]) (cl:=[]) (ro:=[]) hE d8r f1c (e2s n low high) ?_
 rewrite [f8l n low high]
 refine⟨fun a0=>?_,fun a0=>?_⟩
 all_goals try and_intros
 all_goals first|rfl|trivial|(simp_all;done)|(simp_all;omega)
theorem b7i:Ctr.Good a3q:=f8e trivial
def a6x:Ctr:=⟨c6z,[.v (.int .i64), .v (.int .i64)],fun (a:Int) (b:Int)=>⟨(none,[⟨(.int .i64),max a b⟩])⟩⟩
def d9m(a:Int)(b:Int):Nat→a0t:=fun _ => .none
theorem f6f(a:Int)(b:Int):awp (a0x []) (a0i b1v) (d9m a b) 0 (a1h (a0x []) b1v fun r=>a1e r [⟨(.int .i64),max a b⟩]) (a0r b1v [.val ⟨(.int .i64),a⟩, .val ⟨(.int .i64),b⟩]) =
 ((((decide (b<a))=true →
 a=(max a b))∧((decide (b<a))=false →
 b=(max a b)))):=by kernel_rfl
theorem f5k(hE:a0p []):Ctr.Good a6x:=by
 refine⟨a0j d4m rfl (by decide),?_⟩
 show ∀ (a:Int) (b:Int),True→a1f prog c6z [.val ⟨(.int .i64),a⟩, .val ⟨(.int .i64),b⟩] (·=[⟨(.int .i64),max a b⟩])
 intro a b _
 refine a0z (wr:=[]) (cl:=[]) (ro:=[]) hE d4m e7u (d9m a b) ?_
 rewrite [f6f a b]
 refine⟨fun a0=>?_,fun a0=>?_⟩
 all_goals try and_intros
 all_goals first|rfl|trivial|(simp_all;omega)
theorem c9z:Ctr.Good a6x:=f5k trivial
def b6m:Ctr:=⟨c6u,[.v (.int .i64)],fun (k:Int)=>⟨(none,[⟨(.int .i64),a2q k⟩])⟩⟩
def d9g(k:Int):Nat→a0t:=fun _ => .none
abbrev d1y(k:Int):Prop:=(((decide (k=(6:Int)))=true →
 (((decide (k=(6:Int)))=true →
 (2:Int)=(a2q k))∧((decide (k=(6:Int)))=false →
 (-1:Int)=(a2q k))))∧((decide (k=(6:Int)))=false →
 (((decide (k=(7:Int)))=true →
 (2:Int)=(a2q k))∧((decide (k=(7:Int)))=false →
 (-1:Int)=(a2q k)))))
abbrev b7j(k:Int):Prop:=(((decide (k=(5:Int)))=true →
 (((decide (k=(5:Int)))=true →
 (1:Int)=(a2q k))∧((decide (k=(5:Int)))=false →
 (d1y k))))∧((decide (k=(5:Int)))=false →
 (((decide (k=(8:Int)))=true →
 (1:Int)=(a2q k))∧((decide (k=(8:Int)))=false →
 (d1y k)))))
theorem f5z(k:Int):awp (a0x []) (a0i b1p) (d9g k) 0 (a1h (a0x []) b1p fun r=>a1e r [⟨(.int .i64),a2q k⟩]) (a0r b1p [.val ⟨(.int .i64),k⟩]) =
 ((((decide (k=(1:Int)))=true →
 (((decide (k=(1:Int)))=true →
 (0:Int)=(a2q k))∧((decide (k=(1:Int)))=false →
 (b7j k))))∧((decide (k=(1:Int)))=false →
 (((decide (k=(2:Int)))=true →
 (((decide (k=(2:Int)))=true →
 (0:Int)=(a2q k))∧((decide (k=(2:Int)))=false →
 (b7j k))))∧((decide (k=(2:Int)))=false →
 (((decide (k=(3:Int)))=true →
 (((decide (k=(3:Int)))=true →
 (0:Int)=(a2q k))∧((decide (k=(3:Int)))=false →
 (b7j k))))∧((decide (k=(3:Int)))=false →
 (((decide (k=(4:Int)))=true →
 (0:Int)=(a2q k))∧((decide (k=(4:Int)))=false →
 (b7j k)))))))))):=by kernel_rfl
theorem f5e(hE:a0p []):Ctr.Good b6m:=by
 refine⟨a0j d4h rfl (by decide),?_⟩
 show ∀ (k:Int),True→a1f prog c6u [.val ⟨(.int .i64),k⟩] (·=[⟨(.int .i64),a2q k⟩])
 intro k _
 refine a0z (wr:=[]) (cl:=[]) (ro:=[]) hE d4h e7o (d9g k) ?_
 rewrite [f5z k]
 refine⟨fun a0=>⟨fun a1=>?_,fun a1=>⟨fun a2=>⟨fun a3=>?_,fun a3=>⟨fun a4=>⟨fun a5=>?_,fun a5=>?_⟩,fun a4=>⟨fun a5=>?_,fun a5=>?_⟩⟩⟩,fun a2=>⟨fun a3=>?_,fun a3=>⟨fun a4=>⟨fun a5=>?_,fun a5=>?_⟩,fun a4=>⟨fun a5=>?_,fun a5=>?_⟩⟩⟩⟩⟩,fun a0=>⟨fun a1=>⟨fun a2=>?_,fun a2=>⟨fun a3=>⟨fun a4=>?_,fun a4=>⟨fun a5=>⟨fun a6=>?_,fun a6=>?_⟩,fun a5=>⟨fun a6=>?_,fun a6=>?_⟩⟩⟩,fun a3=>⟨fun a4=>?_,fun a4=>⟨fun a5=>⟨fun a6=>?_,fun a6=>?_⟩,fun a5=>⟨fun a6=>?_,fun a6=>?_⟩⟩⟩⟩⟩,fun a1=>⟨fun a2=>⟨fun a3=>?_,fun a3=>⟨fun a4=>⟨fun a5=>?_,fun a5=>⟨fun a6=>⟨fun a7=>?_,fun a7=>?_⟩,fun a6=>⟨fun a7=>?_,fun a7=>?_⟩⟩⟩,fun a4=>⟨fun a5=>?_,fun a5=>⟨fun a6=>⟨fun a7=>?_,fun a7=>?_⟩,fun a6=>⟨fun a7=>?_,fun a7=>?_⟩⟩⟩⟩⟩,fun a2=>⟨fun a3=>?_,fun a3=>⟨fun a4=>⟨fun a5=>?_,fun a5=>⟨fun a6=>⟨fun a7=>?_,fun a7=>?_⟩,fun a6=>⟨fun a7=>?_,fun a7=>?_⟩⟩⟩,fun a4=>⟨fun a5=>?_,fun a5=>⟨fun a6=>⟨fun a7=>?_,fun a7=>?_⟩,fun a6=>⟨fun a7=>?_,fun a7=>?_⟩⟩⟩⟩⟩⟩⟩⟩
 all_goals try and_intros
 all_goals first|rfl|trivial|(simp only[decide_eq_true_eq,decide_eq_false_iff_not] at *;simp[a2q, *];done)|(simp only[decide_eq_true_eq,decide_eq_false_iff_not] at *;unfold a2q;repeat (first|omega|split))
theorem e8m:Ctr.Good b6m:=f5e trivial
def b4w:Ctr:=⟨c4j,[.v (.int .i64)],fun (k:Int)=>⟨(none,[⟨(.int .i64),a2q k⟩])⟩⟩
def d5j(k:Int):Nat→a0t:=fun _ => .none
abbrev d0d(k:Int):Prop:=(((decide (k=(6:Int)))=true →
 (((decide (k=(6:Int)))=true →
 (2:Int)=(a2q k))∧((decide (k=(6:Int)))=false →
 (-1:Int)=(a2q k))))∧((decide (k=(6:Int)))=false →
 (((decide (k=(7:Int)))=true →
 (2:Int)=(a2q k))∧((decide (k=(7:Int)))=false →
 (-1:Int)=(a2q k)))))
abbrev b5x(k:Int):Prop:=(((decide (k=(5:Int)))=true →
 (((decide (k=(5:Int)))=true →
 (1:Int)=(a2q k))∧((decide (k=(5:Int)))=false →
 (d0d k))))∧((decide (k=(5:Int)))=false →
 (((decide (k=(8:Int)))=true →
 (1:Int)=(a2q k))∧((decide (k=(8:Int)))=false →
 (d0d k)))))
theorem f3n(k:Int):awp (a0x []) (a0i a9u) (d5j k) 0 (a1h (a0x []) a9u fun r=>a1e r [⟨(.int .i64),a2q k⟩]) (a0r a9u [.val ⟨(.int .i64),k⟩]) =
 ((((decide (k=(1:Int)))=true →
 (((decide (k=(1:Int)))=true →
 (0:Int)=(a2q k))∧((decide (k=(1:Int)))=false →
 (b5x k))))∧((decide (k=(1:Int)))=false →
 (((decide (k=(2:Int)))=true →
 (((decide (k=(2:Int)))=true →
 (0:Int)=(a2q k))∧((decide (k=(2:Int)))=false →
 (b5x k))))∧((decide (k=(2:Int)))=false →
 (((decide (k=(3:Int)))=true →
 (((decide (k=(3:Int)))=true →
 (0:Int)=(a2q k))∧((decide (k=(3:Int)))=false →
 (b5x k))))∧((decide (k=(3:Int)))=false →
 (((decide (k=(4:Int)))=true →
 (0:Int)=(a2q k))∧((decide (k=(4:Int)))=false →
 (b5x k)))))))))):=by kernel_rfl
theorem f2g(hE:a0p []):Ctr.Good b4w:=by
 refine⟨a0j d1m rfl (by decide),?_⟩
 show ∀ (k:Int),True→a1f prog c4j [.val ⟨(.int .i64),k⟩] (·=[⟨(.int .i64),a2q k⟩])
 intro k _
 refine a0z (wr:=[]) (cl:=[]) (ro:=[]) hE d1m e4r (d5j k) ?_
 rewrite [f3n k]
 refine⟨fun a0=>⟨fun a1=>?_,fun a1=>⟨fun a2=>⟨fun a3=>?_,fun a3=>⟨fun a4=>⟨fun a5=>?_,fun a5=>?_⟩,fun a4=>⟨fun a5=>?_,fun a5=>?_⟩⟩⟩,fun a2=>⟨fun a3=>?_,fun a3=>⟨fun a4=>⟨fun a5=>?_,fun a5=>?_⟩,fun a4=>⟨fun a5=>?_,fun a5=>?_⟩⟩⟩⟩⟩,fun a0=>⟨fun a1=>⟨fun a2=>?_,fun a2=>⟨fun a3=>⟨fun a4=>?_,fun a4=>⟨fun a5=>⟨fun a6=>?_,fun a6=>?_⟩,fun a5=>⟨fun a6=>?_,fun a6=>?_⟩⟩⟩,fun a3=>⟨fun a4=>?_,fun a4=>⟨fun a5=>⟨fun a6=>?_,fun a6=>?_⟩,fun a5=>⟨fun a6=>?_,fun a6=>?_⟩⟩⟩⟩⟩,fun a1=>⟨fun a2=>⟨fun a3=>?_,fun a3=>⟨fun a4=>⟨fun a5=>?_,fun a5=>⟨fun a6=>⟨fun a7=>?_,fun a7=>?_⟩,fun a6=>⟨fun a7=>?_,fun a7=>?_⟩⟩⟩,fun a4=>⟨fun a5=>?_,fun a5=>⟨fun a6=>⟨fun a7=>?_,fun a7=>?_⟩,fun a6=>⟨fun a7=>?_,fun a7=>?_⟩⟩⟩⟩⟩,fun a2=>⟨fun a3=>?_,fun a3=>⟨fun a4=>⟨fun a5=>?_,fun a5=>⟨fun a6=>⟨fun a7=>?_,fun a7=>?_⟩,fun a6=>⟨fun a7=>?_,fun a7=>?_⟩⟩⟩,fun a4=>⟨fun a5=>?_,fun a5=>⟨fun a6=>⟨fun a7=>?_,fun a7=>?_⟩,fun a6=>⟨fun a7=>?_,fun a7=>?_⟩⟩⟩⟩⟩⟩⟩⟩
 all_goals try and_intros
 all_goals first|rfl|trivial|(simp only[decide_eq_true_eq,decide_eq_false_iff_not] at *;simp[a2q, *];done)|(simp only[decide_eq_true_eq,decide_eq_false_iff_not] at *;unfold a2q;repeat (first|omega|split))
theorem e5h:Ctr.Good b4w:=f2g trivial
def a7e(n:Nat):Ctr:=⟨b3k,[.v (.st .expr)],fun (x:a0b)=>⟨(some (msz x<n),[⟨.bool,a1i x⟩])⟩⟩
def a4u:Ctr:=⟨b3k,[.v (.st .expr)],fun (x:a0b)=>⟨(none,[⟨.bool,a1i x⟩])⟩⟩
def c5y(x:a0b):Nat→a0t:=(fun zb=>if Nat.beq zb 1 then .mk (Nat) (fun k=>k≤x.kids.length∧a2r a1i (x.kids.take k)=true) (fun k=>x.kids.length - k) [] [0,1,3,5,6,7,8,9,10,11,12,13,14] (fun k=>[(17, .imm ⟨(.int .i64),((k:Int):Int)⟩)]) [2,4,15,16,17,18,19,20,21,22,23,24] (fun k=>[]) [] [] (fun k=>fun _ => .none) else .none)
abbrev a5a(n:Nat)(x:a0b):Prop:=(x.kids.length≤140737488355328 →
 (a0d ((x.kids.length:Int)) →
 ((∃ k1:Nat,((k1≤x.kids.length∧a2r a1i (x.kids.take k1)=true)∧((x.kids=x.kids∧(((x.kids.length:Int))=((x.kids.length:Int))∧((0:Int)=(k1:Int)∧True)))∧True)))∧(∀ k1:Nat,((k1≤x.kids.length∧a2r a1i (x.kids.take k1)=true) →
 (((decide ((k1:Int)<((x.kids.length:Int))))=true →
 (a0h (k1:Int) x.kids.length∧(msz (a0w (x.kids.getD k1 zE))<n∧(((!(a1i (a0w (x.kids.getD k1 zE))))=true →
 false=(a1i x))∧((!(a1i (a0w (x.kids.getD k1 zE))))=false →
 (a0d ((k1:Int)+(1:Int))∧(∃ k2:Nat,((k2≤x.kids.length∧a2r a1i (x.kids.take k2)=true)∧(x.kids.length - k2<x.kids.length - k1∧((x.kids=x.kids∧(((x.kids.length:Int))=((x.kids.length:Int))∧(((k1:Int)+(1:Int))=(k2:Int)∧True)))∧True))))))))))∧((decide ((k1:Int)<((x.kids.length:Int))))=false →
 true=(a1i x))))))))
theorem e0o(n:Nat)(x:a0b):awp (a0x [a7e n] [] [] [1]) (a0i a5q) (c5y x) 0 (a1h (a0x [a7e n] [] [] [1]) a5q fun r=>a1e r [⟨.bool,a1i x⟩]) (a0r a5q [.val ⟨(.st .expr),x⟩]) =
 ((a0d x.kind →
 (((decide (x.kind=(1:Int)))=true →
 (((decide (x.kind=(1:Int)))=true →
 (a5a n x))∧((decide (x.kind=(1:Int)))=false →
 false=(a1i x))))∧((decide (x.kind=(1:Int)))=false →
 (((decide (x.kind=(2:Int)))=true →
 (((decide (x.kind=(2:Int)))=true →
 (a5a n x))∧((decide (x.kind=(2:Int)))=false →
 false=(a1i x))))∧((decide (x.kind=(2:Int)))=false →
 (((decide (x.kind=(3:Int)))=true →
 (((decide (x.kind=(3:Int)))=true →
 (a5a n x))∧((decide (x.kind=(3:Int)))=false →
 false=(a1i x))))∧((decide (x.kind=(3:Int)))=false →
 (((decide (x.kind=(5:Int)))=true →
 (((decide (x.kind=(5:Int)))=true →
 (a5a n x))∧((decide (x.kind=(5:Int)))=false →
 false=(a1i x))))∧((decide (x.kind=(5:Int)))=false →
 (((decide (x.kind=(6:Int)))=true →
 (((decide (x.kind=(6:Int)))=true →
 (a5a n x))∧((decide (x.kind=(6:Int)))=false →
 false=(a1i x))))∧((decide (x.kind=(6:Int)))=false →
 (((decide (x.kind=(7:Int)))=true →
 (a5a n x))∧((decide (x.kind=(7:Int)))=false →
 false=(a1i x))))))))))))))):=by kernel_rfl
theorem e0h(n:Nat)(hE:a0p [a7e n]):Ctr.Good (a7e (n+1)):=by
 refine⟨a0j b0z rfl (by decide),?_⟩
 show ∀ (x:a0b),(msz x<n+1)→a1f prog b3k [.val ⟨(.st .expr),x⟩] (·=[⟨.bool,a1i x⟩])
 intro x hp
 refine a0z (wr:=[]) (cl:=[]) (ro:=[1]) hE b0z d4s (c5y x) ?_
 rewrite [e0o n x]
 have f0:=b3v x
 have f1:=c4b a1i x.kids
 refine fun a0=>⟨fun a1=>⟨fun a2=>fun a3=>fun a4=>⟨⟨0,⟨?_,⟨⟨rfl,⟨rfl,⟨?_,trivial⟩⟩⟩,trivial⟩⟩⟩,fun k1 a5=>have b5x0:=a4t a1i zE x.kids k1;have b5x1:=a5i a1i zE x.kids k1;have b5x2:=a4s a1i x.kids k1;have b5x3:=a1w zE x.kids k1;⟨fun a6=>⟨?_,⟨?_,⟨fun a7=>?_,fun a7=>⟨?_,⟨k1+1,⟨?_,⟨?_,⟨⟨rfl,⟨rfl,⟨?_,trivial⟩⟩⟩,trivial⟩⟩⟩⟩⟩⟩⟩⟩,fun a6=>?_⟩⟩,fun a2=>?_⟩,fun a1=>⟨fun a2=>⟨fun a3=>fun a4=>fun a5=>⟨⟨0,⟨?_,⟨⟨rfl,⟨rfl,⟨?_,trivial⟩⟩⟩,trivial⟩⟩⟩,fun k1 a6=>have b6x0:=a4t a1i zE x.kids k1;have b6x1:=a5i a1i zE x.kids k1;have b6x2:=a4s a1i x.kids k1;have b6x3:=a1w zE x.kids k1;⟨fun a7=>⟨?_,⟨?_,⟨fun a8=>?_,fun a8=>⟨?_,⟨k1+1,⟨?_,⟨?_,⟨⟨rfl,⟨rfl,⟨?_,trivial⟩⟩⟩,trivial⟩⟩⟩⟩⟩⟩⟩⟩,fun a7=>?_⟩⟩,fun a3=>?_⟩,fun a2=>⟨fun a3=>⟨fun a4=>fun a5=>fun a6=>⟨⟨0,⟨?_,⟨⟨rfl,⟨rfl,⟨?_,trivial⟩⟩⟩,trivial⟩⟩⟩,fun k1 a7=>have b7x0:=a4t a1i zE x.kids k1;have b7x1:=a5i a1i zE x.kids k1;have b7x2:=a4s a1i x.kids k1;have b7x3:=a1w zE x.kids k1;⟨fun a8=>⟨?_,⟨?_,⟨fun a9=>?_,fun a9=>⟨?_,⟨k1+1,⟨?_,⟨?_,⟨⟨rfl,⟨rfl,⟨?_,trivial⟩⟩⟩,trivial⟩⟩⟩⟩⟩⟩⟩⟩,fun a8=>?_⟩⟩,fun a4=>?_⟩,fun a3=>⟨fun a4=>⟨fun a5=>fun a6=>fun a7=>⟨⟨0,⟨?_,⟨⟨rfl,⟨rfl,⟨?_,trivial⟩⟩⟩,trivial⟩⟩⟩,fun k1 a8=>have b8x0:=a4t a1i zE x.kids k1;have b8x1:=a5i a1i zE x.kids k1;have b8x2:=a4s a1i x.kids k1;have b8x3:=a1w zE x.kids k1;⟨fun a9=>⟨?_,⟨?_,⟨fun a10=>?_,fun a10=>⟨?_,⟨k1+1,⟨?_,⟨?_,⟨⟨rfl,⟨rfl,⟨?_,trivial⟩⟩⟩,trivial⟩⟩⟩⟩⟩⟩⟩⟩,fun a9=>?_⟩⟩,fun a5=>?_⟩,fun a4=>⟨fun a5=>⟨fun a6=>fun a7=>fun a8=>⟨⟨0,⟨?_,⟨⟨rfl,⟨rfl,⟨?_,trivial⟩⟩⟩,trivial⟩⟩⟩,fun k1 a9=>have b9x0:=a4t a1i zE x.kids k1;have b9x1:=a5i a1i zE x.kids k1;have b9x2:=a4s a1i x.kids k1;have b9x3:=a1w zE x.kids k1;⟨fun a10=>⟨?_,⟨?_,⟨fun a11=>?_,fun a11=>⟨?_,⟨k1+1,⟨?_,⟨?_,⟨⟨rfl,⟨rfl,⟨?_,trivial⟩⟩⟩,trivial⟩⟩⟩⟩⟩⟩⟩⟩,fun a10=>?_⟩⟩,fun a6=>?_⟩,fun a5=>⟨fun a6=>fun a7=>fun a8=>⟨⟨0,⟨?_,⟨⟨rfl,⟨rfl,⟨?_,trivial⟩⟩⟩,trivial⟩⟩⟩,fun k1 a9=>have b9x0:=a4t a1i zE x.kids k1;have b9x1:=a5i a1i zE x.kids k1;have b9x2:=a4s a1i x.kids k1;have b9x3:=a1w zE x.kids k1;⟨fun a10=>⟨?_,⟨?_,⟨fun a11=>?_,fun a11=>⟨?_,⟨k1+1,⟨?_,⟨?_,⟨⟨rfl,⟨rfl,⟨?_,trivial⟩⟩⟩,trivial⟩⟩⟩⟩⟩⟩⟩⟩,fun a10=>?_⟩⟩,fun a6=>?_⟩⟩⟩⟩⟩⟩
 all_goals try and_intros
 all_goals try simp only[a0b.eta,a0a.eta,a2b,a2d] at *
 all_goals try rw[f9o x]
 all_goals first|rfl|trivial|(simp only[decide_eq_true_eq,decide_eq_false_iff_not,a0h,a0d] at *;omega)|(simp_all [c5b];done)|(simp_all [c5b,a0h,a0d];omega)
theorem f0f :∀ n,a0p [a7e n]
 | 0=>⟨⟨a0j b0z rfl (by decide),fun _ h=>absurd h (Nat.not_lt_zero _)⟩,trivial⟩
 | n+1=>by
  have ih:=f0f  n
  exact⟨e0h n ⟨ih.1,trivial⟩,trivial⟩
theorem c1m :Ctr.Good a4u :=
 ⟨a0j b0z rfl (by decide),fun x hp=>(f0f  (msz x+1)).1.2 x (Nat.lt_succ_self _)⟩
def a6j(n:Nat):Ctr:=⟨b1d,[.r (.st .expr)],fun (x:a0b)=>⟨(some (msz x<n),[⟨.bool,a1i x⟩])⟩⟩
def a4k:Ctr:=⟨b1d,[.r (.st .expr)],fun (x:a0b)=>⟨(none,[⟨.bool,a1i x⟩])⟩⟩
def c3u(x:a0b):Nat→a0t:=(fun zb=>if Nat.beq zb 0 then .mk (Nat) (fun k=>k≤x.kids.length∧a2r a1i (x.kids.take k)=true) (fun k=>x.kids.length - k) [] [1,4,5,6,7,8,9,10,11,12,13,14,15,16] (fun k=>[(3, .imm ⟨(.int .i64),((k:Int):Int)⟩)]) [0,2,3,17,18,19,20,21,22,23,24,25,26,27,28,29,30,31,32,33] (fun k=>[]) [] [] (fun k=>fun _ => .none) else .none)
abbrev c1p(n:Nat)(x:a0b):Prop:=((∃ k1:Nat,((k1≤x.kids.length∧a2r a1i (x.kids.take k1)=true)∧((x=x∧((0:Int)=(k1:Int)∧True))∧True)))∧(∀ k1:Nat,((k1≤x.kids.length∧a2r a1i (x.kids.take k1)=true) →
 (x.kids.length≤140737488355328 →
 (a0d ((x.kids.length:Int)) →
 (((decide ((k1:Int)<((x.kids.length:Int))))=true →
 (x.kids.length≤140737488355328 →
 (a0h (k1:Int) x.kids.length∧(msz (x.kids.getD k1 zE)<n∧(((!(a1i (x.kids.getD k1 zE)))=true →
 false=(a1i x))∧((!(a1i (x.kids.getD k1 zE)))=false →
 (a0d ((k1:Int)+(1:Int))∧(∃ k2:Nat,((k2≤x.kids.length∧a2r a1i (x.kids.take k2)=true)∧(x.kids.length - k2<x.kids.length - k1∧((x=x∧(((k1:Int)+(1:Int))=(k2:Int)∧True))∧True)))))))))))∧((decide ((k1:Int)<((x.kids.length:Int))))=false →
 true=(a1i x))))))))
theorem d8k(n:Nat)(x:a0b):awp (a0x [a6j n,a3q]) (a0i a5j) (c3u x) 0 (a1h (a0x [a6j n,a3q]) a5j fun r=>a1e r [⟨.bool,a1i x⟩]) (a0r a5j [.ref ⟨(.st .expr),x⟩]) =
 ((a0d x.kind →
 ((((!(decide ((1:Int)≤x.kind∧x.kind≤(7:Int))))=false) →
 (a0d x.kind →
 (((decide (x.kind=(4:Int)))=true →
 false=(a1i x))∧((decide (x.kind=(4:Int)))=false →
 (c1p n x)))))∧(((!(decide ((1:Int)≤x.kind∧x.kind≤(7:Int))))=(!false)) →
 ((true=true →
 false=(a1i x))∧(true=false →
 (c1p n x))))))):=by kernel_rfl
theorem d7v(n:Nat)(hE:a0p [a6j n,a3q]):Ctr.Good (a6j (n+1)):=by
 refine⟨a0j a9f rfl (by decide),?_⟩
 show ∀ (x:a0b),(msz x<n+1)→a1f prog b1d [.ref ⟨(.st .expr),x⟩] (·=[⟨.bool,a1i x⟩])
 intro x hp
 refine a0z (wr:=[]) (cl:=[]) (ro:=[]) hE a9f d3m (c3u x) ?_
 rewrite [d8k n x]
 have f0:=b3v x
 have f1:=c4b a1i x.kids
 refine fun a0=>⟨fun a1=>fun a2=>⟨fun a3=>?_,fun a3=>⟨⟨0,⟨?_,⟨⟨rfl,⟨?_,trivial⟩⟩,trivial⟩⟩⟩,fun k1 a4=>have b4x0:=a4t a1i zE x.kids k1;have b4x1:=a5i a1i zE x.kids k1;have b4x2:=a4s a1i x.kids k1;have b4x3:=a1w zE x.kids k1;fun a5=>fun a6=>⟨fun a7=>fun a8=>⟨?_,⟨?_,⟨fun a9=>?_,fun a9=>⟨?_,⟨k1+1,⟨?_,⟨?_,⟨⟨rfl,⟨?_,trivial⟩⟩,trivial⟩⟩⟩⟩⟩⟩⟩⟩,fun a7=>?_⟩⟩⟩,fun a1=>⟨fun a2=>?_,fun a2=>⟨⟨0,⟨?_,⟨⟨rfl,⟨?_,trivial⟩⟩,trivial⟩⟩⟩,fun k1 a3=>have b3x0:=a4t a1i zE x.kids k1;have b3x1:=a5i a1i zE x.kids k1;have b3x2:=a4s a1i x.kids k1;have b3x3:=a1w zE x.kids k1;fun a4=>fun a5=>⟨fun a6=>fun a7=>⟨?_,⟨?_,⟨fun a8=>?_,fun a8=>⟨?_,⟨k1+1,⟨?_,⟨?_,⟨⟨rfl,⟨?_,trivial⟩⟩,trivial⟩⟩⟩⟩⟩⟩⟩⟩,fun a6=>?_⟩⟩⟩⟩
 all_goals try and_intros
 all_goals try rw[f9o x]
 all_goals first|rfl|trivial|(simp only[decide_eq_true_eq,decide_eq_false_iff_not,a0h,a0d] at *;omega)|(simp_all [c5b];done)|(simp_all [c5b,a0h,a0d];omega)
theorem f0g :∀ n,a0p [a6j n]
 | 0=>⟨⟨a0j a9f rfl (by decide),fun _ h=>absurd h (Nat.not_lt_zero _)⟩,trivial⟩
 | n+1=>by
  have ih:=f0g  n
  exact⟨d7v n ⟨ih.1,b7i,trivial⟩,trivial⟩
theorem c0d :Ctr.Good a4k :=
 ⟨a0j a9f rfl (by decide),fun x hp=>(f0g  (msz x+1)).1.2 x (Nat.lt_succ_self _)⟩
def c0o(t a:Int)(x:a0b):Bool:=decide (a2q x.kind=(x.kids.length:Int)) &&
 (if x.kind=3 then decide (0≤x.num∧x.num≤t) else if x.kind=4 then decide (0≤x.num∧x.num≤a) else decide (x.num=0)) &&
 (!decide (x.kind=5)||a1i (x.kids.getD 0 ⟨0,0,[]⟩))
mutual
def a1s(t a:Int):a0b→Bool
 | ⟨k,n,ks⟩=>c0o t a ⟨k,n,ks⟩&&d1i t a ks
def d1i(t a:Int):List a0b→Bool
 | []=>true
 | k::ks=>a1s t a k&&d1i t a ks
end
theorem f7x(t a:Int):∀ xs,d1i t a xs=a2r (a1s t a) xs
 | []=>rfl
 | x::xs=>by rw[d1i,a2r,f7x t a xs]
theorem g0u(t a:Int)(x:a0b):a1s t a x=(c0o t a x&&a2r (a1s t a) x.kids):=by
 cases x;simp[a1s,f7x]
def a0n(n:Int):Int:=IntKind.wrap .i64 (n - 1)
theorem f7m(n:Int)(h : -9223372036854775807≤n∧n≤9223372036854775807):a0n n=n - 1:=by
 simp[a0n,IntKind.wrap,IntKind.signed,IntKind.bits];omega
def b2w(n:Nat):Ctr:=⟨b9g,[.r (.st .expr), .v (.int .i64)],fun (x:a0b) (left:Int)=>⟨(some (msz x<n∧0≤left∧left≤1048576),[⟨(.int .i64),szR (a0u x) left⟩])⟩⟩
def b8z:Ctr:=⟨b9g,[.r (.st .expr), .v (.int .i64)],fun (x:a0b) (left:Int)=>⟨(some (0≤left∧left≤1048576),[⟨(.int .i64),szR (a0u x) left⟩])⟩⟩
def d5k(x:a0b)(left:Int):Nat→a0t:=(fun zb=>if Nat.beq zb 0 then .mk (Nat) (fun k=>k≤x.kids.length) (fun k=>x.kids.length - k) [] [2,3,6,7] (fun k=>[(5, .imm ⟨(.int .i64),((k:Int):Int)⟩),(1, .imm ⟨(.int .i64),(szR (1+szL a0u (x.kids.take k)) left:Int)⟩)]) [0,1,4,5,8,9,10,11,12,13,14,15,16,17,18,19,20,21,22,23,24,25,26,27,28,29] (fun k=>[]) [] [] (fun k=>fun _ => .none) else .none)
abbrev d0e(n:Nat)(x:a0b)(left:Int)(k1:Nat):Prop:=(x.kids.length≤140737488355328 →
 (a0h (k1:Int) x.kids.length∧((msz (x.kids.getD k1 zE)<n∧0≤(szR (1+szL a0u (x.kids.take k1)) left)∧(szR (1+szL a0u (x.kids.take k1)) left)≤1048576)∧(a0d (szR (a0u (x.kids.getD k1 zE)) (szR (1+szL a0u (x.kids.take k1)) left)) →
 (a0d ((k1:Int)+(1:Int))∧(∃ k2:Nat,(k2≤x.kids.length∧(x.kids.length - k2<x.kids.length - k1∧((x=x∧((szR (a0u (x.kids.getD k1 zE)) (szR (1+szL a0u (x.kids.take k1)) left))=(szR (1+szL a0u (x.kids.take k2)) left)∧((0:Int)=(0:Int)∧(((k1:Int)+(1:Int))=(k2:Int)∧True))))∧True)))))))))
theorem f3o(n:Nat)(x:a0b)(left:Int):awp (a0x [b2w n]) (a0i a9v) (d5k x left) 0 (a1h (a0x [b2w n]) a9v fun r=>a1e r [⟨(.int .i64),szR (a0u x) left⟩]) (a0r a9v [.ref ⟨(.st .expr),x⟩, .val ⟨(.int .i64),left⟩]) =
 ((a0d (left - (1:Int))∧((∃ k1:Nat,(k1≤x.kids.length∧((x=x∧((left - (1:Int))=(szR (1+szL a0u (x.kids.take k1)) left)∧((0:Int)=(0:Int)∧((0:Int)=(k1:Int)∧True))))∧True)))∧(∀ k1:Nat,(k1≤x.kids.length →
 (x.kids.length≤140737488355328 →
 (a0d ((x.kids.length:Int)) →
 (((decide ((k1:Int)<((x.kids.length:Int))))=true →
 (((decide ((0:Int)≤(szR (1+szL a0u (x.kids.take k1)) left)))=true →
 (d0e n x left k1))∧((decide ((0:Int)≤(szR (1+szL a0u (x.kids.take k1)) left)))=false →
 (szR (1+szL a0u (x.kids.take k1)) left)=(szR (a0u x) left))))∧((decide ((k1:Int)<((x.kids.length:Int))))=(!true) →
 ((false=true →
 (d0e n x left k1))∧(false=false →
 (szR (1+szL a0u (x.kids.take k1)) left)=(szR (a0u x) left)))))))))))):=by kernel_rfl
theorem f2h(n:Nat)(hE:a0p [b2w n]):Ctr.Good (b2w (n+1)):=by
 refine⟨a0j b6z rfl (by decide),?_⟩
 show ∀ (x:a0b) (left:Int),(msz x<n+1∧0≤left∧left≤1048576)→a1f prog b9g [.ref ⟨(.st .expr),x⟩, .val ⟨(.int .i64),left⟩] (·=[⟨(.int .i64),szR (a0u x) left⟩])
 intro x left hp
 refine a0z (wr:=[]) (cl:=[]) (ro:=[]) hE b6z e4s (d5k x left) ?_
 rewrite [f3o n x left]
 have f0:=b3v x
 have f1:=d8g a0u x.kids
 have f2:=b6s (1+szL a0u (x.kids.take 0)) left
 refine⟨?_,⟨⟨0,⟨?_,⟨⟨rfl,⟨?_,⟨rfl,⟨?_,trivial⟩⟩⟩⟩,trivial⟩⟩⟩,fun k1 a0=>have b0x0:=b8r a0u zE x.kids k1;have b0x1:=a6h a0u x.kids k1;have b0x2:=a6h a0u x.kids (k1+1);have b0x3:=c4x a0u x.kids k1;have b0x4:=a1w zE x.kids k1;have b0x5:=b6s (1+szL a0u (x.kids.take k1)) left;have b0x6:=b6s (1+szL a0u (x.kids.take (k1+1))) left;have b0x7:=b6s (a0u (x.kids.getD k1 zE)) (szR (1+szL a0u (x.kids.take k1)) left);have b0x8:=b6s (1+szL a0u x.kids) left;fun a1=>fun a2=>⟨fun a3=>⟨fun a4=>fun a5=>⟨?_,⟨?_,fun a6=>⟨?_,⟨k1+1,⟨?_,⟨?_,⟨⟨rfl,⟨?_,⟨rfl,⟨?_,trivial⟩⟩⟩⟩,trivial⟩⟩⟩⟩⟩⟩⟩,fun a4=>?_⟩,fun a3=>⟨fun a4=>fun a5=>⟨?_,⟨?_,fun a6=>⟨?_,⟨k1+1,⟨?_,⟨?_,⟨⟨rfl,⟨?_,⟨rfl,⟨?_,trivial⟩⟩⟩⟩,trivial⟩⟩⟩⟩⟩⟩⟩,fun a4=>?_⟩⟩⟩⟩
 all_goals try and_intros
 all_goals try rw[f7g x]
 all_goals first|rfl|trivial|omega|(simp only[decide_eq_true_eq,decide_eq_false_iff_not,a0h,a0d,a2j,a4q,a4a,a2p] at *;omega)|(simp[a0h,a0d] at *;omega)|grind
theorem f0j :∀ n,a0p [b2w n]
 | 0=>⟨⟨a0j b6z rfl (by decide),fun _ _ h=>absurd h.1 (Nat.not_lt_zero _)⟩,trivial⟩
 | n+1=>by
  have ih:=f0j  n
  exact⟨f2h n ⟨ih.1,trivial⟩,trivial⟩
theorem e5i :Ctr.Good b8z :=
 ⟨a0j b6z rfl (by decide),fun x left hp=>(f0j  (msz x+1)).1.2 x left (⟨Nat.lt_succ_self _,hp⟩)⟩
def b0u(n:Nat):Ctr:=⟨b7u,[.r (.st .expr)],fun (x:a0b)=>⟨(some (msz x<n∧a1j x≤1048576),[⟨(.int .i64),(a1j x:Int)⟩])⟩⟩
def b7n:Ctr:=⟨b7u,[.r (.st .expr)],fun (x:a0b)=>⟨(some (a1j x≤1048576),[⟨(.int .i64),(a1j x:Int)⟩])⟩⟩
def d2t(x:a0b):Nat→a0t:=(fun zb=>if Nat.beq zb 0 then .mk (Nat) (fun k=>k≤x.kids.length) (fun k=>x.kids.length - k) [] [1] (fun k=>[(4, .imm ⟨(.int .i64),((k:Int):Int)⟩),(3, .imm ⟨(.int .i64),((a3r a1j (x.kids.take k):Int):Int)⟩)]) [0,2,3,4,5,6,7,8,9,10,11,12,13,14,15,16,17,18,19,20,21,22,23,24] (fun k=>[]) [] [] (fun k=>fun _ => .none) else .none)
theorem e9x(n:Nat)(x:a0b):awp (a0x [b0u n,a6x]) (a0i a8n) (d2t x) 0 (a1h (a0x [b0u n,a6x]) a8n fun r=>a1e r [⟨(.int .i64),(a1j x:Int)⟩]) (a0r a8n [.ref ⟨(.st .expr),x⟩]) =
 (((∃ k1:Nat,(k1≤x.kids.length∧((x=x∧((0:Int)=(0:Int)∧((0:Int)=(a3r a1j (x.kids.take k1):Int)∧((0:Int)=(k1:Int)∧True))))∧True)))∧(∀ k1:Nat,(k1≤x.kids.length →
 (x.kids.length≤140737488355328 →
 (a0d ((x.kids.length:Int)) →
 (((decide ((k1:Int)<((x.kids.length:Int))))=true →
 (x.kids.length≤140737488355328 →
 (a0h (k1:Int) x.kids.length∧((msz (x.kids.getD k1 zE)<n∧a1j (x.kids.getD k1 zE)≤1048576)∧(a0d ((a1j (x.kids.getD k1 zE):Int)) →
 (a0d (max (a3r a1j (x.kids.take k1):Int) ((a1j (x.kids.getD k1 zE):Int))) →
 (a0d ((k1:Int)+(1:Int))∧(∃ k2:Nat,(k2≤x.kids.length∧(x.kids.length - k2<x.kids.length - k1∧((x=x∧((0:Int)=(0:Int)∧((max (a3r a1j (x.kids.take k1):Int) ((a1j (x.kids.getD k1 zE):Int)))=(a3r a1j (x.kids.take k2):Int)∧(((k1:Int)+(1:Int))=(k2:Int)∧True))))∧True)))))))))))∧((decide ((k1:Int)<((x.kids.length:Int))))=false →
 (a0d ((a3r a1j (x.kids.take k1):Int)+(1:Int))∧((a3r a1j (x.kids.take k1):Int)+(1:Int))=(a1j x:Int)))))))))):=by kernel_rfl
theorem e9g(n:Nat)(hE:a0p [b0u n,a6x]):Ctr.Good (b0u (n+1)):=by
 refine⟨a0j b5s rfl (by decide),?_⟩
 show ∀ (x:a0b),(msz x<n+1∧a1j x≤1048576)→a1f prog b7u [.ref ⟨(.st .expr),x⟩] (·=[⟨(.int .i64),(a1j x:Int)⟩])
 intro x hp
 refine a0z (wr:=[]) (cl:=[]) (ro:=[]) hE b5s e1j (d2t x) ?_
 rewrite [e9x n x]
 rw[e1s x] at hp
 have f0:=b3v x
 have f1:=d3b a1j x.kids
 refine⟨⟨0,⟨?_,⟨⟨rfl,⟨rfl,⟨?_,⟨?_,trivial⟩⟩⟩⟩,trivial⟩⟩⟩,fun k1 a0=>have b0x0:=b5k a1j zE x.kids k1;have b0x1:=a5l a1j x.kids k1;have b0x2:=a5l a1j x.kids (k1+1);have b0x3:=c1b a1j x.kids k1;have b0x4:=a1w zE x.kids k1;have b0x5:=e3b a1j zE x.kids k1;fun a1=>fun a2=>⟨fun a3=>fun a4=>⟨?_,⟨?_,fun a5=>fun a6=>⟨?_,⟨k1+1,⟨?_,⟨?_,⟨⟨rfl,⟨rfl,⟨?_,⟨?_,trivial⟩⟩⟩⟩,trivial⟩⟩⟩⟩⟩⟩⟩,fun a3=>⟨?_,?_⟩⟩⟩
 all_goals try and_intros
 all_goals try rw[e1s x]
 all_goals first|rfl|trivial|omega|(simp only[decide_eq_true_eq,decide_eq_false_iff_not,a0h,a0d,a2j,a4q,a4a,a2p] at *;omega)|(simp[a0h,a0d] at *;omega)|grind
theorem e6l :∀ n,a0p [b0u n]
 | 0=>⟨⟨a0j b5s rfl (by decide),fun _ h=>absurd h.1 (Nat.not_lt_zero _)⟩,trivial⟩
 | n+1=>by
  have ih:=e6l  n
  exact⟨e9g n ⟨ih.1,c9z,trivial⟩,trivial⟩
theorem e2k :Ctr.Good b7n :=
 ⟨a0j b5s rfl (by decide),fun x hp=>(e6l  (msz x+1)).1.2 x (⟨Nat.lt_succ_self _,hp⟩)⟩
def b2y(n:Nat):Ctr:=⟨b9i,[.v (.st .sig), .r (.st .expr)],fun (gg:a0l) (x:a0b)=>⟨(some (msz x<n),[⟨.bool,a1s (a0n gg.tests) (a0n gg.actions) x⟩])⟩⟩
def b9a:Ctr:=⟨b9i,[.v (.st .sig), .r (.st .expr)],fun (gg:a0l) (x:a0b)=>⟨(none,[⟨.bool,a1s (a0n gg.tests) (a0n gg.actions) x⟩])⟩⟩
def d5m(gg:a0l)(x:a0b):Nat→a0t:=(fun zb=>if Nat.beq zb 1 then .mk (Nat) (fun k=>k≤x.kids.length∧a2r (a1s (a0n gg.tests) (a0n gg.actions)) (x.kids.take k)=true) (fun k=>x.kids.length - k) [] [0,3,6,7,8,9,10,11,12,13,14,15,16,17,18,19,20,21,22,23,24,25,26,27,28,29,30,31,32,33,34,35,36,37,38,39,40,41,42,43,44,45,46,47,48,49,50,51,52,53,54,55,56,57,58,59,60,61] (fun k=>[(5, .imm ⟨(.int .i64),((k:Int):Int)⟩)]) [1,2,4,5,62,63,64,65,66,67,68,69,70,71,72,73,74,75,76,77,78,79] (fun k=>[]) [] [] (fun k=>fun _ => .none) else .none)
abbrev c0y(n:Nat)(gg:a0l)(x:a0b):Prop:=((∃ k1:Nat,((k1≤x.kids.length∧a2r (a1s (a0n gg.tests) (a0n gg.actions)) (x.kids.take k1)=true)∧((x=x∧(gg=gg∧((0:Int)=(k1:Int)∧True)))∧True)))∧(∀ k1:Nat,((k1≤x.kids.length∧a2r (a1s (a0n gg.tests) (a0n gg.actions)) (x.kids.take k1)=true) →
 (x.kids.length≤140737488355328 →
 (a0d ((x.kids.length:Int)) →
 (((decide ((k1:Int)<((x.kids.length:Int))))=true →
 (a0h (k1:Int) x.kids.length∧(x.kids.length≤140737488355328 →
 (msz (x.kids.getD k1 zE)<n∧(((!(a1s (a0n gg.tests) (a0n gg.actions) (x.kids.getD k1 zE)))=true →
 false=(a1s (a0n gg.tests) (a0n gg.actions) x))∧((!(a1s (a0n gg.tests) (a0n gg.actions) (x.kids.getD k1 zE)))=false →
 (a0d ((k1:Int)+(1:Int))∧(∃ k2:Nat,((k2≤x.kids.length∧a2r (a1s (a0n gg.tests) (a0n gg.actions)) (x.kids.take k2)=true)∧(x.kids.length - k2<x.kids.length - k1∧((x=x∧(gg=gg∧(((k1:Int)+(1:Int))=(k2:Int)∧True)))∧True)))))))))))∧((decide ((k1:Int)<((x.kids.length:Int))))=false →
 true=(a1s (a0n gg.tests) (a0n gg.actions) x))))))))
theorem f3q(n:Nat)(gg:a0l)(x:a0b):awp (a0x [b2y n,b4w,a3q,a4k] [29,39] [] [2]) (a0i a9x) (d5m gg x) 0 (a1h (a0x [b2y n,b4w,a3q,a4k] [29,39] [] [2]) a9x fun r=>a1e r [⟨.bool,a1s (a0n gg.tests) (a0n gg.actions) x⟩]) (a0r a9x [.val ⟨(.st .sig),gg⟩, .ref ⟨(.st .expr),x⟩]) =
 ((x.kids.length≤140737488355328 →
 (a0d ((x.kids.length:Int)) →
 (a0d x.kind →
 (a0d (a2q x.kind) →
 (((!(decide (((x.kids.length:Int))=(a2q x.kind))))=true →
 false=(a1s (a0n gg.tests) (a0n gg.actions) x))∧((!(decide (((x.kids.length:Int))=(a2q x.kind))))=false →
 (a0d x.kind →
 (((decide (x.kind=(3:Int)))=true →
 (a0d x.num →
 (a0d gg.tests →
 ((decide ((0:Int)≤x.num∧x.num≤(IntKind.wrap .i64 (gg.tests - (1:Int)))))=(a1s (a0n gg.tests) (a0n gg.actions) x)))))∧((decide (x.kind=(3:Int)))=false →
 (((decide (x.kind=(4:Int)))=true →
 (a0d x.num →
 (a0d gg.actions →
 ((decide ((0:Int)≤x.num∧x.num≤(IntKind.wrap .i64 (gg.actions - (1:Int)))))=(a1s (a0n gg.tests) (a0n gg.actions) x)))))∧((decide (x.kind=(4:Int)))=false →
 (a0d x.num →
 (((!(decide (x.num=(0:Int))))=false →
 (a0d x.kind →
 (((decide (x.kind=(5:Int)))=true →
 (x.kids.length≤140737488355328 →
 (a0h (0:Int) x.kids.length∧(((!(a1i (x.kids.getD 0 zE)))=true →
 false=(a1s (a0n gg.tests) (a0n gg.actions) x))∧((!(a1i (x.kids.getD 0 zE)))=false →
 (c0y n gg x))))))∧((decide (x.kind=(5:Int)))=(!true) →
 ((false=true →
 false=(a1s (a0n gg.tests) (a0n gg.actions) x))∧(false=false →
 (c0y n gg x)))))))∧((!(decide (x.num=(0:Int))))=(!false) →
 ((true=true →
 false=(a1s (a0n gg.tests) (a0n gg.actions) x))∧(true=false →
 (c0y n gg x)))))))))))))))))):=by kernel_rfl
theorem f2j(n:Nat)(hE:a0p [b2y n,b4w,a3q,a4k]):Ctr.Good (b2y (n+1)):=by
 refine⟨a0j b7b rfl (by decide),?_⟩
 show ∀ (gg:a0l) (x:a0b),(msz x<n+1)→a1f prog b9i [.val ⟨(.st .sig),gg⟩, .ref ⟨(.st .expr),x⟩] (·=[⟨.bool,a1s (a0n gg.tests) (a0n gg.actions) x⟩])
 intro gg x hp
 refine a0z (wr:=[29,39]) (cl:=[]) (ro:=[2]) hE b7b e4u (d5m gg x) ?_
 rewrite [f3q n gg x]
 have f0:=b3v x
 have f1:=c4b (a1s (a0n gg.tests) (a0n gg.actions)) x.kids
 refine fun a0=>fun a1=>fun a2=>fun a3=>⟨fun a4=>?_,fun a4=>fun a5=>⟨fun a6=>fun a7=>fun a8=>?_,fun a6=>⟨fun a7=>fun a8=>fun a9=>?_,fun a7=>fun a8=>⟨fun a9=>fun a10=>⟨fun a11=>fun a12=>⟨?_,⟨fun a13=>?_,fun a13=>⟨⟨0,⟨?_,⟨⟨rfl,⟨rfl,⟨?_,trivial⟩⟩⟩,trivial⟩⟩⟩,fun k1 a14=>have b14x0:=a4t (a1s (a0n gg.tests) (a0n gg.actions)) zE x.kids k1;have b14x1:=a5i (a1s (a0n gg.tests) (a0n gg.actions)) zE x.kids k1;have b14x2:=a4s (a1s (a0n gg.tests) (a0n gg.actions)) x.kids k1;have b14x3:=a1w zE x.kids k1;fun a15=>fun a16=>⟨fun a17=>⟨?_,fun a18=>⟨?_,⟨fun a19=>?_,fun a19=>⟨?_,⟨k1+1,⟨?_,⟨?_,⟨⟨rfl,⟨rfl,⟨?_,trivial⟩⟩⟩,trivial⟩⟩⟩⟩⟩⟩⟩⟩,fun a17=>?_⟩⟩⟩⟩,fun a11=>⟨fun a12=>?_,fun a12=>⟨⟨0,⟨?_,⟨⟨rfl,⟨rfl,⟨?_,trivial⟩⟩⟩,trivial⟩⟩⟩,fun k1 a13=>have b13x0:=a4t (a1s (a0n gg.tests) (a0n gg.actions)) zE x.kids k1;have b13x1:=a5i (a1s (a0n gg.tests) (a0n gg.actions)) zE x.kids k1;have b13x2:=a4s (a1s (a0n gg.tests) (a0n gg.actions)) x.kids k1;have b13x3:=a1w zE x.kids k1;fun a14=>fun a15=>⟨fun a16=>⟨?_,fun a17=>⟨?_,⟨fun a18=>?_,fun a18=>⟨?_,⟨k1+1,⟨?_,⟨?_,⟨⟨rfl,⟨rfl,⟨?_,trivial⟩⟩⟩,trivial⟩⟩⟩⟩⟩⟩⟩⟩,fun a16=>?_⟩⟩⟩⟩,fun a9=>⟨fun a10=>?_,fun a10=>⟨⟨0,⟨?_,⟨⟨rfl,⟨rfl,⟨?_,trivial⟩⟩⟩,trivial⟩⟩⟩,fun k1 a11=>have b11x0:=a4t (a1s (a0n gg.tests) (a0n gg.actions)) zE x.kids k1;have b11x1:=a5i (a1s (a0n gg.tests) (a0n gg.actions)) zE x.kids k1;have b11x2:=a4s (a1s (a0n gg.tests) (a0n gg.actions)) x.kids k1;have b11x3:=a1w zE x.kids k1;fun a12=>fun a13=>⟨fun a14=>⟨?_,fun a15=>⟨?_,⟨fun a16=>?_,fun a16=>⟨?_,⟨k1+1,⟨?_,⟨?_,⟨⟨rfl,⟨rfl,⟨?_,trivial⟩⟩⟩,trivial⟩⟩⟩⟩⟩⟩⟩⟩,fun a14=>?_⟩⟩⟩⟩⟩⟩⟩
 all_goals try and_intros
 all_goals try rw[g0u _ _ x]
 all_goals first|rfl|trivial|(simp only[decide_eq_true_eq,decide_eq_false_iff_not,a0h,a0d] at *;omega)|(simp_all [c0o,a0n];done)|(simp_all [c0o,a0n,a0h,a0d];omega)|grind [c0o,a0n,a2q,a0h,a0d]
theorem f0p :∀ n,a0p [b2y n]
 | 0=>⟨⟨a0j b7b rfl (by decide),fun _ _ h=>absurd h (Nat.not_lt_zero _)⟩,trivial⟩
 | n+1=>by
  have ih:=f0p  n
  exact⟨f2j n ⟨ih.1,e5h,b7i,c0d,trivial⟩,trivial⟩
theorem e5j :Ctr.Good b9a :=
 ⟨a0j b7b rfl (by decide),fun gg x hp=>(f0p  (msz x+1)).1.2 gg x (Nat.lt_succ_self _)⟩
end
end Go.Proofs.Ytlaoejdeanljgaa

set_option linter.unusedVariables false
set_option linter.unusedSimpArgs false
set_option linter.unusedSectionVars false
set_option maxRecDepth 4000
set_option maxHeartbeats 4000000
namespace Go.Proofs.Ytlaoejdeanljgaa
noncomputable section
def a1y(gg:a0l):Bool:=decide (0≤gg.tests∧gg.tests≤3)&&decide (0≤gg.actions∧gg.actions≤4)
def shB(gg:a0l)(x:a0b)(nodes depth:Int):Bool:=a1s (a0n gg.tests) (a0n gg.actions) x&&decide ((a0u x:Int)≤nodes)&&decide ((a1j x:Int)≤depth)
def shN(gg:a0l)(x:a0b)(nodes depth:Int):Int:=bif shB gg x nodes depth then nodes - a0u x else 0
def b2r:Ctr:=⟨c2x,[.v (.st .sig)],fun (gg:a0l)=>⟨(none,[⟨.bool,a1y gg⟩])⟩⟩
def d2m(gg:a0l):Nat→a0t:=fun _ => .none
theorem e9q(gg:a0l):awp (a0x [a2u] [] [] [1]) (a0i a8e) (d2m gg) 0 (a1h (a0x [a2u] [] [] [1]) a8e fun r=>a1e r [⟨.bool,a1y gg⟩]) (a0r a8e [.val ⟨(.st .sig),gg⟩]) =
 ((a0d gg.tests →
 ((((decide ((0:Int)≤gg.tests∧gg.tests≤(3:Int)))=true) →
 (a0d gg.actions →
 ((decide ((0:Int)≤gg.actions∧gg.actions≤(4:Int)))=(a1y gg))))∧(((decide ((0:Int)≤gg.tests∧gg.tests≤(3:Int)))=(!true)) →
 false=(a1y gg))))):=by kernel_rfl
theorem e8z(hE:a0p [a2u]):Ctr.Good b2r:=by
 refine⟨a0j c9h rfl (by decide),?_⟩
 show ∀ (gg:a0l),True→a1f prog c2x [.val ⟨(.st .sig),gg⟩] (·=[⟨.bool,a1y gg⟩])
 intro gg _
 refine a0z (wr:=[]) (cl:=[]) (ro:=[1]) hE c9h e1a (d2m gg) ?_
 rewrite [e9q gg]
 refine fun a0=>⟨fun a1=>fun a2=>?_,fun a1=>?_⟩
 all_goals try and_intros
 all_goals first|rfl|trivial|(simp_all [a1y];done)|(simp_all [a1y];omega)
theorem e2d:Ctr.Good b2r:=e8z ⟨b0m,trivial⟩
def a6y:Ctr:=⟨c7a,[.v (.st .sig)],fun (gg:a0l)=>⟨(none,[⟨.bool,a1y gg⟩])⟩⟩
def d9n(gg:a0l):Nat→a0t:=fun _ => .none
theorem f6g(gg:a0l):awp (a0x [a3q] [] [] [1]) (a0i b1x) (d9n gg) 0 (a1h (a0x [a3q] [] [] [1]) b1x fun r=>a1e r [⟨.bool,a1y gg⟩]) (a0r b1x [.val ⟨(.st .sig),gg⟩]) =
 ((a0d gg.tests →
 ((((decide ((0:Int)≤gg.tests∧gg.tests≤(3:Int)))=true) →
 (a0d gg.actions →
 ((decide ((0:Int)≤gg.actions∧gg.actions≤(4:Int)))=(a1y gg))))∧(((decide ((0:Int)≤gg.tests∧gg.tests≤(3:Int)))=(!true)) →
 false=(a1y gg))))):=by kernel_rfl
theorem f5l(hE:a0p [a3q]):Ctr.Good a6y:=by
 refine⟨a0j d4n rfl (by decide),?_⟩
 show ∀ (gg:a0l),True→a1f prog c7a [.val ⟨(.st .sig),gg⟩] (·=[⟨.bool,a1y gg⟩])
 intro gg _
 refine a0z (wr:=[]) (cl:=[]) (ro:=[1]) hE d4n e7w (d9n gg) ?_
 rewrite [f6g gg]
 refine fun a0=>⟨fun a1=>fun a2=>?_,fun a1=>?_⟩
 all_goals try and_intros
 all_goals first|rfl|trivial|(simp_all [a1y];done)|(simp_all [a1y];omega)
theorem d0a:Ctr.Good a6y:=f5l ⟨b7i,trivial⟩
end
end Go.Proofs.Ytlaoejdeanljgaa

set_option linter.unusedVariables false
set_option linter.unusedSimpArgs false
set_option linter.unusedSectionVars false
set_option maxRecDepth 4000
set_option maxHeartbeats 4000000
namespace Go.Proofs.Ytlaoejdeanljgaa
noncomputable section
def f2e(t a:Int)(x:a0b):Bool:=if x.kind=3 then decide (0≤x.num∧x.num≤t) else if x.kind=4 then decide (0≤x.num∧x.num≤a) else decide (x.num=0)
theorem g6s(t a:Int)(x:a0b):c0o t a x=(decide (a2q x.kind=(x.kids.length:Int))&&f2e t a x&&(!decide (x.kind=5)||a1i (x.kids.getD 0 ⟨0,0,[]⟩))):=rfl
theorem c6f(gg:a0l)(x:a0b)(nodes depth:Int) :
  (a1s (a0n gg.tests) (a0n gg.actions) x=true∧(a0u x:Int)≤nodes∧(a1j x:Int)≤depth∧shB gg x nodes depth=true∧shN gg x nodes depth=nodes - a0u x) ∨
  ((a1s (a0n gg.tests) (a0n gg.actions) x=false∨nodes<(a0u x:Int)∨depth<(a1j x:Int))∧shB gg x nodes depth=false∧shN gg x nodes depth=0):=by
 unfold shN shB
 cases a1s (a0n gg.tests) (a0n gg.actions) x
 ·right;simp
 ·rcases Int.lt_or_le nodes (a0u x) with h|h
  ·right;simp[h,Int.not_le.2 h]
  ·rcases Int.lt_or_le depth (a1j x) with h'|h'
   ·right;simp[h',Int.not_le.2 h']
   ·left;simp[h,h']
def b5d(n:Nat):Ctr:=⟨c0r,[.v (.st .sig), .v (.st .expr), .v (.int .i64), .v (.int .i64)],fun (gg:a0l) (x:a0b) (nodes:Int) (depth:Int)=>⟨(some (msz x<n∧0≤nodes∧nodes≤1048576∧0≤depth∧depth≤1048576),[⟨(.int .i64),shN gg x nodes depth⟩,⟨.bool,shB gg x nodes depth⟩])⟩⟩
def c0q:Ctr:=⟨c0r,[.v (.st .sig), .v (.st .expr), .v (.int .i64), .v (.int .i64)],fun (gg:a0l) (x:a0b) (nodes:Int) (depth:Int)=>⟨(some (0≤nodes∧nodes≤1048576∧0≤depth∧depth≤1048576),[⟨(.int .i64),shN gg x nodes depth⟩,⟨.bool,shB gg x nodes depth⟩])⟩⟩
def d9i(gg:a0l)(x:a0b)(nodes:Int)(depth:Int):Nat→a0t:=(fun zb=>if Nat.beq zb 100012 then .mk (Unit) (fun u=>a2q x.kind=(x.kids.length:Int)∧1≤nodes∧1≤depth∧f2e (a0n gg.tests) (a0n gg.actions) x=true) (fun u=>0) [] [0,1,6,7,10,14,15,16,17,18,19,20,21,22,23,24,25,26,27,28,29,30,31,32,33,34,35,36,37,38,39,40,41,42,43,44,45,46,47,48,49,50,51] (fun u=>[]) [2,3,4,5,8,9,11,12,13,52,53,54,55,56,57,58,59,60,61,62,63,64,65,66,67,68,69,70,71,72,73,74,75,76,77,78,79,80,81,82,83,84,85] (fun u=>[]) [] [] (fun u=>(fun zb=>if Nat.beq zb 100014 then .mk (Unit) (fun u=>c0o (a0n gg.tests) (a0n gg.actions) x=true∧1≤nodes∧1≤depth) (fun u=>0) [] [0,1,6,7,10,14,15,16,17,18,19,20,21,22,23,24,25,26,27,28,29,30,31,32,33,34,35,36,37,38,39,40,41,42,43,44,45,46,47,48,49,50,51,52,53,54,55,56,57,58,59,60,61,62] (fun u=>[]) [2,3,4,5,8,9,11,12,13,63,64,65,66,67,68,69,70,71,72,73,74,75,76,77,78,79,80,81,82,83,84,85] (fun u=>[]) [] [] (fun u=>(fun zb=>if Nat.beq zb 1 then .mk (Nat) (fun k=>k≤x.kids.length∧a2r (a1s (a0n gg.tests) (a0n gg.actions)) (x.kids.take k)=true∧1+(szL a0u (x.kids.take k):Int)≤nodes∧1+(a3r a1j (x.kids.take k):Int)≤depth) (fun k=>x.kids.length - k) [] [0,1,5,6,7,10,14,15,16,17,18,19,20,21,22,23,24,25,26,27,28,29,30,31,32,33,34,35,36,37,38,39,40,41,42,43,44,45,46,47,48,49,50,51,52,53,54,55,56,57,58,59,60,61,62,63,64,65] (fun k=>[(68, .imm ⟨(.int .i64),((k:Int):Int)⟩),(2, .imm ⟨(.int .i64),(nodes - (1+(szL a0u (x.kids.take k):Int)):Int)⟩)]) [2,3,4,8,9,11,12,13,66,67,68,69,70,71,72,73,74,75,76,77,78,79,80,81,82,83,84,85] (fun k=>[]) [] [] (fun k=>fun _ => .none) else .none)) else .none)) else .none)
abbrev c2t(gg:a0l)(x:a0b)(nodes:Int)(depth:Int):Prop:=(∃ u1:Unit,((a2q x.kind=(x.kids.length:Int)∧1≤nodes∧1≤depth∧f2e (a0n gg.tests) (a0n gg.actions) x=true)∧((nodes=nodes∧(depth=depth∧(gg=gg∧(x=x∧True))))∧True)))
abbrev d1z(gg:a0l)(x:a0b)(nodes:Int)(depth:Int):Prop:=(∃ u2:Unit,((c0o (a0n gg.tests) (a0n gg.actions) x=true∧1≤nodes∧1≤depth)∧((nodes=nodes∧(depth=depth∧(gg=gg∧(x=x∧True))))∧True)))
abbrev d2a(n:Nat)(gg:a0l)(x:a0b)(nodes:Int)(depth:Int):Prop:=((a0d x.kind →
 (((decide (x.kind=(3:Int)))=true →
 (a0d x.num →
 (a0d gg.tests →
 ((((!(decide ((0:Int)≤x.num∧x.num≤(IntKind.wrap .i64 (gg.tests - (1:Int))))))=true) →
 ((0:Int)=(shN gg x nodes depth)∧false=(shB gg x nodes depth)))∧(((!(decide ((0:Int)≤x.num∧x.num≤(IntKind.wrap .i64 (gg.tests - (1:Int))))))=false) →
 (c2t gg x nodes depth))))))∧((decide (x.kind=(3:Int)))=false →
 (((decide (x.kind=(4:Int)))=true →
 (a0d x.num →
 (a0d gg.actions →
 ((((!(decide ((0:Int)≤x.num∧x.num≤(IntKind.wrap .i64 (gg.actions - (1:Int))))))=true) →
 ((0:Int)=(shN gg x nodes depth)∧false=(shB gg x nodes depth)))∧(((!(decide ((0:Int)≤x.num∧x.num≤(IntKind.wrap .i64 (gg.actions - (1:Int))))))=false) →
 (c2t gg x nodes depth))))))∧((decide (x.kind=(4:Int)))=false →
 (a0d x.num →
 (((!(decide (x.num=(0:Int))))=true →
 ((0:Int)=(shN gg x nodes depth)∧false=(shB gg x nodes depth)))∧((!(decide (x.num=(0:Int))))=false →
 (c2t gg x nodes depth)))))))))∧(∀ u1:Unit,((a2q x.kind=(x.kids.length:Int)∧1≤nodes∧1≤depth∧f2e (a0n gg.tests) (a0n gg.actions) x=true) →
 ((a0d x.kind →
 (((decide (x.kind=(5:Int)))=true →
 (x.kids.length≤140737488355328 →
 (a0h (0:Int) x.kids.length∧(((!(a1i (x.kids.getD 0 zE)))=true →
 ((0:Int)=(shN gg x nodes depth)∧false=(shB gg x nodes depth)))∧((!(a1i (x.kids.getD 0 zE)))=false →
 (d1z gg x nodes depth))))))∧((decide (x.kind=(5:Int)))=(!true) →
 ((false=true →
 ((0:Int)=(shN gg x nodes depth)∧false=(shB gg x nodes depth)))∧(false=false →
 (d1z gg x nodes depth))))))∧(∀ u2:Unit,((c0o (a0n gg.tests) (a0n gg.actions) x=true∧1≤nodes∧1≤depth) →
 (a0d (nodes - (1:Int))∧(x.kids.length≤140737488355328 →
 (a0d ((x.kids.length:Int)) →
 ((∃ k3:Nat,((k3≤x.kids.length∧a2r (a1s (a0n gg.tests) (a0n gg.actions)) (x.kids.take k3)=true∧1+(szL a0u (x.kids.take k3):Int)≤nodes∧1+(a3r a1j (x.kids.take k3):Int)≤depth)∧(((nodes - (1:Int))=(nodes - (1+(szL a0u (x.kids.take k3):Int)))∧(depth=depth∧(gg=gg∧(x.kids=x.kids∧(((x.kids.length:Int))=((x.kids.length:Int))∧((0:Int)=(k3:Int)∧True))))))∧True)))∧(∀ k3:Nat,((k3≤x.kids.length∧a2r (a1s (a0n gg.tests) (a0n gg.actions)) (x.kids.take k3)=true∧1+(szL a0u (x.kids.take k3):Int)≤nodes∧1+(a3r a1j (x.kids.take k3):Int)≤depth) →
 (((decide ((k3:Int)<((x.kids.length:Int))))=true →
 (a0h (k3:Int) x.kids.length∧(a0d (depth - (1:Int))∧((msz (a0w (x.kids.getD k3 zE))<n∧0≤(nodes - (1+(szL a0u (x.kids.take k3):Int)))∧(nodes - (1+(szL a0u (x.kids.take k3):Int)))≤1048576∧0≤(depth - (1:Int))∧(depth - (1:Int))≤1048576)∧(a0d (shN gg (a0w (x.kids.getD k3 zE)) (nodes - (1+(szL a0u (x.kids.take k3):Int))) (depth - (1:Int))) →
 (((!(shB gg (a0w (x.kids.getD k3 zE)) (nodes - (1+(szL a0u (x.kids.take k3):Int))) (depth - (1:Int))))=true →
 ((0:Int)=(shN gg x nodes depth)∧false=(shB gg x nodes depth)))∧((!(shB gg (a0w (x.kids.getD k3 zE)) (nodes - (1+(szL a0u (x.kids.take k3):Int))) (depth - (1:Int))))=false →
 (a0d ((k3:Int)+(1:Int))∧(∃ k4:Nat,((k4≤x.kids.length∧a2r (a1s (a0n gg.tests) (a0n gg.actions)) (x.kids.take k4)=true∧1+(szL a0u (x.kids.take k4):Int)≤nodes∧1+(a3r a1j (x.kids.take k4):Int)≤depth)∧(x.kids.length - k4<x.kids.length - k3∧(((shN gg (a0w (x.kids.getD k3 zE)) (nodes - (1+(szL a0u (x.kids.take k3):Int))) (depth - (1:Int)))=(nodes - (1+(szL a0u (x.kids.take k4):Int)))∧(depth=depth∧(gg=gg∧(x.kids=x.kids∧(((x.kids.length:Int))=((x.kids.length:Int))∧(((k3:Int)+(1:Int))=(k4:Int)∧True))))))∧True))))))))))))∧((decide ((k3:Int)<((x.kids.length:Int))))=false →
 ((nodes - (1+(szL a0u (x.kids.take k3):Int)))=(shN gg x nodes depth)∧true=(shB gg x nodes depth))))))))))))))))
abbrev d2b(n:Nat)(gg:a0l)(x:a0b)(nodes:Int)(depth:Int):Prop:=(a0d x.kind →
 (a0d (a2q x.kind) →
 (x.kids.length≤140737488355328 →
 (a0d ((x.kids.length:Int)) →
 (((!(decide ((a2q x.kind)=((x.kids.length:Int)))))=true →
 ((0:Int)=(shN gg x nodes depth)∧false=(shB gg x nodes depth)))∧((!(decide ((a2q x.kind)=((x.kids.length:Int)))))=false →
 (d2a n gg x nodes depth)))))))
abbrev d2c(n:Nat)(gg:a0l)(x:a0b)(nodes:Int)(depth:Int):Prop:=((true=true →
 ((0:Int)=(shN gg x nodes depth)∧false=(shB gg x nodes depth)))∧(true=false →
 (d2a n gg x nodes depth)))
theorem f6b(n:Nat)(gg:a0l)(x:a0b)(nodes:Int)(depth:Int):awp (a0x [b5d n,b6m,a2u,a4u] [40,49] [] [4,5]) (a0i b1r) (d9i gg x nodes depth) 0 (a1h (a0x [b5d n,b6m,a2u,a4u] [40,49] [] [4,5]) b1r fun r=>a1e r [⟨(.int .i64),shN gg x nodes depth⟩,⟨.bool,shB gg x nodes depth⟩]) (a0r b1r [.val ⟨(.st .sig),gg⟩, .val ⟨(.st .expr),x⟩, .val ⟨(.int .i64),nodes⟩, .val ⟨(.int .i64),depth⟩]) =
 ((((decide (nodes=(0:Int)))=false →
 (((decide (depth=(0:Int)))=false →
 (d2b n gg x nodes depth))∧((decide (depth=(0:Int)))=(!false) →
 (d2c n gg x nodes depth))))∧((decide (nodes=(0:Int)))=(!false) →
 ((true=false →
 (d2b n gg x nodes depth))∧(true=(!false) →
 (d2c n gg x nodes depth)))))):=by kernel_rfl
theorem f5g(n:Nat)(hE:a0p [b5d n,b6m,a2u,a4u]):Ctr.Good (b5d (n+1)):=by
 refine⟨a0j b8u rfl (by decide),?_⟩
 show ∀ (gg:a0l) (x:a0b) (nodes:Int) (depth:Int),(msz x<n+1∧0≤nodes∧nodes≤1048576∧0≤depth∧depth≤1048576)→a1f prog c0r [.val ⟨(.st .sig),gg⟩, .val ⟨(.st .expr),x⟩, .val ⟨(.int .i64),nodes⟩, .val ⟨(.int .i64),depth⟩] (·=[⟨(.int .i64),shN gg x nodes depth⟩,⟨.bool,shB gg x nodes depth⟩])
 intro gg x nodes depth hp
 refine a0z (wr:=[40,49]) (cl:=[]) (ro:=[4,5]) hE b8u e7q (d9i gg x nodes depth) ?_
 rewrite [f6b n gg x nodes depth]
 have fs:=c6f gg x nodes depth
 rw[g0u _ _ x,f7g x,e1s x] at fs
 have f0:=b3v x
 have f1:=d8g a0u x.kids
 have f2:=d3b a1j x.kids
 have f3:=c4b (a1s (a0n gg.tests) (a0n gg.actions)) x.kids
 refine⟨fun a0=>⟨fun a1=>fun a2=>fun a3=>fun a4=>fun a5=>⟨fun a6=>⟨?_,?_⟩,fun a6=>⟨fun a7=>⟨fun a8=>fun a9=>fun a10=>⟨fun a11=>⟨?_,?_⟩,fun a11=>⟨(),⟨?_,⟨⟨rfl,⟨rfl,⟨rfl,⟨rfl,trivial⟩⟩⟩⟩,trivial⟩⟩⟩⟩,fun a8=>⟨fun a9=>fun a10=>fun a11=>⟨fun a12=>⟨?_,?_⟩,fun a12=>⟨(),⟨?_,⟨⟨rfl,⟨rfl,⟨rfl,⟨rfl,trivial⟩⟩⟩⟩,trivial⟩⟩⟩⟩,fun a9=>fun a10=>⟨fun a11=>⟨?_,?_⟩,fun a11=>⟨(),⟨?_,⟨⟨rfl,⟨rfl,⟨rfl,⟨rfl,trivial⟩⟩⟩⟩,trivial⟩⟩⟩⟩⟩⟩,fun u1=>fun a7=>⟨fun a8=>⟨fun a9=>fun a10=>⟨?_,⟨fun a11=>⟨?_,?_⟩,fun a11=>⟨(),⟨?_,⟨⟨rfl,⟨rfl,⟨rfl,⟨rfl,trivial⟩⟩⟩⟩,trivial⟩⟩⟩⟩⟩,fun a9=>⟨fun a10=>⟨?_,?_⟩,fun a10=>⟨(),⟨?_,⟨⟨rfl,⟨rfl,⟨rfl,⟨rfl,trivial⟩⟩⟩⟩,trivial⟩⟩⟩⟩⟩,fun u2=>fun a8=>⟨?_,fun a9=>fun a10=>⟨⟨0,⟨?_,⟨⟨?_,⟨rfl,⟨rfl,⟨rfl,⟨rfl,⟨?_,trivial⟩⟩⟩⟩⟩⟩,trivial⟩⟩⟩,fun k3 a11=>have b11x0:=a4t (a1s (a0n gg.tests) (a0n gg.actions)) zE x.kids k3;have b11x1:=a5i (a1s (a0n gg.tests) (a0n gg.actions)) zE x.kids k3;have b11x2:=a4s (a1s (a0n gg.tests) (a0n gg.actions)) x.kids k3;have b11x3:=a1w zE x.kids k3;have b11x4:=b8r a0u zE x.kids k3;have b11x5:=a6h a0u x.kids (k3+1);have b11x6:=c4x a0u x.kids k3;have b11x7:=b5k a1j zE x.kids k3;have b11x8:=a5l a1j x.kids (k3+1);have b11x9:=c1b a1j x.kids k3;have b11x10:=c6f gg (x.kids.getD k3 zE) (nodes - (1+(szL a0u (x.kids.take k3):Int))) (depth - 1);⟨fun a12=>⟨?_,⟨?_,⟨?_,fun a13=>⟨fun a14=>⟨?_,?_⟩,fun a14=>⟨?_,⟨k3+1,⟨?_,⟨?_,⟨⟨?_,⟨rfl,⟨rfl,⟨rfl,⟨rfl,⟨?_,trivial⟩⟩⟩⟩⟩⟩,trivial⟩⟩⟩⟩⟩⟩⟩⟩⟩,fun a12=>⟨?_,?_⟩⟩⟩⟩⟩⟩⟩,fun a1=>⟨fun a2=>⟨?_,?_⟩,fun a2=>⟨fun a3=>⟨fun a4=>fun a5=>fun a6=>⟨fun a7=>⟨?_,?_⟩,fun a7=>⟨(),⟨?_,⟨⟨rfl,⟨rfl,⟨rfl,⟨rfl,trivial⟩⟩⟩⟩,trivial⟩⟩⟩⟩,fun a4=>⟨fun a5=>fun a6=>fun a7=>⟨fun a8=>⟨?_,?_⟩,fun a8=>⟨(),⟨?_,⟨⟨rfl,⟨rfl,⟨rfl,⟨rfl,trivial⟩⟩⟩⟩,trivial⟩⟩⟩⟩,fun a5=>fun a6=>⟨fun a7=>⟨?_,?_⟩,fun a7=>⟨(),⟨?_,⟨⟨rfl,⟨rfl,⟨rfl,⟨rfl,trivial⟩⟩⟩⟩,trivial⟩⟩⟩⟩⟩⟩,fun u1=>fun a3=>⟨fun a4=>⟨fun a5=>fun a6=>⟨?_,⟨fun a7=>⟨?_,?_⟩,fun a7=>⟨(),⟨?_,⟨⟨rfl,⟨rfl,⟨rfl,⟨rfl,trivial⟩⟩⟩⟩,trivial⟩⟩⟩⟩⟩,fun a5=>⟨fun a6=>⟨?_,?_⟩,fun a6=>⟨(),⟨?_,⟨⟨rfl,⟨rfl,⟨rfl,⟨rfl,trivial⟩⟩⟩⟩,trivial⟩⟩⟩⟩⟩,fun u2=>fun a4=>⟨?_,fun a5=>fun a6=>⟨⟨0,⟨?_,⟨⟨?_,⟨rfl,⟨rfl,⟨rfl,⟨rfl,⟨?_,trivial⟩⟩⟩⟩⟩⟩,trivial⟩⟩⟩,fun k3 a7=>have b7x0:=a4t (a1s (a0n gg.tests) (a0n gg.actions)) zE x.kids k3;have b7x1:=a5i (a1s (a0n gg.tests) (a0n gg.actions)) zE x.kids k3;have b7x2:=a4s (a1s (a0n gg.tests) (a0n gg.actions)) x.kids k3;have b7x3:=a1w zE x.kids k3;have b7x4:=b8r a0u zE x.kids k3;have b7x5:=a6h a0u x.kids (k3+1);have b7x6:=c4x a0u x.kids k3;have b7x7:=b5k a1j zE x.kids k3;have b7x8:=a5l a1j x.kids (k3+1);have b7x9:=c1b a1j x.kids k3;have b7x10:=c6f gg (x.kids.getD k3 zE) (nodes - (1+(szL a0u (x.kids.take k3):Int))) (depth - 1);⟨fun a8=>⟨?_,⟨?_,⟨?_,fun a9=>⟨fun a10=>⟨?_,?_⟩,fun a10=>⟨?_,⟨k3+1,⟨?_,⟨?_,⟨⟨?_,⟨rfl,⟨rfl,⟨rfl,⟨rfl,⟨?_,trivial⟩⟩⟩⟩⟩⟩,trivial⟩⟩⟩⟩⟩⟩⟩⟩⟩,fun a8=>⟨?_,?_⟩⟩⟩⟩⟩⟩⟩⟩,fun a0=>⟨fun a1=>fun a2=>fun a3=>fun a4=>fun a5=>⟨fun a6=>⟨?_,?_⟩,fun a6=>⟨fun a7=>⟨fun a8=>fun a9=>fun a10=>⟨fun a11=>⟨?_,?_⟩,fun a11=>⟨(),⟨?_,⟨⟨rfl,⟨rfl,⟨rfl,⟨rfl,trivial⟩⟩⟩⟩,trivial⟩⟩⟩⟩,fun a8=>⟨fun a9=>fun a10=>fun a11=>⟨fun a12=>⟨?_,?_⟩,fun a12=>⟨(),⟨?_,⟨⟨rfl,⟨rfl,⟨rfl,⟨rfl,trivial⟩⟩⟩⟩,trivial⟩⟩⟩⟩,fun a9=>fun a10=>⟨fun a11=>⟨?_,?_⟩,fun a11=>⟨(),⟨?_,⟨⟨rfl,⟨rfl,⟨rfl,⟨rfl,trivial⟩⟩⟩⟩,trivial⟩⟩⟩⟩⟩⟩,fun u1=>fun a7=>⟨fun a8=>⟨fun a9=>fun a10=>⟨?_,⟨fun a11=>⟨?_,?_⟩,fun a11=>⟨(),⟨?_,⟨⟨rfl,⟨rfl,⟨rfl,⟨rfl,trivial⟩⟩⟩⟩,trivial⟩⟩⟩⟩⟩,fun a9=>⟨fun a10=>⟨?_,?_⟩,fun a10=>⟨(),⟨?_,⟨⟨rfl,⟨rfl,⟨rfl,⟨rfl,trivial⟩⟩⟩⟩,trivial⟩⟩⟩⟩⟩,fun u2=>fun a8=>⟨?_,fun a9=>fun a10=>⟨⟨0,⟨?_,⟨⟨?_,⟨rfl,⟨rfl,⟨rfl,⟨rfl,⟨?_,trivial⟩⟩⟩⟩⟩⟩,trivial⟩⟩⟩,fun k3 a11=>have b11x0:=a4t (a1s (a0n gg.tests) (a0n gg.actions)) zE x.kids k3;have b11x1:=a5i (a1s (a0n gg.tests) (a0n gg.actions)) zE x.kids k3;have b11x2:=a4s (a1s (a0n gg.tests) (a0n gg.actions)) x.kids k3;have b11x3:=a1w zE x.kids k3;have b11x4:=b8r a0u zE x.kids k3;have b11x5:=a6h a0u x.kids (k3+1);have b11x6:=c4x a0u x.kids k3;have b11x7:=b5k a1j zE x.kids k3;have b11x8:=a5l a1j x.kids (k3+1);have b11x9:=c1b a1j x.kids k3;have b11x10:=c6f gg (x.kids.getD k3 zE) (nodes - (1+(szL a0u (x.kids.take k3):Int))) (depth - 1);⟨fun a12=>⟨?_,⟨?_,⟨?_,fun a13=>⟨fun a14=>⟨?_,?_⟩,fun a14=>⟨?_,⟨k3+1,⟨?_,⟨?_,⟨⟨?_,⟨rfl,⟨rfl,⟨rfl,⟨rfl,⟨?_,trivial⟩⟩⟩⟩⟩⟩,trivial⟩⟩⟩⟩⟩⟩⟩⟩⟩,fun a12=>⟨?_,?_⟩⟩⟩⟩⟩⟩⟩,fun a1=>⟨fun a2=>⟨?_,?_⟩,fun a2=>⟨fun a3=>⟨fun a4=>fun a5=>fun a6=>⟨fun a7=>⟨?_,?_⟩,fun a7=>⟨(),⟨?_,⟨⟨rfl,⟨rfl,⟨rfl,⟨rfl,trivial⟩⟩⟩⟩,trivial⟩⟩⟩⟩,fun a4=>⟨fun a5=>fun a6=>fun a7=>⟨fun a8=>⟨?_,?_⟩,fun a8=>⟨(),⟨?_,⟨⟨rfl,⟨rfl,⟨rfl,⟨rfl,trivial⟩⟩⟩⟩,trivial⟩⟩⟩⟩,fun a5=>fun a6=>⟨fun a7=>⟨?_,?_⟩,fun a7=>⟨(),⟨?_,⟨⟨rfl,⟨rfl,⟨rfl,⟨rfl,trivial⟩⟩⟩⟩,trivial⟩⟩⟩⟩⟩⟩,fun u1=>fun a3=>⟨fun a4=>⟨fun a5=>fun a6=>⟨?_,⟨fun a7=>⟨?_,?_⟩,fun a7=>⟨(),⟨?_,⟨⟨rfl,⟨rfl,⟨rfl,⟨rfl,trivial⟩⟩⟩⟩,trivial⟩⟩⟩⟩⟩,fun a5=>⟨fun a6=>⟨?_,?_⟩,fun a6=>⟨(),⟨?_,⟨⟨rfl,⟨rfl,⟨rfl,⟨rfl,trivial⟩⟩⟩⟩,trivial⟩⟩⟩⟩⟩,fun u2=>fun a4=>⟨?_,fun a5=>fun a6=>⟨⟨0,⟨?_,⟨⟨?_,⟨rfl,⟨rfl,⟨rfl,⟨rfl,⟨?_,trivial⟩⟩⟩⟩⟩⟩,trivial⟩⟩⟩,fun k3 a7=>have b7x0:=a4t (a1s (a0n gg.tests) (a0n gg.actions)) zE x.kids k3;have b7x1:=a5i (a1s (a0n gg.tests) (a0n gg.actions)) zE x.kids k3;have b7x2:=a4s (a1s (a0n gg.tests) (a0n gg.actions)) x.kids k3;have b7x3:=a1w zE x.kids k3;have b7x4:=b8r a0u zE x.kids k3;have b7x5:=a6h a0u x.kids (k3+1);have b7x6:=c4x a0u x.kids k3;have b7x7:=b5k a1j zE x.kids k3;have b7x8:=a5l a1j x.kids (k3+1);have b7x9:=c1b a1j x.kids k3;have b7x10:=c6f gg (x.kids.getD k3 zE) (nodes - (1+(szL a0u (x.kids.take k3):Int))) (depth - 1);⟨fun a8=>⟨?_,⟨?_,⟨?_,fun a9=>⟨fun a10=>⟨?_,?_⟩,fun a10=>⟨?_,⟨k3+1,⟨?_,⟨?_,⟨⟨?_,⟨rfl,⟨rfl,⟨rfl,⟨rfl,⟨?_,trivial⟩⟩⟩⟩⟩⟩,trivial⟩⟩⟩⟩⟩⟩⟩⟩⟩,fun a8=>⟨?_,?_⟩⟩⟩⟩⟩⟩⟩⟩⟩
 all_goals try and_intros
 all_goals try simp only[a0b.eta,a0a.eta,a2b,a2d] at *
 all_goals ((try simp only[a0n] at *);generalize IntKind.wrap .i64 (gg.tests - 1)=T at *;generalize IntKind.wrap .i64 (gg.actions - 1)=A at *;first|rfl|trivial|(simp only[decide_eq_true_eq,decide_eq_false_iff_not,a0h,a0d] at *;omega)|(rcases fs with ⟨t1,t2,t3,t4,t5⟩|⟨t1,t4,t5⟩<;>(try rw[t4])<;>(try rw[t5])<;>clear t4 t5<;>simp only[decide_eq_true_eq,decide_eq_false_iff_not,g6s,f2e,Bool.and_eq_true,Bool.and_eq_false_iff,Bool.not_eq_true',Bool.not_eq_false',a0d] at *<;>first|rfl|omega|grind|grind [a2q]))
theorem e0u :∀ n,a0p [b5d n]
 | 0=>⟨⟨a0j b8u rfl (by decide),fun _ _ _ _ h=>absurd h.1 (Nat.not_lt_zero _)⟩,trivial⟩
 | n+1=>by
  have ih:=e0u  n
  exact⟨f5g n ⟨ih.1,e8m,b0m,c1m,trivial⟩,trivial⟩
theorem e8o :Ctr.Good c0q :=
 ⟨a0j b8u rfl (by decide),fun gg x nodes depth hp=>(e0u  (msz x+1)).1.2 gg x nodes depth (⟨Nat.lt_succ_self _,hp⟩)⟩
end
end Go.Proofs.Ytlaoejdeanljgaa

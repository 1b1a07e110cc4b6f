/- Expr, Expr2, Shaped. -/
import Derived.Test.YthebhlkdppmefaaGreatVmUse
import Derived.Test.YthebhlkdppmefaaGreatVmLib
set_option linter.unusedVariables false
set_option linter.unusedSimpArgs false
set_option linter.unusedSectionVars false
set_option maxRecDepth 4000
set_option maxHeartbeats 4000000
namespace Go.Proofs.YthebhlkdppmefaaGreat
noncomputable section
mutual
def a1d:a0b→Nat
 | ⟨_,_,ks⟩=>1+a8z ks
def a8z:List a0b→Nat
 | []=>0
 | k::ks=>a1d k+a8z ks
end
theorem g5a:∀ xs,a8z xs=szL a1d xs
 | []=>rfl
 | x::xs=>by rw[a8z,szL,g5a xs]
theorem h1h(x:a0b):a1d x=1+szL a1d x.kids:=by
 cases x;simp[a1d,g5a]
mutual
def a1n:a0b→Nat
 | ⟨_,_,ks⟩=>1+a9p ks
def a9p:List a0b→Nat
 | []=>0
 | k::ks=>max (a1n k) (a9p ks)
end
theorem g4l:∀ xs,a9p xs=a4g a1n xs
 | []=>rfl
 | x::xs=>by rw[a9p,a4g,g4l xs]
theorem f2n(x:a0b):a1n x=1+a4g a1n x.kids:=by
 cases x;simp[a1n,g4l]
mutual
theorem f8z:∀ x:a0b,a1n x≤a1d x
 | ⟨k,n,ks⟩=>by
  have:=f2q ks
  simp only[a1n,a1d];omega
theorem f2q:∀ xs:List a0b,a9p xs≤a8z xs
 | []=>by simp[a9p]
 | x::xs=>by
  have h1:=f8z x
  have h2:=f2q xs
  simp only[a9p,a8z];omega
end
def c5n(k:Int):Bool:=decide (k=1)||decide (k=2)||decide (k=3)||decide (k=5)||decide (k=6)||decide (k=7)
mutual
def a1l:a0b→Bool
 | ⟨k,_,ks⟩=>c5n k&&c7x ks
def c7x:List a0b→Bool
 | []=>true
 | k::ks=>a1l k&&c7x ks
end
theorem h0r:∀ xs,c7x xs=a0v a1l xs
 | []=>rfl
 | x::xs=>by rw[c7x,a0v,h0r xs]
theorem e7c(x:a0b):a1l x=(c5n x.kind&&a0v a1l x.kids):=by
 cases x;simp[a1l,h0r]
def a2t(k:Int):Int:=if k=1∨k=2∨k=3∨k=4 then 0 else if k=5∨k=8 then 1 else if k=6∨k=7 then 2 else -1
def a3b:Ctr:=⟨d3w,[.v (.int .i64), .v (.int .i64), .v (.int .i64)],fun (n:Int) (least:Int) (most:Int)=>⟨(none,[⟨.bool,decide (least≤n∧n≤most)⟩])⟩⟩
def e9u(n:Int)(least:Int)(most:Int):Nat→a0p:=fun _ => .none
theorem g9x(n:Int)(least:Int)(most:Int):awp (a0r []) (a0j b4v) (e9u n least most) 0 (a1c (a0r []) b4v fun r=>a1f r [⟨.bool,decide (least≤n∧n≤most)⟩]) (a0m b4v [.val ⟨(.int .i64),n⟩, .val ⟨(.int .i64),least⟩, .val ⟨(.int .i64),most⟩]) =
 ((((decide (least≤n))=true →
 ((decide (n≤most))=(decide (least≤n∧n≤most))))∧((decide (least≤n))=(!true) →
 (false=(decide (least≤n∧n≤most)))))):=by kernel_rfl
theorem g8y(hE:a0o []):Ctr.Good a3b:=by
 refine⟨a0l e3h rfl (by decide),?_⟩
 show ∀ (n:Int) (least:Int) (most:Int),True→a1e prog d3w [.val ⟨(.int .i64),n⟩, .val ⟨(.int .i64),least⟩, .val ⟨(.int .i64),most⟩] (·=[⟨.bool,decide (least≤n∧n≤most)⟩])
 intro n least most _
 refine a0w (wr:=[]) (cl:=[]) (ro:=[]) hE e3h g0h (e9u n least most) ?_
 rewrite [g9x n least most]
 refine⟨fun a0=>?_,fun a0=>?_⟩
 all_goals try and_intros
 all_goals first|rfl|trivial|(simp_all;done)|(simp_all;omega)
theorem b3i:Ctr.Good a3b:=g8y trivial
def a4e:Ctr:=⟨d8u,[.v (.int .i64), .v (.int .i64), .v (.int .i64)],fun (n:Int) (low:Int) (high:Int)=>⟨(none,[⟨.bool,decide (low≤n∧n≤high)⟩])⟩⟩
def f3r(n:Int)(low:Int)(high:Int):Nat→a0p:=fun _ => .none
theorem h2r(n:Int)(low:Int)(high:Int):awp (a0r []) (a0j b7l) (f3r n low high) 0 (a1c (a0r []) b7l fun r=>a1f r [⟨.bool,decide (low≤n∧n≤high)⟩]) (a0m b7l [.val ⟨(.int .i64),n⟩, .val ⟨(.int .i64),low⟩, .val ⟨(.int .i64),high⟩]) =
 ((((decide (low≤n))=true →
 ((decide (n≤high))=(decide (low≤n∧n≤high))))∧((decide (low≤n))=(!true) →
 (false=(decide (low≤n∧n≤high)))))):=by kernel_rfl
theorem h2g(hE:a0o []):Ctr.Good a4e:=by
 refine⟨a0l e9f rfl (by decide),?_⟩
 show ∀ (n:Int) (low:Int) (high:Int),True→a1e prog d8u [.val ⟨(.int .i64),n⟩, .val ⟨(.int .i64),low⟩, .val ⟨(.int .i64),high⟩] (·=[⟨.bool,decide (low≤n∧n≤high)⟩])
 intro n low high _
 refine a0w (wr:=[]) (cl:=[]) (ro:=[]) hE e9f g4c (f3r n low high) ?_
 rewrite [h2r n low high]
 refine⟨fun a0=>?_,fun a0=>?_⟩
 all_goals try and_intros
 all_goals first|rfl|trivial|(simp_all;done)|(simp_all;omega)
theorem c1c:Ctr.Good a4e:=h2g trivial
def a9b:Ctr:=⟨d3y,[.v (.int .i64), .v (.int .i64)],fun (a:Int) (b:Int)=>⟨(none,[⟨(.int .i64),max a b⟩])⟩⟩
def e9w(a:Int)(b:Int):Nat→a0p:=fun _ => .none
theorem g9z(a:Int)(b:Int):awp (a0r []) (a0j b4x) (e9w a b) 0 (a1c (a0r []) b4x fun r=>a1f r [⟨(.int .i64),max a b⟩]) (a0m b4x [.val ⟨(.int .i64),a⟩, .val ⟨(.int .i64),b⟩]) =
 ((((decide (b<a))=true →
 a=(max a b))∧((decide (b<a))=false →
 b=(max a b)))):=by kernel_rfl
theorem g9a(hE:a0o []):Ctr.Good a9b:=by
 refine⟨a0l e3j rfl (by decide),?_⟩
 show ∀ (a:Int) (b:Int),True→a1e prog d3y [.val ⟨(.int .i64),a⟩, .val ⟨(.int .i64),b⟩] (·=[⟨(.int .i64),max a b⟩])
 intro a b _
 refine a0w (wr:=[]) (cl:=[]) (ro:=[]) hE e3j g0j (e9w a b) ?_
 rewrite [g9z a b]
 refine⟨fun a0=>?_,fun a0=>?_⟩
 all_goals try and_intros
 all_goals first|rfl|trivial|(simp_all;omega)
theorem d7r:Ctr.Good a9b:=g9a trivial
def b9w:Ctr:=⟨d3v,[.v (.int .i64)],fun (k:Int)=>⟨(none,[⟨(.int .i64),a2t k⟩])⟩⟩
def e9s(k:Int):Nat→a0p:=fun _ => .none
abbrev e0q(k:Int):Prop:=(((decide (k=(6:Int)))=true →
 (((decide (k=(6:Int)))=true →
 (2:Int)=(a2t k))∧((decide (k=(6:Int)))=false →
 (-1:Int)=(a2t k))))∧((decide (k=(6:Int)))=false →
 (((decide (k=(7:Int)))=true →
 (2:Int)=(a2t k))∧((decide (k=(7:Int)))=false →
 (-1:Int)=(a2t k)))))
abbrev c1d(k:Int):Prop:=(((decide (k=(5:Int)))=true →
 (((decide (k=(5:Int)))=true →
 (1:Int)=(a2t k))∧((decide (k=(5:Int)))=false →
 (e0q k))))∧((decide (k=(5:Int)))=false →
 (((decide (k=(8:Int)))=true →
 (1:Int)=(a2t k))∧((decide (k=(8:Int)))=false →
 (e0q k)))))
theorem g9v(k:Int):awp (a0r []) (a0j b4t) (e9s k) 0 (a1c (a0r []) b4t fun r=>a1f r [⟨(.int .i64),a2t k⟩]) (a0m b4t [.val ⟨(.int .i64),k⟩]) =
 ((((decide (k=(1:Int)))=true →
 (((decide (k=(1:Int)))=true →
 (0:Int)=(a2t k))∧((decide (k=(1:Int)))=false →
 (c1d k))))∧((decide (k=(1:Int)))=false →
 (((decide (k=(2:Int)))=true →
 (((decide (k=(2:Int)))=true →
 (0:Int)=(a2t k))∧((decide (k=(2:Int)))=false →
 (c1d k))))∧((decide (k=(2:Int)))=false →
 (((decide (k=(3:Int)))=true →
 (((decide (k=(3:Int)))=true →
 (0:Int)=(a2t k))∧((decide (k=(3:Int)))=false →
 (c1d k))))∧((decide (k=(3:Int)))=false →
 (((decide (k=(4:Int)))=true →
 (0:Int)=(a2t k))∧((decide (k=(4:Int)))=false →
 (c1d k)))))))))):=by kernel_rfl
theorem g8w(hE:a0o []):Ctr.Good b9w:=by
 refine⟨a0l e3g rfl (by decide),?_⟩
 show ∀ (k:Int),True→a1e prog d3v [.val ⟨(.int .i64),k⟩] (·=[⟨(.int .i64),a2t k⟩])
 intro k _
 refine a0w (wr:=[]) (cl:=[]) (ro:=[]) hE e3g g0f (e9s k) ?_
 rewrite [g9v k]
 refine⟨fun a0=>⟨fun a1=>?_,fun a1=>⟨fun a2=>⟨fun a3=>?_,fun a3=>⟨fun a4=>⟨fun a5=>?_,fun a5=>?_⟩,fun a4=>⟨fun a5=>?_,fun a5=>?_⟩⟩⟩,fun a2=>⟨fun a3=>?_,fun a3=>⟨fun a4=>⟨fun a5=>?_,fun a5=>?_⟩,fun a4=>⟨fun a5=>?_,fun a5=>?_⟩⟩⟩⟩⟩,fun a0=>⟨fun a1=>⟨fun a2=>?_,fun a2=>⟨fun a3=>⟨fun a4=>?_,fun a4=>⟨fun a5=>⟨fun a6=>?_,fun a6=>?_⟩,fun a5=>⟨fun a6=>?_,fun a6=>?_⟩⟩⟩,fun a3=>⟨fun a4=>?_,fun a4=>⟨fun a5=>⟨fun a6=>?_,fun a6=>?_⟩,fun a5=>⟨fun a6=>?_,fun a6=>?_⟩⟩⟩⟩⟩,fun a1=>⟨fun a2=>⟨fun a3=>?_,fun a3=>⟨fun a4=>⟨fun a5=>?_,fun a5=>⟨fun a6=>⟨fun a7=>?_,fun a7=>?_⟩,fun a6=>⟨fun a7=>?_,fun a7=>?_⟩⟩⟩,fun a4=>⟨fun a5=>?_,fun a5=>⟨fun a6=>⟨fun a7=>?_,fun a7=>?_⟩,fun a6=>⟨fun a7=>?_,fun a7=>?_⟩⟩⟩⟩⟩,fun a2=>⟨fun a3=>?_,fun a3=>⟨fun a4=>⟨fun a5=>?_,fun a5=>⟨fun a6=>⟨fun a7=>?_,fun a7=>?_⟩,fun a6=>⟨fun a7=>?_,fun a7=>?_⟩⟩⟩,fun a4=>⟨fun a5=>?_,fun a5=>⟨fun a6=>⟨fun a7=>?_,fun a7=>?_⟩,fun a6=>⟨fun a7=>?_,fun a7=>?_⟩⟩⟩⟩⟩⟩⟩⟩
 all_goals try and_intros
 all_goals first|rfl|trivial|(simp only[decide_eq_true_eq,decide_eq_false_iff_not] at *;simp[a2t, *];done)|(simp only[decide_eq_true_eq,decide_eq_false_iff_not] at *;unfold a2t;repeat (first|omega|split))
theorem g0z:Ctr.Good b9w:=g8w trivial
def b8e:Ctr:=⟨d0w,[.v (.int .i64)],fun (k:Int)=>⟨(none,[⟨(.int .i64),a2t k⟩])⟩⟩
def e4y(k:Int):Nat→a0p:=fun _ => .none
abbrev d7x(k:Int):Prop:=(((decide (k=(6:Int)))=true →
 (((decide (k=(6:Int)))=true →
 (2:Int)=(a2t k))∧((decide (k=(6:Int)))=false →
 (-1:Int)=(a2t k))))∧((decide (k=(6:Int)))=false →
 (((decide (k=(7:Int)))=true →
 (2:Int)=(a2t k))∧((decide (k=(7:Int)))=false →
 (-1:Int)=(a2t k)))))
abbrev b9j(k:Int):Prop:=(((decide (k=(5:Int)))=true →
 (((decide (k=(5:Int)))=true →
 (1:Int)=(a2t k))∧((decide (k=(5:Int)))=false →
 (d7x k))))∧((decide (k=(5:Int)))=false →
 (((decide (k=(8:Int)))=true →
 (1:Int)=(a2t k))∧((decide (k=(8:Int)))=false →
 (d7x k)))))
theorem g7h(k:Int):awp (a0r []) (a0j b2p) (e4y k) 0 (a1c (a0r []) b2p fun r=>a1f r [⟨(.int .i64),a2t k⟩]) (a0m b2p [.val ⟨(.int .i64),k⟩]) =
 ((((decide (k=(1:Int)))=true →
 (((decide (k=(1:Int)))=true →
 (0:Int)=(a2t k))∧((decide (k=(1:Int)))=false →
 (b9j k))))∧((decide (k=(1:Int)))=false →
 (((decide (k=(2:Int)))=true →
 (((decide (k=(2:Int)))=true →
 (0:Int)=(a2t k))∧((decide (k=(2:Int)))=false →
 (b9j k))))∧((decide (k=(2:Int)))=false →
 (((decide (k=(3:Int)))=true →
 (((decide (k=(3:Int)))=true →
 (0:Int)=(a2t k))∧((decide (k=(3:Int)))=false →
 (b9j k))))∧((decide (k=(3:Int)))=false →
 (((decide (k=(4:Int)))=true →
 (0:Int)=(a2t k))∧((decide (k=(4:Int)))=false →
 (b9j k)))))))))):=by kernel_rfl
theorem g5n(hE:a0o []):Ctr.Good b8e:=by
 refine⟨a0l d9z rfl (by decide),?_⟩
 show ∀ (k:Int),True→a1e prog d0w [.val ⟨(.int .i64),k⟩] (·=[⟨(.int .i64),a2t k⟩])
 intro k _
 refine a0w (wr:=[]) (cl:=[]) (ro:=[]) hE d9z f6n (e4y k) ?_
 rewrite [g7h k]
 refine⟨fun a0=>⟨fun a1=>?_,fun a1=>⟨fun a2=>⟨fun a3=>?_,fun a3=>⟨fun a4=>⟨fun a5=>?_,fun a5=>?_⟩,fun a4=>⟨fun a5=>?_,fun a5=>?_⟩⟩⟩,fun a2=>⟨fun a3=>?_,fun a3=>⟨fun a4=>⟨fun a5=>?_,fun a5=>?_⟩,fun a4=>⟨fun a5=>?_,fun a5=>?_⟩⟩⟩⟩⟩,fun a0=>⟨fun a1=>⟨fun a2=>?_,fun a2=>⟨fun a3=>⟨fun a4=>?_,fun a4=>⟨fun a5=>⟨fun a6=>?_,fun a6=>?_⟩,fun a5=>⟨fun a6=>?_,fun a6=>?_⟩⟩⟩,fun a3=>⟨fun a4=>?_,fun a4=>⟨fun a5=>⟨fun a6=>?_,fun a6=>?_⟩,fun a5=>⟨fun a6=>?_,fun a6=>?_⟩⟩⟩⟩⟩,fun a1=>⟨fun a2=>⟨fun a3=>?_,fun a3=>⟨fun a4=>⟨fun a5=>?_,fun a5=>⟨fun a6=>⟨fun a7=>?_,fun a7=>?_⟩,fun a6=>⟨fun a7=>?_,fun a7=>?_⟩⟩⟩,fun a4=>⟨fun a5=>?_,fun a5=>⟨fun a6=>⟨fun a7=>?_,fun a7=>?_⟩,fun a6=>⟨fun a7=>?_,fun a7=>?_⟩⟩⟩⟩⟩,fun a2=>⟨fun a3=>?_,fun a3=>⟨fun a4=>⟨fun a5=>?_,fun a5=>⟨fun a6=>⟨fun a7=>?_,fun a7=>?_⟩,fun a6=>⟨fun a7=>?_,fun a7=>?_⟩⟩⟩,fun a4=>⟨fun a5=>?_,fun a5=>⟨fun a6=>⟨fun a7=>?_,fun a7=>?_⟩,fun a6=>⟨fun a7=>?_,fun a7=>?_⟩⟩⟩⟩⟩⟩⟩⟩
 all_goals try and_intros
 all_goals first|rfl|trivial|(simp only[decide_eq_true_eq,decide_eq_false_iff_not] at *;simp[a2t, *];done)|(simp only[decide_eq_true_eq,decide_eq_false_iff_not] at *;unfold a2t;repeat (first|omega|split))
theorem f7l:Ctr.Good b8e:=g5n trivial
def a9j(n:Nat):Ctr:=⟨b6l,[.v (.st .expr)],fun (x:a0b)=>⟨(some (msz x<n),[⟨.bool,a1l x⟩])⟩⟩
def a3v:Ctr:=⟨b6l,[.v (.st .expr)],fun (x:a0b)=>⟨(none,[⟨.bool,a1l x⟩])⟩⟩
def d2v(x:a0b):Nat→a0p:=(fun zb=>if Nat.beq zb 1 then .mk (Nat) (fun k=>k≤x.kids.length∧a0v a1l (x.kids.take k)=true) (fun k=>x.kids.length - k) [] [0,1,3,5,6,7,8,9,10,11,12,13,14] (fun k=>[(17, .imm ⟨(.int .i64),((k:Int):Int)⟩)]) [2,4,15,16,17,18,19,20,21,22,23,24] (fun k=>[]) [] [] (fun k=>fun _ => .none) else .none)
abbrev a6h(n:Nat)(x:a0b):Prop:=(x.kids.length≤140737488355328 →
 (a0c ((x.kids.length:Int)) →
 ((∃ k1:Nat,((k1≤x.kids.length∧a0v a1l (x.kids.take k1)=true)∧((x.kids=x.kids∧(((x.kids.length:Int))=((x.kids.length:Int))∧((0:Int)=(k1:Int)∧True)))∧True)))∧(∀ k1:Nat,((k1≤x.kids.length∧a0v a1l (x.kids.take k1)=true) →
 (((decide ((k1:Int)<((x.kids.length:Int))))=true →
 (a0k (k1:Int) x.kids.length∧(msz (a0n (x.kids.getD k1 zE))<n∧(((!(a1l (a0n (x.kids.getD k1 zE))))=true →
 false=(a1l x))∧((!(a1l (a0n (x.kids.getD k1 zE))))=false →
 (a0c ((k1:Int)+(1:Int))∧(∃ k2:Nat,((k2≤x.kids.length∧a0v a1l (x.kids.take k2)=true)∧(x.kids.length - k2<x.kids.length - k1∧((x.kids=x.kids∧(((x.kids.length:Int))=((x.kids.length:Int))∧(((k1:Int)+(1:Int))=(k2:Int)∧True)))∧True))))))))))∧((decide ((k1:Int)<((x.kids.length:Int))))=false →
 true=(a1l x))))))))
theorem f1l(n:Nat)(x:a0b):awp (a0r [a9j n] [] [] [1]) (a0j a7l) (d2v x) 0 (a1c (a0r [a9j n] [] [] [1]) a7l fun r=>a1f r [⟨.bool,a1l x⟩]) (a0m a7l [.val ⟨(.st .expr),x⟩]) =
 ((a0c x.kind →
 (((decide (x.kind=(1:Int)))=true →
 (((decide (x.kind=(1:Int)))=true →
 (a6h n x))∧((decide (x.kind=(1:Int)))=false →
 false=(a1l x))))∧((decide (x.kind=(1:Int)))=false →
 (((decide (x.kind=(2:Int)))=true →
 (((decide (x.kind=(2:Int)))=true →
 (a6h n x))∧((decide (x.kind=(2:Int)))=false →
 false=(a1l x))))∧((decide (x.kind=(2:Int)))=false →
 (((decide (x.kind=(3:Int)))=true →
 (((decide (x.kind=(3:Int)))=true →
 (a6h n x))∧((decide (x.kind=(3:Int)))=false →
 false=(a1l x))))∧((decide (x.kind=(3:Int)))=false →
 (((decide (x.kind=(5:Int)))=true →
 (((decide (x.kind=(5:Int)))=true →
 (a6h n x))∧((decide (x.kind=(5:Int)))=false →
 false=(a1l x))))∧((decide (x.kind=(5:Int)))=false →
 (((decide (x.kind=(6:Int)))=true →
 (((decide (x.kind=(6:Int)))=true →
 (a6h n x))∧((decide (x.kind=(6:Int)))=false →
 false=(a1l x))))∧((decide (x.kind=(6:Int)))=false →
 (((decide (x.kind=(7:Int)))=true →
 (a6h n x))∧((decide (x.kind=(7:Int)))=false →
 false=(a1l x))))))))))))))):=by kernel_rfl
theorem f1d(n:Nat)(hE:a0o [a9j n]):Ctr.Good (a9j (n+1)):=by
 refine⟨a0l b4a rfl (by decide),?_⟩
 show ∀ (x:a0b),(msz x<n+1)→a1e prog b6l [.val ⟨(.st .expr),x⟩] (·=[⟨.bool,a1l x⟩])
 intro x hp
 refine a0w (wr:=[]) (cl:=[]) (ro:=[1]) hE b4a e3r (d2v x) ?_
 rewrite [f1l n x]
 have f0:=c2e x
 have f1:=a8h a1l x.kids
 refine fun a0=>⟨fun a1=>⟨fun a2=>fun a3=>fun a4=>⟨⟨0,⟨?_,⟨⟨rfl,⟨rfl,⟨?_,trivial⟩⟩⟩,trivial⟩⟩⟩,fun k1 a5=>have b5x0:=a3h a1l zE x.kids k1;have b5x1:=a4c a1l zE x.kids k1;have b5x2:=a3l a1l x.kids k1;have b5x3:=a3d zE x.kids k1;⟨fun a6=>⟨?_,⟨?_,⟨fun a7=>?_,fun a7=>⟨?_,⟨k1+1,⟨?_,⟨?_,⟨⟨rfl,⟨rfl,⟨?_,trivial⟩⟩⟩,trivial⟩⟩⟩⟩⟩⟩⟩⟩,fun a6=>?_⟩⟩,fun a2=>?_⟩,fun a1=>⟨fun a2=>⟨fun a3=>fun a4=>fun a5=>⟨⟨0,⟨?_,⟨⟨rfl,⟨rfl,⟨?_,trivial⟩⟩⟩,trivial⟩⟩⟩,fun k1 a6=>have b6x0:=a3h a1l zE x.kids k1;have b6x1:=a4c a1l zE x.kids k1;have b6x2:=a3l a1l x.kids k1;have b6x3:=a3d zE x.kids k1;⟨fun a7=>⟨?_,⟨?_,⟨fun a8=>?_,fun a8=>⟨?_,⟨k1+1,⟨?_,⟨?_,⟨⟨rfl,⟨rfl,⟨?_,trivial⟩⟩⟩,trivial⟩⟩⟩⟩⟩⟩⟩⟩,fun a7=>?_⟩⟩,fun a3=>?_⟩,fun a2=>⟨fun a3=>⟨fun a4=>fun a5=>fun a6=>⟨⟨0,⟨?_,⟨⟨rfl,⟨rfl,⟨?_,trivial⟩⟩⟩,trivial⟩⟩⟩,fun k1 a7=>have b7x0:=a3h a1l zE x.kids k1;have b7x1:=a4c a1l zE x.kids k1;have b7x2:=a3l a1l x.kids k1;have b7x3:=a3d zE x.kids k1;⟨fun a8=>⟨?_,⟨?_,⟨fun a9=>?_,fun a9=>⟨?_,⟨k1+1,⟨?_,⟨?_,⟨⟨rfl,⟨rfl,⟨?_,trivial⟩⟩⟩,trivial⟩⟩⟩⟩⟩⟩⟩⟩,fun a8=>?_⟩⟩,fun a4=>?_⟩,fun a3=>⟨fun a4=>⟨fun a5=>fun a6=>fun a7=>⟨⟨0,⟨?_,⟨⟨rfl,⟨rfl,⟨?_,trivial⟩⟩⟩,trivial⟩⟩⟩,fun k1 a8=>have b8x0:=a3h a1l zE x.kids k1;have b8x1:=a4c a1l zE x.kids k1;have b8x2:=a3l a1l x.kids k1;have b8x3:=a3d zE x.kids k1;⟨fun a9=>⟨?_,⟨?_,⟨fun a10=>?_,fun a10=>⟨?_,⟨k1+1,⟨?_,⟨?_,⟨⟨rfl,⟨rfl,⟨?_,trivial⟩⟩⟩,trivial⟩⟩⟩⟩⟩⟩⟩⟩,fun a9=>?_⟩⟩,fun a5=>?_⟩,fun a4=>⟨fun a5=>⟨fun a6=>fun a7=>fun a8=>⟨⟨0,⟨?_,⟨⟨rfl,⟨rfl,⟨?_,trivial⟩⟩⟩,trivial⟩⟩⟩,fun k1 a9=>have b9x0:=a3h a1l zE x.kids k1;have b9x1:=a4c a1l zE x.kids k1;have b9x2:=a3l a1l x.kids k1;have b9x3:=a3d zE x.kids k1;⟨fun a10=>⟨?_,⟨?_,⟨fun a11=>?_,fun a11=>⟨?_,⟨k1+1,⟨?_,⟨?_,⟨⟨rfl,⟨rfl,⟨?_,trivial⟩⟩⟩,trivial⟩⟩⟩⟩⟩⟩⟩⟩,fun a10=>?_⟩⟩,fun a6=>?_⟩,fun a5=>⟨fun a6=>fun a7=>fun a8=>⟨⟨0,⟨?_,⟨⟨rfl,⟨rfl,⟨?_,trivial⟩⟩⟩,trivial⟩⟩⟩,fun k1 a9=>have b9x0:=a3h a1l zE x.kids k1;have b9x1:=a4c a1l zE x.kids k1;have b9x2:=a3l a1l x.kids k1;have b9x3:=a3d zE x.kids k1;⟨fun a10=>⟨?_,⟨?_,⟨fun a11=>?_,fun a11=>⟨?_,⟨k1+1,⟨?_,⟨?_,⟨⟨rfl,⟨rfl,⟨?_,trivial⟩⟩⟩,trivial⟩⟩⟩⟩⟩⟩⟩⟩,fun a10=>?_⟩⟩,fun a6=>?_⟩⟩⟩⟩⟩⟩
 all_goals try and_intros
 all_goals try simp only[a0b.eta,a0d.eta,a1g.eta,a0e.eta,a2u,a2z,a2o,a2f] at *
 all_goals try rw[e7c x]
 all_goals first|rfl|trivial|(simp only[decide_eq_true_eq,decide_eq_false_iff_not,a0k,a0c] at *;omega)|(simp_all [c5n];done)|(simp_all [c5n,a0k,a0c];omega)
theorem g3h :∀ n,a0o [a9j n]
 | 0=>⟨⟨a0l b4a rfl (by decide),fun _ h=>absurd h (Nat.not_lt_zero _)⟩,trivial⟩
 | n+1=>by
  have ih:=g3h  n
  exact⟨f1d n ⟨ih.1,trivial⟩,trivial⟩
theorem b7q :Ctr.Good a3v :=
 ⟨a0l b4a rfl (by decide),fun x hp=>(g3h  (msz x+1)).1.2 x (Nat.lt_succ_self _)⟩
def a8n(n:Nat):Ctr:=⟨b4f,[.r (.st .expr)],fun (x:a0b)=>⟨(some (msz x<n),[⟨.bool,a1l x⟩])⟩⟩
def a5o:Ctr:=⟨b4f,[.r (.st .expr)],fun (x:a0b)=>⟨(none,[⟨.bool,a1l x⟩])⟩⟩
def c9v(x:a0b):Nat→a0p:=(fun zb=>if Nat.beq zb 0 then .mk (Nat) (fun k=>k≤x.kids.length∧a0v a1l (x.kids.take k)=true) (fun k=>x.kids.length - k) [] [1,4,5,6,7,8,9,10,11,12,13,14,15,16] (fun k=>[(3, .imm ⟨(.int .i64),((k:Int):Int)⟩)]) [0,2,3,17,18,19,20,21,22,23,24,25,26,27,28,29,30,31,32,33] (fun k=>[]) [] [] (fun k=>fun _ => .none) else .none)
abbrev c6u(n:Nat)(x:a0b):Prop:=((∃ k1:Nat,((k1≤x.kids.length∧a0v a1l (x.kids.take k1)=true)∧((x=x∧((0:Int)=(k1:Int)∧True))∧True)))∧(∀ k1:Nat,((k1≤x.kids.length∧a0v a1l (x.kids.take k1)=true) →
 (x.kids.length≤140737488355328 →
 (a0c ((x.kids.length:Int)) →
 (((decide ((k1:Int)<((x.kids.length:Int))))=true →
 (x.kids.length≤140737488355328 →
 (a0k (k1:Int) x.kids.length∧(msz (x.kids.getD k1 zE)<n∧(((!(a1l (x.kids.getD k1 zE)))=true →
 false=(a1l x))∧((!(a1l (x.kids.getD k1 zE)))=false →
 (a0c ((k1:Int)+(1:Int))∧(∃ k2:Nat,((k2≤x.kids.length∧a0v a1l (x.kids.take k2)=true)∧(x.kids.length - k2<x.kids.length - k1∧((x=x∧(((k1:Int)+(1:Int))=(k2:Int)∧True))∧True)))))))))))∧((decide ((k1:Int)<((x.kids.length:Int))))=false →
 true=(a1l x))))))))
theorem e8t(n:Nat)(x:a0b):awp (a0r [a8n n,a4e]) (a0j a6u) (c9v x) 0 (a1c (a0r [a8n n,a4e]) a6u fun r=>a1f r [⟨.bool,a1l x⟩]) (a0m a6u [.ref ⟨(.st .expr),x⟩]) =
 ((a0c x.kind →
 ((((!(decide ((1:Int)≤x.kind∧x.kind≤(7:Int))))=false) →
 (a0c x.kind →
 (((decide (x.kind=(4:Int)))=true →
 false=(a1l x))∧((decide (x.kind=(4:Int)))=false →
 (c6u n x)))))∧(((!(decide ((1:Int)≤x.kind∧x.kind≤(7:Int))))=(!false)) →
 ((true=true →
 false=(a1l x))∧(true=false →
 (c6u n x))))))):=by kernel_rfl
theorem e7y(n:Nat)(hE:a0o [a8n n,a4e]):Ctr.Good (a8n (n+1)):=by
 refine⟨a0l b1w rfl (by decide),?_⟩
 show ∀ (x:a0b),(msz x<n+1)→a1e prog b4f [.ref ⟨(.st .expr),x⟩] (·=[⟨.bool,a1l x⟩])
 intro x hp
 refine a0w (wr:=[]) (cl:=[]) (ro:=[]) hE b1w e2e (c9v x) ?_
 rewrite [e8t n x]
 have f0:=c2e x
 have f1:=a8h a1l x.kids
 refine fun a0=>⟨fun a1=>fun a2=>⟨fun a3=>?_,fun a3=>⟨⟨0,⟨?_,⟨⟨rfl,⟨?_,trivial⟩⟩,trivial⟩⟩⟩,fun k1 a4=>have b4x0:=a3h a1l zE x.kids k1;have b4x1:=a4c a1l zE x.kids k1;have b4x2:=a3l a1l x.kids k1;have b4x3:=a3d zE x.kids k1;fun a5=>fun a6=>⟨fun a7=>fun a8=>⟨?_,⟨?_,⟨fun a9=>?_,fun a9=>⟨?_,⟨k1+1,⟨?_,⟨?_,⟨⟨rfl,⟨?_,trivial⟩⟩,trivial⟩⟩⟩⟩⟩⟩⟩⟩,fun a7=>?_⟩⟩⟩,fun a1=>⟨fun a2=>?_,fun a2=>⟨⟨0,⟨?_,⟨⟨rfl,⟨?_,trivial⟩⟩,trivial⟩⟩⟩,fun k1 a3=>have b3x0:=a3h a1l zE x.kids k1;have b3x1:=a4c a1l zE x.kids k1;have b3x2:=a3l a1l x.kids k1;have b3x3:=a3d zE x.kids k1;fun a4=>fun a5=>⟨fun a6=>fun a7=>⟨?_,⟨?_,⟨fun a8=>?_,fun a8=>⟨?_,⟨k1+1,⟨?_,⟨?_,⟨⟨rfl,⟨?_,trivial⟩⟩,trivial⟩⟩⟩⟩⟩⟩⟩⟩,fun a6=>?_⟩⟩⟩⟩
 all_goals try and_intros
 all_goals try rw[e7c x]
 all_goals first|rfl|trivial|(simp only[decide_eq_true_eq,decide_eq_false_iff_not,a0k,a0c] at *;omega)|(simp_all [c5n];done)|(simp_all [c5n,a0k,a0c];omega)
theorem g3i :∀ n,a0o [a8n n]
 | 0=>⟨⟨a0l b1w rfl (by decide),fun _ h=>absurd h (Nat.not_lt_zero _)⟩,trivial⟩
 | n+1=>by
  have ih:=g3i  n
  exact⟨e7y n ⟨ih.1,c1c,trivial⟩,trivial⟩
theorem c4x :Ctr.Good a5o :=
 ⟨a0l b1w rfl (by decide),fun x hp=>(g3i  (msz x+1)).1.2 x (Nat.lt_succ_self _)⟩
def b7a(t a:Int)(x:a0b):Bool:=decide (a2t x.kind=(x.kids.length:Int)) &&
 (if x.kind=3 then decide (0≤x.num∧x.num≤t) else if x.kind=4 then decide (0≤x.num∧x.num≤a) else decide (x.num=0)) &&
 (!decide (x.kind=5)||a1l (x.kids.getD 0 ⟨0,0,[]⟩))
mutual
def a1q(t a:Int):a0b→Bool
 | ⟨k,n,ks⟩=>b7a t a ⟨k,n,ks⟩&&c0e t a ks
def c0e(t a:Int):List a0b→Bool
 | []=>true
 | k::ks=>a1q t a k&&c0e t a ks
end
theorem h1x(t a:Int):∀ xs,c0e t a xs=a0v (a1q t a) xs
 | []=>rfl
 | x::xs=>by rw[c0e,a0v,h1x t a xs]
theorem e8p(t a:Int)(x:a0b):a1q t a x=(b7a t a x&&a0v (a1q t a) x.kids):=by
 cases x;simp[a1q,h1x]
def a0t(n:Int):Int:=IntKind.wrap .i64 (n - 1)
theorem c7p(n:Int)(h : -9223372036854775807≤n∧n≤9223372036854775807):a0t n=n - 1:=by
 simp[a0t,IntKind.wrap,IntKind.signed,IntKind.bits];omega
def b5x(n:Nat):Ctr:=⟨c3n,[.r (.st .expr), .v (.int .i64)],fun (x:a0b) (left:Int)=>⟨(some (msz x<n∧0≤left∧left≤1048576),[⟨(.int .i64),szR (a1d x) left⟩])⟩⟩
def c3c:Ctr:=⟨c3n,[.r (.st .expr), .v (.int .i64)],fun (x:a0b) (left:Int)=>⟨(some (0≤left∧left≤1048576),[⟨(.int .i64),szR (a1d x) left⟩])⟩⟩
def e4z(x:a0b)(left:Int):Nat→a0p:=(fun zb=>if Nat.beq zb 0 then .mk (Nat) (fun k=>k≤x.kids.length) (fun k=>x.kids.length - k) [] [2,3,6,7] (fun k=>[(5, .imm ⟨(.int .i64),((k:Int):Int)⟩),(1, .imm ⟨(.int .i64),(szR (1+szL a1d (x.kids.take k)) left:Int)⟩)]) [0,1,4,5,8,9,10,11,12,13,14,15,16,17,18,19,20,21,22,23,24,25,26,27,28,29] (fun k=>[]) [] [] (fun k=>fun _ => .none) else .none)
abbrev d7y(n:Nat)(x:a0b)(left:Int)(k1:Nat):Prop:=(x.kids.length≤140737488355328 →
 (a0k (k1:Int) x.kids.length∧((msz (x.kids.getD k1 zE)<n∧0≤(szR (1+szL a1d (x.kids.take k1)) left)∧(szR (1+szL a1d (x.kids.take k1)) left)≤1048576)∧(a0c (szR (a1d (x.kids.getD k1 zE)) (szR (1+szL a1d (x.kids.take k1)) left)) →
 (a0c ((k1:Int)+(1:Int))∧(∃ k2:Nat,(k2≤x.kids.length∧(x.kids.length - k2<x.kids.length - k1∧((x=x∧((szR (a1d (x.kids.getD k1 zE)) (szR (1+szL a1d (x.kids.take k1)) left))=(szR (1+szL a1d (x.kids.take k2)) left)∧((0:Int)=(0:Int)∧(((k1:Int)+(1:Int))=(k2:Int)∧True))))∧True)))))))))
theorem g7i(n:Nat)(x:a0b)(left:Int):awp (a0r [b5x n]) (a0j b2q) (e4z x left) 0 (a1c (a0r [b5x n]) b2q fun r=>a1f r [⟨(.int .i64),szR (a1d x) left⟩]) (a0m b2q [.ref ⟨(.st .expr),x⟩, .val ⟨(.int .i64),left⟩]) =
 ((a0c (left - (1:Int))∧((∃ k1:Nat,(k1≤x.kids.length∧((x=x∧((left - (1:Int))=(szR (1+szL a1d (x.kids.take k1)) left)∧((0:Int)=(0:Int)∧((0:Int)=(k1:Int)∧True))))∧True)))∧(∀ k1:Nat,(k1≤x.kids.length →
 (x.kids.length≤140737488355328 →
 (a0c ((x.kids.length:Int)) →
 (((decide ((k1:Int)<((x.kids.length:Int))))=true →
 (((decide ((0:Int)≤(szR (1+szL a1d (x.kids.take k1)) left)))=true →
 (d7y n x left k1))∧((decide ((0:Int)≤(szR (1+szL a1d (x.kids.take k1)) left)))=false →
 (szR (1+szL a1d (x.kids.take k1)) left)=(szR (a1d x) left))))∧((decide ((k1:Int)<((x.kids.length:Int))))=(!true) →
 ((false=true →
 (d7y n x left k1))∧(false=false →
 (szR (1+szL a1d (x.kids.take k1)) left)=(szR (a1d x) left)))))))))))):=by kernel_rfl
theorem g5o(n:Nat)(hE:a0o [b5x n]):Ctr.Good (b5x (n+1)):=by
 refine⟨a0l c0t rfl (by decide),?_⟩
 show ∀ (x:a0b) (left:Int),(msz x<n+1∧0≤left∧left≤1048576)→a1e prog c3n [.ref ⟨(.st .expr),x⟩, .val ⟨(.int .i64),left⟩] (·=[⟨(.int .i64),szR (a1d x) left⟩])
 intro x left hp
 refine a0w (wr:=[]) (cl:=[]) (ro:=[]) hE c0t f6o (e4z x left) ?_
 rewrite [g7i n x left]
 have f0:=c2e x
 have f1:=e8m a1d x.kids
 have f2:=c0d (1+szL a1d (x.kids.take 0)) left
 refine⟨?_,⟨⟨0,⟨?_,⟨⟨rfl,⟨?_,⟨rfl,⟨?_,trivial⟩⟩⟩⟩,trivial⟩⟩⟩,fun k1 a0=>have b0x0:=c2t a1d zE x.kids k1;have b0x1:=a8g a1d x.kids k1;have b0x2:=a8g a1d x.kids (k1+1);have b0x3:=d1q a1d x.kids k1;have b0x4:=a3d zE x.kids k1;have b0x5:=c0d (1+szL a1d (x.kids.take k1)) left;have b0x6:=c0d (1+szL a1d (x.kids.take (k1+1))) left;have b0x7:=c0d (a1d (x.kids.getD k1 zE)) (szR (1+szL a1d (x.kids.take k1)) left);have b0x8:=c0d (1+szL a1d x.kids) left;fun a1=>fun a2=>⟨fun a3=>⟨fun a4=>fun a5=>⟨?_,⟨?_,fun a6=>⟨?_,⟨k1+1,⟨?_,⟨?_,⟨⟨rfl,⟨?_,⟨rfl,⟨?_,trivial⟩⟩⟩⟩,trivial⟩⟩⟩⟩⟩⟩⟩,fun a4=>?_⟩,fun a3=>⟨fun a4=>fun a5=>⟨?_,⟨?_,fun a6=>⟨?_,⟨k1+1,⟨?_,⟨?_,⟨⟨rfl,⟨?_,⟨rfl,⟨?_,trivial⟩⟩⟩⟩,trivial⟩⟩⟩⟩⟩⟩⟩,fun a4=>?_⟩⟩⟩⟩
 all_goals try and_intros
 all_goals try rw[h1h x]
 all_goals first|rfl|trivial|omega|(simp only[decide_eq_true_eq,decide_eq_false_iff_not,a0k,a0c,a2k,a8i,a5r,a1p] at *;omega)|(simp[a0k,a0c] at *;omega)|grind
theorem g3m :∀ n,a0o [b5x n]
 | 0=>⟨⟨a0l c0t rfl (by decide),fun _ _ h=>absurd h.1 (Nat.not_lt_zero _)⟩,trivial⟩
 | n+1=>by
  have ih:=g3m  n
  exact⟨g5o n ⟨ih.1,trivial⟩,trivial⟩
theorem f7m :Ctr.Good c3c :=
 ⟨a0l c0t rfl (by decide),fun x left hp=>(g3m  (msz x+1)).1.2 x left (⟨Nat.lt_succ_self _,hp⟩)⟩
def b3u(n:Nat):Ctr:=⟨c1m,[.r (.st .expr)],fun (x:a0b)=>⟨(some (msz x<n∧a1n x≤1048576),[⟨(.int .i64),(a1n x:Int)⟩])⟩⟩
def c1j:Ctr:=⟨c1m,[.r (.st .expr)],fun (x:a0b)=>⟨(some (a1n x≤1048576),[⟨(.int .i64),(a1n x:Int)⟩])⟩⟩
def e1f(x:a0b):Nat→a0p:=(fun zb=>if Nat.beq zb 0 then .mk (Nat) (fun k=>k≤x.kids.length) (fun k=>x.kids.length - k) [] [1] (fun k=>[(4, .imm ⟨(.int .i64),((k:Int):Int)⟩),(3, .imm ⟨(.int .i64),((a4g a1n (x.kids.take k):Int):Int)⟩)]) [0,2,3,4,5,6,7,8,9,10,11,12,13,14,15,16,17,18,19,20,21,22,23,24] (fun k=>[]) [] [] (fun k=>fun _ => .none) else .none)
theorem g2q(n:Nat)(x:a0b):awp (a0r [b3u n,a9b]) (a0j b1f) (e1f x) 0 (a1c (a0r [b3u n,a9b]) b1f fun r=>a1f r [⟨(.int .i64),(a1n x:Int)⟩]) (a0m b1f [.ref ⟨(.st .expr),x⟩]) =
 (((∃ k1:Nat,(k1≤x.kids.length∧((x=x∧((0:Int)=(0:Int)∧((0:Int)=(a4g a1n (x.kids.take k1):Int)∧((0:Int)=(k1:Int)∧True))))∧True)))∧(∀ k1:Nat,(k1≤x.kids.length →
 (x.kids.length≤140737488355328 →
 (a0c ((x.kids.length:Int)) →
 (((decide ((k1:Int)<((x.kids.length:Int))))=true →
 (x.kids.length≤140737488355328 →
 (a0k (k1:Int) x.kids.length∧((msz (x.kids.getD k1 zE)<n∧a1n (x.kids.getD k1 zE)≤1048576)∧(a0c ((a1n (x.kids.getD k1 zE):Int)) →
 (a0c (max (a4g a1n (x.kids.take k1):Int) ((a1n (x.kids.getD k1 zE):Int))) →
 (a0c ((k1:Int)+(1:Int))∧(∃ k2:Nat,(k2≤x.kids.length∧(x.kids.length - k2<x.kids.length - k1∧((x=x∧((0:Int)=(0:Int)∧((max (a4g a1n (x.kids.take k1):Int) ((a1n (x.kids.getD k1 zE):Int)))=(a4g a1n (x.kids.take k2):Int)∧(((k1:Int)+(1:Int))=(k2:Int)∧True))))∧True)))))))))))∧((decide ((k1:Int)<((x.kids.length:Int))))=false →
 (a0c ((a4g a1n (x.kids.take k1):Int)+(1:Int))∧((a4g a1n (x.kids.take k1):Int)+(1:Int))=(a1n x:Int)))))))))):=by kernel_rfl
theorem g1u(n:Nat)(hE:a0o [b3u n,a9b]):Ctr.Good (b3u (n+1)):=by
 refine⟨a0l b9b rfl (by decide),?_⟩
 show ∀ (x:a0b),(msz x<n+1∧a1n x≤1048576)→a1e prog c1m [.ref ⟨(.st .expr),x⟩] (·=[⟨(.int .i64),(a1n x:Int)⟩])
 intro x hp
 refine a0w (wr:=[]) (cl:=[]) (ro:=[]) hE b9b f2d (e1f x) ?_
 rewrite [g2q n x]
 rw[f2n x] at hp
 have f0:=c2e x
 have f1:=e1s a1n x.kids
 refine⟨⟨0,⟨?_,⟨⟨rfl,⟨rfl,⟨?_,⟨?_,trivial⟩⟩⟩⟩,trivial⟩⟩⟩,fun k1 a0=>have b0x0:=b8w a1n zE x.kids k1;have b0x1:=a6z a1n x.kids k1;have b0x2:=a6z a1n x.kids (k1+1);have b0x3:=c5z a1n x.kids k1;have b0x4:=a3d zE x.kids k1;have b0x5:=f4e a1n zE x.kids k1;fun a1=>fun a2=>⟨fun a3=>fun a4=>⟨?_,⟨?_,fun a5=>fun a6=>⟨?_,⟨k1+1,⟨?_,⟨?_,⟨⟨rfl,⟨rfl,⟨?_,⟨?_,trivial⟩⟩⟩⟩,trivial⟩⟩⟩⟩⟩⟩⟩,fun a3=>⟨?_,?_⟩⟩⟩
 all_goals try and_intros
 all_goals try rw[f2n x]
 all_goals first|rfl|trivial|omega|(simp only[decide_eq_true_eq,decide_eq_false_iff_not,a0k,a0c,a2k,a8i,a5r,a1p] at *;omega)|(simp[a0k,a0c] at *;omega)|grind
theorem f8v :∀ n,a0o [b3u n]
 | 0=>⟨⟨a0l b9b rfl (by decide),fun _ h=>absurd h.1 (Nat.not_lt_zero _)⟩,trivial⟩
 | n+1=>by
  have ih:=f8v  n
  exact⟨g1u n ⟨ih.1,d7r,trivial⟩,trivial⟩
theorem f3d :Ctr.Good c1j :=
 ⟨a0l b9b rfl (by decide),fun x hp=>(f8v  (msz x+1)).1.2 x (⟨Nat.lt_succ_self _,hp⟩)⟩
def b5y(n:Nat):Ctr:=⟨c3o,[.v (.st .sig), .r (.st .expr)],fun (gg:a0h) (x:a0b)=>⟨(some (msz x<n),[⟨.bool,a1q (a0t gg.tests) (a0t gg.actions) x⟩])⟩⟩
def c3d:Ctr:=⟨c3o,[.v (.st .sig), .r (.st .expr)],fun (gg:a0h) (x:a0b)=>⟨(none,[⟨.bool,a1q (a0t gg.tests) (a0t gg.actions) x⟩])⟩⟩
def e5a(gg:a0h)(x:a0b):Nat→a0p:=(fun zb=>if Nat.beq zb 1 then .mk (Nat) (fun k=>k≤x.kids.length∧a0v (a1q (a0t gg.tests) (a0t gg.actions)) (x.kids.take k)=true) (fun k=>x.kids.length - k) [] [0,3,6,7,8,9,10,11,12,13,14,15,16,17,18,19,20,21,22,23,24,25,26,27,28,29,30,31,32,33,34,35,36,37,38,39,40,41,42,43,44,45,46,47,48,49,50,51,52,53,54,55,56,57,58,59,60,61] (fun k=>[(5, .imm ⟨(.int .i64),((k:Int):Int)⟩)]) [1,2,4,5,62,63,64,65,66,67,68,69,70,71,72,73,74,75,76,77,78,79] (fun k=>[]) [] [] (fun k=>fun _ => .none) else .none)
abbrev c5y(n:Nat)(gg:a0h)(x:a0b):Prop:=((∃ k1:Nat,((k1≤x.kids.length∧a0v (a1q (a0t gg.tests) (a0t gg.actions)) (x.kids.take k1)=true)∧((x=x∧(gg=gg∧((0:Int)=(k1:Int)∧True)))∧True)))∧(∀ k1:Nat,((k1≤x.kids.length∧a0v (a1q (a0t gg.tests) (a0t gg.actions)) (x.kids.take k1)=true) →
 (x.kids.length≤140737488355328 →
 (a0c ((x.kids.length:Int)) →
 (((decide ((k1:Int)<((x.kids.length:Int))))=true →
 (a0k (k1:Int) x.kids.length∧(x.kids.length≤140737488355328 →
 (msz (x.kids.getD k1 zE)<n∧(((!(a1q (a0t gg.tests) (a0t gg.actions) (x.kids.getD k1 zE)))=true →
 false=(a1q (a0t gg.tests) (a0t gg.actions) x))∧((!(a1q (a0t gg.tests) (a0t gg.actions) (x.kids.getD k1 zE)))=false →
 (a0c ((k1:Int)+(1:Int))∧(∃ k2:Nat,((k2≤x.kids.length∧a0v (a1q (a0t gg.tests) (a0t gg.actions)) (x.kids.take k2)=true)∧(x.kids.length - k2<x.kids.length - k1∧((x=x∧(gg=gg∧(((k1:Int)+(1:Int))=(k2:Int)∧True)))∧True)))))))))))∧((decide ((k1:Int)<((x.kids.length:Int))))=false →
 true=(a1q (a0t gg.tests) (a0t gg.actions) x))))))))
theorem g7j(n:Nat)(gg:a0h)(x:a0b):awp (a0r [b5y n,b8e,a4e,a5o] [29,39] [] [2]) (a0j b2r) (e5a gg x) 0 (a1c (a0r [b5y n,b8e,a4e,a5o] [29,39] [] [2]) b2r fun r=>a1f r [⟨.bool,a1q (a0t gg.tests) (a0t gg.actions) x⟩]) (a0m b2r [.val ⟨(.st .sig),gg⟩, .ref ⟨(.st .expr),x⟩]) =
 ((x.kids.length≤140737488355328 →
 (a0c ((x.kids.length:Int)) →
 (a0c x.kind →
 (a0c (a2t x.kind) →
 (((!(decide (((x.kids.length:Int))=(a2t x.kind))))=true →
 false=(a1q (a0t gg.tests) (a0t gg.actions) x))∧((!(decide (((x.kids.length:Int))=(a2t x.kind))))=false →
 (a0c x.kind →
 (((decide (x.kind=(3:Int)))=true →
 (a0c x.num →
 (a0c gg.tests →
 ((decide ((0:Int)≤x.num∧x.num≤(IntKind.wrap .i64 (gg.tests - (1:Int)))))=(a1q (a0t gg.tests) (a0t gg.actions) x)))))∧((decide (x.kind=(3:Int)))=false →
 (((decide (x.kind=(4:Int)))=true →
 (a0c x.num →
 (a0c gg.actions →
 ((decide ((0:Int)≤x.num∧x.num≤(IntKind.wrap .i64 (gg.actions - (1:Int)))))=(a1q (a0t gg.tests) (a0t gg.actions) x)))))∧((decide (x.kind=(4:Int)))=false →
 (a0c x.num →
 (((!(decide (x.num=(0:Int))))=false →
 (a0c x.kind →
 (((decide (x.kind=(5:Int)))=true →
 (x.kids.length≤140737488355328 →
 (a0k (0:Int) x.kids.length∧(((!(a1l (x.kids.getD 0 zE)))=true →
 false=(a1q (a0t gg.tests) (a0t gg.actions) x))∧((!(a1l (x.kids.getD 0 zE)))=false →
 (c5y n gg x))))))∧((decide (x.kind=(5:Int)))=(!true) →
 ((false=true →
 false=(a1q (a0t gg.tests) (a0t gg.actions) x))∧(false=false →
 (c5y n gg x)))))))∧((!(decide (x.num=(0:Int))))=(!false) →
 ((true=true →
 false=(a1q (a0t gg.tests) (a0t gg.actions) x))∧(true=false →
 (c5y n gg x)))))))))))))))))):=by kernel_rfl
theorem g5p(n:Nat)(hE:a0o [b5y n,b8e,a4e,a5o]):Ctr.Good (b5y (n+1)):=by
 refine⟨a0l c0u rfl (by decide),?_⟩
 show ∀ (gg:a0h) (x:a0b),(msz x<n+1)→a1e prog c3o [.val ⟨(.st .sig),gg⟩, .ref ⟨(.st .expr),x⟩] (·=[⟨.bool,a1q (a0t gg.tests) (a0t gg.actions) x⟩])
 intro gg x hp
 refine a0w (wr:=[29,39]) (cl:=[]) (ro:=[2]) hE c0u f6p (e5a gg x) ?_
 rewrite [g7j n gg x]
 have f0:=c2e x
 have f1:=a8h (a1q (a0t gg.tests) (a0t gg.actions)) x.kids
 refine fun a0=>fun a1=>fun a2=>fun a3=>⟨fun a4=>?_,fun a4=>fun a5=>⟨fun a6=>fun a7=>fun a8=>?_,fun a6=>⟨fun a7=>fun a8=>fun a9=>?_,fun a7=>fun a8=>⟨fun a9=>fun a10=>⟨fun a11=>fun a12=>⟨?_,⟨fun a13=>?_,fun a13=>⟨⟨0,⟨?_,⟨⟨rfl,⟨rfl,⟨?_,trivial⟩⟩⟩,trivial⟩⟩⟩,fun k1 a14=>have b14x0:=a3h (a1q (a0t gg.tests) (a0t gg.actions)) zE x.kids k1;have b14x1:=a4c (a1q (a0t gg.tests) (a0t gg.actions)) zE x.kids k1;have b14x2:=a3l (a1q (a0t gg.tests) (a0t gg.actions)) x.kids k1;have b14x3:=a3d zE x.kids k1;fun a15=>fun a16=>⟨fun a17=>⟨?_,fun a18=>⟨?_,⟨fun a19=>?_,fun a19=>⟨?_,⟨k1+1,⟨?_,⟨?_,⟨⟨rfl,⟨rfl,⟨?_,trivial⟩⟩⟩,trivial⟩⟩⟩⟩⟩⟩⟩⟩,fun a17=>?_⟩⟩⟩⟩,fun a11=>⟨fun a12=>?_,fun a12=>⟨⟨0,⟨?_,⟨⟨rfl,⟨rfl,⟨?_,trivial⟩⟩⟩,trivial⟩⟩⟩,fun k1 a13=>have b13x0:=a3h (a1q (a0t gg.tests) (a0t gg.actions)) zE x.kids k1;have b13x1:=a4c (a1q (a0t gg.tests) (a0t gg.actions)) zE x.kids k1;have b13x2:=a3l (a1q (a0t gg.tests) (a0t gg.actions)) x.kids k1;have b13x3:=a3d zE x.kids k1;fun a14=>fun a15=>⟨fun a16=>⟨?_,fun a17=>⟨?_,⟨fun a18=>?_,fun a18=>⟨?_,⟨k1+1,⟨?_,⟨?_,⟨⟨rfl,⟨rfl,⟨?_,trivial⟩⟩⟩,trivial⟩⟩⟩⟩⟩⟩⟩⟩,fun a16=>?_⟩⟩⟩⟩,fun a9=>⟨fun a10=>?_,fun a10=>⟨⟨0,⟨?_,⟨⟨rfl,⟨rfl,⟨?_,trivial⟩⟩⟩,trivial⟩⟩⟩,fun k1 a11=>have b11x0:=a3h (a1q (a0t gg.tests) (a0t gg.actions)) zE x.kids k1;have b11x1:=a4c (a1q (a0t gg.tests) (a0t gg.actions)) zE x.kids k1;have b11x2:=a3l (a1q (a0t gg.tests) (a0t gg.actions)) x.kids k1;have b11x3:=a3d zE x.kids k1;fun a12=>fun a13=>⟨fun a14=>⟨?_,fun a15=>⟨?_,⟨fun a16=>?_,fun a16=>⟨?_,⟨k1+1,⟨?_,⟨?_,⟨⟨rfl,⟨rfl,⟨?_,trivial⟩⟩⟩,trivial⟩⟩⟩⟩⟩⟩⟩⟩,fun a14=>?_⟩⟩⟩⟩⟩⟩⟩
 all_goals try and_intros
 all_goals try rw[e8p _ _ x]
 all_goals first|rfl|trivial|(simp only[decide_eq_true_eq,decide_eq_false_iff_not,a0k,a0c] at *;omega)|(simp_all [b7a,a0t];done)|(simp_all [b7a,a0t,a0k,a0c];omega)|grind [b7a,a0t,a2t,a0k,a0c]
theorem g3o :∀ n,a0o [b5y n]
 | 0=>⟨⟨a0l c0u rfl (by decide),fun _ _ h=>absurd h (Nat.not_lt_zero _)⟩,trivial⟩
 | n+1=>by
  have ih:=g3o  n
  exact⟨g5p n ⟨ih.1,f7l,c1c,c4x,trivial⟩,trivial⟩
theorem f7n :Ctr.Good c3d :=
 ⟨a0l c0u rfl (by decide),fun gg x hp=>(g3o  (msz x+1)).1.2 gg x (Nat.lt_succ_self _)⟩
end
end Go.Proofs.YthebhlkdppmefaaGreat

set_option linter.unusedVariables false
set_option linter.unusedSimpArgs false
set_option linter.unusedSectionVars false
set_option maxRecDepth 4000
set_option maxHeartbeats 4000000
namespace Go.Proofs.YthebhlkdppmefaaGreat
noncomputable section
def a1i(gg:a0h):Bool:=decide (0≤gg.tests∧gg.tests≤3)&&decide (0≤gg.actions∧gg.actions≤4)
def shB(gg:a0h)(x:a0b)(nodes depth:Int):Bool:=a1q (a0t gg.tests) (a0t gg.actions) x&&decide ((a1d x:Int)≤nodes)&&decide ((a1n x:Int)≤depth)
def shN(gg:a0h)(x:a0b)(nodes depth:Int):Int:=bif shB gg x nodes depth then nodes - a1d x else 0
def a3g:Ctr:=⟨c8l,[.v (.st .sig)],fun (gg:a0h)=>⟨(none,[⟨.bool,a1i gg⟩])⟩⟩
def e0y(gg:a0h):Nat→a0p:=fun _ => .none
theorem g2j(gg:a0h):awp (a0r [a3b] [] [] [1]) (a0j b0y) (e0y gg) 0 (a1c (a0r [a3b] [] [] [1]) b0y fun r=>a1f r [⟨.bool,a1i gg⟩]) (a0m b0y [.val ⟨(.st .sig),gg⟩]) =
 ((a0c gg.tests →
 ((((decide ((0:Int)≤gg.tests∧gg.tests≤(3:Int)))=true) →
 (a0c gg.actions →
 ((decide ((0:Int)≤gg.actions∧gg.actions≤(4:Int)))=(a1i gg))))∧(((decide ((0:Int)≤gg.tests∧gg.tests≤(3:Int)))=(!true)) →
 false=(a1i gg))))):=by kernel_rfl
theorem g1n(hE:a0o [a3b]):Ctr.Good a3g:=by
 refine⟨a0l d6v rfl (by decide),?_⟩
 show ∀ (gg:a0h),True→a1e prog c8l [.val ⟨(.st .sig),gg⟩] (·=[⟨.bool,a1i gg⟩])
 intro gg _
 refine a0w (wr:=[]) (cl:=[]) (ro:=[1]) hE d6v f1w (e0y gg) ?_
 rewrite [g2j gg]
 refine fun a0=>⟨fun a1=>fun a2=>?_,fun a1=>?_⟩
 all_goals try and_intros
 all_goals first|rfl|trivial|(simp_all [a1i];done)|(simp_all [a1i];omega)
theorem b5o:Ctr.Good a3g:=g1n ⟨b3i,trivial⟩
def a9e:Ctr:=⟨d4b,[.v (.st .sig)],fun (gg:a0h)=>⟨(none,[⟨.bool,a1i gg⟩])⟩⟩
def e9z(gg:a0h):Nat→a0p:=fun _ => .none
theorem h0c(gg:a0h):awp (a0r [a4e] [] [] [1]) (a0j b5b) (e9z gg) 0 (a1c (a0r [a4e] [] [] [1]) b5b fun r=>a1f r [⟨.bool,a1i gg⟩]) (a0m b5b [.val ⟨(.st .sig),gg⟩]) =
 ((a0c gg.tests →
 ((((decide ((0:Int)≤gg.tests∧gg.tests≤(3:Int)))=true) →
 (a0c gg.actions →
 ((decide ((0:Int)≤gg.actions∧gg.actions≤(4:Int)))=(a1i gg))))∧(((decide ((0:Int)≤gg.tests∧gg.tests≤(3:Int)))=(!true)) →
 false=(a1i gg))))):=by kernel_rfl
theorem g9d(hE:a0o [a4e]):Ctr.Good a9e:=by
 refine⟨a0l e3m rfl (by decide),?_⟩
 show ∀ (gg:a0h),True→a1e prog d4b [.val ⟨(.st .sig),gg⟩] (·=[⟨.bool,a1i gg⟩])
 intro gg _
 refine a0w (wr:=[]) (cl:=[]) (ro:=[1]) hE e3m g0n (e9z gg) ?_
 rewrite [h0c gg]
 refine fun a0=>⟨fun a1=>fun a2=>?_,fun a1=>?_⟩
 all_goals try and_intros
 all_goals first|rfl|trivial|(simp_all [a1i];done)|(simp_all [a1i];omega)
theorem d7u:Ctr.Good a9e:=g9d ⟨c1c,trivial⟩
end
end Go.Proofs.YthebhlkdppmefaaGreat

set_option linter.unusedVariables false
set_option linter.unusedSimpArgs false
set_option linter.unusedSectionVars false
set_option maxRecDepth 4000
set_option maxHeartbeats 4000000
namespace Go.Proofs.YthebhlkdppmefaaGreat
noncomputable section
def e7x(t a:Int)(x:a0b):Bool:=if x.kind=3 then decide (0≤x.num∧x.num≤t) else if x.kind=4 then decide (0≤x.num∧x.num≤a) else decide (x.num=0)
theorem g1e(t a:Int)(x:a0b):b7a t a x=(decide (a2t x.kind=(x.kids.length:Int))&&e7x t a x&&(!decide (x.kind=5)||a1l (x.kids.getD 0 ⟨0,0,[]⟩))):=rfl
theorem d3g(gg:a0h)(x:a0b)(nodes depth:Int) :
  (a1q (a0t gg.tests) (a0t gg.actions) x=true∧(a1d x:Int)≤nodes∧(a1n x:Int)≤depth∧shB gg x nodes depth=true∧shN gg x nodes depth=nodes - a1d x) ∨
  ((a1q (a0t gg.tests) (a0t gg.actions) x=false∨nodes<(a1d x:Int)∨depth<(a1n x:Int))∧shB gg x nodes depth=false∧shN gg x nodes depth=0):=by
 unfold shN shB
 cases a1q (a0t gg.tests) (a0t gg.actions) x
 ·right;simp
 ·rcases Int.lt_or_le nodes (a1d x) with h|h
  ·right;simp[h,Int.not_le.2 h]
  ·rcases Int.lt_or_le depth (a1n x) with h'|h'
   ·right;simp[h',Int.not_le.2 h']
   ·left;simp[h,h']
def b8k(n:Nat):Ctr:=⟨c5p,[.v (.st .sig), .v (.st .expr), .v (.int .i64), .v (.int .i64)],fun (gg:a0h) (x:a0b) (nodes:Int) (depth:Int)=>⟨(some (msz x<n∧0≤nodes∧nodes≤1048576∧0≤depth∧depth≤1048576),[⟨(.int .i64),shN gg x nodes depth⟩,⟨.bool,shB gg x nodes depth⟩])⟩⟩
def c5o:Ctr:=⟨c5p,[.v (.st .sig), .v (.st .expr), .v (.int .i64), .v (.int .i64)],fun (gg:a0h) (x:a0b) (nodes:Int) (depth:Int)=>⟨(some (0≤nodes∧nodes≤1048576∧0≤depth∧depth≤1048576),[⟨(.int .i64),shN gg x nodes depth⟩,⟨.bool,shB gg x nodes depth⟩])⟩⟩
def e9t(gg:a0h)(x:a0b)(nodes:Int)(depth:Int):Nat→a0p:=(fun zb=>if Nat.beq zb 100012 then .mk (Unit) (fun u=>a2t x.kind=(x.kids.length:Int)∧1≤nodes∧1≤depth∧e7x (a0t gg.tests) (a0t gg.actions) x=true) (fun u=>0) [] [0,1,6,7,10,14,15,16,17,18,19,20,21,22,23,24,25,26,27,28,29,30,31,32,33,34,35,36,37,38,39,40,41,42,43,44,45,46,47,48,49,50,51] (fun u=>[]) [2,3,4,5,8,9,11,12,13,52,53,54,55,56,57,58,59,60,61,62,63,64,65,66,67,68,69,70,71,72,73,74,75,76,77,78,79,80,81,82,83,84,85] (fun u=>[]) [] [] (fun u=>(fun zb=>if Nat.beq zb 100014 then .mk (Unit) (fun u=>b7a (a0t gg.tests) (a0t gg.actions) x=true∧1≤nodes∧1≤depth) (fun u=>0) [] [0,1,6,7,10,14,15,16,17,18,19,20,21,22,23,24,25,26,27,28,29,30,31,32,33,34,35,36,37,38,39,40,41,42,43,44,45,46,47,48,49,50,51,52,53,54,55,56,57,58,59,60,61,62] (fun u=>[]) [2,3,4,5,8,9,11,12,13,63,64,65,66,67,68,69,70,71,72,73,74,75,76,77,78,79,80,81,82,83,84,85] (fun u=>[]) [] [] (fun u=>(fun zb=>if Nat.beq zb 1 then .mk (Nat) (fun k=>k≤x.kids.length∧a0v (a1q (a0t gg.tests) (a0t gg.actions)) (x.kids.take k)=true∧1+(szL a1d (x.kids.take k):Int)≤nodes∧1+(a4g a1n (x.kids.take k):Int)≤depth) (fun k=>x.kids.length - k) [] [0,1,5,6,7,10,14,15,16,17,18,19,20,21,22,23,24,25,26,27,28,29,30,31,32,33,34,35,36,37,38,39,40,41,42,43,44,45,46,47,48,49,50,51,52,53,54,55,56,57,58,59,60,61,62,63,64,65] (fun k=>[(68, .imm ⟨(.int .i64),((k:Int):Int)⟩),(2, .imm ⟨(.int .i64),(nodes - (1+(szL a1d (x.kids.take k):Int)):Int)⟩)]) [2,3,4,8,9,11,12,13,66,67,68,69,70,71,72,73,74,75,76,77,78,79,80,81,82,83,84,85] (fun k=>[]) [] [] (fun k=>fun _ => .none) else .none)) else .none)) else .none)
abbrev c8e(gg:a0h)(x:a0b)(nodes:Int)(depth:Int):Prop:=(∃ u1:Unit,((a2t x.kind=(x.kids.length:Int)∧1≤nodes∧1≤depth∧e7x (a0t gg.tests) (a0t gg.actions) x=true)∧((nodes=nodes∧(depth=depth∧(gg=gg∧(x=x∧True))))∧True)))
abbrev e0r(gg:a0h)(x:a0b)(nodes:Int)(depth:Int):Prop:=(∃ u2:Unit,((b7a (a0t gg.tests) (a0t gg.actions) x=true∧1≤nodes∧1≤depth)∧((nodes=nodes∧(depth=depth∧(gg=gg∧(x=x∧True))))∧True)))
abbrev e0s(n:Nat)(gg:a0h)(x:a0b)(nodes:Int)(depth:Int):Prop:=((a0c x.kind →
 (((decide (x.kind=(3:Int)))=true →
 (a0c x.num →
 (a0c gg.tests →
 ((((!(decide ((0:Int)≤x.num∧x.num≤(IntKind.wrap .i64 (gg.tests - (1:Int))))))=true) →
 ((0:Int)=(shN gg x nodes depth)∧false=(shB gg x nodes depth)))∧(((!(decide ((0:Int)≤x.num∧x.num≤(IntKind.wrap .i64 (gg.tests - (1:Int))))))=false) →
 (c8e gg x nodes depth))))))∧((decide (x.kind=(3:Int)))=false →
 (((decide (x.kind=(4:Int)))=true →
 (a0c x.num →
 (a0c gg.actions →
 ((((!(decide ((0:Int)≤x.num∧x.num≤(IntKind.wrap .i64 (gg.actions - (1:Int))))))=true) →
 ((0:Int)=(shN gg x nodes depth)∧false=(shB gg x nodes depth)))∧(((!(decide ((0:Int)≤x.num∧x.num≤(IntKind.wrap .i64 (gg.actions - (1:Int))))))=false) →
 (c8e gg x nodes depth))))))∧((decide (x.kind=(4:Int)))=false →
 (a0c x.num →
 (((!(decide (x.num=(0:Int))))=true →
 ((0:Int)=(shN gg x nodes depth)∧false=(shB gg x nodes depth)))∧((!(decide (x.num=(0:Int))))=false →
 (c8e gg x nodes depth)))))))))∧(∀ u1:Unit,((a2t x.kind=(x.kids.length:Int)∧1≤nodes∧1≤depth∧e7x (a0t gg.tests) (a0t gg.actions) x=true) →
 ((a0c x.kind →
 (((decide (x.kind=(5:Int)))=true →
 (x.kids.length≤140737488355328 →
 (a0k (0:Int) x.kids.length∧(((!(a1l (x.kids.getD 0 zE)))=true →
 ((0:Int)=(shN gg x nodes depth)∧false=(shB gg x nodes depth)))∧((!(a1l (x.kids.getD 0 zE)))=false →
 (e0r gg x nodes depth))))))∧((decide (x.kind=(5:Int)))=(!true) →
 ((false=true →
 ((0:Int)=(shN gg x nodes depth)∧false=(shB gg x nodes depth)))∧(false=false →
 (e0r gg x nodes depth))))))∧(∀ u2:Unit,((b7a (a0t gg.tests) (a0t gg.actions) x=true∧1≤nodes∧1≤depth) →
 (a0c (nodes - (1:Int))∧(x.kids.length≤140737488355328 →
 (a0c ((x.kids.length:Int)) →
 ((∃ k3:Nat,((k3≤x.kids.length∧a0v (a1q (a0t gg.tests) (a0t gg.actions)) (x.kids.take k3)=true∧1+(szL a1d (x.kids.take k3):Int)≤nodes∧1+(a4g a1n (x.kids.take k3):Int)≤depth)∧(((nodes - (1:Int))=(nodes - (1+(szL a1d (x.kids.take k3):Int)))∧(depth=depth∧(gg=gg∧(x.kids=x.kids∧(((x.kids.length:Int))=((x.kids.length:Int))∧((0:Int)=(k3:Int)∧True))))))∧True)))∧(∀ k3:Nat,((k3≤x.kids.length∧a0v (a1q (a0t gg.tests) (a0t gg.actions)) (x.kids.take k3)=true∧1+(szL a1d (x.kids.take k3):Int)≤nodes∧1+(a4g a1n (x.kids.take k3):Int)≤depth) →
 (((decide ((k3:Int)<((x.kids.length:Int))))=true →
 (a0k (k3:Int) x.kids.length∧(a0c (depth - (1:Int))∧((msz (a0n (x.kids.getD k3 zE))<n∧0≤(nodes - (1+(szL a1d (x.kids.take k3):Int)))∧(nodes - (1+(szL a1d (x.kids.take k3):Int)))≤1048576∧0≤(depth - (1:Int))∧(depth - (1:Int))≤1048576)∧(a0c (shN gg (a0n (x.kids.getD k3 zE)) (nodes - (1+(szL a1d (x.kids.take k3):Int))) (depth - (1:Int))) →
 (((!(shB gg (a0n (x.kids.getD k3 zE)) (nodes - (1+(szL a1d (x.kids.take k3):Int))) (depth - (1:Int))))=true →
 ((0:Int)=(shN gg x nodes depth)∧false=(shB gg x nodes depth)))∧((!(shB gg (a0n (x.kids.getD k3 zE)) (nodes - (1+(szL a1d (x.kids.take k3):Int))) (depth - (1:Int))))=false →
 (a0c ((k3:Int)+(1:Int))∧(∃ k4:Nat,((k4≤x.kids.length∧a0v (a1q (a0t gg.tests) (a0t gg.actions)) (x.kids.take k4)=true∧1+(szL a1d (x.kids.take k4):Int)≤nodes∧1+(a4g a1n (x.kids.take k4):Int)≤depth)∧(x.kids.length - k4<x.kids.length - k3∧(((shN gg (a0n (x.kids.getD k3 zE)) (nodes - (1+(szL a1d (x.kids.take k3):Int))) (depth - (1:Int)))=(nodes - (1+(szL a1d (x.kids.take k4):Int)))∧(depth=depth∧(gg=gg∧(x.kids=x.kids∧(((x.kids.length:Int))=((x.kids.length:Int))∧(((k3:Int)+(1:Int))=(k4:Int)∧True))))))∧True))))))))))))∧((decide ((k3:Int)<((x.kids.length:Int))))=false →
 ((nodes - (1+(szL a1d (x.kids.take k3):Int)))=(shN gg x nodes depth)∧true=(shB gg x nodes depth))))))))))))))))
abbrev e0t(n:Nat)(gg:a0h)(x:a0b)(nodes:Int)(depth:Int):Prop:=(a0c x.kind →
 (a0c (a2t x.kind) →
 (x.kids.length≤140737488355328 →
 (a0c ((x.kids.length:Int)) →
 (((!(decide ((a2t x.kind)=((x.kids.length:Int)))))=true →
 ((0:Int)=(shN gg x nodes depth)∧false=(shB gg x nodes depth)))∧((!(decide ((a2t x.kind)=((x.kids.length:Int)))))=false →
 (e0s n gg x nodes depth)))))))
abbrev e0u(n:Nat)(gg:a0h)(x:a0b)(nodes:Int)(depth:Int):Prop:=((true=true →
 ((0:Int)=(shN gg x nodes depth)∧false=(shB gg x nodes depth)))∧(true=false →
 (e0s n gg x nodes depth)))
theorem g9w(n:Nat)(gg:a0h)(x:a0b)(nodes:Int)(depth:Int):awp (a0r [b8k n,b9w,a3b,a3v] [40,49] [] [4,5]) (a0j b4u) (e9t gg x nodes depth) 0 (a1c (a0r [b8k n,b9w,a3b,a3v] [40,49] [] [4,5]) b4u fun r=>a1f r [⟨(.int .i64),shN gg x nodes depth⟩,⟨.bool,shB gg x nodes depth⟩]) (a0m b4u [.val ⟨(.st .sig),gg⟩, .val ⟨(.st .expr),x⟩, .val ⟨(.int .i64),nodes⟩, .val ⟨(.int .i64),depth⟩]) =
 ((((decide (nodes=(0:Int)))=false →
 (((decide (depth=(0:Int)))=false →
 (e0t n gg x nodes depth))∧((decide (depth=(0:Int)))=(!false) →
 (e0u n gg x nodes depth))))∧((decide (nodes=(0:Int)))=(!false) →
 ((true=false →
 (e0t n gg x nodes depth))∧(true=(!false) →
 (e0u n gg x nodes depth)))))):=by kernel_rfl
theorem g8x(n:Nat)(hE:a0o [b8k n,b9w,a3b,a3v]):Ctr.Good (b8k (n+1)):=by
 refine⟨a0l c2y rfl (by decide),?_⟩
 show ∀ (gg:a0h) (x:a0b) (nodes:Int) (depth:Int),(msz x<n+1∧0≤nodes∧nodes≤1048576∧0≤depth∧depth≤1048576)→a1e prog c5p [.val ⟨(.st .sig),gg⟩, .val ⟨(.st .expr),x⟩, .val ⟨(.int .i64),nodes⟩, .val ⟨(.int .i64),depth⟩] (·=[⟨(.int .i64),shN gg x nodes depth⟩,⟨.bool,shB gg x nodes depth⟩])
 intro gg x nodes depth hp
 refine a0w (wr:=[40,49]) (cl:=[]) (ro:=[4,5]) hE c2y g0g (e9t gg x nodes depth) ?_
 rewrite [g9w n gg x nodes depth]
 have fs:=d3g gg x nodes depth
 rw[e8p _ _ x,h1h x,f2n x] at fs
 have f0:=c2e x
 have f1:=e8m a1d x.kids
 have f2:=e1s a1n x.kids
 have f3:=a8h (a1q (a0t gg.tests) (a0t gg.actions)) x.kids
 refine⟨fun a0=>⟨fun a1=>fun a2=>fun a3=>fun a4=>fun a5=>⟨fun a6=>⟨?_,?_⟩,fun a6=>⟨fun a7=>⟨fun a8=>fun a9=>fun a10=>⟨fun a11=>⟨?_,?_⟩,fun a11=>⟨(),⟨?_,⟨⟨rfl,⟨rfl,⟨rfl,⟨rfl,trivial⟩⟩⟩⟩,trivial⟩⟩⟩⟩,fun a8=>⟨fun a9=>fun a10=>fun a11=>⟨fun a12=>⟨?_,?_⟩,fun a12=>⟨(),⟨?_,⟨⟨rfl,⟨rfl,⟨rfl,⟨rfl,trivial⟩⟩⟩⟩,trivial⟩⟩⟩⟩,fun a9=>fun a10=>⟨fun a11=>⟨?_,?_⟩,fun a11=>⟨(),⟨?_,⟨⟨rfl,⟨rfl,⟨rfl,⟨rfl,trivial⟩⟩⟩⟩,trivial⟩⟩⟩⟩⟩⟩,fun u1=>fun a7=>⟨fun a8=>⟨fun a9=>fun a10=>⟨?_,⟨fun a11=>⟨?_,?_⟩,fun a11=>⟨(),⟨?_,⟨⟨rfl,⟨rfl,⟨rfl,⟨rfl,trivial⟩⟩⟩⟩,trivial⟩⟩⟩⟩⟩,fun a9=>⟨fun a10=>⟨?_,?_⟩,fun a10=>⟨(),⟨?_,⟨⟨rfl,⟨rfl,⟨rfl,⟨rfl,trivial⟩⟩⟩⟩,trivial⟩⟩⟩⟩⟩,fun u2=>fun a8=>⟨?_,fun a9=>fun a10=>⟨⟨0,⟨?_,⟨⟨?_,⟨rfl,⟨rfl,⟨rfl,⟨rfl,⟨?_,trivial⟩⟩⟩⟩⟩⟩,trivial⟩⟩⟩,fun k3 a11=>have b11x0:=a3h (a1q (a0t gg.tests) (a0t gg.actions)) zE x.kids k3;have b11x1:=a4c (a1q (a0t gg.tests) (a0t gg.actions)) zE x.kids k3;have b11x2:=a3l (a1q (a0t gg.tests) (a0t gg.actions)) x.kids k3;have b11x3:=a3d zE x.kids k3;have b11x4:=c2t a1d zE x.kids k3;have b11x5:=a8g a1d x.kids (k3+1);have b11x6:=d1q a1d x.kids k3;have b11x7:=b8w a1n zE x.kids k3;have b11x8:=a6z a1n x.kids (k3+1);have b11x9:=c5z a1n x.kids k3;have b11x10:=d3g gg (x.kids.getD k3 zE) (nodes - (1+(szL a1d (x.kids.take k3):Int))) (depth - 1);⟨fun a12=>⟨?_,⟨?_,⟨?_,fun a13=>⟨fun a14=>⟨?_,?_⟩,fun a14=>⟨?_,⟨k3+1,⟨?_,⟨?_,⟨⟨?_,⟨rfl,⟨rfl,⟨rfl,⟨rfl,⟨?_,trivial⟩⟩⟩⟩⟩⟩,trivial⟩⟩⟩⟩⟩⟩⟩⟩⟩,fun a12=>⟨?_,?_⟩⟩⟩⟩⟩⟩⟩,fun a1=>⟨fun a2=>⟨?_,?_⟩,fun a2=>⟨fun a3=>⟨fun a4=>fun a5=>fun a6=>⟨fun a7=>⟨?_,?_⟩,fun a7=>⟨(),⟨?_,⟨⟨rfl,⟨rfl,⟨rfl,⟨rfl,trivial⟩⟩⟩⟩,trivial⟩⟩⟩⟩,fun a4=>⟨fun a5=>fun a6=>fun a7=>⟨fun a8=>⟨?_,?_⟩,fun a8=>⟨(),⟨?_,⟨⟨rfl,⟨rfl,⟨rfl,⟨rfl,trivial⟩⟩⟩⟩,trivial⟩⟩⟩⟩,fun a5=>fun a6=>⟨fun a7=>⟨?_,?_⟩,fun a7=>⟨(),⟨?_,⟨⟨rfl,⟨rfl,⟨rfl,⟨rfl,trivial⟩⟩⟩⟩,trivial⟩⟩⟩⟩⟩⟩,fun u1=>fun a3=>⟨fun a4=>⟨fun a5=>fun a6=>⟨?_,⟨fun a7=>⟨?_,?_⟩,fun a7=>⟨(),⟨?_,⟨⟨rfl,⟨rfl,⟨rfl,⟨rfl,trivial⟩⟩⟩⟩,trivial⟩⟩⟩⟩⟩,fun a5=>⟨fun a6=>⟨?_,?_⟩,fun a6=>⟨(),⟨?_,⟨⟨rfl,⟨rfl,⟨rfl,⟨rfl,trivial⟩⟩⟩⟩,trivial⟩⟩⟩⟩⟩,fun u2=>fun a4=>⟨?_,fun a5=>fun a6=>⟨⟨0,⟨?_,⟨⟨?_,⟨rfl,⟨rfl,⟨rfl,⟨rfl,⟨?_,trivial⟩⟩⟩⟩⟩⟩,trivial⟩⟩⟩,fun k3 a7=>have b7x0:=a3h (a1q (a0t gg.tests) (a0t gg.actions)) zE x.kids k3;have b7x1:=a4c (a1q (a0t gg.tests) (a0t gg.actions)) zE x.kids k3;have b7x2:=a3l (a1q (a0t gg.tests) (a0t gg.actions)) x.kids k3;have b7x3:=a3d zE x.kids k3;have b7x4:=c2t a1d zE x.kids k3;have b7x5:=a8g a1d x.kids (k3+1);have b7x6:=d1q a1d x.kids k3;have b7x7:=b8w a1n zE x.kids k3;have b7x8:=a6z a1n x.kids (k3+1);have b7x9:=c5z a1n x.kids k3;have b7x10:=d3g gg (x.kids.getD k3 zE) (nodes - (1+(szL a1d (x.kids.take k3):Int))) (depth - 1);⟨fun a8=>⟨?_,⟨?_,⟨?_,fun a9=>⟨fun a10=>⟨?_,?_⟩,fun a10=>⟨?_,⟨k3+1,⟨?_,⟨?_,⟨⟨?_,⟨rfl,⟨rfl,⟨rfl,⟨rfl,⟨?_,trivial⟩⟩⟩⟩⟩⟩,trivial⟩⟩⟩⟩⟩⟩⟩⟩⟩,fun a8=>⟨?_,?_⟩⟩⟩⟩⟩⟩⟩⟩,fun a0=>⟨fun a1=>fun a2=>fun a3=>fun a4=>fun a5=>⟨fun a6=>⟨?_,?_⟩,fun a6=>⟨fun a7=>⟨fun a8=>fun a9=>fun a10=>⟨fun a11=>⟨?_,?_⟩,fun a11=>⟨(),⟨?_,⟨⟨rfl,⟨rfl,⟨rfl,⟨rfl,trivial⟩⟩⟩⟩,trivial⟩⟩⟩⟩,fun a8=>⟨fun a9=>fun a10=>fun a11=>⟨fun a12=>⟨?_,?_⟩,fun a12=>⟨(),⟨?_,⟨⟨rfl,⟨rfl,⟨rfl,⟨rfl,trivial⟩⟩⟩⟩,trivial⟩⟩⟩⟩,fun a9=>fun a10=>⟨fun a11=>⟨?_,?_⟩,fun a11=>⟨(),⟨?_,⟨⟨rfl,⟨rfl,⟨rfl,⟨rfl,trivial⟩⟩⟩⟩,trivial⟩⟩⟩⟩⟩⟩,fun u1=>fun a7=>⟨fun a8=>⟨fun a9=>fun a10=>⟨?_,⟨fun a11=>⟨?_,?_⟩,fun a11=>⟨(),⟨?_,⟨⟨rfl,⟨rfl,⟨rfl,⟨rfl,trivial⟩⟩⟩⟩,trivial⟩⟩⟩⟩⟩,fun a9=>⟨fun a10=>⟨?_,?_⟩,fun a10=>⟨(),⟨?_,⟨⟨rfl,⟨rfl,⟨rfl,⟨rfl,trivial⟩⟩⟩⟩,trivial⟩⟩⟩⟩⟩,fun u2=>fun a8=>⟨?_,fun a9=>fun a10=>⟨⟨0,⟨?_,⟨⟨?_,⟨rfl,⟨rfl,⟨rfl,⟨rfl,⟨?_,trivial⟩⟩⟩⟩⟩⟩,trivial⟩⟩⟩,fun k3 a11=>have b11x0:=a3h (a1q (a0t gg.tests) (a0t gg.actions)) zE x.kids k3;have b11x1:=a4c (a1q (a0t gg.tests) (a0t gg.actions)) zE x.kids k3;have b11x2:=a3l (a1q (a0t gg.tests) (a0t gg.actions)) x.kids k3;have b11x3:=a3d zE x.kids k3;have b11x4:=c2t a1d zE x.kids k3;have b11x5:=a8g a1d x.kids (k3+1);have b11x6:=d1q a1d x.kids k3;have b11x7:=b8w a1n zE x.kids k3;have b11x8:=a6z a1n x.kids (k3+1);have b11x9:=c5z a1n x.kids k3;have b11x10:=d3g gg (x.kids.getD k3 zE) (nodes - (1+(szL a1d (x.kids.take k3):Int))) (depth - 1);⟨fun a12=>⟨?_,⟨?_,⟨?_,fun a13=>⟨fun a14=>⟨?_,?_⟩,fun a14=>⟨?_,⟨k3+1,⟨?_,⟨?_,⟨⟨?_,⟨rfl,⟨rfl,⟨rfl,⟨rfl,⟨?_,trivial⟩⟩⟩⟩⟩⟩,trivial⟩⟩⟩⟩⟩⟩⟩⟩⟩,fun a12=>⟨?_,?_⟩⟩⟩⟩⟩⟩⟩,fun a1=>⟨fun a2=>⟨?_,?_⟩,fun a2=>⟨fun a3=>⟨fun a4=>fun a5=>fun a6=>⟨fun a7=>⟨?_,?_⟩,fun a7=>⟨(),⟨?_,⟨⟨rfl,⟨rfl,⟨rfl,⟨rfl,trivial⟩⟩⟩⟩,trivial⟩⟩⟩⟩,fun a4=>⟨fun a5=>fun a6=>fun a7=>⟨fun a8=>⟨?_,?_⟩,fun a8=>⟨(),⟨?_,⟨⟨rfl,⟨rfl,⟨rfl,⟨rfl,trivial⟩⟩⟩⟩,trivial⟩⟩⟩⟩,fun a5=>fun a6=>⟨fun a7=>⟨?_,?_⟩,fun a7=>⟨(),⟨?_,⟨⟨rfl,⟨rfl,⟨rfl,⟨rfl,trivial⟩⟩⟩⟩,trivial⟩⟩⟩⟩⟩⟩,fun u1=>fun a3=>⟨fun a4=>⟨fun a5=>fun a6=>⟨?_,⟨fun a7=>⟨?_,?_⟩,fun a7=>⟨(),⟨?_,⟨⟨rfl,⟨rfl,⟨rfl,⟨rfl,trivial⟩⟩⟩⟩,trivial⟩⟩⟩⟩⟩,fun a5=>⟨fun a6=>⟨?_,?_⟩,fun a6=>⟨(),⟨?_,⟨⟨rfl,⟨rfl,⟨rfl,⟨rfl,trivial⟩⟩⟩⟩,trivial⟩⟩⟩⟩⟩,fun u2=>fun a4=>⟨?_,fun a5=>fun a6=>⟨⟨0,⟨?_,⟨⟨?_,⟨rfl,⟨rfl,⟨rfl,⟨rfl,⟨?_,trivial⟩⟩⟩⟩⟩⟩,trivial⟩⟩⟩,fun k3 a7=>have b7x0:=a3h (a1q (a0t gg.tests) (a0t gg.actions)) zE x.kids k3;have b7x1:=a4c (a1q (a0t gg.tests) (a0t gg.actions)) zE x.kids k3;have b7x2:=a3l (a1q (a0t gg.tests) (a0t gg.actions)) x.kids k3;have b7x3:=a3d zE x.kids k3;have b7x4:=c2t a1d zE x.kids k3;have b7x5:=a8g a1d x.kids (k3+1);have b7x6:=d1q a1d x.kids k3;have b7x7:=b8w a1n zE x.kids k3;have b7x8:=a6z a1n x.kids (k3+1);have b7x9:=c5z a1n x.kids k3;have b7x10:=d3g gg (x.kids.getD k3 zE) (nodes - (1+(szL a1d (x.kids.take k3):Int))) (depth - 1);⟨fun a8=>⟨?_,⟨?_,⟨?_,fun a9=>⟨fun a10=>⟨?_,?_⟩,fun a10=>⟨?_,⟨k3+1,⟨?_,⟨?_,⟨⟨?_,⟨rfl,⟨rfl,⟨rfl,⟨rfl,⟨?_,trivial⟩⟩⟩⟩⟩⟩,trivial⟩⟩⟩⟩⟩⟩⟩⟩⟩,fun a8=>⟨?_,?_⟩⟩⟩⟩⟩⟩⟩⟩⟩
 all_goals try and_intros
 all_goals try simp only[a0b.eta,a0d.eta,a1g.eta,a0e.eta,a2u,a2z,a2o,a2f] at *
 all_goals ((try simp only[a0t] at *);generalize IntKind.wrap .i64 (gg.tests - 1)=T at *;generalize IntKind.wrap .i64 (gg.actions - 1)=A at *;first|rfl|trivial|(simp only[decide_eq_true_eq,decide_eq_false_iff_not,a0k,a0c] at *;omega)|(rcases fs with ⟨t1,t2,t3,t4,t5⟩|⟨t1,t4,t5⟩<;>(try rw[t4])<;>(try rw[t5])<;>clear t4 t5<;>simp only[decide_eq_true_eq,decide_eq_false_iff_not,g1e,e7x,Bool.and_eq_true,Bool.and_eq_false_iff,Bool.not_eq_true',Bool.not_eq_false',a0c] at *<;>first|rfl|omega|grind|grind [a2t]))
theorem f1s :∀ n,a0o [b8k n]
 | 0=>⟨⟨a0l c2y rfl (by decide),fun _ _ _ _ h=>absurd h.1 (Nat.not_lt_zero _)⟩,trivial⟩
 | n+1=>by
  have ih:=f1s  n
  exact⟨g8x n ⟨ih.1,g0z,b3i,b7q,trivial⟩,trivial⟩
theorem g1a :Ctr.Good c5o :=
 ⟨a0l c2y rfl (by decide),fun gg x nodes depth hp=>(f1s  (msz x+1)).1.2 gg x nodes depth (⟨Nat.lt_succ_self _,hp⟩)⟩
end
end Go.Proofs.YthebhlkdppmefaaGreat

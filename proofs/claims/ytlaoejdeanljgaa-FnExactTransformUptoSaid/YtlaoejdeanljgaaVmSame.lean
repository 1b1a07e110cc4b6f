/- Expressions and programs that are the same. Printed by vmk.py. -/
import Derived.Test.YtlaoejdeanljgaaVmUse
import Derived.Test.YtlaoejdeanljgaaVmLib
set_option linter.unusedVariables false
set_option linter.unusedSimpArgs false
set_option linter.unusedSectionVars false
set_option maxRecDepth 4000
set_option maxHeartbeats 4000000
namespace Go.Proofs.Ytlaoejdeanljgaa
noncomputable section
def d4h{α:Type}(F:α→α→Prop×Bool)(z:α)(xs ys:List α):Prop:=∀ i,i<xs.length→i<ys.length→(F (xs.getD i z) (ys.getD i z)).1
def a3c{α:Type}(f:α→α→Bool):List α→List α→Bool
 | [],[]=>true
 | x::xs,y::ys=>f x y&&a3c f xs ys
 | _,_=>false
theorem g1t{α:Type}(f:α→α→Bool):∀ xs ys:List α,a3c f xs ys=true→xs.length=ys.length
 | [],[],_=>rfl
 | x::xs,y::ys,h=>by
  simp only[a3c,Bool.and_eq_true] at h
  simp[g1t f xs ys h.2]
 | [],_::_,h=>by cases h
 | _::_,[],h=>by cases h
theorem g4i{α:Type}(f:α→α→Bool)(xs ys:List α)(h:xs.length≠ys.length):a3c f xs ys=false:=by
 cases hb:a3c f xs ys
 ·rfl
 ·exact absurd (g1t f xs ys hb) h
theorem e8x{α:Type}(f:α→α→Bool)(z:α):∀ xs ys:List α,a3c f xs ys=true↔xs.length=ys.length∧∀ i,i<xs.length→f (xs.getD i z) (ys.getD i z)=true
 | [],[]=>by simp[a3c]
 | [],_::_=>by simp[a3c]
 | _::_,[]=>by simp[a3c]
 | x::xs,y::ys=>by
  simp only[a3c,Bool.and_eq_true,e8x f z xs ys,List.length_cons,Nat.add_right_cancel_iff]
  constructor
  ·rintro⟨h1,h2,h3⟩
   refine⟨h2,fun i hi=>?_⟩
   cases i with
   | zero=>simpa using h1
   | succ i=>simpa using h3 i (by omega)
  ·rintro⟨h1,h2⟩
   exact⟨by simpa using h2 0 (by omega),h1,fun i hi=>by simpa using h2 (i+1) (by omega)⟩
theorem g4h{α:Type}(f:α→α→Bool)(z:α)(xs ys:List α)(k:Nat)(h:xs.length=ys.length)(hk:k<xs.length)(hf:f (xs.getD k z) (ys.getD k z)=false):a3c f xs ys=false:=by
 cases hb:a3c f xs ys
 ·rfl
 ·have:=((e8x f z xs ys).1 hb).2 k hk
  rw[this] at hf;cases hf
theorem f9c{α:Type}(f:α→α→Bool)(z:α)(xs ys:List α)(k:Nat)(h:xs.length=ys.length)(hk:xs.length≤k)(ha:a3c f (xs.take k) (ys.take k)=true):a3c f xs ys=true:=by
 rwa [List.take_of_length_le hk,List.take_of_length_le (by omega)] at ha
theorem f9b{α:Type}(f:α→α→Bool)(z:α)(xs ys:List α)(k:Nat)(h1:k<xs.length)(h2:k<ys.length)(ha:a3c f (xs.take k) (ys.take k)=true)(hf:f (xs.getD k z) (ys.getD k z)=true):a3c f (xs.take (k+1)) (ys.take (k+1))=true:=by
 rw[e8x f z] at ha ⊢
 simp only[List.length_take,List.getD_eq_getElem?_getD] at ha hf ⊢
 refine⟨by omega,fun i hi=>?_⟩
 rcases Nat.lt_or_ge i k with hik|hik
 ·have:=ha.2 i (by omega)
  simpa [List.getElem?_take,hik,show i<k+1 by omega] using this
 ·have:i=k:=by omega
  subst this
  simpa [List.getElem?_take] using hf
theorem e8w{α:Type}:∀ xs ys:List α,a3c eqB xs ys=eqB xs ys
 | [],[]=>by simp[a3c]
 | [],_::_=>by simp[a3c,eqB]
 | _::_,[]=>by simp[a3c,eqB]
 | x::xs,y::ys=>by
  rw[a3c,e8w xs ys]
  refine Bool.eq_iff_iff.2 ?_
  simp
theorem g2d(x y:a0c):eqB x y=(decide (x.kind=y.kind)&&decide (x.num=y.num)&&eqB x.kids y.kids):=by
 refine Bool.eq_iff_iff.2 ?_
 cases x;cases y;simp[and_assoc]
theorem g2f(x y:a0a):eqB x y=(decide (x.kind=y.kind)&&decide (x.num=y.num)&&eqB x.cond y.cond&&eqB x.kids y.kids):=by
 refine Bool.eq_iff_iff.2 ?_
 cases x;cases y;simp[and_assoc]
def a5i:Ctr:=⟨b1e,[.v (.slice (.st .expr)), .v (.slice (.st .expr)), .c [(.st .expr),(.st .expr)] .bool],fun (xs:List a0c) (ys:List a0c) (F:a0c→a0c→Prop×Bool)=>⟨(some (d4h F zE xs ys),[⟨.bool,a3c (fun x y=>(F x y).2) xs ys⟩])⟩⟩
def c0u(xs:List a0c)(ys:List a0c)(F:a0c→a0c→Prop×Bool):Nat→a0s:=(fun zb=>if Nat.beq zb 0 then .mk (Nat) (fun k=>k≤xs.length∧xs.length=ys.length∧a3c (fun x y=>(F x y).2) (xs.take k) (ys.take k)=true) (fun k=>xs.length - k) [] [0,3,4,5,10,11,12,13,14] (fun k=>[(17, .imm ⟨(.int .i64),((k:Int):Int)⟩)]) [1,2,6,7,8,9,15,16,17,18,19,20,21,22,23,24,25,26,27,28,29,30,31] (fun k=>[]) [] [] (fun k=>fun _ => .none) else .none)
theorem d2i(xs:List a0c)(ys:List a0c)(F:a0c→a0c→Prop×Bool):awp (a0u []) (a0k a4b) (c0u xs ys F) 0 (a1b (a0u []) a4b fun r=>a1d r [⟨.bool,a3c (fun x y=>(F x y).2) xs ys⟩]) (a0p a4b [.val ⟨(.slice (.st .expr)),xs⟩, .val ⟨(.slice (.st .expr)),ys⟩, .clo ⟨[(.st .expr),(.st .expr)], .bool,F⟩]) =
 ((a0d ((xs.length:Int)) →
 (a0d ((ys.length:Int)) →
 (((!(decide (((xs.length:Int))=((ys.length:Int)))))=true →
 false=(a3c (fun x y=>(F x y).2) xs ys))∧((!(decide (((xs.length:Int))=((ys.length:Int)))))=false →
 (a0d ((xs.length:Int)) →
 ((∃ k1:Nat,((k1≤xs.length∧xs.length=ys.length∧a3c (fun x y=>(F x y).2) (xs.take k1) (ys.take k1)=true)∧((ys=ys∧(F=F∧(xs=xs∧(((xs.length:Int))=((xs.length:Int))∧((0:Int)=(k1:Int)∧True)))))∧True)))∧(∀ k1:Nat,((k1≤xs.length∧xs.length=ys.length∧a3c (fun x y=>(F x y).2) (xs.take k1) (ys.take k1)=true) →
 (((decide ((k1:Int)<((xs.length:Int))))=true →
 (a0g (k1:Int) xs.length∧(a0g (k1:Int) ys.length∧((F (a1g (xs.getD k1 zE)) (a1g (ys.getD k1 zE))).1∧(((!((F (a1g (xs.getD k1 zE)) (a1g (ys.getD k1 zE))).2))=true →
 false=(a3c (fun x y=>(F x y).2) xs ys))∧((!((F (a1g (xs.getD k1 zE)) (a1g (ys.getD k1 zE))).2))=false →
 (a0d ((k1:Int)+(1:Int))∧(∃ k2:Nat,((k2≤xs.length∧xs.length=ys.length∧a3c (fun x y=>(F x y).2) (xs.take k2) (ys.take k2)=true)∧(xs.length - k2<xs.length - k1∧((ys=ys∧(F=F∧(xs=xs∧(((xs.length:Int))=((xs.length:Int))∧(((k1:Int)+(1:Int))=(k2:Int)∧True)))))∧True)))))))))))∧((decide ((k1:Int)<((xs.length:Int))))=false →
 true=(a3c (fun x y=>(F x y).2) xs ys)))))))))))):=by kernel_rfl
theorem d2a(hE:a0m []):Ctr.Good a5i:=by
 refine⟨a0j b8y rfl (by decide),?_⟩
 show ∀ (xs:List a0c) (ys:List a0c) (F:a0c→a0c→Prop×Bool),(d4h F zE xs ys)→a0z prog b1e [.val ⟨(.slice (.st .expr)),xs⟩, .val ⟨(.slice (.st .expr)),ys⟩, .clo ⟨[(.st .expr),(.st .expr)], .bool,F⟩] (·=[⟨.bool,a3c (fun x y=>(F x y).2) xs ys⟩])
 intro xs ys F hp
 refine a0x (wr:=[]) (cl:=[]) (ro:=[]) hE b8y c7d (c0u xs ys F) ?_
 rewrite [d2i xs ys F]
 have f0:=g4i (fun x y=>(F x y).2) xs ys
 refine fun a0=>fun a1=>⟨fun a2=>?_,fun a2=>fun a3=>⟨⟨0,⟨?_,⟨⟨rfl,⟨rfl,⟨rfl,⟨rfl,⟨?_,trivial⟩⟩⟩⟩⟩,trivial⟩⟩⟩,fun k1 a4=>have b4x0:=hp k1;have b4x1:=g4h (fun x y=>(F x y).2) zE xs ys k1;have b4x2:=f9c (fun x y=>(F x y).2) zE xs ys k1;have b4x3:=f9b (fun x y=>(F x y).2) zE xs ys k1;⟨fun a5=>⟨?_,⟨?_,⟨?_,⟨fun a6=>?_,fun a6=>⟨?_,⟨k1+1,⟨?_,⟨?_,⟨⟨rfl,⟨rfl,⟨rfl,⟨rfl,⟨?_,trivial⟩⟩⟩⟩⟩,trivial⟩⟩⟩⟩⟩⟩⟩⟩⟩,fun a5=>?_⟩⟩⟩
 all_goals try and_intros
 all_goals try simp only[a0c.eta,a0a.eta,a1y,a2a] at *
 all_goals first|rfl|trivial|(simp only[decide_eq_true_eq,decide_eq_false_iff_not,a0g,a0d] at *;first|omega|grind)|(simp[a3c];done)|grind
theorem c7g:Ctr.Good a5i:=d2a trivial
def a5j:Ctr:=⟨b1f,[.v (.slice (.st .prog)), .v (.slice (.st .prog)), .c [(.st .prog),(.st .prog)] .bool],fun (xs:List a0a) (ys:List a0a) (F:a0a→a0a→Prop×Bool)=>⟨(some (d4h F zP xs ys),[⟨.bool,a3c (fun x y=>(F x y).2) xs ys⟩])⟩⟩
def c0v(xs:List a0a)(ys:List a0a)(F:a0a→a0a→Prop×Bool):Nat→a0s:=(fun zb=>if Nat.beq zb 0 then .mk (Nat) (fun k=>k≤xs.length∧xs.length=ys.length∧a3c (fun x y=>(F x y).2) (xs.take k) (ys.take k)=true) (fun k=>xs.length - k) [] [0,3,4,5,10,11,12,13,14] (fun k=>[(17, .imm ⟨(.int .i64),((k:Int):Int)⟩)]) [1,2,6,7,8,9,15,16,17,18,19,20,21,22,23,24,25,26,27,28,29,30,31] (fun k=>[]) [] [] (fun k=>fun _ => .none) else .none)
theorem d2j(xs:List a0a)(ys:List a0a)(F:a0a→a0a→Prop×Bool):awp (a0u []) (a0k a4c) (c0v xs ys F) 0 (a1b (a0u []) a4c fun r=>a1d r [⟨.bool,a3c (fun x y=>(F x y).2) xs ys⟩]) (a0p a4c [.val ⟨(.slice (.st .prog)),xs⟩, .val ⟨(.slice (.st .prog)),ys⟩, .clo ⟨[(.st .prog),(.st .prog)], .bool,F⟩]) =
 ((a0d ((xs.length:Int)) →
 (a0d ((ys.length:Int)) →
 (((!(decide (((xs.length:Int))=((ys.length:Int)))))=true →
 false=(a3c (fun x y=>(F x y).2) xs ys))∧((!(decide (((xs.length:Int))=((ys.length:Int)))))=false →
 (a0d ((xs.length:Int)) →
 ((∃ k1:Nat,((k1≤xs.length∧xs.length=ys.length∧a3c (fun x y=>(F x y).2) (xs.take k1) (ys.take k1)=true)∧((ys=ys∧(F=F∧(xs=xs∧(((xs.length:Int))=((xs.length:Int))∧((0:Int)=(k1:Int)∧True)))))∧True)))∧(∀ k1:Nat,((k1≤xs.length∧xs.length=ys.length∧a3c (fun x y=>(F x y).2) (xs.take k1) (ys.take k1)=true) →
 (((decide ((k1:Int)<((xs.length:Int))))=true →
 (a0g (k1:Int) xs.length∧(a0g (k1:Int) ys.length∧((F (a0b (xs.getD k1 zP)) (a0b (ys.getD k1 zP))).1∧(((!((F (a0b (xs.getD k1 zP)) (a0b (ys.getD k1 zP))).2))=true →
 false=(a3c (fun x y=>(F x y).2) xs ys))∧((!((F (a0b (xs.getD k1 zP)) (a0b (ys.getD k1 zP))).2))=false →
 (a0d ((k1:Int)+(1:Int))∧(∃ k2:Nat,((k2≤xs.length∧xs.length=ys.length∧a3c (fun x y=>(F x y).2) (xs.take k2) (ys.take k2)=true)∧(xs.length - k2<xs.length - k1∧((ys=ys∧(F=F∧(xs=xs∧(((xs.length:Int))=((xs.length:Int))∧(((k1:Int)+(1:Int))=(k2:Int)∧True)))))∧True)))))))))))∧((decide ((k1:Int)<((xs.length:Int))))=false →
 true=(a3c (fun x y=>(F x y).2) xs ys)))))))))))):=by kernel_rfl
theorem d2b(hE:a0m []):Ctr.Good a5j:=by
 refine⟨a0j b8z rfl (by decide),?_⟩
 show ∀ (xs:List a0a) (ys:List a0a) (F:a0a→a0a→Prop×Bool),(d4h F zP xs ys)→a0z prog b1f [.val ⟨(.slice (.st .prog)),xs⟩, .val ⟨(.slice (.st .prog)),ys⟩, .clo ⟨[(.st .prog),(.st .prog)], .bool,F⟩] (·=[⟨.bool,a3c (fun x y=>(F x y).2) xs ys⟩])
 intro xs ys F hp
 refine a0x (wr:=[]) (cl:=[]) (ro:=[]) hE b8z c7e (c0v xs ys F) ?_
 rewrite [d2j xs ys F]
 have f0:=g4i (fun x y=>(F x y).2) xs ys
 refine fun a0=>fun a1=>⟨fun a2=>?_,fun a2=>fun a3=>⟨⟨0,⟨?_,⟨⟨rfl,⟨rfl,⟨rfl,⟨rfl,⟨?_,trivial⟩⟩⟩⟩⟩,trivial⟩⟩⟩,fun k1 a4=>have b4x0:=hp k1;have b4x1:=g4h (fun x y=>(F x y).2) zP xs ys k1;have b4x2:=f9c (fun x y=>(F x y).2) zP xs ys k1;have b4x3:=f9b (fun x y=>(F x y).2) zP xs ys k1;⟨fun a5=>⟨?_,⟨?_,⟨?_,⟨fun a6=>?_,fun a6=>⟨?_,⟨k1+1,⟨?_,⟨?_,⟨⟨rfl,⟨rfl,⟨rfl,⟨rfl,⟨?_,trivial⟩⟩⟩⟩⟩,trivial⟩⟩⟩⟩⟩⟩⟩⟩⟩,fun a5=>?_⟩⟩⟩
 all_goals try and_intros
 all_goals try simp only[a0c.eta,a0a.eta,a1y,a2a] at *
 all_goals first|rfl|trivial|(simp only[decide_eq_true_eq,decide_eq_false_iff_not,a0g,a0d] at *;first|omega|grind)|(simp[a3c];done)|grind
theorem c7h:Ctr.Good a5j:=d2b trivial
def b4g(n:Nat):a0c→a0c→Prop×Bool:=fun (x:a0c) (y:a0c)=>((msz x<n),eqB x y)
def c4k:Nat×c6z:=(b3q,⟨[(.st .expr),(.st .expr)], .bool,[]⟩)
theorem g6o(n:Nat)(xs ys:List a0c)(h:msz xs≤n):d4h (b4g n) zE xs ys:=fun i hi _=>by
 have:=a1i zE xs i hi
 show msz (xs.getD i _)<n
 omega
theorem g6k(n:Nat)(xs ys:List a0c):a3c (fun x y=>(b4g n x y).2) xs ys=eqB xs ys:=e8w xs ys
def b0o(n:Nat):Ctr:=⟨b3q,[.v (.st .expr), .v (.st .expr)],fun (x:a0c) (y:a0c)=>⟨(some (msz x<n),[⟨.bool,eqB x y⟩])⟩⟩
def a3z:Ctr:=⟨b3q,[.v (.st .expr), .v (.st .expr)],fun (x:a0c) (y:a0c)=>⟨(none,[⟨.bool,eqB x y⟩])⟩⟩
def d3c(x:a0c)(y:a0c):Nat→a0s:=fun _ => .none
abbrev c8d(n:Nat)(x:a0c)(y:a0c):Prop:=(x.kids.length≤140737488355328 →
 (y.kids.length≤140737488355328 →
 (d4h (b4g n) zE x.kids y.kids∧(a3c (fun x y=>((b4g n) x y).2) x.kids y.kids)=(eqB x y))))
theorem f1q(n:Nat)(x:a0c)(y:a0c):awp (a0u [b0o n,a5i] [] [c4k] [2,3]) (a0k a8b) (d3c x y) 0 (a1b (a0u [b0o n,a5i] [] [c4k] [2,3]) a8b fun r=>a1d r [⟨.bool,eqB x y⟩]) (a0p a8b [.val ⟨(.st .expr),x⟩, .val ⟨(.st .expr),y⟩]) =
 ((a0d x.kind →
 (a0d y.kind →
 (((decide (x.kind=y.kind))=true →
 (a0d x.num →
 (a0d y.num →
 (((decide (x.num=y.num))=true →
 (c8d n x y))∧((decide (x.num=y.num))=(!true) →
 false=(eqB x y))))))∧((decide (x.kind=y.kind))=(!true) →
 ((false=true →
 (c8d n x y))∧(false=(!true) →
 false=(eqB x y)))))))):=by kernel_rfl
theorem f0w(n:Nat)(hE:a0m [b0o n,a5i]):Ctr.Good (b0o (n+1)):=by
 refine⟨a0j b6b rfl (by decide),?_⟩
 show ∀ (x:a0c) (y:a0c),(msz x<n+1)→a0z prog b3q [.val ⟨(.st .expr),x⟩, .val ⟨(.st .expr),y⟩] (·=[⟨.bool,eqB x y⟩])
 intro x y hp
 refine a0x (wr:=[]) (cl:=[c4k]) (ro:=[2,3]) hE b6b e1n (d3c x y) ?_
 rewrite [f1q n x y]
 have f0:=a5n x
 have f1:=g6o n x.kids y.kids
 have f2:=g6k n x.kids y.kids
 have f3:=g2d x y
 refine fun a0=>fun a1=>⟨fun a2=>fun a3=>fun a4=>⟨fun a5=>fun a6=>fun a7=>⟨?_,?_⟩,fun a5=>?_⟩,fun a2=>⟨fun a3=>fun a4=>fun a5=>⟨?_,?_⟩,fun a3=>?_⟩⟩
 all_goals try and_intros
 all_goals first|rfl|trivial|(simp only[decide_eq_true_eq,decide_eq_false_iff_not,a0g,a0d] at *;first|omega|grind)|grind [d4h]
theorem f2p :∀ n,a0m [b0o n]
 | 0=>⟨⟨a0j b6b rfl (by decide),fun _ _ h=>absurd h (Nat.not_lt_zero _)⟩,trivial⟩
 | n+1=>by
  have ih:=f2p  n
  exact⟨f0w n ⟨ih.1,c7g,trivial⟩,trivial⟩
theorem b9a :Ctr.Good a3z :=
 ⟨a0j b6b rfl (by decide),fun x y hp=>(f2p  (msz x+1)).1.2 x y (Nat.lt_succ_self _)⟩
def b4h(n:Nat):a0a→a0a→Prop×Bool:=fun (x:a0a) (y:a0a)=>((msz x<n),eqB x y)
def c4l:Nat×c6z:=(b3r,⟨[(.st .prog),(.st .prog)], .bool,[]⟩)
theorem g6p(n:Nat)(xs ys:List a0a)(h:msz xs≤n):d4h (b4h n) zP xs ys:=fun i hi _=>by
 have:=a1i zP xs i hi
 show msz (xs.getD i _)<n
 omega
theorem g6l(n:Nat)(xs ys:List a0a):a3c (fun x y=>(b4h n x y).2) xs ys=eqB xs ys:=e8w xs ys
def b0p(n:Nat):Ctr:=⟨b3r,[.v (.st .prog), .v (.st .prog)],fun (x:a0a) (y:a0a)=>⟨(some (msz x<n),[⟨.bool,eqB x y⟩])⟩⟩
def b8l:Ctr:=⟨b3r,[.v (.st .prog), .v (.st .prog)],fun (x:a0a) (y:a0a)=>⟨(none,[⟨.bool,eqB x y⟩])⟩⟩
def d3d(x:a0a)(y:a0a):Nat→a0s:=fun _ => .none
abbrev b4n(n:Nat)(x:a0a)(y:a0a):Prop:=(x.kids.length≤140737488355328 →
 (y.kids.length≤140737488355328 →
 (d4h (b4h n) zP x.kids y.kids∧(a3c (fun x y=>((b4h n) x y).2) x.kids y.kids)=(eqB x y))))
theorem f1r(n:Nat)(x:a0a)(y:a0a):awp (a0u [b0p n,a3z,a5j] [] [c4l] [2,3]) (a0k a8c) (d3d x y) 0 (a1b (a0u [b0p n,a3z,a5j] [] [c4l] [2,3]) a8c fun r=>a1d r [⟨.bool,eqB x y⟩]) (a0p a8c [.val ⟨(.st .prog),x⟩, .val ⟨(.st .prog),y⟩]) =
 ((a0d x.kind →
 (a0d y.kind →
 (((decide (x.kind=y.kind))=true →
 (a0d x.num →
 (a0d y.num →
 (((decide (x.num=y.num))=true →
 (((eqB x.cond y.cond)=true →
 (b4n n x y))∧((eqB x.cond y.cond)=(!true) →
 false=(eqB x y))))∧((decide (x.num=y.num))=(!true) →
 ((false=true →
 (b4n n x y))∧(false=(!true) →
 false=(eqB x y))))))))∧((decide (x.kind=y.kind))=(!true) →
 ((false=true →
 (((eqB x.cond y.cond)=true →
 (b4n n x y))∧((eqB x.cond y.cond)=(!true) →
 false=(eqB x y))))∧(false=(!true) →
 ((false=true →
 (b4n n x y))∧(false=(!true) →
 false=(eqB x y)))))))))):=by kernel_rfl
theorem f0x(n:Nat)(hE:a0m [b0p n,a3z,a5j]):Ctr.Good (b0p (n+1)):=by
 refine⟨a0j b6c rfl (by decide),?_⟩
 show ∀ (x:a0a) (y:a0a),(msz x<n+1)→a0z prog b3r [.val ⟨(.st .prog),x⟩, .val ⟨(.st .prog),y⟩] (·=[⟨.bool,eqB x y⟩])
 intro x y hp
 refine a0x (wr:=[]) (cl:=[c4l]) (ro:=[2,3]) hE b6c e1o (d3d x y) ?_
 rewrite [f1r n x y]
 have f0:=a5q x
 have f1:=g6p n x.kids y.kids
 have f2:=g6l n x.kids y.kids
 have f3:=g2f x y
 refine fun a0=>fun a1=>⟨fun a2=>fun a3=>fun a4=>⟨fun a5=>⟨fun a6=>fun a7=>fun a8=>⟨?_,?_⟩,fun a6=>?_⟩,fun a5=>⟨fun a6=>fun a7=>fun a8=>⟨?_,?_⟩,fun a6=>?_⟩⟩,fun a2=>⟨fun a3=>⟨fun a4=>fun a5=>fun a6=>⟨?_,?_⟩,fun a4=>?_⟩,fun a3=>⟨fun a4=>fun a5=>fun a6=>⟨?_,?_⟩,fun a4=>?_⟩⟩⟩
 all_goals try and_intros
 all_goals first|rfl|trivial|(simp only[decide_eq_true_eq,decide_eq_false_iff_not,a0g,a0d] at *;first|omega|grind)|grind [d4h]
theorem f2q :∀ n,a0m [b0p n]
 | 0=>⟨⟨a0j b6c rfl (by decide),fun _ _ h=>absurd h (Nat.not_lt_zero _)⟩,trivial⟩
 | n+1=>by
  have ih:=f2q  n
  exact⟨f0x n ⟨ih.1,b9a,c7h,trivial⟩,trivial⟩
theorem e2u :Ctr.Good b8l :=
 ⟨a0j b6c rfl (by decide),fun x y hp=>(f2q  (msz x+1)).1.2 x y (Nat.lt_succ_self _)⟩
def b3d(n:Nat):Ctr:=⟨c0i,[.r (.st .expr), .r (.st .expr)],fun (x:a0c) (y:a0c)=>⟨(some (msz x<n),[⟨.bool,eqB x y⟩])⟩⟩
def a3b:Ctr:=⟨c0i,[.r (.st .expr), .r (.st .expr)],fun (x:a0c) (y:a0c)=>⟨(none,[⟨.bool,eqB x y⟩])⟩⟩
def d6g(x:a0c)(y:a0c):Nat→a0s:=(fun zb=>if Nat.beq zb 0 then .mk (Nat) (fun k=>k≤x.kids.length∧x.kids.length=y.kids.length∧x.kids.take k=y.kids.take k∧x.kind=y.kind∧x.num=y.num) (fun k=>x.kids.length - k) [] [2,3,6,7,8,9,10,11,12,13,14,15,16,17,18,19,20,21,22,23,24,25,26,27,28,29,30,31,32,33,34,35,36,37,38] (fun k=>[(5, .imm ⟨(.int .i64),((k:Int):Int)⟩)]) [0,1,4,5,39,40,41,42,43,44,45,46,47,48,49,50,51,52,53,54,55,56,57,58,59,60,61] (fun k=>[]) [] [] (fun k=>fun _ => .none) else .none)
abbrev c2k(n:Nat)(x:a0c)(y:a0c):Prop:=((∃ k1:Nat,((k1≤x.kids.length∧x.kids.length=y.kids.length∧x.kids.take k1=y.kids.take k1∧x.kind=y.kind∧x.num=y.num)∧((x=x∧(y=y∧((0:Int)=(k1:Int)∧True)))∧True)))∧(∀ k1:Nat,((k1≤x.kids.length∧x.kids.length=y.kids.length∧x.kids.take k1=y.kids.take k1∧x.kind=y.kind∧x.num=y.num) →
 (x.kids.length≤140737488355328 →
 (a0d ((x.kids.length:Int)) →
 (((decide ((k1:Int)<((x.kids.length:Int))))=true →
 (a0g (k1:Int) x.kids.length∧(a0g (k1:Int) y.kids.length∧(x.kids.length≤140737488355328 →
 (y.kids.length≤140737488355328 →
 (msz (x.kids.getD k1 zE)<n∧(((!(eqB (x.kids.getD k1 zE) (y.kids.getD k1 zE)))=true →
 false=(eqB x y))∧((!(eqB (x.kids.getD k1 zE) (y.kids.getD k1 zE)))=false →
 (a0d ((k1:Int)+(1:Int))∧(∃ k2:Nat,((k2≤x.kids.length∧x.kids.length=y.kids.length∧x.kids.take k2=y.kids.take k2∧x.kind=y.kind∧x.num=y.num)∧(x.kids.length - k2<x.kids.length - k1∧((x=x∧(y=y∧(((k1:Int)+(1:Int))=(k2:Int)∧True)))∧True)))))))))))))∧((decide ((k1:Int)<((x.kids.length:Int))))=false →
 true=(eqB x y))))))))
abbrev d0z(n:Nat)(x:a0c)(y:a0c):Prop:=(x.kids.length≤140737488355328 →
 (a0d ((x.kids.length:Int)) →
 (y.kids.length≤140737488355328 →
 (a0d ((y.kids.length:Int)) →
 (((!(decide (((x.kids.length:Int))=((y.kids.length:Int)))))=true →
 false=(eqB x y))∧((!(decide (((x.kids.length:Int))=((y.kids.length:Int)))))=false →
 (c2k n x y)))))))
theorem f6d(n:Nat)(x:a0c)(y:a0c):awp (a0u [b3d n]) (a0k a9v) (d6g x y) 0 (a1b (a0u [b3d n]) a9v fun r=>a1d r [⟨.bool,eqB x y⟩]) (a0p a9v [.ref ⟨(.st .expr),x⟩, .ref ⟨(.st .expr),y⟩]) =
 ((((!(decide (x.kind=y.kind)))=false →
 (((!(decide (x.num=y.num)))=false →
 (a0d x.kind →
 (a0d y.kind →
 (a0d x.num →
 (a0d y.num →
 (d0z n x y))))))∧((!(decide (x.num=y.num)))=(!false) →
 (a0d x.kind →
 (a0d y.kind →
 (a0d x.num →
 (a0d y.num →
 ((true=true →
 false=(eqB x y))∧(true=false →
 (c2k n x y))))))))))∧((!(decide (x.kind=y.kind)))=(!false) →
 ((true=false →
 (a0d x.kind →
 (a0d y.kind →
 (d0z n x y))))∧(true=(!false) →
 (a0d x.kind →
 (a0d y.kind →
 ((true=true →
 false=(eqB x y))∧(true=false →
 (c2k n x y)))))))))):=by kernel_rfl
theorem f4v(n:Nat)(hE:a0m [b3d n]):Ctr.Good (b3d (n+1)):=by
 refine⟨a0j b7x rfl (by decide),?_⟩
 show ∀ (x:a0c) (y:a0c),(msz x<n+1)→a0z prog c0i [.ref ⟨(.st .expr),x⟩, .ref ⟨(.st .expr),y⟩] (·=[⟨.bool,eqB x y⟩])
 intro x y hp
 refine a0x (wr:=[]) (cl:=[]) (ro:=[]) hE b7x e5v (d6g x y) ?_
 rewrite [f6d n x y]
 have f0:=a5n x
 have f3:=g2d x y
 refine⟨fun a0=>⟨fun a1=>fun a2=>fun a3=>fun a4=>fun a5=>fun a6=>fun a7=>fun a8=>fun a9=>⟨fun a10=>?_,fun a10=>⟨⟨0,⟨?_,⟨⟨rfl,⟨rfl,⟨?_,trivial⟩⟩⟩,trivial⟩⟩⟩,fun k1 a11=>have b11x0:=a3u zE x.kids y.kids k1;have b11x1:=a2n x.kids y.kids k1;have b11x2:=a1i zE x.kids k1;fun a12=>fun a13=>⟨fun a14=>⟨?_,⟨?_,fun a15=>fun a16=>⟨?_,⟨fun a17=>?_,fun a17=>⟨?_,⟨k1+1,⟨?_,⟨?_,⟨⟨rfl,⟨rfl,⟨?_,trivial⟩⟩⟩,trivial⟩⟩⟩⟩⟩⟩⟩⟩⟩,fun a14=>?_⟩⟩⟩,fun a1=>fun a2=>fun a3=>fun a4=>fun a5=>⟨fun a6=>?_,fun a6=>⟨⟨0,⟨?_,⟨⟨rfl,⟨rfl,⟨?_,trivial⟩⟩⟩,trivial⟩⟩⟩,fun k1 a7=>have b7x0:=a3u zE x.kids y.kids k1;have b7x1:=a2n x.kids y.kids k1;have b7x2:=a1i zE x.kids k1;fun a8=>fun a9=>⟨fun a10=>⟨?_,⟨?_,fun a11=>fun a12=>⟨?_,⟨fun a13=>?_,fun a13=>⟨?_,⟨k1+1,⟨?_,⟨?_,⟨⟨rfl,⟨rfl,⟨?_,trivial⟩⟩⟩,trivial⟩⟩⟩⟩⟩⟩⟩⟩⟩,fun a10=>?_⟩⟩⟩⟩,fun a0=>⟨fun a1=>fun a2=>fun a3=>fun a4=>fun a5=>fun a6=>fun a7=>⟨fun a8=>?_,fun a8=>⟨⟨0,⟨?_,⟨⟨rfl,⟨rfl,⟨?_,trivial⟩⟩⟩,trivial⟩⟩⟩,fun k1 a9=>have b9x0:=a3u zE x.kids y.kids k1;have b9x1:=a2n x.kids y.kids k1;have b9x2:=a1i zE x.kids k1;fun a10=>fun a11=>⟨fun a12=>⟨?_,⟨?_,fun a13=>fun a14=>⟨?_,⟨fun a15=>?_,fun a15=>⟨?_,⟨k1+1,⟨?_,⟨?_,⟨⟨rfl,⟨rfl,⟨?_,trivial⟩⟩⟩,trivial⟩⟩⟩⟩⟩⟩⟩⟩⟩,fun a12=>?_⟩⟩⟩,fun a1=>fun a2=>fun a3=>⟨fun a4=>?_,fun a4=>⟨⟨0,⟨?_,⟨⟨rfl,⟨rfl,⟨?_,trivial⟩⟩⟩,trivial⟩⟩⟩,fun k1 a5=>have b5x0:=a3u zE x.kids y.kids k1;have b5x1:=a2n x.kids y.kids k1;have b5x2:=a1i zE x.kids k1;fun a6=>fun a7=>⟨fun a8=>⟨?_,⟨?_,fun a9=>fun a10=>⟨?_,⟨fun a11=>?_,fun a11=>⟨?_,⟨k1+1,⟨?_,⟨?_,⟨⟨rfl,⟨rfl,⟨?_,trivial⟩⟩⟩,trivial⟩⟩⟩⟩⟩⟩⟩⟩⟩,fun a8=>?_⟩⟩⟩⟩⟩
 all_goals try and_intros
 all_goals first|rfl|trivial|(simp only[decide_eq_true_eq,decide_eq_false_iff_not,Bool.not_eq_false',Bool.not_eq_true',decide_not,a0g,a0d] at *;first|omega|grind)|grind [a6g,g2e]
theorem f2r :∀ n,a0m [b3d n]
 | 0=>⟨⟨a0j b7x rfl (by decide),fun _ _ h=>absurd h (Nat.not_lt_zero _)⟩,trivial⟩
 | n+1=>by
  have ih:=f2r  n
  exact⟨f4v n ⟨ih.1,trivial⟩,trivial⟩
theorem b4m :Ctr.Good a3b :=
 ⟨a0j b7x rfl (by decide),fun x y hp=>(f2r  (msz x+1)).1.2 x y (Nat.lt_succ_self _)⟩
def b3g(n:Nat):Ctr:=⟨c0l,[.r (.st .prog), .r (.st .prog)],fun (x:a0a) (y:a0a)=>⟨(some (msz x<n),[⟨.bool,eqB x y⟩])⟩⟩
def a4i:Ctr:=⟨c0l,[.r (.st .prog), .r (.st .prog)],fun (x:a0a) (y:a0a)=>⟨(none,[⟨.bool,eqB x y⟩])⟩⟩
def d6n(x:a0a)(y:a0a):Nat→a0s:=(fun zb=>if Nat.beq zb 0 then .mk (Nat) (fun k=>k≤x.kids.length∧x.kids.length=y.kids.length∧x.kids.take k=y.kids.take k∧x.kind=y.kind∧x.num=y.num∧x.cond=y.cond) (fun k=>x.kids.length - k) [] [2,3,6,7,8,9,10,11,12,13,14,15,16,17,18,19,20,21,22,23,24,25,26,27,28,29,30,31,32,33,34,35,36,37,38,39,40,41,42,43,44,45,46,47,48] (fun k=>[(5, .imm ⟨(.int .i64),((k:Int):Int)⟩)]) [0,1,4,5,49,50,51,52,53,54,55,56,57,58,59,60,61,62,63,64,65,66,67,68,69,70,71] (fun k=>[]) [] [] (fun k=>fun _ => .none) else .none)
abbrev a7l(n:Nat)(x:a0a)(y:a0a):Prop:=((∃ k1:Nat,((k1≤x.kids.length∧x.kids.length=y.kids.length∧x.kids.take k1=y.kids.take k1∧x.kind=y.kind∧x.num=y.num∧x.cond=y.cond)∧((x=x∧(y=y∧((0:Int)=(k1:Int)∧True)))∧True)))∧(∀ k1:Nat,((k1≤x.kids.length∧x.kids.length=y.kids.length∧x.kids.take k1=y.kids.take k1∧x.kind=y.kind∧x.num=y.num∧x.cond=y.cond) →
 (x.kids.length≤140737488355328 →
 (a0d ((x.kids.length:Int)) →
 (((decide ((k1:Int)<((x.kids.length:Int))))=true →
 (a0g (k1:Int) x.kids.length∧(a0g (k1:Int) y.kids.length∧(x.kids.length≤140737488355328 →
 (y.kids.length≤140737488355328 →
 (msz (x.kids.getD k1 zP)<n∧(((!(eqB (x.kids.getD k1 zP) (y.kids.getD k1 zP)))=true →
 false=(eqB x y))∧((!(eqB (x.kids.getD k1 zP) (y.kids.getD k1 zP)))=false →
 (a0d ((k1:Int)+(1:Int))∧(∃ k2:Nat,((k2≤x.kids.length∧x.kids.length=y.kids.length∧x.kids.take k2=y.kids.take k2∧x.kind=y.kind∧x.num=y.num∧x.cond=y.cond)∧(x.kids.length - k2<x.kids.length - k1∧((x=x∧(y=y∧(((k1:Int)+(1:Int))=(k2:Int)∧True)))∧True)))))))))))))∧((decide ((k1:Int)<((x.kids.length:Int))))=false →
 true=(eqB x y))))))))
abbrev d1b(n:Nat)(x:a0a)(y:a0a):Prop:=(x.kids.length≤140737488355328 →
 (a0d ((x.kids.length:Int)) →
 (y.kids.length≤140737488355328 →
 (a0d ((y.kids.length:Int)) →
 (((!(eqB x.cond y.cond))=true →
 false=(eqB x y))∧((!(eqB x.cond y.cond))=false →
 (a7l n x y)))))))
abbrev d1c(n:Nat)(x:a0a)(y:a0a):Prop:=(x.kids.length≤140737488355328 →
 (a0d ((x.kids.length:Int)) →
 (y.kids.length≤140737488355328 →
 (a0d ((y.kids.length:Int)) →
 ((true=true →
 false=(eqB x y))∧(true=false →
 (a7l n x y)))))))
theorem f6k(n:Nat)(x:a0a)(y:a0a):awp (a0u [b3g n,a3b]) (a0k b0d) (d6n x y) 0 (a1b (a0u [b3g n,a3b]) b0d fun r=>a1d r [⟨.bool,eqB x y⟩]) (a0p b0d [.ref ⟨(.st .prog),x⟩, .ref ⟨(.st .prog),y⟩]) =
 ((((!(decide (x.kind=y.kind)))=false →
 (((!(decide (x.num=y.num)))=false →
 (((!(decide (((x.kids.length:Int))=((y.kids.length:Int)))))=false →
 (a0d x.kind →
 (a0d y.kind →
 (a0d x.num →
 (a0d y.num →
 (d1b n x y))))))∧((!(decide (((x.kids.length:Int))=((y.kids.length:Int)))))=(!false) →
 (a0d x.kind →
 (a0d y.kind →
 (a0d x.num →
 (a0d y.num →
 (d1c n x y))))))))∧((!(decide (x.num=y.num)))=(!false) →
 ((true=false →
 (a0d x.kind →
 (a0d y.kind →
 (a0d x.num →
 (a0d y.num →
 (((!(eqB x.cond y.cond))=true →
 false=(eqB x y))∧((!(eqB x.cond y.cond))=false →
 (a7l n x y))))))))∧(true=(!false) →
 (a0d x.kind →
 (a0d y.kind →
 (a0d x.num →
 (a0d y.num →
 ((true=true →
 false=(eqB x y))∧(true=false →
 (a7l n x y))))))))))))∧((!(decide (x.kind=y.kind)))=(!false) →
 ((true=false →
 (((!(decide (((x.kids.length:Int))=((y.kids.length:Int)))))=false →
 (a0d x.kind →
 (a0d y.kind →
 (d1b n x y))))∧((!(decide (((x.kids.length:Int))=((y.kids.length:Int)))))=(!false) →
 (a0d x.kind →
 (a0d y.kind →
 (d1c n x y))))))∧(true=(!false) →
 ((true=false →
 (a0d x.kind →
 (a0d y.kind →
 (((!(eqB x.cond y.cond))=true →
 false=(eqB x y))∧((!(eqB x.cond y.cond))=false →
 (a7l n x y))))))∧(true=(!false) →
 (a0d x.kind →
 (a0d y.kind →
 ((true=true →
 false=(eqB x y))∧(true=false →
 (a7l n x y)))))))))))):=by kernel_rfl
theorem f5c(n:Nat)(hE:a0m [b3g n,a3b]):Ctr.Good (b3g (n+1)):=by
 refine⟨a0j b8a rfl (by decide),?_⟩
 show ∀ (x:a0a) (y:a0a),(msz x<n+1)→a0z prog c0l [.ref ⟨(.st .prog),x⟩, .ref ⟨(.st .prog),y⟩] (·=[⟨.bool,eqB x y⟩])
 intro x y hp
 refine a0x (wr:=[]) (cl:=[]) (ro:=[]) hE b8a e6d (d6n x y) ?_
 rewrite [f6k n x y]
 have f0:=a5q x
 have f3:=g2f x y
 refine⟨fun a0=>⟨fun a1=>⟨fun a2=>fun a3=>fun a4=>fun a5=>fun a6=>fun a7=>fun a8=>fun a9=>fun a10=>⟨fun a11=>?_,fun a11=>⟨⟨0,⟨?_,⟨⟨rfl,⟨rfl,⟨?_,trivial⟩⟩⟩,trivial⟩⟩⟩,fun k1 a12=>have b12x0:=a3u zP x.kids y.kids k1;have b12x1:=a2n x.kids y.kids k1;have b12x2:=a1i zP x.kids k1;fun a13=>fun a14=>⟨fun a15=>⟨?_,⟨?_,fun a16=>fun a17=>⟨?_,⟨fun a18=>?_,fun a18=>⟨?_,⟨k1+1,⟨?_,⟨?_,⟨⟨rfl,⟨rfl,⟨?_,trivial⟩⟩⟩,trivial⟩⟩⟩⟩⟩⟩⟩⟩⟩,fun a15=>?_⟩⟩⟩,fun a2=>fun a3=>fun a4=>fun a5=>fun a6=>fun a7=>fun a8=>fun a9=>fun a10=>⟨fun a11=>?_,fun a11=>⟨⟨0,⟨?_,⟨⟨rfl,⟨rfl,⟨?_,trivial⟩⟩⟩,trivial⟩⟩⟩,fun k1 a12=>have b12x0:=a3u zP x.kids y.kids k1;have b12x1:=a2n x.kids y.kids k1;have b12x2:=a1i zP x.kids k1;fun a13=>fun a14=>⟨fun a15=>⟨?_,⟨?_,fun a16=>fun a17=>⟨?_,⟨fun a18=>?_,fun a18=>⟨?_,⟨k1+1,⟨?_,⟨?_,⟨⟨rfl,⟨rfl,⟨?_,trivial⟩⟩⟩,trivial⟩⟩⟩⟩⟩⟩⟩⟩⟩,fun a15=>?_⟩⟩⟩⟩,fun a1=>⟨fun a2=>fun a3=>fun a4=>fun a5=>fun a6=>⟨fun a7=>?_,fun a7=>⟨⟨0,⟨?_,⟨⟨rfl,⟨rfl,⟨?_,trivial⟩⟩⟩,trivial⟩⟩⟩,fun k1 a8=>have b8x0:=a3u zP x.kids y.kids k1;have b8x1:=a2n x.kids y.kids k1;have b8x2:=a1i zP x.kids k1;fun a9=>fun a10=>⟨fun a11=>⟨?_,⟨?_,fun a12=>fun a13=>⟨?_,⟨fun a14=>?_,fun a14=>⟨?_,⟨k1+1,⟨?_,⟨?_,⟨⟨rfl,⟨rfl,⟨?_,trivial⟩⟩⟩,trivial⟩⟩⟩⟩⟩⟩⟩⟩⟩,fun a11=>?_⟩⟩⟩,fun a2=>fun a3=>fun a4=>fun a5=>fun a6=>⟨fun a7=>?_,fun a7=>⟨⟨0,⟨?_,⟨⟨rfl,⟨rfl,⟨?_,trivial⟩⟩⟩,trivial⟩⟩⟩,fun k1 a8=>have b8x0:=a3u zP x.kids y.kids k1;have b8x1:=a2n x.kids y.kids k1;have b8x2:=a1i zP x.kids k1;fun a9=>fun a10=>⟨fun a11=>⟨?_,⟨?_,fun a12=>fun a13=>⟨?_,⟨fun a14=>?_,fun a14=>⟨?_,⟨k1+1,⟨?_,⟨?_,⟨⟨rfl,⟨rfl,⟨?_,trivial⟩⟩⟩,trivial⟩⟩⟩⟩⟩⟩⟩⟩⟩,fun a11=>?_⟩⟩⟩⟩⟩,fun a0=>⟨fun a1=>⟨fun a2=>fun a3=>fun a4=>fun a5=>fun a6=>fun a7=>fun a8=>⟨fun a9=>?_,fun a9=>⟨⟨0,⟨?_,⟨⟨rfl,⟨rfl,⟨?_,trivial⟩⟩⟩,trivial⟩⟩⟩,fun k1 a10=>have b10x0:=a3u zP x.kids y.kids k1;have b10x1:=a2n x.kids y.kids k1;have b10x2:=a1i zP x.kids k1;fun a11=>fun a12=>⟨fun a13=>⟨?_,⟨?_,fun a14=>fun a15=>⟨?_,⟨fun a16=>?_,fun a16=>⟨?_,⟨k1+1,⟨?_,⟨?_,⟨⟨rfl,⟨rfl,⟨?_,trivial⟩⟩⟩,trivial⟩⟩⟩⟩⟩⟩⟩⟩⟩,fun a13=>?_⟩⟩⟩,fun a2=>fun a3=>fun a4=>fun a5=>fun a6=>fun a7=>fun a8=>⟨fun a9=>?_,fun a9=>⟨⟨0,⟨?_,⟨⟨rfl,⟨rfl,⟨?_,trivial⟩⟩⟩,trivial⟩⟩⟩,fun k1 a10=>have b10x0:=a3u zP x.kids y.kids k1;have b10x1:=a2n x.kids y.kids k1;have b10x2:=a1i zP x.kids k1;fun a11=>fun a12=>⟨fun a13=>⟨?_,⟨?_,fun a14=>fun a15=>⟨?_,⟨fun a16=>?_,fun a16=>⟨?_,⟨k1+1,⟨?_,⟨?_,⟨⟨rfl,⟨rfl,⟨?_,trivial⟩⟩⟩,trivial⟩⟩⟩⟩⟩⟩⟩⟩⟩,fun a13=>?_⟩⟩⟩⟩,fun a1=>⟨fun a2=>fun a3=>fun a4=>⟨fun a5=>?_,fun a5=>⟨⟨0,⟨?_,⟨⟨rfl,⟨rfl,⟨?_,trivial⟩⟩⟩,trivial⟩⟩⟩,fun k1 a6=>have b6x0:=a3u zP x.kids y.kids k1;have b6x1:=a2n x.kids y.kids k1;have b6x2:=a1i zP x.kids k1;fun a7=>fun a8=>⟨fun a9=>⟨?_,⟨?_,fun a10=>fun a11=>⟨?_,⟨fun a12=>?_,fun a12=>⟨?_,⟨k1+1,⟨?_,⟨?_,⟨⟨rfl,⟨rfl,⟨?_,trivial⟩⟩⟩,trivial⟩⟩⟩⟩⟩⟩⟩⟩⟩,fun a9=>?_⟩⟩⟩,fun a2=>fun a3=>fun a4=>⟨fun a5=>?_,fun a5=>⟨⟨0,⟨?_,⟨⟨rfl,⟨rfl,⟨?_,trivial⟩⟩⟩,trivial⟩⟩⟩,fun k1 a6=>have b6x0:=a3u zP x.kids y.kids k1;have b6x1:=a2n x.kids y.kids k1;have b6x2:=a1i zP x.kids k1;fun a7=>fun a8=>⟨fun a9=>⟨?_,⟨?_,fun a10=>fun a11=>⟨?_,⟨fun a12=>?_,fun a12=>⟨?_,⟨k1+1,⟨?_,⟨?_,⟨⟨rfl,⟨rfl,⟨?_,trivial⟩⟩⟩,trivial⟩⟩⟩⟩⟩⟩⟩⟩⟩,fun a9=>?_⟩⟩⟩⟩⟩⟩
 all_goals try and_intros
 all_goals first|rfl|trivial|(simp only[decide_eq_true_eq,decide_eq_false_iff_not,Bool.not_eq_false',Bool.not_eq_true',decide_not,a0g,a0d] at *;first|omega|grind)|grind [a6g,g2e]
theorem f2s :∀ n,a0m [b3g n]
 | 0=>⟨⟨a0j b8a rfl (by decide),fun _ _ h=>absurd h (Nat.not_lt_zero _)⟩,trivial⟩
 | n+1=>by
  have ih:=f2s  n
  exact⟨f5c n ⟨ih.1,b4m,trivial⟩,trivial⟩
theorem c0w :Ctr.Good a4i :=
 ⟨a0j b8a rfl (by decide),fun x y hp=>(f2s  (msz x+1)).1.2 x y (Nat.lt_succ_self _)⟩
end
end Go.Proofs.Ytlaoejdeanljgaa

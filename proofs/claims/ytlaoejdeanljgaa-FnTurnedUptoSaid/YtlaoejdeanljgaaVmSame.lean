/- Expressions and programs that are the same. Printed by vmk.py. -/
import Derived.Test.YtlaoejdeanljgaaVmUse
import Derived.Test.YtlaoejdeanljgaaVmLib
set_option linter.unusedVariables false
set_option linter.unusedSimpArgs false
set_option linter.unusedSectionVars false
set_option maxRecDepth 4000
set_option maxHeartbeats 4000000
namespace Go.Proofs.Ytlaoejdeanljgaa
noncomputable section
def d3k{α:Type}(F:α→α→Prop×Bool)(z:α)(xs ys:List α):Prop:=∀ i,i<xs.length→i<ys.length→(F (xs.getD i z) (ys.getD i z)).1
def a3l{α:Type}(f:α→α→Bool):List α→List α→Bool
 | [],[]=>true
 | x::xs,y::ys=>f x y&&a3l f xs ys
 | _,_=>false
theorem f9e{α:Type}(f:α→α→Bool):∀ xs ys:List α,a3l f xs ys=true→xs.length=ys.length
 | [],[],_=>rfl
 | x::xs,y::ys,h=>by
  simp only[a3l,Bool.and_eq_true] at h
  simp[f9e f xs ys h.2]
 | [],_::_,h=>by cases h
 | _::_,[],h=>by cases h
theorem g1p{α:Type}(f:α→α→Bool)(xs ys:List α)(h:xs.length≠ys.length):a3l f xs ys=false:=by
 cases hb:a3l f xs ys
 ·rfl
 ·exact absurd (f9e f xs ys hb) h
theorem e7i{α:Type}(f:α→α→Bool)(z:α):∀ xs ys:List α,a3l f xs ys=true↔xs.length=ys.length∧∀ i,i<xs.length→f (xs.getD i z) (ys.getD i z)=true
 | [],[]=>by simp[a3l]
 | [],_::_=>by simp[a3l]
 | _::_,[]=>by simp[a3l]
 | x::xs,y::ys=>by
  simp only[a3l,Bool.and_eq_true,e7i f z xs ys,List.length_cons,Nat.add_right_cancel_iff]
  constructor
  ·rintro⟨h1,h2,h3⟩
   refine⟨h2,fun i hi=>?_⟩
   cases i with
   | zero=>simpa using h1
   | succ i=>simpa using h3 i (by omega)
  ·rintro⟨h1,h2⟩
   exact⟨by simpa using h2 0 (by omega),h1,fun i hi=>by simpa using h2 (i+1) (by omega)⟩
theorem g1o{α:Type}(f:α→α→Bool)(z:α)(xs ys:List α)(k:Nat)(h:xs.length=ys.length)(hk:k<xs.length)(hf:f (xs.getD k z) (ys.getD k z)=false):a3l f xs ys=false:=by
 cases hb:a3l f xs ys
 ·rfl
 ·have:=((e7i f z xs ys).1 hb).2 k hk
  rw[this] at hf;cases hf
theorem f6m{α:Type}(f:α→α→Bool)(z:α)(xs ys:List α)(k:Nat)(h:xs.length=ys.length)(hk:xs.length≤k)(ha:a3l f (xs.take k) (ys.take k)=true):a3l f xs ys=true:=by
 rwa [List.take_of_length_le hk,List.take_of_length_le (by omega)] at ha
theorem f6l{α:Type}(f:α→α→Bool)(z:α)(xs ys:List α)(k:Nat)(h1:k<xs.length)(h2:k<ys.length)(ha:a3l f (xs.take k) (ys.take k)=true)(hf:f (xs.getD k z) (ys.getD k z)=true):a3l f (xs.take (k+1)) (ys.take (k+1))=true:=by
 rw[e7i f z] at ha ⊢
 simp only[List.length_take,List.getD_eq_getElem?_getD] at ha hf ⊢
 refine⟨by omega,fun i hi=>?_⟩
 rcases Nat.lt_or_ge i k with hik|hik
 ·have:=ha.2 i (by omega)
  simpa [List.getElem?_take,hik,show i<k+1 by omega] using this
 ·have:i=k:=by omega
  subst this
  simpa [List.getElem?_take] using hf
theorem e7h{α:Type}:∀ xs ys:List α,a3l eqB xs ys=eqB xs ys
 | [],[]=>by simp[a3l]
 | [],_::_=>by simp[a3l,eqB]
 | _::_,[]=>by simp[a3l,eqB]
 | x::xs,y::ys=>by
  rw[a3l,e7h xs ys]
  refine Bool.eq_iff_iff.2 ?_
  simp
theorem f9r(x y:a0b):eqB x y=(decide (x.kind=y.kind)&&decide (x.num=y.num)&&eqB x.kids y.kids):=by
 refine Bool.eq_iff_iff.2 ?_
 cases x;cases y;simp[and_assoc]
theorem f9t(x y:a0a):eqB x y=(decide (x.kind=y.kind)&&decide (x.num=y.num)&&eqB x.cond y.cond&&eqB x.kids y.kids):=by
 refine Bool.eq_iff_iff.2 ?_
 cases x;cases y;simp[and_assoc]
def a5e:Ctr:=⟨b1g,[.v (.slice (.st .expr)), .v (.slice (.st .expr)), .c [(.st .expr),(.st .expr)] .bool],fun (xs:List a0b) (ys:List a0b) (F:a0b→a0b→Prop×Bool)=>⟨(some (d3k F zE xs ys),[⟨.bool,a3l (fun x y=>(F x y).2) xs ys⟩])⟩⟩
def b9s(xs:List a0b)(ys:List a0b)(F:a0b→a0b→Prop×Bool):Nat→a0t:=(fun zb=>if Nat.beq zb 0 then .mk (Nat) (fun k=>k≤xs.length∧xs.length=ys.length∧a3l (fun x y=>(F x y).2) (xs.take k) (ys.take k)=true) (fun k=>xs.length - k) [] [0,3,4,5,10,11,12,13,14] (fun k=>[(17, .imm ⟨(.int .i64),((k:Int):Int)⟩)]) [1,2,6,7,8,9,15,16,17,18,19,20,21,22,23,24,25,26,27,28,29,30,31] (fun k=>[]) [] [] (fun k=>fun _ => .none) else .none)
theorem d1j(xs:List a0b)(ys:List a0b)(F:a0b→a0b→Prop×Bool):awp (a0x []) (a0i a4c) (b9s xs ys F) 0 (a1h (a0x []) a4c fun r=>a1e r [⟨.bool,a3l (fun x y=>(F x y).2) xs ys⟩]) (a0r a4c [.val ⟨(.slice (.st .expr)),xs⟩, .val ⟨(.slice (.st .expr)),ys⟩, .clo ⟨[(.st .expr),(.st .expr)], .bool,F⟩]) =
 ((a0d ((xs.length:Int)) →
 (a0d ((ys.length:Int)) →
 (((!(decide (((xs.length:Int))=((ys.length:Int)))))=true →
 false=(a3l (fun x y=>(F x y).2) xs ys))∧((!(decide (((xs.length:Int))=((ys.length:Int)))))=false →
 (a0d ((xs.length:Int)) →
 ((∃ k1:Nat,((k1≤xs.length∧xs.length=ys.length∧a3l (fun x y=>(F x y).2) (xs.take k1) (ys.take k1)=true)∧((ys=ys∧(F=F∧(xs=xs∧(((xs.length:Int))=((xs.length:Int))∧((0:Int)=(k1:Int)∧True)))))∧True)))∧(∀ k1:Nat,((k1≤xs.length∧xs.length=ys.length∧a3l (fun x y=>(F x y).2) (xs.take k1) (ys.take k1)=true) →
 (((decide ((k1:Int)<((xs.length:Int))))=true →
 (a0h (k1:Int) xs.length∧(a0h (k1:Int) ys.length∧((F (a0w (xs.getD k1 zE)) (a0w (ys.getD k1 zE))).1∧(((!((F (a0w (xs.getD k1 zE)) (a0w (ys.getD k1 zE))).2))=true →
 false=(a3l (fun x y=>(F x y).2) xs ys))∧((!((F (a0w (xs.getD k1 zE)) (a0w (ys.getD k1 zE))).2))=false →
 (a0d ((k1:Int)+(1:Int))∧(∃ k2:Nat,((k2≤xs.length∧xs.length=ys.length∧a3l (fun x y=>(F x y).2) (xs.take k2) (ys.take k2)=true)∧(xs.length - k2<xs.length - k1∧((ys=ys∧(F=F∧(xs=xs∧(((xs.length:Int))=((xs.length:Int))∧(((k1:Int)+(1:Int))=(k2:Int)∧True)))))∧True)))))))))))∧((decide ((k1:Int)<((xs.length:Int))))=false →
 true=(a3l (fun x y=>(F x y).2) xs ys)))))))))))):=by kernel_rfl
theorem d1b(hE:a0p []):Ctr.Good a5e:=by
 refine⟨a0j b7y rfl (by decide),?_⟩
 show ∀ (xs:List a0b) (ys:List a0b) (F:a0b→a0b→Prop×Bool),(d3k F zE xs ys)→a1f prog b1g [.val ⟨(.slice (.st .expr)),xs⟩, .val ⟨(.slice (.st .expr)),ys⟩, .clo ⟨[(.st .expr),(.st .expr)], .bool,F⟩] (·=[⟨.bool,a3l (fun x y=>(F x y).2) xs ys⟩])
 intro xs ys F hp
 refine a0z (wr:=[]) (cl:=[]) (ro:=[]) hE b7y c6k (b9s xs ys F) ?_
 rewrite [d1j xs ys F]
 have f0:=g1p (fun x y=>(F x y).2) xs ys
 refine fun a0=>fun a1=>⟨fun a2=>?_,fun a2=>fun a3=>⟨⟨0,⟨?_,⟨⟨rfl,⟨rfl,⟨rfl,⟨rfl,⟨?_,trivial⟩⟩⟩⟩⟩,trivial⟩⟩⟩,fun k1 a4=>have b4x0:=hp k1;have b4x1:=g1o (fun x y=>(F x y).2) zE xs ys k1;have b4x2:=f6m (fun x y=>(F x y).2) zE xs ys k1;have b4x3:=f6l (fun x y=>(F x y).2) zE xs ys k1;⟨fun a5=>⟨?_,⟨?_,⟨?_,⟨fun a6=>?_,fun a6=>⟨?_,⟨k1+1,⟨?_,⟨?_,⟨⟨rfl,⟨rfl,⟨rfl,⟨rfl,⟨?_,trivial⟩⟩⟩⟩⟩,trivial⟩⟩⟩⟩⟩⟩⟩⟩⟩,fun a5=>?_⟩⟩⟩
 all_goals try and_intros
 all_goals try simp only[a0b.eta,a0a.eta,a2b,a2d] at *
 all_goals first|rfl|trivial|(simp only[decide_eq_true_eq,decide_eq_false_iff_not,a0h,a0d] at *;first|omega|grind)|(simp[a3l];done)|grind
theorem c6m:Ctr.Good a5e:=d1b trivial
def a5f:Ctr:=⟨b1h,[.v (.slice (.st .prog)), .v (.slice (.st .prog)), .c [(.st .prog),(.st .prog)] .bool],fun (xs:List a0a) (ys:List a0a) (F:a0a→a0a→Prop×Bool)=>⟨(some (d3k F zP xs ys),[⟨.bool,a3l (fun x y=>(F x y).2) xs ys⟩])⟩⟩
def b9t(xs:List a0a)(ys:List a0a)(F:a0a→a0a→Prop×Bool):Nat→a0t:=(fun zb=>if Nat.beq zb 0 then .mk (Nat) (fun k=>k≤xs.length∧xs.length=ys.length∧a3l (fun x y=>(F x y).2) (xs.take k) (ys.take k)=true) (fun k=>xs.length - k) [] [0,3,4,5,10,11,12,13,14] (fun k=>[(17, .imm ⟨(.int .i64),((k:Int):Int)⟩)]) [1,2,6,7,8,9,15,16,17,18,19,20,21,22,23,24,25,26,27,28,29,30,31] (fun k=>[]) [] [] (fun k=>fun _ => .none) else .none)
theorem d1k(xs:List a0a)(ys:List a0a)(F:a0a→a0a→Prop×Bool):awp (a0x []) (a0i a4d) (b9t xs ys F) 0 (a1h (a0x []) a4d fun r=>a1e r [⟨.bool,a3l (fun x y=>(F x y).2) xs ys⟩]) (a0r a4d [.val ⟨(.slice (.st .prog)),xs⟩, .val ⟨(.slice (.st .prog)),ys⟩, .clo ⟨[(.st .prog),(.st .prog)], .bool,F⟩]) =
 ((a0d ((xs.length:Int)) →
 (a0d ((ys.length:Int)) →
 (((!(decide (((xs.length:Int))=((ys.length:Int)))))=true →
 false=(a3l (fun x y=>(F x y).2) xs ys))∧((!(decide (((xs.length:Int))=((ys.length:Int)))))=false →
 (a0d ((xs.length:Int)) →
 ((∃ k1:Nat,((k1≤xs.length∧xs.length=ys.length∧a3l (fun x y=>(F x y).2) (xs.take k1) (ys.take k1)=true)∧((ys=ys∧(F=F∧(xs=xs∧(((xs.length:Int))=((xs.length:Int))∧((0:Int)=(k1:Int)∧True)))))∧True)))∧(∀ k1:Nat,((k1≤xs.length∧xs.length=ys.length∧a3l (fun x y=>(F x y).2) (xs.take k1) (ys.take k1)=true) →
 (((decide ((k1:Int)<((xs.length:Int))))=true →
 (a0h (k1:Int) xs.length∧(a0h (k1:Int) ys.length∧((F (a0g (xs.getD k1 zP)) (a0g (ys.getD k1 zP))).1∧(((!((F (a0g (xs.getD k1 zP)) (a0g (ys.getD k1 zP))).2))=true →
 false=(a3l (fun x y=>(F x y).2) xs ys))∧((!((F (a0g (xs.getD k1 zP)) (a0g (ys.getD k1 zP))).2))=false →
 (a0d ((k1:Int)+(1:Int))∧(∃ k2:Nat,((k2≤xs.length∧xs.length=ys.length∧a3l (fun x y=>(F x y).2) (xs.take k2) (ys.take k2)=true)∧(xs.length - k2<xs.length - k1∧((ys=ys∧(F=F∧(xs=xs∧(((xs.length:Int))=((xs.length:Int))∧(((k1:Int)+(1:Int))=(k2:Int)∧True)))))∧True)))))))))))∧((decide ((k1:Int)<((xs.length:Int))))=false →
 true=(a3l (fun x y=>(F x y).2) xs ys)))))))))))):=by kernel_rfl
theorem d1c(hE:a0p []):Ctr.Good a5f:=by
 refine⟨a0j b7z rfl (by decide),?_⟩
 show ∀ (xs:List a0a) (ys:List a0a) (F:a0a→a0a→Prop×Bool),(d3k F zP xs ys)→a1f prog b1h [.val ⟨(.slice (.st .prog)),xs⟩, .val ⟨(.slice (.st .prog)),ys⟩, .clo ⟨[(.st .prog),(.st .prog)], .bool,F⟩] (·=[⟨.bool,a3l (fun x y=>(F x y).2) xs ys⟩])
 intro xs ys F hp
 refine a0z (wr:=[]) (cl:=[]) (ro:=[]) hE b7z c6l (b9t xs ys F) ?_
 rewrite [d1k xs ys F]
 have f0:=g1p (fun x y=>(F x y).2) xs ys
 refine fun a0=>fun a1=>⟨fun a2=>?_,fun a2=>fun a3=>⟨⟨0,⟨?_,⟨⟨rfl,⟨rfl,⟨rfl,⟨rfl,⟨?_,trivial⟩⟩⟩⟩⟩,trivial⟩⟩⟩,fun k1 a4=>have b4x0:=hp k1;have b4x1:=g1o (fun x y=>(F x y).2) zP xs ys k1;have b4x2:=f6m (fun x y=>(F x y).2) zP xs ys k1;have b4x3:=f6l (fun x y=>(F x y).2) zP xs ys k1;⟨fun a5=>⟨?_,⟨?_,⟨?_,⟨fun a6=>?_,fun a6=>⟨?_,⟨k1+1,⟨?_,⟨?_,⟨⟨rfl,⟨rfl,⟨rfl,⟨rfl,⟨?_,trivial⟩⟩⟩⟩⟩,trivial⟩⟩⟩⟩⟩⟩⟩⟩⟩,fun a5=>?_⟩⟩⟩
 all_goals try and_intros
 all_goals try simp only[a0b.eta,a0a.eta,a2b,a2d] at *
 all_goals first|rfl|trivial|(simp only[decide_eq_true_eq,decide_eq_false_iff_not,a0h,a0d] at *;first|omega|grind)|(simp[a3l];done)|grind
theorem c6n:Ctr.Good a5f:=d1c trivial
def b4a(n:Nat):a0b→a0b→Prop×Bool:=fun (x:a0b) (y:a0b)=>((msz x<n),eqB x y)
def c3i:Nat×c6i:=(b3l,⟨[(.st .expr),(.st .expr)], .bool,[]⟩)
theorem g4f(n:Nat)(xs ys:List a0b)(h:msz xs≤n):d3k (b4a n) zE xs ys:=fun i hi _=>by
 have:=a1w zE xs i hi
 show msz (xs.getD i _)<n
 omega
theorem g4b(n:Nat)(xs ys:List a0b):a3l (fun x y=>(b4a n x y).2) xs ys=eqB xs ys:=e7h xs ys
def b0q(n:Nat):Ctr:=⟨b3l,[.v (.st .expr), .v (.st .expr)],fun (x:a0b) (y:a0b)=>⟨(some (msz x<n),[⟨.bool,eqB x y⟩])⟩⟩
def a4b:Ctr:=⟨b3l,[.v (.st .expr), .v (.st .expr)],fun (x:a0b) (y:a0b)=>⟨(none,[⟨.bool,eqB x y⟩])⟩⟩
def d2k(x:a0b)(y:a0b):Nat→a0t:=fun _ => .none
abbrev c7l(n:Nat)(x:a0b)(y:a0b):Prop:=(x.kids.length≤140737488355328 →
 (y.kids.length≤140737488355328 →
 (d3k (b4a n) zE x.kids y.kids∧(a3l (fun x y=>((b4a n) x y).2) x.kids y.kids)=(eqB x y))))
theorem e9o(n:Nat)(x:a0b)(y:a0b):awp (a0x [b0q n,a5e] [] [c3i] [2,3]) (a0i a8c) (d2k x y) 0 (a1h (a0x [b0q n,a5e] [] [c3i] [2,3]) a8c fun r=>a1e r [⟨.bool,eqB x y⟩]) (a0r a8c [.val ⟨(.st .expr),x⟩, .val ⟨(.st .expr),y⟩]) =
 ((a0d x.kind →
 (a0d y.kind →
 (((decide (x.kind=y.kind))=true →
 (a0d x.num →
 (a0d y.num →
 (((decide (x.num=y.num))=true →
 (c7l n x y))∧((decide (x.num=y.num))=(!true) →
 false=(eqB x y))))))∧((decide (x.kind=y.kind))=(!true) →
 ((false=true →
 (c7l n x y))∧(false=(!true) →
 false=(eqB x y)))))))):=by kernel_rfl
theorem e8x(n:Nat)(hE:a0p [b0q n,a5e]):Ctr.Good (b0q (n+1)):=by
 refine⟨a0j b5m rfl (by decide),?_⟩
 show ∀ (x:a0b) (y:a0b),(msz x<n+1)→a1f prog b3l [.val ⟨(.st .expr),x⟩, .val ⟨(.st .expr),y⟩] (·=[⟨.bool,eqB x y⟩])
 intro x y hp
 refine a0z (wr:=[]) (cl:=[c3i]) (ro:=[2,3]) hE b5m e0y (d2k x y) ?_
 rewrite [e9o n x y]
 have f0:=b3v x
 have f1:=g4f n x.kids y.kids
 have f2:=g4b n x.kids y.kids
 have f3:=f9r x y
 refine fun a0=>fun a1=>⟨fun a2=>fun a3=>fun a4=>⟨fun a5=>fun a6=>fun a7=>⟨?_,?_⟩,fun a5=>?_⟩,fun a2=>⟨fun a3=>fun a4=>fun a5=>⟨?_,?_⟩,fun a3=>?_⟩⟩
 all_goals try and_intros
 all_goals first|rfl|trivial|(simp only[decide_eq_true_eq,decide_eq_false_iff_not,a0h,a0d] at *;first|omega|grind)|grind [d3k]
theorem f0k :∀ n,a0p [b0q n]
 | 0=>⟨⟨a0j b5m rfl (by decide),fun _ _ h=>absurd h (Nat.not_lt_zero _)⟩,trivial⟩
 | n+1=>by
  have ih:=f0k  n
  exact⟨e8x n ⟨ih.1,c6m,trivial⟩,trivial⟩
theorem b8a :Ctr.Good a4b :=
 ⟨a0j b5m rfl (by decide),fun x y hp=>(f0k  (msz x+1)).1.2 x y (Nat.lt_succ_self _)⟩
def b4b(n:Nat):a0a→a0a→Prop×Bool:=fun (x:a0a) (y:a0a)=>((msz x<n),eqB x y)
def c3j:Nat×c6i:=(b3m,⟨[(.st .prog),(.st .prog)], .bool,[]⟩)
theorem g4g(n:Nat)(xs ys:List a0a)(h:msz xs≤n):d3k (b4b n) zP xs ys:=fun i hi _=>by
 have:=a1w zP xs i hi
 show msz (xs.getD i _)<n
 omega
theorem g4c(n:Nat)(xs ys:List a0a):a3l (fun x y=>(b4b n x y).2) xs ys=eqB xs ys:=e7h xs ys
def b0r(n:Nat):Ctr:=⟨b3m,[.v (.st .prog), .v (.st .prog)],fun (x:a0a) (y:a0a)=>⟨(some (msz x<n),[⟨.bool,eqB x y⟩])⟩⟩
def b7k:Ctr:=⟨b3m,[.v (.st .prog), .v (.st .prog)],fun (x:a0a) (y:a0a)=>⟨(none,[⟨.bool,eqB x y⟩])⟩⟩
def d2l(x:a0a)(y:a0a):Nat→a0t:=fun _ => .none
abbrev b4e(n:Nat)(x:a0a)(y:a0a):Prop:=(x.kids.length≤140737488355328 →
 (y.kids.length≤140737488355328 →
 (d3k (b4b n) zP x.kids y.kids∧(a3l (fun x y=>((b4b n) x y).2) x.kids y.kids)=(eqB x y))))
theorem e9p(n:Nat)(x:a0a)(y:a0a):awp (a0x [b0r n,a4b,a5f] [] [c3j] [2,3]) (a0i a8d) (d2l x y) 0 (a1h (a0x [b0r n,a4b,a5f] [] [c3j] [2,3]) a8d fun r=>a1e r [⟨.bool,eqB x y⟩]) (a0r a8d [.val ⟨(.st .prog),x⟩, .val ⟨(.st .prog),y⟩]) =
 ((a0d x.kind →
 (a0d y.kind →
 (((decide (x.kind=y.kind))=true →
 (a0d x.num →
 (a0d y.num →
 (((decide (x.num=y.num))=true →
 (((eqB x.cond y.cond)=true →
 (b4e n x y))∧((eqB x.cond y.cond)=(!true) →
 false=(eqB x y))))∧((decide (x.num=y.num))=(!true) →
 ((false=true →
 (b4e n x y))∧(false=(!true) →
 false=(eqB x y))))))))∧((decide (x.kind=y.kind))=(!true) →
 ((false=true →
 (((eqB x.cond y.cond)=true →
 (b4e n x y))∧((eqB x.cond y.cond)=(!true) →
 false=(eqB x y))))∧(false=(!true) →
 ((false=true →
 (b4e n x y))∧(false=(!true) →
 false=(eqB x y)))))))))):=by kernel_rfl
theorem e8y(n:Nat)(hE:a0p [b0r n,a4b,a5f]):Ctr.Good (b0r (n+1)):=by
 refine⟨a0j b5n rfl (by decide),?_⟩
 show ∀ (x:a0a) (y:a0a),(msz x<n+1)→a1f prog b3m [.val ⟨(.st .prog),x⟩, .val ⟨(.st .prog),y⟩] (·=[⟨.bool,eqB x y⟩])
 intro x y hp
 refine a0z (wr:=[]) (cl:=[c3j]) (ro:=[2,3]) hE b5n e0z (d2l x y) ?_
 rewrite [e9p n x y]
 have f0:=b3j x
 have f1:=g4g n x.kids y.kids
 have f2:=g4c n x.kids y.kids
 have f3:=f9t x y
 refine fun a0=>fun a1=>⟨fun a2=>fun a3=>fun a4=>⟨fun a5=>⟨fun a6=>fun a7=>fun a8=>⟨?_,?_⟩,fun a6=>?_⟩,fun a5=>⟨fun a6=>fun a7=>fun a8=>⟨?_,?_⟩,fun a6=>?_⟩⟩,fun a2=>⟨fun a3=>⟨fun a4=>fun a5=>fun a6=>⟨?_,?_⟩,fun a4=>?_⟩,fun a3=>⟨fun a4=>fun a5=>fun a6=>⟨?_,?_⟩,fun a4=>?_⟩⟩⟩
 all_goals try and_intros
 all_goals first|rfl|trivial|(simp only[decide_eq_true_eq,decide_eq_false_iff_not,a0h,a0d] at *;first|omega|grind)|grind [d3k]
theorem f0l :∀ n,a0p [b0r n]
 | 0=>⟨⟨a0j b5n rfl (by decide),fun _ _ h=>absurd h (Nat.not_lt_zero _)⟩,trivial⟩
 | n+1=>by
  have ih:=f0l  n
  exact⟨e8y n ⟨ih.1,b8a,c6n,trivial⟩,trivial⟩
theorem e2c :Ctr.Good b7k :=
 ⟨a0j b5n rfl (by decide),fun x y hp=>(f0l  (msz x+1)).1.2 x y (Nat.lt_succ_self _)⟩
def b2x(n:Nat):Ctr:=⟨b9h,[.r (.st .expr), .r (.st .expr)],fun (x:a0b) (y:a0b)=>⟨(some (msz x<n),[⟨.bool,eqB x y⟩])⟩⟩
def a3i:Ctr:=⟨b9h,[.r (.st .expr), .r (.st .expr)],fun (x:a0b) (y:a0b)=>⟨(none,[⟨.bool,eqB x y⟩])⟩⟩
def d5l(x:a0b)(y:a0b):Nat→a0t:=(fun zb=>if Nat.beq zb 0 then .mk (Nat) (fun k=>k≤x.kids.length∧x.kids.length=y.kids.length∧x.kids.take k=y.kids.take k∧x.kind=y.kind∧x.num=y.num) (fun k=>x.kids.length - k) [] [2,3,6,7,8,9,10,11,12,13,14,15,16,17,18,19,20,21,22,23,24,25,26,27,28,29,30,31,32,33,34,35,36,37,38] (fun k=>[(5, .imm ⟨(.int .i64),((k:Int):Int)⟩)]) [0,1,4,5,39,40,41,42,43,44,45,46,47,48,49,50,51,52,53,54,55,56,57,58,59,60,61] (fun k=>[]) [] [] (fun k=>fun _ => .none) else .none)
abbrev c0x(n:Nat)(x:a0b)(y:a0b):Prop:=((∃ k1:Nat,((k1≤x.kids.length∧x.kids.length=y.kids.length∧x.kids.take k1=y.kids.take k1∧x.kind=y.kind∧x.num=y.num)∧((x=x∧(y=y∧((0:Int)=(k1:Int)∧True)))∧True)))∧(∀ k1:Nat,((k1≤x.kids.length∧x.kids.length=y.kids.length∧x.kids.take k1=y.kids.take k1∧x.kind=y.kind∧x.num=y.num) →
 (x.kids.length≤140737488355328 →
 (a0d ((x.kids.length:Int)) →
 (((decide ((k1:Int)<((x.kids.length:Int))))=true →
 (a0h (k1:Int) x.kids.length∧(a0h (k1:Int) y.kids.length∧(x.kids.length≤140737488355328 →
 (y.kids.length≤140737488355328 →
 (msz (x.kids.getD k1 zE)<n∧(((!(eqB (x.kids.getD k1 zE) (y.kids.getD k1 zE)))=true →
 false=(eqB x y))∧((!(eqB (x.kids.getD k1 zE) (y.kids.getD k1 zE)))=false →
 (a0d ((k1:Int)+(1:Int))∧(∃ k2:Nat,((k2≤x.kids.length∧x.kids.length=y.kids.length∧x.kids.take k2=y.kids.take k2∧x.kind=y.kind∧x.num=y.num)∧(x.kids.length - k2<x.kids.length - k1∧((x=x∧(y=y∧(((k1:Int)+(1:Int))=(k2:Int)∧True)))∧True)))))))))))))∧((decide ((k1:Int)<((x.kids.length:Int))))=false →
 true=(eqB x y))))))))
abbrev d0f(n:Nat)(x:a0b)(y:a0b):Prop:=(x.kids.length≤140737488355328 →
 (a0d ((x.kids.length:Int)) →
 (y.kids.length≤140737488355328 →
 (a0d ((y.kids.length:Int)) →
 (((!(decide (((x.kids.length:Int))=((y.kids.length:Int)))))=true →
 false=(eqB x y))∧((!(decide (((x.kids.length:Int))=((y.kids.length:Int)))))=false →
 (c0x n x y)))))))
theorem f3p(n:Nat)(x:a0b)(y:a0b):awp (a0x [b2x n]) (a0i a9w) (d5l x y) 0 (a1h (a0x [b2x n]) a9w fun r=>a1e r [⟨.bool,eqB x y⟩]) (a0r a9w [.ref ⟨(.st .expr),x⟩, .ref ⟨(.st .expr),y⟩]) =
 ((((!(decide (x.kind=y.kind)))=false →
 (((!(decide (x.num=y.num)))=false →
 (a0d x.kind →
 (a0d y.kind →
 (a0d x.num →
 (a0d y.num →
 (d0f n x y))))))∧((!(decide (x.num=y.num)))=(!false) →
 (a0d x.kind →
 (a0d y.kind →
 (a0d x.num →
 (a0d y.num →
 ((true=true →
 false=(eqB x y))∧(true=false →
 (c0x n x y))))))))))∧((!(decide (x.kind=y.kind)))=(!false) →
 ((true=false →
 (a0d x.kind →
 (a0d y.kind →
 (d0f n x y))))∧(true=(!false) →
 (a0d x.kind →
 (a0d y.kind →
 ((true=true →
 false=(eqB x y))∧(true=false →
 (c0x n x y)))))))))):=by kernel_rfl
theorem f2i(n:Nat)(hE:a0p [b2x n]):Ctr.Good (b2x (n+1)):=by
 refine⟨a0j b7a rfl (by decide),?_⟩
 show ∀ (x:a0b) (y:a0b),(msz x<n+1)→a1f prog b9h [.ref ⟨(.st .expr),x⟩, .ref ⟨(.st .expr),y⟩] (·=[⟨.bool,eqB x y⟩])
 intro x y hp
 refine a0z (wr:=[]) (cl:=[]) (ro:=[]) hE b7a e4t (d5l x y) ?_
 rewrite [f3p n x y]
 have f0:=b3v x
 have f3:=f9r x y
 refine⟨fun a0=>⟨fun a1=>fun a2=>fun a3=>fun a4=>fun a5=>fun a6=>fun a7=>fun a8=>fun a9=>⟨fun a10=>?_,fun a10=>⟨⟨0,⟨?_,⟨⟨rfl,⟨rfl,⟨?_,trivial⟩⟩⟩,trivial⟩⟩⟩,fun k1 a11=>have b11x0:=a7a zE x.kids y.kids k1;have b11x1:=a3y x.kids y.kids k1;have b11x2:=a1w zE x.kids k1;fun a12=>fun a13=>⟨fun a14=>⟨?_,⟨?_,fun a15=>fun a16=>⟨?_,⟨fun a17=>?_,fun a17=>⟨?_,⟨k1+1,⟨?_,⟨?_,⟨⟨rfl,⟨rfl,⟨?_,trivial⟩⟩⟩,trivial⟩⟩⟩⟩⟩⟩⟩⟩⟩,fun a14=>?_⟩⟩⟩,fun a1=>fun a2=>fun a3=>fun a4=>fun a5=>⟨fun a6=>?_,fun a6=>⟨⟨0,⟨?_,⟨⟨rfl,⟨rfl,⟨?_,trivial⟩⟩⟩,trivial⟩⟩⟩,fun k1 a7=>have b7x0:=a7a zE x.kids y.kids k1;have b7x1:=a3y x.kids y.kids k1;have b7x2:=a1w zE x.kids k1;fun a8=>fun a9=>⟨fun a10=>⟨?_,⟨?_,fun a11=>fun a12=>⟨?_,⟨fun a13=>?_,fun a13=>⟨?_,⟨k1+1,⟨?_,⟨?_,⟨⟨rfl,⟨rfl,⟨?_,trivial⟩⟩⟩,trivial⟩⟩⟩⟩⟩⟩⟩⟩⟩,fun a10=>?_⟩⟩⟩⟩,fun a0=>⟨fun a1=>fun a2=>fun a3=>fun a4=>fun a5=>fun a6=>fun a7=>⟨fun a8=>?_,fun a8=>⟨⟨0,⟨?_,⟨⟨rfl,⟨rfl,⟨?_,trivial⟩⟩⟩,trivial⟩⟩⟩,fun k1 a9=>have b9x0:=a7a zE x.kids y.kids k1;have b9x1:=a3y x.kids y.kids k1;have b9x2:=a1w zE x.kids k1;fun a10=>fun a11=>⟨fun a12=>⟨?_,⟨?_,fun a13=>fun a14=>⟨?_,⟨fun a15=>?_,fun a15=>⟨?_,⟨k1+1,⟨?_,⟨?_,⟨⟨rfl,⟨rfl,⟨?_,trivial⟩⟩⟩,trivial⟩⟩⟩⟩⟩⟩⟩⟩⟩,fun a12=>?_⟩⟩⟩,fun a1=>fun a2=>fun a3=>⟨fun a4=>?_,fun a4=>⟨⟨0,⟨?_,⟨⟨rfl,⟨rfl,⟨?_,trivial⟩⟩⟩,trivial⟩⟩⟩,fun k1 a5=>have b5x0:=a7a zE x.kids y.kids k1;have b5x1:=a3y x.kids y.kids k1;have b5x2:=a1w zE x.kids k1;fun a6=>fun a7=>⟨fun a8=>⟨?_,⟨?_,fun a9=>fun a10=>⟨?_,⟨fun a11=>?_,fun a11=>⟨?_,⟨k1+1,⟨?_,⟨?_,⟨⟨rfl,⟨rfl,⟨?_,trivial⟩⟩⟩,trivial⟩⟩⟩⟩⟩⟩⟩⟩⟩,fun a8=>?_⟩⟩⟩⟩⟩
 all_goals try and_intros
 all_goals first|rfl|trivial|(simp only[decide_eq_true_eq,decide_eq_false_iff_not,Bool.not_eq_false',Bool.not_eq_true',decide_not,a0h,a0d] at *;first|omega|grind)|grind [b1j,f9s]
theorem f0m :∀ n,a0p [b2x n]
 | 0=>⟨⟨a0j b7a rfl (by decide),fun _ _ h=>absurd h (Nat.not_lt_zero _)⟩,trivial⟩
 | n+1=>by
  have ih:=f0m  n
  exact⟨f2i n ⟨ih.1,trivial⟩,trivial⟩
theorem b4c :Ctr.Good a3i :=
 ⟨a0j b7a rfl (by decide),fun x y hp=>(f0m  (msz x+1)).1.2 x y (Nat.lt_succ_self _)⟩
def b3b(n:Nat):Ctr:=⟨b9l,[.r (.st .prog), .r (.st .prog)],fun (x:a0a) (y:a0a)=>⟨(some (msz x<n),[⟨.bool,eqB x y⟩])⟩⟩
def a3j:Ctr:=⟨b9l,[.r (.st .prog), .r (.st .prog)],fun (x:a0a) (y:a0a)=>⟨(none,[⟨.bool,eqB x y⟩])⟩⟩
def d5v(x:a0a)(y:a0a):Nat→a0t:=(fun zb=>if Nat.beq zb 0 then .mk (Nat) (fun k=>k≤x.kids.length∧x.kids.length=y.kids.length∧x.kids.take k=y.kids.take k∧x.kind=y.kind∧x.num=y.num∧x.cond=y.cond) (fun k=>x.kids.length - k) [] [2,3,6,7,8,9,10,11,12,13,14,15,16,17,18,19,20,21,22,23,24,25,26,27,28,29,30,31,32,33,34,35,36,37,38,39,40,41,42,43,44,45,46,47,48] (fun k=>[(5, .imm ⟨(.int .i64),((k:Int):Int)⟩)]) [0,1,4,5,49,50,51,52,53,54,55,56,57,58,59,60,61,62,63,64,65,66,67,68,69,70,71] (fun k=>[]) [] [] (fun k=>fun _ => .none) else .none)
abbrev a7n(n:Nat)(x:a0a)(y:a0a):Prop:=((∃ k1:Nat,((k1≤x.kids.length∧x.kids.length=y.kids.length∧x.kids.take k1=y.kids.take k1∧x.kind=y.kind∧x.num=y.num∧x.cond=y.cond)∧((x=x∧(y=y∧((0:Int)=(k1:Int)∧True)))∧True)))∧(∀ k1:Nat,((k1≤x.kids.length∧x.kids.length=y.kids.length∧x.kids.take k1=y.kids.take k1∧x.kind=y.kind∧x.num=y.num∧x.cond=y.cond) →
 (x.kids.length≤140737488355328 →
 (a0d ((x.kids.length:Int)) →
 (((decide ((k1:Int)<((x.kids.length:Int))))=true →
 (a0h (k1:Int) x.kids.length∧(a0h (k1:Int) y.kids.length∧(x.kids.length≤140737488355328 →
 (y.kids.length≤140737488355328 →
 (msz (x.kids.getD k1 zP)<n∧(((!(eqB (x.kids.getD k1 zP) (y.kids.getD k1 zP)))=true →
 false=(eqB x y))∧((!(eqB (x.kids.getD k1 zP) (y.kids.getD k1 zP)))=false →
 (a0d ((k1:Int)+(1:Int))∧(∃ k2:Nat,((k2≤x.kids.length∧x.kids.length=y.kids.length∧x.kids.take k2=y.kids.take k2∧x.kind=y.kind∧x.num=y.num∧x.cond=y.cond)∧(x.kids.length - k2<x.kids.length - k1∧((x=x∧(y=y∧(((k1:Int)+(1:Int))=(k2:Int)∧True)))∧True)))))))))))))∧((decide ((k1:Int)<((x.kids.length:Int))))=false →
 true=(eqB x y))))))))
abbrev d0h(n:Nat)(x:a0a)(y:a0a):Prop:=(x.kids.length≤140737488355328 →
 (a0d ((x.kids.length:Int)) →
 (y.kids.length≤140737488355328 →
 (a0d ((y.kids.length:Int)) →
 (((!(eqB x.cond y.cond))=true →
 false=(eqB x y))∧((!(eqB x.cond y.cond))=false →
 (a7n n x y)))))))
abbrev d0i(n:Nat)(x:a0a)(y:a0a):Prop:=(x.kids.length≤140737488355328 →
 (a0d ((x.kids.length:Int)) →
 (y.kids.length≤140737488355328 →
 (a0d ((y.kids.length:Int)) →
 ((true=true →
 false=(eqB x y))∧(true=false →
 (a7n n x y)))))))
theorem f3z(n:Nat)(x:a0a)(y:a0a):awp (a0x [b3b n,a3i]) (a0i b0f) (d5v x y) 0 (a1h (a0x [b3b n,a3i]) b0f fun r=>a1e r [⟨.bool,eqB x y⟩]) (a0r b0f [.ref ⟨(.st .prog),x⟩, .ref ⟨(.st .prog),y⟩]) =
 ((((!(decide (x.kind=y.kind)))=false →
 (((!(decide (x.num=y.num)))=false →
 (((!(decide (((x.kids.length:Int))=((y.kids.length:Int)))))=false →
 (a0d x.kind →
 (a0d y.kind →
 (a0d x.num →
 (a0d y.num →
 (d0h n x y))))))∧((!(decide (((x.kids.length:Int))=((y.kids.length:Int)))))=(!false) →
 (a0d x.kind →
 (a0d y.kind →
 (a0d x.num →
 (a0d y.num →
 (d0i n x y))))))))∧((!(decide (x.num=y.num)))=(!false) →
 ((true=false →
 (a0d x.kind →
 (a0d y.kind →
 (a0d x.num →
 (a0d y.num →
 (((!(eqB x.cond y.cond))=true →
 false=(eqB x y))∧((!(eqB x.cond y.cond))=false →
 (a7n n x y))))))))∧(true=(!false) →
 (a0d x.kind →
 (a0d y.kind →
 (a0d x.num →
 (a0d y.num →
 ((true=true →
 false=(eqB x y))∧(true=false →
 (a7n n x y))))))))))))∧((!(decide (x.kind=y.kind)))=(!false) →
 ((true=false →
 (((!(decide (((x.kids.length:Int))=((y.kids.length:Int)))))=false →
 (a0d x.kind →
 (a0d y.kind →
 (d0h n x y))))∧((!(decide (((x.kids.length:Int))=((y.kids.length:Int)))))=(!false) →
 (a0d x.kind →
 (a0d y.kind →
 (d0i n x y))))))∧(true=(!false) →
 ((true=false →
 (a0d x.kind →
 (a0d y.kind →
 (((!(eqB x.cond y.cond))=true →
 false=(eqB x y))∧((!(eqB x.cond y.cond))=false →
 (a7n n x y))))))∧(true=(!false) →
 (a0d x.kind →
 (a0d y.kind →
 ((true=true →
 false=(eqB x y))∧(true=false →
 (a7n n x y)))))))))))):=by kernel_rfl
theorem f2s(n:Nat)(hE:a0p [b3b n,a3i]):Ctr.Good (b3b (n+1)):=by
 refine⟨a0j b7f rfl (by decide),?_⟩
 show ∀ (x:a0a) (y:a0a),(msz x<n+1)→a1f prog b9l [.ref ⟨(.st .prog),x⟩, .ref ⟨(.st .prog),y⟩] (·=[⟨.bool,eqB x y⟩])
 intro x y hp
 refine a0z (wr:=[]) (cl:=[]) (ro:=[]) hE b7f e5c (d5v x y) ?_
 rewrite [f3z n x y]
 have f0:=b3j x
 have f3:=f9t x y
 refine⟨fun a0=>⟨fun a1=>⟨fun a2=>fun a3=>fun a4=>fun a5=>fun a6=>fun a7=>fun a8=>fun a9=>fun a10=>⟨fun a11=>?_,fun a11=>⟨⟨0,⟨?_,⟨⟨rfl,⟨rfl,⟨?_,trivial⟩⟩⟩,trivial⟩⟩⟩,fun k1 a12=>have b12x0:=a7a zP x.kids y.kids k1;have b12x1:=a3y x.kids y.kids k1;have b12x2:=a1w zP x.kids k1;fun a13=>fun a14=>⟨fun a15=>⟨?_,⟨?_,fun a16=>fun a17=>⟨?_,⟨fun a18=>?_,fun a18=>⟨?_,⟨k1+1,⟨?_,⟨?_,⟨⟨rfl,⟨rfl,⟨?_,trivial⟩⟩⟩,trivial⟩⟩⟩⟩⟩⟩⟩⟩⟩,fun a15=>?_⟩⟩⟩,fun a2=>fun a3=>fun a4=>fun a5=>fun a6=>fun a7=>fun a8=>fun a9=>fun a10=>⟨fun a11=>?_,fun a11=>⟨⟨0,⟨?_,⟨⟨rfl,⟨rfl,⟨?_,trivial⟩⟩⟩,trivial⟩⟩⟩,fun k1 a12=>have b12x0:=a7a zP x.kids y.kids k1;have b12x1:=a3y x.kids y.kids k1;have b12x2:=a1w zP x.kids k1;fun a13=>fun a14=>⟨fun a15=>⟨?_,⟨?_,fun a16=>fun a17=>⟨?_,⟨fun a18=>?_,fun a18=>⟨?_,⟨k1+1,⟨?_,⟨?_,⟨⟨rfl,⟨rfl,⟨?_,trivial⟩⟩⟩,trivial⟩⟩⟩⟩⟩⟩⟩⟩⟩,fun a15=>?_⟩⟩⟩⟩,fun a1=>⟨fun a2=>fun a3=>fun a4=>fun a5=>fun a6=>⟨fun a7=>?_,fun a7=>⟨⟨0,⟨?_,⟨⟨rfl,⟨rfl,⟨?_,trivial⟩⟩⟩,trivial⟩⟩⟩,fun k1 a8=>have b8x0:=a7a zP x.kids y.kids k1;have b8x1:=a3y x.kids y.kids k1;have b8x2:=a1w zP x.kids k1;fun a9=>fun a10=>⟨fun a11=>⟨?_,⟨?_,fun a12=>fun a13=>⟨?_,⟨fun a14=>?_,fun a14=>⟨?_,⟨k1+1,⟨?_,⟨?_,⟨⟨rfl,⟨rfl,⟨?_,trivial⟩⟩⟩,trivial⟩⟩⟩⟩⟩⟩⟩⟩⟩,fun a11=>?_⟩⟩⟩,fun a2=>fun a3=>fun a4=>fun a5=>fun a6=>⟨fun a7=>?_,fun a7=>⟨⟨0,⟨?_,⟨⟨rfl,⟨rfl,⟨?_,trivial⟩⟩⟩,trivial⟩⟩⟩,fun k1 a8=>have b8x0:=a7a zP x.kids y.kids k1;have b8x1:=a3y x.kids y.kids k1;have b8x2:=a1w zP x.kids k1;fun a9=>fun a10=>⟨fun a11=>⟨?_,⟨?_,fun a12=>fun a13=>⟨?_,⟨fun a14=>?_,fun a14=>⟨?_,⟨k1+1,⟨?_,⟨?_,⟨⟨rfl,⟨rfl,⟨?_,trivial⟩⟩⟩,trivial⟩⟩⟩⟩⟩⟩⟩⟩⟩,fun a11=>?_⟩⟩⟩⟩⟩,fun a0=>⟨fun a1=>⟨fun a2=>fun a3=>fun a4=>fun a5=>fun a6=>fun a7=>fun a8=>⟨fun a9=>?_,fun a9=>⟨⟨0,⟨?_,⟨⟨rfl,⟨rfl,⟨?_,trivial⟩⟩⟩,trivial⟩⟩⟩,fun k1 a10=>have b10x0:=a7a zP x.kids y.kids k1;have b10x1:=a3y x.kids y.kids k1;have b10x2:=a1w zP x.kids k1;fun a11=>fun a12=>⟨fun a13=>⟨?_,⟨?_,fun a14=>fun a15=>⟨?_,⟨fun a16=>?_,fun a16=>⟨?_,⟨k1+1,⟨?_,⟨?_,⟨⟨rfl,⟨rfl,⟨?_,trivial⟩⟩⟩,trivial⟩⟩⟩⟩⟩⟩⟩⟩⟩,fun a13=>?_⟩⟩⟩,fun a2=>fun a3=>fun a4=>fun a5=>fun a6=>fun a7=>fun a8=>⟨fun a9=>?_,fun a9=>⟨⟨0,⟨?_,⟨⟨rfl,⟨rfl,⟨?_,trivial⟩⟩⟩,trivial⟩⟩⟩,fun k1 a10=>have b10x0:=a7a zP x.kids y.kids k1;have b10x1:=a3y x.kids y.kids k1;have b10x2:=a1w zP x.kids k1;fun a11=>fun a12=>⟨fun a13=>⟨?_,⟨?_,fun a14=>fun a15=>⟨?_,⟨fun a16=>?_,fun a16=>⟨?_,⟨k1+1,⟨?_,⟨?_,⟨⟨rfl,⟨rfl,⟨?_,trivial⟩⟩⟩,trivial⟩⟩⟩⟩⟩⟩⟩⟩⟩,fun a13=>?_⟩⟩⟩⟩,fun a1=>⟨fun a2=>fun a3=>fun a4=>⟨fun a5=>?_,fun a5=>⟨⟨0,⟨?_,⟨⟨rfl,⟨rfl,⟨?_,trivial⟩⟩⟩,trivial⟩⟩⟩,fun k1 a6=>have b6x0:=a7a zP x.kids y.kids k1;have b6x1:=a3y x.kids y.kids k1;have b6x2:=a1w zP x.kids k1;fun a7=>fun a8=>⟨fun a9=>⟨?_,⟨?_,fun a10=>fun a11=>⟨?_,⟨fun a12=>?_,fun a12=>⟨?_,⟨k1+1,⟨?_,⟨?_,⟨⟨rfl,⟨rfl,⟨?_,trivial⟩⟩⟩,trivial⟩⟩⟩⟩⟩⟩⟩⟩⟩,fun a9=>?_⟩⟩⟩,fun a2=>fun a3=>fun a4=>⟨fun a5=>?_,fun a5=>⟨⟨0,⟨?_,⟨⟨rfl,⟨rfl,⟨?_,trivial⟩⟩⟩,trivial⟩⟩⟩,fun k1 a6=>have b6x0:=a7a zP x.kids y.kids k1;have b6x1:=a3y x.kids y.kids k1;have b6x2:=a1w zP x.kids k1;fun a7=>fun a8=>⟨fun a9=>⟨?_,⟨?_,fun a10=>fun a11=>⟨?_,⟨fun a12=>?_,fun a12=>⟨?_,⟨k1+1,⟨?_,⟨?_,⟨⟨rfl,⟨rfl,⟨?_,trivial⟩⟩⟩,trivial⟩⟩⟩⟩⟩⟩⟩⟩⟩,fun a9=>?_⟩⟩⟩⟩⟩⟩
 all_goals try and_intros
 all_goals first|rfl|trivial|(simp only[decide_eq_true_eq,decide_eq_false_iff_not,Bool.not_eq_false',Bool.not_eq_true',decide_not,a0h,a0d] at *;first|omega|grind)|grind [b1j,f9s]
theorem f0n :∀ n,a0p [b3b n]
 | 0=>⟨⟨a0j b7f rfl (by decide),fun _ _ h=>absurd h (Nat.not_lt_zero _)⟩,trivial⟩
 | n+1=>by
  have ih:=f0n  n
  exact⟨f2s n ⟨ih.1,b4c,trivial⟩,trivial⟩
theorem b4d :Ctr.Good a3j :=
 ⟨a0j b7f rfl (by decide),fun x y hp=>(f0n  (msz x+1)).1.2 x y (Nat.lt_succ_self _)⟩
end
end Go.Proofs.Ytlaoejdeanljgaa

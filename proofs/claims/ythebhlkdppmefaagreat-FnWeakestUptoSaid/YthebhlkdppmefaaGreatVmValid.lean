/- Truth, Valid. -/
import Derived.Test.YthebhlkdppmefaaGreatVmUse
import Derived.Test.YthebhlkdppmefaaGreatVmLib
import Derived.Test.YthebhlkdppmefaaGreatVmShaped
set_option linter.unusedVariables false
set_option linter.unusedSimpArgs false
set_option linter.unusedSectionVars false
set_option maxRecDepth 4000
set_option maxHeartbeats 4000000
namespace Go.Proofs.YthebhlkdppmefaaGreat
noncomputable section
def h2z(a n:Int):Bool:=decide (((Int.toNat (Int.fdiv a (2 ^ n.toNat)) &&& Int.toNat 1:Nat):Int)=1)
def tOp(k n a:Int)(p q:Bool):Bool:=if k=2 then true else if k=3 then h2z a n else if k=5 then !p else if k=6 then p||q else if k=7 then p&&q else false
mutual
def a1b(a:Int):a0b→Bool
 | ⟨k,n,ks⟩=>tOp k n a ((d2b a ks).getD 0 false) ((d2b a ks).getD 1 false)
def d2b(a:Int):List a0b→List Bool
 | []=>[]
 | k::ks=>a1b a k::d2b a ks
end
theorem c3y(a:Int)(z:a0b):∀ (xs:List a0b) (i:Nat),i<xs.length→(d2b a xs).getD i false=a1b a (xs.getD i z)
 | [],i,h=>by simp at h
 | x::xs,0,h=>by simp[d2b]
 | x::xs,i+1,h=>by
  have:=c3y a z xs i (by simpa using h)
  simpa [d2b] using this
theorem i5a(a:Int)(x:a0b):a1b a x=tOp x.kind x.num a ((d2b a x.kids).getD 0 false) ((d2b a x.kids).getD 1 false):=by
 cases x;rfl
def a1k(x:a0b):Bool:=a1q 62 62 x&&a1l x
def d0m(x:a0b)(i:Nat):Prop:=a1k (x.kids.getD i ⟨0,0,[]⟩)=true∧msz (x.kids.getD i ⟨0,0,[]⟩)<msz x
theorem h9m(x:a0b)(h:a1k x=true)(i:Nat)(hi:i<x.kids.length):d0m x i:=by
 unfold d0m
 simp only[a1k,Bool.and_eq_true] at h ⊢
 rw[e8p,e7c] at h
 simp only[Bool.and_eq_true] at h
 refine⟨⟨b8z _ _ _ _ hi h.1.2,b8z _ _ _ _ hi h.2.2⟩,?_⟩
 have:=a3d (⟨0,0,[]⟩:a0b) x.kids i hi
 have:=c2e x
 omega
theorem e2m(x:a0b)(h:a1k x=true):(x.kind=3→0≤x.num∧x.num≤62) ∧
  (x.kind=5→x.kids.length=1∧d0m x 0)∧((x.kind=6∨x.kind=7)→x.kids.length=2∧d0m x 0∧d0m x 1) ∧
  (x.kind=1∨x.kind=2∨x.kind=3∨x.kind=5∨x.kind=6∨x.kind=7):=by
 have hk:=h9m x h
 simp only[a1k,Bool.and_eq_true] at h
 rw[e8p,e7c,g1e] at h
 simp only[Bool.and_eq_true,decide_eq_true_eq] at h
 obtain⟨⟨⟨⟨h1,h2⟩,_⟩,_⟩,h5,_⟩:=h
 simp only[c5n,Bool.or_eq_true,decide_eq_true_eq] at h5
 refine⟨fun e=>?_,fun e=>?_,fun e=>?_,by omega⟩
 ·simpa [e7x,e] using h2
 ·rw[e] at h1
  have h1':x.kids.length=1:=by simp[a2t] at h1;omega
  exact⟨h1',hk 0 (by omega)⟩
 ·have h1':x.kids.length=2:=by
   rcases e with e|e<;>rw[e] at h1<;>simp[a2t] at h1<;>omega
  exact⟨h1',hk 0 (by omega),hk 1 (by omega)⟩
theorem g6v(a:Int)(x:a0b)(h:a1k x=true):(x.kind=1→a1b a x=false)∧(x.kind=2→a1b a x=true)∧(x.kind=3→a1b a x=h2z a x.num) ∧
  (x.kind=5→a1b a x = !a1b a (x.kids.getD 0 ⟨0,0,[]⟩))∧(x.kind=6→a1b a x=(a1b a (x.kids.getD 0 ⟨0,0,[]⟩)||a1b a (x.kids.getD 1 ⟨0,0,[]⟩))) ∧
  (x.kind=7→a1b a x=(a1b a (x.kids.getD 0 ⟨0,0,[]⟩)&&a1b a (x.kids.getD 1 ⟨0,0,[]⟩))):=by
 have hf:=e2m x h
 rw[i5a]
 refine⟨fun e=>?_,fun e=>?_,fun e=>?_,fun e=>?_,fun e=>?_,fun e=>?_⟩
 ·simp[tOp,e]
 ·simp[tOp,e]
 ·simp[tOp,e]
 ·have:=(hf.2.1 e).1
  simp only[tOp,e]
  rw[c3y a ⟨0,0,[]⟩ x.kids 0 (by omega)];rfl
 ·have:=(hf.2.2.1 (.inl e)).1
  simp only[tOp,e]
  rw[c3y a ⟨0,0,[]⟩ x.kids 0 (by omega),c3y a ⟨0,0,[]⟩ x.kids 1 (by omega)];rfl
 ·have:=(hf.2.2.1 (.inr e)).1
  simp only[tOp,e]
  rw[c3y a ⟨0,0,[]⟩ x.kids 0 (by omega),c3y a ⟨0,0,[]⟩ x.kids 1 (by omega)];rfl
theorem d1w(a n:Int)(h:0≤a∧a≤4096):0≤Int.fdiv a (2 ^ n.toNat)∧Int.fdiv a (2 ^ n.toNat)≤4096:=by
 have e:(2:Int) ^ n.toNat=((2 ^ n.toNat:Nat):Int):=by norm_cast
 have hp:0<2 ^ n.toNat:=Nat.pow_pos (by omega)
 rw[e,Int.fdiv_eq_ediv_of_nonneg _ (by omega)]
 refine⟨Int.ediv_nonneg h.1 (by omega),?_⟩
 have:=Int.ediv_le_self (2 ^ n.toNat:Nat) h.1
 omega
theorem a8l(n:Int):a2k .u64 n=(0≤n∧n≤18446744073709551615):=rfl
theorem b0e:IntKind.u64.min=0:=rfl
theorem b0d:IntKind.u64.max=18446744073709551615:=rfl
theorem a8k(n:Int):a2k .i64 n=a0c n:=rfl
def b9z(n:Nat):Ctr:=⟨c8p,[.v (.st .expr), .v (.int .i64)],fun (x:a0b) (atom:Int)=>⟨(some (msz x<n∧a1k x=true∧0≤atom∧atom≤4096),[⟨.bool,a1b atom x⟩])⟩⟩
def a2r:Ctr:=⟨c8p,[.v (.st .expr), .v (.int .i64)],fun (x:a0b) (atom:Int)=>⟨(some (a1k x=true∧0≤atom∧atom≤4096),[⟨.bool,a1b atom x⟩])⟩⟩
def f3q(x:a0b)(atom:Int):Nat→a0p:=fun _ => .none
abbrev e4m(n:Nat)(x:a0b)(atom:Int):Prop:=(x.kids.length≤140737488355328 →
 (a0k (1:Int) x.kids.length∧((msz (x.kids.getD 1 zE)<n∧a1k (x.kids.getD 1 zE)=true∧0≤atom∧atom≤4096)∧(a1b atom (x.kids.getD 1 zE))=(a1b atom x))))
theorem h2q(n:Nat)(x:a0b)(atom:Int):awp (a0r [b9z n] [] [] [2]) (a0j b7k) (f3q x atom) 0 (a1c (a0r [b9z n] [] [] [2]) b7k fun r=>a1f r [⟨.bool,a1b atom x⟩]) (a0m b7k [.val ⟨(.st .expr),x⟩, .val ⟨(.int .i64),atom⟩]) =
 ((a0c x.kind →
 (((decide (x.kind=(2:Int)))=true →
 true=(a1b atom x))∧((decide (x.kind=(2:Int)))=false →
 (((decide (x.kind=(3:Int)))=true →
 (a0c x.num →
 (((0:Int)≤x.num∧(x.num<(64:Int)∧a0c (atom.fdiv (2 ^ x.num.toNat))))∧(((0:Int)≤(atom.fdiv (2 ^ x.num.toNat))∧((0:Int)≤(1:Int)∧(a0c (atom.fdiv (2 ^ x.num.toNat))∧a0c (1:Int))))∧(decide (((((atom.fdiv (2 ^ x.num.toNat)).toNat &&& (1:Int).toNat:Nat):Int))=(1:Int)))=(a1b atom x)))))∧((decide (x.kind=(3:Int)))=false →
 (((decide (x.kind=(5:Int)))=true →
 (x.kids.length≤140737488355328 →
 (a0k (0:Int) x.kids.length∧((msz (x.kids.getD 0 zE)<n∧a1k (x.kids.getD 0 zE)=true∧0≤atom∧atom≤4096)∧(!(a1b atom (x.kids.getD 0 zE)))=(a1b atom x)))))∧((decide (x.kind=(5:Int)))=false →
 (((decide (x.kind=(6:Int)))=true →
 (x.kids.length≤140737488355328 →
 (a0k (0:Int) x.kids.length∧((msz (x.kids.getD 0 zE)<n∧a1k (x.kids.getD 0 zE)=true∧0≤atom∧atom≤4096)∧(((a1b atom (x.kids.getD 0 zE))=false →
 (e4m n x atom))∧((a1b atom (x.kids.getD 0 zE))=(!false) →
 true=(a1b atom x)))))))∧((decide (x.kind=(6:Int)))=false →
 (((decide (x.kind=(7:Int)))=true →
 (x.kids.length≤140737488355328 →
 (a0k (0:Int) x.kids.length∧((msz (x.kids.getD 0 zE)<n∧a1k (x.kids.getD 0 zE)=true∧0≤atom∧atom≤4096)∧(((a1b atom (x.kids.getD 0 zE))=true →
 (e4m n x atom))∧((a1b atom (x.kids.getD 0 zE))=(!true) →
 false=(a1b atom x)))))))∧((decide (x.kind=(7:Int)))=false →
 false=(a1b atom x))))))))))))):=by kernel_rfl
theorem h2f(n:Nat)(hE:a0o [b9z n]):Ctr.Good (b9z (n+1)):=by
 refine⟨a0l c5m rfl (by decide),?_⟩
 show ∀ (x:a0b) (atom:Int),(msz x<n+1∧a1k x=true∧0≤atom∧atom≤4096)→a1e prog c8p [.val ⟨(.st .expr),x⟩, .val ⟨(.int .i64),atom⟩] (·=[⟨.bool,a1b atom x⟩])
 intro x atom hp
 refine a0w (wr:=[]) (cl:=[]) (ro:=[2]) hE c5m g4b (f3q x atom) ?_
 rewrite [h2q n x atom]
 have f1:=e2m x hp.2.1
 have f2:=g6v atom x hp.2.1
 have f3:=d1w atom x.num ⟨hp.2.2.1,hp.2.2.2⟩
 refine fun a0=>⟨fun a1=>?_,fun a1=>⟨fun a2=>fun a3=>⟨⟨?_,⟨?_,?_⟩⟩,⟨⟨?_,⟨?_,⟨?_,?_⟩⟩⟩,?_⟩⟩,fun a2=>⟨fun a3=>fun a4=>⟨?_,⟨?_,?_⟩⟩,fun a3=>⟨fun a4=>fun a5=>⟨?_,⟨?_,⟨fun a6=>fun a7=>⟨?_,⟨?_,?_⟩⟩,fun a6=>?_⟩⟩⟩,fun a4=>⟨fun a5=>fun a6=>⟨?_,⟨?_,⟨fun a7=>fun a8=>⟨?_,⟨?_,?_⟩⟩,fun a7=>?_⟩⟩⟩,fun a5=>?_⟩⟩⟩⟩⟩
 all_goals try and_intros
 all_goals first|rfl|trivial|omega|(simp only[decide_eq_true_eq,decide_eq_false_iff_not,a0k,a0c,a8l,a8k,b0e,b0d] at *;omega)|(simp only[d0m] at *;grind [a0k,a0c,h2z,b0e,b0d])
theorem f8w :∀ n,a0o [b9z n]
 | 0=>⟨⟨a0l c5m rfl (by decide),fun _ _ h=>absurd h.1 (Nat.not_lt_zero _)⟩,trivial⟩
 | n+1=>by
  have ih:=f8w  n
  exact⟨h2f n ⟨ih.1,trivial⟩,trivial⟩
theorem a8j :Ctr.Good a2r :=
 ⟨a0l c5m rfl (by decide),fun x atom hp=>(f8w  (msz x+1)).1.2 x atom (⟨Nat.lt_succ_self _,hp⟩)⟩
def b5z(n:Nat):Ctr:=⟨c3p,[.r (.st .expr), .v (.int .i64)],fun (x:a0b) (atom:Int)=>⟨(some (msz x<n∧a1k x=true∧0≤atom∧atom≤4096),[⟨.bool,a1b atom x⟩])⟩⟩
def a5h:Ctr:=⟨c3p,[.r (.st .expr), .v (.int .i64)],fun (x:a0b) (atom:Int)=>⟨(some (a1k x=true∧0≤atom∧atom≤4096),[⟨.bool,a1b atom x⟩])⟩⟩
def e5b(x:a0b)(atom:Int):Nat→a0p:=fun _ => .none
abbrev d7z(n:Nat)(x:a0b)(atom:Int):Prop:=(x.kids.length≤140737488355328 →
 (a0k (1:Int) x.kids.length∧((msz (x.kids.getD 1 zE)<n∧a1k (x.kids.getD 1 zE)=true∧0≤atom∧atom≤4096)∧(a1b atom (x.kids.getD 1 zE))=(a1b atom x))))
theorem g7k(n:Nat)(x:a0b)(atom:Int):awp (a0r [b5z n]) (a0j b2s) (e5b x atom) 0 (a1c (a0r [b5z n]) b2s fun r=>a1f r [⟨.bool,a1b atom x⟩]) (a0m b2s [.ref ⟨(.st .expr),x⟩, .val ⟨(.int .i64),atom⟩]) =
 ((a0c x.kind →
 (((decide (x.kind=(1:Int)))=true →
 false=(a1b atom x))∧((decide (x.kind=(1:Int)))=false →
 (((decide (x.kind=(2:Int)))=true →
 true=(a1b atom x))∧((decide (x.kind=(2:Int)))=false →
 (((decide (x.kind=(3:Int)))=true →
 (a0c x.num →
 (a2k .u64 x.num∧(((0:Int)≤x.num∧(x.num<(64:Int)∧a0c (atom.fdiv (2 ^ x.num.toNat))))∧(((0:Int)≤(atom.fdiv (2 ^ x.num.toNat))∧((0:Int)≤(1:Int)∧(a0c (atom.fdiv (2 ^ x.num.toNat))∧a0c (1:Int))))∧(decide (((((atom.fdiv (2 ^ x.num.toNat)).toNat &&& (1:Int).toNat:Nat):Int))=(1:Int)))=(a1b atom x))))))∧((decide (x.kind=(3:Int)))=false →
 (((decide (x.kind=(5:Int)))=true →
 (x.kids.length≤140737488355328 →
 (a0k (0:Int) x.kids.length∧((msz (x.kids.getD 0 zE)<n∧a1k (x.kids.getD 0 zE)=true∧0≤atom∧atom≤4096)∧(!(a1b atom (x.kids.getD 0 zE)))=(a1b atom x)))))∧((decide (x.kind=(5:Int)))=false →
 (((decide (x.kind=(6:Int)))=true →
 (x.kids.length≤140737488355328 →
 (a0k (0:Int) x.kids.length∧((msz (x.kids.getD 0 zE)<n∧a1k (x.kids.getD 0 zE)=true∧0≤atom∧atom≤4096)∧(((a1b atom (x.kids.getD 0 zE))=false →
 (d7z n x atom))∧((a1b atom (x.kids.getD 0 zE))=(!false) →
 true=(a1b atom x)))))))∧((decide (x.kind=(6:Int)))=false →
 (x.kids.length≤140737488355328 →
 (a0k (0:Int) x.kids.length∧((msz (x.kids.getD 0 zE)<n∧a1k (x.kids.getD 0 zE)=true∧0≤atom∧atom≤4096)∧(((a1b atom (x.kids.getD 0 zE))=true →
 (d7z n x atom))∧((a1b atom (x.kids.getD 0 zE))=(!true) →
 false=(a1b atom x)))))))))))))))))):=by kernel_rfl
theorem g5q(n:Nat)(hE:a0o [b5z n]):Ctr.Good (b5z (n+1)):=by
 refine⟨a0l c0v rfl (by decide),?_⟩
 show ∀ (x:a0b) (atom:Int),(msz x<n+1∧a1k x=true∧0≤atom∧atom≤4096)→a1e prog c3p [.ref ⟨(.st .expr),x⟩, .val ⟨(.int .i64),atom⟩] (·=[⟨.bool,a1b atom x⟩])
 intro x atom hp
 refine a0w (wr:=[]) (cl:=[]) (ro:=[]) hE c0v f6q (e5b x atom) ?_
 rewrite [g7k n x atom]
 have f1:=e2m x hp.2.1
 have f2:=g6v atom x hp.2.1
 have f3:=d1w atom x.num ⟨hp.2.2.1,hp.2.2.2⟩
 refine fun a0=>⟨fun a1=>?_,fun a1=>⟨fun a2=>?_,fun a2=>⟨fun a3=>fun a4=>⟨?_,⟨⟨?_,⟨?_,?_⟩⟩,⟨⟨?_,⟨?_,⟨?_,?_⟩⟩⟩,?_⟩⟩⟩,fun a3=>⟨fun a4=>fun a5=>⟨?_,⟨?_,?_⟩⟩,fun a4=>⟨fun a5=>fun a6=>⟨?_,⟨?_,⟨fun a7=>fun a8=>⟨?_,⟨?_,?_⟩⟩,fun a7=>?_⟩⟩⟩,fun a5=>fun a6=>⟨?_,⟨?_,⟨fun a7=>fun a8=>⟨?_,⟨?_,?_⟩⟩,fun a7=>?_⟩⟩⟩⟩⟩⟩⟩⟩
 all_goals try and_intros
 all_goals first|rfl|trivial|omega|(simp only[decide_eq_true_eq,decide_eq_false_iff_not,a0k,a0c,a8l,a8k,b0e,b0d] at *;omega)|(simp only[d0m] at *;grind [a0k,a0c,h2z,b0e,b0d])
theorem f8x :∀ n,a0o [b5z n]
 | 0=>⟨⟨a0l c0v rfl (by decide),fun _ _ h=>absurd h.1 (Nat.not_lt_zero _)⟩,trivial⟩
 | n+1=>by
  have ih:=f8x  n
  exact⟨g5q n ⟨ih.1,trivial⟩,trivial⟩
theorem c4f :Ctr.Good a5h :=
 ⟨a0l c0v rfl (by decide),fun x atom hp=>(f8x  (msz x+1)).1.2 x atom (⟨Nat.lt_succ_self _,hp⟩)⟩
end
end Go.Proofs.YthebhlkdppmefaaGreat

set_option linter.unusedVariables false
set_option linter.unusedSimpArgs false
set_option linter.unusedSectionVars false
set_option maxRecDepth 4000
set_option maxHeartbeats 4000000
namespace Go.Proofs.YthebhlkdppmefaaGreat
noncomputable section
def a0a(gg:a0h):Int:=1 * 2 ^ gg.tests.toNat
theorem c6q(gg:a0h)(h:0≤gg.tests∧gg.tests≤3):1≤a0a gg∧a0a gg≤8:=by
 have:gg.tests=0∨gg.tests=1∨gg.tests=2∨gg.tests=3:=by omega
 unfold a0a
 rcases this with e|e|e|e<;>rw[e]<;>decide
theorem a4l(gg:a0h):a1i gg=true↔(0≤gg.tests∧gg.tests≤3)∧(0≤gg.actions∧gg.actions≤4):=by
 simp[a1i]
def isE(gg:a0h)(x:a0b):Bool:=shB gg x 200 40
def okE(gg:a0h)(x:a0b):Bool:=a1i gg&&isE gg x
def isC(gg:a0h)(x:a0b):Bool:=isE gg x&&a1l x
def okC(gg:a0h)(x:a0b):Bool:=okE gg x&&a1l x
theorem e4l(gg:a0h)(x:a0b):isE gg x=true↔a1q (a0t gg.tests) (a0t gg.actions) x=true∧a1d x≤200∧a1n x≤40:=by
 simp only[isE,shB,Bool.and_eq_true,decide_eq_true_eq]
 constructor
 ·rintro⟨⟨a,b⟩,c⟩;exact⟨a,by omega,by omega⟩
 ·rintro⟨a,b,c⟩;exact⟨⟨a,by omega⟩,by omega⟩
theorem h7u(t a t' a':Int)(h1:t≤t')(h2:a≤a')(x:a0b)(h:b7a t a x=true):b7a t' a' x=true:=by
 rw[g1e] at h ⊢
 simp only[Bool.and_eq_true] at h ⊢
 refine⟨⟨h.1.1,?_⟩,h.2⟩
 have:=h.1.2
 unfold e7x at this ⊢
 split
 ·rename_i e;rw[if_pos e] at this;simp only[decide_eq_true_eq] at this ⊢;omega
 ·rename_i e;rw[if_neg e] at this
  split
  ·rename_i e';rw[if_pos e'] at this;simp only[decide_eq_true_eq] at this ⊢;omega
  ·rename_i e';rw[if_neg e'] at this;exact this
mutual
theorem e8q(t a t' a':Int)(h1:t≤t')(h2:a≤a'):∀ x:a0b,a1q t a x=true→a1q t' a' x=true
 | ⟨k,n,ks⟩=>fun h=>by
  simp only[a1q,Bool.and_eq_true] at h ⊢
  exact⟨h7u t a t' a' h1 h2 _ h.1,f9o t a t' a' h1 h2 ks h.2⟩
theorem f9o(t a t' a':Int)(h1:t≤t')(h2:a≤a'):∀ xs:List a0b,c0e t a xs=true→c0e t' a' xs=true
 | []=>fun _=>rfl
 | x::xs=>fun h=>by
  simp only[c0e,Bool.and_eq_true] at h ⊢
  exact⟨e8q t a t' a' h1 h2 x h.1,f9o t a t' a' h1 h2 xs h.2⟩
end
theorem b9i(gg:a0h)(x:a0b)(hg:a1i gg=true)(h:isC gg x=true):a1k x=true:=by
 simp only[isC,Bool.and_eq_true,e4l] at h
 rw[a4l] at hg
 rw[c7p _ (by omega),c7p _ (by omega)] at h
 simp only[a1k,Bool.and_eq_true]
 exact⟨e8q _ _ _ _ (by omega) (by omega) x h.1.1,h.2⟩
def a4n(p:Nat→Bool):Nat→Bool
 | 0=>true
 | n+1=>a4n p n&&p n
theorem h3j(p:Nat→Bool):∀ (n k:Nat),k<n→p k=false→a4n p n=false
 | n+1,k,h,e=>by
  rcases Nat.lt_or_ge k n with h'|h'
  ·simp[a4n,h3j p n k h' e]
  ·have:k=n:=by omega
   subst this;simp[a4n,e]
theorem d2c(p:Nat→Bool)(n:Nat):a4n p (n+1)=(a4n p n&&p n):=rfl
def a3o:Ctr:=⟨d0s,[.v (.st .sig)],fun (gg:a0h)=>⟨(some (0≤gg.tests∧gg.tests≤3),[⟨(.int .i64),a0a gg⟩])⟩⟩
def e4q(gg:a0h):Nat→a0p:=fun _ => .none
theorem g6z(gg:a0h):awp (a0r [] [] [] [1]) (a0j b2h) (e4q gg) 0 (a1c (a0r [] [] [] [1]) b2h fun r=>a1f r [⟨(.int .i64),a0a gg⟩]) (a0m b2h [.val ⟨(.st .sig),gg⟩]) =
 ((a0c gg.tests →
 (((0:Int)≤gg.tests∧(gg.tests<(64:Int)∧a0c ((1:Int) * 2 ^ gg.tests.toNat)))∧((1:Int) * 2 ^ gg.tests.toNat)=(a0a gg)))):=by kernel_rfl
theorem g5e(hE:a0o []):Ctr.Good a3o:=by
 refine⟨a0l d9r rfl (by decide),?_⟩
 show ∀ (gg:a0h),(0≤gg.tests∧gg.tests≤3)→a1e prog d0s [.val ⟨(.st .sig),gg⟩] (·=[⟨(.int .i64),a0a gg⟩])
 intro gg hp
 refine a0w (wr:=[]) (cl:=[]) (ro:=[1]) hE d9r f6f (e4q gg) ?_
 rewrite [g6z gg]
 have f1:=c6q gg hp
 refine fun a0=>⟨⟨?_,⟨?_,?_⟩⟩,?_⟩
 all_goals try and_intros
 all_goals first|rfl|trivial|(simp only[decide_eq_true_eq,decide_eq_false_iff_not,a0k,a0c,a8l,a8k,b0e,b0d,a0a] at *;omega)
theorem b6z:Ctr.Good a3o:=g5e trivial
def a4f:Ctr:=⟨c8s,[.v (.st .sig)],fun (gg:a0h)=>⟨(some (0≤gg.tests∧gg.tests≤3),[⟨(.int .i64),a0a gg⟩])⟩⟩
def e1e(gg:a0h):Nat→a0p:=fun _ => .none
theorem g2p(gg:a0h):awp (a0r [] [] [] [1]) (a0j b1e) (e1e gg) 0 (a1c (a0r [] [] [] [1]) b1e fun r=>a1f r [⟨(.int .i64),a0a gg⟩]) (a0m b1e [.val ⟨(.st .sig),gg⟩]) =
 ((a0c gg.tests →
 (a2k .u64 gg.tests∧(((0:Int)≤gg.tests∧(gg.tests<(64:Int)∧a0c ((1:Int) * 2 ^ gg.tests.toNat)))∧((1:Int) * 2 ^ gg.tests.toNat)=(a0a gg))))):=by kernel_rfl
theorem g1t(hE:a0o []):Ctr.Good a4f:=by
 refine⟨a0l d7a rfl (by decide),?_⟩
 show ∀ (gg:a0h),(0≤gg.tests∧gg.tests≤3)→a1e prog c8s [.val ⟨(.st .sig),gg⟩] (·=[⟨(.int .i64),a0a gg⟩])
 intro gg hp
 refine a0w (wr:=[]) (cl:=[]) (ro:=[1]) hE d7a f2c (e1e gg) ?_
 rewrite [g2p gg]
 have f1:=c6q gg hp
 refine fun a0=>⟨?_,⟨⟨?_,⟨?_,?_⟩⟩,?_⟩⟩
 all_goals try and_intros
 all_goals first|rfl|trivial|(simp only[decide_eq_true_eq,decide_eq_false_iff_not,a0k,a0c,a8l,a8k,b0e,b0d,a0a] at *;omega)
theorem c1s:Ctr.Good a4f:=g1t trivial
def a9a:Ctr:=⟨d3s,[.v (.st .sig), .v (.st .expr)],fun (gg:a0h) (x:a0b)=>⟨(none,[⟨.bool,isE gg x⟩])⟩⟩
def e9p(gg:a0h)(x:a0b):Nat→a0p:=fun _ => .none
theorem g9s(gg:a0h)(x:a0b):awp (a0r [c5o] [] [] [2,3]) (a0j b4q) (e9p gg x) 0 (a1c (a0r [c5o] [] [] [2,3]) b4q fun r=>a1f r [⟨.bool,isE gg x⟩]) (a0m b4q [.val ⟨(.st .sig),gg⟩, .val ⟨(.st .expr),x⟩]) =
 (((0≤(200:Int)∧(200:Int)≤1048576∧0≤(40:Int)∧(40:Int)≤1048576)∧(a0c (shN gg x (200:Int) (40:Int)) →
 (shB gg x (200:Int) (40:Int))=(isE gg x)))):=by kernel_rfl
theorem g8t(hE:a0o [c5o]):Ctr.Good a9a:=by
 refine⟨a0l e3d rfl (by decide),?_⟩
 show ∀ (gg:a0h) (x:a0b),True→a1e prog d3s [.val ⟨(.st .sig),gg⟩, .val ⟨(.st .expr),x⟩] (·=[⟨.bool,isE gg x⟩])
 intro gg x _
 refine a0w (wr:=[]) (cl:=[]) (ro:=[2,3]) hE e3d g0c (e9p gg x) ?_
 rewrite [g9s gg x]
 refine⟨?_,fun a0=>?_⟩
 all_goals try and_intros
 all_goals first|rfl|trivial|omega|(simp only[decide_eq_true_eq,decide_eq_false_iff_not,a0k,a0c,a2k,a8i,a5r,a1p] at *;omega)|(simp[a0k,a0c] at *;omega)|grind
theorem d7q:Ctr.Good a9a:=g8t ⟨g1a,trivial⟩
def b3m:Ctr:=⟨c6a,[.v (.st .sig), .v (.st .expr)],fun (gg:a0h) (x:a0b)=>⟨(none,[⟨.bool,okE gg x⟩])⟩⟩
def d8g(gg:a0h)(x:a0b):Nat→a0p:=fun _ => .none
theorem f8j(gg:a0h)(x:a0b):awp (a0r [a9a,a3g] [] [] [2,3]) (a0j a9r) (d8g gg x) 0 (a1c (a0r [a9a,a3g] [] [] [2,3]) a9r fun r=>a1f r [⟨.bool,okE gg x⟩]) (a0m a9r [.val ⟨(.st .sig),gg⟩, .val ⟨(.st .expr),x⟩]) =
 ((((a1i gg)=true →
 (isE gg x)=(okE gg x))∧((a1i gg)=(!true) →
 false=(okE gg x)))):=by kernel_rfl
theorem f7y(hE:a0o [a9a,a3g]):Ctr.Good b3m:=by
 refine⟨a0l d4i rfl (by decide),?_⟩
 show ∀ (gg:a0h) (x:a0b),True→a1e prog c6a [.val ⟨(.st .sig),gg⟩, .val ⟨(.st .expr),x⟩] (·=[⟨.bool,okE gg x⟩])
 intro gg x _
 refine a0w (wr:=[]) (cl:=[]) (ro:=[2,3]) hE d4i f0l (d8g gg x) ?_
 rewrite [f8j gg x]
 refine⟨fun a0=>?_,fun a0=>?_⟩
 all_goals try and_intros
 all_goals first|rfl|trivial|(simp_all [okE];done)
theorem f0u:Ctr.Good b3m:=f7y ⟨d7q,b5o,trivial⟩
def b0n:Ctr:=⟨d8v,[.v (.st .sig), .r (.st .expr)],fun (gg:a0h) (x:a0b)=>⟨(none,[⟨.bool,okE gg x⟩])⟩⟩
def f3s(gg:a0h)(x:a0b):Nat→a0p:=fun _ => .none
abbrev e4n(gg:a0h)(x:a0b):Prop:=(a1n x≤1048576∧(a0c ((a1n x:Int)) →
 (((decide (((a1n x:Int))≤(40:Int)))=true →
 (a1q (a0t gg.tests) (a0t gg.actions) x)=(okE gg x))∧((decide (((a1n x:Int))≤(40:Int)))=(!true) →
 false=(okE gg x)))))
theorem h2s(gg:a0h)(x:a0b):awp (a0r [a9e,c3c,c1j,c3d] [] [] [2]) (a0j b7m) (f3s gg x) 0 (a1c (a0r [a9e,c3c,c1j,c3d] [] [] [2]) b7m fun r=>a1f r [⟨.bool,okE gg x⟩]) (a0m b7m [.val ⟨(.st .sig),gg⟩, .ref ⟨(.st .expr),x⟩]) =
 ((((a1i gg)=true →
 ((0≤(200:Int)∧(200:Int)≤1048576)∧(a0c (szR (a1d x) (200:Int)) →
 (((decide ((0:Int)≤(szR (a1d x) (200:Int))))=true →
 (e4n gg x))∧((decide ((0:Int)≤(szR (a1d x) (200:Int))))=(!true) →
 ((false=true →
 (a1q (a0t gg.tests) (a0t gg.actions) x)=(okE gg x))∧(false=(!true) →
 false=(okE gg x))))))))∧((a1i gg)=(!true) →
 ((false=true →
 (e4n gg x))∧(false=(!true) →
 ((false=true →
 (a1q (a0t gg.tests) (a0t gg.actions) x)=(okE gg x))∧(false=(!true) →
 false=(okE gg x)))))))):=by kernel_rfl
theorem h2h(hE:a0o [a9e,c3c,c1j,c3d]):Ctr.Good b0n:=by
 refine⟨a0l e9g rfl (by decide),?_⟩
 show ∀ (gg:a0h) (x:a0b),True→a1e prog d8v [.val ⟨(.st .sig),gg⟩, .ref ⟨(.st .expr),x⟩] (·=[⟨.bool,okE gg x⟩])
 intro gg x _
 refine a0w (wr:=[]) (cl:=[]) (ro:=[2]) hE e9g g4d (f3s gg x) ?_
 rewrite [h2s gg x]
 have f1:=c0d (a1d x) 200
 have f2:=f8z x
 have f3:okE gg x=(a1i gg&&(a1q (a0t gg.tests) (a0t gg.actions) x&&decide ((a1d x:Int)≤200)&&decide ((a1n x:Int)≤40))):=rfl
 refine⟨fun a0=>⟨?_,fun a1=>⟨fun a2=>⟨?_,fun a3=>⟨fun a4=>?_,fun a4=>?_⟩⟩,fun a2=>⟨fun a3=>?_,fun a3=>?_⟩⟩⟩,fun a0=>⟨fun a1=>⟨?_,fun a2=>⟨fun a3=>?_,fun a3=>?_⟩⟩,fun a1=>⟨fun a2=>?_,fun a2=>?_⟩⟩⟩
 all_goals try and_intros
 all_goals try rw[f3]
 all_goals first|rfl|trivial|omega|(simp only[decide_eq_true_eq,decide_eq_false_iff_not,Bool.not_eq_true',Bool.not_eq_false'] at *;omega)|grind
theorem e0n:Ctr.Good b0n:=h2h ⟨d7u,f7m,f3d,f7n,trivial⟩
def a2b:Ctr:=⟨c2j,[.v (.st .sig), .v (.st .expr)],fun (gg:a0h) (x:a0b)=>⟨(none,[⟨.bool,isC gg x⟩])⟩⟩
def d2y(gg:a0h)(x:a0b):Nat→a0p:=fun _ => .none
theorem f1o(gg:a0h)(x:a0b):awp (a0r [a9a,a3v] [] [] [2,3]) (a0j a7p) (d2y gg x) 0 (a1c (a0r [a9a,a3v] [] [] [2,3]) a7p fun r=>a1f r [⟨.bool,isC gg x⟩]) (a0m a7p [.val ⟨(.st .sig),gg⟩, .val ⟨(.st .expr),x⟩]) =
 ((((isE gg x)=true →
 (a1l x)=(isC gg x))∧((isE gg x)=(!true) →
 false=(isC gg x)))):=by kernel_rfl
theorem f1g(hE:a0o [a9a,a3v]):Ctr.Good a2b:=by
 refine⟨a0l c9k rfl (by decide),?_⟩
 show ∀ (gg:a0h) (x:a0b),True→a1e prog c2j [.val ⟨(.st .sig),gg⟩, .val ⟨(.st .expr),x⟩] (·=[⟨.bool,isC gg x⟩])
 intro gg x _
 refine a0w (wr:=[]) (cl:=[]) (ro:=[2,3]) hE c9k e3v (d2y gg x) ?_
 rewrite [f1o gg x]
 refine⟨fun a0=>?_,fun a0=>?_⟩
 all_goals try and_intros
 all_goals first|rfl|trivial|(simp_all [isC];done)
theorem a7x:Ctr.Good a2b:=f1g ⟨d7q,b7q,trivial⟩
def a7z:Ctr:=⟨d0z,[.v (.st .sig), .r (.st .expr)],fun (gg:a0h) (x:a0b)=>⟨(none,[⟨.bool,okC gg x⟩])⟩⟩
def e5f(gg:a0h)(x:a0b):Nat→a0p:=fun _ => .none
theorem g7o(gg:a0h)(x:a0b):awp (a0r [b0n,a5o] [] [] [2]) (a0j b2v) (e5f gg x) 0 (a1c (a0r [b0n,a5o] [] [] [2]) b2v fun r=>a1f r [⟨.bool,okC gg x⟩]) (a0m b2v [.val ⟨(.st .sig),gg⟩, .ref ⟨(.st .expr),x⟩]) =
 ((((okE gg x)=true →
 (a1l x)=(okC gg x))∧((okE gg x)=(!true) →
 false=(okC gg x)))):=by kernel_rfl
theorem g5u(hE:a0o [b0n,a5o]):Ctr.Good a7z:=by
 refine⟨a0l e0c rfl (by decide),?_⟩
 show ∀ (gg:a0h) (x:a0b),True→a1e prog d0z [.val ⟨(.st .sig),gg⟩, .ref ⟨(.st .expr),x⟩] (·=[⟨.bool,okC gg x⟩])
 intro gg x _
 refine a0w (wr:=[]) (cl:=[]) (ro:=[2]) hE e0c f6t (e5f gg x) ?_
 rewrite [g7o gg x]
 refine⟨fun a0=>?_,fun a0=>?_⟩
 all_goals try and_intros
 all_goals first|rfl|trivial|(simp_all [okC];done)
theorem d4u:Ctr.Good a7z:=g5u ⟨e0n,c4x,trivial⟩
end
end Go.Proofs.YthebhlkdppmefaaGreat

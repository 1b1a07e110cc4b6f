/- Weakest and strongest conditions, atoms of conditions: the program. Printed by vmk.py. -/
import Derived.Test.YthebhlkdppmefaaGreatVmUse
import Derived.Test.YthebhlkdppmefaaGreatVmLib
import Derived.Test.YthebhlkdppmefaaGreatVmUnder2
import Derived.Test.YthebhlkdppmefaaGreatVmCond3
import Derived.Test.YthebhlkdppmefaaGreatVmWkn
import Derived.Test.YthebhlkdppmefaaGreatVmGen5
set_option linter.unusedVariables false
set_option linter.unusedSimpArgs false
set_option linter.unusedSectionVars false
set_option maxRecDepth 4000
set_option maxHeartbeats 4000000
namespace Go.Proofs.YthebhlkdppmefaaGreat
noncomputable section
def a4z(ways:List (List Bool))(y:Int):Int→Prop×Bool:=fun (x:Int)=>((inT ways x y),gt2 ways x y)
theorem d5o(ways:List (List Bool))(y:Int)(x:Int):(a4z ways y x).1=(inT ways x y):=rfl
def b4m:Nat×c4d:=(a9i,⟨[(.int .i64)], .bool,[(true,(.slice (.slice .bool))),(true,(.int .i64))]⟩)
def a6m:Ctr:=⟨a9i,[.v (.int .i64), .r (.slice (.slice .bool)), .r (.int .i64)],fun (x:Int) (ways:List (List Bool)) (y:Int)=>⟨(some (inT ways x y),[⟨.bool,gt2 ways x y⟩])⟩⟩
def c4a(x:Int)(ways:List (List Bool))(y:Int):Nat→a0p:=fun _ => .none
theorem d9g(x:Int)(ways:List (List Bool))(y:Int):awp (a0r []) (a0j a5a) (c4a x ways y) 0 (a1c (a0r []) a5a fun r=>a1f r [⟨.bool,gt2 ways x y⟩]) (a0m a5a [.val ⟨(.int .i64),x⟩, .ref ⟨(.slice (.slice .bool)),ways⟩, .ref ⟨(.int .i64),y⟩]) =
 ((a0k x ways.length∧(ways.length≤140737488355328 →
 ((ways.getD (Int.toNat x) []).length≤140737488355328 →
 (a0c y →
 (a0k y (ways.getD (Int.toNat x) []).length∧((ways.getD (Int.toNat x) []).getD (Int.toNat y) false)=(gt2 ways x y))))))):=by kernel_rfl
theorem d8z(hE:a0o []):Ctr.Good a6m:=by
 refine⟨a0l c1q rfl (by decide),?_⟩
 show ∀ (x:Int) (ways:List (List Bool)) (y:Int),(inT ways x y)→a1e prog a9i [.val ⟨(.int .i64),x⟩, .ref ⟨(.slice (.slice .bool)),ways⟩, .ref ⟨(.int .i64),y⟩] (·=[⟨.bool,gt2 ways x y⟩])
 intro x ways y hp
 refine a0w (wr:=[]) (cl:=[]) (ro:=[]) hE c1q d3l (c4a x ways y) ?_
 rewrite [d9g x ways y]
 have f0:=hp
 unfold inT at f0
 refine⟨?_,fun a0=>fun a1=>fun a2=>⟨?_,?_⟩⟩
 all_goals try and_intros
 all_goals first|with_reducible rfl|omega|(simp only[a0k,a0c] at *;omega)|grind [gt2,a0k,a0c]
theorem d3o:Ctr.Good a6m:=d8z trivial
theorem f5m(gg:a0h)(xs:List a0e)(p:a0d)(c:a0b)(h:okL gg xs p)(k:Nat)(hk:k<(a0a gg).toNat):g0a (a4z (a0g (a0a gg) xs p) (k:Int)) (atN gg c):=by
 intro i hi
 have hs:=b6t gg (a0a gg) xs p h.tree
 have hn:=(a5w gg h.sig).2
 have h1:=h4n _ _ (g8d gg c) i hi
 rw[d5o]
 exact f3l _ _ hs (by omega) _ _ ⟨h1.1,by omega⟩ ⟨by omega,by omega⟩
theorem f5z(gg:a0h)(xs:List a0e)(p:a0d)(c:a0b)(k:Nat):(atN gg c).any (fun x=>(a4z (a0g (a0a gg) xs p) (k:Int) x).2)=a5u gg xs c p k:=rfl
theorem f6a(gg:a0h)(xs:List a0e)(c:a0b)(p:a0d)(k:Nat)(h1:a0a gg≤(k:Int))(h2:k≤(a0a gg).toNat):a0y (a5u gg xs c p) k=a0y (a5u gg xs c p) (a0a gg).toNat:=by
 have:k=(a0a gg).toNat:=by omega
 rw[this]
def a5i:Ctr:=⟨b8m,[.v (.st .sig), .v (.slice (.st .premise)), .v (.st .expr), .v (.st .prog)],fun (gg:a0h) (xs:List a0e) (c:a0b) (p:a0d)=>⟨(none,[⟨(.slice (.int .i64)),suV gg xs c p⟩,⟨(.int .i64),wuC gg xs p c⟩])⟩⟩
def c5b(gg:a0h)(xs:List a0e)(c:a0b)(p:a0d):Nat→a0p:=(fun zb=>if Nat.beq zb 0 then .mk (Nat) (fun k=>k≤(a0a gg).toNat∧okL gg xs p∧a1k c=true∧suV gg xs c p=a0y (a5u gg xs c p) (a0a gg).toNat∧wuC gg xs p c=0) (fun k=>(a0a gg).toNat - k) [] [0,1,2,3,5,7,13,14,15,16,17,18,19,20,21,22,23,24,25,26,27,28,29,30,31,32,33,34] (fun k=>[(36, .imm ⟨(.int .i64),((k:Int):Int)⟩),(11, .row 33)]) [4,6,8,9,10,11,12,35,36,37,38,39,40,41,42,43,44,45,46,47,48,49] (fun k=>[(33, .row c0f (.int .i64) (a0y (a5u gg xs c p) k:List Int))]) [] [] (fun k=>fun _ => .none) else .none)
abbrev c1y(gg:a0h)(c:a0b)(k1:Nat)(k2:Nat):Prop:=(gg=gg∧(c=c∧(True∧((0:Int)=(0:Int)∧(True∧(True∧((a0a gg)=(a0a gg)∧(((k1:Int)+(1:Int))=(k2:Int)∧True))))))))
abbrev b3l(gg:a0h)(xs:List a0e)(c:a0b)(p:a0d):Prop:=(okL gg xs p∧((a0g (a0a gg) xs p).length≤140737488355328 →
 ((0≤gg.tests∧gg.tests≤3)∧(a0c (a0a gg) →
 ((∃ k1:Nat,((k1≤(a0a gg).toNat∧okL gg xs p∧a1k c=true∧suV gg xs c p=a0y (a5u gg xs c p) (a0a gg).toNat∧wuC gg xs p c=0)∧((gg=gg∧(c=c∧(True∧((0:Int)=(0:Int)∧(True∧(True∧((a0a gg)=(a0a gg)∧((0:Int)=(k1:Int)∧True))))))))∧([]=(a0y (a5u gg xs c p) k1)∧(((a0g (a0a gg) xs p)=(a0g (a0a gg) xs p)∧True)∧True)))))∧(∀ k1:Nat,((k1≤(a0a gg).toNat∧okL gg xs p∧a1k c=true∧suV gg xs c p=a0y (a5u gg xs c p) (a0a gg).toNat∧wuC gg xs p c=0) →
 (((decide ((k1:Int)<(a0a gg)))=true →
 ((a1i gg=true∧a1k c=true)∧((atN gg c).length≤140737488355328 →
 (g0a (a4z (a0g (a0a gg) xs p) (k1:Int)) (atN gg c)∧((((atN gg c).any (fun x=>((a4z (a0g (a0a gg) xs p) (k1:Int)) x).2))=true →
 (a0c (k1:Int) →
 (a1p ((a0y (a5u gg xs c p) k1).length+([(k1:Int)]).length) 8∧(a0c ((k1:Int)+(1:Int))∧(∃ k2:Nat,((k2≤(a0a gg).toNat∧okL gg xs p∧a1k c=true∧suV gg xs c p=a0y (a5u gg xs c p) (a0a gg).toNat∧wuC gg xs p c=0)∧((a0a gg).toNat - k2<(a0a gg).toNat - k1∧((c1y gg c k1 k2)∧(((a0y (a5u gg xs c p) k1)++([(k1:Int)]))=(a0y (a5u gg xs c p) k2)∧(((a0g (a0a gg) xs p)=(a0g (a0a gg) xs p)∧True)∧True))))))))))∧(((atN gg c).any (fun x=>((a4z (a0g (a0a gg) xs p) (k1:Int)) x).2))=false →
 (a0c ((k1:Int)+(1:Int))∧(∃ k2:Nat,((k2≤(a0a gg).toNat∧okL gg xs p∧a1k c=true∧suV gg xs c p=a0y (a5u gg xs c p) (a0a gg).toNat∧wuC gg xs p c=0)∧((a0a gg).toNat - k2<(a0a gg).toNat - k1∧((c1y gg c k1 k2)∧((a0y (a5u gg xs c p) k1)=(a0y (a5u gg xs c p) k2)∧(((a0g (a0a gg) xs p)=(a0g (a0a gg) xs p)∧True)∧True)))))))))))))∧((decide ((k1:Int)<(a0a gg)))=false →
 ((a0y (a5u gg xs c p) k1)=(suV gg xs c p)∧(0:Int)=(wuC gg xs p c)))))))))))
abbrev c1z(gg:a0h)(xs:List a0e)(c:a0b)(p:a0d):Prop:=(((!(isC gg c))=true →
 ([]=(suV gg xs c p)∧(1:Int)=(wuC gg xs p c)))∧((!(isC gg c))=false →
 (b3l gg xs c p)))
theorem d9o(gg:a0h)(xs:List a0e)(c:a0b)(p:a0d):awp (a2s [a3a,a5e,a2b,a6y,a3o,a4u,a4y,a6m] [] [] [] [] [b4m] [4,6,7]) (a0j a5v) (c5b gg xs c p) 0 (a5k (a2s [a3a,a5e,a2b,a6y,a3o,a4u,a4y,a6m] [] [] [] [] [b4m] [4,6,7]) a5v fun r=>a1f r [⟨(.slice (.int .i64)),suV gg xs c p⟩,⟨(.int .i64),wuC gg xs p c⟩]) (a8e a5v [.val ⟨(.st .sig),gg⟩, .val ⟨(.slice (.st .premise)),xs⟩, .val ⟨(.st .expr),c⟩, .val ⟨(.st .prog),p⟩]) =
 ((((!(a1t gg xs))=false →
 (a1i gg=true∧(((!(isP gg p))=false →
 (c1z gg xs c p))∧((!(isP gg p))=(!false) →
 ((true=true →
 ([]=(suV gg xs c p)∧(1:Int)=(wuC gg xs p c)))∧(true=false →
 (b3l gg xs c p)))))))∧((!(a1t gg xs))=(!false) →
 ((true=false →
 (c1z gg xs c p))∧(true=(!false) →
 ((true=true →
 ([]=(suV gg xs c p)∧(1:Int)=(wuC gg xs p c)))∧(true=false →
 (b3l gg xs c p)))))))):=by kernel_rfl
theorem d9n(hE:a0o [a3a,a5e,a2b,a6y,a3o,a4u,a4y,a6m])(hO:a5c [])(hM:a5s [])(hS:a5d []):Ctr.OGood a5i:=by
 refine⟨a0l c4w rfl (by decide),?_⟩
 show ∀ (gg:a0h) (xs:List a0e) (c:a0b) (p:a0d),True→a6q prog b8m [.val ⟨(.st .sig),gg⟩, .val ⟨(.slice (.st .premise)),xs⟩, .val ⟨(.st .expr),c⟩, .val ⟨(.st .prog),p⟩] [⟨(.slice (.int .i64)),suV gg xs c p⟩,⟨(.int .i64),wuC gg xs p c⟩]
 intro gg xs c p _
 refine a4j (own:=[]) (wr:=[]) (cl:=[b4m]) (ro:=[4,6,7]) hE hO hM hS c4w d7g (c5b gg xs c p) ?_
 rewrite [d9o gg xs c p]
 have f1:=h0g gg xs p c
 have f2:=i6i gg xs p c
 have f3:=i0z gg xs
 have f6:=a5w gg
 have f7:=i0o (a5u gg xs c p)
 refine⟨fun a0=>⟨?_,⟨fun a1=>⟨fun a2=>⟨?_,?_⟩,fun a2=>⟨?_,fun a3=>⟨?_,fun a4=>⟨⟨0,⟨?_,⟨⟨rfl,⟨rfl,⟨trivial,⟨rfl,⟨trivial,⟨trivial,⟨rfl,⟨?_,trivial⟩⟩⟩⟩⟩⟩⟩⟩,⟨?_,⟨⟨rfl,trivial⟩,trivial⟩⟩⟩⟩⟩,fun k1 a5=>have b5x0:=c9d (a5u gg xs c p) k1;have b5x1:=c9c (a5u gg xs c p) k1;have b5x2:=a6b (a5u gg xs c p) k1;have b5x3:=f5z gg xs p c k1;have b5x4:=f6a gg xs c p k1;have b5x5:=f5m gg xs p c a5.2.1 k1;have b5x6:=(a5w gg a5.2.1.sig);have b5x7:=a5.2.1.sig;⟨fun a6=>⟨?_,fun a7=>⟨?_,⟨fun a8=>fun a9=>⟨?_,⟨?_,⟨k1+1,⟨?_,⟨?_,⟨⟨rfl,⟨rfl,⟨trivial,⟨rfl,⟨trivial,⟨trivial,⟨rfl,⟨?_,trivial⟩⟩⟩⟩⟩⟩⟩⟩,⟨?_,⟨⟨rfl,trivial⟩,trivial⟩⟩⟩⟩⟩⟩⟩⟩,fun a8=>⟨?_,⟨k1+1,⟨?_,⟨?_,⟨⟨rfl,⟨rfl,⟨trivial,⟨rfl,⟨trivial,⟨trivial,⟨rfl,⟨?_,trivial⟩⟩⟩⟩⟩⟩⟩⟩,⟨?_,⟨⟨rfl,trivial⟩,trivial⟩⟩⟩⟩⟩⟩⟩⟩⟩⟩,fun a6=>⟨?_,?_⟩⟩⟩⟩⟩⟩,fun a1=>⟨fun a2=>⟨?_,?_⟩,fun a2=>⟨?_,fun a3=>⟨?_,fun a4=>⟨⟨0,⟨?_,⟨⟨rfl,⟨rfl,⟨trivial,⟨rfl,⟨trivial,⟨trivial,⟨rfl,⟨?_,trivial⟩⟩⟩⟩⟩⟩⟩⟩,⟨?_,⟨⟨rfl,trivial⟩,trivial⟩⟩⟩⟩⟩,fun k1 a5=>have b5x0:=c9d (a5u gg xs c p) k1;have b5x1:=c9c (a5u gg xs c p) k1;have b5x2:=a6b (a5u gg xs c p) k1;have b5x3:=f5z gg xs p c k1;have b5x4:=f6a gg xs c p k1;have b5x5:=f5m gg xs p c a5.2.1 k1;have b5x6:=(a5w gg a5.2.1.sig);have b5x7:=a5.2.1.sig;⟨fun a6=>⟨?_,fun a7=>⟨?_,⟨fun a8=>fun a9=>⟨?_,⟨?_,⟨k1+1,⟨?_,⟨?_,⟨⟨rfl,⟨rfl,⟨trivial,⟨rfl,⟨trivial,⟨trivial,⟨rfl,⟨?_,trivial⟩⟩⟩⟩⟩⟩⟩⟩,⟨?_,⟨⟨rfl,trivial⟩,trivial⟩⟩⟩⟩⟩⟩⟩⟩,fun a8=>⟨?_,⟨k1+1,⟨?_,⟨?_,⟨⟨rfl,⟨rfl,⟨trivial,⟨rfl,⟨trivial,⟨trivial,⟨rfl,⟨?_,trivial⟩⟩⟩⟩⟩⟩⟩⟩,⟨?_,⟨⟨rfl,trivial⟩,trivial⟩⟩⟩⟩⟩⟩⟩⟩⟩⟩,fun a6=>⟨?_,?_⟩⟩⟩⟩⟩⟩⟩⟩,fun a0=>⟨fun a1=>⟨fun a2=>⟨?_,?_⟩,fun a2=>⟨?_,fun a3=>⟨?_,fun a4=>⟨⟨0,⟨?_,⟨⟨rfl,⟨rfl,⟨trivial,⟨rfl,⟨trivial,⟨trivial,⟨rfl,⟨?_,trivial⟩⟩⟩⟩⟩⟩⟩⟩,⟨?_,⟨⟨rfl,trivial⟩,trivial⟩⟩⟩⟩⟩,fun k1 a5=>have b5x0:=c9d (a5u gg xs c p) k1;have b5x1:=c9c (a5u gg xs c p) k1;have b5x2:=a6b (a5u gg xs c p) k1;have b5x3:=f5z gg xs p c k1;have b5x4:=f6a gg xs c p k1;have b5x5:=f5m gg xs p c a5.2.1 k1;have b5x6:=(a5w gg a5.2.1.sig);have b5x7:=a5.2.1.sig;⟨fun a6=>⟨?_,fun a7=>⟨?_,⟨fun a8=>fun a9=>⟨?_,⟨?_,⟨k1+1,⟨?_,⟨?_,⟨⟨rfl,⟨rfl,⟨trivial,⟨rfl,⟨trivial,⟨trivial,⟨rfl,⟨?_,trivial⟩⟩⟩⟩⟩⟩⟩⟩,⟨?_,⟨⟨rfl,trivial⟩,trivial⟩⟩⟩⟩⟩⟩⟩⟩,fun a8=>⟨?_,⟨k1+1,⟨?_,⟨?_,⟨⟨rfl,⟨rfl,⟨trivial,⟨rfl,⟨trivial,⟨trivial,⟨rfl,⟨?_,trivial⟩⟩⟩⟩⟩⟩⟩⟩,⟨?_,⟨⟨rfl,trivial⟩,trivial⟩⟩⟩⟩⟩⟩⟩⟩⟩⟩,fun a6=>⟨?_,?_⟩⟩⟩⟩⟩⟩,fun a1=>⟨fun a2=>⟨?_,?_⟩,fun a2=>⟨?_,fun a3=>⟨?_,fun a4=>⟨⟨0,⟨?_,⟨⟨rfl,⟨rfl,⟨trivial,⟨rfl,⟨trivial,⟨trivial,⟨rfl,⟨?_,trivial⟩⟩⟩⟩⟩⟩⟩⟩,⟨?_,⟨⟨rfl,trivial⟩,trivial⟩⟩⟩⟩⟩,fun k1 a5=>have b5x0:=c9d (a5u gg xs c p) k1;have b5x1:=c9c (a5u gg xs c p) k1;have b5x2:=a6b (a5u gg xs c p) k1;have b5x3:=f5z gg xs p c k1;have b5x4:=f6a gg xs c p k1;have b5x5:=f5m gg xs p c a5.2.1 k1;have b5x6:=(a5w gg a5.2.1.sig);have b5x7:=a5.2.1.sig;⟨fun a6=>⟨?_,fun a7=>⟨?_,⟨fun a8=>fun a9=>⟨?_,⟨?_,⟨k1+1,⟨?_,⟨?_,⟨⟨rfl,⟨rfl,⟨trivial,⟨rfl,⟨trivial,⟨trivial,⟨rfl,⟨?_,trivial⟩⟩⟩⟩⟩⟩⟩⟩,⟨?_,⟨⟨rfl,trivial⟩,trivial⟩⟩⟩⟩⟩⟩⟩⟩,fun a8=>⟨?_,⟨k1+1,⟨?_,⟨?_,⟨⟨rfl,⟨rfl,⟨trivial,⟨rfl,⟨trivial,⟨trivial,⟨rfl,⟨?_,trivial⟩⟩⟩⟩⟩⟩⟩⟩,⟨?_,⟨⟨rfl,trivial⟩,trivial⟩⟩⟩⟩⟩⟩⟩⟩⟩⟩,fun a6=>⟨?_,?_⟩⟩⟩⟩⟩⟩⟩⟩
 all_goals try and_intros
 all_goals first|with_reducible rfl|omega|(simp only[decide_eq_true_eq,decide_eq_false_iff_not,a0k,a0c,a1p,List.length_append,List.length_cons,List.length_nil] at *;omega)|grind
theorem d5z:Ctr.OGood a5i:=d9n ⟨b4j,c5v,a7x,c8a,b6z,c4e,c8c,d3o,trivial⟩ trivial trivial trivial
theorem e2n:Ctr.Good a6i:=d9m.plain
theorem d7p:Ctr.Good a5i:=d5z.plain
def atV(gg:a0h)(c:a0b):List Int:=if okC gg c=true then atN gg c else []
def atC(gg:a0h)(c:a0b):Int:=if okE gg c=true then (if a1l c=true then 0 else 4) else 1
theorem h7l(gg:a0h)(c:a0b)(h1:okE gg c=true)(h2:a1l c=true):atV gg c=atN gg c∧atC gg c=0∧a1i gg=true∧a1k c=true:=by
 have hc:okC gg c=true:=by simp[okC,h1,h2]
 have hs:a1i gg=true:=by simp only[okE,Bool.and_eq_true] at h1;exact h1.1
 exact⟨if_pos hc,by simp[atC,h1,h2],hs,b9i gg c hs (i4m gg c hc)⟩
theorem i7g(gg:a0h)(c:a0b)(h1:okE gg c=true)(h2:a1l c=false):atV gg c=[]∧atC gg c=4:=by simp[atV,atC,okC,h1,h2]
theorem i7h(gg:a0h)(c:a0b)(h1:okE gg c=false):atV gg c=[]∧atC gg c=1:=by simp[atV,atC,okC,h1]
theorem e6u{α:Type}(f:α→Bool)(z:α):∀ xs:List α,a0v f xs=true↔∀ k,k<xs.length→f (xs.getD k z)=true
 | []=>by simp[a0v]
 | x::xs=>by
  simp only[a0v,Bool.and_eq_true,e6u f z xs,List.length_cons]
  constructor
  ·rintro⟨h1,h2⟩ k hk
   cases k with
   | zero=>simpa using h1
   | succ k=>simpa using h2 k (by omega)
  ·intro h
   exact⟨by simpa using h 0 (by omega),fun k hk=>by simpa using h (k+1) (by omega)⟩
def d3n(gg:a0h)(xs:List Int):Bool:=c7t xs&&a0v (a4x (a0a gg)) xs
theorem i6g(gg:a0h)(xs:List Int):i2x 0 (a0a gg - 1) xs=d3n gg xs:=by
 refine Bool.eq_iff_iff.2 ?_
 simp only[i2x,d3n,c7t,Bool.and_eq_true,d0e,e6u (a4x (a0a gg)) 0,i3t,a4x]
 constructor
 ·exact fun h=>⟨fun k hk=>(h k hk).2,fun k hk=>(h k hk).1⟩
 ·exact fun h k hk=>⟨h.2 k hk,h.1 k hk⟩
theorem h8w(xs:List Int)(h:c7t xs=true)(h0:∀ k,k<xs.length→0≤xs.getD k 0):∀ k,k<xs.length→(k:Int)≤xs.getD k 0
 | 0,hk=>h0 0 hk
 | k+1,hk=>by
  have h1:=h8w xs h h0 k (by omega)
  have h2:=(d0e (b6y xs) xs.length).1 h (k+1) hk
  rw[h3r xs (k+1) (by omega)] at h2
  simp only[decide_eq_true_eq,Nat.add_sub_cancel] at h2
  omega
theorem h9c(gg:a0h)(xs:List Int)(hg:0≤gg.tests∧gg.tests≤3)(h:d3n gg xs=true):a0v (a4x 8) xs=true∧xs.length≤8:=by
 have ha:=c6q gg hg
 simp only[d3n,Bool.and_eq_true] at h
 have h2:=(e6u (a4x (a0a gg)) 0 xs).1 h.2
 have h3:∀ k,k<xs.length→0≤xs.getD k 0∧xs.getD k 0≤7:=fun k hk=>by
  have:=h2 k hk
  simp only[a4x,decide_eq_true_eq] at this
  omega
 refine⟨(e6u (a4x 8) 0 xs).2 fun k hk=>?_,?_⟩
 ·have:=h3 k hk
  simp only[a4x,decide_eq_true_eq];omega
 ·rcases Nat.lt_or_ge 8 xs.length with hl|hl
  ·have h4:=h8w xs h.1 (fun k hk=>(h3 k hk).1) 8 hl
   have h5:=(h3 8 hl).2
   omega
  ·exact hl
def cvV(gg:a0h)(xs:List Int):a0b:=if a1i gg=true∧d3n gg xs=true then ofA gg xs else a0b.mk (0:Int) (0:Int) []
def cvC(gg:a0h)(xs:List Int):Int:=if a1i gg=true then (if d3n gg xs=true then 0 else 2) else 1
theorem h9d(gg:a0h)(xs:List Int)(h1:a1i gg=true)(h2:d3n gg xs=true):cvV gg xs=ofA gg xs∧cvC gg xs=0:=by simp[cvV,cvC,h1,h2]
theorem i5m(gg:a0h)(xs:List Int)(h1:a1i gg=true)(h2:d3n gg xs=false):cvV gg xs=a0b.mk (0:Int) (0:Int) []∧cvC gg xs=2:=by simp[cvV,cvC,h1,h2]
theorem i4c(gg:a0h)(xs:List Int)(h1:a1i gg=false):cvV gg xs=a0b.mk (0:Int) (0:Int) []∧cvC gg xs=1:=by simp[cvV,cvC,h1]
theorem i4b(gg:a0h)(xs:List Int):d3n gg xs=(c7t xs&&a0v (a4x (a0a gg)) xs):=rfl
def b7x:Ctr:=⟨d0r,[.v (.st .sig), .v (.st .expr)],fun (gg:a0h) (c:a0b)=>⟨(none,[⟨(.slice (.int .i64)),atV gg c⟩,⟨(.int .i64),atC gg c⟩])⟩⟩
def e4p(gg:a0h)(c:a0b):Nat→a0p:=fun _ => .none
theorem g6y(gg:a0h)(c:a0b):awp (a0r [b3m,a3v,a4u] [] [] [2,3]) (a0j b2g) (e4p gg c) 0 (a1c (a0r [b3m,a3v,a4u] [] [] [2,3]) b2g fun r=>a1f r [⟨(.slice (.int .i64)),atV gg c⟩,⟨(.int .i64),atC gg c⟩]) (a0m b2g [.val ⟨(.st .sig),gg⟩, .val ⟨(.st .expr),c⟩]) =
 ((((!(okE gg c))=true →
 ([]=(atV gg c)∧(1:Int)=(atC gg c)))∧((!(okE gg c))=false →
 (((!(a1l c))=true →
 ([]=(atV gg c)∧(4:Int)=(atC gg c)))∧((!(a1l c))=false →
 ((a1i gg=true∧a1k c=true)∧((atN gg c).length≤140737488355328 →
 ((atN gg c)=(atV gg c)∧(0:Int)=(atC gg c))))))))):=by kernel_rfl
theorem g5d(hE:a0o [b3m,a3v,a4u]):Ctr.Good b7x:=by
 refine⟨a0l d9q rfl (by decide),?_⟩
 show ∀ (gg:a0h) (c:a0b),True→a1e prog d0r [.val ⟨(.st .sig),gg⟩, .val ⟨(.st .expr),c⟩] (·=[⟨(.slice (.int .i64)),atV gg c⟩,⟨(.int .i64),atC gg c⟩])
 intro gg c _
 refine a0w (wr:=[]) (cl:=[]) (ro:=[2,3]) hE d9q f6e (e4p gg c) ?_
 rewrite [g6y gg c]
 have f1:=h7l gg c
 have f2:=i7g gg c
 have f3:=i7h gg c
 refine⟨fun a0=>⟨?_,?_⟩,fun a0=>⟨fun a1=>⟨?_,?_⟩,fun a1=>⟨?_,fun a2=>⟨?_,?_⟩⟩⟩⟩
 all_goals try and_intros
 all_goals first|rfl|trivial|grind
theorem f7e:Ctr.Good b7x:=g5d ⟨f0u,b7q,c4e,trivial⟩
def a6v:Ctr:=⟨c2f,[.v (.st .sig), .v (.slice (.int .i64))],fun (gg:a0h) (xs:List Int)=>⟨(none,[⟨(.st .expr),cvV gg xs⟩,⟨(.int .i64),cvC gg xs⟩])⟩⟩
def c9w(gg:a0h)(xs:List Int):Nat→a0p:=fun _ => .none
abbrev c6v(gg:a0h)(xs:List Int):Prop:=(((0≤gg.tests∧gg.tests≤3)∧a0v (a4x 8) xs=true∧xs.length≤8)∧((a0n (ofA gg xs))=(cvV gg xs)∧(0:Int)=(cvC gg xs)))
theorem e8u(gg:a0h)(xs:List Int):awp (a2s [a3g,b3o,a3o,b7y] [b6e] [] [23] [] [] [2]) (a0j a7k) (c9w gg xs) 0 (a5k (a2s [a3g,b3o,a3o,b7y] [b6e] [] [23] [] [] [2]) a7k fun r=>a1f r [⟨(.st .expr),cvV gg xs⟩,⟨(.int .i64),cvC gg xs⟩]) (a8e a7k [.val ⟨(.st .sig),gg⟩, .val ⟨(.slice (.int .i64)),xs⟩]) =
 ((((!(a1i gg))=true →
 (zE=(cvV gg xs)∧(1:Int)=(cvC gg xs)))∧((!(a1i gg))=false →
 (((!(c7t xs))=false →
 ((0≤gg.tests∧gg.tests≤3)∧(a0c (a0a gg) →
 ((0≤(a0a gg)∧(a0a gg)≤4096)∧(((!(a0v (a4x (a0a gg)) xs))=true →
 (zE=(cvV gg xs)∧(2:Int)=(cvC gg xs)))∧((!(a0v (a4x (a0a gg)) xs))=false →
 (c6v gg xs)))))))∧((!(c7t xs))=(!false) →
 ((true=true →
 (zE=(cvV gg xs)∧(2:Int)=(cvC gg xs)))∧(true=false →
 (c6v gg xs)))))))):=by kernel_rfl
theorem e7z(hE:a0o [a3g,b3o,a3o,b7y])(hO:a5c [b6e])(hM:a5s [])(hS:a5d []):Ctr.OGood a6v:=by
 refine⟨a0l c9g rfl (by decide),?_⟩
 show ∀ (gg:a0h) (xs:List Int),True→a6q prog c2f [.val ⟨(.st .sig),gg⟩, .val ⟨(.slice (.int .i64)),xs⟩] [⟨(.st .expr),cvV gg xs⟩,⟨(.int .i64),cvC gg xs⟩]
 intro gg xs _
 refine a4j (own:=[23]) (wr:=[]) (cl:=[]) (ro:=[2]) hE hO hM hS c9g e3q (c9w gg xs) ?_
 rewrite [e8u gg xs]
 have f0:=fun h=>((a4l gg).1 h).1
 have f1:=fun h=>c6q gg (f0 h)
 have f2:=fun h1 h2=>h9c gg xs (f0 h1) h2
 have f3:=h9d gg xs
 have f4:=i5m gg xs
 have f5:=i4c gg xs
 have f6:=i4b gg xs
 have f7:=i6g gg xs
 refine⟨fun a0=>⟨?_,?_⟩,fun a0=>⟨fun a1=>⟨?_,fun a2=>⟨?_,⟨fun a3=>⟨?_,?_⟩,fun a3=>⟨?_,⟨?_,?_⟩⟩⟩⟩⟩,fun a1=>⟨fun a2=>⟨?_,?_⟩,fun a2=>⟨?_,⟨?_,?_⟩⟩⟩⟩⟩
 all_goals try and_intros
 all_goals try simp only[a0b.eta,a0d.eta,a1g.eta,a0e.eta,a2u,a2z,a2o,a2f] at *
 all_goals first|rfl|trivial|omega|(simp_all;done)|(simp only[a0c] at *;grind)|grind
theorem e2s:Ctr.OGood a6v:=e7z ⟨b5o,f0w,b6z,f7f,trivial⟩ ⟨f4j,trivial⟩ trivial trivial
theorem e4h:Ctr.Good a6v:=e2s.plain
def b3q:Ctr:=⟨c6e,[.v (.st .sig), .v (.st .prog)],fun (gg:a0h) (x:a0d)=>⟨(none,[⟨.bool,okP gg x⟩])⟩⟩
def d8l(gg:a0h)(x:a0d):Nat→a0p:=fun _ => .none
theorem f8o(gg:a0h)(x:a0d):awp (a0r [b0p] [] [] [2,3]) (a0j a9w) (d8l gg x) 0 (a1c (a0r [b0p] [] [] [2,3]) a9w fun r=>a1f r [⟨.bool,okP gg x⟩]) (a0m a9w [.val ⟨(.st .sig),gg⟩, .val ⟨(.st .prog),x⟩]) =
 ((okP gg x)=(okP gg x)):=by kernel_rfl
theorem f8d(hE:a0o [b0p]):Ctr.Good b3q:=by
 refine⟨a0l d4n rfl (by decide),?_⟩
 show ∀ (gg:a0h) (x:a0d),True→a1e prog c6e [.val ⟨(.st .sig),gg⟩, .val ⟨(.st .prog),x⟩] (·=[⟨.bool,okP gg x⟩])
 intro gg x _
 refine a0w (wr:=[]) (cl:=[]) (ro:=[2,3]) hE d4n f0q (d8l gg x) ?_
 rewrite [f8o gg x]
 refine rfl
 all_goals try and_intros
 all_goals first|rfl|trivial|omega|(simp only[decide_eq_true_eq,decide_eq_false_iff_not,a0k,a0c,a2k,a8i,a5r,a1p] at *;omega)|(simp[a0k,a0c] at *;omega)|grind
theorem f0z:Ctr.Good b3q:=f8d ⟨e0o,trivial⟩
end
end Go.Proofs.YthebhlkdppmefaaGreat

/- The atoms that an action allows. Printed by vmk.py. -/
import Derived.Test.YthebhlkdppmefaaGreatVmUse
import Derived.Test.YthebhlkdppmefaaGreatVmLib
import Derived.Test.YthebhlkdppmefaaGreatVmPrem
set_option linter.unusedVariables false
set_option linter.unusedSimpArgs false
set_option linter.unusedSectionVars false
set_option maxRecDepth 4000
set_option maxHeartbeats 4000000
namespace Go.Proofs.YthebhlkdppmefaaGreat
noncomputable section
def b0x(act x y:Int)(p:a0e):Bool := !(decide (p.act=act)&&a1b x p.pre && !a1b y p.post)
theorem h3m(act x y:Int)(p:a0e):b0x act x y p = !(decide (p.act=act)&&a1b x p.pre && !a1b y p.post):=rfl
def a6w(xs:List a0e)(act x y:Int):Bool:=a0v (b0x act x y) xs
def gdP(p:a0e):Bool:=a1k p.pre&&a1k p.post
theorem h9k(p:a0e):gdP p=(a1k p.pre&&a1k p.post):=rfl
theorem c0k(gg:a0h)(xs:List a0e)(h:a1t gg xs=true):a1i gg=true:=by
 simp only[a1t,Bool.and_eq_true] at h;exact h.1.1
theorem e8i(gg:a0h)(xs:List a0e)(h:a1t gg xs=true):a0v gdP xs=true:=by
 have hs:=c0k gg xs h
 simp only[a1t,Bool.and_eq_true] at h
 have h2:=h.2
 clear h
 induction xs with
 | nil=>rfl
 | cons x xs ih =>
  simp only[a0v,Bool.and_eq_true] at h2 ⊢
  refine⟨?_,ih h2.2⟩
  have:=h2.1
  simp only[pmI,Bool.and_eq_true] at this
  simp only[gdP,Bool.and_eq_true]
  exact⟨b9i gg _ hs this.1.1,b9i gg _ hs this.1.2⟩
def b0i(xs:List a0e)(act x:Int):Nat→List Int
 | 0=>[]
 | n+1=>b0i xs act x n++(bif a6w xs act x (n:Int) then [(n:Int)] else [])
theorem h1g(xs:List a0e)(act x:Int):∀ n,(b0i xs act x n).length≤n
 | 0=>Nat.le_refl _
 | n+1=>by
  have:=h1g xs act x n
  simp only[b0i,List.length_append]
  cases a6w xs act x (n:Int)<;>simp<;>omega
theorem i4l(xs:List a0e)(act x:Int)(n:Nat)(h:a6w xs act x (n:Int)=true):b0i xs act x n++[(n:Int)]=b0i xs act x (n+1):=by simp[b0i,h]
theorem i4k(xs:List a0e)(act x:Int)(n:Nat)(h:a6w xs act x (n:Int)=false):b0i xs act x n=b0i xs act x (n+1):=by simp[b0i,h]
def a3p(gg:a0h)(xs:List a0e)(act x:Int):List Int:=b0i xs act x (a0a gg).toNat
theorem i2d(gg:a0h)(xs:List a0e)(act x:Int)(k:Nat)(h1:a0a gg≤(k:Int))(h2:k≤(a0a gg).toNat):b0i xs act x k=a3p gg xs act x:=by
 have:k=(a0a gg).toNat:=by omega
 rw[this];rfl
def h3n(gg:a0h)(act x:Int):Bool:=decide (0≤act∧act≤gg.actions - 1)&&decide (0≤x∧x≤a0a gg - 1)
theorem h6g(gg:a0h)(act x:Int):h3n gg act x=(decide (0≤act∧act≤gg.actions - 1)&&decide (0≤x∧x≤a0a gg - 1)):=rfl
def b9u:Ctr:=⟨d3r,[.v (.slice (.st .premise)), .v (.int .i64), .v (.int .i64), .v (.int .i64)],fun (xs:List a0e) (act:Int) (x:Int) (y:Int)=>⟨(some (a0v gdP xs=true∧0≤x∧x≤4096∧0≤y∧y≤4096),[⟨.bool,a6w xs act x y⟩])⟩⟩
def e9o(xs:List a0e)(act:Int)(x:Int)(y:Int):Nat→a0p:=(fun zb=>if Nat.beq zb 0 then .mk (Nat) (fun k=>k≤xs.length∧a0v (b0x act x y) (xs.take k)=true) (fun k=>xs.length - k) [] [0,4,5,6,7,9] (fun k=>[(13, .imm ⟨(.int .i64),((k:Int):Int)⟩)]) [1,2,3,8,10,11,12,13,14,15,16,17,18,19,20,21,22,23,24,25,26,27,28,29,30,31,32,33,34] (fun k=>[]) [] [] (fun k=>fun _ => .none) else .none)
abbrev c8d(xs:List a0e)(act:Int)(x:Int)(y:Int)(k1:Nat):Prop:=(a0c ((k1:Int)+(1:Int))∧(∃ k2:Nat,((k2≤xs.length∧a0v (b0x act x y) (xs.take k2)=true)∧(xs.length - k2<xs.length - k1∧((act=act∧(x=x∧(y=y∧(xs=xs∧(((xs.length:Int))=((xs.length:Int))∧(((k1:Int)+(1:Int))=(k2:Int)∧True))))))∧True)))))
abbrev e0p(xs:List a0e)(act:Int)(x:Int)(y:Int)(k1:Nat):Prop:=((a1k (a0n (xs.getD k1 (a0e.mk zE (0:Int) zE)).post)=true∧0≤y∧y≤4096)∧(((!(a1b y (a0n (xs.getD k1 (a0e.mk zE (0:Int) zE)).post)))=true →
 false=(a6w xs act x y))∧((!(a1b y (a0n (xs.getD k1 (a0e.mk zE (0:Int) zE)).post)))=false →
 (c8d xs act x y k1))))
theorem g9r(xs:List a0e)(act:Int)(x:Int)(y:Int):awp (a0r [a2r]) (a0j b4p) (e9o xs act x y) 0 (a1c (a0r [a2r]) b4p fun r=>a1f r [⟨.bool,a6w xs act x y⟩]) (a0m b4p [.val ⟨(.slice (.st .premise)),xs⟩, .val ⟨(.int .i64),act⟩, .val ⟨(.int .i64),x⟩, .val ⟨(.int .i64),y⟩]) =
 ((a0c ((xs.length:Int)) →
 ((∃ k1:Nat,((k1≤xs.length∧a0v (b0x act x y) (xs.take k1)=true)∧((act=act∧(x=x∧(y=y∧(xs=xs∧(((xs.length:Int))=((xs.length:Int))∧((0:Int)=(k1:Int)∧True))))))∧True)))∧(∀ k1:Nat,((k1≤xs.length∧a0v (b0x act x y) (xs.take k1)=true) →
 (((decide ((k1:Int)<((xs.length:Int))))=true →
 (a0k (k1:Int) xs.length∧(a0c (xs.getD k1 (a0e.mk zE (0:Int) zE)).act →
 (((decide ((xs.getD k1 (a0e.mk zE (0:Int) zE)).act=act))=true →
 ((a1k (a0n (xs.getD k1 (a0e.mk zE (0:Int) zE)).pre)=true∧0≤x∧x≤4096)∧(((a1b x (a0n (xs.getD k1 (a0e.mk zE (0:Int) zE)).pre))=true →
 (e0p xs act x y k1))∧((a1b x (a0n (xs.getD k1 (a0e.mk zE (0:Int) zE)).pre))=(!true) →
 ((false=true →
 false=(a6w xs act x y))∧(false=false →
 (c8d xs act x y k1)))))))∧((decide ((xs.getD k1 (a0e.mk zE (0:Int) zE)).act=act))=(!true) →
 ((false=true →
 (e0p xs act x y k1))∧(false=(!true) →
 ((false=true →
 false=(a6w xs act x y))∧(false=false →
 (c8d xs act x y k1))))))))))∧((decide ((k1:Int)<((xs.length:Int))))=false →
 true=(a6w xs act x y)))))))):=by kernel_rfl
theorem g8s(hE:a0o [a2r]):Ctr.Good b9u:=by
 refine⟨a0l e3c rfl (by decide),?_⟩
 show ∀ (xs:List a0e) (act:Int) (x:Int) (y:Int),(a0v gdP xs=true∧0≤x∧x≤4096∧0≤y∧y≤4096)→a1e prog d3r [.val ⟨(.slice (.st .premise)),xs⟩, .val ⟨(.int .i64),act⟩, .val ⟨(.int .i64),x⟩, .val ⟨(.int .i64),y⟩] (·=[⟨.bool,a6w xs act x y⟩])
 intro xs act x y hp
 refine a0w (wr:=[]) (cl:=[]) (ro:=[]) hE e3c g0b (e9o xs act x y) ?_
 rewrite [g9r xs act x y]
 have f0:=a8h (b0x act x y) xs
 have f1:a6w xs act x y=a0v (b0x act x y) xs:=rfl
 refine fun a0=>⟨⟨0,⟨?_,⟨⟨rfl,⟨rfl,⟨rfl,⟨rfl,⟨rfl,⟨?_,trivial⟩⟩⟩⟩⟩⟩,trivial⟩⟩⟩,fun k1 a1=>have b1x0:=a3h (b0x act x y) (a0e.mk (a0b.mk 0 0 []) 0 (a0b.mk 0 0 [])) xs k1;have b1x1:=a4c (b0x act x y) (a0e.mk (a0b.mk 0 0 []) 0 (a0b.mk 0 0 [])) xs k1;have b1x2:=a3l (b0x act x y) xs k1;have b1x3:=b8z gdP (a0e.mk (a0b.mk 0 0 []) 0 (a0b.mk 0 0 [])) xs k1;have b1x4:=h9k (xs.getD k1 (a0e.mk (a0b.mk 0 0 []) 0 (a0b.mk 0 0 [])));have b1x5:=h3m act x y (xs.getD k1 (a0e.mk (a0b.mk 0 0 []) 0 (a0b.mk 0 0 [])));⟨fun a2=>⟨?_,fun a3=>⟨fun a4=>⟨?_,⟨fun a5=>⟨?_,⟨fun a6=>?_,fun a6=>⟨?_,⟨k1+1,⟨?_,⟨?_,⟨⟨rfl,⟨rfl,⟨rfl,⟨rfl,⟨rfl,⟨?_,trivial⟩⟩⟩⟩⟩⟩,trivial⟩⟩⟩⟩⟩⟩⟩,fun a5=>⟨fun a6=>?_,fun a6=>⟨?_,⟨k1+1,⟨?_,⟨?_,⟨⟨rfl,⟨rfl,⟨rfl,⟨rfl,⟨rfl,⟨?_,trivial⟩⟩⟩⟩⟩⟩,trivial⟩⟩⟩⟩⟩⟩⟩⟩,fun a4=>⟨fun a5=>⟨?_,⟨fun a6=>?_,fun a6=>⟨?_,⟨k1+1,⟨?_,⟨?_,⟨⟨rfl,⟨rfl,⟨rfl,⟨rfl,⟨rfl,⟨?_,trivial⟩⟩⟩⟩⟩⟩,trivial⟩⟩⟩⟩⟩⟩⟩,fun a5=>⟨fun a6=>?_,fun a6=>⟨?_,⟨k1+1,⟨?_,⟨?_,⟨⟨rfl,⟨rfl,⟨rfl,⟨rfl,⟨rfl,⟨?_,trivial⟩⟩⟩⟩⟩⟩,trivial⟩⟩⟩⟩⟩⟩⟩⟩⟩,fun a2=>?_⟩⟩
 all_goals try and_intros
 all_goals try simp only[a0b.eta,a0d.eta,a1g.eta,a0e.eta,a2u,a2z,a2o,a2f] at *
 all_goals try rw[f1]
 all_goals first|rfl|trivial|omega|(simp only[decide_eq_true_eq,decide_eq_false_iff_not,a0k,a0c] at *;omega)|grind
theorem g0x:Ctr.Good b9u:=g8s ⟨a8j,trivial⟩
def b3r:Ctr:=⟨c6f,[.v (.slice (.st .premise)), .v (.int .i64), .v (.int .i64), .v (.int .i64)],fun (xs:List a0e) (act:Int) (x:Int) (y:Int)=>⟨(some (a0v gdP xs=true∧0≤x∧x≤4096∧0≤y∧y≤4096),[⟨.bool,a6w xs act x y⟩])⟩⟩
def d8m(xs:List a0e)(act:Int)(x:Int)(y:Int):Nat→a0p:=(fun zb=>if Nat.beq zb 0 then .mk (Nat) (fun k=>k≤xs.length∧a0v (b0x act x y) (xs.take k)=true) (fun k=>xs.length - k) [] [4,5,6,7] (fun k=>[(9, .imm ⟨(.int .i64),((k:Int):Int)⟩)]) [0,1,2,3,8,9,10,11,12,13,14,15,16,17,18,19,20,21,22,23,24,25,26,27,28,29,30,31,32,33,34,35,36,37,38,39] (fun k=>[]) [] [] (fun k=>fun _ => .none) else .none)
abbrev c1x(xs:List a0e)(act:Int)(x:Int)(y:Int)(k1:Nat):Prop:=(a0c ((k1:Int)+(1:Int))∧(∃ k2:Nat,((k2≤xs.length∧a0v (b0x act x y) (xs.take k2)=true)∧(xs.length - k2<xs.length - k1∧((xs=xs∧(act=act∧(x=x∧(y=y∧(((k1:Int)+(1:Int))=(k2:Int)∧True)))))∧True)))))
abbrev d2u(xs:List a0e)(act:Int)(x:Int)(y:Int)(k1:Nat):Prop:=(a0k (k1:Int) xs.length∧((a1k (xs.getD k1 (a0e.mk zE (0:Int) zE)).post=true∧0≤y∧y≤4096)∧(((!(a1b y (xs.getD k1 (a0e.mk zE (0:Int) zE)).post))=true →
 false=(a6w xs act x y))∧((!(a1b y (xs.getD k1 (a0e.mk zE (0:Int) zE)).post))=false →
 (c1x xs act x y k1)))))
theorem f8p(xs:List a0e)(act:Int)(x:Int)(y:Int):awp (a0r [a5h]) (a0j a9x) (d8m xs act x y) 0 (a1c (a0r [a5h]) a9x fun r=>a1f r [⟨.bool,a6w xs act x y⟩]) (a0m a9x [.val ⟨(.slice (.st .premise)),xs⟩, .val ⟨(.int .i64),act⟩, .val ⟨(.int .i64),x⟩, .val ⟨(.int .i64),y⟩]) =
 (((∃ k1:Nat,((k1≤xs.length∧a0v (b0x act x y) (xs.take k1)=true)∧((xs=xs∧(act=act∧(x=x∧(y=y∧((0:Int)=(k1:Int)∧True)))))∧True)))∧(∀ k1:Nat,((k1≤xs.length∧a0v (b0x act x y) (xs.take k1)=true) →
 (a0c ((xs.length:Int)) →
 (((decide ((k1:Int)<((xs.length:Int))))=true →
 (a0k (k1:Int) xs.length∧(a0c (xs.getD k1 (a0e.mk zE (0:Int) zE)).act →
 (((decide ((xs.getD k1 (a0e.mk zE (0:Int) zE)).act=act))=true →
 (a0k (k1:Int) xs.length∧((a1k (xs.getD k1 (a0e.mk zE (0:Int) zE)).pre=true∧0≤x∧x≤4096)∧(((a1b x (xs.getD k1 (a0e.mk zE (0:Int) zE)).pre)=true →
 (d2u xs act x y k1))∧((a1b x (xs.getD k1 (a0e.mk zE (0:Int) zE)).pre)=(!true) →
 ((false=true →
 false=(a6w xs act x y))∧(false=false →
 (c1x xs act x y k1))))))))∧((decide ((xs.getD k1 (a0e.mk zE (0:Int) zE)).act=act))=(!true) →
 ((false=true →
 (d2u xs act x y k1))∧(false=(!true) →
 ((false=true →
 false=(a6w xs act x y))∧(false=false →
 (c1x xs act x y k1))))))))))∧((decide ((k1:Int)<((xs.length:Int))))=false →
 true=(a6w xs act x y)))))))):=by kernel_rfl
theorem f8e(hE:a0o [a5h]):Ctr.Good b3r:=by
 refine⟨a0l d4o rfl (by decide),?_⟩
 show ∀ (xs:List a0e) (act:Int) (x:Int) (y:Int),(a0v gdP xs=true∧0≤x∧x≤4096∧0≤y∧y≤4096)→a1e prog c6f [.val ⟨(.slice (.st .premise)),xs⟩, .val ⟨(.int .i64),act⟩, .val ⟨(.int .i64),x⟩, .val ⟨(.int .i64),y⟩] (·=[⟨.bool,a6w xs act x y⟩])
 intro xs act x y hp
 refine a0w (wr:=[]) (cl:=[]) (ro:=[]) hE d4o f0r (d8m xs act x y) ?_
 rewrite [f8p xs act x y]
 have f0:=a8h (b0x act x y) xs
 have f1:a6w xs act x y=a0v (b0x act x y) xs:=rfl
 refine⟨⟨0,⟨?_,⟨⟨rfl,⟨rfl,⟨rfl,⟨rfl,⟨?_,trivial⟩⟩⟩⟩⟩,trivial⟩⟩⟩,fun k1 a0=>have b0x0:=a3h (b0x act x y) (a0e.mk (a0b.mk 0 0 []) 0 (a0b.mk 0 0 [])) xs k1;have b0x1:=a4c (b0x act x y) (a0e.mk (a0b.mk 0 0 []) 0 (a0b.mk 0 0 [])) xs k1;have b0x2:=a3l (b0x act x y) xs k1;have b0x3:=b8z gdP (a0e.mk (a0b.mk 0 0 []) 0 (a0b.mk 0 0 [])) xs k1;have b0x4:=h9k (xs.getD k1 (a0e.mk (a0b.mk 0 0 []) 0 (a0b.mk 0 0 [])));have b0x5:=h3m act x y (xs.getD k1 (a0e.mk (a0b.mk 0 0 []) 0 (a0b.mk 0 0 [])));fun a1=>⟨fun a2=>⟨?_,fun a3=>⟨fun a4=>⟨?_,⟨?_,⟨fun a5=>⟨?_,⟨?_,⟨fun a6=>?_,fun a6=>⟨?_,⟨k1+1,⟨?_,⟨?_,⟨⟨rfl,⟨rfl,⟨rfl,⟨rfl,⟨?_,trivial⟩⟩⟩⟩⟩,trivial⟩⟩⟩⟩⟩⟩⟩⟩,fun a5=>⟨fun a6=>?_,fun a6=>⟨?_,⟨k1+1,⟨?_,⟨?_,⟨⟨rfl,⟨rfl,⟨rfl,⟨rfl,⟨?_,trivial⟩⟩⟩⟩⟩,trivial⟩⟩⟩⟩⟩⟩⟩⟩⟩,fun a4=>⟨fun a5=>⟨?_,⟨?_,⟨fun a6=>?_,fun a6=>⟨?_,⟨k1+1,⟨?_,⟨?_,⟨⟨rfl,⟨rfl,⟨rfl,⟨rfl,⟨?_,trivial⟩⟩⟩⟩⟩,trivial⟩⟩⟩⟩⟩⟩⟩⟩,fun a5=>⟨fun a6=>?_,fun a6=>⟨?_,⟨k1+1,⟨?_,⟨?_,⟨⟨rfl,⟨rfl,⟨rfl,⟨rfl,⟨?_,trivial⟩⟩⟩⟩⟩,trivial⟩⟩⟩⟩⟩⟩⟩⟩⟩,fun a2=>?_⟩⟩
 all_goals try and_intros
 all_goals try rw[f1]
 all_goals first|rfl|trivial|omega|(simp only[decide_eq_true_eq,decide_eq_false_iff_not,a0k,a0c] at *;omega)|grind
theorem f1a:Ctr.Good b3r:=f8e ⟨c4f,trivial⟩
def b8i:Ctr:=⟨d1e,[.v (.st .sig), .v (.slice (.st .premise)), .v (.int .i64), .v (.int .i64)],fun (gg:a0h) (xs:List a0e) (act:Int) (x:Int)=>⟨(some (a1t gg xs=true∧h3n gg act x=true),[⟨(.slice (.int .i64)),a3p gg xs act x⟩])⟩⟩
def e5m(gg:a0h)(xs:List a0e)(act:Int)(x:Int):Nat→a0p:=(fun zb=>if Nat.beq zb 0 then .mk (Nat) (fun k=>k≤(a0a gg).toNat) (fun k=>(a0a gg).toNat - k) [] [0,5,6,7,11] (fun k=>[(10, .imm ⟨(.int .i64),((k:Int):Int)⟩),(9, .row 11)]) [1,2,3,4,8,9,10,12,13,14,15,16,17,18,19,20,21,22,23,24,25,26,27] (fun k=>[(11, .row c0f (.int .i64) (b0i xs act x k:List Int))]) [] [] (fun k=>fun _ => .none) else .none)
theorem g7v(gg:a0h)(xs:List a0e)(act:Int)(x:Int):awp (a0r [a4f,b3r] [] [] [4]) (a0j b3e) (e5m gg xs act x) 0 (a1c (a0r [a4f,b3r] [] [] [4]) b3e fun r=>a1f r [⟨(.slice (.int .i64)),a3p gg xs act x⟩]) (a0m b3e [.val ⟨(.st .sig),gg⟩, .val ⟨(.slice (.st .premise)),xs⟩, .val ⟨(.int .i64),act⟩, .val ⟨(.int .i64),x⟩]) =
 (((∃ k1:Nat,(k1≤(a0a gg).toNat∧((xs=xs∧(act=act∧(x=x∧(gg=gg∧(True∧(True∧((0:Int)=(k1:Int)∧True)))))))∧([]=(b0i xs act x k1)∧True))))∧(∀ k1:Nat,(k1≤(a0a gg).toNat →
 ((0≤gg.tests∧gg.tests≤3)∧(a0c (a0a gg) →
 (((decide ((k1:Int)<(a0a gg)))=true →
 ((a0v gdP xs=true∧0≤x∧x≤4096∧0≤(k1:Int)∧(k1:Int)≤4096)∧(((a6w xs act x (k1:Int))=true →
 (a1p ((b0i xs act x k1).length+([(k1:Int)]).length) 8∧(a0c ((k1:Int)+(1:Int))∧(∃ k2:Nat,(k2≤(a0a gg).toNat∧((a0a gg).toNat - k2<(a0a gg).toNat - k1∧((xs=xs∧(act=act∧(x=x∧(gg=gg∧(True∧(True∧(((k1:Int)+(1:Int))=(k2:Int)∧True)))))))∧(((b0i xs act x k1)++([(k1:Int)]))=(b0i xs act x k2)∧True))))))))∧((a6w xs act x (k1:Int))=false →
 (a0c ((k1:Int)+(1:Int))∧(∃ k2:Nat,(k2≤(a0a gg).toNat∧((a0a gg).toNat - k2<(a0a gg).toNat - k1∧((xs=xs∧(act=act∧(x=x∧(gg=gg∧(True∧(True∧(((k1:Int)+(1:Int))=(k2:Int)∧True)))))))∧((b0i xs act x k1)=(b0i xs act x k2)∧True))))))))))∧((decide ((k1:Int)<(a0a gg)))=false →
 (b0i xs act x k1)=(a3p gg xs act x))))))))):=by kernel_rfl
theorem g6b(hE:a0o [a4f,b3r]):Ctr.Good b8i:=by
 refine⟨a0l e0h rfl (by decide),?_⟩
 show ∀ (gg:a0h) (xs:List a0e) (act:Int) (x:Int),(a1t gg xs=true∧h3n gg act x=true)→a1e prog d1e [.val ⟨(.st .sig),gg⟩, .val ⟨(.slice (.st .premise)),xs⟩, .val ⟨(.int .i64),act⟩, .val ⟨(.int .i64),x⟩] (·=[⟨(.slice (.int .i64)),a3p gg xs act x⟩])
 intro gg xs act x hp
 refine a0w (wr:=[]) (cl:=[]) (ro:=[4]) hE e0h f7c (e5m gg xs act x) ?_
 rewrite [g7v gg xs act x]
 have f0:=g6n gg (c0k gg xs hp.1)
 have f1:=c6q gg f0.1
 have f2:=e8i gg xs hp.1
 have f3:([]:List Int)=b0i xs act x 0:=rfl
 have f4:=hp.2
 simp only[h6g,Bool.and_eq_true,decide_eq_true_eq] at f4
 refine⟨⟨0,⟨?_,⟨⟨rfl,⟨rfl,⟨rfl,⟨rfl,⟨trivial,⟨trivial,⟨?_,trivial⟩⟩⟩⟩⟩⟩⟩,⟨?_,trivial⟩⟩⟩⟩,fun k1 a0=>have b0x0:=i4l xs act x k1;have b0x1:=i4k xs act x k1;have b0x2:=h1g xs act x k1;have b0x3:=i2d gg xs act x k1;⟨?_,fun a1=>⟨fun a2=>⟨?_,⟨fun a3=>⟨?_,⟨?_,⟨k1+1,⟨?_,⟨?_,⟨⟨rfl,⟨rfl,⟨rfl,⟨rfl,⟨trivial,⟨trivial,⟨?_,trivial⟩⟩⟩⟩⟩⟩⟩,⟨?_,trivial⟩⟩⟩⟩⟩⟩⟩,fun a3=>⟨?_,⟨k1+1,⟨?_,⟨?_,⟨⟨rfl,⟨rfl,⟨rfl,⟨rfl,⟨trivial,⟨trivial,⟨?_,trivial⟩⟩⟩⟩⟩⟩⟩,⟨?_,trivial⟩⟩⟩⟩⟩⟩⟩⟩,fun a2=>?_⟩⟩⟩
 all_goals try and_intros
 all_goals first|rfl|trivial|omega|(simp only[decide_eq_true_eq,decide_eq_false_iff_not,a0k,a0c,a8l,a8k,b0e,b0d,a1p,List.length_append,List.length_cons,List.length_nil] at *;omega)|grind
theorem f7v:Ctr.Good b8i:=g6b ⟨c1s,f1a,trivial⟩
end
end Go.Proofs.YthebhlkdppmefaaGreat

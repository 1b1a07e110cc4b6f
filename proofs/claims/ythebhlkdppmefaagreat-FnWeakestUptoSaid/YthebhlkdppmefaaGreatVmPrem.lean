/- Premises. Printed by vmk.py. -/
import Derived.Test.YthebhlkdppmefaaGreatVmUse
import Derived.Test.YthebhlkdppmefaaGreatVmLib
import Derived.Test.YthebhlkdppmefaaGreatVmShaped
import Derived.Test.YthebhlkdppmefaaGreatVmValid
set_option linter.unusedVariables false
set_option linter.unusedSimpArgs false
set_option linter.unusedSectionVars false
set_option maxRecDepth 4000
set_option maxHeartbeats 4000000
namespace Go.Proofs.YthebhlkdppmefaaGreat
noncomputable section
def pmI(gg:a0h)(x:a0e):Bool:=isC gg x.pre&&isC gg x.post&&decide (0≤x.act∧x.act≤gg.actions - 1)
def a1t(gg:a0h)(xs:List a0e):Bool:=a1i gg&&decide (xs.length≤12)&&a0v (pmI gg) xs
theorem i6c(gg:a0h)(x:a0e):pmI gg x=(isC gg x.pre&&isC gg x.post&&decide (0≤x.act∧x.act≤gg.actions - 1)):=rfl
theorem g6n(gg:a0h)(h:a1i gg=true):(0≤gg.tests∧gg.tests≤3)∧0≤gg.actions∧gg.actions≤4:=(a4l gg).1 h
def b3p:Ctr:=⟨c6d,[.v (.st .sig), .v (.st .premise)],fun (gg:a0h) (x:a0e)=>⟨(some (a1i gg=true),[⟨.bool,pmI gg x⟩])⟩⟩
def d8j(gg:a0h)(x:a0e):Nat→a0p:=fun _ => .none
abbrev d2n(gg:a0h)(x:a0e):Prop:=(a0c x.act →
 (a0c gg.actions →
 (a0c (gg.actions - (1:Int))∧((decide ((0:Int)≤x.act∧x.act≤(gg.actions - (1:Int))))=(pmI gg x)))))
theorem f8m(gg:a0h)(x:a0e):awp (a0r [a2b,a3b] [] [] [2,3]) (a0j a9u) (d8j gg x) 0 (a1c (a0r [a2b,a3b] [] [] [2,3]) a9u fun r=>a1f r [⟨.bool,pmI gg x⟩]) (a0m a9u [.val ⟨(.st .sig),gg⟩, .val ⟨(.st .premise),x⟩]) =
 ((((isC gg x.pre)=true →
 (((isC gg x.post)=true →
 (d2n gg x))∧((isC gg x.post)=(!true) →
 false=(pmI gg x))))∧((isC gg x.pre)=(!true) →
 ((false=true →
 (d2n gg x))∧(false=(!true) →
 false=(pmI gg x)))))):=by kernel_rfl
theorem f8b(hE:a0o [a2b,a3b]):Ctr.Good b3p:=by
 refine⟨a0l d4l rfl (by decide),?_⟩
 show ∀ (gg:a0h) (x:a0e),(a1i gg=true)→a1e prog c6d [.val ⟨(.st .sig),gg⟩, .val ⟨(.st .premise),x⟩] (·=[⟨.bool,pmI gg x⟩])
 intro gg x hp
 refine a0w (wr:=[]) (cl:=[]) (ro:=[2,3]) hE d4l f0o (d8j gg x) ?_
 rewrite [f8m gg x]
 have f0:=g6n gg hp
 refine⟨fun a0=>⟨fun a1=>fun a2=>fun a3=>⟨?_,?_⟩,fun a1=>?_⟩,fun a0=>⟨fun a1=>fun a2=>fun a3=>⟨?_,?_⟩,fun a1=>?_⟩⟩
 all_goals try and_intros
 all_goals try rw[i6c]
 all_goals first|rfl|trivial|omega|(simp only[decide_eq_true_eq,decide_eq_false_iff_not,a0k,a0c] at *;omega)|grind [a0k,a0c]
theorem f0x:Ctr.Good b3p:=f8b ⟨a7x,b3i,trivial⟩
def a3a:Ctr:=⟨b9m,[.v (.st .sig), .v (.slice (.st .premise))],fun (gg:a0h) (xs:List a0e)=>⟨(none,[⟨.bool,a1t gg xs⟩])⟩⟩
def c8f(gg:a0h)(xs:List a0e):Nat→a0p:=(fun zb=>if Nat.beq zb 0 then .mk (Nat) (fun k=>k≤xs.length∧a0v (pmI gg) (xs.take k)=true) (fun k=>xs.length - k) [] [0,1,3,5,7,8,9,10,11,12,13,14] (fun k=>[(17, .imm ⟨(.int .i64),((k:Int):Int)⟩)]) [2,4,6,15,16,17,18,19,20,21,22,23,24,25] (fun k=>[]) [] [] (fun k=>fun _ => .none) else .none)
abbrev c4y(gg:a0h)(xs:List a0e):Prop:=(a0c ((xs.length:Int)) →
 ((∃ k1:Nat,((k1≤xs.length∧a0v (pmI gg) (xs.take k1)=true)∧((gg=gg∧(xs=xs∧(((xs.length:Int))=((xs.length:Int))∧((0:Int)=(k1:Int)∧True))))∧True)))∧(∀ k1:Nat,((k1≤xs.length∧a0v (pmI gg) (xs.take k1)=true) →
 (((decide ((k1:Int)<((xs.length:Int))))=true →
 (a0k (k1:Int) xs.length∧(a1i gg=true∧(((!(pmI gg (e0k (xs.getD k1 (a0e.mk zE (0:Int) zE)))))=true →
 false=(a1t gg xs))∧((!(pmI gg (e0k (xs.getD k1 (a0e.mk zE (0:Int) zE)))))=false →
 (a0c ((k1:Int)+(1:Int))∧(∃ k2:Nat,((k2≤xs.length∧a0v (pmI gg) (xs.take k2)=true)∧(xs.length - k2<xs.length - k1∧((gg=gg∧(xs=xs∧(((xs.length:Int))=((xs.length:Int))∧(((k1:Int)+(1:Int))=(k2:Int)∧True))))∧True))))))))))∧((decide ((k1:Int)<((xs.length:Int))))=false →
 true=(a1t gg xs)))))))
theorem e6k(gg:a0h)(xs:List a0e):awp (a0r [a3g,b3p] [] [] [2]) (a0j a6c) (c8f gg xs) 0 (a1c (a0r [a3g,b3p] [] [] [2]) a6c fun r=>a1f r [⟨.bool,a1t gg xs⟩]) (a0m a6c [.val ⟨(.st .sig),gg⟩, .val ⟨(.slice (.st .premise)),xs⟩]) =
 ((((!(a1i gg))=false →
 (a0c ((xs.length:Int)) →
 (((decide ((12:Int)<((xs.length:Int))))=true →
 false=(a1t gg xs))∧((decide ((12:Int)<((xs.length:Int))))=false →
 (c4y gg xs)))))∧((!(a1i gg))=(!false) →
 ((true=true →
 false=(a1t gg xs))∧(true=false →
 (c4y gg xs)))))):=by kernel_rfl
theorem e5z(hE:a0o [a3g,b3p]):Ctr.Good a3a:=by
 refine⟨a0l c6o rfl (by decide),?_⟩
 show ∀ (gg:a0h) (xs:List a0e),True→a1e prog b9m [.val ⟨(.st .sig),gg⟩, .val ⟨(.slice (.st .premise)),xs⟩] (·=[⟨.bool,a1t gg xs⟩])
 intro gg xs _
 refine a0w (wr:=[]) (cl:=[]) (ro:=[2]) hE c6o d9j (c8f gg xs) ?_
 rewrite [e6k gg xs]
 have f0:=a8h (pmI gg) xs
 refine⟨fun a0=>fun a1=>⟨fun a2=>?_,fun a2=>fun a3=>⟨⟨0,⟨?_,⟨⟨rfl,⟨rfl,⟨rfl,⟨?_,trivial⟩⟩⟩⟩,trivial⟩⟩⟩,fun k1 a4=>have b4x0:=a3h (pmI gg) (a0e.mk (a0b.mk 0 0 []) 0 (a0b.mk 0 0 [])) xs k1;have b4x1:=a4c (pmI gg) (a0e.mk (a0b.mk 0 0 []) 0 (a0b.mk 0 0 [])) xs k1;have b4x2:=a3l (pmI gg) xs k1;⟨fun a5=>⟨?_,⟨?_,⟨fun a6=>?_,fun a6=>⟨?_,⟨k1+1,⟨?_,⟨?_,⟨⟨rfl,⟨rfl,⟨rfl,⟨?_,trivial⟩⟩⟩⟩,trivial⟩⟩⟩⟩⟩⟩⟩⟩,fun a5=>?_⟩⟩⟩,fun a0=>⟨fun a1=>?_,fun a1=>fun a2=>⟨⟨0,⟨?_,⟨⟨rfl,⟨rfl,⟨rfl,⟨?_,trivial⟩⟩⟩⟩,trivial⟩⟩⟩,fun k1 a3=>have b3x0:=a3h (pmI gg) (a0e.mk (a0b.mk 0 0 []) 0 (a0b.mk 0 0 [])) xs k1;have b3x1:=a4c (pmI gg) (a0e.mk (a0b.mk 0 0 []) 0 (a0b.mk 0 0 [])) xs k1;have b3x2:=a3l (pmI gg) xs k1;⟨fun a4=>⟨?_,⟨?_,⟨fun a5=>?_,fun a5=>⟨?_,⟨k1+1,⟨?_,⟨?_,⟨⟨rfl,⟨rfl,⟨rfl,⟨?_,trivial⟩⟩⟩⟩,trivial⟩⟩⟩⟩⟩⟩⟩⟩,fun a4=>?_⟩⟩⟩⟩
 all_goals try and_intros
 all_goals try simp only[a0b.eta,a0d.eta,a1g.eta,a0e.eta,a2u,a2z,a2o,a2f] at *
 all_goals try rw[a1t]
 all_goals first|rfl|trivial|omega|(simp only[decide_eq_true_eq,decide_eq_false_iff_not,a0k,a0c] at *;omega)|grind [a0k,a0c]
theorem b4j:Ctr.Good a3a:=e5z ⟨b5o,f0x,trivial⟩
end
end Go.Proofs.YthebhlkdppmefaaGreat

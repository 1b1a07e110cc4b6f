/- Truth, Valid. -/
import Derived.Test.YtlaoejdeanljgaaVmUse
import Derived.Test.YtlaoejdeanljgaaVmLib
import Derived.Test.YtlaoejdeanljgaaVmShaped
set_option linter.unusedVariables false
set_option linter.unusedSimpArgs false
set_option linter.unusedSectionVars false
namespace Go.Proofs.Ytlaoejdeanljgaa
noncomputable section
end
end Go.Proofs.Ytlaoejdeanljgaa

set_option linter.unusedVariables false
set_option linter.unusedSimpArgs false
set_option linter.unusedSectionVars false
set_option maxRecDepth 4000
set_option maxHeartbeats 4000000
namespace Go.Proofs.Ytlaoejdeanljgaa
noncomputable section
theorem g7z(gg:a0v):a2r gg=true↔(0≤gg.tests∧gg.tests≤3)∧(0≤gg.actions∧gg.actions≤4):=by
 simp[a2r]
def isE(gg:a0v)(x:a0c):Bool:=shB gg x 200 40
def okE(gg:a0v)(x:a0c):Bool:=a2r gg&&isE gg x
def isC(gg:a0v)(x:a0c):Bool:=isE gg x&&a1n x
def okC(gg:a0v)(x:a0c):Bool:=okE gg x&&a1n x
theorem h0d(gg:a0v)(x:a0c):isE gg x=true↔a2c (a0r gg.tests) (a0r gg.actions) x=true∧a1a x≤200∧a1q x≤40:=by
 simp only[isE,shB,Bool.and_eq_true,decide_eq_true_eq]
 constructor
 ·rintro⟨⟨a,b⟩,c⟩;exact⟨a,by omega,by omega⟩
 ·rintro⟨a,b,c⟩;exact⟨⟨a,by omega⟩,by omega⟩
def b7i:Ctr:=⟨c7k,[.v (.st .sig), .v (.st .expr)],fun (gg:a0v) (x:a0c)=>⟨(none,[⟨.bool,isE gg x⟩])⟩⟩
def d9k(gg:a0v)(x:a0c):Nat→a0s:=fun _ => .none
theorem f8k(gg:a0v)(x:a0c):awp (a0u [c1t] [] [] [2,3]) (a0k b1i) (d9k gg x) 0 (a1b (a0u [c1t] [] [] [2,3]) b1i fun r=>a1d r [⟨.bool,isE gg x⟩]) (a0p b1i [.val ⟨(.st .sig),gg⟩, .val ⟨(.st .expr),x⟩]) =
 (((0≤(200:Int)∧(200:Int)≤1048576∧0≤(40:Int)∧(40:Int)≤1048576)∧(a0d (shN gg x (200:Int) (40:Int)) →
 (shB gg x (200:Int) (40:Int))=(isE gg x)))):=by kernel_rfl
theorem f7o(hE:a0m [c1t]):Ctr.Good b7i:=by
 refine⟨a0j d5b rfl (by decide),?_⟩
 show ∀ (gg:a0v) (x:a0c),True→a0z prog c7k [.val ⟨(.st .sig),gg⟩, .val ⟨(.st .expr),x⟩] (·=[⟨.bool,isE gg x⟩])
 intro gg x _
 refine a0x (wr:=[]) (cl:=[]) (ro:=[2,3]) hE d5b e8z (d9k gg x) ?_
 rewrite [f8k gg x]
 refine⟨?_,fun a0=>?_⟩
 all_goals try and_intros
 all_goals first|rfl|trivial|omega|(simp only[decide_eq_true_eq,decide_eq_false_iff_not,a0g,a0d,a1z,a2w,a1w,a1x] at *;omega)|(simp[a0g,a0d] at *;omega)|grind
theorem f0c:Ctr.Good b7i:=f7o ⟨f0h,trivial⟩
def b9f:Ctr:=⟨d1v,[.v (.st .sig), .r (.st .expr)],fun (gg:a0v) (x:a0c)=>⟨(none,[⟨.bool,okE gg x⟩])⟩⟩
def e3o(gg:a0v)(x:a0c):Nat→a0s:=fun _ => .none
abbrev d5w(gg:a0v)(x:a0c):Prop:=(a1q x≤1048576∧(a0d ((a1q x:Int)) →
 (((decide (((a1q x:Int))≤(40:Int)))=true →
 (a2c (a0r gg.tests) (a0r gg.actions) x)=(okE gg x))∧((decide (((a1q x:Int))≤(40:Int)))=(!true) →
 false=(okE gg x)))))
theorem g1h(gg:a0v)(x:a0c):awp (a0u [a7b,b9z,b8o,c0a] [] [] [2]) (a0k b4z) (e3o gg x) 0 (a1b (a0u [a7b,b9z,b8o,c0a] [] [] [2]) b4z fun r=>a1d r [⟨.bool,okE gg x⟩]) (a0p b4z [.val ⟨(.st .sig),gg⟩, .ref ⟨(.st .expr),x⟩]) =
 ((((a2r gg)=true →
 ((0≤(200:Int)∧(200:Int)≤1048576)∧(a0d (szR (a1a x) (200:Int)) →
 (((decide ((0:Int)≤(szR (a1a x) (200:Int))))=true →
 (d5w gg x))∧((decide ((0:Int)≤(szR (a1a x) (200:Int))))=(!true) →
 ((false=true →
 (a2c (a0r gg.tests) (a0r gg.actions) x)=(okE gg x))∧(false=(!true) →
 false=(okE gg x))))))))∧((a2r gg)=(!true) →
 ((false=true →
 (d5w gg x))∧(false=(!true) →
 ((false=true →
 (a2c (a0r gg.tests) (a0r gg.actions) x)=(okE gg x))∧(false=(!true) →
 false=(okE gg x)))))))):=by kernel_rfl
theorem g0z(hE:a0m [a7b,b9z,b8o,c0a]):Ctr.Good b9f:=by
 refine⟨a0j d9a rfl (by decide),?_⟩
 show ∀ (gg:a0v) (x:a0c),True→a0z prog d1v [.val ⟨(.st .sig),gg⟩, .ref ⟨(.st .expr),x⟩] (·=[⟨.bool,okE gg x⟩])
 intro gg x _
 refine a0x (wr:=[]) (cl:=[]) (ro:=[2]) hE d9a f3j (e3o gg x) ?_
 rewrite [g1h gg x]
 have f1:=a5k (a1a x) 200
 have f2:=e8d x
 have f3:okE gg x=(a2r gg&&(a2c (a0r gg.tests) (a0r gg.actions) x&&decide ((a1a x:Int)≤200)&&decide ((a1q x:Int)≤40))):=rfl
 refine⟨fun a0=>⟨?_,fun a1=>⟨fun a2=>⟨?_,fun a3=>⟨fun a4=>?_,fun a4=>?_⟩⟩,fun a2=>⟨fun a3=>?_,fun a3=>?_⟩⟩⟩,fun a0=>⟨fun a1=>⟨?_,fun a2=>⟨fun a3=>?_,fun a3=>?_⟩⟩,fun a1=>⟨fun a2=>?_,fun a2=>?_⟩⟩⟩
 all_goals try and_intros
 all_goals try rw[f3]
 all_goals first|rfl|trivial|omega|(simp only[decide_eq_true_eq,decide_eq_false_iff_not,Bool.not_eq_true',Bool.not_eq_false'] at *;omega)|grind
theorem f3x:Ctr.Good b9f:=g0z ⟨d0v,e6i,e3e,e6j,trivial⟩
def a7v:Ctr:=⟨b9h,[.v (.st .sig), .v (.st .expr)],fun (gg:a0v) (x:a0c)=>⟨(none,[⟨.bool,isC gg x⟩])⟩⟩
def c6s(gg:a0v)(x:a0c):Nat→a0s:=fun _ => .none
theorem e1e(gg:a0v)(x:a0c):awp (a0u [b7i,a4r] [] [] [2,3]) (a0k a6i) (c6s gg x) 0 (a1b (a0u [b7i,a4r] [] [] [2,3]) a6i fun r=>a1d r [⟨.bool,isC gg x⟩]) (a0p a6i [.val ⟨(.st .sig),gg⟩, .val ⟨(.st .expr),x⟩]) =
 ((((isE gg x)=true →
 (a1n x)=(isC gg x))∧((isE gg x)=(!true) →
 false=(isC gg x)))):=by kernel_rfl
theorem e1a(hE:a0m [b7i,a4r]):Ctr.Good a7v:=by
 refine⟨a0j c4p rfl (by decide),?_⟩
 show ∀ (gg:a0v) (x:a0c),True→a0z prog b9h [.val ⟨(.st .sig),gg⟩, .val ⟨(.st .expr),x⟩] (·=[⟨.bool,isC gg x⟩])
 intro gg x _
 refine a0x (wr:=[]) (cl:=[]) (ro:=[2,3]) hE c4p d5o (c6s gg x) ?_
 rewrite [e1e gg x]
 refine⟨fun a0=>?_,fun a0=>?_⟩
 all_goals try and_intros
 all_goals first|rfl|trivial|(simp_all [isC];done)
theorem d5t:Ctr.Good a7v:=e1a ⟨f0c,c3e,trivial⟩
def b5g:Ctr:=⟨c5l,[.v (.st .sig), .r (.st .expr)],fun (gg:a0v) (x:a0c)=>⟨(none,[⟨.bool,okC gg x⟩])⟩⟩
def d6j(gg:a0v)(x:a0c):Nat→a0s:=fun _ => .none
theorem f6g(gg:a0v)(x:a0c):awp (a0u [b9f,a4j] [] [] [2]) (a0k a9z) (d6j gg x) 0 (a1b (a0u [b9f,a4j] [] [] [2]) a9z fun r=>a1d r [⟨.bool,okC gg x⟩]) (a0p a9z [.val ⟨(.st .sig),gg⟩, .ref ⟨(.st .expr),x⟩]) =
 ((((okE gg x)=true →
 (a1n x)=(okC gg x))∧((okE gg x)=(!true) →
 false=(okC gg x)))):=by kernel_rfl
theorem f4y(hE:a0m [b9f,a4j]):Ctr.Good b5g:=by
 refine⟨a0j d2p rfl (by decide),?_⟩
 show ∀ (gg:a0v) (x:a0c),True→a0z prog c5l [.val ⟨(.st .sig),gg⟩, .ref ⟨(.st .expr),x⟩] (·=[⟨.bool,okC gg x⟩])
 intro gg x _
 refine a0x (wr:=[]) (cl:=[]) (ro:=[2]) hE d2p e5z (d6j gg x) ?_
 rewrite [f6g gg x]
 refine⟨fun a0=>?_,fun a0=>?_⟩
 all_goals try and_intros
 all_goals first|rfl|trivial|(simp_all [okC];done)
theorem e6l:Ctr.Good b5g:=f4y ⟨f3x,c1h,trivial⟩
end
end Go.Proofs.Ytlaoejdeanljgaa

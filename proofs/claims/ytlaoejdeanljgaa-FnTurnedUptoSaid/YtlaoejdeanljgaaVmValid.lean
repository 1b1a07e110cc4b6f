/- Truth, Valid. -/
import Derived.Test.YtlaoejdeanljgaaVmUse
import Derived.Test.YtlaoejdeanljgaaVmLib
import Derived.Test.YtlaoejdeanljgaaVmShaped
set_option linter.unusedVariables false
set_option linter.unusedSimpArgs false
set_option linter.unusedSectionVars false
namespace Go.Proofs.Ytlaoejdeanljgaa
noncomputable section
end
end Go.Proofs.Ytlaoejdeanljgaa

set_option linter.unusedVariables false
set_option linter.unusedSimpArgs false
set_option linter.unusedSectionVars false
set_option maxRecDepth 4000
set_option maxHeartbeats 4000000
namespace Go.Proofs.Ytlaoejdeanljgaa
noncomputable section
theorem a6e(gg:a0l):a1y gg=true↔(0≤gg.tests∧gg.tests≤3)∧(0≤gg.actions∧gg.actions≤4):=by
 simp[a1y]
def isE(gg:a0l)(x:a0b):Bool:=shB gg x 200 40
def okE(gg:a0l)(x:a0b):Bool:=a1y gg&&isE gg x
def isC(gg:a0l)(x:a0b):Bool:=isE gg x&&a1i x
def okC(gg:a0l)(x:a0b):Bool:=okE gg x&&a1i x
theorem f4w(gg:a0l)(x:a0b):isE gg x=true↔a1s (a0n gg.tests) (a0n gg.actions) x=true∧a0u x≤200∧a1j x≤40:=by
 simp only[isE,shB,Bool.and_eq_true,decide_eq_true_eq]
 constructor
 ·rintro⟨⟨a,b⟩,c⟩;exact⟨a,by omega,by omega⟩
 ·rintro⟨a,b,c⟩;exact⟨⟨a,by omega⟩,by omega⟩
def b6j:Ctr:=⟨c6q,[.v (.st .sig), .v (.st .expr)],fun (gg:a0l) (x:a0b)=>⟨(none,[⟨.bool,isE gg x⟩])⟩⟩
def d9c(gg:a0l)(x:a0b):Nat→a0t:=fun _ => .none
theorem f5v(gg:a0l)(x:a0b):awp (a0x [c0q] [] [] [2,3]) (a0i b1l) (d9c gg x) 0 (a1h (a0x [c0q] [] [] [2,3]) b1l fun r=>a1e r [⟨.bool,isE gg x⟩]) (a0r b1l [.val ⟨(.st .sig),gg⟩, .val ⟨(.st .expr),x⟩]) =
 (((0≤(200:Int)∧(200:Int)≤1048576∧0≤(40:Int)∧(40:Int)≤1048576)∧(a0d (shN gg x (200:Int) (40:Int)) →
 (shB gg x (200:Int) (40:Int))=(isE gg x)))):=by kernel_rfl
theorem f5a(hE:a0p [c0q]):Ctr.Good b6j:=by
 refine⟨a0j d4d rfl (by decide),?_⟩
 show ∀ (gg:a0l) (x:a0b),True→a1f prog c6q [.val ⟨(.st .sig),gg⟩, .val ⟨(.st .expr),x⟩] (·=[⟨.bool,isE gg x⟩])
 intro gg x _
 refine a0z (wr:=[]) (cl:=[]) (ro:=[2,3]) hE d4d e7k (d9c gg x) ?_
 rewrite [f5v gg x]
 refine⟨?_,fun a0=>?_⟩
 all_goals try and_intros
 all_goals first|rfl|trivial|omega|(simp only[decide_eq_true_eq,decide_eq_false_iff_not,a0h,a0d,a2j,a4q,a4a,a2p] at *;omega)|(simp[a0h,a0d] at *;omega)|grind
theorem e8j:Ctr.Good b6j:=f5a ⟨e8o,trivial⟩
def a7v:Ctr:=⟨d0y,[.v (.st .sig), .r (.st .expr)],fun (gg:a0l) (x:a0b)=>⟨(none,[⟨.bool,okE gg x⟩])⟩⟩
def e2t(gg:a0l)(x:a0b):Nat→a0t:=fun _ => .none
abbrev d5h(gg:a0l)(x:a0b):Prop:=(a1j x≤1048576∧(a0d ((a1j x:Int)) →
 (((decide (((a1j x:Int))≤(40:Int)))=true →
 (a1s (a0n gg.tests) (a0n gg.actions) x)=(okE gg x))∧((decide (((a1j x:Int))≤(40:Int)))=(!true) →
 false=(okE gg x)))))
theorem f8m(gg:a0l)(x:a0b):awp (a0x [a6y,b8z,b7n,b9a] [] [] [2]) (a0i b4m) (e2t gg x) 0 (a1h (a0x [a6y,b8z,b7n,b9a] [] [] [2]) b4m fun r=>a1e r [⟨.bool,okE gg x⟩]) (a0r b4m [.val ⟨(.st .sig),gg⟩, .ref ⟨(.st .expr),x⟩]) =
 ((((a1y gg)=true →
 ((0≤(200:Int)∧(200:Int)≤1048576)∧(a0d (szR (a0u x) (200:Int)) →
 (((decide ((0:Int)≤(szR (a0u x) (200:Int))))=true →
 (d5h gg x))∧((decide ((0:Int)≤(szR (a0u x) (200:Int))))=(!true) →
 ((false=true →
 (a1s (a0n gg.tests) (a0n gg.actions) x)=(okE gg x))∧(false=(!true) →
 false=(okE gg x))))))))∧((a1y gg)=(!true) →
 ((false=true →
 (d5h gg x))∧(false=(!true) →
 ((false=true →
 (a1s (a0n gg.tests) (a0n gg.actions) x)=(okE gg x))∧(false=(!true) →
 false=(okE gg x)))))))):=by kernel_rfl
theorem f8f(hE:a0p [a6y,b8z,b7n,b9a]):Ctr.Good a7v:=by
 refine⟨a0j d8s rfl (by decide),?_⟩
 show ∀ (gg:a0l) (x:a0b),True→a1f prog d0y [.val ⟨(.st .sig),gg⟩, .ref ⟨(.st .expr),x⟩] (·=[⟨.bool,okE gg x⟩])
 intro gg x _
 refine a0z (wr:=[]) (cl:=[]) (ro:=[2]) hE d8s f1d (e2t gg x) ?_
 rewrite [f8m gg x]
 have f1:=b6s (a0u x) 200
 have f2:=e6q x
 have f3:okE gg x=(a1y gg&&(a1s (a0n gg.tests) (a0n gg.actions) x&&decide ((a0u x:Int)≤200)&&decide ((a1j x:Int)≤40))):=rfl
 refine⟨fun a0=>⟨?_,fun a1=>⟨fun a2=>⟨?_,fun a3=>⟨fun a4=>?_,fun a4=>?_⟩⟩,fun a2=>⟨fun a3=>?_,fun a3=>?_⟩⟩⟩,fun a0=>⟨fun a1=>⟨?_,fun a2=>⟨fun a3=>?_,fun a3=>?_⟩⟩,fun a1=>⟨fun a2=>?_,fun a2=>?_⟩⟩⟩
 all_goals try and_intros
 all_goals try rw[f3]
 all_goals first|rfl|trivial|omega|(simp only[decide_eq_true_eq,decide_eq_false_iff_not,Bool.not_eq_true',Bool.not_eq_false'] at *;omega)|grind
theorem d1w:Ctr.Good a7v:=f8f ⟨d0a,e5i,e2k,e5j,trivial⟩
def a7u:Ctr:=⟨b8h,[.v (.st .sig), .v (.st .expr)],fun (gg:a0l) (x:a0b)=>⟨(none,[⟨.bool,isC gg x⟩])⟩⟩
def c5z(gg:a0l)(x:a0b):Nat→a0t:=fun _ => .none
theorem e0p(gg:a0l)(x:a0b):awp (a0x [b6j,a4u] [] [] [2,3]) (a0i a5r) (c5z gg x) 0 (a1h (a0x [b6j,a4u] [] [] [2,3]) a5r fun r=>a1e r [⟨.bool,isC gg x⟩]) (a0r a5r [.val ⟨(.st .sig),gg⟩, .val ⟨(.st .expr),x⟩]) =
 ((((isE gg x)=true →
 (a1i x)=(isC gg x))∧((isE gg x)=(!true) →
 false=(isC gg x)))):=by kernel_rfl
theorem e0i(hE:a0p [b6j,a4u]):Ctr.Good a7u:=by
 refine⟨a0j c3o rfl (by decide),?_⟩
 show ∀ (gg:a0l) (x:a0b),True→a1f prog b8h [.val ⟨(.st .sig),gg⟩, .val ⟨(.st .expr),x⟩] (·=[⟨.bool,isC gg x⟩])
 intro gg x _
 refine a0z (wr:=[]) (cl:=[]) (ro:=[2,3]) hE c3o d4t (c5z gg x) ?_
 rewrite [e0p gg x]
 refine⟨fun a0=>?_,fun a0=>?_⟩
 all_goals try and_intros
 all_goals first|rfl|trivial|(simp_all [isC];done)
theorem d5e:Ctr.Good a7u:=e0i ⟨e8j,c1m,trivial⟩
def b5a:Ctr:=⟨c4m,[.v (.st .sig), .r (.st .expr)],fun (gg:a0l) (x:a0b)=>⟨(none,[⟨.bool,okC gg x⟩])⟩⟩
def d5q(gg:a0l)(x:a0b):Nat→a0t:=fun _ => .none
theorem f3u(gg:a0l)(x:a0b):awp (a0x [a7v,a4k] [] [] [2]) (a0i b0a) (d5q gg x) 0 (a1h (a0x [a7v,a4k] [] [] [2]) b0a fun r=>a1e r [⟨.bool,okC gg x⟩]) (a0r b0a [.val ⟨(.st .sig),gg⟩, .ref ⟨(.st .expr),x⟩]) =
 ((((okE gg x)=true →
 (a1i x)=(okC gg x))∧((okE gg x)=(!true) →
 false=(okC gg x)))):=by kernel_rfl
theorem f2n(hE:a0p [a7v,a4k]):Ctr.Good b5a:=by
 refine⟨a0j d1p rfl (by decide),?_⟩
 show ∀ (gg:a0l) (x:a0b),True→a1f prog c4m [.val ⟨(.st .sig),gg⟩, .ref ⟨(.st .expr),x⟩] (·=[⟨.bool,okC gg x⟩])
 intro gg x _
 refine a0z (wr:=[]) (cl:=[]) (ro:=[2]) hE d1p e4x (d5q gg x) ?_
 rewrite [f3u gg x]
 refine⟨fun a0=>?_,fun a0=>?_⟩
 all_goals try and_intros
 all_goals first|rfl|trivial|(simp_all [okC];done)
theorem e5n:Ctr.Good b5a:=f2n ⟨d1w,c0d,trivial⟩
end
end Go.Proofs.Ytlaoejdeanljgaa

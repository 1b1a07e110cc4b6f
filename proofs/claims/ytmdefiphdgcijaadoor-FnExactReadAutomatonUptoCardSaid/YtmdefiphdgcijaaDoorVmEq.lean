/- The comparisons of data. Printed by vmk.py. -/
import Derived.Test.YtmdefiphdgcijaaDoorVmUse
import Derived.Test.YtmdefiphdgcijaaDoorVmLib
set_option linter.unusedVariables false
set_option linter.unusedSimpArgs false
set_option linter.unusedSectionVars false
set_option maxRecDepth 4000
set_option maxHeartbeats 4000000
namespace Go.Proofs.YtmdefiphdgcijaaDoor
noncomputable section
def b0u:Ctr:=⟨c0u,[.v (.st .sig), .v (.st .sig)],fun (x:a0t) (y:a0t)=>⟨(none,[⟨.bool,eqB x y⟩])⟩⟩
def c9t(x:a0t)(y:a0t):Nat→a0w:=fun _ => .none
theorem e0c(x:a0t)(y:a0t):awp (a1c [] [] [] [2,3]) (a0m a8y) (c9t x y) 0 (a1m (a1c [] [] [] [2,3]) a8y fun r=>a2e r [⟨.bool,eqB x y⟩]) (a0q a8y [.val ⟨(.st .sig),x⟩, .val ⟨(.st .sig),y⟩]) =
 ((a0e x.tests →
 (a0e y.tests →
 (((!(decide (x.tests=y.tests)))=true →
 false=(eqB x y))∧((!(decide (x.tests=y.tests)))=false →
 (a0e x.actions →
 (a0e y.actions →
 (((!(decide (x.actions=y.actions)))=true →
 false=(eqB x y))∧((!(decide (x.actions=y.actions)))=false →
 true=(eqB x y)))))))))):=by kernel_rfl
theorem d9w(hE:a0z []):Ctr.Good b0u:=by
 refine⟨a1g c7h rfl (by decide),?_⟩
 show ∀ (x:a0t) (y:a0t),True→a1h a0k c0u [.val ⟨(.st .sig),x⟩, .val ⟨(.st .sig),y⟩] (·=[⟨.bool,eqB x y⟩])
 intro x y _
 refine a1k (wr:=[]) (cl:=[]) (ro:=[2,3]) hE c7h d5d (c9t x y) ?_
 rewrite [e0c x y]
 refine fun a0=>fun a1=>⟨fun a2=>?_,fun a2=>fun a3=>fun a4=>⟨fun a5=>?_,fun a5=>?_⟩⟩
 all_goals try and_intros
 all_goals first|rfl|trivial|(simp only[decide_eq_true_eq,decide_eq_false_iff_not,a0j,a0e] at *;omega)|(refine a4w fun hab=>?_;subst hab;simp_all)|(refine b3j ?_;cases x;cases y;simp_all)
theorem d5u:Ctr.Good b0u:=d9w trivial
def a9e:Ctr:=⟨b6o,[.v (.slice .bool), .v (.slice .bool)],fun (xs:List Bool) (ys:List Bool)=>⟨(none,[⟨.bool,eqB xs ys⟩])⟩⟩
def c4p(xs:List Bool)(ys:List Bool):Nat→a0w:=(fun zb=>if Nat.beq zb 0 then .mk (Nat) (fun k=>k≤xs.length∧xs.length=ys.length∧xs.take k=ys.take k) (fun k=>xs.length - k) [] [2,3,6,7,8,9,10] (fun k=>[(5, .imm ⟨(.int .i64),((k:Int):Int)⟩)]) [0,1,4,5,11,12,13,14,15,16,17,18,19,20,21,22,23,24,25] (fun k=>[]) [] [] (fun k=>fun _ => .none) else .none)
theorem d7d(xs:List Bool)(ys:List Bool):awp (a1c []) (a0m a6w) (c4p xs ys) 0 (a1m (a1c []) a6w fun r=>a2e r [⟨.bool,eqB xs ys⟩]) (a0q a6w [.val ⟨(.slice .bool),xs⟩, .val ⟨(.slice .bool),ys⟩]) =
 ((a0e ((xs.length:Int)) →
 (a0e ((ys.length:Int)) →
 (((!(decide (((xs.length:Int))=((ys.length:Int)))))=true →
 false=(eqB xs ys))∧((!(decide (((xs.length:Int))=((ys.length:Int)))))=false →
 ((∃ k1:Nat,((k1≤xs.length∧xs.length=ys.length∧xs.take k1=ys.take k1)∧((xs=xs∧(ys=ys∧((0:Int)=(k1:Int)∧True)))∧True)))∧(∀ k1:Nat,((k1≤xs.length∧xs.length=ys.length∧xs.take k1=ys.take k1) →
 (a0e ((xs.length:Int)) →
 (((decide ((k1:Int)<((xs.length:Int))))=true →
 (a0j (k1:Int) xs.length∧(a0j (k1:Int) ys.length∧(((!((xs.getD k1 false) == (ys.getD k1 false)))=true →
 false=(eqB xs ys))∧((!((xs.getD k1 false) == (ys.getD k1 false)))=false →
 (a0e ((k1:Int)+(1:Int))∧(∃ k2:Nat,((k2≤xs.length∧xs.length=ys.length∧xs.take k2=ys.take k2)∧(xs.length - k2<xs.length - k1∧((xs=xs∧(ys=ys∧(((k1:Int)+(1:Int))=(k2:Int)∧True)))∧True))))))))))∧((decide ((k1:Int)<((xs.length:Int))))=false →
 true=(eqB xs ys)))))))))))):=by kernel_rfl
theorem d6o(hE:a0z []):Ctr.Good a9e:=by
 refine⟨a1g c1r rfl (by decide),?_⟩
 show ∀ (xs:List Bool) (ys:List Bool),True→a1h a0k b6o [.val ⟨(.slice .bool),xs⟩, .val ⟨(.slice .bool),ys⟩] (·=[⟨.bool,eqB xs ys⟩])
 intro xs ys _
 refine a1k (wr:=[]) (cl:=[]) (ro:=[]) hE c1r d2e (c4p xs ys) ?_
 rewrite [d7d xs ys]
 refine fun a0=>fun a1=>⟨fun a2=>?_,fun a2=>⟨⟨0,⟨?_,⟨⟨rfl,⟨rfl,⟨?_,trivial⟩⟩⟩,trivial⟩⟩⟩,fun k1 a3=>have b3x0:=a6t false xs ys k1;have b3x1:=a3k xs ys k1;fun a4=>⟨fun a5=>⟨?_,⟨?_,⟨fun a6=>?_,fun a6=>⟨?_,⟨k1+1,⟨?_,⟨?_,⟨⟨rfl,⟨rfl,⟨?_,trivial⟩⟩⟩,trivial⟩⟩⟩⟩⟩⟩⟩⟩,fun a5=>?_⟩⟩⟩
 all_goals try and_intros
 all_goals first|rfl|trivial|(simp only[decide_eq_true_eq,decide_eq_false_iff_not,Bool.not_eq_false',decide_not,Bool.not_eq_true',a0j,a0e] at *;first|omega|(refine a4w fun hab=>?_;subst hab;simp_all;done)|(refine b3j (a3k _ _ _ (by omega) (by omega) (by simp_all))))|(refine a4w fun hab=>?_;subst hab;simp_all;done)|(simp_all;done)|(refine a6t false _ _ _ (by simp_all;omega) (by simp_all;omega) (by simp_all) ?_;simp_all;done)
theorem d2i:Ctr.Good a9e:=d6o trivial
def a7z:Ctr:=⟨b5e,[.v (.slice (.slice .bool)), .v (.slice (.slice .bool))],fun (xs:List (List Bool)) (ys:List (List Bool))=>⟨(none,[⟨.bool,eqB xs ys⟩])⟩⟩
def c1z(xs:List (List Bool))(ys:List (List Bool)):Nat→a0w:=(fun zb=>if Nat.beq zb 0 then .mk (Nat) (fun k=>k≤xs.length∧xs.length=ys.length∧xs.take k=ys.take k) (fun k=>xs.length - k) [] [2,3,6,7,8,9,10] (fun k=>[(5, .imm ⟨(.int .i64),((k:Int):Int)⟩)]) [0,1,4,5,11,12,13,14,15,16,17,18,19,20,21,22,23,24,25,26] (fun k=>[]) [] [] (fun k=>fun _ => .none) else .none)
theorem d4l(xs:List (List Bool))(ys:List (List Bool)):awp (a1c [a9e]) (a0m a6b) (c1z xs ys) 0 (a1m (a1c [a9e]) a6b fun r=>a2e r [⟨.bool,eqB xs ys⟩]) (a0q a6b [.val ⟨(.slice (.slice .bool)),xs⟩, .val ⟨(.slice (.slice .bool)),ys⟩]) =
 ((a0e ((xs.length:Int)) →
 (a0e ((ys.length:Int)) →
 (((!(decide (((xs.length:Int))=((ys.length:Int)))))=true →
 false=(eqB xs ys))∧((!(decide (((xs.length:Int))=((ys.length:Int)))))=false →
 ((∃ k1:Nat,((k1≤xs.length∧xs.length=ys.length∧xs.take k1=ys.take k1)∧((xs=xs∧(ys=ys∧((0:Int)=(k1:Int)∧True)))∧True)))∧(∀ k1:Nat,((k1≤xs.length∧xs.length=ys.length∧xs.take k1=ys.take k1) →
 (a0e ((xs.length:Int)) →
 (((decide ((k1:Int)<((xs.length:Int))))=true →
 (a0j (k1:Int) xs.length∧(a0j (k1:Int) ys.length∧((xs.getD k1 []).length≤140737488355328 →
 ((ys.getD k1 []).length≤140737488355328 →
 (((!(eqB (xs.getD k1 []) (ys.getD k1 [])))=true →
 false=(eqB xs ys))∧((!(eqB (xs.getD k1 []) (ys.getD k1 [])))=false →
 (a0e ((k1:Int)+(1:Int))∧(∃ k2:Nat,((k2≤xs.length∧xs.length=ys.length∧xs.take k2=ys.take k2)∧(xs.length - k2<xs.length - k1∧((xs=xs∧(ys=ys∧(((k1:Int)+(1:Int))=(k2:Int)∧True)))∧True))))))))))))∧((decide ((k1:Int)<((xs.length:Int))))=false →
 true=(eqB xs ys)))))))))))):=by kernel_rfl
theorem d4e(hE:a0z [a9e]):Ctr.Good a7z:=by
 refine⟨a1g b9t rfl (by decide),?_⟩
 show ∀ (xs:List (List Bool)) (ys:List (List Bool)),True→a1h a0k b5e [.val ⟨(.slice (.slice .bool)),xs⟩, .val ⟨(.slice (.slice .bool)),ys⟩] (·=[⟨.bool,eqB xs ys⟩])
 intro xs ys _
 refine a1k (wr:=[]) (cl:=[]) (ro:=[]) hE b9t c8p (c1z xs ys) ?_
 rewrite [d4l xs ys]
 refine fun a0=>fun a1=>⟨fun a2=>?_,fun a2=>⟨⟨0,⟨?_,⟨⟨rfl,⟨rfl,⟨?_,trivial⟩⟩⟩,trivial⟩⟩⟩,fun k1 a3=>have b3x0:=a6t [] xs ys k1;have b3x1:=a3k xs ys k1;fun a4=>⟨fun a5=>⟨?_,⟨?_,fun a6=>fun a7=>⟨fun a8=>?_,fun a8=>⟨?_,⟨k1+1,⟨?_,⟨?_,⟨⟨rfl,⟨rfl,⟨?_,trivial⟩⟩⟩,trivial⟩⟩⟩⟩⟩⟩⟩⟩,fun a5=>?_⟩⟩⟩
 all_goals try and_intros
 all_goals first|rfl|trivial|(simp only[decide_eq_true_eq,decide_eq_false_iff_not,Bool.not_eq_false',decide_not,Bool.not_eq_true',a0j,a0e] at *;first|omega|(refine a4w fun hab=>?_;subst hab;simp_all;done)|(refine b3j (a3k _ _ _ (by omega) (by omega) (by simp_all))))|(refine a4w fun hab=>?_;subst hab;simp_all;done)|(simp_all;done)|(refine a6t [] _ _ _ (by simp_all;omega) (by simp_all;omega) (by simp_all) ?_;simp_all;done)
theorem c9k:Ctr.Good a7z:=d4e ⟨d2i,trivial⟩
def a8a:Ctr:=⟨b5f,[.v (.slice (.int .i64)), .v (.slice (.int .i64))],fun (xs:List Int) (ys:List Int)=>⟨(none,[⟨.bool,eqB xs ys⟩])⟩⟩
def c2a(xs:List Int)(ys:List Int):Nat→a0w:=(fun zb=>if Nat.beq zb 0 then .mk (Nat) (fun k=>k≤xs.length∧xs.length=ys.length∧xs.take k=ys.take k) (fun k=>xs.length - k) [] [2,3,6,7,8,9,10] (fun k=>[(5, .imm ⟨(.int .i64),((k:Int):Int)⟩)]) [0,1,4,5,11,12,13,14,15,16,17,18,19,20,21,22,23,24,25] (fun k=>[]) [] [] (fun k=>fun _ => .none) else .none)
theorem d4m(xs:List Int)(ys:List Int):awp (a1c []) (a0m a6c) (c2a xs ys) 0 (a1m (a1c []) a6c fun r=>a2e r [⟨.bool,eqB xs ys⟩]) (a0q a6c [.val ⟨(.slice (.int .i64)),xs⟩, .val ⟨(.slice (.int .i64)),ys⟩]) =
 ((a0e ((xs.length:Int)) →
 (a0e ((ys.length:Int)) →
 (((!(decide (((xs.length:Int))=((ys.length:Int)))))=true →
 false=(eqB xs ys))∧((!(decide (((xs.length:Int))=((ys.length:Int)))))=false →
 ((∃ k1:Nat,((k1≤xs.length∧xs.length=ys.length∧xs.take k1=ys.take k1)∧((xs=xs∧(ys=ys∧((0:Int)=(k1:Int)∧True)))∧True)))∧(∀ k1:Nat,((k1≤xs.length∧xs.length=ys.length∧xs.take k1=ys.take k1) →
 (a0e ((xs.length:Int)) →
 (((decide ((k1:Int)<((xs.length:Int))))=true →
 (a0j (k1:Int) xs.length∧(a0j (k1:Int) ys.length∧(a0e (xs.getD k1 (0:Int)) →
 (a0e (ys.getD k1 (0:Int)) →
 (((!(decide ((xs.getD k1 (0:Int))=(ys.getD k1 (0:Int)))))=true →
 false=(eqB xs ys))∧((!(decide ((xs.getD k1 (0:Int))=(ys.getD k1 (0:Int)))))=false →
 (a0e ((k1:Int)+(1:Int))∧(∃ k2:Nat,((k2≤xs.length∧xs.length=ys.length∧xs.take k2=ys.take k2)∧(xs.length - k2<xs.length - k1∧((xs=xs∧(ys=ys∧(((k1:Int)+(1:Int))=(k2:Int)∧True)))∧True))))))))))))∧((decide ((k1:Int)<((xs.length:Int))))=false →
 true=(eqB xs ys)))))))))))):=by kernel_rfl
theorem d4f(hE:a0z []):Ctr.Good a8a:=by
 refine⟨a1g b9u rfl (by decide),?_⟩
 show ∀ (xs:List Int) (ys:List Int),True→a1h a0k b5f [.val ⟨(.slice (.int .i64)),xs⟩, .val ⟨(.slice (.int .i64)),ys⟩] (·=[⟨.bool,eqB xs ys⟩])
 intro xs ys _
 refine a1k (wr:=[]) (cl:=[]) (ro:=[]) hE b9u c8q (c2a xs ys) ?_
 rewrite [d4m xs ys]
 refine fun a0=>fun a1=>⟨fun a2=>?_,fun a2=>⟨⟨0,⟨?_,⟨⟨rfl,⟨rfl,⟨?_,trivial⟩⟩⟩,trivial⟩⟩⟩,fun k1 a3=>have b3x0:=a6t (0:Int) xs ys k1;have b3x1:=a3k xs ys k1;fun a4=>⟨fun a5=>⟨?_,⟨?_,fun a6=>fun a7=>⟨fun a8=>?_,fun a8=>⟨?_,⟨k1+1,⟨?_,⟨?_,⟨⟨rfl,⟨rfl,⟨?_,trivial⟩⟩⟩,trivial⟩⟩⟩⟩⟩⟩⟩⟩,fun a5=>?_⟩⟩⟩
 all_goals try and_intros
 all_goals first|rfl|trivial|(simp only[decide_eq_true_eq,decide_eq_false_iff_not,Bool.not_eq_false',decide_not,Bool.not_eq_true',a0j,a0e] at *;first|omega|(refine a4w fun hab=>?_;subst hab;simp_all;done)|(refine b3j (a3k _ _ _ (by omega) (by omega) (by simp_all))))|(refine a4w fun hab=>?_;subst hab;simp_all;done)|(simp_all;done)|(refine a6t (0:Int) _ _ _ (by simp_all;omega) (by simp_all;omega) (by simp_all) ?_;simp_all;done)
theorem c9l:Ctr.Good a8a:=d4f trivial
def a7a:Ctr:=⟨b3n,[.v (.slice (.slice (.int .i64))), .v (.slice (.slice (.int .i64)))],fun (xs:List (List Int)) (ys:List (List Int))=>⟨(none,[⟨.bool,eqB xs ys⟩])⟩⟩
def c0n(xs:List (List Int))(ys:List (List Int)):Nat→a0w:=(fun zb=>if Nat.beq zb 0 then .mk (Nat) (fun k=>k≤xs.length∧xs.length=ys.length∧xs.take k=ys.take k) (fun k=>xs.length - k) [] [2,3,6,7,8,9,10] (fun k=>[(5, .imm ⟨(.int .i64),((k:Int):Int)⟩)]) [0,1,4,5,11,12,13,14,15,16,17,18,19,20,21,22,23,24,25,26] (fun k=>[]) [] [] (fun k=>fun _ => .none) else .none)
theorem d2n(xs:List (List Int))(ys:List (List Int)):awp (a1c [a8a]) (a0m a5e) (c0n xs ys) 0 (a1m (a1c [a8a]) a5e fun r=>a2e r [⟨.bool,eqB xs ys⟩]) (a0q a5e [.val ⟨(.slice (.slice (.int .i64))),xs⟩, .val ⟨(.slice (.slice (.int .i64))),ys⟩]) =
 ((a0e ((xs.length:Int)) →
 (a0e ((ys.length:Int)) →
 (((!(decide (((xs.length:Int))=((ys.length:Int)))))=true →
 false=(eqB xs ys))∧((!(decide (((xs.length:Int))=((ys.length:Int)))))=false →
 ((∃ k1:Nat,((k1≤xs.length∧xs.length=ys.length∧xs.take k1=ys.take k1)∧((xs=xs∧(ys=ys∧((0:Int)=(k1:Int)∧True)))∧True)))∧(∀ k1:Nat,((k1≤xs.length∧xs.length=ys.length∧xs.take k1=ys.take k1) →
 (a0e ((xs.length:Int)) →
 (((decide ((k1:Int)<((xs.length:Int))))=true →
 (a0j (k1:Int) xs.length∧(a0j (k1:Int) ys.length∧((xs.getD k1 []).length≤140737488355328 →
 ((ys.getD k1 []).length≤140737488355328 →
 (((!(eqB (xs.getD k1 []) (ys.getD k1 [])))=true →
 false=(eqB xs ys))∧((!(eqB (xs.getD k1 []) (ys.getD k1 [])))=false →
 (a0e ((k1:Int)+(1:Int))∧(∃ k2:Nat,((k2≤xs.length∧xs.length=ys.length∧xs.take k2=ys.take k2)∧(xs.length - k2<xs.length - k1∧((xs=xs∧(ys=ys∧(((k1:Int)+(1:Int))=(k2:Int)∧True)))∧True))))))))))))∧((decide ((k1:Int)<((xs.length:Int))))=false →
 true=(eqB xs ys)))))))))))):=by kernel_rfl
theorem d2k(hE:a0z [a8a]):Ctr.Good a7a:=by
 refine⟨a1g b8h rfl (by decide),?_⟩
 show ∀ (xs:List (List Int)) (ys:List (List Int)),True→a1h a0k b3n [.val ⟨(.slice (.slice (.int .i64))),xs⟩, .val ⟨(.slice (.slice (.int .i64))),ys⟩] (·=[⟨.bool,eqB xs ys⟩])
 intro xs ys _
 refine a1k (wr:=[]) (cl:=[]) (ro:=[]) hE b8h c7x (c0n xs ys) ?_
 rewrite [d2n xs ys]
 refine fun a0=>fun a1=>⟨fun a2=>?_,fun a2=>⟨⟨0,⟨?_,⟨⟨rfl,⟨rfl,⟨?_,trivial⟩⟩⟩,trivial⟩⟩⟩,fun k1 a3=>have b3x0:=a6t [] xs ys k1;have b3x1:=a3k xs ys k1;fun a4=>⟨fun a5=>⟨?_,⟨?_,fun a6=>fun a7=>⟨fun a8=>?_,fun a8=>⟨?_,⟨k1+1,⟨?_,⟨?_,⟨⟨rfl,⟨rfl,⟨?_,trivial⟩⟩⟩,trivial⟩⟩⟩⟩⟩⟩⟩⟩,fun a5=>?_⟩⟩⟩
 all_goals try and_intros
 all_goals first|rfl|trivial|(simp only[decide_eq_true_eq,decide_eq_false_iff_not,Bool.not_eq_false',decide_not,Bool.not_eq_true',a0j,a0e] at *;first|omega|(refine a4w fun hab=>?_;subst hab;simp_all;done)|(refine b3j (a3k _ _ _ (by omega) (by omega) (by simp_all))))|(refine a4w fun hab=>?_;subst hab;simp_all;done)|(simp_all;done)|(refine a6t [] _ _ _ (by simp_all;omega) (by simp_all;omega) (by simp_all) ?_;simp_all;done)
theorem c8b:Ctr.Good a7a:=d2k ⟨c9l,trivial⟩
def a6i:Ctr:=⟨b2d,[.v (.slice (.slice (.slice (.int .i64)))), .v (.slice (.slice (.slice (.int .i64))))],fun (xs:List (List (List Int))) (ys:List (List (List Int)))=>⟨(none,[⟨.bool,eqB xs ys⟩])⟩⟩
def b8l(xs:List (List (List Int)))(ys:List (List (List Int))):Nat→a0w:=(fun zb=>if Nat.beq zb 0 then .mk (Nat) (fun k=>k≤xs.length∧xs.length=ys.length∧xs.take k=ys.take k) (fun k=>xs.length - k) [] [2,3,6,7,8,9,10] (fun k=>[(5, .imm ⟨(.int .i64),((k:Int):Int)⟩)]) [0,1,4,5,11,12,13,14,15,16,17,18,19,20,21,22,23,24,25,26] (fun k=>[]) [] [] (fun k=>fun _ => .none) else .none)
theorem d0y(xs:List (List (List Int)))(ys:List (List (List Int))):awp (a1c [a7a]) (a0m a4t) (b8l xs ys) 0 (a1m (a1c [a7a]) a4t fun r=>a2e r [⟨.bool,eqB xs ys⟩]) (a0q a4t [.val ⟨(.slice (.slice (.slice (.int .i64)))),xs⟩, .val ⟨(.slice (.slice (.slice (.int .i64)))),ys⟩]) =
 ((a0e ((xs.length:Int)) →
 (a0e ((ys.length:Int)) →
 (((!(decide (((xs.length:Int))=((ys.length:Int)))))=true →
 false=(eqB xs ys))∧((!(decide (((xs.length:Int))=((ys.length:Int)))))=false →
 ((∃ k1:Nat,((k1≤xs.length∧xs.length=ys.length∧xs.take k1=ys.take k1)∧((xs=xs∧(ys=ys∧((0:Int)=(k1:Int)∧True)))∧True)))∧(∀ k1:Nat,((k1≤xs.length∧xs.length=ys.length∧xs.take k1=ys.take k1) →
 (a0e ((xs.length:Int)) →
 (((decide ((k1:Int)<((xs.length:Int))))=true →
 (a0j (k1:Int) xs.length∧(a0j (k1:Int) ys.length∧((xs.getD k1 []).length≤140737488355328 →
 ((ys.getD k1 []).length≤140737488355328 →
 (((!(eqB (xs.getD k1 []) (ys.getD k1 [])))=true →
 false=(eqB xs ys))∧((!(eqB (xs.getD k1 []) (ys.getD k1 [])))=false →
 (a0e ((k1:Int)+(1:Int))∧(∃ k2:Nat,((k2≤xs.length∧xs.length=ys.length∧xs.take k2=ys.take k2)∧(xs.length - k2<xs.length - k1∧((xs=xs∧(ys=ys∧(((k1:Int)+(1:Int))=(k2:Int)∧True)))∧True))))))))))))∧((decide ((k1:Int)<((xs.length:Int))))=false →
 true=(eqB xs ys)))))))))))):=by kernel_rfl
theorem d0e(hE:a0z [a7a]):Ctr.Good a6i:=by
 refine⟨a1g b7d rfl (by decide),?_⟩
 show ∀ (xs:List (List (List Int))) (ys:List (List (List Int))),True→a1h a0k b2d [.val ⟨(.slice (.slice (.slice (.int .i64)))),xs⟩, .val ⟨(.slice (.slice (.slice (.int .i64)))),ys⟩] (·=[⟨.bool,eqB xs ys⟩])
 intro xs ys _
 refine a1k (wr:=[]) (cl:=[]) (ro:=[]) hE b7d c5t (b8l xs ys) ?_
 rewrite [d0y xs ys]
 refine fun a0=>fun a1=>⟨fun a2=>?_,fun a2=>⟨⟨0,⟨?_,⟨⟨rfl,⟨rfl,⟨?_,trivial⟩⟩⟩,trivial⟩⟩⟩,fun k1 a3=>have b3x0:=a6t [] xs ys k1;have b3x1:=a3k xs ys k1;fun a4=>⟨fun a5=>⟨?_,⟨?_,fun a6=>fun a7=>⟨fun a8=>?_,fun a8=>⟨?_,⟨k1+1,⟨?_,⟨?_,⟨⟨rfl,⟨rfl,⟨?_,trivial⟩⟩⟩,trivial⟩⟩⟩⟩⟩⟩⟩⟩,fun a5=>?_⟩⟩⟩
 all_goals try and_intros
 all_goals first|rfl|trivial|(simp only[decide_eq_true_eq,decide_eq_false_iff_not,Bool.not_eq_false',decide_not,Bool.not_eq_true',a0j,a0e] at *;first|omega|(refine a4w fun hab=>?_;subst hab;simp_all;done)|(refine b3j (a3k _ _ _ (by omega) (by omega) (by simp_all))))|(refine a4w fun hab=>?_;subst hab;simp_all;done)|(simp_all;done)|(refine a6t [] _ _ _ (by simp_all;omega) (by simp_all;omega) (by simp_all) ?_;simp_all;done)
theorem c6h:Ctr.Good a6i:=d0e ⟨c8b,trivial⟩
def a5s:Ctr:=⟨b0y,[.v (.st .automaton), .v (.st .automaton)],fun (x:a0b) (y:a0b)=>⟨(none,[⟨.bool,eqB x y⟩])⟩⟩
def b7p(x:a0b)(y:a0b):Nat→a0w:=fun _ => .none
theorem c8h(x:a0b)(y:a0b):awp (a1c [b0u,a7z,a6i] [] [] [2,3]) (a0m a4c) (b7p x y) 0 (a1m (a1c [b0u,a7z,a6i] [] [] [2,3]) a4c fun r=>a2e r [⟨.bool,eqB x y⟩]) (a0q a4c [.val ⟨(.st .automaton),x⟩, .val ⟨(.st .automaton),y⟩]) =
 ((((!(eqB x.sig y.sig))=true →
 false=(eqB x y))∧((!(eqB x.sig y.sig))=false →
 (x.accept.length≤140737488355328 →
 (y.accept.length≤140737488355328 →
 (((!(eqB x.accept y.accept))=true →
 false=(eqB x y))∧((!(eqB x.accept y.accept))=false →
 (x.next.length≤140737488355328 →
 (y.next.length≤140737488355328 →
 (((!(eqB x.next y.next))=true →
 false=(eqB x y))∧((!(eqB x.next y.next))=false →
 true=(eqB x y)))))))))))):=by kernel_rfl
theorem c8d(hE:a0z [b0u,a7z,a6i]):Ctr.Good a5s:=by
 refine⟨a1g b5n rfl (by decide),?_⟩
 show ∀ (x:a0b) (y:a0b),True→a1h a0k b0y [.val ⟨(.st .automaton),x⟩, .val ⟨(.st .automaton),y⟩] (·=[⟨.bool,eqB x y⟩])
 intro x y _
 refine a1k (wr:=[]) (cl:=[]) (ro:=[2,3]) hE b5n c3t (b7p x y) ?_
 rewrite [c8h x y]
 refine⟨fun a0=>?_,fun a0=>fun a1=>fun a2=>⟨fun a3=>?_,fun a3=>fun a4=>fun a5=>⟨fun a6=>?_,fun a6=>?_⟩⟩⟩
 all_goals try and_intros
 all_goals first|rfl|trivial|(simp only[decide_eq_true_eq,decide_eq_false_iff_not,a0j,a0e] at *;omega)|(refine a4w fun hab=>?_;subst hab;simp_all)|(refine b3j ?_;cases x;cases y;simp_all)
theorem c4a:Ctr.Good a5s:=c8d ⟨d5u,c9k,c6h,trivial⟩
end
end Go.Proofs.YtmdefiphdgcijaaDoor

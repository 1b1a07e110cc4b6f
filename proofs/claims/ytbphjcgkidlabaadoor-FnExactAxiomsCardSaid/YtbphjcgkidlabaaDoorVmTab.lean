/- The types and the functions of the seat, by name. Printed by gen_tab.py. -/
import Derived.Test.YtbphjcgkidlabaaDoorVmStFun
import Derived.Test.YtbphjcgkidlabaaDoorChecked
set_option linter.unusedVariables false
namespace Go.Proofs.YtbphjcgkidlabaaDoor
def tyTab : List (Nat × Ty × Nat × Nat) :=
 [(2, (.int .i64), 0, 0),
  (3, (.int .i64), 0, 0),
  (4, .bool, 0, 0),
  (5, (.int .u8), 0, 0),
  (9, .str, 0, 0),
  (12, (.int .u64), 0, 0),
  (22, (.slice (.st .equation)), 80, 33),
  (27, (.slice .str), 16, 9),
  (29, (.slice (.st .expr)), 40, 31),
  (31, (.st .expr), 0, 0),
  (33, (.st .equation), 0, 0),
  (37, (.st .sig), 0, 0),
  (51, (.st .l01Reader), 0, 0),
  (56, (.st .reader), 0, 0),
  (72, (.slice (.int .u8)), 1, 5),
  (82, (.int .u64), 0, 0),
  (103, (.int .u64), 0, 0)]
def ptyTab : List (Nat × Ty) :=
 [(49, (.st .l01Reader)), (54, (.st .expr)), (66, (.st .reader)), (92, (.int .u8))]
def mtyTab : List (Nat × Ty × Ty) := []
abbrev T_bool : Nat := 4
noncomputable abbrev prog : Program := Tryd.prog
theorem tyTab_ok (c : Nat → List Arg → Option (Vc × List TV)) (wr own : List Nat) (oc : Nat → List Arg → Option (Vc × List TV)) (mk : Nat → Option MCtr) (cl : Nat → Option CloK) (ro : List Nat) (tk : Nat → List Bool) (sk : Nat → Option SK) (sc : Nat → List Arg → List (List TV) → Option (Vc × List TV × List (List TV))) : ((tyTab.all fun r => tyRowB prog (Env.mk tyTab ptyTab c wr own oc mk cl ro tk sk sc mtyTab) r.1 r.2.1 r.2.2.1 r.2.2.2) && mtyTab.all fun r => mapRowB prog (Env.mk tyTab ptyTab c wr own oc mk cl ro tk sk sc mtyTab) r.1 r.2.1 r.2.2) = true := by kernel_rfl
theorem prog_mixed : prog.follows .mixedOrders = true := Checked.mixed Tryd.checked
def bodyOf (f : Func) : Code := match f.body with
 | some c => c
 | none => .skip
abbrev n_laws_FnExactAxioms : Nat := 3
noncomputable abbrev f_laws_FnExactAxioms : Func := Tryd.f3
theorem at_laws_FnExactAxioms : prog.funcs[n_laws_FnExactAxioms]? = some f_laws_FnExactAxioms := Tryd.func3
theorem body_laws_FnExactAxioms : f_laws_FnExactAxioms.body = some (bodyOf f_laws_FnExactAxioms) := by kernel_rfl
abbrev n_spec_Axioms : Nat := 4
noncomputable abbrev f_spec_Axioms : Func := Tryd.f4
theorem at_spec_Axioms : prog.funcs[n_spec_Axioms]? = some f_spec_Axioms := Tryd.func4
theorem body_spec_Axioms : f_spec_Axioms.body = some (bodyOf f_spec_Axioms) := by kernel_rfl
abbrev n_impl_Axioms : Nat := 5
noncomputable abbrev f_impl_Axioms : Func := Tryd.f5
theorem at_impl_Axioms : prog.funcs[n_impl_Axioms]? = some f_impl_Axioms := Tryd.func5
theorem body_impl_Axioms : f_impl_Axioms.body = some (bodyOf f_impl_Axioms) := by kernel_rfl
abbrev n_laws_eqEquationS : Nat := 6
noncomputable abbrev f_laws_eqEquationS : Func := Tryd.f6
theorem at_laws_eqEquationS : prog.funcs[n_laws_eqEquationS]? = some f_laws_eqEquationS := Tryd.func6
theorem body_laws_eqEquationS : f_laws_eqEquationS.body = some (bodyOf f_laws_eqEquationS) := by kernel_rfl
abbrev n_laws_markEquationS : Nat := 7
noncomputable abbrev f_laws_markEquationS : Func := Tryd.f7
theorem at_laws_markEquationS : prog.funcs[n_laws_markEquationS]? = some f_laws_markEquationS := Tryd.func7
theorem body_laws_markEquationS : f_laws_markEquationS.body = some (bodyOf f_laws_markEquationS) := by kernel_rfl
abbrev n_laws_heldEquationS : Nat := 8
noncomputable abbrev f_laws_heldEquationS : Func := Tryd.f8
theorem at_laws_heldEquationS : prog.funcs[n_laws_heldEquationS]? = some f_laws_heldEquationS := Tryd.func8
theorem body_laws_heldEquationS : f_laws_heldEquationS.body = some (bodyOf f_laws_heldEquationS) := by kernel_rfl
abbrev n_spec_l04AxiomTexts : Nat := 9
noncomputable abbrev f_spec_l04AxiomTexts : Func := Tryd.f9
theorem at_spec_l04AxiomTexts : prog.funcs[n_spec_l04AxiomTexts]? = some f_spec_l04AxiomTexts := Tryd.func9
theorem body_spec_l04AxiomTexts : f_spec_l04AxiomTexts.body = some (bodyOf f_spec_l04AxiomTexts) := by kernel_rfl
abbrev n_spec_l04Read : Nat := 10
noncomputable abbrev f_spec_l04Read : Func := Tryd.f10
theorem at_spec_l04Read : prog.funcs[n_spec_l04Read]? = some f_spec_l04Read := Tryd.func10
theorem body_spec_l04Read : f_spec_l04Read.body = some (bodyOf f_spec_l04Read) := by kernel_rfl
abbrev n_spec_l04Wide : Nat := 11
noncomputable abbrev f_spec_l04Wide : Func := Tryd.f11
theorem at_spec_l04Wide : prog.funcs[n_spec_l04Wide]? = some f_spec_l04Wide := Tryd.func11
theorem body_spec_l04Wide : f_spec_l04Wide.body = some (bodyOf f_spec_l04Wide) := by kernel_rfl
abbrev n_impl_readEquation : Nat := 12
noncomputable abbrev f_impl_readEquation : Func := Tryd.f12
theorem at_impl_readEquation : prog.funcs[n_impl_readEquation]? = some f_impl_readEquation := Tryd.func12
theorem body_impl_readEquation : f_impl_readEquation.body = some (bodyOf f_impl_readEquation) := by kernel_rfl
abbrev n_impl_patternSig : Nat := 13
noncomputable abbrev f_impl_patternSig : Func := Tryd.f13
theorem at_impl_patternSig : prog.funcs[n_impl_patternSig]? = some f_impl_patternSig := Tryd.func13
theorem body_impl_patternSig : f_impl_patternSig.body = some (bodyOf f_impl_patternSig) := by kernel_rfl
abbrev n_laws_eqEquation : Nat := 14
noncomputable abbrev f_laws_eqEquation : Func := Tryd.f14
theorem at_laws_eqEquation : prog.funcs[n_laws_eqEquation]? = some f_laws_eqEquation := Tryd.func14
theorem body_laws_eqEquation : f_laws_eqEquation.body = some (bodyOf f_laws_eqEquation) := by kernel_rfl
abbrev n_laws_markExprS : Nat := 15
noncomputable abbrev f_laws_markExprS : Func := Tryd.f15
theorem at_laws_markExprS : prog.funcs[n_laws_markExprS]? = some f_laws_markExprS := Tryd.func15
theorem body_laws_markExprS : f_laws_markExprS.body = some (bodyOf f_laws_markExprS) := by kernel_rfl
abbrev n_laws_heldExprS : Nat := 16
noncomputable abbrev f_laws_heldExprS : Func := Tryd.f16
theorem at_laws_heldExprS : prog.funcs[n_laws_heldExprS]? = some f_laws_heldExprS := Tryd.func16
theorem body_laws_heldExprS : f_laws_heldExprS.body = some (bodyOf f_laws_heldExprS) := by kernel_rfl
abbrev n_spec_l04Cut : Nat := 17
noncomputable abbrev f_spec_l04Cut : Func := Tryd.f17
theorem at_spec_l04Cut : prog.funcs[n_spec_l04Cut]? = some f_spec_l04Cut := Tryd.func17
theorem body_spec_l04Cut : f_spec_l04Cut.body = some (bodyOf f_spec_l04Cut) := by kernel_rfl
abbrev n_spec_ReadExpr : Nat := 18
noncomputable abbrev f_spec_ReadExpr : Func := Tryd.f18
theorem at_spec_ReadExpr : prog.funcs[n_spec_ReadExpr]? = some f_spec_ReadExpr := Tryd.func18
theorem body_spec_ReadExpr : f_spec_ReadExpr.body = some (bodyOf f_spec_ReadExpr) := by kernel_rfl
abbrev n_strings_Cut : Nat := 19
noncomputable abbrev f_strings_Cut : Func := Tryd.f19
theorem at_strings_Cut : prog.funcs[n_strings_Cut]? = some f_strings_Cut := Tryd.func19
abbrev n_impl_readExpr : Nat := 20
noncomputable abbrev f_impl_readExpr : Func := Tryd.f20
theorem at_impl_readExpr : prog.funcs[n_impl_readExpr]? = some f_impl_readExpr := Tryd.func20
theorem body_impl_readExpr : f_impl_readExpr.body = some (bodyOf f_impl_readExpr) := by kernel_rfl
abbrev n_laws_eqExpr : Nat := 21
noncomputable abbrev f_laws_eqExpr : Func := Tryd.f21
theorem at_laws_eqExpr : prog.funcs[n_laws_eqExpr]? = some f_laws_eqExpr := Tryd.func21
theorem body_laws_eqExpr : f_laws_eqExpr.body = some (bodyOf f_laws_eqExpr) := by kernel_rfl
abbrev n_spec_l01Sig : Nat := 22
noncomputable abbrev f_spec_l01Sig : Func := Tryd.f22
theorem at_spec_l01Sig : prog.funcs[n_spec_l01Sig]? = some f_spec_l01Sig := Tryd.func22
theorem body_spec_l01Sig : f_spec_l01Sig.body = some (bodyOf f_spec_l01Sig) := by kernel_rfl
abbrev n_spec_l01Reader_expr : Nat := 23
noncomputable abbrev f_spec_l01Reader_expr : Func := Tryd.f23
theorem at_spec_l01Reader_expr : prog.funcs[n_spec_l01Reader_expr]? = some f_spec_l01Reader_expr := Tryd.func23
theorem body_spec_l01Reader_expr : f_spec_l01Reader_expr.body = some (bodyOf f_spec_l01Reader_expr) := by kernel_rfl
abbrev n_spec_l01Ok : Nat := 24
noncomputable abbrev f_spec_l01Ok : Func := Tryd.f24
theorem at_spec_l01Ok : prog.funcs[n_spec_l01Ok]? = some f_spec_l01Ok := Tryd.func24
theorem body_spec_l01Ok : f_spec_l01Ok.body = some (bodyOf f_spec_l01Ok) := by kernel_rfl
abbrev n_impl_reader_expr : Nat := 26
noncomputable abbrev f_impl_reader_expr : Func := Tryd.f26
theorem at_impl_reader_expr : prog.funcs[n_impl_reader_expr]? = some f_impl_reader_expr := Tryd.func26
theorem body_impl_reader_expr : f_impl_reader_expr.body = some (bodyOf f_impl_reader_expr) := by kernel_rfl
abbrev n_impl_isExpr : Nat := 27
noncomputable abbrev f_impl_isExpr : Func := Tryd.f27
theorem at_impl_isExpr : prog.funcs[n_impl_isExpr]? = some f_impl_isExpr := Tryd.func27
theorem body_impl_isExpr : f_impl_isExpr.body = some (bodyOf f_impl_isExpr) := by kernel_rfl
abbrev n_impl_textOf : Nat := 28
noncomputable abbrev f_impl_textOf : Func := Tryd.f28
theorem at_impl_textOf : prog.funcs[n_impl_textOf]? = some f_impl_textOf := Tryd.func28
abbrev n_laws_eqExprS : Nat := 29
noncomputable abbrev f_laws_eqExprS : Func := Tryd.f29
theorem at_laws_eqExprS : prog.funcs[n_laws_eqExprS]? = some f_laws_eqExprS := Tryd.func29
theorem body_laws_eqExprS : f_laws_eqExprS.body = some (bodyOf f_laws_eqExprS) := by kernel_rfl
abbrev n_spec_l00In : Nat := 30
noncomputable abbrev f_spec_l00In : Func := Tryd.f30
theorem at_spec_l00In : prog.funcs[n_spec_l00In]? = some f_spec_l00In := Tryd.func30
theorem body_spec_l00In : f_spec_l00In.body = some (bodyOf f_spec_l00In) := by kernel_rfl
abbrev n_spec_l01Reader_inner : Nat := 31
noncomputable abbrev f_spec_l01Reader_inner : Func := Tryd.f31
theorem at_spec_l01Reader_inner : prog.funcs[n_spec_l01Reader_inner]? = some f_spec_l01Reader_inner := Tryd.func31
theorem body_spec_l01Reader_inner : f_spec_l01Reader_inner.body = some (bodyOf f_spec_l01Reader_inner) := by kernel_rfl
abbrev n_spec_l01Reader_peek : Nat := 32
noncomputable abbrev f_spec_l01Reader_peek : Func := Tryd.f32
theorem at_spec_l01Reader_peek : prog.funcs[n_spec_l01Reader_peek]? = some f_spec_l01Reader_peek := Tryd.func32
theorem body_spec_l01Reader_peek : f_spec_l01Reader_peek.body = some (bodyOf f_spec_l01Reader_peek) := by kernel_rfl
abbrev n_spec_l01Left : Nat := 33
noncomputable abbrev f_spec_l01Left : Func := Tryd.f33
theorem at_spec_l01Left : prog.funcs[n_spec_l01Left]? = some f_spec_l01Left := Tryd.func33
theorem body_spec_l01Left : f_spec_l01Left.body = some (bodyOf f_spec_l01Left) := by kernel_rfl
abbrev n_spec_l01Depth : Nat := 34
noncomputable abbrev f_spec_l01Depth : Func := Tryd.f34
theorem at_spec_l01Depth : prog.funcs[n_spec_l01Depth]? = some f_spec_l01Depth := Tryd.func34
theorem body_spec_l01Depth : f_spec_l01Depth.body = some (bodyOf f_spec_l01Depth) := by kernel_rfl
abbrev n_spec_l01Tree : Nat := 35
noncomputable abbrev f_spec_l01Tree : Func := Tryd.f35
theorem at_spec_l01Tree : prog.funcs[n_spec_l01Tree]? = some f_spec_l01Tree := Tryd.func35
theorem body_spec_l01Tree : f_spec_l01Tree.body = some (bodyOf f_spec_l01Tree) := by kernel_rfl
abbrev n_impl_reader_take : Nat := 37
noncomputable abbrev f_impl_reader_take : Func := Tryd.f37
theorem at_impl_reader_take : prog.funcs[n_impl_reader_take]? = some f_impl_reader_take := Tryd.func37
theorem body_impl_reader_take : f_impl_reader_take.body = some (bodyOf f_impl_reader_take) := by kernel_rfl
abbrev n_impl_reader_core : Nat := 38
noncomputable abbrev f_impl_reader_core : Func := Tryd.f38
theorem at_impl_reader_core : prog.funcs[n_impl_reader_core]? = some f_impl_reader_core := Tryd.func38
theorem body_impl_reader_core : f_impl_reader_core.body = some (bodyOf f_impl_reader_core) := by kernel_rfl
abbrev n_impl_tree : Nat := 39
noncomputable abbrev f_impl_tree : Func := Tryd.f39
theorem at_impl_tree : prog.funcs[n_impl_tree]? = some f_impl_tree := Tryd.func39
theorem body_impl_tree : f_impl_tree.body = some (bodyOf f_impl_tree) := by kernel_rfl
abbrev n_impl_shaped : Nat := 40
noncomputable abbrev f_impl_shaped : Func := Tryd.f40
theorem at_impl_shaped : prog.funcs[n_impl_shaped]? = some f_impl_shaped := Tryd.func40
theorem body_impl_shaped : f_impl_shaped.body = some (bodyOf f_impl_shaped) := by kernel_rfl
abbrev n_spec_l01Reader_name : Nat := 43
noncomputable abbrev f_spec_l01Reader_name : Func := Tryd.f43
theorem at_spec_l01Reader_name : prog.funcs[n_spec_l01Reader_name]? = some f_spec_l01Reader_name := Tryd.func43
theorem body_spec_l01Reader_name : f_spec_l01Reader_name.body = some (bodyOf f_spec_l01Reader_name) := by kernel_rfl
abbrev n_spec_l01Reader_pair : Nat := 44
noncomputable abbrev f_spec_l01Reader_pair : Func := Tryd.f44
theorem at_spec_l01Reader_pair : prog.funcs[n_spec_l01Reader_pair]? = some f_spec_l01Reader_pair := Tryd.func44
theorem body_spec_l01Reader_pair : f_spec_l01Reader_pair.body = some (bodyOf f_spec_l01Reader_pair) := by kernel_rfl
abbrev n_spec_l00Max : Nat := 45
noncomputable abbrev f_spec_l00Max : Func := Tryd.f45
theorem at_spec_l00Max : prog.funcs[n_spec_l00Max]? = some f_spec_l00Max := Tryd.func45
theorem body_spec_l00Max : f_spec_l00Max.body = some (bodyOf f_spec_l00Max) := by kernel_rfl
abbrev n_spec_l01Kids : Nat := 46
noncomputable abbrev f_spec_l01Kids : Func := Tryd.f46
theorem at_spec_l01Kids : prog.funcs[n_spec_l01Kids]? = some f_spec_l01Kids := Tryd.func46
theorem body_spec_l01Kids : f_spec_l01Kids.body = some (bodyOf f_spec_l01Kids) := by kernel_rfl
abbrev n_spec_l01Condition : Nat := 47
noncomputable abbrev f_spec_l01Condition : Func := Tryd.f47
theorem at_spec_l01Condition : prog.funcs[n_spec_l01Condition]? = some f_spec_l01Condition := Tryd.func47
theorem body_spec_l01Condition : f_spec_l01Condition.body = some (bodyOf f_spec_l01Condition) := by kernel_rfl
abbrev n_strings_HasPrefix : Nat := 52
noncomputable abbrev f_strings_HasPrefix : Func := Tryd.f52
theorem at_strings_HasPrefix : prog.funcs[n_strings_HasPrefix]? = some f_strings_HasPrefix := Tryd.func52
theorem body_strings_HasPrefix : f_strings_HasPrefix.body = some (bodyOf f_strings_HasPrefix) := by kernel_rfl
abbrev n_impl_leaf : Nat := 53
noncomputable abbrev f_impl_leaf : Func := Tryd.f53
theorem at_impl_leaf : prog.funcs[n_impl_leaf]? = some f_impl_leaf := Tryd.func53
theorem body_impl_leaf : f_impl_leaf.body = some (bodyOf f_impl_leaf) := by kernel_rfl
abbrev n_impl_reader_digit : Nat := 54
noncomputable abbrev f_impl_reader_digit : Func := Tryd.f54
theorem at_impl_reader_digit : prog.funcs[n_impl_reader_digit]? = some f_impl_reader_digit := Tryd.func54
theorem body_impl_reader_digit : f_impl_reader_digit.body = some (bodyOf f_impl_reader_digit) := by kernel_rfl
abbrev n_impl_kidsOf : Nat := 55
noncomputable abbrev f_impl_kidsOf : Func := Tryd.f55
theorem at_impl_kidsOf : prog.funcs[n_impl_kidsOf]? = some f_impl_kidsOf := Tryd.func55
theorem body_impl_kidsOf : f_impl_kidsOf.body = some (bodyOf f_impl_kidsOf) := by kernel_rfl
abbrev n_impl_within : Nat := 56
noncomputable abbrev f_impl_within : Func := Tryd.f56
theorem at_impl_within : prog.funcs[n_impl_within]? = some f_impl_within := Tryd.func56
theorem body_impl_within : f_impl_within.body = some (bodyOf f_impl_within) := by kernel_rfl
abbrev n_impl_IsCondition : Nat := 57
noncomputable abbrev f_impl_IsCondition : Func := Tryd.f57
theorem at_impl_IsCondition : prog.funcs[n_impl_IsCondition]? = some f_impl_IsCondition := Tryd.func57
theorem body_impl_IsCondition : f_impl_IsCondition.body = some (bodyOf f_impl_IsCondition) := by kernel_rfl
abbrev n_spec_l01Number : Nat := 60
noncomputable abbrev f_spec_l01Number : Func := Tryd.f60
theorem at_spec_l01Number : prog.funcs[n_spec_l01Number]? = some f_spec_l01Number := Tryd.func60
theorem body_spec_l01Number : f_spec_l01Number.body = some (bodyOf f_spec_l01Number) := by kernel_rfl
abbrev n_spec_l01Reader_take : Nat := 61
noncomputable abbrev f_spec_l01Reader_take : Func := Tryd.f61
theorem at_spec_l01Reader_take : prog.funcs[n_spec_l01Reader_take]? = some f_spec_l01Reader_take := Tryd.func61
theorem body_spec_l01Reader_take : f_spec_l01Reader_take.body = some (bodyOf f_spec_l01Reader_take) := by kernel_rfl
abbrev n_internal_stringslite_HasPrefix : Nat := 64
noncomputable abbrev f_internal_stringslite_HasPrefix : Func := Tryd.f64
theorem at_internal_stringslite_HasPrefix : prog.funcs[n_internal_stringslite_HasPrefix]? = some f_internal_stringslite_HasPrefix := Tryd.func64
theorem body_internal_stringslite_HasPrefix : f_internal_stringslite_HasPrefix.body = some (bodyOf f_internal_stringslite_HasPrefix) := by kernel_rfl
end Go.Proofs.YtbphjcgkidlabaaDoor

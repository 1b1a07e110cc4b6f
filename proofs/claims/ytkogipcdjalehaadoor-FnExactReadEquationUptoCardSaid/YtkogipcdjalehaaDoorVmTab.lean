/- The types and the functions of the seat, by name. Printed by gen_tab.py. -/
import Derived.Test.YtkogipcdjalehaaDoorVmStFun
import Derived.Test.YtkogipcdjalehaaDoorChecked
set_option linter.unusedVariables false
namespace Go.Proofs.YtkogipcdjalehaaDoor
def tyTab : List (Nat × Ty × Nat × Nat) :=
 [(2, (.int .i64), 0, 0),
  (3, (.int .i64), 0, 0),
  (4, .bool, 0, 0),
  (5, (.int .u8), 0, 0),
  (9, .str, 0, 0),
  (12, (.int .u64), 0, 0),
  (23, (.st .sig), 0, 0),
  (24, (.slice (.int .i64)), 8, 2),
  (26, (.st .word), 0, 0),
  (29, (.st .sig), 0, 0),
  (34, (.slice (.st .expr)), 40, 36),
  (36, (.st .expr), 0, 0),
  (41, (.slice (.st .expr)), 40, 43),
  (43, (.st .expr), 0, 0),
  (44, (.slice (.st .prog)), 80, 46),
  (46, (.st .prog), 0, 0),
  (48, (.st .triple), 0, 0),
  (51, (.slice (.st .prog)), 80, 53),
  (53, (.st .prog), 0, 0),
  (55, (.st .triple), 0, 0),
  (59, (.slice (.slice .bool)), 24, 111),
  (60, (.slice (.slice (.slice .bool))), 24, 59),
  (62, (.st .model), 0, 0),
  (69, (.st .equation), 0, 0),
  (75, (.slice .str), 16, 9),
  (89, (.st .l01Reader), 0, 0),
  (111, (.slice .bool), 1, 4),
  (134, (.st .reader), 0, 0),
  (145, (.slice (.int .u8)), 1, 5),
  (158, (.int .u64), 0, 0),
  (194, (.int .u64), 0, 0)]
def ptyTab : List (Nat × Ty) :=
 [(80, (.st .word)), (87, (.st .l01Reader)), (92, (.st .expr)), (100, (.st .triple)), (103, (.st .prog)), (114, (.st .model)), (165, (.st .reader)), (175, (.int .u8))]
def mtyTab : List (Nat × Ty × Ty) := []
abbrev T_bool : Nat := 4
abbrev T_string : Nat := 9
abbrev T_laws_Sig : Nat := 23
noncomputable abbrev prog : Program := Tryd.prog
theorem tyTab_ok (c : Nat → List Arg → Option (Vc × List TV)) (wr own : List Nat) (oc : Nat → List Arg → Option (Vc × List TV)) (mk : Nat → Option MCtr) (cl : Nat → Option CloK) (ro : List Nat) (tk : Nat → List Bool) (sk : Nat → Option SK) (sc : Nat → List Arg → List (List TV) → Option (Vc × List TV × List (List TV))) : ((tyTab.all fun r => tyRowB prog (Env.mk tyTab ptyTab c wr own oc mk cl ro tk sk sc mtyTab) r.1 r.2.1 r.2.2.1 r.2.2.2) && mtyTab.all fun r => mapRowB prog (Env.mk tyTab ptyTab c wr own oc mk cl ro tk sk sc mtyTab) r.1 r.2.1 r.2.2) = true := by kernel_rfl
theorem prog_mixed : prog.follows .mixedOrders = true := Checked.mixed Tryd.checked
def bodyOf (f : Func) : Code := match f.body with
 | some c => c
 | none => .skip
abbrev n_laws_FnExactReadEquation : Nat := 7
noncomputable abbrev f_laws_FnExactReadEquation : Func := Tryd.f7
theorem at_laws_FnExactReadEquation : prog.funcs[n_laws_FnExactReadEquation]? = some f_laws_FnExactReadEquation := Tryd.func7
theorem body_laws_FnExactReadEquation : f_laws_FnExactReadEquation.body = some (bodyOf f_laws_FnExactReadEquation) := by kernel_rfl
abbrev n_laws_toSig : Nat := 9
noncomputable abbrev f_laws_toSig : Func := Tryd.f9
theorem at_laws_toSig : prog.funcs[n_laws_toSig]? = some f_laws_toSig := Tryd.func9
theorem body_laws_toSig : f_laws_toSig.body = some (bodyOf f_laws_toSig) := by kernel_rfl
abbrev n_spec_ReadExpr : Nat := 14
noncomputable abbrev f_spec_ReadExpr : Func := Tryd.f14
theorem at_spec_ReadExpr : prog.funcs[n_spec_ReadExpr]? = some f_spec_ReadExpr := Tryd.func14
theorem body_spec_ReadExpr : f_spec_ReadExpr.body = some (bodyOf f_spec_ReadExpr) := by kernel_rfl
abbrev n_laws_eqExpr : Nat := 16
noncomputable abbrev f_laws_eqExpr : Func := Tryd.f16
theorem at_laws_eqExpr : prog.funcs[n_laws_eqExpr]? = some f_laws_eqExpr := Tryd.func16
theorem body_laws_eqExpr : f_laws_eqExpr.body = some (bodyOf f_laws_eqExpr) := by kernel_rfl
abbrev n_laws_markExpr : Nat := 17
noncomputable abbrev f_laws_markExpr : Func := Tryd.f17
theorem at_laws_markExpr : prog.funcs[n_laws_markExpr]? = some f_laws_markExpr := Tryd.func17
theorem body_laws_markExpr : f_laws_markExpr.body = some (bodyOf f_laws_markExpr) := by kernel_rfl
abbrev n_laws_heldExpr : Nat := 18
noncomputable abbrev f_laws_heldExpr : Func := Tryd.f18
theorem at_laws_heldExpr : prog.funcs[n_laws_heldExpr]? = some f_laws_heldExpr := Tryd.func18
theorem body_laws_heldExpr : f_laws_heldExpr.body = some (bodyOf f_laws_heldExpr) := by kernel_rfl
abbrev n_spec_ReadEquation : Nat := 29
noncomputable abbrev f_spec_ReadEquation : Func := Tryd.f29
theorem at_spec_ReadEquation : prog.funcs[n_spec_ReadEquation]? = some f_spec_ReadEquation := Tryd.func29
theorem body_spec_ReadEquation : f_spec_ReadEquation.body = some (bodyOf f_spec_ReadEquation) := by kernel_rfl
abbrev n_impl_ReadEquation : Nat := 30
noncomputable abbrev f_impl_ReadEquation : Func := Tryd.f30
theorem at_impl_ReadEquation : prog.funcs[n_impl_ReadEquation]? = some f_impl_ReadEquation := Tryd.func30
theorem body_impl_ReadEquation : f_impl_ReadEquation.body = some (bodyOf f_impl_ReadEquation) := by kernel_rfl
abbrev n_laws_eqEquation : Nat := 31
noncomputable abbrev f_laws_eqEquation : Func := Tryd.f31
theorem at_laws_eqEquation : prog.funcs[n_laws_eqEquation]? = some f_laws_eqEquation := Tryd.func31
theorem body_laws_eqEquation : f_laws_eqEquation.body = some (bodyOf f_laws_eqEquation) := by kernel_rfl
abbrev n_laws_markEquation : Nat := 32
noncomputable abbrev f_laws_markEquation : Func := Tryd.f32
theorem at_laws_markEquation : prog.funcs[n_laws_markEquation]? = some f_laws_markEquation := Tryd.func32
theorem body_laws_markEquation : f_laws_markEquation.body = some (bodyOf f_laws_markEquation) := by kernel_rfl
abbrev n_laws_heldEquation : Nat := 33
noncomputable abbrev f_laws_heldEquation : Func := Tryd.f33
theorem at_laws_heldEquation : prog.funcs[n_laws_heldEquation]? = some f_laws_heldEquation := Tryd.func33
theorem body_laws_heldEquation : f_laws_heldEquation.body = some (bodyOf f_laws_heldEquation) := by kernel_rfl
abbrev n_spec_l01Sig : Nat := 34
noncomputable abbrev f_spec_l01Sig : Func := Tryd.f34
theorem at_spec_l01Sig : prog.funcs[n_spec_l01Sig]? = some f_spec_l01Sig := Tryd.func34
theorem body_spec_l01Sig : f_spec_l01Sig.body = some (bodyOf f_spec_l01Sig) := by kernel_rfl
abbrev n_spec_l01Number : Nat := 36
noncomputable abbrev f_spec_l01Number : Func := Tryd.f36
theorem at_spec_l01Number : prog.funcs[n_spec_l01Number]? = some f_spec_l01Number := Tryd.func36
theorem body_spec_l01Number : f_spec_l01Number.body = some (bodyOf f_spec_l01Number) := by kernel_rfl
abbrev n_impl_ValidSig : Nat := 38
noncomputable abbrev f_impl_ValidSig : Func := Tryd.f38
theorem at_impl_ValidSig : prog.funcs[n_impl_ValidSig]? = some f_impl_ValidSig := Tryd.func38
theorem body_impl_ValidSig : f_impl_ValidSig.body = some (bodyOf f_impl_ValidSig) := by kernel_rfl
abbrev n_strings_HasPrefix : Nat := 40
noncomputable abbrev f_strings_HasPrefix : Func := Tryd.f40
theorem at_strings_HasPrefix : prog.funcs[n_strings_HasPrefix]? = some f_strings_HasPrefix := Tryd.func40
theorem body_strings_HasPrefix : f_strings_HasPrefix.body = some (bodyOf f_strings_HasPrefix) := by kernel_rfl
abbrev n_spec_l01Reader_expr : Nat := 46
noncomputable abbrev f_spec_l01Reader_expr : Func := Tryd.f46
theorem at_spec_l01Reader_expr : prog.funcs[n_spec_l01Reader_expr]? = some f_spec_l01Reader_expr := Tryd.func46
theorem body_spec_l01Reader_expr : f_spec_l01Reader_expr.body = some (bodyOf f_spec_l01Reader_expr) := by kernel_rfl
abbrev n_spec_l01Ok : Nat := 47
noncomputable abbrev f_spec_l01Ok : Func := Tryd.f47
theorem at_spec_l01Ok : prog.funcs[n_spec_l01Ok]? = some f_spec_l01Ok := Tryd.func47
theorem body_spec_l01Ok : f_spec_l01Ok.body = some (bodyOf f_spec_l01Ok) := by kernel_rfl
abbrev n_impl_readExpr : Nat := 48
noncomputable abbrev f_impl_readExpr : Func := Tryd.f48
theorem at_impl_readExpr : prog.funcs[n_impl_readExpr]? = some f_impl_readExpr := Tryd.func48
theorem body_impl_readExpr : f_impl_readExpr.body = some (bodyOf f_impl_readExpr) := by kernel_rfl
abbrev n_laws_eqExprS : Nat := 49
noncomputable abbrev f_laws_eqExprS : Func := Tryd.f49
theorem at_laws_eqExprS : prog.funcs[n_laws_eqExprS]? = some f_laws_eqExprS := Tryd.func49
theorem body_laws_eqExprS : f_laws_eqExprS.body = some (bodyOf f_laws_eqExprS) := by kernel_rfl
abbrev n_laws_markExprS : Nat := 50
noncomputable abbrev f_laws_markExprS : Func := Tryd.f50
theorem at_laws_markExprS : prog.funcs[n_laws_markExprS]? = some f_laws_markExprS := Tryd.func50
theorem body_laws_markExprS : f_laws_markExprS.body = some (bodyOf f_laws_markExprS) := by kernel_rfl
abbrev n_laws_heldExprS : Nat := 51
noncomputable abbrev f_laws_heldExprS : Func := Tryd.f51
theorem at_laws_heldExprS : prog.funcs[n_laws_heldExprS]? = some f_laws_heldExprS := Tryd.func51
theorem body_laws_heldExprS : f_laws_heldExprS.body = some (bodyOf f_laws_heldExprS) := by kernel_rfl
abbrev n_impl_textOf : Nat := 60
noncomputable abbrev f_impl_textOf : Func := Tryd.f60
theorem at_impl_textOf : prog.funcs[n_impl_textOf]? = some f_impl_textOf := Tryd.func60
abbrev n_spec_l00In : Nat := 63
noncomputable abbrev f_spec_l00In : Func := Tryd.f63
theorem at_spec_l00In : prog.funcs[n_spec_l00In]? = some f_spec_l00In := Tryd.func63
theorem body_spec_l00In : f_spec_l00In.body = some (bodyOf f_spec_l00In) := by kernel_rfl
abbrev n_spec_l04Read : Nat := 78
noncomputable abbrev f_spec_l04Read : Func := Tryd.f78
theorem at_spec_l04Read : prog.funcs[n_spec_l04Read]? = some f_spec_l04Read := Tryd.func78
theorem body_spec_l04Read : f_spec_l04Read.body = some (bodyOf f_spec_l04Read) := by kernel_rfl
abbrev n_impl_readEquation : Nat := 79
noncomputable abbrev f_impl_readEquation : Func := Tryd.f79
theorem at_impl_readEquation : prog.funcs[n_impl_readEquation]? = some f_impl_readEquation := Tryd.func79
theorem body_impl_readEquation : f_impl_readEquation.body = some (bodyOf f_impl_readEquation) := by kernel_rfl
abbrev n_impl_within : Nat := 81
noncomputable abbrev f_impl_within : Func := Tryd.f81
theorem at_impl_within : prog.funcs[n_impl_within]? = some f_impl_within := Tryd.func81
theorem body_impl_within : f_impl_within.body = some (bodyOf f_impl_within) := by kernel_rfl
abbrev n_internal_stringslite_HasPrefix : Nat := 83
noncomputable abbrev f_internal_stringslite_HasPrefix : Func := Tryd.f83
theorem at_internal_stringslite_HasPrefix : prog.funcs[n_internal_stringslite_HasPrefix]? = some f_internal_stringslite_HasPrefix := Tryd.func83
theorem body_internal_stringslite_HasPrefix : f_internal_stringslite_HasPrefix.body = some (bodyOf f_internal_stringslite_HasPrefix) := by kernel_rfl
abbrev n_spec_l01Reader_inner : Nat := 85
noncomputable abbrev f_spec_l01Reader_inner : Func := Tryd.f85
theorem at_spec_l01Reader_inner : prog.funcs[n_spec_l01Reader_inner]? = some f_spec_l01Reader_inner := Tryd.func85
theorem body_spec_l01Reader_inner : f_spec_l01Reader_inner.body = some (bodyOf f_spec_l01Reader_inner) := by kernel_rfl
abbrev n_spec_l01Reader_peek : Nat := 86
noncomputable abbrev f_spec_l01Reader_peek : Func := Tryd.f86
theorem at_spec_l01Reader_peek : prog.funcs[n_spec_l01Reader_peek]? = some f_spec_l01Reader_peek := Tryd.func86
theorem body_spec_l01Reader_peek : f_spec_l01Reader_peek.body = some (bodyOf f_spec_l01Reader_peek) := by kernel_rfl
abbrev n_spec_l01Left : Nat := 87
noncomputable abbrev f_spec_l01Left : Func := Tryd.f87
theorem at_spec_l01Left : prog.funcs[n_spec_l01Left]? = some f_spec_l01Left := Tryd.func87
theorem body_spec_l01Left : f_spec_l01Left.body = some (bodyOf f_spec_l01Left) := by kernel_rfl
abbrev n_spec_l01Depth : Nat := 88
noncomputable abbrev f_spec_l01Depth : Func := Tryd.f88
theorem at_spec_l01Depth : prog.funcs[n_spec_l01Depth]? = some f_spec_l01Depth := Tryd.func88
theorem body_spec_l01Depth : f_spec_l01Depth.body = some (bodyOf f_spec_l01Depth) := by kernel_rfl
abbrev n_spec_l01Tree : Nat := 89
noncomputable abbrev f_spec_l01Tree : Func := Tryd.f89
theorem at_spec_l01Tree : prog.funcs[n_spec_l01Tree]? = some f_spec_l01Tree := Tryd.func89
theorem body_spec_l01Tree : f_spec_l01Tree.body = some (bodyOf f_spec_l01Tree) := by kernel_rfl
abbrev n_impl_reader_expr : Nat := 90
noncomputable abbrev f_impl_reader_expr : Func := Tryd.f90
theorem at_impl_reader_expr : prog.funcs[n_impl_reader_expr]? = some f_impl_reader_expr := Tryd.func90
theorem body_impl_reader_expr : f_impl_reader_expr.body = some (bodyOf f_impl_reader_expr) := by kernel_rfl
abbrev n_impl_isExpr : Nat := 91
noncomputable abbrev f_impl_isExpr : Func := Tryd.f91
theorem at_impl_isExpr : prog.funcs[n_impl_isExpr]? = some f_impl_isExpr := Tryd.func91
theorem body_impl_isExpr : f_impl_isExpr.body = some (bodyOf f_impl_isExpr) := by kernel_rfl
abbrev n_spec_l04Cut : Nat := 112
noncomputable abbrev f_spec_l04Cut : Func := Tryd.f112
theorem at_spec_l04Cut : prog.funcs[n_spec_l04Cut]? = some f_spec_l04Cut := Tryd.func112
theorem body_spec_l04Cut : f_spec_l04Cut.body = some (bodyOf f_spec_l04Cut) := by kernel_rfl
abbrev n_strings_Cut : Nat := 113
noncomputable abbrev f_strings_Cut : Func := Tryd.f113
theorem at_strings_Cut : prog.funcs[n_strings_Cut]? = some f_strings_Cut := Tryd.func113
abbrev n_spec_l01Reader_name : Nat := 119
noncomputable abbrev f_spec_l01Reader_name : Func := Tryd.f119
theorem at_spec_l01Reader_name : prog.funcs[n_spec_l01Reader_name]? = some f_spec_l01Reader_name := Tryd.func119
theorem body_spec_l01Reader_name : f_spec_l01Reader_name.body = some (bodyOf f_spec_l01Reader_name) := by kernel_rfl
abbrev n_spec_l01Reader_pair : Nat := 120
noncomputable abbrev f_spec_l01Reader_pair : Func := Tryd.f120
theorem at_spec_l01Reader_pair : prog.funcs[n_spec_l01Reader_pair]? = some f_spec_l01Reader_pair := Tryd.func120
theorem body_spec_l01Reader_pair : f_spec_l01Reader_pair.body = some (bodyOf f_spec_l01Reader_pair) := by kernel_rfl
abbrev n_spec_l00Max : Nat := 121
noncomputable abbrev f_spec_l00Max : Func := Tryd.f121
theorem at_spec_l00Max : prog.funcs[n_spec_l00Max]? = some f_spec_l00Max := Tryd.func121
theorem body_spec_l00Max : f_spec_l00Max.body = some (bodyOf f_spec_l00Max) := by kernel_rfl
abbrev n_spec_l01Kids : Nat := 122
noncomputable abbrev f_spec_l01Kids : Func := Tryd.f122
theorem at_spec_l01Kids : prog.funcs[n_spec_l01Kids]? = some f_spec_l01Kids := Tryd.func122
theorem body_spec_l01Kids : f_spec_l01Kids.body = some (bodyOf f_spec_l01Kids) := by kernel_rfl
abbrev n_spec_l01Condition : Nat := 123
noncomputable abbrev f_spec_l01Condition : Func := Tryd.f123
theorem at_spec_l01Condition : prog.funcs[n_spec_l01Condition]? = some f_spec_l01Condition := Tryd.func123
theorem body_spec_l01Condition : f_spec_l01Condition.body = some (bodyOf f_spec_l01Condition) := by kernel_rfl
abbrev n_impl_reader_take : Nat := 124
noncomputable abbrev f_impl_reader_take : Func := Tryd.f124
theorem at_impl_reader_take : prog.funcs[n_impl_reader_take]? = some f_impl_reader_take := Tryd.func124
theorem body_impl_reader_take : f_impl_reader_take.body = some (bodyOf f_impl_reader_take) := by kernel_rfl
abbrev n_impl_reader_core : Nat := 125
noncomputable abbrev f_impl_reader_core : Func := Tryd.f125
theorem at_impl_reader_core : prog.funcs[n_impl_reader_core]? = some f_impl_reader_core := Tryd.func125
theorem body_impl_reader_core : f_impl_reader_core.body = some (bodyOf f_impl_reader_core) := by kernel_rfl
abbrev n_impl_tree : Nat := 126
noncomputable abbrev f_impl_tree : Func := Tryd.f126
theorem at_impl_tree : prog.funcs[n_impl_tree]? = some f_impl_tree := Tryd.func126
theorem body_impl_tree : f_impl_tree.body = some (bodyOf f_impl_tree) := by kernel_rfl
abbrev n_impl_shaped : Nat := 127
noncomputable abbrev f_impl_shaped : Func := Tryd.f127
theorem at_impl_shaped : prog.funcs[n_impl_shaped]? = some f_impl_shaped := Tryd.func127
theorem body_impl_shaped : f_impl_shaped.body = some (bodyOf f_impl_shaped) := by kernel_rfl
abbrev n_impl_IsCondition : Nat := 132
noncomputable abbrev f_impl_IsCondition : Func := Tryd.f132
theorem at_impl_IsCondition : prog.funcs[n_impl_IsCondition]? = some f_impl_IsCondition := Tryd.func132
theorem body_impl_IsCondition : f_impl_IsCondition.body = some (bodyOf f_impl_IsCondition) := by kernel_rfl
abbrev n_spec_l01Reader_take : Nat := 141
noncomputable abbrev f_spec_l01Reader_take : Func := Tryd.f141
theorem at_spec_l01Reader_take : prog.funcs[n_spec_l01Reader_take]? = some f_spec_l01Reader_take := Tryd.func141
theorem body_spec_l01Reader_take : f_spec_l01Reader_take.body = some (bodyOf f_spec_l01Reader_take) := by kernel_rfl
abbrev n_impl_leaf : Nat := 142
noncomputable abbrev f_impl_leaf : Func := Tryd.f142
theorem at_impl_leaf : prog.funcs[n_impl_leaf]? = some f_impl_leaf := Tryd.func142
theorem body_impl_leaf : f_impl_leaf.body = some (bodyOf f_impl_leaf) := by kernel_rfl
abbrev n_impl_reader_digit : Nat := 143
noncomputable abbrev f_impl_reader_digit : Func := Tryd.f143
theorem at_impl_reader_digit : prog.funcs[n_impl_reader_digit]? = some f_impl_reader_digit := Tryd.func143
theorem body_impl_reader_digit : f_impl_reader_digit.body = some (bodyOf f_impl_reader_digit) := by kernel_rfl
abbrev n_impl_kidsOf : Nat := 144
noncomputable abbrev f_impl_kidsOf : Func := Tryd.f144
theorem at_impl_kidsOf : prog.funcs[n_impl_kidsOf]? = some f_impl_kidsOf := Tryd.func144
theorem body_impl_kidsOf : f_impl_kidsOf.body = some (bodyOf f_impl_kidsOf) := by kernel_rfl
end Go.Proofs.YtkogipcdjalehaaDoor

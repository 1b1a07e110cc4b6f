/- The types and the functions of the seat, by name. Printed by gen_tab.py. -/
import Derived.Test.YtkogipcdjalehaaDoorVmStFun
import Derived.Test.YtkogipcdjalehaaDoorChecked
set_option linter.unusedVariables false
namespace Go.Proofs.YtkogipcdjalehaaDoor
def tyTab : List (Nat × Ty × Nat × Nat) :=
 [(2, (.int .i64), 0, 0),
  (3, (.int .i64), 0, 0),
  (4, .bool, 0, 0),
  (5, (.int .u8), 0, 0),
  (9, .str, 0, 0),
  (12, (.int .u64), 0, 0),
  (23, (.st .sig), 0, 0),
  (24, (.slice (.int .i64)), 8, 2),
  (26, (.st .word), 0, 0),
  (29, (.st .sig), 0, 0),
  (34, (.slice (.st .expr)), 40, 36),
  (36, (.st .expr), 0, 0),
  (41, (.slice (.st .expr)), 40, 43),
  (43, (.st .expr), 0, 0),
  (44, (.slice (.st .prog)), 80, 46),
  (46, (.st .prog), 0, 0),
  (48, (.st .triple), 0, 0),
  (51, (.slice (.st .prog)), 80, 53),
  (53, (.st .prog), 0, 0),
  (55, (.st .triple), 0, 0),
  (59, (.slice (.slice .bool)), 24, 111),
  (60, (.slice (.slice (.slice .bool))), 24, 59),
  (62, (.st .model), 0, 0),
  (69, (.st .equation), 0, 0),
  (75, (.slice .str), 16, 9),
  (89, (.st .l01Reader), 0, 0),
  (111, (.slice .bool), 1, 4),
  (134, (.st .reader), 0, 0),
  (145, (.slice (.int .u8)), 1, 5),
  (158, (.int .u64), 0, 0),
  (194, (.int .u64), 0, 0)]
def ptyTab : List (Nat × Ty) :=
 [(80, (.st .word)), (87, (.st .l01Reader)), (92, (.st .expr)), (100, (.st .triple)), (103, (.st .prog)), (114, (.st .model)), (165, (.st .reader)), (175, (.int .u8))]
def mtyTab : List (Nat × Ty × Ty) := []
abbrev T_bool : Nat := 4
abbrev T_laws_Sig : Nat := 23
abbrev T_impl_Expr : Nat := 36
abbrev T_laws_Triple : Nat := 48
abbrev T_impl_Prog : Nat := 53
noncomputable abbrev prog : Program := Tryd.prog
theorem tyTab_ok (c : Nat → List Arg → Option (Vc × List TV)) (wr own : List Nat) (oc : Nat → List Arg → Option (Vc × List TV)) (mk : Nat → Option MCtr) (cl : Nat → Option CloK) (ro : List Nat) (tk : Nat → List Bool) (sk : Nat → Option SK) (sc : Nat → List Arg → List (List TV) → Option (Vc × List TV × List (List TV))) : ((tyTab.all fun r => tyRowB prog (Env.mk tyTab ptyTab c wr own oc mk cl ro tk sk sc mtyTab) r.1 r.2.1 r.2.2.1 r.2.2.2) && mtyTab.all fun r => mapRowB prog (Env.mk tyTab ptyTab c wr own oc mk cl ro tk sk sc mtyTab) r.1 r.2.1 r.2.2) = true := by kernel_rfl
theorem prog_mixed : prog.follows .mixedOrders = true := Checked.mixed Tryd.checked
def bodyOf (f : Func) : Code := match f.body with
 | some c => c
 | none => .skip
abbrev n_laws_FnExactTripleText : Nat := 5
noncomputable abbrev f_laws_FnExactTripleText : Func := Tryd.f5
theorem at_laws_FnExactTripleText : prog.funcs[n_laws_FnExactTripleText]? = some f_laws_FnExactTripleText := Tryd.func5
theorem body_laws_FnExactTripleText : f_laws_FnExactTripleText.body = some (bodyOf f_laws_FnExactTripleText) := by kernel_rfl
abbrev n_laws_toSig : Nat := 9
noncomputable abbrev f_laws_toSig : Func := Tryd.f9
theorem at_laws_toSig : prog.funcs[n_laws_toSig]? = some f_laws_toSig := Tryd.func9
theorem body_laws_toSig : f_laws_toSig.body = some (bodyOf f_laws_toSig) := by kernel_rfl
abbrev n_laws_eqExpr : Nat := 16
noncomputable abbrev f_laws_eqExpr : Func := Tryd.f16
theorem at_laws_eqExpr : prog.funcs[n_laws_eqExpr]? = some f_laws_eqExpr := Tryd.func16
theorem body_laws_eqExpr : f_laws_eqExpr.body = some (bodyOf f_laws_eqExpr) := by kernel_rfl
abbrev n_laws_szTriple : Nat := 19
noncomputable abbrev f_laws_szTriple : Func := Tryd.f19
theorem at_laws_szTriple : prog.funcs[n_laws_szTriple]? = some f_laws_szTriple := Tryd.func19
theorem body_laws_szTriple : f_laws_szTriple.body = some (bodyOf f_laws_szTriple) := by kernel_rfl
abbrev n_spec_TripleText : Nat := 20
noncomputable abbrev f_spec_TripleText : Func := Tryd.f20
theorem at_spec_TripleText : prog.funcs[n_spec_TripleText]? = some f_spec_TripleText := Tryd.func20
theorem body_spec_TripleText : f_spec_TripleText.body = some (bodyOf f_spec_TripleText) := by kernel_rfl
abbrev n_laws_toTriple : Nat := 21
noncomputable abbrev f_laws_toTriple : Func := Tryd.f21
theorem at_laws_toTriple : prog.funcs[n_laws_toTriple]? = some f_laws_toTriple := Tryd.func21
theorem body_laws_toTriple : f_laws_toTriple.body = some (bodyOf f_laws_toTriple) := by kernel_rfl
abbrev n_impl_TripleText : Nat := 22
noncomputable abbrev f_impl_TripleText : Func := Tryd.f22
theorem at_impl_TripleText : prog.funcs[n_impl_TripleText]? = some f_impl_TripleText := Tryd.func22
theorem body_impl_TripleText : f_impl_TripleText.body = some (bodyOf f_impl_TripleText) := by kernel_rfl
abbrev n_laws_eqTriple : Nat := 23
noncomputable abbrev f_laws_eqTriple : Func := Tryd.f23
theorem at_laws_eqTriple : prog.funcs[n_laws_eqTriple]? = some f_laws_eqTriple := Tryd.func23
theorem body_laws_eqTriple : f_laws_eqTriple.body = some (bodyOf f_laws_eqTriple) := by kernel_rfl
abbrev n_spec_l01Sig : Nat := 34
noncomputable abbrev f_spec_l01Sig : Func := Tryd.f34
theorem at_spec_l01Sig : prog.funcs[n_spec_l01Sig]? = some f_spec_l01Sig := Tryd.func34
theorem body_spec_l01Sig : f_spec_l01Sig.body = some (bodyOf f_spec_l01Sig) := by kernel_rfl
abbrev n_impl_ValidSig : Nat := 38
noncomputable abbrev f_impl_ValidSig : Func := Tryd.f38
theorem at_impl_ValidSig : prog.funcs[n_impl_ValidSig]? = some f_impl_ValidSig := Tryd.func38
theorem body_impl_ValidSig : f_impl_ValidSig.body = some (bodyOf f_impl_ValidSig) := by kernel_rfl
abbrev n_spec_l01Ok : Nat := 47
noncomputable abbrev f_spec_l01Ok : Func := Tryd.f47
theorem at_spec_l01Ok : prog.funcs[n_spec_l01Ok]? = some f_spec_l01Ok := Tryd.func47
theorem body_spec_l01Ok : f_spec_l01Ok.body = some (bodyOf f_spec_l01Ok) := by kernel_rfl
abbrev n_laws_eqExprS : Nat := 49
noncomputable abbrev f_laws_eqExprS : Func := Tryd.f49
theorem at_laws_eqExprS : prog.funcs[n_laws_eqExprS]? = some f_laws_eqExprS := Tryd.func49
theorem body_laws_eqExprS : f_laws_eqExprS.body = some (bodyOf f_laws_eqExprS) := by kernel_rfl
abbrev n_laws_szExpr : Nat := 52
noncomputable abbrev f_laws_szExpr : Func := Tryd.f52
theorem at_laws_szExpr : prog.funcs[n_laws_szExpr]? = some f_laws_szExpr := Tryd.func52
theorem body_laws_szExpr : f_laws_szExpr.body = some (bodyOf f_laws_szExpr) := by kernel_rfl
abbrev n_laws_szProg : Nat := 53
noncomputable abbrev f_laws_szProg : Func := Tryd.f53
theorem at_laws_szProg : prog.funcs[n_laws_szProg]? = some f_laws_szProg := Tryd.func53
theorem body_laws_szProg : f_laws_szProg.body = some (bodyOf f_laws_szProg) := by kernel_rfl
abbrev n_spec_l07Triple : Nat := 54
noncomputable abbrev f_spec_l07Triple : Func := Tryd.f54
theorem at_spec_l07Triple : prog.funcs[n_spec_l07Triple]? = some f_spec_l07Triple := Tryd.func54
theorem body_spec_l07Triple : f_spec_l07Triple.body = some (bodyOf f_spec_l07Triple) := by kernel_rfl
abbrev n_spec_l01Text : Nat := 55
noncomputable abbrev f_spec_l01Text : Func := Tryd.f55
theorem at_spec_l01Text : prog.funcs[n_spec_l01Text]? = some f_spec_l01Text := Tryd.func55
theorem body_spec_l01Text : f_spec_l01Text.body = some (bodyOf f_spec_l01Text) := by kernel_rfl
abbrev n_spec_l06Text : Nat := 56
noncomputable abbrev f_spec_l06Text : Func := Tryd.f56
theorem at_spec_l06Text : prog.funcs[n_spec_l06Text]? = some f_spec_l06Text := Tryd.func56
theorem body_spec_l06Text : f_spec_l06Text.body = some (bodyOf f_spec_l06Text) := by kernel_rfl
abbrev n_laws_toExpr : Nat := 57
noncomputable abbrev f_laws_toExpr : Func := Tryd.f57
theorem at_laws_toExpr : prog.funcs[n_laws_toExpr]? = some f_laws_toExpr := Tryd.func57
theorem body_laws_toExpr : f_laws_toExpr.body = some (bodyOf f_laws_toExpr) := by kernel_rfl
abbrev n_laws_toProg : Nat := 58
noncomputable abbrev f_laws_toProg : Func := Tryd.f58
theorem at_laws_toProg : prog.funcs[n_laws_toProg]? = some f_laws_toProg := Tryd.func58
theorem body_laws_toProg : f_laws_toProg.body = some (bodyOf f_laws_toProg) := by kernel_rfl
abbrev n_impl_ValidTriple : Nat := 59
noncomputable abbrev f_impl_ValidTriple : Func := Tryd.f59
theorem at_impl_ValidTriple : prog.funcs[n_impl_ValidTriple]? = some f_impl_ValidTriple := Tryd.func59
theorem body_impl_ValidTriple : f_impl_ValidTriple.body = some (bodyOf f_impl_ValidTriple) := by kernel_rfl
abbrev n_impl_textOf : Nat := 60
noncomputable abbrev f_impl_textOf : Func := Tryd.f60
theorem at_impl_textOf : prog.funcs[n_impl_textOf]? = some f_impl_textOf := Tryd.func60
abbrev n_impl_progText : Nat := 61
noncomputable abbrev f_impl_progText : Func := Tryd.f61
theorem at_impl_progText : prog.funcs[n_impl_progText]? = some f_impl_progText := Tryd.func61
theorem body_impl_progText : f_impl_progText.body = some (bodyOf f_impl_progText) := by kernel_rfl
abbrev n_laws_eqProg : Nat := 62
noncomputable abbrev f_laws_eqProg : Func := Tryd.f62
theorem at_laws_eqProg : prog.funcs[n_laws_eqProg]? = some f_laws_eqProg := Tryd.func62
theorem body_laws_eqProg : f_laws_eqProg.body = some (bodyOf f_laws_eqProg) := by kernel_rfl
abbrev n_spec_l00In : Nat := 63
noncomputable abbrev f_spec_l00In : Func := Tryd.f63
theorem at_spec_l00In : prog.funcs[n_spec_l00In]? = some f_spec_l00In := Tryd.func63
theorem body_spec_l00In : f_spec_l00In.body = some (bodyOf f_spec_l00In) := by kernel_rfl
abbrev n_impl_within : Nat := 81
noncomputable abbrev f_impl_within : Func := Tryd.f81
theorem at_impl_within : prog.funcs[n_impl_within]? = some f_impl_within := Tryd.func81
theorem body_impl_within : f_impl_within.body = some (bodyOf f_impl_within) := by kernel_rfl
abbrev n_spec_l01Left : Nat := 87
noncomputable abbrev f_spec_l01Left : Func := Tryd.f87
theorem at_spec_l01Left : prog.funcs[n_spec_l01Left]? = some f_spec_l01Left := Tryd.func87
theorem body_spec_l01Left : f_spec_l01Left.body = some (bodyOf f_spec_l01Left) := by kernel_rfl
abbrev n_spec_l01Depth : Nat := 88
noncomputable abbrev f_spec_l01Depth : Func := Tryd.f88
theorem at_spec_l01Depth : prog.funcs[n_spec_l01Depth]? = some f_spec_l01Depth := Tryd.func88
theorem body_spec_l01Depth : f_spec_l01Depth.body = some (bodyOf f_spec_l01Depth) := by kernel_rfl
abbrev n_spec_l01Tree : Nat := 89
noncomputable abbrev f_spec_l01Tree : Func := Tryd.f89
theorem at_spec_l01Tree : prog.funcs[n_spec_l01Tree]? = some f_spec_l01Tree := Tryd.func89
theorem body_spec_l01Tree : f_spec_l01Tree.body = some (bodyOf f_spec_l01Tree) := by kernel_rfl
abbrev n_impl_isExpr : Nat := 91
noncomputable abbrev f_impl_isExpr : Func := Tryd.f91
theorem at_impl_isExpr : prog.funcs[n_impl_isExpr]? = some f_impl_isExpr := Tryd.func91
theorem body_impl_isExpr : f_impl_isExpr.body = some (bodyOf f_impl_isExpr) := by kernel_rfl
abbrev n_laws_szExprS : Nat := 92
noncomputable abbrev f_laws_szExprS : Func := Tryd.f92
theorem at_laws_szExprS : prog.funcs[n_laws_szExprS]? = some f_laws_szExprS := Tryd.func92
theorem body_laws_szExprS : f_laws_szExprS.body = some (bodyOf f_laws_szExprS) := by kernel_rfl
abbrev n_laws_szProgS : Nat := 93
noncomputable abbrev f_laws_szProgS : Func := Tryd.f93
theorem at_laws_szProgS : prog.funcs[n_laws_szProgS]? = some f_laws_szProgS := Tryd.func93
theorem body_laws_szProgS : f_laws_szProgS.body = some (bodyOf f_laws_szProgS) := by kernel_rfl
abbrev n_spec_l06Cond : Nat := 94
noncomputable abbrev f_spec_l06Cond : Func := Tryd.f94
theorem at_spec_l06Cond : prog.funcs[n_spec_l06Cond]? = some f_spec_l06Cond := Tryd.func94
theorem body_spec_l06Cond : f_spec_l06Cond.body = some (bodyOf f_spec_l06Cond) := by kernel_rfl
abbrev n_spec_l06Ok : Nat := 95
noncomputable abbrev f_spec_l06Ok : Func := Tryd.f95
theorem at_spec_l06Ok : prog.funcs[n_spec_l06Ok]? = some f_spec_l06Ok := Tryd.func95
theorem body_spec_l06Ok : f_spec_l06Ok.body = some (bodyOf f_spec_l06Ok) := by kernel_rfl
abbrev n_spec_Decimal : Nat := 96
noncomputable abbrev f_spec_Decimal : Func := Tryd.f96
theorem at_spec_Decimal : prog.funcs[n_spec_Decimal]? = some f_spec_Decimal := Tryd.func96
abbrev n_laws_toExprS : Nat := 97
noncomputable abbrev f_laws_toExprS : Func := Tryd.f97
theorem at_laws_toExprS : prog.funcs[n_laws_toExprS]? = some f_laws_toExprS := Tryd.func97
theorem body_laws_toExprS : f_laws_toExprS.body = some (bodyOf f_laws_toExprS) := by kernel_rfl
abbrev n_laws_toProgS : Nat := 98
noncomputable abbrev f_laws_toProgS : Func := Tryd.f98
theorem at_laws_toProgS : prog.funcs[n_laws_toProgS]? = some f_laws_toProgS := Tryd.func98
theorem body_laws_toProgS : f_laws_toProgS.body = some (bodyOf f_laws_toProgS) := by kernel_rfl
abbrev n_impl_ValidProg : Nat := 99
noncomputable abbrev f_impl_ValidProg : Func := Tryd.f99
theorem at_impl_ValidProg : prog.funcs[n_impl_ValidProg]? = some f_impl_ValidProg := Tryd.func99
theorem body_impl_ValidProg : f_impl_ValidProg.body = some (bodyOf f_impl_ValidProg) := by kernel_rfl
abbrev n_impl_isCondition : Nat := 100
noncomputable abbrev f_impl_isCondition : Func := Tryd.f100
theorem at_impl_isCondition : prog.funcs[n_impl_isCondition]? = some f_impl_isCondition := Tryd.func100
theorem body_impl_isCondition : f_impl_isCondition.body = some (bodyOf f_impl_isCondition) := by kernel_rfl
abbrev n_impl_decimal : Nat := 103
noncomputable abbrev f_impl_decimal : Func := Tryd.f103
theorem at_impl_decimal : prog.funcs[n_impl_decimal]? = some f_impl_decimal := Tryd.func103
abbrev n_laws_eqProgS : Nat := 104
noncomputable abbrev f_laws_eqProgS : Func := Tryd.f104
theorem at_laws_eqProgS : prog.funcs[n_laws_eqProgS]? = some f_laws_eqProgS := Tryd.func104
theorem body_laws_eqProgS : f_laws_eqProgS.body = some (bodyOf f_laws_eqProgS) := by kernel_rfl
abbrev n_spec_l00Max : Nat := 121
noncomputable abbrev f_spec_l00Max : Func := Tryd.f121
theorem at_spec_l00Max : prog.funcs[n_spec_l00Max]? = some f_spec_l00Max := Tryd.func121
theorem body_spec_l00Max : f_spec_l00Max.body = some (bodyOf f_spec_l00Max) := by kernel_rfl
abbrev n_spec_l01Kids : Nat := 122
noncomputable abbrev f_spec_l01Kids : Func := Tryd.f122
theorem at_spec_l01Kids : prog.funcs[n_spec_l01Kids]? = some f_spec_l01Kids := Tryd.func122
theorem body_spec_l01Kids : f_spec_l01Kids.body = some (bodyOf f_spec_l01Kids) := by kernel_rfl
abbrev n_spec_l01Condition : Nat := 123
noncomputable abbrev f_spec_l01Condition : Func := Tryd.f123
theorem at_spec_l01Condition : prog.funcs[n_spec_l01Condition]? = some f_spec_l01Condition := Tryd.func123
theorem body_spec_l01Condition : f_spec_l01Condition.body = some (bodyOf f_spec_l01Condition) := by kernel_rfl
abbrev n_impl_shaped : Nat := 127
noncomputable abbrev f_impl_shaped : Func := Tryd.f127
theorem at_impl_shaped : prog.funcs[n_impl_shaped]? = some f_impl_shaped := Tryd.func127
theorem body_impl_shaped : f_impl_shaped.body = some (bodyOf f_impl_shaped) := by kernel_rfl
abbrev n_spec_l06Left : Nat := 128
noncomputable abbrev f_spec_l06Left : Func := Tryd.f128
theorem at_spec_l06Left : prog.funcs[n_spec_l06Left]? = some f_spec_l06Left := Tryd.func128
theorem body_spec_l06Left : f_spec_l06Left.body = some (bodyOf f_spec_l06Left) := by kernel_rfl
abbrev n_spec_l06Depth : Nat := 129
noncomputable abbrev f_spec_l06Depth : Func := Tryd.f129
theorem at_spec_l06Depth : prog.funcs[n_spec_l06Depth]? = some f_spec_l06Depth := Tryd.func129
theorem body_spec_l06Depth : f_spec_l06Depth.body = some (bodyOf f_spec_l06Depth) := by kernel_rfl
abbrev n_spec_l06Tree : Nat := 130
noncomputable abbrev f_spec_l06Tree : Func := Tryd.f130
theorem at_spec_l06Tree : prog.funcs[n_spec_l06Tree]? = some f_spec_l06Tree := Tryd.func130
theorem body_spec_l06Tree : f_spec_l06Tree.body = some (bodyOf f_spec_l06Tree) := by kernel_rfl
abbrev n_impl_isProg : Nat := 131
noncomputable abbrev f_impl_isProg : Func := Tryd.f131
theorem at_impl_isProg : prog.funcs[n_impl_isProg]? = some f_impl_isProg := Tryd.func131
theorem body_impl_isProg : f_impl_isProg.body = some (bodyOf f_impl_isProg) := by kernel_rfl
abbrev n_impl_IsCondition : Nat := 132
noncomputable abbrev f_impl_IsCondition : Func := Tryd.f132
theorem at_impl_IsCondition : prog.funcs[n_impl_IsCondition]? = some f_impl_IsCondition := Tryd.func132
theorem body_impl_IsCondition : f_impl_IsCondition.body = some (bodyOf f_impl_IsCondition) := by kernel_rfl
abbrev n_impl_kidsOf : Nat := 144
noncomputable abbrev f_impl_kidsOf : Func := Tryd.f144
theorem at_impl_kidsOf : prog.funcs[n_impl_kidsOf]? = some f_impl_kidsOf := Tryd.func144
theorem body_impl_kidsOf : f_impl_kidsOf.body = some (bodyOf f_impl_kidsOf) := by kernel_rfl
abbrev n_spec_l06Kids : Nat := 145
noncomputable abbrev f_spec_l06Kids : Func := Tryd.f145
theorem at_spec_l06Kids : prog.funcs[n_spec_l06Kids]? = some f_spec_l06Kids := Tryd.func145
theorem body_spec_l06Kids : f_spec_l06Kids.body = some (bodyOf f_spec_l06Kids) := by kernel_rfl
abbrev n_spec_l06Asks : Nat := 146
noncomputable abbrev f_spec_l06Asks : Func := Tryd.f146
theorem at_spec_l06Asks : prog.funcs[n_spec_l06Asks]? = some f_spec_l06Asks := Tryd.func146
theorem body_spec_l06Asks : f_spec_l06Asks.body = some (bodyOf f_spec_l06Asks) := by kernel_rfl
abbrev n_spec_l06None : Nat := 147
noncomputable abbrev f_spec_l06None : Func := Tryd.f147
theorem at_spec_l06None : prog.funcs[n_spec_l06None]? = some f_spec_l06None := Tryd.func147
theorem body_spec_l06None : f_spec_l06None.body = some (bodyOf f_spec_l06None) := by kernel_rfl
abbrev n_impl_progFits : Nat := 148
noncomputable abbrev f_impl_progFits : Func := Tryd.f148
theorem at_impl_progFits : prog.funcs[n_impl_progFits]? = some f_impl_progFits := Tryd.func148
theorem body_impl_progFits : f_impl_progFits.body = some (bodyOf f_impl_progFits) := by kernel_rfl
abbrev n_impl_progForm : Nat := 156
noncomputable abbrev f_impl_progForm : Func := Tryd.f156
theorem at_impl_progForm : prog.funcs[n_impl_progForm]? = some f_impl_progForm := Tryd.func156
theorem body_impl_progForm : f_impl_progForm.body = some (bodyOf f_impl_progForm) := by kernel_rfl
abbrev n_impl_isNone : Nat := 157
noncomputable abbrev f_impl_isNone : Func := Tryd.f157
theorem at_impl_isNone : prog.funcs[n_impl_isNone]? = some f_impl_isNone := Tryd.func157
theorem body_impl_isNone : f_impl_isNone.body = some (bodyOf f_impl_isNone) := by kernel_rfl
end Go.Proofs.YtkogipcdjalehaaDoor

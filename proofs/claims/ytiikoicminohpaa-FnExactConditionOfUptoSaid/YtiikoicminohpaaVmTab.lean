/- The types and the functions of the seat, by name. Printed by gen_tab.py. -/
import Derived.Test.YtiikoicminohpaaVmStFun
import Derived.Test.YtiikoicminohpaaChecked
set_option linter.unusedVariables false
namespace Go.Proofs.Ytiikoicminohpaa

def tyTab : List (Nat × Ty × Nat × Nat) :=
  [(2, (.int .i64), 0, 0),
   (3, (.int .i64), 0, 0),
   (4, .bool, 0, 0),
   (5, (.int .u8), 0, 0),
   (9, .str, 0, 0),
   (12, (.int .u64), 0, 0),
   (23, (.st .sig), 0, 0),
   (24, (.slice (.int .i64)), 8, 2),
   (25, (.slice (.st .expr)), 40, 27),
   (27, (.st .expr), 0, 0),
   (30, (.st .sig), 0, 0),
   (38, (.slice (.st .expr)), 40, 40),
   (40, (.st .expr), 0, 0),
   (41, (.slice (.st .prog)), 80, 43),
   (43, (.st .prog), 0, 0),
   (45, (.st .triple), 0, 0),
   (46, (.slice (.st .derivation)), 192, 48),
   (48, (.st .derivation), 0, 0),
   (51, (.slice (.st .prog)), 80, 53),
   (53, (.st .prog), 0, 0),
   (55, (.st .triple), 0, 0),
   (56, (.slice (.st .derivation)), 192, 58),
   (58, (.st .derivation), 0, 0),
   (67, (.slice (.st .premise)), 88, 78),
   (70, (.slice (.st .premise)), 88, 82),
   (78, (.st .premise), 0, 0),
   (82, (.st .premise), 0, 0),
   (124, (.int .u64), 0, 0)]

def ptyTab : List (Nat × Ty) :=
  [(98, (.st .derivation)), (105, (.st .expr)), (117, (.st .premise)), (153, (.int .u8))]

abbrev T_int64 : Nat := 2
abbrev T_int : Nat := 3
abbrev T_bool : Nat := 4
abbrev T_uint8 : Nat := 5
abbrev T_string : Nat := 9
abbrev T_uintptr : Nat := 12
abbrev T_laws_Sig : Nat := 23
abbrev T_s_int64 : Nat := 24
abbrev T_s_impl_Expr : Nat := 25
abbrev T_impl_Expr : Nat := 27
abbrev T_impl_Sig : Nat := 30
abbrev T_s_laws_Expr : Nat := 38
abbrev T_laws_Expr : Nat := 40
abbrev T_s_laws_Prog : Nat := 41
abbrev T_laws_Prog : Nat := 43
abbrev T_laws_Triple : Nat := 45
abbrev T_s_laws_Derivation : Nat := 46
abbrev T_laws_Derivation : Nat := 48
abbrev T_s_impl_Prog : Nat := 51
abbrev T_impl_Prog : Nat := 53
abbrev T_impl_Triple : Nat := 55
abbrev T_s_impl_Derivation : Nat := 56
abbrev T_impl_Derivation : Nat := 58
abbrev T_s_laws_Premise : Nat := 67
abbrev T_s_impl_Premise : Nat := 70
abbrev T_laws_Premise : Nat := 78
abbrev T_impl_Premise : Nat := 82
abbrev T_uint : Nat := 124
noncomputable abbrev prog : Program := Try.prog
theorem tyTab_ok (c : Nat → List Arg → Option (Vc × List TV)) (wr own : List Nat) (oc : Nat → List Arg → Option (Vc × List TV)) (mk : Nat → Option MCtr) (cl : Nat → Option CloK) (ro : List Nat) (tk : Nat → List Bool) (sk : Nat → Option SK) (sc : Nat → List Arg → List (List TV) → Option (Vc × List TV × List (List TV))) : (tyTab.all fun r => tyRowB prog (Env.mk tyTab ptyTab c wr own oc mk cl ro tk sk sc) r.1 r.2.1 r.2.2.1 r.2.2.2) = true := by kernel_rfl
theorem prog_mixed : prog.follows .mixedOrders = true := Checked.mixed Try.checked
def bodyOf (f : Func) : Code := match f.body with
  | some c => c
  | none => .skip

abbrev n_laws_FnExactConditionOf : Nat := 3
noncomputable abbrev f_laws_FnExactConditionOf : Func := Try.f3
theorem at_laws_FnExactConditionOf : prog.funcs[n_laws_FnExactConditionOf]? = some f_laws_FnExactConditionOf := Try.func3
theorem body_laws_FnExactConditionOf : f_laws_FnExactConditionOf.body = some (bodyOf f_laws_FnExactConditionOf) := by kernel_rfl
abbrev n_laws_FnExactDerivationSize : Nat := 4
noncomputable abbrev f_laws_FnExactDerivationSize : Func := Try.f4
theorem at_laws_FnExactDerivationSize : prog.funcs[n_laws_FnExactDerivationSize]? = some f_laws_FnExactDerivationSize := Try.func4
theorem body_laws_FnExactDerivationSize : f_laws_FnExactDerivationSize.body = some (bodyOf f_laws_FnExactDerivationSize) := by kernel_rfl
abbrev n_laws_FnExactImplies : Nat := 5
noncomputable abbrev f_laws_FnExactImplies : Func := Try.f5
theorem at_laws_FnExactImplies : prog.funcs[n_laws_FnExactImplies]? = some f_laws_FnExactImplies := Try.func5
theorem body_laws_FnExactImplies : f_laws_FnExactImplies.body = some (bodyOf f_laws_FnExactImplies) := by kernel_rfl
abbrev n_laws_FnExactValidPremises : Nat := 6
noncomputable abbrev f_laws_FnExactValidPremises : Func := Try.f6
theorem at_laws_FnExactValidPremises : prog.funcs[n_laws_FnExactValidPremises]? = some f_laws_FnExactValidPremises := Try.func6
theorem body_laws_FnExactValidPremises : f_laws_FnExactValidPremises.body = some (bodyOf f_laws_FnExactValidPremises) := by kernel_rfl
abbrev n_laws_FnExactAtomsOf : Nat := 7
noncomputable abbrev f_laws_FnExactAtomsOf : Func := Try.f7
theorem at_laws_FnExactAtomsOf : prog.funcs[n_laws_FnExactAtomsOf]? = some f_laws_FnExactAtomsOf := Try.func7
theorem body_laws_FnExactAtomsOf : f_laws_FnExactAtomsOf.body = some (bodyOf f_laws_FnExactAtomsOf) := by kernel_rfl
abbrev n_laws_FnExactPremiseExpr : Nat := 8
noncomputable abbrev f_laws_FnExactPremiseExpr : Func := Try.f8
theorem at_laws_FnExactPremiseExpr : prog.funcs[n_laws_FnExactPremiseExpr]? = some f_laws_FnExactPremiseExpr := Try.func8
theorem body_laws_FnExactPremiseExpr : f_laws_FnExactPremiseExpr.body = some (bodyOf f_laws_FnExactPremiseExpr) := by kernel_rfl
abbrev n_spec_ConditionOf : Nat := 9
noncomputable abbrev f_spec_ConditionOf : Func := Try.f9
theorem at_spec_ConditionOf : prog.funcs[n_spec_ConditionOf]? = some f_spec_ConditionOf := Try.func9
theorem body_spec_ConditionOf : f_spec_ConditionOf.body = some (bodyOf f_spec_ConditionOf) := by kernel_rfl
abbrev n_laws_toSig : Nat := 10
noncomputable abbrev f_laws_toSig : Func := Try.f10
theorem at_laws_toSig : prog.funcs[n_laws_toSig]? = some f_laws_toSig := Try.func10
theorem body_laws_toSig : f_laws_toSig.body = some (bodyOf f_laws_toSig) := by kernel_rfl
abbrev n_laws_toInt64S : Nat := 11
noncomputable abbrev f_laws_toInt64S : Func := Try.f11
theorem at_laws_toInt64S : prog.funcs[n_laws_toInt64S]? = some f_laws_toInt64S := Try.func11
theorem body_laws_toInt64S : f_laws_toInt64S.body = some (bodyOf f_laws_toInt64S) := by kernel_rfl
abbrev n_impl_ConditionOf : Nat := 12
noncomputable abbrev f_impl_ConditionOf : Func := Try.f12
theorem at_impl_ConditionOf : prog.funcs[n_impl_ConditionOf]? = some f_impl_ConditionOf := Try.func12
theorem body_impl_ConditionOf : f_impl_ConditionOf.body = some (bodyOf f_impl_ConditionOf) := by kernel_rfl
abbrev n_laws_eqExpr : Nat := 13
noncomputable abbrev f_laws_eqExpr : Func := Try.f13
theorem at_laws_eqExpr : prog.funcs[n_laws_eqExpr]? = some f_laws_eqExpr := Try.func13
theorem body_laws_eqExpr : f_laws_eqExpr.body = some (bodyOf f_laws_eqExpr) := by kernel_rfl
abbrev n_laws_eqInt64S : Nat := 14
noncomputable abbrev f_laws_eqInt64S : Func := Try.f14
theorem at_laws_eqInt64S : prog.funcs[n_laws_eqInt64S]? = some f_laws_eqInt64S := Try.func14
theorem body_laws_eqInt64S : f_laws_eqInt64S.body = some (bodyOf f_laws_eqInt64S) := by kernel_rfl
abbrev n_laws_markInt64S : Nat := 15
noncomputable abbrev f_laws_markInt64S : Func := Try.f15
theorem at_laws_markInt64S : prog.funcs[n_laws_markInt64S]? = some f_laws_markInt64S := Try.func15
theorem body_laws_markInt64S : f_laws_markInt64S.body = some (bodyOf f_laws_markInt64S) := by kernel_rfl
abbrev n_laws_markExpr : Nat := 16
noncomputable abbrev f_laws_markExpr : Func := Try.f16
theorem at_laws_markExpr : prog.funcs[n_laws_markExpr]? = some f_laws_markExpr := Try.func16
theorem body_laws_markExpr : f_laws_markExpr.body = some (bodyOf f_laws_markExpr) := by kernel_rfl
abbrev n_laws_heldExpr : Nat := 17
noncomputable abbrev f_laws_heldExpr : Func := Try.f17
theorem at_laws_heldExpr : prog.funcs[n_laws_heldExpr]? = some f_laws_heldExpr := Try.func17
theorem body_laws_heldExpr : f_laws_heldExpr.body = some (bodyOf f_laws_heldExpr) := by kernel_rfl
abbrev n_laws_szDerivation : Nat := 18
noncomputable abbrev f_laws_szDerivation : Func := Try.f18
theorem at_laws_szDerivation : prog.funcs[n_laws_szDerivation]? = some f_laws_szDerivation := Try.func18
theorem body_laws_szDerivation : f_laws_szDerivation.body = some (bodyOf f_laws_szDerivation) := by kernel_rfl
abbrev n_spec_DerivationSize : Nat := 19
noncomputable abbrev f_spec_DerivationSize : Func := Try.f19
theorem at_spec_DerivationSize : prog.funcs[n_spec_DerivationSize]? = some f_spec_DerivationSize := Try.func19
theorem body_spec_DerivationSize : f_spec_DerivationSize.body = some (bodyOf f_spec_DerivationSize) := by kernel_rfl
abbrev n_laws_toDerivation : Nat := 20
noncomputable abbrev f_laws_toDerivation : Func := Try.f20
theorem at_laws_toDerivation : prog.funcs[n_laws_toDerivation]? = some f_laws_toDerivation := Try.func20
theorem body_laws_toDerivation : f_laws_toDerivation.body = some (bodyOf f_laws_toDerivation) := by kernel_rfl
abbrev n_impl_DerivationSize : Nat := 21
noncomputable abbrev f_impl_DerivationSize : Func := Try.f21
theorem at_impl_DerivationSize : prog.funcs[n_impl_DerivationSize]? = some f_impl_DerivationSize := Try.func21
theorem body_impl_DerivationSize : f_impl_DerivationSize.body = some (bodyOf f_impl_DerivationSize) := by kernel_rfl
abbrev n_laws_eqDerivation : Nat := 22
noncomputable abbrev f_laws_eqDerivation : Func := Try.f22
theorem at_laws_eqDerivation : prog.funcs[n_laws_eqDerivation]? = some f_laws_eqDerivation := Try.func22
theorem body_laws_eqDerivation : f_laws_eqDerivation.body = some (bodyOf f_laws_eqDerivation) := by kernel_rfl
abbrev n_laws_szExpr : Nat := 23
noncomputable abbrev f_laws_szExpr : Func := Try.f23
theorem at_laws_szExpr : prog.funcs[n_laws_szExpr]? = some f_laws_szExpr := Try.func23
theorem body_laws_szExpr : f_laws_szExpr.body = some (bodyOf f_laws_szExpr) := by kernel_rfl
abbrev n_spec_Implies : Nat := 24
noncomputable abbrev f_spec_Implies : Func := Try.f24
theorem at_spec_Implies : prog.funcs[n_spec_Implies]? = some f_spec_Implies := Try.func24
theorem body_spec_Implies : f_spec_Implies.body = some (bodyOf f_spec_Implies) := by kernel_rfl
abbrev n_laws_toExpr : Nat := 25
noncomputable abbrev f_laws_toExpr : Func := Try.f25
theorem at_laws_toExpr : prog.funcs[n_laws_toExpr]? = some f_laws_toExpr := Try.func25
theorem body_laws_toExpr : f_laws_toExpr.body = some (bodyOf f_laws_toExpr) := by kernel_rfl
abbrev n_impl_Implies : Nat := 26
noncomputable abbrev f_impl_Implies : Func := Try.f26
theorem at_impl_Implies : prog.funcs[n_impl_Implies]? = some f_impl_Implies := Try.func26
theorem body_impl_Implies : f_impl_Implies.body = some (bodyOf f_impl_Implies) := by kernel_rfl
abbrev n_laws_szPremiseS : Nat := 27
noncomputable abbrev f_laws_szPremiseS : Func := Try.f27
theorem at_laws_szPremiseS : prog.funcs[n_laws_szPremiseS]? = some f_laws_szPremiseS := Try.func27
theorem body_laws_szPremiseS : f_laws_szPremiseS.body = some (bodyOf f_laws_szPremiseS) := by kernel_rfl
abbrev n_spec_ValidPremises : Nat := 28
noncomputable abbrev f_spec_ValidPremises : Func := Try.f28
theorem at_spec_ValidPremises : prog.funcs[n_spec_ValidPremises]? = some f_spec_ValidPremises := Try.func28
theorem body_spec_ValidPremises : f_spec_ValidPremises.body = some (bodyOf f_spec_ValidPremises) := by kernel_rfl
abbrev n_laws_toPremiseS : Nat := 29
noncomputable abbrev f_laws_toPremiseS : Func := Try.f29
theorem at_laws_toPremiseS : prog.funcs[n_laws_toPremiseS]? = some f_laws_toPremiseS := Try.func29
theorem body_laws_toPremiseS : f_laws_toPremiseS.body = some (bodyOf f_laws_toPremiseS) := by kernel_rfl
abbrev n_impl_ValidPremises : Nat := 30
noncomputable abbrev f_impl_ValidPremises : Func := Try.f30
theorem at_impl_ValidPremises : prog.funcs[n_impl_ValidPremises]? = some f_impl_ValidPremises := Try.func30
theorem body_impl_ValidPremises : f_impl_ValidPremises.body = some (bodyOf f_impl_ValidPremises) := by kernel_rfl
abbrev n_laws_eqPremiseS : Nat := 31
noncomputable abbrev f_laws_eqPremiseS : Func := Try.f31
theorem at_laws_eqPremiseS : prog.funcs[n_laws_eqPremiseS]? = some f_laws_eqPremiseS := Try.func31
theorem body_laws_eqPremiseS : f_laws_eqPremiseS.body = some (bodyOf f_laws_eqPremiseS) := by kernel_rfl
abbrev n_spec_AtomsOf : Nat := 32
noncomputable abbrev f_spec_AtomsOf : Func := Try.f32
theorem at_spec_AtomsOf : prog.funcs[n_spec_AtomsOf]? = some f_spec_AtomsOf := Try.func32
theorem body_spec_AtomsOf : f_spec_AtomsOf.body = some (bodyOf f_spec_AtomsOf) := by kernel_rfl
abbrev n_impl_AtomsOf : Nat := 33
noncomputable abbrev f_impl_AtomsOf : Func := Try.f33
theorem at_impl_AtomsOf : prog.funcs[n_impl_AtomsOf]? = some f_impl_AtomsOf := Try.func33
theorem body_impl_AtomsOf : f_impl_AtomsOf.body = some (bodyOf f_impl_AtomsOf) := by kernel_rfl
abbrev n_laws_heldInt64S : Nat := 34
noncomputable abbrev f_laws_heldInt64S : Func := Try.f34
theorem at_laws_heldInt64S : prog.funcs[n_laws_heldInt64S]? = some f_laws_heldInt64S := Try.func34
theorem body_laws_heldInt64S : f_laws_heldInt64S.body = some (bodyOf f_laws_heldInt64S) := by kernel_rfl
abbrev n_laws_szPremise : Nat := 35
noncomputable abbrev f_laws_szPremise : Func := Try.f35
theorem at_laws_szPremise : prog.funcs[n_laws_szPremise]? = some f_laws_szPremise := Try.func35
theorem body_laws_szPremise : f_laws_szPremise.body = some (bodyOf f_laws_szPremise) := by kernel_rfl
abbrev n_spec_PremiseExpr : Nat := 36
noncomputable abbrev f_spec_PremiseExpr : Func := Try.f36
theorem at_spec_PremiseExpr : prog.funcs[n_spec_PremiseExpr]? = some f_spec_PremiseExpr := Try.func36
theorem body_spec_PremiseExpr : f_spec_PremiseExpr.body = some (bodyOf f_spec_PremiseExpr) := by kernel_rfl
abbrev n_laws_toPremise : Nat := 37
noncomputable abbrev f_laws_toPremise : Func := Try.f37
theorem at_laws_toPremise : prog.funcs[n_laws_toPremise]? = some f_laws_toPremise := Try.func37
theorem body_laws_toPremise : f_laws_toPremise.body = some (bodyOf f_laws_toPremise) := by kernel_rfl
abbrev n_impl_PremiseExpr : Nat := 38
noncomputable abbrev f_impl_PremiseExpr : Func := Try.f38
theorem at_impl_PremiseExpr : prog.funcs[n_impl_PremiseExpr]? = some f_impl_PremiseExpr := Try.func38
theorem body_impl_PremiseExpr : f_impl_PremiseExpr.body = some (bodyOf f_impl_PremiseExpr) := by kernel_rfl
abbrev n_laws_eqPremise : Nat := 39
noncomputable abbrev f_laws_eqPremise : Func := Try.f39
theorem at_laws_eqPremise : prog.funcs[n_laws_eqPremise]? = some f_laws_eqPremise := Try.func39
theorem body_laws_eqPremise : f_laws_eqPremise.body = some (bodyOf f_laws_eqPremise) := by kernel_rfl
abbrev n_laws_markPremise : Nat := 40
noncomputable abbrev f_laws_markPremise : Func := Try.f40
theorem at_laws_markPremise : prog.funcs[n_laws_markPremise]? = some f_laws_markPremise := Try.func40
theorem body_laws_markPremise : f_laws_markPremise.body = some (bodyOf f_laws_markPremise) := by kernel_rfl
abbrev n_spec_l01Sig : Nat := 41
noncomputable abbrev f_spec_l01Sig : Func := Try.f41
theorem at_spec_l01Sig : prog.funcs[n_spec_l01Sig]? = some f_spec_l01Sig := Try.func41
theorem body_spec_l01Sig : f_spec_l01Sig.body = some (bodyOf f_spec_l01Sig) := by kernel_rfl
abbrev n_spec_l00Rises : Nat := 42
noncomputable abbrev f_spec_l00Rises : Func := Try.f42
theorem at_spec_l00Rises : prog.funcs[n_spec_l00Rises]? = some f_spec_l00Rises := Try.func42
theorem body_spec_l00Rises : f_spec_l00Rises.body = some (bodyOf f_spec_l00Rises) := by kernel_rfl
abbrev n_spec_l01Atoms : Nat := 43
noncomputable abbrev f_spec_l01Atoms : Func := Try.f43
theorem at_spec_l01Atoms : prog.funcs[n_spec_l01Atoms]? = some f_spec_l01Atoms := Try.func43
theorem body_spec_l01Atoms : f_spec_l01Atoms.body = some (bodyOf f_spec_l01Atoms) := by kernel_rfl
abbrev n_spec_l07Of : Nat := 44
noncomputable abbrev f_spec_l07Of : Func := Try.f44
theorem at_spec_l07Of : prog.funcs[n_spec_l07Of]? = some f_spec_l07Of := Try.func44
theorem body_spec_l07Of : f_spec_l07Of.body = some (bodyOf f_spec_l07Of) := by kernel_rfl
abbrev n_impl_ValidSig : Nat := 45
noncomputable abbrev f_impl_ValidSig : Func := Try.f45
theorem at_impl_ValidSig : prog.funcs[n_impl_ValidSig]? = some f_impl_ValidSig := Try.func45
theorem body_impl_ValidSig : f_impl_ValidSig.body = some (bodyOf f_impl_ValidSig) := by kernel_rfl
abbrev n_impl_ascending : Nat := 46
noncomputable abbrev f_impl_ascending : Func := Try.f46
theorem at_impl_ascending : prog.funcs[n_impl_ascending]? = some f_impl_ascending := Try.func46
theorem body_impl_ascending : f_impl_ascending.body = some (bodyOf f_impl_ascending) := by kernel_rfl
abbrev n_impl_inRange : Nat := 47
noncomputable abbrev f_impl_inRange : Func := Try.f47
theorem at_impl_inRange : prog.funcs[n_impl_inRange]? = some f_impl_inRange := Try.func47
theorem body_impl_inRange : f_impl_inRange.body = some (bodyOf f_impl_inRange) := by kernel_rfl
abbrev n_impl_atomsIn : Nat := 48
noncomputable abbrev f_impl_atomsIn : Func := Try.f48
theorem at_impl_atomsIn : prog.funcs[n_impl_atomsIn]? = some f_impl_atomsIn := Try.func48
theorem body_impl_atomsIn : f_impl_atomsIn.body = some (bodyOf f_impl_atomsIn) := by kernel_rfl
abbrev n_impl_ofAtoms : Nat := 49
noncomputable abbrev f_impl_ofAtoms : Func := Try.f49
theorem at_impl_ofAtoms : prog.funcs[n_impl_ofAtoms]? = some f_impl_ofAtoms := Try.func49
theorem body_impl_ofAtoms : f_impl_ofAtoms.body = some (bodyOf f_impl_ofAtoms) := by kernel_rfl
abbrev n_laws_eqExprS : Nat := 50
noncomputable abbrev f_laws_eqExprS : Func := Try.f50
theorem at_laws_eqExprS : prog.funcs[n_laws_eqExprS]? = some f_laws_eqExprS := Try.func50
theorem body_laws_eqExprS : f_laws_eqExprS.body = some (bodyOf f_laws_eqExprS) := by kernel_rfl
abbrev n_laws_markExprS : Nat := 51
noncomputable abbrev f_laws_markExprS : Func := Try.f51
theorem at_laws_markExprS : prog.funcs[n_laws_markExprS]? = some f_laws_markExprS := Try.func51
theorem body_laws_markExprS : f_laws_markExprS.body = some (bodyOf f_laws_markExprS) := by kernel_rfl
abbrev n_laws_heldExprS : Nat := 52
noncomputable abbrev f_laws_heldExprS : Func := Try.f52
theorem at_laws_heldExprS : prog.funcs[n_laws_heldExprS]? = some f_laws_heldExprS := Try.func52
theorem body_laws_heldExprS : f_laws_heldExprS.body = some (bodyOf f_laws_heldExprS) := by kernel_rfl
abbrev n_laws_szTriple : Nat := 53
noncomputable abbrev f_laws_szTriple : Func := Try.f53
theorem at_laws_szTriple : prog.funcs[n_laws_szTriple]? = some f_laws_szTriple := Try.func53
theorem body_laws_szTriple : f_laws_szTriple.body = some (bodyOf f_laws_szTriple) := by kernel_rfl
abbrev n_laws_szDerivationS : Nat := 54
noncomputable abbrev f_laws_szDerivationS : Func := Try.f54
theorem at_laws_szDerivationS : prog.funcs[n_laws_szDerivationS]? = some f_laws_szDerivationS := Try.func54
theorem body_laws_szDerivationS : f_laws_szDerivationS.body = some (bodyOf f_laws_szDerivationS) := by kernel_rfl
abbrev n_spec_l07Size : Nat := 55
noncomputable abbrev f_spec_l07Size : Func := Try.f55
theorem at_spec_l07Size : prog.funcs[n_spec_l07Size]? = some f_spec_l07Size := Try.func55
theorem body_spec_l07Size : f_spec_l07Size.body = some (bodyOf f_spec_l07Size) := by kernel_rfl
abbrev n_laws_toTriple : Nat := 56
noncomputable abbrev f_laws_toTriple : Func := Try.f56
theorem at_laws_toTriple : prog.funcs[n_laws_toTriple]? = some f_laws_toTriple := Try.func56
theorem body_laws_toTriple : f_laws_toTriple.body = some (bodyOf f_laws_toTriple) := by kernel_rfl
abbrev n_laws_toDerivationS : Nat := 57
noncomputable abbrev f_laws_toDerivationS : Func := Try.f57
theorem at_laws_toDerivationS : prog.funcs[n_laws_toDerivationS]? = some f_laws_toDerivationS := Try.func57
theorem body_laws_toDerivationS : f_laws_toDerivationS.body = some (bodyOf f_laws_toDerivationS) := by kernel_rfl
abbrev n_laws_eqTriple : Nat := 58
noncomputable abbrev f_laws_eqTriple : Func := Try.f58
theorem at_laws_eqTriple : prog.funcs[n_laws_eqTriple]? = some f_laws_eqTriple := Try.func58
theorem body_laws_eqTriple : f_laws_eqTriple.body = some (bodyOf f_laws_eqTriple) := by kernel_rfl
abbrev n_laws_eqDerivationS : Nat := 59
noncomputable abbrev f_laws_eqDerivationS : Func := Try.f59
theorem at_laws_eqDerivationS : prog.funcs[n_laws_eqDerivationS]? = some f_laws_eqDerivationS := Try.func59
theorem body_laws_eqDerivationS : f_laws_eqDerivationS.body = some (bodyOf f_laws_eqDerivationS) := by kernel_rfl
abbrev n_laws_szExprS : Nat := 60
noncomputable abbrev f_laws_szExprS : Func := Try.f60
theorem at_laws_szExprS : prog.funcs[n_laws_szExprS]? = some f_laws_szExprS := Try.func60
theorem body_laws_szExprS : f_laws_szExprS.body = some (bodyOf f_laws_szExprS) := by kernel_rfl
abbrev n_spec_l01Ok : Nat := 61
noncomputable abbrev f_spec_l01Ok : Func := Try.f61
theorem at_spec_l01Ok : prog.funcs[n_spec_l01Ok]? = some f_spec_l01Ok := Try.func61
theorem body_spec_l01Ok : f_spec_l01Ok.body = some (bodyOf f_spec_l01Ok) := by kernel_rfl
abbrev n_spec_l01Condition : Nat := 62
noncomputable abbrev f_spec_l01Condition : Func := Try.f62
theorem at_spec_l01Condition : prog.funcs[n_spec_l01Condition]? = some f_spec_l01Condition := Try.func62
theorem body_spec_l01Condition : f_spec_l01Condition.body = some (bodyOf f_spec_l01Condition) := by kernel_rfl
abbrev n_spec_l07Implies : Nat := 63
noncomputable abbrev f_spec_l07Implies : Func := Try.f63
theorem at_spec_l07Implies : prog.funcs[n_spec_l07Implies]? = some f_spec_l07Implies := Try.func63
theorem body_spec_l07Implies : f_spec_l07Implies.body = some (bodyOf f_spec_l07Implies) := by kernel_rfl
abbrev n_laws_toExprS : Nat := 64
noncomputable abbrev f_laws_toExprS : Func := Try.f64
theorem at_laws_toExprS : prog.funcs[n_laws_toExprS]? = some f_laws_toExprS := Try.func64
theorem body_laws_toExprS : f_laws_toExprS.body = some (bodyOf f_laws_toExprS) := by kernel_rfl
abbrev n_impl_validExprs : Nat := 65
noncomputable abbrev f_impl_validExprs : Func := Try.f65
theorem at_impl_validExprs : prog.funcs[n_impl_validExprs]? = some f_impl_validExprs := Try.func65
theorem body_impl_validExprs : f_impl_validExprs.body = some (bodyOf f_impl_validExprs) := by kernel_rfl
abbrev n_impl_IsCondition : Nat := 66
noncomputable abbrev f_impl_IsCondition : Func := Try.f66
theorem at_impl_IsCondition : prog.funcs[n_impl_IsCondition]? = some f_impl_IsCondition := Try.func66
theorem body_impl_IsCondition : f_impl_IsCondition.body = some (bodyOf f_impl_IsCondition) := by kernel_rfl
abbrev n_impl_truth : Nat := 67
noncomputable abbrev f_impl_truth : Func := Try.f67
theorem at_impl_truth : prog.funcs[n_impl_truth]? = some f_impl_truth := Try.func67
theorem body_impl_truth : f_impl_truth.body = some (bodyOf f_impl_truth) := by kernel_rfl
abbrev n_spec_l07Premises : Nat := 68
noncomputable abbrev f_spec_l07Premises : Func := Try.f68
theorem at_spec_l07Premises : prog.funcs[n_spec_l07Premises]? = some f_spec_l07Premises := Try.func68
theorem body_spec_l07Premises : f_spec_l07Premises.body = some (bodyOf f_spec_l07Premises) := by kernel_rfl
abbrev n_impl_isPremise : Nat := 69
noncomputable abbrev f_impl_isPremise : Func := Try.f69
theorem at_impl_isPremise : prog.funcs[n_impl_isPremise]? = some f_impl_isPremise := Try.func69
theorem body_impl_isPremise : f_impl_isPremise.body = some (bodyOf f_impl_isPremise) := by kernel_rfl
abbrev n_spec_l07Atoms : Nat := 70
noncomputable abbrev f_spec_l07Atoms : Func := Try.f70
theorem at_spec_l07Atoms : prog.funcs[n_spec_l07Atoms]? = some f_spec_l07Atoms := Try.func70
theorem body_spec_l07Atoms : f_spec_l07Atoms.body = some (bodyOf f_spec_l07Atoms) := by kernel_rfl
abbrev n_impl_ValidExpr : Nat := 71
noncomputable abbrev f_impl_ValidExpr : Func := Try.f71
theorem at_impl_ValidExpr : prog.funcs[n_impl_ValidExpr]? = some f_impl_ValidExpr := Try.func71
theorem body_impl_ValidExpr : f_impl_ValidExpr.body = some (bodyOf f_impl_ValidExpr) := by kernel_rfl
abbrev n_impl_atomsOf : Nat := 72
noncomputable abbrev f_impl_atomsOf : Func := Try.f72
theorem at_impl_atomsOf : prog.funcs[n_impl_atomsOf]? = some f_impl_atomsOf := Try.func72
theorem body_impl_atomsOf : f_impl_atomsOf.body = some (bodyOf f_impl_atomsOf) := by kernel_rfl
abbrev n_spec_l07Premise : Nat := 73
noncomputable abbrev f_spec_l07Premise : Func := Try.f73
theorem at_spec_l07Premise : prog.funcs[n_spec_l07Premise]? = some f_spec_l07Premise := Try.func73
theorem body_spec_l07Premise : f_spec_l07Premise.body = some (bodyOf f_spec_l07Premise) := by kernel_rfl
abbrev n_spec_l02Pair : Nat := 74
noncomputable abbrev f_spec_l02Pair : Func := Try.f74
theorem at_spec_l02Pair : prog.funcs[n_spec_l02Pair]? = some f_spec_l02Pair := Try.func74
theorem body_spec_l02Pair : f_spec_l02Pair.body = some (bodyOf f_spec_l02Pair) := by kernel_rfl
abbrev n_spec_l01Own : Nat := 75
noncomputable abbrev f_spec_l01Own : Func := Try.f75
theorem at_spec_l01Own : prog.funcs[n_spec_l01Own]? = some f_spec_l01Own := Try.func75
theorem body_spec_l01Own : f_spec_l01Own.body = some (bodyOf f_spec_l01Own) := by kernel_rfl
abbrev n_spec_l06Not : Nat := 76
noncomputable abbrev f_spec_l06Not : Func := Try.f76
theorem at_spec_l06Not : prog.funcs[n_spec_l06Not]? = some f_spec_l06Not := Try.func76
theorem body_spec_l06Not : f_spec_l06Not.body = some (bodyOf f_spec_l06Not) := by kernel_rfl
abbrev n_impl_tree : Nat := 77
noncomputable abbrev f_impl_tree : Func := Try.f77
theorem at_impl_tree : prog.funcs[n_impl_tree]? = some f_impl_tree := Try.func77
theorem body_impl_tree : f_impl_tree.body = some (bodyOf f_impl_tree) := by kernel_rfl
abbrev n_impl_copyExpr : Nat := 78
noncomputable abbrev f_impl_copyExpr : Func := Try.f78
theorem at_impl_copyExpr : prog.funcs[n_impl_copyExpr]? = some f_impl_copyExpr := Try.func78
theorem body_impl_copyExpr : f_impl_copyExpr.body = some (bodyOf f_impl_copyExpr) := by kernel_rfl
abbrev n_impl_leaf : Nat := 79
noncomputable abbrev f_impl_leaf : Func := Try.f79
theorem at_impl_leaf : prog.funcs[n_impl_leaf]? = some f_impl_leaf := Try.func79
theorem body_impl_leaf : f_impl_leaf.body = some (bodyOf f_impl_leaf) := by kernel_rfl
abbrev n_impl_isExpr : Nat := 80
noncomputable abbrev f_impl_isExpr : Func := Try.f80
theorem at_impl_isExpr : prog.funcs[n_impl_isExpr]? = some f_impl_isExpr := Try.func80
theorem body_impl_isExpr : f_impl_isExpr.body = some (bodyOf f_impl_isExpr) := by kernel_rfl
abbrev n_spec_l00In : Nat := 81
noncomputable abbrev f_spec_l00In : Func := Try.f81
theorem at_spec_l00In : prog.funcs[n_spec_l00In]? = some f_spec_l00In := Try.func81
theorem body_spec_l00In : f_spec_l00In.body = some (bodyOf f_spec_l00In) := by kernel_rfl
abbrev n_spec_l02Zero : Nat := 82
noncomputable abbrev f_spec_l02Zero : Func := Try.f82
theorem at_spec_l02Zero : prog.funcs[n_spec_l02Zero]? = some f_spec_l02Zero := Try.func82
theorem body_spec_l02Zero : f_spec_l02Zero.body = some (bodyOf f_spec_l02Zero) := by kernel_rfl
abbrev n_spec_l02AtomExpr : Nat := 83
noncomputable abbrev f_spec_l02AtomExpr : Func := Try.f83
theorem at_spec_l02AtomExpr : prog.funcs[n_spec_l02AtomExpr]? = some f_spec_l02AtomExpr := Try.func83
theorem body_spec_l02AtomExpr : f_spec_l02AtomExpr.body = some (bodyOf f_spec_l02AtomExpr) := by kernel_rfl
abbrev n_impl_within : Nat := 84
noncomputable abbrev f_impl_within : Func := Try.f84
theorem at_impl_within : prog.funcs[n_impl_within]? = some f_impl_within := Try.func84
theorem body_impl_within : f_impl_within.body = some (bodyOf f_impl_within) := by kernel_rfl
abbrev n_impl_conditionOf : Nat := 85
noncomputable abbrev f_impl_conditionOf : Func := Try.f85
theorem at_impl_conditionOf : prog.funcs[n_impl_conditionOf]? = some f_impl_conditionOf := Try.func85
theorem body_impl_conditionOf : f_impl_conditionOf.body = some (bodyOf f_impl_conditionOf) := by kernel_rfl
abbrev n_impl_sumOf : Nat := 86
noncomputable abbrev f_impl_sumOf : Func := Try.f86
theorem at_impl_sumOf : prog.funcs[n_impl_sumOf]? = some f_impl_sumOf := Try.func86
theorem body_impl_sumOf : f_impl_sumOf.body = some (bodyOf f_impl_sumOf) := by kernel_rfl
abbrev n_laws_szProg : Nat := 87
noncomputable abbrev f_laws_szProg : Func := Try.f87
theorem at_laws_szProg : prog.funcs[n_laws_szProg]? = some f_laws_szProg := Try.func87
theorem body_laws_szProg : f_laws_szProg.body = some (bodyOf f_laws_szProg) := by kernel_rfl
abbrev n_laws_toProg : Nat := 88
noncomputable abbrev f_laws_toProg : Func := Try.f88
theorem at_laws_toProg : prog.funcs[n_laws_toProg]? = some f_laws_toProg := Try.func88
theorem body_laws_toProg : f_laws_toProg.body = some (bodyOf f_laws_toProg) := by kernel_rfl
abbrev n_laws_eqProg : Nat := 89
noncomputable abbrev f_laws_eqProg : Func := Try.f89
theorem at_laws_eqProg : prog.funcs[n_laws_eqProg]? = some f_laws_eqProg := Try.func89
theorem body_laws_eqProg : f_laws_eqProg.body = some (bodyOf f_laws_eqProg) := by kernel_rfl
abbrev n_spec_l01Left : Nat := 90
noncomputable abbrev f_spec_l01Left : Func := Try.f90
theorem at_spec_l01Left : prog.funcs[n_spec_l01Left]? = some f_spec_l01Left := Try.func90
theorem body_spec_l01Left : f_spec_l01Left.body = some (bodyOf f_spec_l01Left) := by kernel_rfl
abbrev n_spec_l01Depth : Nat := 91
noncomputable abbrev f_spec_l01Depth : Func := Try.f91
theorem at_spec_l01Depth : prog.funcs[n_spec_l01Depth]? = some f_spec_l01Depth := Try.func91
theorem body_spec_l01Depth : f_spec_l01Depth.body = some (bodyOf f_spec_l01Depth) := by kernel_rfl
abbrev n_spec_l01Tree : Nat := 92
noncomputable abbrev f_spec_l01Tree : Func := Try.f92
theorem at_spec_l01Tree : prog.funcs[n_spec_l01Tree]? = some f_spec_l01Tree := Try.func92
theorem body_spec_l01Tree : f_spec_l01Tree.body = some (bodyOf f_spec_l01Tree) := by kernel_rfl
abbrev n_spec_l01True : Nat := 93
noncomputable abbrev f_spec_l01True : Func := Try.f93
theorem at_spec_l01True : prog.funcs[n_spec_l01True]? = some f_spec_l01True := Try.func93
theorem body_spec_l01True : f_spec_l01True.body = some (bodyOf f_spec_l01True) := by kernel_rfl
abbrev n_impl_isCondition : Nat := 94
noncomputable abbrev f_impl_isCondition : Func := Try.f94
theorem at_impl_isCondition : prog.funcs[n_impl_isCondition]? = some f_impl_isCondition := Try.func94
theorem body_impl_isCondition : f_impl_isCondition.body = some (bodyOf f_impl_isCondition) := by kernel_rfl
abbrev n_spec_l06Cond : Nat := 95
noncomputable abbrev f_spec_l06Cond : Func := Try.f95
theorem at_spec_l06Cond : prog.funcs[n_spec_l06Cond]? = some f_spec_l06Cond := Try.func95
theorem body_spec_l06Cond : f_spec_l06Cond.body = some (bodyOf f_spec_l06Cond) := by kernel_rfl
abbrev n_spec_l02Act : Nat := 96
noncomputable abbrev f_spec_l02Act : Func := Try.f96
theorem at_spec_l02Act : prog.funcs[n_spec_l02Act]? = some f_spec_l02Act := Try.func96
theorem body_spec_l02Act : f_spec_l02Act.body = some (bodyOf f_spec_l02Act) := by kernel_rfl
abbrev n_impl_shaped : Nat := 97
noncomputable abbrev f_impl_shaped : Func := Try.f97
theorem at_impl_shaped : prog.funcs[n_impl_shaped]? = some f_impl_shaped := Try.func97
theorem body_impl_shaped : f_impl_shaped.body = some (bodyOf f_impl_shaped) := by kernel_rfl
abbrev n_spec_l02One : Nat := 98
noncomputable abbrev f_spec_l02One : Func := Try.f98
theorem at_spec_l02One : prog.funcs[n_spec_l02One]? = some f_spec_l02One := Try.func98
theorem body_spec_l02One : f_spec_l02One.body = some (bodyOf f_spec_l02One) := by kernel_rfl
abbrev n_laws_szProgS : Nat := 99
noncomputable abbrev f_laws_szProgS : Func := Try.f99
theorem at_laws_szProgS : prog.funcs[n_laws_szProgS]? = some f_laws_szProgS := Try.func99
theorem body_laws_szProgS : f_laws_szProgS.body = some (bodyOf f_laws_szProgS) := by kernel_rfl
abbrev n_laws_toProgS : Nat := 100
noncomputable abbrev f_laws_toProgS : Func := Try.f100
theorem at_laws_toProgS : prog.funcs[n_laws_toProgS]? = some f_laws_toProgS := Try.func100
theorem body_laws_toProgS : f_laws_toProgS.body = some (bodyOf f_laws_toProgS) := by kernel_rfl
abbrev n_laws_eqProgS : Nat := 101
noncomputable abbrev f_laws_eqProgS : Func := Try.f101
theorem at_laws_eqProgS : prog.funcs[n_laws_eqProgS]? = some f_laws_eqProgS := Try.func101
theorem body_laws_eqProgS : f_laws_eqProgS.body = some (bodyOf f_laws_eqProgS) := by kernel_rfl
abbrev n_spec_l00Max : Nat := 102
noncomputable abbrev f_spec_l00Max : Func := Try.f102
theorem at_spec_l00Max : prog.funcs[n_spec_l00Max]? = some f_spec_l00Max := Try.func102
theorem body_spec_l00Max : f_spec_l00Max.body = some (bodyOf f_spec_l00Max) := by kernel_rfl
abbrev n_spec_l01Kids : Nat := 103
noncomputable abbrev f_spec_l01Kids : Func := Try.f103
theorem at_spec_l01Kids : prog.funcs[n_spec_l01Kids]? = some f_spec_l01Kids := Try.func103
theorem body_spec_l01Kids : f_spec_l01Kids.body = some (bodyOf f_spec_l01Kids) := by kernel_rfl
abbrev n_impl_kidsOf : Nat := 104
noncomputable abbrev f_impl_kidsOf : Func := Try.f104
theorem at_impl_kidsOf : prog.funcs[n_impl_kidsOf]? = some f_impl_kidsOf := Try.func104
theorem body_impl_kidsOf : f_impl_kidsOf.body = some (bodyOf f_impl_kidsOf) := by kernel_rfl

end Go.Proofs.Ytiikoicminohpaa

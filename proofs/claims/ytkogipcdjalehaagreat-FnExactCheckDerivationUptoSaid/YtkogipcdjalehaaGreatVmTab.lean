/- The types and the functions of the seat, by name. Printed by gen_tab.py. -/
import Derived.Test.YtkogipcdjalehaaGreatVmStFun
import Derived.Test.YtkogipcdjalehaaGreatChecked
set_option linter.unusedVariables false
namespace Go.Proofs.YtkogipcdjalehaaGreat
def tyTab : List (Nat × Ty × Nat × Nat) :=
 [(2, (.int .i64), 0, 0),
  (3, (.int .i64), 0, 0),
  (4, .bool, 0, 0),
  (5, (.int .u8), 0, 0),
  (9, .str, 0, 0),
  (12, (.int .u64), 0, 0),
  (23, (.st .sig), 0, 0),
  (24, (.slice (.st .premise)), 88, 61),
  (25, (.slice (.st .expr)), 40, 27),
  (27, (.st .expr), 0, 0),
  (28, (.slice (.st .prog)), 80, 30),
  (30, (.st .prog), 0, 0),
  (32, (.st .triple), 0, 0),
  (33, (.slice (.st .derivation)), 192, 35),
  (35, (.st .derivation), 0, 0),
  (40, (.st .sig), 0, 0),
  (42, (.slice (.st .premise)), 88, 70),
  (44, (.slice (.st .expr)), 40, 46),
  (46, (.st .expr), 0, 0),
  (47, (.slice (.st .prog)), 80, 49),
  (49, (.st .prog), 0, 0),
  (51, (.st .triple), 0, 0),
  (52, (.slice (.st .derivation)), 192, 54),
  (54, (.st .derivation), 0, 0),
  (61, (.st .premise), 0, 0),
  (70, (.st .premise), 0, 0),
  (141, (.int .u64), 0, 0)]
def ptyTab : List (Nat × Ty) :=
 [(66, (.st .derivation)), (68, (.int .i64)), (83, (.st .premise)), (95, (.st .expr)), (98, (.st .triple)), (101, (.st .prog)), (162, (.int .u8))]
def mtyTab : List (Nat × Ty × Ty) := [(112, (.int .i64), (.int .i64)), (114, (.int .i64), (.int .i64))]
abbrev T_bool : Nat := 4
abbrev T_laws_Sig : Nat := 23
abbrev T_s_laws_Premise : Nat := 24
abbrev T_laws_Derivation : Nat := 35
abbrev T_impl_Expr : Nat := 46
abbrev T_impl_Prog : Nat := 49
abbrev T_impl_Derivation : Nat := 54
abbrev T_impl_Premise : Nat := 70
noncomputable abbrev prog : Program := Tryz.prog
theorem tyTab_ok (c : Nat → List Arg → Option (Vc × List TV)) (wr own : List Nat) (oc : Nat → List Arg → Option (Vc × List TV)) (mk : Nat → Option MCtr) (cl : Nat → Option CloK) (ro : List Nat) (tk : Nat → List Bool) (sk : Nat → Option SK) (sc : Nat → List Arg → List (List TV) → Option (Vc × List TV × List (List TV))) : ((tyTab.all fun r => tyRowB prog (Env.mk tyTab ptyTab c wr own oc mk cl ro tk sk sc mtyTab) r.1 r.2.1 r.2.2.1 r.2.2.2) && mtyTab.all fun r => mapRowB prog (Env.mk tyTab ptyTab c wr own oc mk cl ro tk sk sc mtyTab) r.1 r.2.1 r.2.2) = true := by kernel_rfl
theorem prog_mixed : prog.follows .mixedOrders = true := Checked.mixed Tryz.checked
def bodyOf (f : Func) : Code := match f.body with
 | some c => c
 | none => .skip
abbrev n_laws_FnExactCheckDerivation : Nat := 3
noncomputable abbrev f_laws_FnExactCheckDerivation : Func := Tryz.f3
theorem at_laws_FnExactCheckDerivation : prog.funcs[n_laws_FnExactCheckDerivation]? = some f_laws_FnExactCheckDerivation := Tryz.func3
theorem body_laws_FnExactCheckDerivation : f_laws_FnExactCheckDerivation.body = some (bodyOf f_laws_FnExactCheckDerivation) := by kernel_rfl
abbrev n_laws_szPremiseS : Nat := 4
noncomputable abbrev f_laws_szPremiseS : Func := Tryz.f4
theorem at_laws_szPremiseS : prog.funcs[n_laws_szPremiseS]? = some f_laws_szPremiseS := Tryz.func4
theorem body_laws_szPremiseS : f_laws_szPremiseS.body = some (bodyOf f_laws_szPremiseS) := by kernel_rfl
abbrev n_laws_szDerivation : Nat := 5
noncomputable abbrev f_laws_szDerivation : Func := Tryz.f5
theorem at_laws_szDerivation : prog.funcs[n_laws_szDerivation]? = some f_laws_szDerivation := Tryz.func5
theorem body_laws_szDerivation : f_laws_szDerivation.body = some (bodyOf f_laws_szDerivation) := by kernel_rfl
abbrev n_spec_CheckDerivation : Nat := 6
noncomputable abbrev f_spec_CheckDerivation : Func := Tryz.f6
theorem at_spec_CheckDerivation : prog.funcs[n_spec_CheckDerivation]? = some f_spec_CheckDerivation := Tryz.func6
theorem body_spec_CheckDerivation : f_spec_CheckDerivation.body = some (bodyOf f_spec_CheckDerivation) := by kernel_rfl
abbrev n_laws_toSig : Nat := 7
noncomputable abbrev f_laws_toSig : Func := Tryz.f7
theorem at_laws_toSig : prog.funcs[n_laws_toSig]? = some f_laws_toSig := Tryz.func7
theorem body_laws_toSig : f_laws_toSig.body = some (bodyOf f_laws_toSig) := by kernel_rfl
abbrev n_laws_toPremiseS : Nat := 8
noncomputable abbrev f_laws_toPremiseS : Func := Tryz.f8
theorem at_laws_toPremiseS : prog.funcs[n_laws_toPremiseS]? = some f_laws_toPremiseS := Tryz.func8
theorem body_laws_toPremiseS : f_laws_toPremiseS.body = some (bodyOf f_laws_toPremiseS) := by kernel_rfl
abbrev n_laws_toDerivation : Nat := 9
noncomputable abbrev f_laws_toDerivation : Func := Tryz.f9
theorem at_laws_toDerivation : prog.funcs[n_laws_toDerivation]? = some f_laws_toDerivation := Tryz.func9
theorem body_laws_toDerivation : f_laws_toDerivation.body = some (bodyOf f_laws_toDerivation) := by kernel_rfl
abbrev n_impl_CheckDerivation : Nat := 10
noncomputable abbrev f_impl_CheckDerivation : Func := Tryz.f10
theorem at_impl_CheckDerivation : prog.funcs[n_impl_CheckDerivation]? = some f_impl_CheckDerivation := Tryz.func10
theorem body_impl_CheckDerivation : f_impl_CheckDerivation.body = some (bodyOf f_impl_CheckDerivation) := by kernel_rfl
abbrev n_laws_eqPremiseS : Nat := 11
noncomputable abbrev f_laws_eqPremiseS : Func := Tryz.f11
theorem at_laws_eqPremiseS : prog.funcs[n_laws_eqPremiseS]? = some f_laws_eqPremiseS := Tryz.func11
theorem body_laws_eqPremiseS : f_laws_eqPremiseS.body = some (bodyOf f_laws_eqPremiseS) := by kernel_rfl
abbrev n_laws_eqDerivation : Nat := 12
noncomputable abbrev f_laws_eqDerivation : Func := Tryz.f12
theorem at_laws_eqDerivation : prog.funcs[n_laws_eqDerivation]? = some f_laws_eqDerivation := Tryz.func12
theorem body_laws_eqDerivation : f_laws_eqDerivation.body = some (bodyOf f_laws_eqDerivation) := by kernel_rfl
abbrev n_laws_szPremise : Nat := 13
noncomputable abbrev f_laws_szPremise : Func := Tryz.f13
theorem at_laws_szPremise : prog.funcs[n_laws_szPremise]? = some f_laws_szPremise := Tryz.func13
theorem body_laws_szPremise : f_laws_szPremise.body = some (bodyOf f_laws_szPremise) := by kernel_rfl
abbrev n_laws_szTriple : Nat := 14
noncomputable abbrev f_laws_szTriple : Func := Tryz.f14
theorem at_laws_szTriple : prog.funcs[n_laws_szTriple]? = some f_laws_szTriple := Tryz.func14
theorem body_laws_szTriple : f_laws_szTriple.body = some (bodyOf f_laws_szTriple) := by kernel_rfl
abbrev n_laws_szDerivationS : Nat := 15
noncomputable abbrev f_laws_szDerivationS : Func := Tryz.f15
theorem at_laws_szDerivationS : prog.funcs[n_laws_szDerivationS]? = some f_laws_szDerivationS := Tryz.func15
theorem body_laws_szDerivationS : f_laws_szDerivationS.body = some (bodyOf f_laws_szDerivationS) := by kernel_rfl
abbrev n_spec_l07Premises : Nat := 16
noncomputable abbrev f_spec_l07Premises : Func := Tryz.f16
theorem at_spec_l07Premises : prog.funcs[n_spec_l07Premises]? = some f_spec_l07Premises := Tryz.func16
theorem body_spec_l07Premises : f_spec_l07Premises.body = some (bodyOf f_spec_l07Premises) := by kernel_rfl
abbrev n_spec_l07Left : Nat := 17
noncomputable abbrev f_spec_l07Left : Func := Tryz.f17
theorem at_spec_l07Left : prog.funcs[n_spec_l07Left]? = some f_spec_l07Left := Tryz.func17
theorem body_spec_l07Left : f_spec_l07Left.body = some (bodyOf f_spec_l07Left) := by kernel_rfl
abbrev n_spec_l07Check : Nat := 18
noncomputable abbrev f_spec_l07Check : Func := Tryz.f18
theorem at_spec_l07Check : prog.funcs[n_spec_l07Check]? = some f_spec_l07Check := Tryz.func18
theorem body_spec_l07Check : f_spec_l07Check.body = some (bodyOf f_spec_l07Check) := by kernel_rfl
abbrev n_laws_toPremise : Nat := 19
noncomputable abbrev f_laws_toPremise : Func := Tryz.f19
theorem at_laws_toPremise : prog.funcs[n_laws_toPremise]? = some f_laws_toPremise := Tryz.func19
theorem body_laws_toPremise : f_laws_toPremise.body = some (bodyOf f_laws_toPremise) := by kernel_rfl
abbrev n_laws_toTriple : Nat := 20
noncomputable abbrev f_laws_toTriple : Func := Tryz.f20
theorem at_laws_toTriple : prog.funcs[n_laws_toTriple]? = some f_laws_toTriple := Tryz.func20
theorem body_laws_toTriple : f_laws_toTriple.body = some (bodyOf f_laws_toTriple) := by kernel_rfl
abbrev n_laws_toDerivationS : Nat := 21
noncomputable abbrev f_laws_toDerivationS : Func := Tryz.f21
theorem at_laws_toDerivationS : prog.funcs[n_laws_toDerivationS]? = some f_laws_toDerivationS := Tryz.func21
theorem body_laws_toDerivationS : f_laws_toDerivationS.body = some (bodyOf f_laws_toDerivationS) := by kernel_rfl
abbrev n_impl_ValidPremises : Nat := 22
noncomputable abbrev f_impl_ValidPremises : Func := Tryz.f22
theorem at_impl_ValidPremises : prog.funcs[n_impl_ValidPremises]? = some f_impl_ValidPremises := Tryz.func22
theorem body_impl_ValidPremises : f_impl_ValidPremises.body = some (bodyOf f_impl_ValidPremises) := by kernel_rfl
abbrev n_impl_DerivationSize : Nat := 23
noncomputable abbrev f_impl_DerivationSize : Func := Tryz.f23
theorem at_impl_DerivationSize : prog.funcs[n_impl_DerivationSize]? = some f_impl_DerivationSize := Tryz.func23
theorem body_impl_DerivationSize : f_impl_DerivationSize.body = some (bodyOf f_impl_DerivationSize) := by kernel_rfl
abbrev n_impl_firstWrong : Nat := 24
noncomputable abbrev f_impl_firstWrong : Func := Tryz.f24
theorem at_impl_firstWrong : prog.funcs[n_impl_firstWrong]? = some f_impl_firstWrong := Tryz.func24
theorem body_impl_firstWrong : f_impl_firstWrong.body = some (bodyOf f_impl_firstWrong) := by kernel_rfl
abbrev n_laws_eqPremise : Nat := 25
noncomputable abbrev f_laws_eqPremise : Func := Tryz.f25
theorem at_laws_eqPremise : prog.funcs[n_laws_eqPremise]? = some f_laws_eqPremise := Tryz.func25
theorem body_laws_eqPremise : f_laws_eqPremise.body = some (bodyOf f_laws_eqPremise) := by kernel_rfl
abbrev n_laws_eqTriple : Nat := 26
noncomputable abbrev f_laws_eqTriple : Func := Tryz.f26
theorem at_laws_eqTriple : prog.funcs[n_laws_eqTriple]? = some f_laws_eqTriple := Tryz.func26
theorem body_laws_eqTriple : f_laws_eqTriple.body = some (bodyOf f_laws_eqTriple) := by kernel_rfl
abbrev n_laws_eqDerivationS : Nat := 27
noncomputable abbrev f_laws_eqDerivationS : Func := Tryz.f27
theorem at_laws_eqDerivationS : prog.funcs[n_laws_eqDerivationS]? = some f_laws_eqDerivationS := Tryz.func27
theorem body_laws_eqDerivationS : f_laws_eqDerivationS.body = some (bodyOf f_laws_eqDerivationS) := by kernel_rfl
abbrev n_laws_szExpr : Nat := 28
noncomputable abbrev f_laws_szExpr : Func := Tryz.f28
theorem at_laws_szExpr : prog.funcs[n_laws_szExpr]? = some f_laws_szExpr := Tryz.func28
theorem body_laws_szExpr : f_laws_szExpr.body = some (bodyOf f_laws_szExpr) := by kernel_rfl
abbrev n_laws_szProg : Nat := 29
noncomputable abbrev f_laws_szProg : Func := Tryz.f29
theorem at_laws_szProg : prog.funcs[n_laws_szProg]? = some f_laws_szProg := Tryz.func29
theorem body_laws_szProg : f_laws_szProg.body = some (bodyOf f_laws_szProg) := by kernel_rfl
abbrev n_spec_l07Premise : Nat := 30
noncomputable abbrev f_spec_l07Premise : Func := Tryz.f30
theorem at_spec_l07Premise : prog.funcs[n_spec_l07Premise]? = some f_spec_l07Premise := Tryz.func30
theorem body_spec_l07Premise : f_spec_l07Premise.body = some (bodyOf f_spec_l07Premise) := by kernel_rfl
abbrev n_spec_l01Sig : Nat := 31
noncomputable abbrev f_spec_l01Sig : Func := Tryz.f31
theorem at_spec_l01Sig : prog.funcs[n_spec_l01Sig]? = some f_spec_l01Sig := Tryz.func31
theorem body_spec_l01Sig : f_spec_l01Sig.body = some (bodyOf f_spec_l01Sig) := by kernel_rfl
abbrev n_spec_l07Right : Nat := 32
noncomputable abbrev f_spec_l07Right : Func := Tryz.f32
theorem at_spec_l07Right : prog.funcs[n_spec_l07Right]? = some f_spec_l07Right := Tryz.func32
theorem body_spec_l07Right : f_spec_l07Right.body = some (bodyOf f_spec_l07Right) := by kernel_rfl
abbrev n_laws_toExpr : Nat := 33
noncomputable abbrev f_laws_toExpr : Func := Tryz.f33
theorem at_laws_toExpr : prog.funcs[n_laws_toExpr]? = some f_laws_toExpr := Tryz.func33
theorem body_laws_toExpr : f_laws_toExpr.body = some (bodyOf f_laws_toExpr) := by kernel_rfl
abbrev n_laws_toProg : Nat := 34
noncomputable abbrev f_laws_toProg : Func := Tryz.f34
theorem at_laws_toProg : prog.funcs[n_laws_toProg]? = some f_laws_toProg := Tryz.func34
theorem body_laws_toProg : f_laws_toProg.body = some (bodyOf f_laws_toProg) := by kernel_rfl
abbrev n_impl_ValidSig : Nat := 35
noncomputable abbrev f_impl_ValidSig : Func := Tryz.f35
theorem at_impl_ValidSig : prog.funcs[n_impl_ValidSig]? = some f_impl_ValidSig := Tryz.func35
theorem body_impl_ValidSig : f_impl_ValidSig.body = some (bodyOf f_impl_ValidSig) := by kernel_rfl
abbrev n_impl_isPremise : Nat := 36
noncomputable abbrev f_impl_isPremise : Func := Tryz.f36
theorem at_impl_isPremise : prog.funcs[n_impl_isPremise]? = some f_impl_isPremise := Tryz.func36
theorem body_impl_isPremise : f_impl_isPremise.body = some (bodyOf f_impl_isPremise) := by kernel_rfl
abbrev n_impl_isRight : Nat := 37
noncomputable abbrev f_impl_isRight : Func := Tryz.f37
theorem at_impl_isRight : prog.funcs[n_impl_isRight]? = some f_impl_isRight := Tryz.func37
theorem body_impl_isRight : f_impl_isRight.body = some (bodyOf f_impl_isRight) := by kernel_rfl
abbrev n_laws_eqExpr : Nat := 38
noncomputable abbrev f_laws_eqExpr : Func := Tryz.f38
theorem at_laws_eqExpr : prog.funcs[n_laws_eqExpr]? = some f_laws_eqExpr := Tryz.func38
theorem body_laws_eqExpr : f_laws_eqExpr.body = some (bodyOf f_laws_eqExpr) := by kernel_rfl
abbrev n_laws_eqProg : Nat := 39
noncomputable abbrev f_laws_eqProg : Func := Tryz.f39
theorem at_laws_eqProg : prog.funcs[n_laws_eqProg]? = some f_laws_eqProg := Tryz.func39
theorem body_laws_eqProg : f_laws_eqProg.body = some (bodyOf f_laws_eqProg) := by kernel_rfl
abbrev n_laws_szExprS : Nat := 40
noncomputable abbrev f_laws_szExprS : Func := Tryz.f40
theorem at_laws_szExprS : prog.funcs[n_laws_szExprS]? = some f_laws_szExprS := Tryz.func40
theorem body_laws_szExprS : f_laws_szExprS.body = some (bodyOf f_laws_szExprS) := by kernel_rfl
abbrev n_laws_szProgS : Nat := 41
noncomputable abbrev f_laws_szProgS : Func := Tryz.f41
theorem at_laws_szProgS : prog.funcs[n_laws_szProgS]? = some f_laws_szProgS := Tryz.func41
theorem body_laws_szProgS : f_laws_szProgS.body = some (bodyOf f_laws_szProgS) := by kernel_rfl
abbrev n_spec_l06Cond : Nat := 42
noncomputable abbrev f_spec_l06Cond : Func := Tryz.f42
theorem at_spec_l06Cond : prog.funcs[n_spec_l06Cond]? = some f_spec_l06Cond := Tryz.func42
theorem body_spec_l06Cond : f_spec_l06Cond.body = some (bodyOf f_spec_l06Cond) := by kernel_rfl
abbrev n_spec_l02Act : Nat := 43
noncomputable abbrev f_spec_l02Act : Func := Tryz.f43
theorem at_spec_l02Act : prog.funcs[n_spec_l02Act]? = some f_spec_l02Act := Tryz.func43
theorem body_spec_l02Act : f_spec_l02Act.body = some (bodyOf f_spec_l02Act) := by kernel_rfl
abbrev n_spec_l00In : Nat := 44
noncomputable abbrev f_spec_l00In : Func := Tryz.f44
theorem at_spec_l00In : prog.funcs[n_spec_l00In]? = some f_spec_l00In := Tryz.func44
theorem body_spec_l00In : f_spec_l00In.body = some (bodyOf f_spec_l00In) := by kernel_rfl
abbrev n_spec_l07Triple : Nat := 45
noncomputable abbrev f_spec_l07Triple : Func := Tryz.f45
theorem at_spec_l07Triple : prog.funcs[n_spec_l07Triple]? = some f_spec_l07Triple := Tryz.func45
theorem body_spec_l07Triple : f_spec_l07Triple.body = some (bodyOf f_spec_l07Triple) := by kernel_rfl
abbrev n_spec_l07Counts : Nat := 46
noncomputable abbrev f_spec_l07Counts : Func := Tryz.f46
theorem at_spec_l07Counts : prog.funcs[n_spec_l07Counts]? = some f_spec_l07Counts := Tryz.func46
theorem body_spec_l07Counts : f_spec_l07Counts.body = some (bodyOf f_spec_l07Counts) := by kernel_rfl
abbrev n_spec_l01Same : Nat := 47
noncomputable abbrev f_spec_l01Same : Func := Tryz.f47
theorem at_spec_l01Same : prog.funcs[n_spec_l01Same]? = some f_spec_l01Same := Tryz.func47
theorem body_spec_l01Same : f_spec_l01Same.body = some (bodyOf f_spec_l01Same) := by kernel_rfl
abbrev n_spec_l07Given : Nat := 48
noncomputable abbrev f_spec_l07Given : Func := Tryz.f48
theorem at_spec_l07Given : prog.funcs[n_spec_l07Given]? = some f_spec_l07Given := Tryz.func48
theorem body_spec_l07Given : f_spec_l07Given.body = some (bodyOf f_spec_l07Given) := by kernel_rfl
abbrev n_spec_l07Asserted : Nat := 49
noncomputable abbrev f_spec_l07Asserted : Func := Tryz.f49
theorem at_spec_l07Asserted : prog.funcs[n_spec_l07Asserted]? = some f_spec_l07Asserted := Tryz.func49
theorem body_spec_l07Asserted : f_spec_l07Asserted.body = some (bodyOf f_spec_l07Asserted) := by kernel_rfl
abbrev n_spec_l07Says : Nat := 50
noncomputable abbrev f_spec_l07Says : Func := Tryz.f50
theorem at_spec_l07Says : prog.funcs[n_spec_l07Says]? = some f_spec_l07Says := Tryz.func50
theorem body_spec_l07Says : f_spec_l07Says.body = some (bodyOf f_spec_l07Says) := by kernel_rfl
abbrev n_spec_l07With : Nat := 51
noncomputable abbrev f_spec_l07With : Func := Tryz.f51
theorem at_spec_l07With : prog.funcs[n_spec_l07With]? = some f_spec_l07With := Tryz.func51
theorem body_spec_l07With : f_spec_l07With.body = some (bodyOf f_spec_l07With) := by kernel_rfl
abbrev n_spec_l07Together : Nat := 52
noncomputable abbrev f_spec_l07Together : Func := Tryz.f52
theorem at_spec_l07Together : prog.funcs[n_spec_l07Together]? = some f_spec_l07Together := Tryz.func52
theorem body_spec_l07Together : f_spec_l07Together.body = some (bodyOf f_spec_l07Together) := by kernel_rfl
abbrev n_laws_toExprS : Nat := 53
noncomputable abbrev f_laws_toExprS : Func := Tryz.f53
theorem at_laws_toExprS : prog.funcs[n_laws_toExprS]? = some f_laws_toExprS := Tryz.func53
theorem body_laws_toExprS : f_laws_toExprS.body = some (bodyOf f_laws_toExprS) := by kernel_rfl
abbrev n_laws_toProgS : Nat := 54
noncomputable abbrev f_laws_toProgS : Func := Tryz.f54
theorem at_laws_toProgS : prog.funcs[n_laws_toProgS]? = some f_laws_toProgS := Tryz.func54
theorem body_laws_toProgS : f_laws_toProgS.body = some (bodyOf f_laws_toProgS) := by kernel_rfl
abbrev n_impl_within : Nat := 55
noncomputable abbrev f_impl_within : Func := Tryz.f55
theorem at_impl_within : prog.funcs[n_impl_within]? = some f_impl_within := Tryz.func55
theorem body_impl_within : f_impl_within.body = some (bodyOf f_impl_within) := by kernel_rfl
abbrev n_impl_isCondition : Nat := 56
noncomputable abbrev f_impl_isCondition : Func := Tryz.f56
theorem at_impl_isCondition : prog.funcs[n_impl_isCondition]? = some f_impl_isCondition := Tryz.func56
theorem body_impl_isCondition : f_impl_isCondition.body = some (bodyOf f_impl_isCondition) := by kernel_rfl
abbrev n_impl_ValidTriple : Nat := 57
noncomputable abbrev f_impl_ValidTriple : Func := Tryz.f57
theorem at_impl_ValidTriple : prog.funcs[n_impl_ValidTriple]? = some f_impl_ValidTriple := Tryz.func57
theorem body_impl_ValidTriple : f_impl_ValidTriple.body = some (bodyOf f_impl_ValidTriple) := by kernel_rfl
abbrev n_impl_isTogether : Nat := 58
noncomputable abbrev f_impl_isTogether : Func := Tryz.f58
theorem at_impl_isTogether : prog.funcs[n_impl_isTogether]? = some f_impl_isTogether := Tryz.func58
theorem body_impl_isTogether : f_impl_isTogether.body = some (bodyOf f_impl_isTogether) := by kernel_rfl
abbrev n_impl_SameExpr : Nat := 59
noncomputable abbrev f_impl_SameExpr : Func := Tryz.f59
theorem at_impl_SameExpr : prog.funcs[n_impl_SameExpr]? = some f_impl_SameExpr := Tryz.func59
theorem body_impl_SameExpr : f_impl_SameExpr.body = some (bodyOf f_impl_SameExpr) := by kernel_rfl
abbrev n_slices_ContainsFunc_Premise : Nat := 60
noncomputable abbrev f_slices_ContainsFunc_Premise : Func := Tryz.f60
theorem at_slices_ContainsFunc_Premise : prog.funcs[n_slices_ContainsFunc_Premise]? = some f_slices_ContainsFunc_Premise := Tryz.func60
theorem body_slices_ContainsFunc_Premise : f_slices_ContainsFunc_Premise.body = some (bodyOf f_slices_ContainsFunc_Premise) := by kernel_rfl
abbrev n_impl_isRight_1 : Nat := 61
noncomputable abbrev f_impl_isRight_1 : Func := Tryz.f61
theorem at_impl_isRight_1 : prog.funcs[n_impl_isRight_1]? = some f_impl_isRight_1 := Tryz.func61
theorem body_impl_isRight_1 : f_impl_isRight_1.body = some (bodyOf f_impl_isRight_1) := by kernel_rfl
abbrev n_impl_tree : Nat := 62
noncomputable abbrev f_impl_tree : Func := Tryz.f62
theorem at_impl_tree : prog.funcs[n_impl_tree]? = some f_impl_tree := Tryz.func62
theorem body_impl_tree : f_impl_tree.body = some (bodyOf f_impl_tree) := by kernel_rfl
abbrev n_impl_not : Nat := 63
noncomputable abbrev f_impl_not : Func := Tryz.f63
theorem at_impl_not : prog.funcs[n_impl_not]? = some f_impl_not := Tryz.func63
theorem body_impl_not : f_impl_not.body = some (bodyOf f_impl_not) := by kernel_rfl
abbrev n_impl_Triple_says : Nat := 64
noncomputable abbrev f_impl_Triple_says : Func := Tryz.f64
theorem at_impl_Triple_says : prog.funcs[n_impl_Triple_says]? = some f_impl_Triple_says := Tryz.func64
theorem body_impl_Triple_says : f_impl_Triple_says.body = some (bodyOf f_impl_Triple_says) := by kernel_rfl
abbrev n_impl_both : Nat := 65
noncomputable abbrev f_impl_both : Func := Tryz.f65
theorem at_impl_both : prog.funcs[n_impl_both]? = some f_impl_both := Tryz.func65
theorem body_impl_both : f_impl_both.body = some (bodyOf f_impl_both) := by kernel_rfl
abbrev n_laws_eqExprS : Nat := 66
noncomputable abbrev f_laws_eqExprS : Func := Tryz.f66
theorem at_laws_eqExprS : prog.funcs[n_laws_eqExprS]? = some f_laws_eqExprS := Tryz.func66
theorem body_laws_eqExprS : f_laws_eqExprS.body = some (bodyOf f_laws_eqExprS) := by kernel_rfl
abbrev n_laws_eqProgS : Nat := 67
noncomputable abbrev f_laws_eqProgS : Func := Tryz.f67
theorem at_laws_eqProgS : prog.funcs[n_laws_eqProgS]? = some f_laws_eqProgS := Tryz.func67
theorem body_laws_eqProgS : f_laws_eqProgS.body = some (bodyOf f_laws_eqProgS) := by kernel_rfl
abbrev n_spec_l01Ok : Nat := 68
noncomputable abbrev f_spec_l01Ok : Func := Tryz.f68
theorem at_spec_l01Ok : prog.funcs[n_spec_l01Ok]? = some f_spec_l01Ok := Tryz.func68
theorem body_spec_l01Ok : f_spec_l01Ok.body = some (bodyOf f_spec_l01Ok) := by kernel_rfl
abbrev n_spec_l01Condition : Nat := 69
noncomputable abbrev f_spec_l01Condition : Func := Tryz.f69
theorem at_spec_l01Condition : prog.funcs[n_spec_l01Condition]? = some f_spec_l01Condition := Tryz.func69
theorem body_spec_l01Condition : f_spec_l01Condition.body = some (bodyOf f_spec_l01Condition) := by kernel_rfl
abbrev n_spec_l06Ok : Nat := 70
noncomputable abbrev f_spec_l06Ok : Func := Tryz.f70
theorem at_spec_l06Ok : prog.funcs[n_spec_l06Ok]? = some f_spec_l06Ok := Tryz.func70
theorem body_spec_l06Ok : f_spec_l06Ok.body = some (bodyOf f_spec_l06Ok) := by kernel_rfl
abbrev n_spec_l02Pair : Nat := 71
noncomputable abbrev f_spec_l02Pair : Func := Tryz.f71
theorem at_spec_l02Pair : prog.funcs[n_spec_l02Pair]? = some f_spec_l02Pair := Tryz.func71
theorem body_spec_l02Pair : f_spec_l02Pair.body = some (bodyOf f_spec_l02Pair) := by kernel_rfl
abbrev n_spec_l06Not : Nat := 72
noncomputable abbrev f_spec_l06Not : Func := Tryz.f72
theorem at_spec_l06Not : prog.funcs[n_spec_l06Not]? = some f_spec_l06Not := Tryz.func72
theorem body_spec_l06Not : f_spec_l06Not.body = some (bodyOf f_spec_l06Not) := by kernel_rfl
abbrev n_spec_l01Own : Nat := 73
noncomputable abbrev f_spec_l01Own : Func := Tryz.f73
theorem at_spec_l01Own : prog.funcs[n_spec_l01Own]? = some f_spec_l01Own := Tryz.func73
theorem body_spec_l01Own : f_spec_l01Own.body = some (bodyOf f_spec_l01Own) := by kernel_rfl
abbrev n_spec_l06Same : Nat := 74
noncomputable abbrev f_spec_l06Same : Func := Tryz.f74
theorem at_spec_l06Same : prog.funcs[n_spec_l06Same]? = some f_spec_l06Same := Tryz.func74
theorem body_spec_l06Same : f_spec_l06Same.body = some (bodyOf f_spec_l06Same) := by kernel_rfl
abbrev n_spec_l01Atoms : Nat := 75
noncomputable abbrev f_spec_l01Atoms : Func := Tryz.f75
theorem at_spec_l01Atoms : prog.funcs[n_spec_l01Atoms]? = some f_spec_l01Atoms := Tryz.func75
theorem body_spec_l01Atoms : f_spec_l01Atoms.body = some (bodyOf f_spec_l01Atoms) := by kernel_rfl
abbrev n_spec_l01True : Nat := 76
noncomputable abbrev f_spec_l01True : Func := Tryz.f76
theorem at_spec_l01True : prog.funcs[n_spec_l01True]? = some f_spec_l01True := Tryz.func76
theorem body_spec_l01True : f_spec_l01True.body = some (bodyOf f_spec_l01True) := by kernel_rfl
abbrev n_impl_isExpr : Nat := 77
noncomputable abbrev f_impl_isExpr : Func := Tryz.f77
theorem at_impl_isExpr : prog.funcs[n_impl_isExpr]? = some f_impl_isExpr := Tryz.func77
theorem body_impl_isExpr : f_impl_isExpr.body = some (bodyOf f_impl_isExpr) := by kernel_rfl
abbrev n_impl_IsCondition : Nat := 78
noncomputable abbrev f_impl_IsCondition : Func := Tryz.f78
theorem at_impl_IsCondition : prog.funcs[n_impl_IsCondition]? = some f_impl_IsCondition := Tryz.func78
theorem body_impl_IsCondition : f_impl_IsCondition.body = some (bodyOf f_impl_IsCondition) := by kernel_rfl
abbrev n_impl_ValidProg : Nat := 79
noncomputable abbrev f_impl_ValidProg : Func := Tryz.f79
theorem at_impl_ValidProg : prog.funcs[n_impl_ValidProg]? = some f_impl_ValidProg := Tryz.func79
theorem body_impl_ValidProg : f_impl_ValidProg.body = some (bodyOf f_impl_ValidProg) := by kernel_rfl
abbrev n_impl_SameProg : Nat := 80
noncomputable abbrev f_impl_SameProg : Func := Tryz.f80
theorem at_impl_SameProg : prog.funcs[n_impl_SameProg]? = some f_impl_SameProg := Tryz.func80
theorem body_impl_SameProg : f_impl_SameProg.body = some (bodyOf f_impl_SameProg) := by kernel_rfl
abbrev n_impl_atomsIn : Nat := 81
noncomputable abbrev f_impl_atomsIn : Func := Tryz.f81
theorem at_impl_atomsIn : prog.funcs[n_impl_atomsIn]? = some f_impl_atomsIn := Tryz.func81
theorem body_impl_atomsIn : f_impl_atomsIn.body = some (bodyOf f_impl_atomsIn) := by kernel_rfl
abbrev n_impl_truth : Nat := 82
noncomputable abbrev f_impl_truth : Func := Tryz.f82
theorem at_impl_truth : prog.funcs[n_impl_truth]? = some f_impl_truth := Tryz.func82
theorem body_impl_truth : f_impl_truth.body = some (bodyOf f_impl_truth) := by kernel_rfl
abbrev n_slices_ContainsFunc_Derivation : Nat := 83
noncomputable abbrev f_slices_ContainsFunc_Derivation : Func := Tryz.f83
theorem at_slices_ContainsFunc_Derivation : prog.funcs[n_slices_ContainsFunc_Derivation]? = some f_slices_ContainsFunc_Derivation := Tryz.func83
theorem body_slices_ContainsFunc_Derivation : f_slices_ContainsFunc_Derivation.body = some (bodyOf f_slices_ContainsFunc_Derivation) := by kernel_rfl
abbrev n_impl_isTogether_1 : Nat := 84
noncomputable abbrev f_impl_isTogether_1 : Func := Tryz.f84
theorem at_impl_isTogether_1 : prog.funcs[n_impl_isTogether_1]? = some f_impl_isTogether_1 := Tryz.func84
theorem body_impl_isTogether_1 : f_impl_isTogether_1.body = some (bodyOf f_impl_isTogether_1) := by kernel_rfl
abbrev n_slices_EqualFunc_Expr : Nat := 85
noncomputable abbrev f_slices_EqualFunc_Expr : Func := Tryz.f85
theorem at_slices_EqualFunc_Expr : prog.funcs[n_slices_EqualFunc_Expr]? = some f_slices_EqualFunc_Expr := Tryz.func85
theorem body_slices_EqualFunc_Expr : f_slices_EqualFunc_Expr.body = some (bodyOf f_slices_EqualFunc_Expr) := by kernel_rfl
abbrev n_slices_IndexFunc_Premise : Nat := 86
noncomputable abbrev f_slices_IndexFunc_Premise : Func := Tryz.f86
theorem at_slices_IndexFunc_Premise : prog.funcs[n_slices_IndexFunc_Premise]? = some f_slices_IndexFunc_Premise := Tryz.func86
theorem body_slices_IndexFunc_Premise : f_slices_IndexFunc_Premise.body = some (bodyOf f_slices_IndexFunc_Premise) := by kernel_rfl
abbrev n_spec_l01Left : Nat := 87
noncomputable abbrev f_spec_l01Left : Func := Tryz.f87
theorem at_spec_l01Left : prog.funcs[n_spec_l01Left]? = some f_spec_l01Left := Tryz.func87
theorem body_spec_l01Left : f_spec_l01Left.body = some (bodyOf f_spec_l01Left) := by kernel_rfl
abbrev n_spec_l01Depth : Nat := 88
noncomputable abbrev f_spec_l01Depth : Func := Tryz.f88
theorem at_spec_l01Depth : prog.funcs[n_spec_l01Depth]? = some f_spec_l01Depth := Tryz.func88
theorem body_spec_l01Depth : f_spec_l01Depth.body = some (bodyOf f_spec_l01Depth) := by kernel_rfl
abbrev n_spec_l01Tree : Nat := 89
noncomputable abbrev f_spec_l01Tree : Func := Tryz.f89
theorem at_spec_l01Tree : prog.funcs[n_spec_l01Tree]? = some f_spec_l01Tree := Tryz.func89
theorem body_spec_l01Tree : f_spec_l01Tree.body = some (bodyOf f_spec_l01Tree) := by kernel_rfl
abbrev n_spec_l06Left : Nat := 90
noncomputable abbrev f_spec_l06Left : Func := Tryz.f90
theorem at_spec_l06Left : prog.funcs[n_spec_l06Left]? = some f_spec_l06Left := Tryz.func90
theorem body_spec_l06Left : f_spec_l06Left.body = some (bodyOf f_spec_l06Left) := by kernel_rfl
abbrev n_spec_l06Depth : Nat := 91
noncomputable abbrev f_spec_l06Depth : Func := Tryz.f91
theorem at_spec_l06Depth : prog.funcs[n_spec_l06Depth]? = some f_spec_l06Depth := Tryz.func91
theorem body_spec_l06Depth : f_spec_l06Depth.body = some (bodyOf f_spec_l06Depth) := by kernel_rfl
abbrev n_spec_l06Tree : Nat := 92
noncomputable abbrev f_spec_l06Tree : Func := Tryz.f92
theorem at_spec_l06Tree : prog.funcs[n_spec_l06Tree]? = some f_spec_l06Tree := Tryz.func92
theorem body_spec_l06Tree : f_spec_l06Tree.body = some (bodyOf f_spec_l06Tree) := by kernel_rfl
abbrev n_impl_shaped : Nat := 93
noncomputable abbrev f_impl_shaped : Func := Tryz.f93
theorem at_impl_shaped : prog.funcs[n_impl_shaped]? = some f_impl_shaped := Tryz.func93
theorem body_impl_shaped : f_impl_shaped.body = some (bodyOf f_impl_shaped) := by kernel_rfl
abbrev n_impl_isProg : Nat := 94
noncomputable abbrev f_impl_isProg : Func := Tryz.f94
theorem at_impl_isProg : prog.funcs[n_impl_isProg]? = some f_impl_isProg := Tryz.func94
theorem body_impl_isProg : f_impl_isProg.body = some (bodyOf f_impl_isProg) := by kernel_rfl
abbrev n_slices_EqualFunc_Prog : Nat := 95
noncomputable abbrev f_slices_EqualFunc_Prog : Func := Tryz.f95
theorem at_slices_EqualFunc_Prog : prog.funcs[n_slices_EqualFunc_Prog]? = some f_slices_EqualFunc_Prog := Tryz.func95
theorem body_slices_EqualFunc_Prog : f_slices_EqualFunc_Prog.body = some (bodyOf f_slices_EqualFunc_Prog) := by kernel_rfl
abbrev n_slices_IndexFunc_Derivation : Nat := 96
noncomputable abbrev f_slices_IndexFunc_Derivation : Func := Tryz.f96
theorem at_slices_IndexFunc_Derivation : prog.funcs[n_slices_IndexFunc_Derivation]? = some f_slices_IndexFunc_Derivation := Tryz.func96
theorem body_slices_IndexFunc_Derivation : f_slices_IndexFunc_Derivation.body = some (bodyOf f_slices_IndexFunc_Derivation) := by kernel_rfl
abbrev n_spec_l00Max : Nat := 97
noncomputable abbrev f_spec_l00Max : Func := Tryz.f97
theorem at_spec_l00Max : prog.funcs[n_spec_l00Max]? = some f_spec_l00Max := Tryz.func97
theorem body_spec_l00Max : f_spec_l00Max.body = some (bodyOf f_spec_l00Max) := by kernel_rfl
abbrev n_spec_l01Kids : Nat := 98
noncomputable abbrev f_spec_l01Kids : Func := Tryz.f98
theorem at_spec_l01Kids : prog.funcs[n_spec_l01Kids]? = some f_spec_l01Kids := Tryz.func98
theorem body_spec_l01Kids : f_spec_l01Kids.body = some (bodyOf f_spec_l01Kids) := by kernel_rfl
abbrev n_spec_l06Kids : Nat := 99
noncomputable abbrev f_spec_l06Kids : Func := Tryz.f99
theorem at_spec_l06Kids : prog.funcs[n_spec_l06Kids]? = some f_spec_l06Kids := Tryz.func99
theorem body_spec_l06Kids : f_spec_l06Kids.body = some (bodyOf f_spec_l06Kids) := by kernel_rfl
abbrev n_spec_l06Asks : Nat := 100
noncomputable abbrev f_spec_l06Asks : Func := Tryz.f100
theorem at_spec_l06Asks : prog.funcs[n_spec_l06Asks]? = some f_spec_l06Asks := Tryz.func100
theorem body_spec_l06Asks : f_spec_l06Asks.body = some (bodyOf f_spec_l06Asks) := by kernel_rfl
abbrev n_spec_l06None : Nat := 101
noncomputable abbrev f_spec_l06None : Func := Tryz.f101
theorem at_spec_l06None : prog.funcs[n_spec_l06None]? = some f_spec_l06None := Tryz.func101
theorem body_spec_l06None : f_spec_l06None.body = some (bodyOf f_spec_l06None) := by kernel_rfl
abbrev n_impl_kidsOf : Nat := 102
noncomputable abbrev f_impl_kidsOf : Func := Tryz.f102
theorem at_impl_kidsOf : prog.funcs[n_impl_kidsOf]? = some f_impl_kidsOf := Tryz.func102
theorem body_impl_kidsOf : f_impl_kidsOf.body = some (bodyOf f_impl_kidsOf) := by kernel_rfl
abbrev n_impl_progFits : Nat := 103
noncomputable abbrev f_impl_progFits : Func := Tryz.f103
theorem at_impl_progFits : prog.funcs[n_impl_progFits]? = some f_impl_progFits := Tryz.func103
theorem body_impl_progFits : f_impl_progFits.body = some (bodyOf f_impl_progFits) := by kernel_rfl
abbrev n_impl_progForm : Nat := 104
noncomputable abbrev f_impl_progForm : Func := Tryz.f104
theorem at_impl_progForm : prog.funcs[n_impl_progForm]? = some f_impl_progForm := Tryz.func104
theorem body_impl_progForm : f_impl_progForm.body = some (bodyOf f_impl_progForm) := by kernel_rfl
abbrev n_impl_isNone : Nat := 105
noncomputable abbrev f_impl_isNone : Func := Tryz.f105
theorem at_impl_isNone : prog.funcs[n_impl_isNone]? = some f_impl_isNone := Tryz.func105
theorem body_impl_isNone : f_impl_isNone.body = some (bodyOf f_impl_isNone) := by kernel_rfl
end Go.Proofs.YtkogipcdjalehaaGreat

/- The types and the functions of the seat, by name. Printed by gen_tab.py. -/
import Derived.Test.YtcdppmpjplhgkaaVmOwnFun
import Derived.Test.YtcdppmpjplhgkaaChecked
set_option linter.unusedVariables false
namespace Go.Proofs.Ytcdppmpjplhgkaa

def tyTab : List (Nat × Ty × Nat × Nat) :=
  [(2, (.int .i64), 0, 0),
   (3, (.int .i64), 0, 0),
   (4, .bool, 0, 0),
   (5, (.int .u8), 0, 0),
   (9, .str, 0, 0),
   (12, (.int .u64), 0, 0),
   (23, (.st .sig), 0, 0),
   (24, (.slice (.st .expr)), 40, 26),
   (26, (.st .expr), 0, 0),
   (27, (.slice (.st .prog)), 80, 29),
   (29, (.st .prog), 0, 0),
   (31, (.st .triple), 0, 0),
   (35, (.st .sig), 0, 0),
   (37, (.slice (.st .expr)), 40, 39),
   (39, (.st .expr), 0, 0),
   (40, (.slice (.st .prog)), 80, 42),
   (42, (.st .prog), 0, 0),
   (44, (.st .triple), 0, 0),
   (48, (.slice (.st .premise)), 88, 77),
   (51, (.slice (.st .premise)), 88, 80),
   (57, (.slice (.int .i64)), 8, 2),
   (77, (.st .premise), 0, 0),
   (80, (.st .premise), 0, 0),
   (103, (.slice (.slice .bool)), 24, 108),
   (108, (.slice .bool), 1, 4),
   (129, (.slice (.slice (.slice .bool))), 24, 103),
   (142, (.int .u64), 0, 0)]

def ptyTab : List (Nat × Ty) :=
  [(73, (.st .triple)), (88, (.st .prog)), (90, (.st .expr)), (113, (.st .premise)), (157, (.int .u8))]

abbrev T_int64 : Nat := 2
abbrev T_int : Nat := 3
abbrev T_bool : Nat := 4
abbrev T_uint8 : Nat := 5
abbrev T_string : Nat := 9
abbrev T_uintptr : Nat := 12
abbrev T_laws_Sig : Nat := 23
abbrev T_s_laws_Expr : Nat := 24
abbrev T_laws_Expr : Nat := 26
abbrev T_s_laws_Prog : Nat := 27
abbrev T_laws_Prog : Nat := 29
abbrev T_laws_Triple : Nat := 31
abbrev T_impl_Sig : Nat := 35
abbrev T_s_impl_Expr : Nat := 37
abbrev T_impl_Expr : Nat := 39
abbrev T_s_impl_Prog : Nat := 40
abbrev T_impl_Prog : Nat := 42
abbrev T_impl_Triple : Nat := 44
abbrev T_s_laws_Premise : Nat := 48
abbrev T_s_impl_Premise : Nat := 51
abbrev T_s_int64 : Nat := 57
abbrev T_laws_Premise : Nat := 77
abbrev T_impl_Premise : Nat := 80
abbrev T_s_s_bool : Nat := 103
abbrev T_s_bool : Nat := 108
abbrev T_s_s_s_bool : Nat := 129
abbrev T_uint : Nat := 142
noncomputable abbrev prog : Program := Try.prog
theorem tyTab_ok (c : Nat → List Arg → Option (Vc × List TV)) (wr own : List Nat) (oc : Nat → List Arg → Option (Vc × List TV)) (mk : Nat → Option MCtr) (cl : Nat → Option CloK) (ro : List Nat) : (tyTab.all fun r => tyRowB prog (Env.mk tyTab ptyTab c wr own oc mk cl ro) r.1 r.2.1 r.2.2.1 r.2.2.2) = true := by kernel_rfl
theorem prog_mixed : prog.follows .mixedOrders = true := Checked.mixed Try.checked
def bodyOf (f : Func) : Code := match f.body with
  | some c => c
  | none => .skip

abbrev n_laws_FnExactHoldsTriple : Nat := 3
noncomputable abbrev f_laws_FnExactHoldsTriple : Func := Try.f3
theorem at_laws_FnExactHoldsTriple : prog.funcs[n_laws_FnExactHoldsTriple]? = some f_laws_FnExactHoldsTriple := Try.func3
theorem body_laws_FnExactHoldsTriple : f_laws_FnExactHoldsTriple.body = some (bodyOf f_laws_FnExactHoldsTriple) := by kernel_rfl
abbrev n_laws_FnExactTripleUnder : Nat := 4
noncomputable abbrev f_laws_FnExactTripleUnder : Func := Try.f4
theorem at_laws_FnExactTripleUnder : prog.funcs[n_laws_FnExactTripleUnder]? = some f_laws_FnExactTripleUnder := Try.func4
theorem body_laws_FnExactTripleUnder : f_laws_FnExactTripleUnder.body = some (bodyOf f_laws_FnExactTripleUnder) := by kernel_rfl
abbrev n_laws_FnExactWeakestUnder : Nat := 5
noncomputable abbrev f_laws_FnExactWeakestUnder : Func := Try.f5
theorem at_laws_FnExactWeakestUnder : prog.funcs[n_laws_FnExactWeakestUnder]? = some f_laws_FnExactWeakestUnder := Try.func5
theorem body_laws_FnExactWeakestUnder : f_laws_FnExactWeakestUnder.body = some (bodyOf f_laws_FnExactWeakestUnder) := by kernel_rfl
abbrev n_laws_FnExactStrongestUnder : Nat := 6
noncomputable abbrev f_laws_FnExactStrongestUnder : Func := Try.f6
theorem at_laws_FnExactStrongestUnder : prog.funcs[n_laws_FnExactStrongestUnder]? = some f_laws_FnExactStrongestUnder := Try.func6
theorem body_laws_FnExactStrongestUnder : f_laws_FnExactStrongestUnder.body = some (bodyOf f_laws_FnExactStrongestUnder) := by kernel_rfl
abbrev n_laws_szTriple : Nat := 7
noncomputable abbrev f_laws_szTriple : Func := Try.f7
theorem at_laws_szTriple : prog.funcs[n_laws_szTriple]? = some f_laws_szTriple := Try.func7
theorem body_laws_szTriple : f_laws_szTriple.body = some (bodyOf f_laws_szTriple) := by kernel_rfl
abbrev n_spec_HoldsTriple : Nat := 8
noncomputable abbrev f_spec_HoldsTriple : Func := Try.f8
theorem at_spec_HoldsTriple : prog.funcs[n_spec_HoldsTriple]? = some f_spec_HoldsTriple := Try.func8
theorem body_spec_HoldsTriple : f_spec_HoldsTriple.body = some (bodyOf f_spec_HoldsTriple) := by kernel_rfl
abbrev n_laws_toSig : Nat := 9
noncomputable abbrev f_laws_toSig : Func := Try.f9
theorem at_laws_toSig : prog.funcs[n_laws_toSig]? = some f_laws_toSig := Try.func9
theorem body_laws_toSig : f_laws_toSig.body = some (bodyOf f_laws_toSig) := by kernel_rfl
abbrev n_laws_toTriple : Nat := 10
noncomputable abbrev f_laws_toTriple : Func := Try.f10
theorem at_laws_toTriple : prog.funcs[n_laws_toTriple]? = some f_laws_toTriple := Try.func10
theorem body_laws_toTriple : f_laws_toTriple.body = some (bodyOf f_laws_toTriple) := by kernel_rfl
abbrev n_impl_HoldsTriple : Nat := 11
noncomputable abbrev f_impl_HoldsTriple : Func := Try.f11
theorem at_impl_HoldsTriple : prog.funcs[n_impl_HoldsTriple]? = some f_impl_HoldsTriple := Try.func11
theorem body_impl_HoldsTriple : f_impl_HoldsTriple.body = some (bodyOf f_impl_HoldsTriple) := by kernel_rfl
abbrev n_laws_eqTriple : Nat := 12
noncomputable abbrev f_laws_eqTriple : Func := Try.f12
theorem at_laws_eqTriple : prog.funcs[n_laws_eqTriple]? = some f_laws_eqTriple := Try.func12
theorem body_laws_eqTriple : f_laws_eqTriple.body = some (bodyOf f_laws_eqTriple) := by kernel_rfl
abbrev n_laws_szPremiseS : Nat := 13
noncomputable abbrev f_laws_szPremiseS : Func := Try.f13
theorem at_laws_szPremiseS : prog.funcs[n_laws_szPremiseS]? = some f_laws_szPremiseS := Try.func13
theorem body_laws_szPremiseS : f_laws_szPremiseS.body = some (bodyOf f_laws_szPremiseS) := by kernel_rfl
abbrev n_spec_TripleUnder : Nat := 14
noncomputable abbrev f_spec_TripleUnder : Func := Try.f14
theorem at_spec_TripleUnder : prog.funcs[n_spec_TripleUnder]? = some f_spec_TripleUnder := Try.func14
theorem body_spec_TripleUnder : f_spec_TripleUnder.body = some (bodyOf f_spec_TripleUnder) := by kernel_rfl
abbrev n_laws_toPremiseS : Nat := 15
noncomputable abbrev f_laws_toPremiseS : Func := Try.f15
theorem at_laws_toPremiseS : prog.funcs[n_laws_toPremiseS]? = some f_laws_toPremiseS := Try.func15
theorem body_laws_toPremiseS : f_laws_toPremiseS.body = some (bodyOf f_laws_toPremiseS) := by kernel_rfl
abbrev n_impl_TripleUnder : Nat := 16
noncomputable abbrev f_impl_TripleUnder : Func := Try.f16
theorem at_impl_TripleUnder : prog.funcs[n_impl_TripleUnder]? = some f_impl_TripleUnder := Try.func16
theorem body_impl_TripleUnder : f_impl_TripleUnder.body = some (bodyOf f_impl_TripleUnder) := by kernel_rfl
abbrev n_laws_eqPremiseS : Nat := 17
noncomputable abbrev f_laws_eqPremiseS : Func := Try.f17
theorem at_laws_eqPremiseS : prog.funcs[n_laws_eqPremiseS]? = some f_laws_eqPremiseS := Try.func17
theorem body_laws_eqPremiseS : f_laws_eqPremiseS.body = some (bodyOf f_laws_eqPremiseS) := by kernel_rfl
abbrev n_laws_szProg : Nat := 18
noncomputable abbrev f_laws_szProg : Func := Try.f18
theorem at_laws_szProg : prog.funcs[n_laws_szProg]? = some f_laws_szProg := Try.func18
theorem body_laws_szProg : f_laws_szProg.body = some (bodyOf f_laws_szProg) := by kernel_rfl
abbrev n_laws_szExpr : Nat := 19
noncomputable abbrev f_laws_szExpr : Func := Try.f19
theorem at_laws_szExpr : prog.funcs[n_laws_szExpr]? = some f_laws_szExpr := Try.func19
theorem body_laws_szExpr : f_laws_szExpr.body = some (bodyOf f_laws_szExpr) := by kernel_rfl
abbrev n_spec_WeakestUnder : Nat := 20
noncomputable abbrev f_spec_WeakestUnder : Func := Try.f20
theorem at_spec_WeakestUnder : prog.funcs[n_spec_WeakestUnder]? = some f_spec_WeakestUnder := Try.func20
theorem body_spec_WeakestUnder : f_spec_WeakestUnder.body = some (bodyOf f_spec_WeakestUnder) := by kernel_rfl
abbrev n_laws_toProg : Nat := 21
noncomputable abbrev f_laws_toProg : Func := Try.f21
theorem at_laws_toProg : prog.funcs[n_laws_toProg]? = some f_laws_toProg := Try.func21
theorem body_laws_toProg : f_laws_toProg.body = some (bodyOf f_laws_toProg) := by kernel_rfl
abbrev n_laws_toExpr : Nat := 22
noncomputable abbrev f_laws_toExpr : Func := Try.f22
theorem at_laws_toExpr : prog.funcs[n_laws_toExpr]? = some f_laws_toExpr := Try.func22
theorem body_laws_toExpr : f_laws_toExpr.body = some (bodyOf f_laws_toExpr) := by kernel_rfl
abbrev n_impl_WeakestUnder : Nat := 23
noncomputable abbrev f_impl_WeakestUnder : Func := Try.f23
theorem at_impl_WeakestUnder : prog.funcs[n_impl_WeakestUnder]? = some f_impl_WeakestUnder := Try.func23
theorem body_impl_WeakestUnder : f_impl_WeakestUnder.body = some (bodyOf f_impl_WeakestUnder) := by kernel_rfl
abbrev n_laws_eqInt64S : Nat := 24
noncomputable abbrev f_laws_eqInt64S : Func := Try.f24
theorem at_laws_eqInt64S : prog.funcs[n_laws_eqInt64S]? = some f_laws_eqInt64S := Try.func24
theorem body_laws_eqInt64S : f_laws_eqInt64S.body = some (bodyOf f_laws_eqInt64S) := by kernel_rfl
abbrev n_laws_eqProg : Nat := 25
noncomputable abbrev f_laws_eqProg : Func := Try.f25
theorem at_laws_eqProg : prog.funcs[n_laws_eqProg]? = some f_laws_eqProg := Try.func25
theorem body_laws_eqProg : f_laws_eqProg.body = some (bodyOf f_laws_eqProg) := by kernel_rfl
abbrev n_laws_eqExpr : Nat := 26
noncomputable abbrev f_laws_eqExpr : Func := Try.f26
theorem at_laws_eqExpr : prog.funcs[n_laws_eqExpr]? = some f_laws_eqExpr := Try.func26
theorem body_laws_eqExpr : f_laws_eqExpr.body = some (bodyOf f_laws_eqExpr) := by kernel_rfl
abbrev n_laws_markPremiseS : Nat := 27
noncomputable abbrev f_laws_markPremiseS : Func := Try.f27
theorem at_laws_markPremiseS : prog.funcs[n_laws_markPremiseS]? = some f_laws_markPremiseS := Try.func27
theorem body_laws_markPremiseS : f_laws_markPremiseS.body = some (bodyOf f_laws_markPremiseS) := by kernel_rfl
abbrev n_laws_markProg : Nat := 28
noncomputable abbrev f_laws_markProg : Func := Try.f28
theorem at_laws_markProg : prog.funcs[n_laws_markProg]? = some f_laws_markProg := Try.func28
theorem body_laws_markProg : f_laws_markProg.body = some (bodyOf f_laws_markProg) := by kernel_rfl
abbrev n_laws_markExpr : Nat := 29
noncomputable abbrev f_laws_markExpr : Func := Try.f29
theorem at_laws_markExpr : prog.funcs[n_laws_markExpr]? = some f_laws_markExpr := Try.func29
theorem body_laws_markExpr : f_laws_markExpr.body = some (bodyOf f_laws_markExpr) := by kernel_rfl
abbrev n_laws_markInt64S : Nat := 30
noncomputable abbrev f_laws_markInt64S : Func := Try.f30
theorem at_laws_markInt64S : prog.funcs[n_laws_markInt64S]? = some f_laws_markInt64S := Try.func30
theorem body_laws_markInt64S : f_laws_markInt64S.body = some (bodyOf f_laws_markInt64S) := by kernel_rfl
abbrev n_laws_heldInt64S : Nat := 31
noncomputable abbrev f_laws_heldInt64S : Func := Try.f31
theorem at_laws_heldInt64S : prog.funcs[n_laws_heldInt64S]? = some f_laws_heldInt64S := Try.func31
theorem body_laws_heldInt64S : f_laws_heldInt64S.body = some (bodyOf f_laws_heldInt64S) := by kernel_rfl
abbrev n_spec_StrongestUnder : Nat := 32
noncomputable abbrev f_spec_StrongestUnder : Func := Try.f32
theorem at_spec_StrongestUnder : prog.funcs[n_spec_StrongestUnder]? = some f_spec_StrongestUnder := Try.func32
theorem body_spec_StrongestUnder : f_spec_StrongestUnder.body = some (bodyOf f_spec_StrongestUnder) := by kernel_rfl
abbrev n_impl_StrongestUnder : Nat := 33
noncomputable abbrev f_impl_StrongestUnder : Func := Try.f33
theorem at_impl_StrongestUnder : prog.funcs[n_impl_StrongestUnder]? = some f_impl_StrongestUnder := Try.func33
theorem body_impl_StrongestUnder : f_impl_StrongestUnder.body = some (bodyOf f_impl_StrongestUnder) := by kernel_rfl
abbrev n_spec_l07Triple : Nat := 34
noncomputable abbrev f_spec_l07Triple : Func := Try.f34
theorem at_spec_l07Triple : prog.funcs[n_spec_l07Triple]? = some f_spec_l07Triple := Try.func34
theorem body_spec_l07Triple : f_spec_l07Triple.body = some (bodyOf f_spec_l07Triple) := by kernel_rfl
abbrev n_spec_l07Holds : Nat := 35
noncomputable abbrev f_spec_l07Holds : Func := Try.f35
theorem at_spec_l07Holds : prog.funcs[n_spec_l07Holds]? = some f_spec_l07Holds := Try.func35
theorem body_spec_l07Holds : f_spec_l07Holds.body = some (bodyOf f_spec_l07Holds) := by kernel_rfl
abbrev n_laws_szPremise : Nat := 36
noncomputable abbrev f_laws_szPremise : Func := Try.f36
theorem at_laws_szPremise : prog.funcs[n_laws_szPremise]? = some f_laws_szPremise := Try.func36
theorem body_laws_szPremise : f_laws_szPremise.body = some (bodyOf f_laws_szPremise) := by kernel_rfl
abbrev n_spec_l07Premises : Nat := 37
noncomputable abbrev f_spec_l07Premises : Func := Try.f37
theorem at_spec_l07Premises : prog.funcs[n_spec_l07Premises]? = some f_spec_l07Premises := Try.func37
theorem body_spec_l07Premises : f_spec_l07Premises.body = some (bodyOf f_spec_l07Premises) := by kernel_rfl
abbrev n_laws_toPremise : Nat := 38
noncomputable abbrev f_laws_toPremise : Func := Try.f38
theorem at_laws_toPremise : prog.funcs[n_laws_toPremise]? = some f_laws_toPremise := Try.func38
theorem body_laws_toPremise : f_laws_toPremise.body = some (bodyOf f_laws_toPremise) := by kernel_rfl
abbrev n_impl_ValidPremises : Nat := 39
noncomputable abbrev f_impl_ValidPremises : Func := Try.f39
theorem at_impl_ValidPremises : prog.funcs[n_impl_ValidPremises]? = some f_impl_ValidPremises := Try.func39
theorem body_impl_ValidPremises : f_impl_ValidPremises.body = some (bodyOf f_impl_ValidPremises) := by kernel_rfl
abbrev n_impl_ValidTriple : Nat := 40
noncomputable abbrev f_impl_ValidTriple : Func := Try.f40
theorem at_impl_ValidTriple : prog.funcs[n_impl_ValidTriple]? = some f_impl_ValidTriple := Try.func40
theorem body_impl_ValidTriple : f_impl_ValidTriple.body = some (bodyOf f_impl_ValidTriple) := by kernel_rfl
abbrev n_impl_holdsUnder : Nat := 41
noncomputable abbrev f_impl_holdsUnder : Func := Try.f41
theorem at_impl_holdsUnder : prog.funcs[n_impl_holdsUnder]? = some f_impl_holdsUnder := Try.func41
theorem body_impl_holdsUnder : f_impl_holdsUnder.body = some (bodyOf f_impl_holdsUnder) := by kernel_rfl
abbrev n_laws_eqPremise : Nat := 42
noncomputable abbrev f_laws_eqPremise : Func := Try.f42
theorem at_laws_eqPremise : prog.funcs[n_laws_eqPremise]? = some f_laws_eqPremise := Try.func42
theorem body_laws_eqPremise : f_laws_eqPremise.body = some (bodyOf f_laws_eqPremise) := by kernel_rfl
abbrev n_laws_szProgS : Nat := 43
noncomputable abbrev f_laws_szProgS : Func := Try.f43
theorem at_laws_szProgS : prog.funcs[n_laws_szProgS]? = some f_laws_szProgS := Try.func43
theorem body_laws_szProgS : f_laws_szProgS.body = some (bodyOf f_laws_szProgS) := by kernel_rfl
abbrev n_laws_szExprS : Nat := 44
noncomputable abbrev f_laws_szExprS : Func := Try.f44
theorem at_laws_szExprS : prog.funcs[n_laws_szExprS]? = some f_laws_szExprS := Try.func44
theorem body_laws_szExprS : f_laws_szExprS.body = some (bodyOf f_laws_szExprS) := by kernel_rfl
abbrev n_spec_l06Ok : Nat := 45
noncomputable abbrev f_spec_l06Ok : Func := Try.f45
theorem at_spec_l06Ok : prog.funcs[n_spec_l06Ok]? = some f_spec_l06Ok := Try.func45
theorem body_spec_l06Ok : f_spec_l06Ok.body = some (bodyOf f_spec_l06Ok) := by kernel_rfl
abbrev n_spec_l06Cond : Nat := 46
noncomputable abbrev f_spec_l06Cond : Func := Try.f46
theorem at_spec_l06Cond : prog.funcs[n_spec_l06Cond]? = some f_spec_l06Cond := Try.func46
theorem body_spec_l06Cond : f_spec_l06Cond.body = some (bodyOf f_spec_l06Cond) := by kernel_rfl
abbrev n_spec_l07Sure : Nat := 47
noncomputable abbrev f_spec_l07Sure : Func := Try.f47
theorem at_spec_l07Sure : prog.funcs[n_spec_l07Sure]? = some f_spec_l07Sure := Try.func47
theorem body_spec_l07Sure : f_spec_l07Sure.body = some (bodyOf f_spec_l07Sure) := by kernel_rfl
abbrev n_laws_toProgS : Nat := 48
noncomputable abbrev f_laws_toProgS : Func := Try.f48
theorem at_laws_toProgS : prog.funcs[n_laws_toProgS]? = some f_laws_toProgS := Try.func48
theorem body_laws_toProgS : f_laws_toProgS.body = some (bodyOf f_laws_toProgS) := by kernel_rfl
abbrev n_laws_toExprS : Nat := 49
noncomputable abbrev f_laws_toExprS : Func := Try.f49
theorem at_laws_toExprS : prog.funcs[n_laws_toExprS]? = some f_laws_toExprS := Try.func49
theorem body_laws_toExprS : f_laws_toExprS.body = some (bodyOf f_laws_toExprS) := by kernel_rfl
abbrev n_impl_isProg : Nat := 50
noncomputable abbrev f_impl_isProg : Func := Try.f50
theorem at_impl_isProg : prog.funcs[n_impl_isProg]? = some f_impl_isProg := Try.func50
theorem body_impl_isProg : f_impl_isProg.body = some (bodyOf f_impl_isProg) := by kernel_rfl
abbrev n_impl_isCondition : Nat := 51
noncomputable abbrev f_impl_isCondition : Func := Try.f51
theorem at_impl_isCondition : prog.funcs[n_impl_isCondition]? = some f_impl_isCondition := Try.func51
theorem body_impl_isCondition : f_impl_isCondition.body = some (bodyOf f_impl_isCondition) := by kernel_rfl
abbrev n_impl_weakest : Nat := 52
noncomputable abbrev f_impl_weakest : Func := Try.f52
theorem at_impl_weakest : prog.funcs[n_impl_weakest]? = some f_impl_weakest := Try.func52
theorem body_impl_weakest : f_impl_weakest.body = some (bodyOf f_impl_weakest) := by kernel_rfl
abbrev n_laws_eqProgS : Nat := 53
noncomputable abbrev f_laws_eqProgS : Func := Try.f53
theorem at_laws_eqProgS : prog.funcs[n_laws_eqProgS]? = some f_laws_eqProgS := Try.func53
theorem body_laws_eqProgS : f_laws_eqProgS.body = some (bodyOf f_laws_eqProgS) := by kernel_rfl
abbrev n_laws_eqExprS : Nat := 54
noncomputable abbrev f_laws_eqExprS : Func := Try.f54
theorem at_laws_eqExprS : prog.funcs[n_laws_eqExprS]? = some f_laws_eqExprS := Try.func54
theorem body_laws_eqExprS : f_laws_eqExprS.body = some (bodyOf f_laws_eqExprS) := by kernel_rfl
abbrev n_laws_markExprS : Nat := 55
noncomputable abbrev f_laws_markExprS : Func := Try.f55
theorem at_laws_markExprS : prog.funcs[n_laws_markExprS]? = some f_laws_markExprS := Try.func55
theorem body_laws_markExprS : f_laws_markExprS.body = some (bodyOf f_laws_markExprS) := by kernel_rfl
abbrev n_laws_markProgS : Nat := 56
noncomputable abbrev f_laws_markProgS : Func := Try.f56
theorem at_laws_markProgS : prog.funcs[n_laws_markProgS]? = some f_laws_markProgS := Try.func56
theorem body_laws_markProgS : f_laws_markProgS.body = some (bodyOf f_laws_markProgS) := by kernel_rfl
abbrev n_spec_l07From : Nat := 57
noncomputable abbrev f_spec_l07From : Func := Try.f57
theorem at_spec_l07From : prog.funcs[n_spec_l07From]? = some f_spec_l07From := Try.func57
theorem body_spec_l07From : f_spec_l07From.body = some (bodyOf f_spec_l07From) := by kernel_rfl
abbrev n_spec_l07Atoms : Nat := 58
noncomputable abbrev f_spec_l07Atoms : Func := Try.f58
theorem at_spec_l07Atoms : prog.funcs[n_spec_l07Atoms]? = some f_spec_l07Atoms := Try.func58
theorem body_spec_l07Atoms : f_spec_l07Atoms.body = some (bodyOf f_spec_l07Atoms) := by kernel_rfl
abbrev n_impl_leads : Nat := 59
noncomputable abbrev f_impl_leads : Func := Try.f59
theorem at_impl_leads : prog.funcs[n_impl_leads]? = some f_impl_leads := Try.func59
theorem body_impl_leads : f_impl_leads.body = some (bodyOf f_impl_leads) := by kernel_rfl
abbrev n_impl_atomsIn : Nat := 60
noncomputable abbrev f_impl_atomsIn : Func := Try.f60
theorem at_impl_atomsIn : prog.funcs[n_impl_atomsIn]? = some f_impl_atomsIn := Try.func60
theorem body_impl_atomsIn : f_impl_atomsIn.body = some (bodyOf f_impl_atomsIn) := by kernel_rfl
abbrev n_slices_ContainsFunc : Nat := 61
noncomputable abbrev f_slices_ContainsFunc : Func := Try.f61
theorem at_slices_ContainsFunc : prog.funcs[n_slices_ContainsFunc]? = some f_slices_ContainsFunc := Try.func61
theorem body_slices_ContainsFunc : f_slices_ContainsFunc.body = some (bodyOf f_slices_ContainsFunc) := by kernel_rfl
abbrev n_slices_ContainsFunc_int64 : Nat := 61
noncomputable abbrev f_slices_ContainsFunc_int64 : Func := Try.f61
theorem at_slices_ContainsFunc_int64 : prog.funcs[n_slices_ContainsFunc_int64]? = some f_slices_ContainsFunc_int64 := Try.func61
theorem body_slices_ContainsFunc_int64 : f_slices_ContainsFunc_int64.body = some (bodyOf f_slices_ContainsFunc_int64) := by kernel_rfl
abbrev n_impl_atomsOf : Nat := 62
noncomputable abbrev f_impl_atomsOf : Func := Try.f62
theorem at_impl_atomsOf : prog.funcs[n_impl_atomsOf]? = some f_impl_atomsOf := Try.func62
theorem body_impl_atomsOf : f_impl_atomsOf.body = some (bodyOf f_impl_atomsOf) := by kernel_rfl
abbrev n_impl_StrongestUnder_1 : Nat := 63
noncomputable abbrev f_impl_StrongestUnder_1 : Func := Try.f63
theorem at_impl_StrongestUnder_1 : prog.funcs[n_impl_StrongestUnder_1]? = some f_impl_StrongestUnder_1 := Try.func63
theorem body_impl_StrongestUnder_1 : f_impl_StrongestUnder_1.body = some (bodyOf f_impl_StrongestUnder_1) := by kernel_rfl
abbrev n_spec_l07Parted : Nat := 64
noncomputable abbrev f_spec_l07Parted : Func := Try.f64
theorem at_spec_l07Parted : prog.funcs[n_spec_l07Parted]? = some f_spec_l07Parted := Try.func64
theorem body_spec_l07Parted : f_spec_l07Parted.body = some (bodyOf f_spec_l07Parted) := by kernel_rfl
abbrev n_spec_l07Premise : Nat := 65
noncomputable abbrev f_spec_l07Premise : Func := Try.f65
theorem at_spec_l07Premise : prog.funcs[n_spec_l07Premise]? = some f_spec_l07Premise := Try.func65
theorem body_spec_l07Premise : f_spec_l07Premise.body = some (bodyOf f_spec_l07Premise) := by kernel_rfl
abbrev n_spec_l01Sig : Nat := 66
noncomputable abbrev f_spec_l01Sig : Func := Try.f66
theorem at_spec_l01Sig : prog.funcs[n_spec_l01Sig]? = some f_spec_l01Sig := Try.func66
theorem body_spec_l01Sig : f_spec_l01Sig.body = some (bodyOf f_spec_l01Sig) := by kernel_rfl
abbrev n_impl_ValidSig : Nat := 67
noncomputable abbrev f_impl_ValidSig : Func := Try.f67
theorem at_impl_ValidSig : prog.funcs[n_impl_ValidSig]? = some f_impl_ValidSig := Try.func67
theorem body_impl_ValidSig : f_impl_ValidSig.body = some (bodyOf f_impl_ValidSig) := by kernel_rfl
abbrev n_impl_isPremise : Nat := 68
noncomputable abbrev f_impl_isPremise : Func := Try.f68
theorem at_impl_isPremise : prog.funcs[n_impl_isPremise]? = some f_impl_isPremise := Try.func68
theorem body_impl_isPremise : f_impl_isPremise.body = some (bodyOf f_impl_isPremise) := by kernel_rfl
abbrev n_impl_ValidProg : Nat := 69
noncomputable abbrev f_impl_ValidProg : Func := Try.f69
theorem at_impl_ValidProg : prog.funcs[n_impl_ValidProg]? = some f_impl_ValidProg := Try.func69
theorem body_impl_ValidProg : f_impl_ValidProg.body = some (bodyOf f_impl_ValidProg) := by kernel_rfl
abbrev n_slices_Contains : Nat := 70
noncomputable abbrev f_slices_Contains : Func := Try.f70
theorem at_slices_Contains : prog.funcs[n_slices_Contains]? = some f_slices_Contains := Try.func70
theorem body_slices_Contains : f_slices_Contains.body = some (bodyOf f_slices_Contains) := by kernel_rfl
abbrev n_slices_Contains_int64 : Nat := 70
noncomputable abbrev f_slices_Contains_int64 : Func := Try.f70
theorem at_slices_Contains_int64 : prog.funcs[n_slices_Contains_int64]? = some f_slices_Contains_int64 := Try.func70
theorem body_slices_Contains_int64 : f_slices_Contains_int64.body = some (bodyOf f_slices_Contains_int64) := by kernel_rfl
abbrev n_spec_l06Left : Nat := 71
noncomputable abbrev f_spec_l06Left : Func := Try.f71
theorem at_spec_l06Left : prog.funcs[n_spec_l06Left]? = some f_spec_l06Left := Try.func71
theorem body_spec_l06Left : f_spec_l06Left.body = some (bodyOf f_spec_l06Left) := by kernel_rfl
abbrev n_spec_l06Depth : Nat := 72
noncomputable abbrev f_spec_l06Depth : Func := Try.f72
theorem at_spec_l06Depth : prog.funcs[n_spec_l06Depth]? = some f_spec_l06Depth := Try.func72
theorem body_spec_l06Depth : f_spec_l06Depth.body = some (bodyOf f_spec_l06Depth) := by kernel_rfl
abbrev n_spec_l06Tree : Nat := 73
noncomputable abbrev f_spec_l06Tree : Func := Try.f73
theorem at_spec_l06Tree : prog.funcs[n_spec_l06Tree]? = some f_spec_l06Tree := Try.func73
theorem body_spec_l06Tree : f_spec_l06Tree.body = some (bodyOf f_spec_l06Tree) := by kernel_rfl
abbrev n_spec_l01Ok : Nat := 74
noncomputable abbrev f_spec_l01Ok : Func := Try.f74
theorem at_spec_l01Ok : prog.funcs[n_spec_l01Ok]? = some f_spec_l01Ok := Try.func74
theorem body_spec_l01Ok : f_spec_l01Ok.body = some (bodyOf f_spec_l01Ok) := by kernel_rfl
abbrev n_spec_l01Condition : Nat := 75
noncomputable abbrev f_spec_l01Condition : Func := Try.f75
theorem at_spec_l01Condition : prog.funcs[n_spec_l01Condition]? = some f_spec_l01Condition := Try.func75
theorem body_spec_l01Condition : f_spec_l01Condition.body = some (bodyOf f_spec_l01Condition) := by kernel_rfl
abbrev n_spec_l01Atoms : Nat := 76
noncomputable abbrev f_spec_l01Atoms : Func := Try.f76
theorem at_spec_l01Atoms : prog.funcs[n_spec_l01Atoms]? = some f_spec_l01Atoms := Try.func76
theorem body_spec_l01Atoms : f_spec_l01Atoms.body = some (bodyOf f_spec_l01Atoms) := by kernel_rfl
abbrev n_impl_progFits : Nat := 77
noncomputable abbrev f_impl_progFits : Func := Try.f77
theorem at_impl_progFits : prog.funcs[n_impl_progFits]? = some f_impl_progFits := Try.func77
theorem body_impl_progFits : f_impl_progFits.body = some (bodyOf f_impl_progFits) := by kernel_rfl
abbrev n_impl_isExpr : Nat := 78
noncomputable abbrev f_impl_isExpr : Func := Try.f78
theorem at_impl_isExpr : prog.funcs[n_impl_isExpr]? = some f_impl_isExpr := Try.func78
theorem body_impl_isExpr : f_impl_isExpr.body = some (bodyOf f_impl_isExpr) := by kernel_rfl
abbrev n_impl_IsCondition : Nat := 79
noncomputable abbrev f_impl_IsCondition : Func := Try.f79
theorem at_impl_IsCondition : prog.funcs[n_impl_IsCondition]? = some f_impl_IsCondition := Try.func79
theorem body_impl_IsCondition : f_impl_IsCondition.body = some (bodyOf f_impl_IsCondition) := by kernel_rfl
abbrev n_impl_truth : Nat := 80
noncomputable abbrev f_impl_truth : Func := Try.f80
theorem at_impl_truth : prog.funcs[n_impl_truth]? = some f_impl_truth := Try.func80
theorem body_impl_truth : f_impl_truth.body = some (bodyOf f_impl_truth) := by kernel_rfl
abbrev n_spec_l00Own : Nat := 81
noncomputable abbrev f_spec_l00Own : Func := Try.f81
theorem at_spec_l00Own : prog.funcs[n_spec_l00Own]? = some f_spec_l00Own := Try.func81
theorem body_spec_l00Own : f_spec_l00Own.body = some (bodyOf f_spec_l00Own) := by kernel_rfl
abbrev n_spec_l07Next : Nat := 82
noncomputable abbrev f_spec_l07Next : Func := Try.f82
theorem at_spec_l07Next : prog.funcs[n_spec_l07Next]? = some f_spec_l07Next := Try.func82
theorem body_spec_l07Next : f_spec_l07Next.body = some (bodyOf f_spec_l07Next) := by kernel_rfl
abbrev n_spec_l00Put : Nat := 83
noncomputable abbrev f_spec_l00Put : Func := Try.f83
theorem at_spec_l00Put : prog.funcs[n_spec_l00Put]? = some f_spec_l00Put := Try.func83
theorem body_spec_l00Put : f_spec_l00Put.body = some (bodyOf f_spec_l00Put) := by kernel_rfl
abbrev n_spec_l07Union : Nat := 84
noncomputable abbrev f_spec_l07Union : Func := Try.f84
theorem at_spec_l07Union : prog.funcs[n_spec_l07Union]? = some f_spec_l07Union := Try.func84
theorem body_spec_l07Union : f_spec_l07Union.body = some (bodyOf f_spec_l07Union) := by kernel_rfl
abbrev n_spec_l01True : Nat := 85
noncomputable abbrev f_spec_l01True : Func := Try.f85
theorem at_spec_l01True : prog.funcs[n_spec_l01True]? = some f_spec_l01True := Try.func85
theorem body_spec_l01True : f_spec_l01True.body = some (bodyOf f_spec_l01True) := by kernel_rfl
abbrev n_impl_table_bool : Nat := 86
noncomputable abbrev f_impl_table_bool : Func := Try.f86
theorem at_impl_table_bool : prog.funcs[n_impl_table_bool]? = some f_impl_table_bool := Try.func86
theorem body_impl_table_bool : f_impl_table_bool.body = some (bodyOf f_impl_table_bool) := by kernel_rfl
abbrev n_impl_leads_1 : Nat := 87
noncomputable abbrev f_impl_leads_1 : Func := Try.f87
theorem at_impl_leads_1 : prog.funcs[n_impl_leads_1]? = some f_impl_leads_1 := Try.func87
theorem body_impl_leads_1 : f_impl_leads_1.body = some (bodyOf f_impl_leads_1) := by kernel_rfl
abbrev n_impl_allows : Nat := 88
noncomputable abbrev f_impl_allows : Func := Try.f88
theorem at_impl_allows : prog.funcs[n_impl_allows]? = some f_impl_allows := Try.func88
theorem body_impl_allows : f_impl_allows.body = some (bodyOf f_impl_allows) := by kernel_rfl
abbrev n_impl_composed : Nat := 89
noncomputable abbrev f_impl_composed : Func := Try.f89
theorem at_impl_composed : prog.funcs[n_impl_composed]? = some f_impl_composed := Try.func89
theorem body_impl_composed : f_impl_composed.body = some (bodyOf f_impl_composed) := by kernel_rfl
abbrev n_impl_leads_2 : Nat := 90
noncomputable abbrev f_impl_leads_2 : Func := Try.f90
theorem at_impl_leads_2 : prog.funcs[n_impl_leads_2]? = some f_impl_leads_2 := Try.func90
theorem body_impl_leads_2 : f_impl_leads_2.body = some (bodyOf f_impl_leads_2) := by kernel_rfl
abbrev n_impl_leads_3 : Nat := 91
noncomputable abbrev f_impl_leads_3 : Func := Try.f91
theorem at_impl_leads_3 : prog.funcs[n_impl_leads_3]? = some f_impl_leads_3 := Try.func91
theorem body_impl_leads_3 : f_impl_leads_3.body = some (bodyOf f_impl_leads_3) := by kernel_rfl
abbrev n_impl_leads_4 : Nat := 92
noncomputable abbrev f_impl_leads_4 : Func := Try.f92
theorem at_impl_leads_4 : prog.funcs[n_impl_leads_4]? = some f_impl_leads_4 := Try.func92
theorem body_impl_leads_4 : f_impl_leads_4.body = some (bodyOf f_impl_leads_4) := by kernel_rfl
abbrev n_slices_IndexFunc : Nat := 93
noncomputable abbrev f_slices_IndexFunc : Func := Try.f93
theorem at_slices_IndexFunc : prog.funcs[n_slices_IndexFunc]? = some f_slices_IndexFunc := Try.func93
theorem body_slices_IndexFunc : f_slices_IndexFunc.body = some (bodyOf f_slices_IndexFunc) := by kernel_rfl
abbrev n_slices_IndexFunc_int64 : Nat := 93
noncomputable abbrev f_slices_IndexFunc_int64 : Func := Try.f93
theorem at_slices_IndexFunc_int64 : prog.funcs[n_slices_IndexFunc_int64]? = some f_slices_IndexFunc_int64 := Try.func93
theorem body_slices_IndexFunc_int64 : f_slices_IndexFunc_int64.body = some (bodyOf f_slices_IndexFunc_int64) := by kernel_rfl
abbrev n_spec_l02Act : Nat := 94
noncomputable abbrev f_spec_l02Act : Func := Try.f94
theorem at_spec_l02Act : prog.funcs[n_spec_l02Act]? = some f_spec_l02Act := Try.func94
theorem body_spec_l02Act : f_spec_l02Act.body = some (bodyOf f_spec_l02Act) := by kernel_rfl
abbrev n_spec_l00In : Nat := 95
noncomputable abbrev f_spec_l00In : Func := Try.f95
theorem at_spec_l00In : prog.funcs[n_spec_l00In]? = some f_spec_l00In := Try.func95
theorem body_spec_l00In : f_spec_l00In.body = some (bodyOf f_spec_l00In) := by kernel_rfl
abbrev n_impl_within : Nat := 96
noncomputable abbrev f_impl_within : Func := Try.f96
theorem at_impl_within : prog.funcs[n_impl_within]? = some f_impl_within := Try.func96
theorem body_impl_within : f_impl_within.body = some (bodyOf f_impl_within) := by kernel_rfl
abbrev n_slices_Index : Nat := 97
noncomputable abbrev f_slices_Index : Func := Try.f97
theorem at_slices_Index : prog.funcs[n_slices_Index]? = some f_slices_Index := Try.func97
theorem body_slices_Index : f_slices_Index.body = some (bodyOf f_slices_Index) := by kernel_rfl
abbrev n_slices_Index_int64 : Nat := 97
noncomputable abbrev f_slices_Index_int64 : Func := Try.f97
theorem at_slices_Index_int64 : prog.funcs[n_slices_Index_int64]? = some f_slices_Index_int64 := Try.func97
theorem body_slices_Index_int64 : f_slices_Index_int64.body = some (bodyOf f_slices_Index_int64) := by kernel_rfl
abbrev n_spec_l00Max : Nat := 98
noncomputable abbrev f_spec_l00Max : Func := Try.f98
theorem at_spec_l00Max : prog.funcs[n_spec_l00Max]? = some f_spec_l00Max := Try.func98
theorem body_spec_l00Max : f_spec_l00Max.body = some (bodyOf f_spec_l00Max) := by kernel_rfl
abbrev n_spec_l06Kids : Nat := 99
noncomputable abbrev f_spec_l06Kids : Func := Try.f99
theorem at_spec_l06Kids : prog.funcs[n_spec_l06Kids]? = some f_spec_l06Kids := Try.func99
theorem body_spec_l06Kids : f_spec_l06Kids.body = some (bodyOf f_spec_l06Kids) := by kernel_rfl
abbrev n_spec_l06Asks : Nat := 100
noncomputable abbrev f_spec_l06Asks : Func := Try.f100
theorem at_spec_l06Asks : prog.funcs[n_spec_l06Asks]? = some f_spec_l06Asks := Try.func100
theorem body_spec_l06Asks : f_spec_l06Asks.body = some (bodyOf f_spec_l06Asks) := by kernel_rfl
abbrev n_spec_l06None : Nat := 101
noncomputable abbrev f_spec_l06None : Func := Try.f101
theorem at_spec_l06None : prog.funcs[n_spec_l06None]? = some f_spec_l06None := Try.func101
theorem body_spec_l06None : f_spec_l06None.body = some (bodyOf f_spec_l06None) := by kernel_rfl
abbrev n_spec_l01Left : Nat := 102
noncomputable abbrev f_spec_l01Left : Func := Try.f102
theorem at_spec_l01Left : prog.funcs[n_spec_l01Left]? = some f_spec_l01Left := Try.func102
theorem body_spec_l01Left : f_spec_l01Left.body = some (bodyOf f_spec_l01Left) := by kernel_rfl
abbrev n_spec_l01Depth : Nat := 103
noncomputable abbrev f_spec_l01Depth : Func := Try.f103
theorem at_spec_l01Depth : prog.funcs[n_spec_l01Depth]? = some f_spec_l01Depth := Try.func103
theorem body_spec_l01Depth : f_spec_l01Depth.body = some (bodyOf f_spec_l01Depth) := by kernel_rfl
abbrev n_spec_l01Tree : Nat := 104
noncomputable abbrev f_spec_l01Tree : Func := Try.f104
theorem at_spec_l01Tree : prog.funcs[n_spec_l01Tree]? = some f_spec_l01Tree := Try.func104
theorem body_spec_l01Tree : f_spec_l01Tree.body = some (bodyOf f_spec_l01Tree) := by kernel_rfl
abbrev n_impl_progForm : Nat := 105
noncomputable abbrev f_impl_progForm : Func := Try.f105
theorem at_impl_progForm : prog.funcs[n_impl_progForm]? = some f_impl_progForm := Try.func105
theorem body_impl_progForm : f_impl_progForm.body = some (bodyOf f_impl_progForm) := by kernel_rfl
abbrev n_impl_isNone : Nat := 106
noncomputable abbrev f_impl_isNone : Func := Try.f106
theorem at_impl_isNone : prog.funcs[n_impl_isNone]? = some f_impl_isNone := Try.func106
theorem body_impl_isNone : f_impl_isNone.body = some (bodyOf f_impl_isNone) := by kernel_rfl
abbrev n_impl_shaped : Nat := 107
noncomputable abbrev f_impl_shaped : Func := Try.f107
theorem at_impl_shaped : prog.funcs[n_impl_shaped]? = some f_impl_shaped := Try.func107
theorem body_impl_shaped : f_impl_shaped.body = some (bodyOf f_impl_shaped) := by kernel_rfl
abbrev n_spec_l07Allows : Nat := 108
noncomputable abbrev f_spec_l07Allows : Func := Try.f108
theorem at_spec_l07Allows : prog.funcs[n_spec_l07Allows]? = some f_spec_l07Allows := Try.func108
theorem body_spec_l07Allows : f_spec_l07Allows.body = some (bodyOf f_spec_l07Allows) := by kernel_rfl
abbrev n_impl_composed_1 : Nat := 109
noncomputable abbrev f_impl_composed_1 : Func := Try.f109
theorem at_impl_composed_1 : prog.funcs[n_impl_composed_1]? = some f_impl_composed_1 := Try.func109
theorem body_impl_composed_1 : f_impl_composed_1.body = some (bodyOf f_impl_composed_1) := by kernel_rfl
abbrev n_spec_l01Kids : Nat := 110
noncomputable abbrev f_spec_l01Kids : Func := Try.f110
theorem at_spec_l01Kids : prog.funcs[n_spec_l01Kids]? = some f_spec_l01Kids := Try.func110
theorem body_spec_l01Kids : f_spec_l01Kids.body = some (bodyOf f_spec_l01Kids) := by kernel_rfl
abbrev n_impl_kidsOf : Nat := 111
noncomputable abbrev f_impl_kidsOf : Func := Try.f111
theorem at_impl_kidsOf : prog.funcs[n_impl_kidsOf]? = some f_impl_kidsOf := Try.func111
theorem body_impl_kidsOf : f_impl_kidsOf.body = some (bodyOf f_impl_kidsOf) := by kernel_rfl

end Go.Proofs.Ytcdppmpjplhgkaa

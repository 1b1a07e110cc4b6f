/- The types and the functions of the seat, by name. Printed by gen_tab.py. -/
import Derived.Test.YtkogipcdjalehaaDoorVmStFun
import Derived.Test.YtkogipcdjalehaaDoorChecked
set_option linter.unusedVariables false
namespace Go.Proofs.YtkogipcdjalehaaDoor
def tyTab : List (Nat × Ty × Nat × Nat) :=
 [(2, (.int .i64), 0, 0),
  (3, (.int .i64), 0, 0),
  (4, .bool, 0, 0),
  (5, (.int .u8), 0, 0),
  (9, .str, 0, 0),
  (12, (.int .u64), 0, 0),
  (23, (.st .sig), 0, 0),
  (24, (.slice (.int .i64)), 8, 2),
  (26, (.st .word), 0, 0),
  (29, (.st .sig), 0, 0),
  (34, (.slice (.st .expr)), 40, 36),
  (36, (.st .expr), 0, 0),
  (41, (.slice (.st .expr)), 40, 43),
  (43, (.st .expr), 0, 0),
  (44, (.slice (.st .prog)), 80, 46),
  (46, (.st .prog), 0, 0),
  (48, (.st .triple), 0, 0),
  (51, (.slice (.st .prog)), 80, 53),
  (53, (.st .prog), 0, 0),
  (55, (.st .triple), 0, 0),
  (59, (.slice (.slice .bool)), 24, 111),
  (60, (.slice (.slice (.slice .bool))), 24, 59),
  (62, (.st .model), 0, 0),
  (69, (.st .equation), 0, 0),
  (75, (.slice .str), 16, 9),
  (89, (.st .l01Reader), 0, 0),
  (111, (.slice .bool), 1, 4),
  (134, (.st .reader), 0, 0),
  (145, (.slice (.int .u8)), 1, 5),
  (158, (.int .u64), 0, 0),
  (194, (.int .u64), 0, 0)]
def ptyTab : List (Nat × Ty) :=
 [(80, (.st .word)), (87, (.st .l01Reader)), (92, (.st .expr)), (100, (.st .triple)), (103, (.st .prog)), (114, (.st .model)), (165, (.st .reader)), (175, (.int .u8))]
def mtyTab : List (Nat × Ty × Ty) := []
abbrev T_bool : Nat := 4
abbrev T_string : Nat := 9
abbrev T_s_s_bool : Nat := 59
abbrev T_s_bool : Nat := 111
noncomputable abbrev prog : Program := Tryd.prog
theorem tyTab_ok (c : Nat → List Arg → Option (Vc × List TV)) (wr own : List Nat) (oc : Nat → List Arg → Option (Vc × List TV)) (mk : Nat → Option MCtr) (cl : Nat → Option CloK) (ro : List Nat) (tk : Nat → List Bool) (sk : Nat → Option SK) (sc : Nat → List Arg → List (List TV) → Option (Vc × List TV × List (List TV))) : ((tyTab.all fun r => tyRowB prog (Env.mk tyTab ptyTab c wr own oc mk cl ro tk sk sc mtyTab) r.1 r.2.1 r.2.2.1 r.2.2.2) && mtyTab.all fun r => mapRowB prog (Env.mk tyTab ptyTab c wr own oc mk cl ro tk sk sc mtyTab) r.1 r.2.1 r.2.2) = true := by kernel_rfl
theorem prog_mixed : prog.follows .mixedOrders = true := Checked.mixed Tryd.checked
def bodyOf (f : Func) : Code := match f.body with
 | some c => c
 | none => .skip
abbrev n_laws_FnExactReadModel : Nat := 6
noncomputable abbrev f_laws_FnExactReadModel : Func := Tryd.f6
theorem at_laws_FnExactReadModel : prog.funcs[n_laws_FnExactReadModel]? = some f_laws_FnExactReadModel := Tryd.func6
theorem body_laws_FnExactReadModel : f_laws_FnExactReadModel.body = some (bodyOf f_laws_FnExactReadModel) := by kernel_rfl
abbrev n_spec_ReadModel : Nat := 24
noncomputable abbrev f_spec_ReadModel : Func := Tryd.f24
theorem at_spec_ReadModel : prog.funcs[n_spec_ReadModel]? = some f_spec_ReadModel := Tryd.func24
theorem body_spec_ReadModel : f_spec_ReadModel.body = some (bodyOf f_spec_ReadModel) := by kernel_rfl
abbrev n_impl_ReadModel : Nat := 25
noncomputable abbrev f_impl_ReadModel : Func := Tryd.f25
theorem at_impl_ReadModel : prog.funcs[n_impl_ReadModel]? = some f_impl_ReadModel := Tryd.func25
theorem body_impl_ReadModel : f_impl_ReadModel.body = some (bodyOf f_impl_ReadModel) := by kernel_rfl
abbrev n_laws_eqModel : Nat := 26
noncomputable abbrev f_laws_eqModel : Func := Tryd.f26
theorem at_laws_eqModel : prog.funcs[n_laws_eqModel]? = some f_laws_eqModel := Tryd.func26
theorem body_laws_eqModel : f_laws_eqModel.body = some (bodyOf f_laws_eqModel) := by kernel_rfl
abbrev n_laws_markModel : Nat := 27
noncomputable abbrev f_laws_markModel : Func := Tryd.f27
theorem at_laws_markModel : prog.funcs[n_laws_markModel]? = some f_laws_markModel := Tryd.func27
theorem body_laws_markModel : f_laws_markModel.body = some (bodyOf f_laws_markModel) := by kernel_rfl
abbrev n_laws_heldModel : Nat := 28
noncomputable abbrev f_laws_heldModel : Func := Tryd.f28
theorem at_laws_heldModel : prog.funcs[n_laws_heldModel]? = some f_laws_heldModel := Tryd.func28
theorem body_laws_heldModel : f_laws_heldModel.body = some (bodyOf f_laws_heldModel) := by kernel_rfl
abbrev n_spec_l01Sig : Nat := 34
noncomputable abbrev f_spec_l01Sig : Func := Tryd.f34
theorem at_spec_l01Sig : prog.funcs[n_spec_l01Sig]? = some f_spec_l01Sig := Tryd.func34
theorem body_spec_l01Sig : f_spec_l01Sig.body = some (bodyOf f_spec_l01Sig) := by kernel_rfl
abbrev n_spec_l01Split : Nat := 35
noncomputable abbrev f_spec_l01Split : Func := Tryd.f35
theorem at_spec_l01Split : prog.funcs[n_spec_l01Split]? = some f_spec_l01Split := Tryd.func35
theorem body_spec_l01Split : f_spec_l01Split.body = some (bodyOf f_spec_l01Split) := by kernel_rfl
abbrev n_spec_l01Number : Nat := 36
noncomputable abbrev f_spec_l01Number : Func := Tryd.f36
theorem at_spec_l01Number : prog.funcs[n_spec_l01Number]? = some f_spec_l01Number := Tryd.func36
theorem body_spec_l01Number : f_spec_l01Number.body = some (bodyOf f_spec_l01Number) := by kernel_rfl
abbrev n_impl_ValidSig : Nat := 38
noncomputable abbrev f_impl_ValidSig : Func := Tryd.f38
theorem at_impl_ValidSig : prog.funcs[n_impl_ValidSig]? = some f_impl_ValidSig := Tryd.func38
theorem body_impl_ValidSig : f_impl_ValidSig.body = some (bodyOf f_impl_ValidSig) := by kernel_rfl
abbrev n_strings_Split : Nat := 39
noncomputable abbrev f_strings_Split : Func := Tryd.f39
theorem at_strings_Split : prog.funcs[n_strings_Split]? = some f_strings_Split := Tryd.func39
abbrev n_impl_number : Nat := 41
noncomputable abbrev f_impl_number : Func := Tryd.f41
theorem at_impl_number : prog.funcs[n_impl_number]? = some f_impl_number := Tryd.func41
theorem body_impl_number : f_impl_number.body = some (bodyOf f_impl_number) := by kernel_rfl
abbrev n_spec_l00In : Nat := 63
noncomputable abbrev f_spec_l00In : Func := Tryd.f63
theorem at_spec_l00In : prog.funcs[n_spec_l00In]? = some f_spec_l00In := Tryd.func63
theorem body_spec_l00In : f_spec_l00In.body = some (bodyOf f_spec_l00In) := by kernel_rfl
abbrev n_spec_l05ReadBits : Nat := 64
noncomputable abbrev f_spec_l05ReadBits : Func := Tryd.f64
theorem at_spec_l05ReadBits : prog.funcs[n_spec_l05ReadBits]? = some f_spec_l05ReadBits := Tryd.func64
theorem body_spec_l05ReadBits : f_spec_l05ReadBits.body = some (bodyOf f_spec_l05ReadBits) := by kernel_rfl
abbrev n_spec_l05Ok : Nat := 65
noncomputable abbrev f_spec_l05Ok : Func := Tryd.f65
theorem at_spec_l05Ok : prog.funcs[n_spec_l05Ok]? = some f_spec_l05Ok := Tryd.func65
theorem body_spec_l05Ok : f_spec_l05Ok.body = some (bodyOf f_spec_l05Ok) := by kernel_rfl
abbrev n_spec_l05Text : Nat := 66
noncomputable abbrev f_spec_l05Text : Func := Tryd.f66
theorem at_spec_l05Text : prog.funcs[n_spec_l05Text]? = some f_spec_l05Text := Tryd.func66
theorem body_spec_l05Text : f_spec_l05Text.body = some (bodyOf f_spec_l05Text) := by kernel_rfl
abbrev n_impl_linesOf : Nat := 67
noncomputable abbrev f_impl_linesOf : Func := Tryd.f67
theorem at_impl_linesOf : prog.funcs[n_impl_linesOf]? = some f_impl_linesOf := Tryd.func67
theorem body_impl_linesOf : f_impl_linesOf.body = some (bodyOf f_impl_linesOf) := by kernel_rfl
abbrev n_impl_rowsOf : Nat := 68
noncomputable abbrev f_impl_rowsOf : Func := Tryd.f68
theorem at_impl_rowsOf : prog.funcs[n_impl_rowsOf]? = some f_impl_rowsOf := Tryd.func68
theorem body_impl_rowsOf : f_impl_rowsOf.body = some (bodyOf f_impl_rowsOf) := by kernel_rfl
abbrev n_impl_ValidModel : Nat := 69
noncomputable abbrev f_impl_ValidModel : Func := Tryd.f69
theorem at_impl_ValidModel : prog.funcs[n_impl_ValidModel]? = some f_impl_ValidModel := Tryd.func69
theorem body_impl_ValidModel : f_impl_ValidModel.body = some (bodyOf f_impl_ValidModel) := by kernel_rfl
abbrev n_impl_modelText : Nat := 70
noncomputable abbrev f_impl_modelText : Func := Tryd.f70
theorem at_impl_modelText : prog.funcs[n_impl_modelText]? = some f_impl_modelText := Tryd.func70
theorem body_impl_modelText : f_impl_modelText.body = some (bodyOf f_impl_modelText) := by kernel_rfl
abbrev n_laws_eqSig : Nat := 71
noncomputable abbrev f_laws_eqSig : Func := Tryd.f71
theorem at_laws_eqSig : prog.funcs[n_laws_eqSig]? = some f_laws_eqSig := Tryd.func71
theorem body_laws_eqSig : f_laws_eqSig.body = some (bodyOf f_laws_eqSig) := by kernel_rfl
abbrev n_laws_eqBoolSS : Nat := 72
noncomputable abbrev f_laws_eqBoolSS : Func := Tryd.f72
theorem at_laws_eqBoolSS : prog.funcs[n_laws_eqBoolSS]? = some f_laws_eqBoolSS := Tryd.func72
theorem body_laws_eqBoolSS : f_laws_eqBoolSS.body = some (bodyOf f_laws_eqBoolSS) := by kernel_rfl
abbrev n_laws_eqBoolSSS : Nat := 73
noncomputable abbrev f_laws_eqBoolSSS : Func := Tryd.f73
theorem at_laws_eqBoolSSS : prog.funcs[n_laws_eqBoolSSS]? = some f_laws_eqBoolSSS := Tryd.func73
theorem body_laws_eqBoolSSS : f_laws_eqBoolSSS.body = some (bodyOf f_laws_eqBoolSSS) := by kernel_rfl
abbrev n_laws_markBoolSS : Nat := 74
noncomputable abbrev f_laws_markBoolSS : Func := Tryd.f74
theorem at_laws_markBoolSS : prog.funcs[n_laws_markBoolSS]? = some f_laws_markBoolSS := Tryd.func74
theorem body_laws_markBoolSS : f_laws_markBoolSS.body = some (bodyOf f_laws_markBoolSS) := by kernel_rfl
abbrev n_laws_markBoolSSS : Nat := 75
noncomputable abbrev f_laws_markBoolSSS : Func := Tryd.f75
theorem at_laws_markBoolSSS : prog.funcs[n_laws_markBoolSSS]? = some f_laws_markBoolSSS := Tryd.func75
theorem body_laws_markBoolSSS : f_laws_markBoolSSS.body = some (bodyOf f_laws_markBoolSSS) := by kernel_rfl
abbrev n_laws_heldBoolSS : Nat := 76
noncomputable abbrev f_laws_heldBoolSS : Func := Tryd.f76
theorem at_laws_heldBoolSS : prog.funcs[n_laws_heldBoolSS]? = some f_laws_heldBoolSS := Tryd.func76
theorem body_laws_heldBoolSS : f_laws_heldBoolSS.body = some (bodyOf f_laws_heldBoolSS) := by kernel_rfl
abbrev n_laws_heldBoolSSS : Nat := 77
noncomputable abbrev f_laws_heldBoolSSS : Func := Tryd.f77
theorem at_laws_heldBoolSSS : prog.funcs[n_laws_heldBoolSSS]? = some f_laws_heldBoolSSS := Tryd.func77
theorem body_laws_heldBoolSSS : f_laws_heldBoolSSS.body = some (bodyOf f_laws_heldBoolSSS) := by kernel_rfl
abbrev n_impl_within : Nat := 81
noncomputable abbrev f_impl_within : Func := Tryd.f81
theorem at_impl_within : prog.funcs[n_impl_within]? = some f_impl_within := Tryd.func81
theorem body_impl_within : f_impl_within.body = some (bodyOf f_impl_within) := by kernel_rfl
abbrev n_spec_Decimal : Nat := 96
noncomputable abbrev f_spec_Decimal : Func := Tryd.f96
theorem at_spec_Decimal : prog.funcs[n_spec_Decimal]? = some f_spec_Decimal := Tryd.func96
abbrev n_impl_decimal : Nat := 103
noncomputable abbrev f_impl_decimal : Func := Tryd.f103
theorem at_impl_decimal : prog.funcs[n_impl_decimal]? = some f_impl_decimal := Tryd.func103
abbrev n_spec_l05Tests : Nat := 105
noncomputable abbrev f_spec_l05Tests : Func := Tryd.f105
theorem at_spec_l05Tests : prog.funcs[n_spec_l05Tests]? = some f_spec_l05Tests := Tryd.func105
theorem body_spec_l05Tests : f_spec_l05Tests.body = some (bodyOf f_spec_l05Tests) := by kernel_rfl
abbrev n_spec_l05Bits : Nat := 106
noncomputable abbrev f_spec_l05Bits : Func := Tryd.f106
theorem at_spec_l05Bits : prog.funcs[n_spec_l05Bits]? = some f_spec_l05Bits := Tryd.func106
theorem body_spec_l05Bits : f_spec_l05Bits.body = some (bodyOf f_spec_l05Bits) := by kernel_rfl
abbrev n_impl_isFrame_bool : Nat := 107
noncomputable abbrev f_impl_isFrame_bool : Func := Tryd.f107
theorem at_impl_isFrame_bool : prog.funcs[n_impl_isFrame_bool]? = some f_impl_isFrame_bool := Tryd.func107
theorem body_impl_isFrame_bool : f_impl_isFrame_bool.body = some (bodyOf f_impl_isFrame_bool) := by kernel_rfl
abbrev n_impl_digits : Nat := 108
noncomputable abbrev f_impl_digits : Func := Tryd.f108
theorem at_impl_digits : prog.funcs[n_impl_digits]? = some f_impl_digits := Tryd.func108
theorem body_impl_digits : f_impl_digits.body = some (bodyOf f_impl_digits) := by kernel_rfl
abbrev n_laws_eqBoolS : Nat := 109
noncomputable abbrev f_laws_eqBoolS : Func := Tryd.f109
theorem at_laws_eqBoolS : prog.funcs[n_laws_eqBoolS]? = some f_laws_eqBoolS := Tryd.func109
theorem body_laws_eqBoolS : f_laws_eqBoolS.body = some (bodyOf f_laws_eqBoolS) := by kernel_rfl
abbrev n_laws_markBoolS : Nat := 110
noncomputable abbrev f_laws_markBoolS : Func := Tryd.f110
theorem at_laws_markBoolS : prog.funcs[n_laws_markBoolS]? = some f_laws_markBoolS := Tryd.func110
theorem body_laws_markBoolS : f_laws_markBoolS.body = some (bodyOf f_laws_markBoolS) := by kernel_rfl
abbrev n_laws_heldBoolS : Nat := 111
noncomputable abbrev f_laws_heldBoolS : Func := Tryd.f111
theorem at_laws_heldBoolS : prog.funcs[n_laws_heldBoolS]? = some f_laws_heldBoolS := Tryd.func111
theorem body_laws_heldBoolS : f_laws_heldBoolS.body = some (bodyOf f_laws_heldBoolS) := by kernel_rfl
abbrev n_impl_isTable_bool : Nat := 135
noncomputable abbrev f_impl_isTable_bool : Func := Tryd.f135
theorem at_impl_isTable_bool : prog.funcs[n_impl_isTable_bool]? = some f_impl_isTable_bool := Tryd.func135
theorem body_impl_isTable_bool : f_impl_isTable_bool.body = some (bodyOf f_impl_isTable_bool) := by kernel_rfl
end Go.Proofs.YtkogipcdjalehaaDoor

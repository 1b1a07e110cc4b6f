/- The types and the functions of the seat, by name. Printed by gen_tab.py. -/
import Derived.Test.YtkogipcdjalehaaDoorVmStFun
import Derived.Test.YtkogipcdjalehaaDoorChecked
set_option linter.unusedVariables false
namespace Go.Proofs.YtkogipcdjalehaaDoor
def tyTab : List (Nat × Ty × Nat × Nat) :=
 [(2, (.int .i64), 0, 0),
  (3, (.int .i64), 0, 0),
  (4, .bool, 0, 0),
  (5, (.int .u8), 0, 0),
  (9, .str, 0, 0),
  (12, (.int .u64), 0, 0),
  (23, (.st .sig), 0, 0),
  (24, (.slice (.int .i64)), 8, 2),
  (26, (.st .word), 0, 0),
  (29, (.st .sig), 0, 0),
  (34, (.slice (.st .expr)), 40, 36),
  (36, (.st .expr), 0, 0),
  (41, (.slice (.st .expr)), 40, 43),
  (43, (.st .expr), 0, 0),
  (44, (.slice (.st .prog)), 80, 46),
  (46, (.st .prog), 0, 0),
  (48, (.st .triple), 0, 0),
  (51, (.slice (.st .prog)), 80, 53),
  (53, (.st .prog), 0, 0),
  (55, (.st .triple), 0, 0),
  (59, (.slice (.slice .bool)), 24, 111),
  (60, (.slice (.slice (.slice .bool))), 24, 59),
  (62, (.st .model), 0, 0),
  (69, (.st .equation), 0, 0),
  (75, (.slice .str), 16, 9),
  (89, (.st .l01Reader), 0, 0),
  (111, (.slice .bool), 1, 4),
  (134, (.st .reader), 0, 0),
  (145, (.slice (.int .u8)), 1, 5),
  (158, (.int .u64), 0, 0),
  (194, (.int .u64), 0, 0)]
def ptyTab : List (Nat × Ty) :=
 [(80, (.st .word)), (87, (.st .l01Reader)), (92, (.st .expr)), (100, (.st .triple)), (103, (.st .prog)), (114, (.st .model)), (165, (.st .reader)), (175, (.int .u8))]
def mtyTab : List (Nat × Ty × Ty) := []
abbrev T_bool : Nat := 4
abbrev T_string : Nat := 9
abbrev T_laws_Sig : Nat := 23
noncomputable abbrev prog : Program := Tryd.prog
theorem tyTab_ok (c : Nat → List Arg → Option (Vc × List TV)) (wr own : List Nat) (oc : Nat → List Arg → Option (Vc × List TV)) (mk : Nat → Option MCtr) (cl : Nat → Option CloK) (ro : List Nat) (tk : Nat → List Bool) (sk : Nat → Option SK) (sc : Nat → List Arg → List (List TV) → Option (Vc × List TV × List (List TV))) : ((tyTab.all fun r => tyRowB prog (Env.mk tyTab ptyTab c wr own oc mk cl ro tk sk sc mtyTab) r.1 r.2.1 r.2.2.1 r.2.2.2) && mtyTab.all fun r => mapRowB prog (Env.mk tyTab ptyTab c wr own oc mk cl ro tk sk sc mtyTab) r.1 r.2.1 r.2.2) = true := by kernel_rfl
theorem prog_mixed : prog.follows .mixedOrders = true := Checked.mixed Tryd.checked
def bodyOf (f : Func) : Code := match f.body with
 | some c => c
 | none => .skip
abbrev n_laws_FnExactReadWord : Nat := 3
noncomputable abbrev f_laws_FnExactReadWord : Func := Tryd.f3
theorem at_laws_FnExactReadWord : prog.funcs[n_laws_FnExactReadWord]? = some f_laws_FnExactReadWord := Tryd.func3
theorem body_laws_FnExactReadWord : f_laws_FnExactReadWord.body = some (bodyOf f_laws_FnExactReadWord) := by kernel_rfl
abbrev n_spec_ReadWord : Nat := 8
noncomputable abbrev f_spec_ReadWord : Func := Tryd.f8
theorem at_spec_ReadWord : prog.funcs[n_spec_ReadWord]? = some f_spec_ReadWord := Tryd.func8
theorem body_spec_ReadWord : f_spec_ReadWord.body = some (bodyOf f_spec_ReadWord) := by kernel_rfl
abbrev n_laws_toSig : Nat := 9
noncomputable abbrev f_laws_toSig : Func := Tryd.f9
theorem at_laws_toSig : prog.funcs[n_laws_toSig]? = some f_laws_toSig := Tryd.func9
theorem body_laws_toSig : f_laws_toSig.body = some (bodyOf f_laws_toSig) := by kernel_rfl
abbrev n_impl_ReadWord : Nat := 10
noncomputable abbrev f_impl_ReadWord : Func := Tryd.f10
theorem at_impl_ReadWord : prog.funcs[n_impl_ReadWord]? = some f_impl_ReadWord := Tryd.func10
theorem body_impl_ReadWord : f_impl_ReadWord.body = some (bodyOf f_impl_ReadWord) := by kernel_rfl
abbrev n_laws_eqWord : Nat := 11
noncomputable abbrev f_laws_eqWord : Func := Tryd.f11
theorem at_laws_eqWord : prog.funcs[n_laws_eqWord]? = some f_laws_eqWord := Tryd.func11
theorem body_laws_eqWord : f_laws_eqWord.body = some (bodyOf f_laws_eqWord) := by kernel_rfl
abbrev n_laws_markWord : Nat := 12
noncomputable abbrev f_laws_markWord : Func := Tryd.f12
theorem at_laws_markWord : prog.funcs[n_laws_markWord]? = some f_laws_markWord := Tryd.func12
theorem body_laws_markWord : f_laws_markWord.body = some (bodyOf f_laws_markWord) := by kernel_rfl
abbrev n_laws_heldWord : Nat := 13
noncomputable abbrev f_laws_heldWord : Func := Tryd.f13
theorem at_laws_heldWord : prog.funcs[n_laws_heldWord]? = some f_laws_heldWord := Tryd.func13
theorem body_laws_heldWord : f_laws_heldWord.body = some (bodyOf f_laws_heldWord) := by kernel_rfl
abbrev n_spec_l01Sig : Nat := 34
noncomputable abbrev f_spec_l01Sig : Func := Tryd.f34
theorem at_spec_l01Sig : prog.funcs[n_spec_l01Sig]? = some f_spec_l01Sig := Tryd.func34
theorem body_spec_l01Sig : f_spec_l01Sig.body = some (bodyOf f_spec_l01Sig) := by kernel_rfl
abbrev n_spec_l01Split : Nat := 35
noncomputable abbrev f_spec_l01Split : Func := Tryd.f35
theorem at_spec_l01Split : prog.funcs[n_spec_l01Split]? = some f_spec_l01Split := Tryd.func35
theorem body_spec_l01Split : f_spec_l01Split.body = some (bodyOf f_spec_l01Split) := by kernel_rfl
abbrev n_spec_l01Number : Nat := 36
noncomputable abbrev f_spec_l01Number : Func := Tryd.f36
theorem at_spec_l01Number : prog.funcs[n_spec_l01Number]? = some f_spec_l01Number := Tryd.func36
theorem body_spec_l01Number : f_spec_l01Number.body = some (bodyOf f_spec_l01Number) := by kernel_rfl
abbrev n_spec_l01Word : Nat := 37
noncomputable abbrev f_spec_l01Word : Func := Tryd.f37
theorem at_spec_l01Word : prog.funcs[n_spec_l01Word]? = some f_spec_l01Word := Tryd.func37
theorem body_spec_l01Word : f_spec_l01Word.body = some (bodyOf f_spec_l01Word) := by kernel_rfl
abbrev n_impl_ValidSig : Nat := 38
noncomputable abbrev f_impl_ValidSig : Func := Tryd.f38
theorem at_impl_ValidSig : prog.funcs[n_impl_ValidSig]? = some f_impl_ValidSig := Tryd.func38
theorem body_impl_ValidSig : f_impl_ValidSig.body = some (bodyOf f_impl_ValidSig) := by kernel_rfl
abbrev n_strings_Split : Nat := 39
noncomputable abbrev f_strings_Split : Func := Tryd.f39
theorem at_strings_Split : prog.funcs[n_strings_Split]? = some f_strings_Split := Tryd.func39
abbrev n_strings_HasPrefix : Nat := 40
noncomputable abbrev f_strings_HasPrefix : Func := Tryd.f40
theorem at_strings_HasPrefix : prog.funcs[n_strings_HasPrefix]? = some f_strings_HasPrefix := Tryd.func40
theorem body_strings_HasPrefix : f_strings_HasPrefix.body = some (bodyOf f_strings_HasPrefix) := by kernel_rfl
abbrev n_impl_number : Nat := 41
noncomputable abbrev f_impl_number : Func := Tryd.f41
theorem at_impl_number : prog.funcs[n_impl_number]? = some f_impl_number := Tryd.func41
theorem body_impl_number : f_impl_number.body = some (bodyOf f_impl_number) := by kernel_rfl
abbrev n_impl_isWord : Nat := 42
noncomputable abbrev f_impl_isWord : Func := Tryd.f42
theorem at_impl_isWord : prog.funcs[n_impl_isWord]? = some f_impl_isWord := Tryd.func42
theorem body_impl_isWord : f_impl_isWord.body = some (bodyOf f_impl_isWord) := by kernel_rfl
abbrev n_laws_eqInt64S : Nat := 43
noncomputable abbrev f_laws_eqInt64S : Func := Tryd.f43
theorem at_laws_eqInt64S : prog.funcs[n_laws_eqInt64S]? = some f_laws_eqInt64S := Tryd.func43
theorem body_laws_eqInt64S : f_laws_eqInt64S.body = some (bodyOf f_laws_eqInt64S) := by kernel_rfl
abbrev n_laws_markInt64S : Nat := 44
noncomputable abbrev f_laws_markInt64S : Func := Tryd.f44
theorem at_laws_markInt64S : prog.funcs[n_laws_markInt64S]? = some f_laws_markInt64S := Tryd.func44
theorem body_laws_markInt64S : f_laws_markInt64S.body = some (bodyOf f_laws_markInt64S) := by kernel_rfl
abbrev n_laws_heldInt64S : Nat := 45
noncomputable abbrev f_laws_heldInt64S : Func := Tryd.f45
theorem at_laws_heldInt64S : prog.funcs[n_laws_heldInt64S]? = some f_laws_heldInt64S := Tryd.func45
theorem body_laws_heldInt64S : f_laws_heldInt64S.body = some (bodyOf f_laws_heldInt64S) := by kernel_rfl
abbrev n_spec_l00In : Nat := 63
noncomputable abbrev f_spec_l00In : Func := Tryd.f63
theorem at_spec_l00In : prog.funcs[n_spec_l00In]? = some f_spec_l00In := Tryd.func63
theorem body_spec_l00In : f_spec_l00In.body = some (bodyOf f_spec_l00In) := by kernel_rfl
abbrev n_spec_l01Atoms : Nat := 80
noncomputable abbrev f_spec_l01Atoms : Func := Tryd.f80
theorem at_spec_l01Atoms : prog.funcs[n_spec_l01Atoms]? = some f_spec_l01Atoms := Tryd.func80
theorem body_spec_l01Atoms : f_spec_l01Atoms.body = some (bodyOf f_spec_l01Atoms) := by kernel_rfl
abbrev n_impl_within : Nat := 81
noncomputable abbrev f_impl_within : Func := Tryd.f81
theorem at_impl_within : prog.funcs[n_impl_within]? = some f_impl_within := Tryd.func81
theorem body_impl_within : f_impl_within.body = some (bodyOf f_impl_within) := by kernel_rfl
abbrev n_internal_stringslite_HasPrefix : Nat := 83
noncomputable abbrev f_internal_stringslite_HasPrefix : Func := Tryd.f83
theorem at_internal_stringslite_HasPrefix : prog.funcs[n_internal_stringslite_HasPrefix]? = some f_internal_stringslite_HasPrefix := Tryd.func83
theorem body_internal_stringslite_HasPrefix : f_internal_stringslite_HasPrefix.body = some (bodyOf f_internal_stringslite_HasPrefix) := by kernel_rfl
abbrev n_impl_isTrace : Nat := 84
noncomputable abbrev f_impl_isTrace : Func := Tryd.f84
theorem at_impl_isTrace : prog.funcs[n_impl_isTrace]? = some f_impl_isTrace := Tryd.func84
theorem body_impl_isTrace : f_impl_isTrace.body = some (bodyOf f_impl_isTrace) := by kernel_rfl
abbrev n_impl_inRange : Nat := 117
noncomputable abbrev f_impl_inRange : Func := Tryd.f117
theorem at_impl_inRange : prog.funcs[n_impl_inRange]? = some f_impl_inRange := Tryd.func117
theorem body_impl_inRange : f_impl_inRange.body = some (bodyOf f_impl_inRange) := by kernel_rfl
abbrev n_impl_atomsIn : Nat := 118
noncomputable abbrev f_impl_atomsIn : Func := Tryd.f118
theorem at_impl_atomsIn : prog.funcs[n_impl_atomsIn]? = some f_impl_atomsIn := Tryd.func118
theorem body_impl_atomsIn : f_impl_atomsIn.body = some (bodyOf f_impl_atomsIn) := by kernel_rfl
end Go.Proofs.YtkogipcdjalehaaDoor

/- The law FnExactTripleText. Printed by vmk.py. -/
import Derived.Test.YtkogipcdjalehaaDoorVmUse
import Derived.Test.YtkogipcdjalehaaDoorVmLib
import Derived.Test.YtkogipcdjalehaaDoorVmSz
import Derived.Test.YtkogipcdjalehaaDoorVmTo
import Derived.Test.YtkogipcdjalehaaDoorVmEq
import Derived.Test.YtkogipcdjalehaaDoorVmPText
set_option linter.unusedVariables false
set_option linter.unusedSimpArgs false
set_option linter.unusedSectionVars false
set_option maxRecDepth 4000
set_option maxHeartbeats 4000000
namespace Go.Proofs.YtkogipcdjalehaaDoor
noncomputable section
def okT (gg : GSig) (t : GTriple) : Bool := okP gg t.prog && isC gg t.pre && isC gg t.post
theorem okT_eq (gg : GSig) (t : GTriple) : okT gg t = (okC gg t.pre && okC gg t.post && okP gg t.prog) := by
 simp only [okT, okC_eqP, okP]
 cases sigOk gg <;> cases isP gg t.prog <;> cases isC gg t.pre <;> cases isC gg t.post <;> rfl
def txT (t : GTriple) : List UInt8 := [91] ++ txE t.pre ++ [93, 32] ++ txP t.prog ++ [32, 91] ++ txE t.post ++ [93]
def tripT (gg : GSig) (t : GTriple) : List UInt8 := bif okT gg t then txT t else []
structure TT (t : GTriple) : Prop where
 g1 : goodT t.pre = true
 l1 : (txE t.pre).length ≤ 1000
 g2 : goodT t.post = true
 l2 : (txE t.post).length ≤ 1000
 g3 : goodP t.prog
 l3 : (txP t.prog).length ≤ 70000
theorem tt_of (gg : GSig) (t : GTriple) (h : okT gg t = true) : TT t ∧ tripT gg t = txT t := by
 have h' := h
 simp only [okT, okP, Bool.and_eq_true] at h
 obtain ⟨⟨⟨h1, h2⟩, h3⟩, h4⟩ := h
 have k3 := isC_goodT gg _ h1 h3
 have k4 := isC_goodT gg _ h1 h4
 simp only [isP, shPB, Bool.and_eq_true, decide_eq_true_eq] at h2
 have kp : goodP t.prog := ⟨gg, h1, h2.1.1⟩
 have := txP_len (msz t.prog + 1) t.prog (Nat.lt_succ_self _) kp
 exact ⟨⟨k3.1, k3.2, k4.1, k4.2, kp, by have := h2.1.2; omega⟩, by simp [tripT, h']⟩
theorem tt_no (gg : GSig) (t : GTriple) (h : okT gg t = false) : tripT gg t = [] := by simp [tripT, h]
def k_impl_ValidTriple : Ctr := ⟨n_impl_ValidTriple, [.v (.st .sig), .v (.st .triple)], fun (gg : GSig) (x : GTriple) => ⟨(none, [⟨.bool, okT gg x⟩])⟩⟩
def l_impl_ValidTriple (gg : GSig) (x : GTriple) : Nat → LoopInv := fun _ => .none
theorem vc_impl_ValidTriple (gg : GSig) (x : GTriple) : awp (envOf [k_impl_ValidProg, k_impl_isCondition] [] [] [2, 3]) (bodyOf f_impl_ValidTriple) (l_impl_ValidTriple gg x) 0 (funPost (envOf [k_impl_ValidProg, k_impl_isCondition] [] [] [2, 3]) f_impl_ValidTriple fun r => areEq r [⟨.bool, okT gg x⟩]) (startState f_impl_ValidTriple [.val ⟨(.st .sig), gg⟩, .val ⟨(.st .triple), x⟩]) =
 ((((okP gg x.prog) = true →
 (((isC gg x.pre) = true →
 (isC gg x.post) = (okT gg x)) ∧ ((isC gg x.pre) = (!true) →
 false = (okT gg x)))) ∧ ((okP gg x.prog) = (!true) →
 ((false = true →
 (isC gg x.post) = (okT gg x)) ∧ (false = (!true) →
 false = (okT gg x)))))) := by kernel_rfl
theorem ok_impl_ValidTriple (hE : AllGood [k_impl_ValidProg, k_impl_isCondition]) : Ctr.Good k_impl_ValidTriple := by
 refine ⟨fnOk_of at_impl_ValidTriple rfl (by decide), ?_⟩
 show ∀ (gg : GSig) (x : GTriple), True → OkCall prog n_impl_ValidTriple [.val ⟨(.st .sig), gg⟩, .val ⟨(.st .triple), x⟩] (· = [⟨.bool, okT gg x⟩])
 intro gg x _
 refine ok_of_awp (wr := []) (cl := []) (ro := [2, 3]) hE at_impl_ValidTriple body_impl_ValidTriple (l_impl_ValidTriple gg x) ?_
 rewrite [vc_impl_ValidTriple gg x]
 refine ⟨fun a0 => ⟨fun a1 => ?_, fun a1 => ?_⟩, fun a0 => ⟨fun a1 => ?_, fun a1 => ?_⟩⟩
 all_goals try and_intros
 all_goals first | rfl | trivial | grind [okT]
theorem good_impl_ValidTriple : Ctr.Good k_impl_ValidTriple := ok_impl_ValidTriple ⟨good_impl_ValidProg, good_impl_isCondition, trivial⟩
def k_spec_l07Triple : Ctr := ⟨n_spec_l07Triple, [.v (.st .sig), .r (.st .triple)], fun (gg : GSig) (x : GTriple) => ⟨(none, [⟨.bool, okT gg x⟩])⟩⟩
def l_spec_l07Triple (gg : GSig) (x : GTriple) : Nat → LoopInv := fun _ => .none
theorem vc_spec_l07Triple (gg : GSig) (x : GTriple) : awp (envOf [k_spec_l06Cond, k_spec_l06Ok] [] [] [2]) (bodyOf f_spec_l07Triple) (l_spec_l07Triple gg x) 0 (funPost (envOf [k_spec_l06Cond, k_spec_l06Ok] [] [] [2]) f_spec_l07Triple fun r => areEq r [⟨.bool, okT gg x⟩]) (startState f_spec_l07Triple [.val ⟨(.st .sig), gg⟩, .ref ⟨(.st .triple), x⟩]) =
 ((((okC gg x.pre) = true →
 (((okC gg x.post) = true →
 (okP gg x.prog) = (okT gg x)) ∧ ((okC gg x.post) = (!true) →
 false = (okT gg x)))) ∧ ((okC gg x.pre) = (!true) →
 ((false = true →
 (okP gg x.prog) = (okT gg x)) ∧ (false = (!true) →
 false = (okT gg x)))))) := by kernel_rfl
theorem ok_spec_l07Triple (hE : AllGood [k_spec_l06Cond, k_spec_l06Ok]) : Ctr.Good k_spec_l07Triple := by
 refine ⟨fnOk_of at_spec_l07Triple rfl (by decide), ?_⟩
 show ∀ (gg : GSig) (x : GTriple), True → OkCall prog n_spec_l07Triple [.val ⟨(.st .sig), gg⟩, .ref ⟨(.st .triple), x⟩] (· = [⟨.bool, okT gg x⟩])
 intro gg x _
 refine ok_of_awp (wr := []) (cl := []) (ro := [2]) hE at_spec_l07Triple body_spec_l07Triple (l_spec_l07Triple gg x) ?_
 rewrite [vc_spec_l07Triple gg x]
 refine ⟨fun a0 => ⟨fun a1 => ?_, fun a1 => ?_⟩, fun a0 => ⟨fun a1 => ?_, fun a1 => ?_⟩⟩
 all_goals try and_intros
 all_goals try rw [okT_eq]
 all_goals first | rfl | trivial | grind
theorem good_spec_l07Triple : Ctr.Good k_spec_l07Triple := ok_spec_l07Triple ⟨good_spec_l06Cond, good_spec_l06Ok, trivial⟩
def k_spec_TripleText : Ctr := ⟨n_spec_TripleText, [.v (.st .sig), .v (.st .triple)], fun (gg : GSig) (x : GTriple) => ⟨(none, [⟨.str, tripT gg x⟩])⟩⟩
def l_spec_TripleText (gg : GSig) (x : GTriple) : Nat → LoopInv := fun _ => .none
theorem vc_spec_TripleText (gg : GSig) (x : GTriple) : awp (envOf [k_spec_l07Triple, k_spec_l01Text, k_spec_l06Text] [] [] [2, 3]) (bodyOf f_spec_TripleText) (l_spec_TripleText gg x) 0 (funPost (envOf [k_spec_l07Triple, k_spec_l01Text, k_spec_l06Text] [] [] [2, 3]) f_spec_TripleText fun r => areEq r [⟨.str, tripT gg x⟩]) (startState f_spec_TripleText [.val ⟨(.st .sig), gg⟩, .val ⟨(.st .triple), x⟩]) =
 ((((!(okT gg x)) = true →
 [] = (tripT gg x)) ∧ ((!(okT gg x)) = false →
 ((goodT x.pre = true ∧ (txE x.pre).length ≤ 1000000) ∧ ((txE x.pre).length ≤ 140737488355328 →
 (([91]).length + (txE x.pre).length ≤ 140737488355328 ∧ ((([91]) ++ (txE x.pre)).length + ([93, 32]).length ≤ 140737488355328 ∧ ((goodP x.prog ∧ (txP x.prog).length ≤ 1000000) ∧ ((txP x.prog).length ≤ 140737488355328 →
 (((([91]) ++ (txE x.pre)) ++ ([93, 32])).length + (txP x.prog).length ≤ 140737488355328 ∧ ((((([91]) ++ (txE x.pre)) ++ ([93, 32])) ++ (txP x.prog)).length + ([32, 91]).length ≤ 140737488355328 ∧ ((goodT x.post = true ∧ (txE x.post).length ≤ 1000000) ∧ ((txE x.post).length ≤ 140737488355328 →
 (((((([91]) ++ (txE x.pre)) ++ ([93, 32])) ++ (txP x.prog)) ++ ([32, 91])).length + (txE x.post).length ≤ 140737488355328 ∧ ((((((([91]) ++ (txE x.pre)) ++ ([93, 32])) ++ (txP x.prog)) ++ ([32, 91])) ++ (txE x.post)).length + ([93]).length ≤ 140737488355328 ∧ ((((((([91]) ++ (txE x.pre)) ++ ([93, 32])) ++ (txP x.prog)) ++ ([32, 91])) ++ (txE x.post)) ++ ([93])) = (tripT gg x)))))))))))))))) := by kernel_rfl
theorem ok_spec_TripleText (hE : AllGood [k_spec_l07Triple, k_spec_l01Text, k_spec_l06Text]) : Ctr.Good k_spec_TripleText := by
 refine ⟨fnOk_of at_spec_TripleText rfl (by decide), ?_⟩
 show ∀ (gg : GSig) (x : GTriple), True → OkCall prog n_spec_TripleText [.val ⟨(.st .sig), gg⟩, .val ⟨(.st .triple), x⟩] (· = [⟨.str, tripT gg x⟩])
 intro gg x _
 refine ok_of_awp (wr := []) (cl := []) (ro := [2, 3]) hE at_spec_TripleText body_spec_TripleText (l_spec_TripleText gg x) ?_
 rewrite [vc_spec_TripleText gg x]
 refine ⟨fun a0 => ?_, fun a0 => ⟨?_, fun a1 => ⟨?_, ⟨?_, ⟨?_, fun a2 => ⟨?_, ⟨?_, ⟨?_, fun a3 => ⟨?_, ⟨?_, ?_⟩⟩⟩⟩⟩⟩⟩⟩⟩⟩
 all_goals try and_intros
 all_goals ((try simp only [Bool.not_eq_true', Bool.not_eq_false'] at *); first | rfl | exact (tt_no gg x (by assumption)).symm | (have t0 := tt_of gg x (by assumption); obtain ⟨tt, te⟩ := t0; first | exact te.symm | exact tt.g1 | exact tt.g2 | exact tt.g3 | (have q1 := tt.l1; have q2 := tt.l2; have q3 := tt.l3; (try simp only [List.length_append, List.length_cons, List.length_nil]); omega)))
theorem good_spec_TripleText : Ctr.Good k_spec_TripleText := ok_spec_TripleText ⟨good_spec_l07Triple, good_spec_l01Text, good_spec_l06Text, trivial⟩
def k_impl_TripleText : Ctr := ⟨n_impl_TripleText, [.v (.st .sig), .v (.st .triple)], fun (gg : GSig) (x : GTriple) => ⟨(none, [⟨.str, tripT gg x⟩])⟩⟩
def l_impl_TripleText (gg : GSig) (x : GTriple) : Nat → LoopInv := fun _ => .none
theorem vc_impl_TripleText (gg : GSig) (x : GTriple) : awp (envOf [k_impl_ValidTriple, k_impl_textOf, k_impl_progText] [] [] [2, 3]) (bodyOf f_impl_TripleText) (l_impl_TripleText gg x) 0 (funPost (envOf [k_impl_ValidTriple, k_impl_textOf, k_impl_progText] [] [] [2, 3]) f_impl_TripleText fun r => areEq r [⟨.str, tripT gg x⟩]) (startState f_impl_TripleText [.val ⟨(.st .sig), gg⟩, .val ⟨(.st .triple), x⟩]) =
 ((((!(okT gg x)) = true →
 [] = (tripT gg x)) ∧ ((!(okT gg x)) = false →
 ((goodT x.pre = true ∧ (txE x.pre).length ≤ 1000000) ∧ (([91]).length + (txE x.pre).length ≤ 140737488355328 ∧ ((([91]) ++ (txE x.pre)).length + ([93, 32]).length ≤ 140737488355328 ∧ ((goodP x.prog ∧ (txP x.prog).length ≤ 1000000) ∧ (((([91]) ++ (txE x.pre)) ++ ([93, 32])).length + (txP x.prog).length ≤ 140737488355328 ∧ ((((([91]) ++ (txE x.pre)) ++ ([93, 32])) ++ (txP x.prog)).length + ([32, 91]).length ≤ 140737488355328 ∧ ((goodT x.post = true ∧ (txE x.post).length ≤ 1000000) ∧ ((txE x.pre).length ≤ 140737488355328 →
 ((txP x.prog).length ≤ 140737488355328 →
 ((txE x.post).length ≤ 140737488355328 →
 (((((([91]) ++ (txE x.pre)) ++ ([93, 32])) ++ (txP x.prog)) ++ ([32, 91])).length + (txE x.post).length ≤ 140737488355328 ∧ ((((((([91]) ++ (txE x.pre)) ++ ([93, 32])) ++ (txP x.prog)) ++ ([32, 91])) ++ (txE x.post)).length + ([93]).length ≤ 140737488355328 ∧ ((((((([91]) ++ (txE x.pre)) ++ ([93, 32])) ++ (txP x.prog)) ++ ([32, 91])) ++ (txE x.post)) ++ ([93])) = (tripT gg x)))))))))))))))) := by kernel_rfl
theorem ok_impl_TripleText (hE : AllGood [k_impl_ValidTriple, k_impl_textOf, k_impl_progText]) : Ctr.Good k_impl_TripleText := by
 refine ⟨fnOk_of at_impl_TripleText rfl (by decide), ?_⟩
 show ∀ (gg : GSig) (x : GTriple), True → OkCall prog n_impl_TripleText [.val ⟨(.st .sig), gg⟩, .val ⟨(.st .triple), x⟩] (· = [⟨.str, tripT gg x⟩])
 intro gg x _
 refine ok_of_awp (wr := []) (cl := []) (ro := [2, 3]) hE at_impl_TripleText body_impl_TripleText (l_impl_TripleText gg x) ?_
 rewrite [vc_impl_TripleText gg x]
 refine ⟨fun a0 => ?_, fun a0 => ⟨?_, ⟨?_, ⟨?_, ⟨?_, ⟨?_, ⟨?_, ⟨?_, fun a1 => fun a2 => fun a3 => ⟨?_, ⟨?_, ?_⟩⟩⟩⟩⟩⟩⟩⟩⟩⟩
 all_goals try and_intros
 all_goals ((try simp only [Bool.not_eq_true', Bool.not_eq_false'] at *); first | rfl | exact (tt_no gg x (by assumption)).symm | (have t0 := tt_of gg x (by assumption); obtain ⟨tt, te⟩ := t0; first | exact te.symm | exact tt.g1 | exact tt.g2 | exact tt.g3 | (have q1 := tt.l1; have q2 := tt.l2; have q3 := tt.l3; (try simp only [List.length_append, List.length_cons, List.length_nil]); omega)))
theorem good_impl_TripleText : Ctr.Good k_impl_TripleText := ok_impl_TripleText ⟨good_impl_ValidTriple, good_impl_textOf, good_impl_progText, trivial⟩
def k_laws_FnExactTripleText : Ctr := ⟨n_laws_FnExactTripleText, [.v (.st .sig), .v (.st .triple)], fun (gg : GSig) (x : GTriple) => ⟨(none, [⟨.bool, true⟩])⟩⟩
def l_laws_FnExactTripleText (gg : GSig) (x : GTriple) : Nat → LoopInv := fun _ => .none
theorem vc_laws_FnExactTripleText (gg : GSig) (x : GTriple) : awp (envOf [k_laws_szTriple, k_laws_toTriple, k_laws_toSig, k_spec_TripleText, k_impl_TripleText, k_laws_eqTriple] [] [] [2, 3]) (bodyOf f_laws_FnExactTripleText) (l_laws_FnExactTripleText gg x) 0 (funPost (envOf [k_laws_szTriple, k_laws_toTriple, k_laws_toSig, k_spec_TripleText, k_impl_TripleText, k_laws_eqTriple] [] [] [2, 3]) f_laws_FnExactTripleText fun r => areEq r [⟨.bool, true⟩]) (startState f_laws_FnExactTripleText [.val ⟨(.st .sig), gg⟩, .val ⟨(.st .triple), x⟩]) =
 (((0 ≤ (1048576 : Int) ∧ (1048576 : Int) ≤ 1048576) ∧ (inI64 (szR (sz_triple x) (1048576 : Int)) →
 (((decide ((szR (sz_triple x) (1048576 : Int)) < (0 : Int))) = true →
 true = true) ∧ ((decide ((szR (sz_triple x) (1048576 : Int)) < (0 : Int))) = false →
 (sz_triple x ≤ 1048576 ∧ ((tripT gg x).length ≤ 140737488355328 →
 (sz_triple x ≤ 1048576 ∧ ((tripT gg (e_triple x)).length ≤ 140737488355328 →
 (((!decide ((tripT gg (e_triple x)) = (tripT gg x))) = true →
 false = true) ∧ ((!decide ((tripT gg (e_triple x)) = (tripT gg x))) = false →
 (sz_triple x ≤ 1048576 ∧ (((!(eqB (e_triple x) x)) = true →
 false = true) ∧ ((!(eqB (e_triple x) x)) = false →
 true = true)))))))))))))) := by kernel_rfl
theorem ok_laws_FnExactTripleText (hE : AllGood [k_laws_szTriple, k_laws_toTriple, k_laws_toSig, k_spec_TripleText, k_impl_TripleText, k_laws_eqTriple]) : Ctr.Good k_laws_FnExactTripleText := by
 refine ⟨fnOk_of at_laws_FnExactTripleText rfl (by decide), ?_⟩
 show ∀ (gg : GSig) (x : GTriple), True → OkCall prog n_laws_FnExactTripleText [.val ⟨(.st .sig), gg⟩, .val ⟨(.st .triple), x⟩] (· = [⟨.bool, true⟩])
 intro gg x _
 refine ok_of_awp (wr := []) (cl := []) (ro := [2, 3]) hE at_laws_FnExactTripleText body_laws_FnExactTripleText (l_laws_FnExactTripleText gg x) ?_
 rewrite [vc_laws_FnExactTripleText gg x]
 have f0 := szR_or (sz_triple x) 1048576
 refine ⟨?_, fun a0 => ⟨fun a1 => rfl, fun a1 => ⟨?_, fun a2 => ⟨?_, fun a3 => ⟨fun a4 => ?_, fun a4 => ⟨?_, ⟨fun a5 => ?_, fun a5 => rfl⟩⟩⟩⟩⟩⟩⟩
 all_goals try and_intros
 all_goals try simp only [GExpr.eta, GProg.eta, GDerivation.eta, GTriple.eta, GPremise.eta, GClaim.eta, GEquation.eta, GPair.eta, GSpot.eta, e_expr_eq, e_pair_eq, e_equation_eq, e_claim_eq, e_prog_eq, e_spot_eq, e_triple_eq, e_premise_eq, e_derivation_eq] at *
 all_goals first | rfl | trivial | omega | (simp only [decide_eq_true_eq, decide_eq_false_iff_not, idxOk, inI64, inKind, cutOk, makeOk, roomOk] at *; omega) | (simp [idxOk, inI64] at *; omega) | grind | (simp_all; done)
theorem good_laws_FnExactTripleText : Ctr.Good k_laws_FnExactTripleText := ok_laws_FnExactTripleText ⟨good_laws_szTriple, good_laws_toTriple, good_laws_toSig, good_spec_TripleText, good_impl_TripleText, good_laws_eqTriple, trivial⟩
theorem law_FnExactTripleText : ∀ tvs : List TV, tvs.map TV.τ = [(.st .sig), (.st .triple)] → OkCall prog n_laws_FnExactTripleText (tvs.map .val) (· = [⟨.bool, true⟩]) := by
 intro tvs h
 match tvs, h with
 | [⟨t0, a0⟩, ⟨t1, a1⟩], h =>
  simp only [List.map_cons, List.map_nil, List.cons.injEq, and_true] at h
  obtain ⟨rfl, rfl⟩ := h
  exact good_laws_FnExactTripleText.2 a0 a1 trivial
end
end Go.Proofs.YtkogipcdjalehaaDoor

/- Axioms, on both sides. Printed by vmk.py. -/
import Derived.Test.YtbphjcgkidlabaaDoorVmUse
import Derived.Test.YtbphjcgkidlabaaDoorVmLib
import Derived.Test.YtbphjcgkidlabaaDoorVmEqn
import Derived.Test.YtbphjcgkidlabaaDoorVmHeld
set_option linter.unusedVariables false
set_option linter.unusedSimpArgs false
set_option linter.unusedSectionVars false
set_option maxRecDepth 4000
set_option maxHeartbeats 4000000
namespace Go.Proofs.YtbphjcgkidlabaaDoor
noncomputable section
def gP : GSig := GSig.mk (3 : Int) (4 : Int)
def axT : List (List UInt8) := [[40, 97, 48, 32, 43, 32, 40, 97, 49, 32, 43, 32, 97, 50, 41, 41, 32, 61, 32, 40, 40, 97, 48, 32, 43, 32, 97, 49, 41, 32, 43, 32, 97, 50, 41], [40, 97, 48, 32, 43, 32, 97, 49, 41, 32, 61, 32, 40, 97, 49, 32, 43, 32, 97, 48, 41], [40, 97, 48, 32, 43, 32, 48, 41, 32, 61, 32, 97, 48], [40, 97, 48, 32, 43, 32, 97, 48, 41, 32, 61, 32, 97, 48], [40, 97, 48, 32, 40, 97, 49, 32, 97, 50, 41, 41, 32, 61, 32, 40, 40, 97, 48, 32, 97, 49, 41, 32, 97, 50, 41], [40, 49, 32, 97, 48, 41, 32, 61, 32, 97, 48], [40, 97, 48, 32, 49, 41, 32, 61, 32, 97, 48], [40, 97, 48, 32, 40, 97, 49, 32, 43, 32, 97, 50, 41, 41, 32, 61, 32, 40, 40, 97, 48, 32, 97, 49, 41, 32, 43, 32, 40, 97, 48, 32, 97, 50, 41, 41], [40, 40, 97, 48, 32, 43, 32, 97, 49, 41, 32, 97, 50, 41, 32, 61, 32, 40, 40, 97, 48, 32, 97, 50, 41, 32, 43, 32, 40, 97, 49, 32, 97, 50, 41, 41], [40, 48, 32, 97, 48, 41, 32, 61, 32, 48], [40, 97, 48, 32, 48, 41, 32, 61, 32, 48], [40, 49, 32, 43, 32, 40, 97, 48, 32, 97, 48, 42, 41, 41, 32, 61, 32, 97, 48, 42], [40, 49, 32, 43, 32, 40, 97, 48, 42, 32, 97, 48, 41, 41, 32, 61, 32, 97, 48, 42], [40, 116, 48, 32, 116, 48, 41, 32, 61, 32, 116, 48], [40, 116, 48, 32, 116, 49, 41, 32, 61, 32, 40, 116, 49, 32, 116, 48, 41], [40, 116, 48, 32, 43, 32, 126, 116, 48, 41, 32, 61, 32, 49], [40, 116, 48, 32, 126, 116, 48, 41, 32, 61, 32, 48], [126, 126, 116, 48, 32, 61, 32, 116, 48], [126, 40, 116, 48, 32, 43, 32, 116, 49, 41, 32, 61, 32, 40, 126, 116, 48, 32, 126, 116, 49, 41], [126, 40, 116, 48, 32, 116, 49, 41, 32, 61, 32, 40, 126, 116, 48, 32, 43, 32, 126, 116, 49, 41], [126, 48, 32, 61, 32, 49], [126, 49, 32, 61, 32, 48], [40, 116, 48, 32, 43, 32, 49, 41, 32, 61, 32, 49], [40, 40, 116, 48, 32, 43, 32, 116, 49, 41, 32, 40, 116, 48, 32, 43, 32, 116, 50, 41, 41, 32, 61, 32, 40, 116, 48, 32, 43, 32, 40, 116, 49, 32, 116, 50, 41, 41]]
def axQ : List GEquation := axT.map (rqV gP)
theorem axT_len : axT.length = 24 := rfl
theorem ax_ok : axT.all (fun t => rqOk gP t && decide (t.length ≤ 100)) = true := by kernel_rfl
theorem ax_at (i : Nat) (h : i < 24) : rqOk gP (axT.getD i []) = true ∧ (axT.getD i []).length ≤ 100 ∧ rqS gP (axT.getD i []) = rqV gP (axT.getD i []) := by
 have hm : axT.getD i [] ∈ axT := by
  rw [List.getD_eq_getElem?_getD, List.getElem?_eq_getElem (by rw [axT_len]; exact h)]
  exact List.getElem_mem _
 have := List.all_eq_true.1 ax_ok _ hm
 rw [Bool.and_eq_true, decide_eq_true_eq] at this
 exact ⟨this.1, this.2, rqS_ok gP _ (by decide) this.1⟩
def axP (i : Nat) : List GEquation := (axT.take i).map (rqV gP)
theorem axP_step (i : Nat) (h : i < 24) : axP (i + 1) = axP i ++ [rqV gP (axT.getD i [])] := by
 unfold axP
 rw [take_snoc [] axT i (by rw [axT_len]; exact h)]
 simp
theorem axP_all (i : Nat) (h : 24 ≤ i) : axP i = axQ := by
 unfold axP axQ
 rw [List.take_of_length_le (by rw [axT_len]; exact h)]
theorem axP_len (i : Nat) (h : i ≤ 24) : (axP i).length = i := by
 unfold axP
 rw [List.length_map, List.length_take, axT_len]; omega
def k_impl_patternSig : Ctr := ⟨n_impl_patternSig, [], ⟨(none, [⟨(.st .sig), gP⟩])⟩⟩
def l_impl_patternSig  : Nat → LoopInv := fun _ => .none
theorem vc_impl_patternSig  : awp (envOf []) (bodyOf f_impl_patternSig) (l_impl_patternSig ) 0 (funPost (envOf []) f_impl_patternSig fun r => areEq r [⟨(.st .sig), gP⟩]) (startState f_impl_patternSig []) =
 ((GSig.mk (3 : Int) (4 : Int)) = gP) := by kernel_rfl
theorem ok_impl_patternSig (hE : AllGood []) : Ctr.Good k_impl_patternSig := by
 refine ⟨fnOk_of at_impl_patternSig rfl (by decide), ?_⟩
 show True → OkCall prog n_impl_patternSig [] (· = [⟨(.st .sig), gP⟩])
 intro  _
 refine ok_of_awp (wr := []) (cl := []) (ro := []) hE at_impl_patternSig body_impl_patternSig (l_impl_patternSig ) ?_
 rewrite [vc_impl_patternSig ]
 refine ?_
 all_goals try and_intros
 all_goals first | rfl | trivial | omega | (simp only [decide_eq_true_eq, decide_eq_false_iff_not, idxOk, inI64, inKind, cutOk, makeOk, roomOk] at *; omega) | (simp [idxOk, inI64] at *; omega) | grind
theorem good_impl_patternSig : Ctr.Good k_impl_patternSig := ok_impl_patternSig trivial
def k_spec_l04Wide : Ctr := ⟨n_spec_l04Wide, [], ⟨(none, [⟨(.st .sig), gP⟩])⟩⟩
def l_spec_l04Wide  : Nat → LoopInv := fun _ => .none
theorem vc_spec_l04Wide  : awp (envOf []) (bodyOf f_spec_l04Wide) (l_spec_l04Wide ) 0 (funPost (envOf []) f_spec_l04Wide fun r => areEq r [⟨(.st .sig), gP⟩]) (startState f_spec_l04Wide []) =
 ((GSig.mk (3 : Int) (4 : Int)) = gP) := by kernel_rfl
theorem ok_spec_l04Wide (hE : AllGood []) : Ctr.Good k_spec_l04Wide := by
 refine ⟨fnOk_of at_spec_l04Wide rfl (by decide), ?_⟩
 show True → OkCall prog n_spec_l04Wide [] (· = [⟨(.st .sig), gP⟩])
 intro  _
 refine ok_of_awp (wr := []) (cl := []) (ro := []) hE at_spec_l04Wide body_spec_l04Wide (l_spec_l04Wide ) ?_
 rewrite [vc_spec_l04Wide ]
 refine ?_
 all_goals try and_intros
 all_goals first | rfl | trivial | omega | (simp only [decide_eq_true_eq, decide_eq_false_iff_not, idxOk, inI64, inKind, cutOk, makeOk, roomOk] at *; omega) | (simp [idxOk, inI64] at *; omega) | grind
theorem good_spec_l04Wide : Ctr.Good k_spec_l04Wide := ok_spec_l04Wide trivial
def k_spec_l04AxiomTexts : Ctr := ⟨n_spec_l04AxiomTexts, [], ⟨(none, [⟨(.slice .str), axT⟩])⟩⟩
def l_spec_l04AxiomTexts  : Nat → LoopInv := fun _ => .none
theorem vc_spec_l04AxiomTexts  : awp (envOf []) (bodyOf f_spec_l04AxiomTexts) (l_spec_l04AxiomTexts ) 0 (funPost (envOf []) f_spec_l04AxiomTexts fun r => areEq r [⟨(.slice .str), axT⟩]) (startState f_spec_l04AxiomTexts []) =
 (([([40, 97, 48, 32, 43, 32, 40, 97, 49, 32, 43, 32, 97, 50, 41, 41, 32, 61, 32, 40, 40, 97, 48, 32, 43, 32, 97, 49, 41, 32, 43, 32, 97, 50, 41]), ([40, 97, 48, 32, 43, 32, 97, 49, 41, 32, 61, 32, 40, 97, 49, 32, 43, 32, 97, 48, 41]), ([40, 97, 48, 32, 43, 32, 48, 41, 32, 61, 32, 97, 48]), ([40, 97, 48, 32, 43, 32, 97, 48, 41, 32, 61, 32, 97, 48]), ([40, 97, 48, 32, 40, 97, 49, 32, 97, 50, 41, 41, 32, 61, 32, 40, 40, 97, 48, 32, 97, 49, 41, 32, 97, 50, 41]), ([40, 49, 32, 97, 48, 41, 32, 61, 32, 97, 48]), ([40, 97, 48, 32, 49, 41, 32, 61, 32, 97, 48]), ([40, 97, 48, 32, 40, 97, 49, 32, 43, 32, 97, 50, 41, 41, 32, 61, 32, 40, 40, 97, 48, 32, 97, 49, 41, 32, 43, 32, 40, 97, 48, 32, 97, 50, 41, 41]), ([40, 40, 97, 48, 32, 43, 32, 97, 49, 41, 32, 97, 50, 41, 32, 61, 32, 40, 40, 97, 48, 32, 97, 50, 41, 32, 43, 32, 40, 97, 49, 32, 97, 50, 41, 41]), ([40, 48, 32, 97, 48, 41, 32, 61, 32, 48]), ([40, 97, 48, 32, 48, 41, 32, 61, 32, 48]), ([40, 49, 32, 43, 32, 40, 97, 48, 32, 97, 48, 42, 41, 41, 32, 61, 32, 97, 48, 42]), ([40, 49, 32, 43, 32, 40, 97, 48, 42, 32, 97, 48, 41, 41, 32, 61, 32, 97, 48, 42]), ([40, 116, 48, 32, 116, 48, 41, 32, 61, 32, 116, 48]), ([40, 116, 48, 32, 116, 49, 41, 32, 61, 32, 40, 116, 49, 32, 116, 48, 41]), ([40, 116, 48, 32, 43, 32, 126, 116, 48, 41, 32, 61, 32, 49]), ([40, 116, 48, 32, 126, 116, 48, 41, 32, 61, 32, 48]), ([126, 126, 116, 48, 32, 61, 32, 116, 48]), ([126, 40, 116, 48, 32, 43, 32, 116, 49, 41, 32, 61, 32, 40, 126, 116, 48, 32, 126, 116, 49, 41]), ([126, 40, 116, 48, 32, 116, 49, 41, 32, 61, 32, 40, 126, 116, 48, 32, 43, 32, 126, 116, 49, 41]), ([126, 48, 32, 61, 32, 49]), ([126, 49, 32, 61, 32, 48]), ([40, 116, 48, 32, 43, 32, 49, 41, 32, 61, 32, 49]), ([40, 40, 116, 48, 32, 43, 32, 116, 49, 41, 32, 40, 116, 48, 32, 43, 32, 116, 50, 41, 41, 32, 61, 32, 40, 116, 48, 32, 43, 32, 40, 116, 49, 32, 116, 50, 41, 41])]) = axT) := by kernel_rfl
theorem ok_spec_l04AxiomTexts (hE : AllGood []) : Ctr.Good k_spec_l04AxiomTexts := by
 refine ⟨fnOk_of at_spec_l04AxiomTexts rfl (by decide), ?_⟩
 show True → OkCall prog n_spec_l04AxiomTexts [] (· = [⟨(.slice .str), axT⟩])
 intro  _
 refine ok_of_awp (wr := []) (cl := []) (ro := []) hE at_spec_l04AxiomTexts body_spec_l04AxiomTexts (l_spec_l04AxiomTexts ) ?_
 rewrite [vc_spec_l04AxiomTexts ]
 refine ?_
 all_goals try and_intros
 all_goals first | rfl | trivial | omega | (simp only [decide_eq_true_eq, decide_eq_false_iff_not, idxOk, inI64, inKind, cutOk, makeOk, roomOk] at *; omega) | (simp [idxOk, inI64] at *; omega) | grind
theorem good_spec_l04AxiomTexts : Ctr.Good k_spec_l04AxiomTexts := ok_spec_l04AxiomTexts trivial
def ko_impl_Axioms : Ctr := ⟨n_impl_Axioms, [], ⟨(none, [⟨(.slice (.st .equation)), axQ⟩])⟩⟩
def lo_impl_Axioms  : Nat → LoopInv := (fun zb => if Nat.beq zb 0 then .mk (Nat) (fun i => i ≤ 24) (fun i => 24 - i) [7] [2, 5, 6] (fun i => [(9, .imm ⟨(.int .i64), ((i : Int) : Int)⟩), (8, .imm ⟨(.int .i64), ((24 : Int) : Int)⟩), (7, .imm ⟨(.slice .str), (axT : List (List UInt8))⟩), (1, .tree 2300)]) [] (fun i => [(2300, .tree (.st .equation) (axP i : List GEquation))]) [] [] (fun i => fun _ => .none) else .none)
theorem vco_impl_Axioms  : awp (envO [k_impl_patternSig] [ko_impl_readEquation] [] [6, 16, 21, 22] []) (bodyOf f_impl_Axioms) (lo_impl_Axioms ) 0 (ownPost (envO [k_impl_patternSig] [ko_impl_readEquation] [] [6, 16, 21, 22] []) f_impl_Axioms fun r => areEq r [⟨(.slice (.st .equation)), axQ⟩]) (startO f_impl_Axioms []) =
 ((inI64 ((([([40, 97, 48, 32, 43, 32, 40, 97, 49, 32, 43, 32, 97, 50, 41, 41, 32, 61, 32, 40, 40, 97, 48, 32, 43, 32, 97, 49, 41, 32, 43, 32, 97, 50, 41]), ([40, 97, 48, 32, 43, 32, 97, 49, 41, 32, 61, 32, 40, 97, 49, 32, 43, 32, 97, 48, 41]), ([40, 97, 48, 32, 43, 32, 48, 41, 32, 61, 32, 97, 48]), ([40, 97, 48, 32, 43, 32, 97, 48, 41, 32, 61, 32, 97, 48]), ([40, 97, 48, 32, 40, 97, 49, 32, 97, 50, 41, 41, 32, 61, 32, 40, 40, 97, 48, 32, 97, 49, 41, 32, 97, 50, 41]), ([40, 49, 32, 97, 48, 41, 32, 61, 32, 97, 48]), ([40, 97, 48, 32, 49, 41, 32, 61, 32, 97, 48]), ([40, 97, 48, 32, 40, 97, 49, 32, 43, 32, 97, 50, 41, 41, 32, 61, 32, 40, 40, 97, 48, 32, 97, 49, 41, 32, 43, 32, 40, 97, 48, 32, 97, 50, 41, 41]), ([40, 40, 97, 48, 32, 43, 32, 97, 49, 41, 32, 97, 50, 41, 32, 61, 32, 40, 40, 97, 48, 32, 97, 50, 41, 32, 43, 32, 40, 97, 49, 32, 97, 50, 41, 41]), ([40, 48, 32, 97, 48, 41, 32, 61, 32, 48]), ([40, 97, 48, 32, 48, 41, 32, 61, 32, 48]), ([40, 49, 32, 43, 32, 40, 97, 48, 32, 97, 48, 42, 41, 41, 32, 61, 32, 97, 48, 42]), ([40, 49, 32, 43, 32, 40, 97, 48, 42, 32, 97, 48, 41, 41, 32, 61, 32, 97, 48, 42]), ([40, 116, 48, 32, 116, 48, 41, 32, 61, 32, 116, 48]), ([40, 116, 48, 32, 116, 49, 41, 32, 61, 32, 40, 116, 49, 32, 116, 48, 41]), ([40, 116, 48, 32, 43, 32, 126, 116, 48, 41, 32, 61, 32, 49]), ([40, 116, 48, 32, 126, 116, 48, 41, 32, 61, 32, 48]), ([126, 126, 116, 48, 32, 61, 32, 116, 48]), ([126, 40, 116, 48, 32, 43, 32, 116, 49, 41, 32, 61, 32, 40, 126, 116, 48, 32, 126, 116, 49, 41]), ([126, 40, 116, 48, 32, 116, 49, 41, 32, 61, 32, 40, 126, 116, 48, 32, 43, 32, 126, 116, 49, 41]), ([126, 48, 32, 61, 32, 49]), ([126, 49, 32, 61, 32, 48]), ([40, 116, 48, 32, 43, 32, 49, 41, 32, 61, 32, 49]), ([40, 40, 116, 48, 32, 43, 32, 116, 49, 41, 32, 40, 116, 48, 32, 43, 32, 116, 50, 41, 41, 32, 61, 32, 40, 116, 48, 32, 43, 32, 40, 116, 49, 32, 116, 50, 41, 41])]).length : Int)) →
 ((∃ i1 : Nat, (i1 ≤ 24 ∧ ((True ∧ (True ∧ (([([40, 97, 48, 32, 43, 32, 40, 97, 49, 32, 43, 32, 97, 50, 41, 41, 32, 61, 32, 40, 40, 97, 48, 32, 43, 32, 97, 49, 41, 32, 43, 32, 97, 50, 41]), ([40, 97, 48, 32, 43, 32, 97, 49, 41, 32, 61, 32, 40, 97, 49, 32, 43, 32, 97, 48, 41]), ([40, 97, 48, 32, 43, 32, 48, 41, 32, 61, 32, 97, 48]), ([40, 97, 48, 32, 43, 32, 97, 48, 41, 32, 61, 32, 97, 48]), ([40, 97, 48, 32, 40, 97, 49, 32, 97, 50, 41, 41, 32, 61, 32, 40, 40, 97, 48, 32, 97, 49, 41, 32, 97, 50, 41]), ([40, 49, 32, 97, 48, 41, 32, 61, 32, 97, 48]), ([40, 97, 48, 32, 49, 41, 32, 61, 32, 97, 48]), ([40, 97, 48, 32, 40, 97, 49, 32, 43, 32, 97, 50, 41, 41, 32, 61, 32, 40, 40, 97, 48, 32, 97, 49, 41, 32, 43, 32, 40, 97, 48, 32, 97, 50, 41, 41]), ([40, 40, 97, 48, 32, 43, 32, 97, 49, 41, 32, 97, 50, 41, 32, 61, 32, 40, 40, 97, 48, 32, 97, 50, 41, 32, 43, 32, 40, 97, 49, 32, 97, 50, 41, 41]), ([40, 48, 32, 97, 48, 41, 32, 61, 32, 48]), ([40, 97, 48, 32, 48, 41, 32, 61, 32, 48]), ([40, 49, 32, 43, 32, 40, 97, 48, 32, 97, 48, 42, 41, 41, 32, 61, 32, 97, 48, 42]), ([40, 49, 32, 43, 32, 40, 97, 48, 42, 32, 97, 48, 41, 41, 32, 61, 32, 97, 48, 42]), ([40, 116, 48, 32, 116, 48, 41, 32, 61, 32, 116, 48]), ([40, 116, 48, 32, 116, 49, 41, 32, 61, 32, 40, 116, 49, 32, 116, 48, 41]), ([40, 116, 48, 32, 43, 32, 126, 116, 48, 41, 32, 61, 32, 49]), ([40, 116, 48, 32, 126, 116, 48, 41, 32, 61, 32, 48]), ([126, 126, 116, 48, 32, 61, 32, 116, 48]), ([126, 40, 116, 48, 32, 43, 32, 116, 49, 41, 32, 61, 32, 40, 126, 116, 48, 32, 126, 116, 49, 41]), ([126, 40, 116, 48, 32, 116, 49, 41, 32, 61, 32, 40, 126, 116, 48, 32, 43, 32, 126, 116, 49, 41]), ([126, 48, 32, 61, 32, 49]), ([126, 49, 32, 61, 32, 48]), ([40, 116, 48, 32, 43, 32, 49, 41, 32, 61, 32, 49]), ([40, 40, 116, 48, 32, 43, 32, 116, 49, 41, 32, 40, 116, 48, 32, 43, 32, 116, 50, 41, 41, 32, 61, 32, 40, 116, 48, 32, 43, 32, 40, 116, 49, 32, 116, 50, 41, 41])]) = axT ∧ (((([([40, 97, 48, 32, 43, 32, 40, 97, 49, 32, 43, 32, 97, 50, 41, 41, 32, 61, 32, 40, 40, 97, 48, 32, 43, 32, 97, 49, 41, 32, 43, 32, 97, 50, 41]), ([40, 97, 48, 32, 43, 32, 97, 49, 41, 32, 61, 32, 40, 97, 49, 32, 43, 32, 97, 48, 41]), ([40, 97, 48, 32, 43, 32, 48, 41, 32, 61, 32, 97, 48]), ([40, 97, 48, 32, 43, 32, 97, 48, 41, 32, 61, 32, 97, 48]), ([40, 97, 48, 32, 40, 97, 49, 32, 97, 50, 41, 41, 32, 61, 32, 40, 40, 97, 48, 32, 97, 49, 41, 32, 97, 50, 41]), ([40, 49, 32, 97, 48, 41, 32, 61, 32, 97, 48]), ([40, 97, 48, 32, 49, 41, 32, 61, 32, 97, 48]), ([40, 97, 48, 32, 40, 97, 49, 32, 43, 32, 97, 50, 41, 41, 32, 61, 32, 40, 40, 97, 48, 32, 97, 49, 41, 32, 43, 32, 40, 97, 48, 32, 97, 50, 41, 41]), ([40, 40, 97, 48, 32, 43, 32, 97, 49, 41, 32, 97, 50, 41, 32, 61, 32, 40, 40, 97, 48, 32, 97, 50, 41, 32, 43, 32, 40, 97, 49, 32, 97, 50, 41, 41]), ([40, 48, 32, 97, 48, 41, 32, 61, 32, 48]), ([40, 97, 48, 32, 48, 41, 32, 61, 32, 48]), ([40, 49, 32, 43, 32, 40, 97, 48, 32, 97, 48, 42, 41, 41, 32, 61, 32, 97, 48, 42]), ([40, 49, 32, 43, 32, 40, 97, 48, 42, 32, 97, 48, 41, 41, 32, 61, 32, 97, 48, 42]), ([40, 116, 48, 32, 116, 48, 41, 32, 61, 32, 116, 48]), ([40, 116, 48, 32, 116, 49, 41, 32, 61, 32, 40, 116, 49, 32, 116, 48, 41]), ([40, 116, 48, 32, 43, 32, 126, 116, 48, 41, 32, 61, 32, 49]), ([40, 116, 48, 32, 126, 116, 48, 41, 32, 61, 32, 48]), ([126, 126, 116, 48, 32, 61, 32, 116, 48]), ([126, 40, 116, 48, 32, 43, 32, 116, 49, 41, 32, 61, 32, 40, 126, 116, 48, 32, 126, 116, 49, 41]), ([126, 40, 116, 48, 32, 116, 49, 41, 32, 61, 32, 40, 126, 116, 48, 32, 43, 32, 126, 116, 49, 41]), ([126, 48, 32, 61, 32, 49]), ([126, 49, 32, 61, 32, 48]), ([40, 116, 48, 32, 43, 32, 49, 41, 32, 61, 32, 49]), ([40, 40, 116, 48, 32, 43, 32, 116, 49, 41, 32, 40, 116, 48, 32, 43, 32, 116, 50, 41, 41, 32, 61, 32, 40, 116, 48, 32, 43, 32, 40, 116, 49, 32, 116, 50, 41, 41])]).length : Int)) = (24 : Int) ∧ ((0 : Int) = (i1 : Int) ∧ True))))) ∧ ([] = (axP i1) ∧ True)))) ∧ (∀ i1 : Nat, (i1 ≤ 24 →
 (((decide ((i1 : Int) < (24 : Int))) = true →
 (idxOk (i1 : Int) axT.length ∧ ((axT.getD i1 []).length ≤ 140737488355328 →
 ((sigOk (gP) = true ∧ (axT.getD i1 []).length ≤ 8000) ∧ (roomOk ((axP i1).length + ([(e_equation (rqV (gP) (axT.getD i1 [])))]).length) 80 ∧ (inI64 ((i1 : Int) + (1 : Int)) ∧ (∃ i2 : Nat, (i2 ≤ 24 ∧ (24 - i2 < 24 - i1 ∧ ((True ∧ (True ∧ (axT = axT ∧ ((24 : Int) = (24 : Int) ∧ (((i1 : Int) + (1 : Int)) = (i2 : Int) ∧ True))))) ∧ (((axP i1) ++ ([(e_equation (rqV (gP) (axT.getD i1 [])))])) = (axP i2) ∧ True))))))))))) ∧ ((decide ((i1 : Int) < (24 : Int))) = false →
 (axP i1) = axQ))))))) := by kernel_rfl
theorem oko_impl_Axioms (hE : AllGood [k_impl_patternSig]) (hO : AllO [ko_impl_readEquation]) (hM : AllM []) (hS : AllS []) : Ctr.OGood ko_impl_Axioms := by
 refine ⟨fnOk_of at_impl_Axioms rfl (by decide), ?_⟩
 show True → OkOwn prog n_impl_Axioms [] [⟨(.slice (.st .equation)), axQ⟩]
 intro  _
 refine own_of_awp (own := [6, 16, 21, 22]) (wr := []) (cl := []) (ro := []) hE hO hM hS at_impl_Axioms body_impl_Axioms (lo_impl_Axioms ) ?_
 rewrite [vco_impl_Axioms ]
 have f0 := axT_len
 have f1 : sigOk gP = true := by decide
 have f2 : axP 0 = [] := rfl
 refine fun a0 => ⟨⟨0, ⟨?_, ⟨⟨trivial, ⟨trivial, ⟨?_, ⟨?_, ⟨?_, trivial⟩⟩⟩⟩⟩, ⟨?_, trivial⟩⟩⟩⟩, fun i1 a1 => have b1x0 := ax_at i1; have b1x1 := axP_step i1; have b1x2 := axP_all i1; have b1x3 := axP_len i1; ⟨fun a2 => ⟨?_, fun a3 => ⟨?_, ⟨?_, ⟨?_, ⟨i1 + 1, ⟨?_, ⟨?_, ⟨⟨trivial, ⟨trivial, ⟨rfl, ⟨rfl, ⟨?_, trivial⟩⟩⟩⟩⟩, ⟨?_, trivial⟩⟩⟩⟩⟩⟩⟩⟩⟩, fun a2 => ?_⟩⟩
 all_goals try and_intros
 all_goals try simp only [GExpr.eta, GProg.eta, GDerivation.eta, GTriple.eta, GPremise.eta, GClaim.eta, GEquation.eta, GPair.eta, GSpot.eta, e_expr_eq, e_pair_eq, e_equation_eq, e_claim_eq, e_prog_eq, e_spot_eq, e_triple_eq, e_premise_eq, e_derivation_eq] at *
 all_goals first | rfl | trivial | omega | (simp only [decide_eq_true_eq, decide_eq_false_iff_not, roomOk, idxOk, inI64, List.length_cons, List.length_nil] at *; first | omega | grind) | grind
theorem ogood_impl_Axioms : Ctr.OGood ko_impl_Axioms := oko_impl_Axioms ⟨good_impl_patternSig, trivial⟩ ⟨ogood_impl_readEquation, trivial⟩ trivial trivial
def ko_spec_Axioms : Ctr := ⟨n_spec_Axioms, [], ⟨(none, [⟨(.slice (.st .equation)), axQ⟩])⟩⟩
def lo_spec_Axioms  : Nat → LoopInv := (fun zb => if Nat.beq zb 0 then .mk (Nat) (fun i => i ≤ 24) (fun i => 24 - i) [] [5, 6, 7] (fun i => [(3, .imm ⟨(.int .i64), ((i : Int) : Int)⟩), (2, .tree 2700)]) [0, 1, 2, 3, 4, 8, 9, 10, 11, 12, 13, 14, 15, 16, 17, 18, 19, 20, 21, 22, 23, 24, 25, 26, 27] (fun i => [(2700, .tree (.st .equation) (axP i : List GEquation))]) [] [] (fun i => fun _ => .none) else .none)
theorem vco_spec_Axioms  : awp (envO [k_spec_l04Wide, k_spec_l04AxiomTexts] [ko_spec_l04Read] [] [7, 20, 25, 26] []) (bodyOf f_spec_Axioms) (lo_spec_Axioms ) 0 (ownPost (envO [k_spec_l04Wide, k_spec_l04AxiomTexts] [ko_spec_l04Read] [] [7, 20, 25, 26] []) f_spec_Axioms fun r => areEq r [⟨(.slice (.st .equation)), axQ⟩]) (startO f_spec_Axioms []) =
 (((axT).length ≤ 140737488355328 →
 ((∃ i1 : Nat, (i1 ≤ 24 ∧ ((True ∧ ((axT) = (axT) ∧ (True ∧ ((0 : Int) = (i1 : Int) ∧ True)))) ∧ ([] = (axP i1) ∧ True)))) ∧ (∀ i1 : Nat, (i1 ≤ 24 →
 (inI64 (((axT).length : Int)) →
 (((decide ((i1 : Int) < (((axT).length : Int)))) = true →
 ((axT).length ≤ 140737488355328 →
 (inI64 (i1 : Int) →
 (idxOk (i1 : Int) (axT).length ∧ (((axT).getD i1 []).length ≤ 140737488355328 →
 ((axT) = (axT) ∧ ((i1 : Int) = (i1 : Int) ∧ (idxOk (i1 : Int) (axT).length ∧ (((axT).getD i1 []) = ((axT).getD i1 []) ∧ (((axT).getD i1 []) = ((axT).getD i1 []) ∧ ((axT) = (axT) ∧ ((i1 : Int) = (i1 : Int) ∧ (idxOk (i1 : Int) (axT).length ∧ (((axT).getD i1 []) = ((axT).getD i1 []) ∧ (((axT).getD i1 []) = ((axT).getD i1 []) ∧ ((sigOk (gP) = true ∧ ((axT).getD i1 []).length ≤ 8000) ∧ (roomOk ((axP i1).length + ([(e_equation (rqS (gP) ((axT).getD i1 [])))]).length) 80 ∧ (inI64 ((i1 : Int) + (1 : Int)) ∧ (∃ i2 : Nat, (i2 ≤ 24 ∧ (24 - i2 < 24 - i1 ∧ ((True ∧ ((axT) = (axT) ∧ (True ∧ (((i1 : Int) + (1 : Int)) = (i2 : Int) ∧ True)))) ∧ (((axP i1) ++ ([(e_equation (rqS (gP) ((axT).getD i1 [])))])) = (axP i2) ∧ True))))))))))))))))))))))) ∧ ((decide ((i1 : Int) < (((axT).length : Int)))) = false →
 (axP i1) = axQ)))))))) := by kernel_rfl
theorem oko_spec_Axioms (hE : AllGood [k_spec_l04Wide, k_spec_l04AxiomTexts]) (hO : AllO [ko_spec_l04Read]) (hM : AllM []) (hS : AllS []) : Ctr.OGood ko_spec_Axioms := by
 refine ⟨fnOk_of at_spec_Axioms rfl (by decide), ?_⟩
 show True → OkOwn prog n_spec_Axioms [] [⟨(.slice (.st .equation)), axQ⟩]
 intro  _
 refine own_of_awp (own := [7, 20, 25, 26]) (wr := []) (cl := []) (ro := []) hE hO hM hS at_spec_Axioms body_spec_Axioms (lo_spec_Axioms ) ?_
 rewrite [vco_spec_Axioms ]
 have f0 := axT_len
 have f1 : sigOk gP = true := by decide
 have f2 : axP 0 = [] := rfl
 refine fun a0 => ⟨⟨0, ⟨?_, ⟨⟨trivial, ⟨rfl, ⟨trivial, ⟨?_, trivial⟩⟩⟩⟩, ⟨?_, trivial⟩⟩⟩⟩, fun i1 a1 => have b1x0 := ax_at i1; have b1x1 := axP_step i1; have b1x2 := axP_all i1; have b1x3 := axP_len i1; fun a2 => ⟨fun a3 => fun a4 => fun a5 => ⟨?_, fun a6 => ⟨rfl, ⟨rfl, ⟨?_, ⟨rfl, ⟨rfl, ⟨rfl, ⟨rfl, ⟨?_, ⟨rfl, ⟨rfl, ⟨?_, ⟨?_, ⟨?_, ⟨i1 + 1, ⟨?_, ⟨?_, ⟨⟨trivial, ⟨rfl, ⟨trivial, ⟨?_, trivial⟩⟩⟩⟩, ⟨?_, trivial⟩⟩⟩⟩⟩⟩⟩⟩⟩⟩⟩⟩⟩⟩⟩⟩⟩⟩⟩, fun a3 => ?_⟩⟩
 all_goals try and_intros
 all_goals try simp only [GExpr.eta, GProg.eta, GDerivation.eta, GTriple.eta, GPremise.eta, GClaim.eta, GEquation.eta, GPair.eta, GSpot.eta, e_expr_eq, e_pair_eq, e_equation_eq, e_claim_eq, e_prog_eq, e_spot_eq, e_triple_eq, e_premise_eq, e_derivation_eq] at *
 all_goals first | rfl | trivial | omega | (simp only [decide_eq_true_eq, decide_eq_false_iff_not, roomOk, idxOk, inI64, List.length_cons, List.length_nil] at *; first | omega | grind) | grind
theorem ogood_spec_Axioms : Ctr.OGood ko_spec_Axioms := oko_spec_Axioms ⟨good_spec_l04Wide, good_spec_l04AxiomTexts, trivial⟩ ⟨ogood_spec_l04Read, trivial⟩ trivial trivial
end
end Go.Proofs.YtbphjcgkidlabaaDoor

/- The copies of data. Printed by vmk.py. -/
import Derived.Test.YtkogipcdjalehaaDoorVmUse
import Derived.Test.YtkogipcdjalehaaDoorVmLib
import Derived.Test.YtkogipcdjalehaaDoorVmSz
set_option linter.unusedVariables false
set_option linter.unusedSimpArgs false
set_option linter.unusedSectionVars false
set_option maxRecDepth 4000
set_option maxHeartbeats 4000000
namespace Go.Proofs.YtkogipcdjalehaaDoor
noncomputable section
def k_laws_toSig : Ctr := ⟨n_laws_toSig, [.v (.st .sig)], fun (x : GSig) => ⟨(none, [⟨(.st .sig), x⟩])⟩⟩
def l_laws_toSig (x : GSig) : Nat → LoopInv := fun _ => .none
theorem vc_laws_toSig (x : GSig) : awp (envOf [] [] [] [1]) (bodyOf f_laws_toSig) (l_laws_toSig x) 0 (funPost (envOf [] [] [] [1]) f_laws_toSig fun r => areEq r [⟨(.st .sig), x⟩]) (startState f_laws_toSig [.val ⟨(.st .sig), x⟩]) =
 ((inI64 x.tests →
 (inI64 x.actions →
 x = x))) := by kernel_rfl
theorem ok_laws_toSig (hE : AllGood []) : Ctr.Good k_laws_toSig := by
 refine ⟨fnOk_of at_laws_toSig rfl (by decide), ?_⟩
 show ∀ (x : GSig), True → OkCall prog n_laws_toSig [.val ⟨(.st .sig), x⟩] (· = [⟨(.st .sig), x⟩])
 intro x _
 refine ok_of_awp (wr := []) (cl := []) (ro := [1]) hE at_laws_toSig body_laws_toSig (l_laws_toSig x) ?_
 rewrite [vc_laws_toSig x]
 refine fun a0 => fun a1 => rfl
 all_goals try and_intros
 all_goals first | rfl | trivial | omega | (simp only [decide_eq_true_eq, decide_eq_false_iff_not, idxOk, inI64, inKind, cutOk, makeOk, roomOk] at *; omega) | (simp [idxOk, inI64] at *; omega) | grind
theorem good_laws_toSig : Ctr.Good k_laws_toSig := ok_laws_toSig trivial
def kn_laws_toExpr (n : Nat) : Ctr := ⟨n_laws_toExpr, [.v (.st .expr)], fun (x : GExpr) => ⟨(some (msz x < n ∧ sz_expr x ≤ 1048576), [⟨(.st .expr), x⟩])⟩⟩
def k_laws_toExpr : Ctr := ⟨n_laws_toExpr, [.v (.st .expr)], fun (x : GExpr) => ⟨(some (sz_expr x ≤ 1048576), [⟨(.st .expr), x⟩])⟩⟩
def kn_laws_toExprS (n : Nat) : Ctr := ⟨n_laws_toExprS, [.v (.slice (.st .expr))], fun (xs : List GExpr) => ⟨(some (msz xs < n ∧ xs.length + szL sz_expr xs ≤ 1048576), [⟨(.slice (.st .expr)), xs⟩])⟩⟩
def l_laws_toExpr (x : GExpr) : Nat → LoopInv := fun _ => .none
theorem vc_laws_toExpr (n : Nat) (x : GExpr) : awp (envOf [kn_laws_toExprS n] [] [] [1]) (bodyOf f_laws_toExpr) (l_laws_toExpr x) 0 (funPost (envOf [kn_laws_toExprS n] [] [] [1]) f_laws_toExpr fun r => areEq r [⟨(.st .expr), x⟩]) (startState f_laws_toExpr [.val ⟨(.st .expr), x⟩]) =
 ((inI64 x.kind →
 (inI64 x.num →
 (x.kids.length ≤ 140737488355328 →
 ((msz x.kids < n ∧ x.kids.length + szL sz_expr x.kids ≤ 1048576) ∧ (x.kids.length ≤ 140737488355328 →
 (e_expr x) = x)))))) := by kernel_rfl
theorem ok_laws_toExpr (n : Nat) (hE : AllGood [kn_laws_toExprS n]) : Ctr.Good (kn_laws_toExpr (n + 1)) := by
 refine ⟨fnOk_of at_laws_toExpr rfl (by decide), ?_⟩
 show ∀ (x : GExpr), (msz x < n + 1 ∧ sz_expr x ≤ 1048576) → OkCall prog n_laws_toExpr [.val ⟨(.st .expr), x⟩] (· = [⟨(.st .expr), x⟩])
 intro x hp
 refine ok_of_awp (wr := []) (cl := []) (ro := [1]) hE at_laws_toExpr body_laws_toExpr (l_laws_toExpr x) ?_
 rewrite [vc_laws_toExpr n x]
 rw [sz_expr_eq] at hp
 have f0k := msz_kids x
 refine fun a0 => fun a1 => fun a2 => ⟨?_, fun a3 => ?_⟩
 all_goals try and_intros
 all_goals try simp only [GExpr.eta, GProg.eta, GDerivation.eta, GTriple.eta, GPremise.eta, GClaim.eta, GEquation.eta, GPair.eta, GSpot.eta, e_expr_eq, e_pair_eq, e_equation_eq, e_claim_eq, e_prog_eq, e_spot_eq, e_triple_eq, e_premise_eq, e_derivation_eq] at *
 all_goals first | rfl | trivial | omega | (simp only [decide_eq_true_eq, decide_eq_false_iff_not, idxOk, inI64, inKind, cutOk, makeOk, roomOk] at *; omega) | (simp [idxOk, inI64] at *; omega) | grind
def l_laws_toExprS (xs : List GExpr) : Nat → LoopInv := (fun zb => if Nat.beq zb 0 then .mk (Nat) (fun k => k ≤ xs.length) (fun k => xs.length - k) [] [1, 5, 6, 7] (fun k => [(4, .imm ⟨(.int .i64), ((k : Int) : Int)⟩), (3, .row 7)]) [0, 2, 3, 4, 8, 9, 10, 11, 12, 13, 14, 15, 16, 17, 18, 19, 20, 21, 22] (fun k => [(7, .row T_impl_Expr (.st .expr) (fill xs k zE : List GExpr))]) [] [] (fun k => fun _ => .none) else .none)
theorem vc_laws_toExprS (n : Nat) (xs : List GExpr) : awp (envOf [kn_laws_toExpr n]) (bodyOf f_laws_toExprS) (l_laws_toExprS xs) 0 (funPost (envOf [kn_laws_toExpr n]) f_laws_toExprS fun r => areEq r [⟨(.slice (.st .expr)), xs⟩]) (startState f_laws_toExprS [.val ⟨(.slice (.st .expr)), xs⟩]) =
 ((inI64 ((xs.length : Int)) →
 (makeOk ((xs.length : Int)) ((xs.length : Int)) 40 ∧ ((∃ k1 : Nat, (k1 ≤ xs.length ∧ ((xs = xs ∧ (True ∧ (True ∧ ((0 : Int) = (k1 : Int) ∧ True)))) ∧ ((List.replicate (Int.toNat ((xs.length : Int))) zE) = (fill xs k1 zE) ∧ True)))) ∧ (∀ k1 : Nat, (k1 ≤ xs.length →
 (inI64 ((xs.length : Int)) →
 (((decide ((k1 : Int) < ((xs.length : Int)))) = true →
 (idxOk (k1 : Int) xs.length ∧ ((msz (xs.getD k1 zE) < n ∧ sz_expr (xs.getD k1 zE) ≤ 1048576) ∧ (idxOk (k1 : Int) (fill xs k1 zE).length ∧ (inI64 ((k1 : Int) + (1 : Int)) ∧ (∃ k2 : Nat, (k2 ≤ xs.length ∧ (xs.length - k2 < xs.length - k1 ∧ ((xs = xs ∧ (True ∧ (True ∧ (((k1 : Int) + (1 : Int)) = (k2 : Int) ∧ True)))) ∧ (((fill xs k1 zE).set k1 (xs.getD k1 zE)) = (fill xs k2 zE) ∧ True)))))))))) ∧ ((decide ((k1 : Int) < ((xs.length : Int)))) = false →
 (fill xs k1 zE) = xs))))))))) := by kernel_rfl
theorem ok_laws_toExprS (n : Nat) (hE : AllGood [kn_laws_toExpr n]) : Ctr.Good (kn_laws_toExprS (n + 1)) := by
 refine ⟨fnOk_of at_laws_toExprS rfl (by decide), ?_⟩
 show ∀ (xs : List GExpr), (msz xs < n + 1 ∧ xs.length + szL sz_expr xs ≤ 1048576) → OkCall prog n_laws_toExprS [.val ⟨(.slice (.st .expr)), xs⟩] (· = [⟨(.slice (.st .expr)), xs⟩])
 intro xs hp
 refine ok_of_awp (wr := []) (cl := []) (ro := []) hE at_laws_toExprS body_laws_toExprS (l_laws_toExprS xs) ?_
 rewrite [vc_laws_toExprS n xs]
 refine fun a0 => ⟨?_, ⟨⟨0, ⟨?_, ⟨⟨rfl, ⟨trivial, ⟨trivial, ⟨?_, trivial⟩⟩⟩⟩, ⟨?_, trivial⟩⟩⟩⟩, fun k1 a1 => have b1x0 := fill_all xs zE k1; have b1x1 := length_fill xs zE k1; have b1x2 := fill_set xs zE zE k1; have b1x3 := szL_getD sz_expr zE xs k1; have b1x4 := msz_getD zE xs k1; fun a2 => ⟨fun a3 => ⟨?_, ⟨?_, ⟨?_, ⟨?_, ⟨k1 + 1, ⟨?_, ⟨?_, ⟨⟨rfl, ⟨trivial, ⟨trivial, ⟨?_, trivial⟩⟩⟩⟩, ⟨?_, trivial⟩⟩⟩⟩⟩⟩⟩⟩⟩, fun a3 => ?_⟩⟩⟩
 all_goals try and_intros
 all_goals first | rfl | trivial | omega | (simp only [decide_eq_true_eq, decide_eq_false_iff_not, idxOk, inI64, inKind, cutOk, makeOk, roomOk] at *; omega) | (simp [idxOk, inI64] at *; omega) | grind | exact fill_zero xs _ | (simp only [decide_eq_true_eq, decide_eq_false_iff_not] at *; first | exact fill_set _ _ _ _ (by omega) | exact fill_all _ _ _ (by omega) | (simp only [makeOk]; omega))
theorem all_to_expr  : ∀ n, AllGood [kn_laws_toExpr n, kn_laws_toExprS n]
 | 0 => ⟨⟨fnOk_of at_laws_toExpr rfl (by decide), fun _ h => absurd h.1 (Nat.not_lt_zero _)⟩, ⟨fnOk_of at_laws_toExprS rfl (by decide), fun _ h => absurd h.1 (Nat.not_lt_zero _)⟩, trivial⟩
 | n + 1 => by
  have ih := all_to_expr  n
  exact ⟨ok_laws_toExpr n ⟨ih.2.1, trivial⟩, ok_laws_toExprS n ⟨ih.1, trivial⟩, trivial⟩
theorem good_laws_toExpr  : Ctr.Good k_laws_toExpr :=
 ⟨fnOk_of at_laws_toExpr rfl (by decide), fun x hp => (all_to_expr  (msz x + 1)).1.2 x (⟨Nat.lt_succ_self _, hp⟩)⟩
def kn_laws_toProg (n : Nat) : Ctr := ⟨n_laws_toProg, [.v (.st .prog)], fun (x : GProg) => ⟨(some (msz x < n ∧ sz_prog x ≤ 1048576), [⟨(.st .prog), x⟩])⟩⟩
def k_laws_toProg : Ctr := ⟨n_laws_toProg, [.v (.st .prog)], fun (x : GProg) => ⟨(some (sz_prog x ≤ 1048576), [⟨(.st .prog), x⟩])⟩⟩
def kn_laws_toProgS (n : Nat) : Ctr := ⟨n_laws_toProgS, [.v (.slice (.st .prog))], fun (xs : List GProg) => ⟨(some (msz xs < n ∧ xs.length + szL sz_prog xs ≤ 1048576), [⟨(.slice (.st .prog)), xs⟩])⟩⟩
def l_laws_toProg (x : GProg) : Nat → LoopInv := fun _ => .none
theorem vc_laws_toProg (n : Nat) (x : GProg) : awp (envOf [k_laws_toExpr, kn_laws_toProgS n] [] [] [1]) (bodyOf f_laws_toProg) (l_laws_toProg x) 0 (funPost (envOf [k_laws_toExpr, kn_laws_toProgS n] [] [] [1]) f_laws_toProg fun r => areEq r [⟨(.st .prog), x⟩]) (startState f_laws_toProg [.val ⟨(.st .prog), x⟩]) =
 ((inI64 x.kind →
 (inI64 x.num →
 (sz_expr x.cond ≤ 1048576 ∧ (x.kids.length ≤ 140737488355328 →
 ((msz x.kids < n ∧ x.kids.length + szL sz_prog x.kids ≤ 1048576) ∧ (x.kids.length ≤ 140737488355328 →
 (e_prog x) = x))))))) := by kernel_rfl
theorem ok_laws_toProg (n : Nat) (hE : AllGood [k_laws_toExpr, kn_laws_toProgS n]) : Ctr.Good (kn_laws_toProg (n + 1)) := by
 refine ⟨fnOk_of at_laws_toProg rfl (by decide), ?_⟩
 show ∀ (x : GProg), (msz x < n + 1 ∧ sz_prog x ≤ 1048576) → OkCall prog n_laws_toProg [.val ⟨(.st .prog), x⟩] (· = [⟨(.st .prog), x⟩])
 intro x hp
 refine ok_of_awp (wr := []) (cl := []) (ro := [1]) hE at_laws_toProg body_laws_toProg (l_laws_toProg x) ?_
 rewrite [vc_laws_toProg n x]
 rw [sz_prog_eq] at hp
 have f0k := msz_kidsP x
 refine fun a0 => fun a1 => ⟨?_, fun a2 => ⟨?_, fun a3 => ?_⟩⟩
 all_goals try and_intros
 all_goals try simp only [GExpr.eta, GProg.eta, GDerivation.eta, GTriple.eta, GPremise.eta, GClaim.eta, GEquation.eta, GPair.eta, GSpot.eta, e_expr_eq, e_pair_eq, e_equation_eq, e_claim_eq, e_prog_eq, e_spot_eq, e_triple_eq, e_premise_eq, e_derivation_eq] at *
 all_goals first | rfl | trivial | omega | (simp only [decide_eq_true_eq, decide_eq_false_iff_not, idxOk, inI64, inKind, cutOk, makeOk, roomOk] at *; omega) | (simp [idxOk, inI64] at *; omega) | grind
def l_laws_toProgS (xs : List GProg) : Nat → LoopInv := (fun zb => if Nat.beq zb 0 then .mk (Nat) (fun k => k ≤ xs.length) (fun k => xs.length - k) [] [1, 5, 6, 7] (fun k => [(4, .imm ⟨(.int .i64), ((k : Int) : Int)⟩), (3, .row 7)]) [0, 2, 3, 4, 8, 9, 10, 11, 12, 13, 14, 15, 16, 17, 18, 19, 20, 21, 22] (fun k => [(7, .row T_impl_Prog (.st .prog) (fill xs k zP : List GProg))]) [] [] (fun k => fun _ => .none) else .none)
theorem vc_laws_toProgS (n : Nat) (xs : List GProg) : awp (envOf [kn_laws_toProg n]) (bodyOf f_laws_toProgS) (l_laws_toProgS xs) 0 (funPost (envOf [kn_laws_toProg n]) f_laws_toProgS fun r => areEq r [⟨(.slice (.st .prog)), xs⟩]) (startState f_laws_toProgS [.val ⟨(.slice (.st .prog)), xs⟩]) =
 ((inI64 ((xs.length : Int)) →
 (makeOk ((xs.length : Int)) ((xs.length : Int)) 80 ∧ ((∃ k1 : Nat, (k1 ≤ xs.length ∧ ((xs = xs ∧ (True ∧ (True ∧ ((0 : Int) = (k1 : Int) ∧ True)))) ∧ ((List.replicate (Int.toNat ((xs.length : Int))) zP) = (fill xs k1 zP) ∧ True)))) ∧ (∀ k1 : Nat, (k1 ≤ xs.length →
 (inI64 ((xs.length : Int)) →
 (((decide ((k1 : Int) < ((xs.length : Int)))) = true →
 (idxOk (k1 : Int) xs.length ∧ ((msz (xs.getD k1 zP) < n ∧ sz_prog (xs.getD k1 zP) ≤ 1048576) ∧ (idxOk (k1 : Int) (fill xs k1 zP).length ∧ (inI64 ((k1 : Int) + (1 : Int)) ∧ (∃ k2 : Nat, (k2 ≤ xs.length ∧ (xs.length - k2 < xs.length - k1 ∧ ((xs = xs ∧ (True ∧ (True ∧ (((k1 : Int) + (1 : Int)) = (k2 : Int) ∧ True)))) ∧ (((fill xs k1 zP).set k1 (xs.getD k1 zP)) = (fill xs k2 zP) ∧ True)))))))))) ∧ ((decide ((k1 : Int) < ((xs.length : Int)))) = false →
 (fill xs k1 zP) = xs))))))))) := by kernel_rfl
theorem ok_laws_toProgS (n : Nat) (hE : AllGood [kn_laws_toProg n]) : Ctr.Good (kn_laws_toProgS (n + 1)) := by
 refine ⟨fnOk_of at_laws_toProgS rfl (by decide), ?_⟩
 show ∀ (xs : List GProg), (msz xs < n + 1 ∧ xs.length + szL sz_prog xs ≤ 1048576) → OkCall prog n_laws_toProgS [.val ⟨(.slice (.st .prog)), xs⟩] (· = [⟨(.slice (.st .prog)), xs⟩])
 intro xs hp
 refine ok_of_awp (wr := []) (cl := []) (ro := []) hE at_laws_toProgS body_laws_toProgS (l_laws_toProgS xs) ?_
 rewrite [vc_laws_toProgS n xs]
 refine fun a0 => ⟨?_, ⟨⟨0, ⟨?_, ⟨⟨rfl, ⟨trivial, ⟨trivial, ⟨?_, trivial⟩⟩⟩⟩, ⟨?_, trivial⟩⟩⟩⟩, fun k1 a1 => have b1x0 := fill_all xs zP k1; have b1x1 := length_fill xs zP k1; have b1x2 := fill_set xs zP zP k1; have b1x3 := szL_getD sz_prog zP xs k1; have b1x4 := msz_getD zP xs k1; fun a2 => ⟨fun a3 => ⟨?_, ⟨?_, ⟨?_, ⟨?_, ⟨k1 + 1, ⟨?_, ⟨?_, ⟨⟨rfl, ⟨trivial, ⟨trivial, ⟨?_, trivial⟩⟩⟩⟩, ⟨?_, trivial⟩⟩⟩⟩⟩⟩⟩⟩⟩, fun a3 => ?_⟩⟩⟩
 all_goals try and_intros
 all_goals first | rfl | trivial | omega | (simp only [decide_eq_true_eq, decide_eq_false_iff_not, idxOk, inI64, inKind, cutOk, makeOk, roomOk] at *; omega) | (simp [idxOk, inI64] at *; omega) | grind | exact fill_zero xs _ | (simp only [decide_eq_true_eq, decide_eq_false_iff_not] at *; first | exact fill_set _ _ _ _ (by omega) | exact fill_all _ _ _ (by omega) | (simp only [makeOk]; omega))
theorem all_to_prog  : ∀ n, AllGood [kn_laws_toProg n, kn_laws_toProgS n]
 | 0 => ⟨⟨fnOk_of at_laws_toProg rfl (by decide), fun _ h => absurd h.1 (Nat.not_lt_zero _)⟩, ⟨fnOk_of at_laws_toProgS rfl (by decide), fun _ h => absurd h.1 (Nat.not_lt_zero _)⟩, trivial⟩
 | n + 1 => by
  have ih := all_to_prog  n
  exact ⟨ok_laws_toProg n ⟨good_laws_toExpr, ih.2.1, trivial⟩, ok_laws_toProgS n ⟨ih.1, trivial⟩, trivial⟩
theorem good_laws_toProg  : Ctr.Good k_laws_toProg :=
 ⟨fnOk_of at_laws_toProg rfl (by decide), fun x hp => (all_to_prog  (msz x + 1)).1.2 x (⟨Nat.lt_succ_self _, hp⟩)⟩
def k_laws_toTriple : Ctr := ⟨n_laws_toTriple, [.v (.st .triple)], fun (x : GTriple) => ⟨(some (sz_triple x ≤ 1048576), [⟨(.st .triple), x⟩])⟩⟩
def l_laws_toTriple (x : GTriple) : Nat → LoopInv := fun _ => .none
theorem vc_laws_toTriple (x : GTriple) : awp (envOf [k_laws_toExpr, k_laws_toProg] [] [] [1]) (bodyOf f_laws_toTriple) (l_laws_toTriple x) 0 (funPost (envOf [k_laws_toExpr, k_laws_toProg] [] [] [1]) f_laws_toTriple fun r => areEq r [⟨(.st .triple), x⟩]) (startState f_laws_toTriple [.val ⟨(.st .triple), x⟩]) =
 ((sz_expr x.pre ≤ 1048576 ∧ (sz_prog x.prog ≤ 1048576 ∧ (sz_expr x.post ≤ 1048576 ∧ (e_triple x) = x)))) := by kernel_rfl
theorem ok_laws_toTriple (hE : AllGood [k_laws_toExpr, k_laws_toProg]) : Ctr.Good k_laws_toTriple := by
 refine ⟨fnOk_of at_laws_toTriple rfl (by decide), ?_⟩
 show ∀ (x : GTriple), (sz_triple x ≤ 1048576) → OkCall prog n_laws_toTriple [.val ⟨(.st .triple), x⟩] (· = [⟨(.st .triple), x⟩])
 intro x hp
 refine ok_of_awp (wr := []) (cl := []) (ro := [1]) hE at_laws_toTriple body_laws_toTriple (l_laws_toTriple x) ?_
 rewrite [vc_laws_toTriple x]
 rw [sz_triple_eq] at hp
 refine ⟨?_, ⟨?_, ⟨?_, ?_⟩⟩⟩
 all_goals try and_intros
 all_goals try simp only [GExpr.eta, GProg.eta, GDerivation.eta, GTriple.eta, GPremise.eta, GClaim.eta, GEquation.eta, GPair.eta, GSpot.eta, e_expr_eq, e_pair_eq, e_equation_eq, e_claim_eq, e_prog_eq, e_spot_eq, e_triple_eq, e_premise_eq, e_derivation_eq] at *
 all_goals first | rfl | trivial | omega | (simp only [decide_eq_true_eq, decide_eq_false_iff_not, idxOk, inI64, inKind, cutOk, makeOk, roomOk] at *; omega) | (simp [idxOk, inI64] at *; omega) | grind
theorem good_laws_toTriple : Ctr.Good k_laws_toTriple := ok_laws_toTriple ⟨good_laws_toExpr, good_laws_toProg, trivial⟩
end
end Go.Proofs.YtkogipcdjalehaaDoor

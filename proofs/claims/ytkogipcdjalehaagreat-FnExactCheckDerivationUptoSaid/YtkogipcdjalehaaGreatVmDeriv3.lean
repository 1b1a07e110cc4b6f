/- Derivations: one node, in the reference. Printed by vmk.py. -/
import Derived.Test.YtkogipcdjalehaaGreatVmUse
import Derived.Test.YtkogipcdjalehaaGreatVmLib
import Derived.Test.YtkogipcdjalehaaGreatVmSz
import Derived.Test.YtkogipcdjalehaaGreatVmTruth
import Derived.Test.YtkogipcdjalehaaGreatVmValid
import Derived.Test.YtkogipcdjalehaaGreatVmPrem
import Derived.Test.YtkogipcdjalehaaGreatVmProg
import Derived.Test.YtkogipcdjalehaaGreatVmSame
import Derived.Test.YtkogipcdjalehaaGreatVmDeriv
import Derived.Test.YtkogipcdjalehaaGreatVmDeriv2
set_option linter.unusedVariables false
set_option linter.unusedSimpArgs false
set_option linter.unusedSectionVars false
set_option maxRecDepth 4000
set_option maxHeartbeats 4000000
namespace Go.Proofs.YtkogipcdjalehaaGreat
noncomputable section
def kon_spec_l01Own (n : Nat) : Ctr := ⟨n_spec_l01Own, [.r (.st .expr)], fun (e : GExpr) => ⟨(some (msz e < n ∧ sz_expr e ≤ 1048576), [⟨(.st .expr), e⟩])⟩⟩
def ko_spec_l01Own : Ctr := ⟨n_spec_l01Own, [.r (.st .expr)], fun (e : GExpr) => ⟨(some (sz_expr e ≤ 1048576), [⟨(.st .expr), e⟩])⟩⟩
def lo_spec_l01Own (e : GExpr) : Nat → LoopInv := (fun zb => if Nat.beq zb 0 then .mk (Nat) (fun i => i ≤ e.kids.length) (fun i => e.kids.length - i) [] [1, 5, 6, 7, 8, 9, 10, 11, 12, 13] (fun i => [(4, .imm ⟨(.int .i64), ((i : Int) : Int)⟩)]) [0, 2, 4, 14, 15, 16, 17, 18, 19, 20, 21, 22, 23, 24, 25, 26, 27, 28, 29, 30, 31, 32, 33, 34, 35] (fun i => [(3, .box [.imm ⟨(.int .i64), (e.kind : Int)⟩, .imm ⟨(.int .i64), (e.num : Int)⟩, .tree 3400]), (3400, .tree (.st .expr) (e.kids.take i : List GExpr))]) [] [] (fun i => fun _ => .none) else .none)
theorem vco_spec_l01Own (n : Nat) (e : GExpr) : awp (envO [] [kon_spec_l01Own n] [] [31, 32, 33] []) (bodyOf f_spec_l01Own) (lo_spec_l01Own e) 0 (ownPost (envO [] [kon_spec_l01Own n] [] [31, 32, 33] []) f_spec_l01Own fun r => areEq r [⟨(.st .expr), e⟩]) (startO f_spec_l01Own [.ref ⟨(.st .expr), e⟩]) =
 ((inI64 e.kind →
 (inI64 e.num →
 ((∃ i1 : Nat, (i1 ≤ e.kids.length ∧ ((e = e ∧ (True ∧ (True ∧ ((0 : Int) = (i1 : Int) ∧ True)))) ∧ ((e.kind = e.kind ∧ (e.num = e.num ∧ (True ∧ True))) ∧ ((e.kids.take i1) = [] ∧ (((0 : Int) = (0 : Int) ∧ ((0 : Int) = (0 : Int) ∧ (True ∧ True))) ∧ True)))))) ∧ (∀ i1 : Nat, (i1 ≤ e.kids.length →
 (e.kids.length ≤ 140737488355328 →
 (inI64 ((e.kids.length : Int)) →
 (((decide ((i1 : Int) < ((e.kids.length : Int)))) = true →
 (e.kids.length ≤ 140737488355328 →
 (inI64 (i1 : Int) →
 (idxOk (i1 : Int) e.kids.length ∧ (((3 : Nat) = 3 ∧ (2 : Nat) = 2) ∧ ((3400 : Nat) = 3400 ∧ (e = e ∧ (e = e ∧ (e.kids = e.kids ∧ (e.kids = e.kids ∧ ((i1 : Int) = (i1 : Int) ∧ (idxOk (i1 : Int) e.kids.length ∧ ((e.kids.getD i1 zE) = (e.kids.getD i1 zE) ∧ ((msz (e.kids.getD i1 zE) < n ∧ sz_expr (e.kids.getD i1 zE) ≤ 1048576) ∧ (((3 : Nat) = 3 ∧ (2 : Nat) = 2) ∧ ((3400 : Nat) = 3400 ∧ (((3 : Nat) = 3 ∧ (2 : Nat) = 2) ∧ ((3400 : Nat) = 3400 ∧ (roomOk ((e.kids.take i1).length + ([(e_expr (e.kids.getD i1 zE))]).length) 40 ∧ (inI64 ((i1 : Int) + (1 : Int)) ∧ (∃ i2 : Nat, (i2 ≤ e.kids.length ∧ (e.kids.length - i2 < e.kids.length - i1 ∧ ((e = e ∧ (True ∧ (True ∧ (((i1 : Int) + (1 : Int)) = (i2 : Int) ∧ True)))) ∧ ((e.kind = e.kind ∧ (e.num = e.num ∧ (True ∧ True))) ∧ (((e.kids.take i1) ++ ([(e_expr (e.kids.getD i1 zE))])) = (e.kids.take i2) ∧ (((0 : Int) = (0 : Int) ∧ ((0 : Int) = (0 : Int) ∧ (True ∧ True))) ∧ True))))))))))))))))))))))))))) ∧ ((decide ((i1 : Int) < ((e.kids.length : Int)))) = false →
 (GExpr.mk e.kind e.num (e.kids.take i1)) = e)))))))))) := by kernel_rfl
theorem oko_spec_l01Own (n : Nat) (hE : AllGood []) (hO : AllO [kon_spec_l01Own n]) (hM : AllM []) (hS : AllS []) : Ctr.OGood (kon_spec_l01Own (n + 1)) := by
 refine ⟨fnOk_of at_spec_l01Own rfl (by decide), ?_⟩
 show ∀ (e : GExpr), (msz e < n + 1 ∧ sz_expr e ≤ 1048576) → OkOwn prog n_spec_l01Own [.ref ⟨(.st .expr), e⟩] [⟨(.st .expr), e⟩]
 intro e hp
 refine own_of_awp (own := [31, 32, 33]) (wr := []) (cl := []) (ro := []) hE hO hM hS at_spec_l01Own body_spec_l01Own (lo_spec_l01Own e) ?_
 rewrite [vco_spec_l01Own n e]
 rw [sz_expr_eq] at hp
 have f0 := msz_kids e
 have f1 := fun i (h : i < e.kids.length) => szL_getD sz_expr zE e.kids i h
 have f2 := fun i (h : i < e.kids.length) => msz_getD zE e.kids i h
 have f3 := fun i (h : i < e.kids.length) => take_snoc zE e.kids i h
 have f4 : e.kids.take 0 = [] := by simp
 have f5 : ∀ i, e.kids.length ≤ i → e.kids.take i = e.kids := fun i h => List.take_of_length_le h
 have f6 : ∀ i, (e.kids.take i).length ≤ e.kids.length := fun i => by simp; omega
 have f7 : ∀ ks, ks = e.kids → GExpr.mk e.kind e.num ks = e := fun ks h => by subst h; cases e; rfl
 refine fun a0 => fun a1 => ⟨⟨0, ⟨?_, ⟨⟨rfl, ⟨trivial, ⟨trivial, ⟨?_, trivial⟩⟩⟩⟩, ⟨⟨rfl, ⟨rfl, ⟨trivial, trivial⟩⟩⟩, ⟨?_, ⟨⟨rfl, ⟨rfl, ⟨trivial, trivial⟩⟩⟩, trivial⟩⟩⟩⟩⟩⟩, fun i1 => fun a2 => fun a3 => fun a4 => ⟨fun a5 => fun a6 => fun a7 => ⟨?_, ⟨⟨?_, ?_⟩, ⟨?_, ⟨rfl, ⟨rfl, ⟨rfl, ⟨rfl, ⟨rfl, ⟨?_, ⟨rfl, ⟨?_, ⟨⟨?_, ?_⟩, ⟨?_, ⟨⟨?_, ?_⟩, ⟨?_, ⟨?_, ⟨?_, ⟨i1 + 1, ⟨?_, ⟨?_, ⟨⟨rfl, ⟨trivial, ⟨trivial, ⟨?_, trivial⟩⟩⟩⟩, ⟨⟨rfl, ⟨rfl, ⟨trivial, trivial⟩⟩⟩, ⟨?_, ⟨⟨rfl, ⟨rfl, ⟨trivial, trivial⟩⟩⟩, trivial⟩⟩⟩⟩⟩⟩⟩⟩⟩⟩⟩⟩⟩⟩⟩⟩⟩⟩⟩⟩⟩⟩⟩⟩, fun a5 => ?_⟩⟩
 all_goals try and_intros
 all_goals try simp only [GExpr.eta, GProg.eta, GDerivation.eta, GTriple.eta, GPremise.eta, GClaim.eta, GEquation.eta, GPair.eta, GSpot.eta, e_expr_eq, e_pair_eq, e_equation_eq, e_claim_eq, e_prog_eq, e_spot_eq, e_triple_eq, e_premise_eq, e_derivation_eq] at *
 all_goals first | rfl | trivial | omega | (simp only [decide_eq_true_eq, decide_eq_false_iff_not, idxOk, inI64, roomOk, List.length_cons, List.length_nil] at *; first | omega | (have := f6 i1; omega) | exact f7 _ (f5 _ (by omega)) | grind) | grind
theorem allo_ownS : ∀ n, AllO [kon_spec_l01Own n]
 | 0 => ⟨⟨fnOk_of at_spec_l01Own rfl (by decide), fun _ h => absurd h.1 (Nat.not_lt_zero _)⟩, trivial⟩
 | n + 1 => by
  have ih := allo_ownS n
  exact ⟨oko_spec_l01Own n trivial ⟨ih.1, trivial⟩ trivial trivial, trivial⟩
theorem ogood_spec_l01Own : Ctr.OGood ko_spec_l01Own :=
 ⟨fnOk_of at_spec_l01Own rfl (by decide), fun e hp => (allo_ownS (msz e + 1)).1.2 e (⟨Nat.lt_succ_self _, hp⟩)⟩
def ko_spec_l02Pair : Ctr := ⟨n_spec_l02Pair, [.v (.int .i64), .o (.st .expr), .o (.st .expr)], fun (k : Int) (a : GExpr) (b : GExpr) => ⟨(none, [⟨(.st .expr), GExpr.mk k 0 [a, b]⟩])⟩⟩
def lo_spec_l02Pair (k : Int) (a : GExpr) (b : GExpr) : Nat → LoopInv := fun _ => .none
theorem vco_spec_l02Pair (k : Int) (a : GExpr) (b : GExpr) : awp (envO [] [] [] [10] []) (bodyOf f_spec_l02Pair) (lo_spec_l02Pair k a b) 0 (ownPost (envO [] [] [] [10] []) f_spec_l02Pair fun r => areEq r [⟨(.st .expr), GExpr.mk k 0 [a, b]⟩]) (startO f_spec_l02Pair [.val ⟨(.int .i64), k⟩, .own ⟨(.st .expr), a⟩, .own ⟨(.st .expr), b⟩]) =
 ((GExpr.mk k (0 : Int) ([(e_expr a), (e_expr b)])) = (GExpr.mk k 0 [a, b])) := by kernel_rfl
theorem oko_spec_l02Pair (hE : AllGood []) (hO : AllO []) (hM : AllM []) (hS : AllS []) : Ctr.OGood ko_spec_l02Pair := by
 refine ⟨fnOk_of at_spec_l02Pair rfl (by decide), ?_⟩
 show ∀ (k : Int) (a : GExpr) (b : GExpr), True → OkOwn prog n_spec_l02Pair [.val ⟨(.int .i64), k⟩, .own ⟨(.st .expr), a⟩, .own ⟨(.st .expr), b⟩] [⟨(.st .expr), GExpr.mk k 0 [a, b]⟩]
 intro k a b _
 refine own_of_awp (own := [10]) (wr := []) (cl := []) (ro := []) hE hO hM hS at_spec_l02Pair body_spec_l02Pair (lo_spec_l02Pair k a b) ?_
 rewrite [vco_spec_l02Pair k a b]
 refine ?_
 all_goals try and_intros
 all_goals try simp only [GExpr.eta, GProg.eta, GDerivation.eta, GTriple.eta, GPremise.eta, GClaim.eta, GEquation.eta, GPair.eta, GSpot.eta, e_expr_eq, e_pair_eq, e_equation_eq, e_claim_eq, e_prog_eq, e_spot_eq, e_triple_eq, e_premise_eq, e_derivation_eq] at *
 all_goals first | rfl | trivial | omega | (simp only [decide_eq_true_eq, decide_eq_false_iff_not, idxOk, inI64, inKind, cutOk, makeOk, roomOk] at *; omega) | (simp [idxOk, inI64] at *; omega) | grind
theorem ogood_spec_l02Pair : Ctr.OGood ko_spec_l02Pair := oko_spec_l02Pair trivial trivial trivial trivial
def ko_spec_l06Not : Ctr := ⟨n_spec_l06Not, [.v (.st .expr)], fun (c : GExpr) => ⟨(some (sz_expr c ≤ 1048576), [⟨(.st .expr), GExpr.mk 5 0 [c]⟩])⟩⟩
def lo_spec_l06Not (c : GExpr) : Nat → LoopInv := fun _ => .none
theorem vco_spec_l06Not (c : GExpr) : awp (envO [] [ko_spec_l01Own] [] [3, 4] [] [] [1]) (bodyOf f_spec_l06Not) (lo_spec_l06Not c) 0 (ownPost (envO [] [ko_spec_l01Own] [] [3, 4] [] [] [1]) f_spec_l06Not fun r => areEq r [⟨(.st .expr), GExpr.mk 5 0 [c]⟩]) (startO f_spec_l06Not [.val ⟨(.st .expr), c⟩]) =
 ((sz_expr c ≤ 1048576 ∧ (GExpr.mk (5 : Int) (0 : Int) ([(e_expr c)])) = (GExpr.mk 5 0 [c]))) := by kernel_rfl
theorem oko_spec_l06Not (hE : AllGood []) (hO : AllO [ko_spec_l01Own]) (hM : AllM []) (hS : AllS []) : Ctr.OGood ko_spec_l06Not := by
 refine ⟨fnOk_of at_spec_l06Not rfl (by decide), ?_⟩
 show ∀ (c : GExpr), (sz_expr c ≤ 1048576) → OkOwn prog n_spec_l06Not [.val ⟨(.st .expr), c⟩] [⟨(.st .expr), GExpr.mk 5 0 [c]⟩]
 intro c hp
 refine own_of_awp (own := [3, 4]) (wr := []) (cl := []) (ro := [1]) hE hO hM hS at_spec_l06Not body_spec_l06Not (lo_spec_l06Not c) ?_
 rewrite [vco_spec_l06Not c]
 refine ⟨?_, ?_⟩
 all_goals try and_intros
 all_goals try simp only [GExpr.eta, GProg.eta, GDerivation.eta, GTriple.eta, GPremise.eta, GClaim.eta, GEquation.eta, GPair.eta, GSpot.eta, e_expr_eq, e_pair_eq, e_equation_eq, e_claim_eq, e_prog_eq, e_spot_eq, e_triple_eq, e_premise_eq, e_derivation_eq] at *
 all_goals first | rfl | trivial | omega | (simp only [decide_eq_true_eq, decide_eq_false_iff_not, idxOk, inI64, inKind, cutOk, makeOk, roomOk] at *; omega) | (simp [idxOk, inI64] at *; omega) | grind
theorem ogood_spec_l06Not : Ctr.OGood ko_spec_l06Not := oko_spec_l06Not trivial ⟨ogood_spec_l01Own, trivial⟩ trivial trivial
def withE (c : GExpr) (b : Bool) (x : GExpr) : GExpr := bif b then bothE (notE c) x else bothE c x
def ko_spec_l07With : Ctr := ⟨n_spec_l07With, [.r (.st .expr), .v .bool, .r (.st .expr)], fun (c : GExpr) (b : Bool) (x : GExpr) => ⟨(some (sz_expr c ≤ 1048576 ∧ sz_expr x ≤ 1048576), [⟨(.st .expr), withE c b x⟩])⟩⟩
def lo_spec_l07With (c : GExpr) (b : Bool) (x : GExpr) : Nat → LoopInv := fun _ => .none
theorem vco_spec_l07With (c : GExpr) (b : Bool) (x : GExpr) : awp (envO [] [ko_spec_l01Own, ko_spec_l06Not, ko_spec_l02Pair] [] [9, 14, 17, 18] []) (bodyOf f_spec_l07With) (lo_spec_l07With c b x) 0 (ownPost (envO [] [ko_spec_l01Own, ko_spec_l06Not, ko_spec_l02Pair] [] [9, 14, 17, 18] []) f_spec_l07With fun r => areEq r [⟨(.st .expr), withE c b x⟩]) (startO f_spec_l07With [.ref ⟨(.st .expr), c⟩, .val ⟨.bool, b⟩, .ref ⟨(.st .expr), x⟩]) =
 ((sz_expr c ≤ 1048576 ∧ ((b = true →
 (sz_expr c ≤ 1048576 ∧ (((GExpr.mk 5 0 [c]).kind = (GExpr.mk 5 0 [c]).kind ∧ ((GExpr.mk 5 0 [c]).num = (GExpr.mk 5 0 [c]).num ∧ ((1502 : Nat) = 1502 ∧ True))) ∧ (x = x ∧ (sz_expr x ≤ 1048576 ∧ (((GExpr.mk 5 0 [c]).kind = (GExpr.mk 5 0 [c]).kind ∧ ((GExpr.mk 5 0 [c]).num = (GExpr.mk 5 0 [c]).num ∧ ((1502 : Nat) = 1502 ∧ True))) ∧ (e_expr (GExpr.mk (7 : Int) 0 [(e_expr (GExpr.mk 5 0 [c])), (e_expr x)])) = (withE c b x))))))) ∧ (b = false →
 ((c.kind = c.kind ∧ (c.num = c.num ∧ ((1002 : Nat) = 1002 ∧ True))) ∧ (x = x ∧ (sz_expr x ≤ 1048576 ∧ ((c.kind = c.kind ∧ (c.num = c.num ∧ ((1002 : Nat) = 1002 ∧ True))) ∧ (e_expr (GExpr.mk (7 : Int) 0 [(e_expr c), (e_expr x)])) = (withE c b x))))))))) := by kernel_rfl
theorem oko_spec_l07With (hE : AllGood []) (hO : AllO [ko_spec_l01Own, ko_spec_l06Not, ko_spec_l02Pair]) (hM : AllM []) (hS : AllS []) : Ctr.OGood ko_spec_l07With := by
 refine ⟨fnOk_of at_spec_l07With rfl (by decide), ?_⟩
 show ∀ (c : GExpr) (b : Bool) (x : GExpr), (sz_expr c ≤ 1048576 ∧ sz_expr x ≤ 1048576) → OkOwn prog n_spec_l07With [.ref ⟨(.st .expr), c⟩, .val ⟨.bool, b⟩, .ref ⟨(.st .expr), x⟩] [⟨(.st .expr), withE c b x⟩]
 intro c b x hp
 refine own_of_awp (own := [9, 14, 17, 18]) (wr := []) (cl := []) (ro := []) hE hO hM hS at_spec_l07With body_spec_l07With (lo_spec_l07With c b x) ?_
 rewrite [vco_spec_l07With c b x]
 refine ⟨?_, ⟨fun a0 => ⟨?_, ⟨⟨rfl, ⟨rfl, ⟨?_, ?_⟩⟩⟩, ⟨rfl, ⟨?_, ⟨⟨rfl, ⟨rfl, ⟨?_, ?_⟩⟩⟩, ?_⟩⟩⟩⟩⟩, fun a0 => ⟨⟨rfl, ⟨rfl, ⟨?_, ?_⟩⟩⟩, ⟨rfl, ⟨?_, ⟨⟨rfl, ⟨rfl, ⟨?_, ?_⟩⟩⟩, ?_⟩⟩⟩⟩⟩⟩
 all_goals try and_intros
 all_goals try simp only [GExpr.eta, GProg.eta, GDerivation.eta, GTriple.eta, GPremise.eta, GClaim.eta, GEquation.eta, GPair.eta, GSpot.eta, e_expr_eq, e_pair_eq, e_equation_eq, e_claim_eq, e_prog_eq, e_spot_eq, e_triple_eq, e_premise_eq, e_derivation_eq] at *
 all_goals first | rfl | trivial | (simp_all [withE]; done) | (simp_all [withE, bothE, notE]; done) | grind [withE, bothE, notE]
theorem ogood_spec_l07With : Ctr.OGood ko_spec_l07With := oko_spec_l07With trivial ⟨ogood_spec_l01Own, ogood_spec_l06Not, ogood_spec_l02Pair, trivial⟩ trivial trivial
def ko_spec_l07Asserted : Ctr := ⟨n_spec_l07Asserted, [.r (.st .expr), .r (.st .expr)], fun (c : GExpr) (x : GExpr) => ⟨(some (sz_expr c ≤ 1048576 ∧ sz_expr x ≤ 1048576), [⟨(.st .expr), GExpr.mk 6 0 [notE c, x]⟩])⟩⟩
def lo_spec_l07Asserted (c : GExpr) (x : GExpr) : Nat → LoopInv := fun _ => .none
theorem vco_spec_l07Asserted (c : GExpr) (x : GExpr) : awp (envO [] [ko_spec_l01Own, ko_spec_l06Not, ko_spec_l02Pair] [] [8, 10, 11] []) (bodyOf f_spec_l07Asserted) (lo_spec_l07Asserted c x) 0 (ownPost (envO [] [ko_spec_l01Own, ko_spec_l06Not, ko_spec_l02Pair] [] [8, 10, 11] []) f_spec_l07Asserted fun r => areEq r [⟨(.st .expr), GExpr.mk 6 0 [notE c, x]⟩]) (startO f_spec_l07Asserted [.ref ⟨(.st .expr), c⟩, .ref ⟨(.st .expr), x⟩]) =
 ((sz_expr c ≤ 1048576 ∧ (sz_expr x ≤ 1048576 ∧ (e_expr (GExpr.mk (6 : Int) 0 [(e_expr (GExpr.mk 5 0 [c])), (e_expr x)])) = (GExpr.mk 6 0 [notE c, x])))) := by kernel_rfl
theorem oko_spec_l07Asserted (hE : AllGood []) (hO : AllO [ko_spec_l01Own, ko_spec_l06Not, ko_spec_l02Pair]) (hM : AllM []) (hS : AllS []) : Ctr.OGood ko_spec_l07Asserted := by
 refine ⟨fnOk_of at_spec_l07Asserted rfl (by decide), ?_⟩
 show ∀ (c : GExpr) (x : GExpr), (sz_expr c ≤ 1048576 ∧ sz_expr x ≤ 1048576) → OkOwn prog n_spec_l07Asserted [.ref ⟨(.st .expr), c⟩, .ref ⟨(.st .expr), x⟩] [⟨(.st .expr), GExpr.mk 6 0 [notE c, x]⟩]
 intro c x hp
 refine own_of_awp (own := [8, 10, 11]) (wr := []) (cl := []) (ro := []) hE hO hM hS at_spec_l07Asserted body_spec_l07Asserted (lo_spec_l07Asserted c x) ?_
 rewrite [vco_spec_l07Asserted c x]
 refine ⟨?_, ⟨?_, ?_⟩⟩
 all_goals try and_intros
 all_goals try simp only [GExpr.eta, GProg.eta, GDerivation.eta, GTriple.eta, GPremise.eta, GClaim.eta, GEquation.eta, GPair.eta, GSpot.eta, e_expr_eq, e_pair_eq, e_equation_eq, e_claim_eq, e_prog_eq, e_spot_eq, e_triple_eq, e_premise_eq, e_derivation_eq] at *
 all_goals first | rfl | trivial | (simp_all [notE]; done) | grind [notE]
theorem ogood_spec_l07Asserted : Ctr.OGood ko_spec_l07Asserted := oko_spec_l07Asserted trivial ⟨ogood_spec_l01Own, ogood_spec_l06Not, ogood_spec_l02Pair, trivial⟩ trivial trivial
theorem any_take {α : Type} (p : α → Bool) (z : α) (xs : List α) (k : Nat) (h : k < xs.length) : (xs.take (k + 1)).any p = ((xs.take k).any p || p (xs.getD k z)) := by
 rw [take_snoc z xs k h, List.any_append]; simp
theorem any_done {α : Type} (p : α → Bool) (xs : List α) (k : Nat) (h : xs.length ≤ k) : (xs.take k).any p = xs.any p := by rw [List.take_of_length_le h]
theorem any_zero {α : Type} (p : α → Bool) (xs : List α) : (xs.take 0).any p = false := by simp
def k_spec_l07Together : Ctr := ⟨n_spec_l07Together, [.v (.st .sig), .r (.st .derivation)], fun (gg : GSig) (d : GDerivation) => ⟨(some (sigOk gg = true ∧ gdK d = true ∧ allL gdK d.kids = true), [⟨.bool, togB gg d⟩])⟩⟩
def l_spec_l07Together (gg : GSig) (d : GDerivation) : Nat → LoopInv := (fun zb => if Nat.beq zb 0 then .mk (Nat) (fun k => k ≤ d.kids.length ∧ allL (sameP d.says.prog) (d.kids.take k) = true) (fun k => d.kids.length - k) [] [0, 3] (fun k => [(5, .imm ⟨(.int .i64), ((k : Int) : Int)⟩)]) [1, 2, 4, 5, 6, 7, 8, 9, 10, 11, 12, 13, 14, 15, 16, 17, 18, 19, 20, 21, 22, 23, 24, 25, 26, 27, 28, 29, 30, 31, 32, 33, 34, 35, 36, 37, 38, 39, 40, 41, 42, 43, 44, 45, 46, 47, 48, 49, 50, 51, 52, 53, 54, 55, 56, 57, 58, 59, 60, 61, 62, 63, 64, 65, 66, 67, 68, 69, 70, 71, 72, 73, 74, 75, 76, 77, 78, 79, 80, 81, 82, 83, 84, 85, 86, 87, 88, 89, 90, 91, 92, 93, 94, 95, 96] (fun k => []) [] [] (fun k => fun _ => .none) else if Nat.beq zb 2 then .mk (Nat) (fun x => x ≤ (atomsN gg).toNat ∧ allN (togR d (atomsN gg).toNat) x = true ∧ allL (sameP d.says.prog) d.kids = true) (fun x => (atomsN gg).toNat - x) [] [0, 3, 5, 10, 11, 12, 13, 14, 15, 16, 17, 18, 19, 20, 21, 22, 23, 24, 25, 26, 27, 28, 29, 30, 31, 32] (fun x => [(6, .imm ⟨(.int .i64), ((x : Int) : Int)⟩)]) [1, 2, 4, 6, 7, 8, 9, 33, 34, 35, 36, 37, 38, 39, 40, 41, 42, 43, 44, 45, 46, 47, 48, 49, 50, 51, 52, 53, 54, 55, 56, 57, 58, 59, 60, 61, 62, 63, 64, 65, 66, 67, 68, 69, 70, 71, 72, 73, 74, 75, 76, 77, 78, 79, 80, 81, 82, 83, 84, 85, 86, 87, 88, 89, 90, 91, 92, 93, 94, 95, 96] (fun x => []) [] [] (fun x => (fun zb => if Nat.beq zb 4 then .mk (Nat) (fun y => y ≤ (atomsN gg).toNat ∧ allN (togA d x) y = true ∧ (x : Int) < atomsN gg) (fun y => (atomsN gg).toNat - y) [] [0, 3, 5, 10, 11, 12, 13, 14, 15, 16, 17, 18, 19, 20, 21, 22, 23, 24, 25, 26, 27, 28, 29, 30, 31, 32] (fun y => [(7, .imm ⟨(.int .i64), ((y : Int) : Int)⟩)]) [1, 2, 4, 6, 7, 8, 9, 33, 34, 35, 36, 37, 38, 39, 40, 41, 42, 43, 44, 45, 46, 47, 48, 49, 50, 51, 52, 53, 54, 55, 56, 57, 58, 59, 60, 61, 62, 63, 64, 65, 66, 67, 68, 69, 70, 71, 72, 73, 74, 75, 76, 77, 78, 79, 80, 81, 82, 83, 84, 85, 86, 87, 88, 89, 90, 91, 92, 93, 94, 95, 96] (fun y => []) [] [] (fun y => (fun zb => if Nat.beq zb 6 then .mk (Nat) (fun i => i ≤ d.kids.length ∧ (y : Int) < atomsN gg ∧ truE (x : Int) d.says.pre = true ∧ truE (y : Int) d.says.post = false) (fun i => d.kids.length - i) [] [0, 3, 5, 10, 11, 12, 13, 14, 15, 16, 17, 18, 19, 20, 21, 22, 23, 24, 25, 26, 27, 28, 29, 30, 31, 32] (fun i => [(9, .imm ⟨(.int .i64), ((i : Int) : Int)⟩), (8, .imm ⟨.bool, ((d.kids.take i).any (togK (x : Int) (y : Int)) : Bool)⟩)]) [1, 2, 4, 6, 7, 8, 9, 33, 34, 35, 36, 37, 38, 39, 40, 41, 42, 43, 44, 45, 46, 47, 48, 49, 50, 51, 52, 53, 54, 55, 56, 57, 58, 59, 60, 61, 62, 63, 64, 65, 66, 67, 68, 69, 70, 71, 72, 73, 74, 75, 76, 77, 78, 79, 80, 81, 82, 83, 84, 85, 86, 87, 88, 89, 90, 91, 92, 93, 94, 95, 96] (fun i => []) [] [] (fun i => fun _ => .none) else .none)) else .none)) else .none)
abbrev j_spec_l07Together_0 (gg : GSig) (x2 : Nat) : Prop := ((x2 : Int) = (x2 : Int) ∧ (gg = gg ∧ ((atomsN gg) = (atomsN gg) ∧ ((decide ((x2 : Int) < (atomsN gg))) = (decide ((x2 : Int) < (atomsN gg))) ∧ True))))
abbrev j_spec_l07Together_1 (gg : GSig) (d : GDerivation) (x2 : Nat) (y3 : Nat) : Prop := (inI64 ((y3 : Int) + (1 : Int)) ∧ (∃ y4 : Nat, ((y4 ≤ (atomsN gg).toNat ∧ allN (togA d x2) y4 = true ∧ (x2 : Int) < atomsN gg) ∧ ((atomsN gg).toNat - y4 < (atomsN gg).toNat - y3 ∧ ((d = d ∧ (gg = gg ∧ ((x2 : Int) = (x2 : Int) ∧ (((y3 : Int) + (1 : Int)) = (y4 : Int) ∧ (j_spec_l07Together_0 gg x2))))) ∧ True)))))
abbrev j_spec_l07Together_2 (gg : GSig) (d : GDerivation) (x2 : Nat) (y3 : Nat) : Prop := ((x2 : Int) = (x2 : Int) ∧ (gg = gg ∧ ((atomsN gg) = (atomsN gg) ∧ ((decide ((x2 : Int) < (atomsN gg))) = (decide ((x2 : Int) < (atomsN gg))) ∧ ((y3 : Int) = (y3 : Int) ∧ (gg = gg ∧ ((atomsN gg) = (atomsN gg) ∧ ((decide ((y3 : Int) < (atomsN gg))) = (decide ((y3 : Int) < (atomsN gg))) ∧ (d = d ∧ (d = d ∧ (d.says = d.says ∧ (d.says.pre = d.says.pre ∧ ((x2 : Int) = (x2 : Int) ∧ ((truE (x2 : Int) d.says.pre) = (truE (x2 : Int) d.says.pre) ∧ ((!(truE (x2 : Int) d.says.pre)) = (!(truE (x2 : Int) d.says.pre)) ∧ (false = false ∧ (d = d ∧ (d = d ∧ (d.says = d.says ∧ (d.says.post = d.says.post ∧ ((y3 : Int) = (y3 : Int) ∧ ((truE (y3 : Int) d.says.post) = (truE (y3 : Int) d.says.post) ∧ ((truE (y3 : Int) d.says.post) = (truE (y3 : Int) d.says.post) ∧ True)))))))))))))))))))))))
abbrev j_spec_l07Together_3 (gg : GSig) (d : GDerivation) (x2 : Nat) (y3 : Nat) (i4 : Nat) : Prop := ((decide ((i4 : Int) < ((d.kids.length : Int)))) = false →
 (((!((d.kids.take i4).any (togK (x2 : Int) (y3 : Int)))) = true →
 false = (togB gg d)) ∧ ((!((d.kids.take i4).any (togK (x2 : Int) (y3 : Int)))) = false →
 (inI64 ((y3 : Int) + (1 : Int)) ∧ (∃ y5 : Nat, ((y5 ≤ (atomsN gg).toNat ∧ allN (togA d x2) y5 = true ∧ (x2 : Int) < atomsN gg) ∧ ((atomsN gg).toNat - y5 < (atomsN gg).toNat - y3 ∧ ((d = d ∧ (gg = gg ∧ ((x2 : Int) = (x2 : Int) ∧ (((y3 : Int) + (1 : Int)) = (y5 : Int) ∧ (j_spec_l07Together_0 gg x2))))) ∧ True))))))))
abbrev j_spec_l07Together_4 (gg : GSig) (d : GDerivation) (x2 : Nat) (y3 : Nat) : Prop := ((x2 : Int) = (x2 : Int) ∧ (gg = gg ∧ ((atomsN gg) = (atomsN gg) ∧ ((decide ((x2 : Int) < (atomsN gg))) = (decide ((x2 : Int) < (atomsN gg))) ∧ ((y3 : Int) = (y3 : Int) ∧ (gg = gg ∧ ((atomsN gg) = (atomsN gg) ∧ ((decide ((y3 : Int) < (atomsN gg))) = (decide ((y3 : Int) < (atomsN gg))) ∧ (d = d ∧ (d = d ∧ (d.says = d.says ∧ (d.says.pre = d.says.pre ∧ ((x2 : Int) = (x2 : Int) ∧ ((truE (x2 : Int) d.says.pre) = (truE (x2 : Int) d.says.pre) ∧ ((!(truE (x2 : Int) d.says.pre)) = (!(truE (x2 : Int) d.says.pre)) ∧ (true = true ∧ (False ∧ (False ∧ (False ∧ (False ∧ (False ∧ (False ∧ (true = true ∧ True)))))))))))))))))))))))
theorem vc_spec_l07Together (gg : GSig) (d : GDerivation) : awp (envOf [k_spec_l06Same, k_spec_l01Atoms, k_spec_l01True] [] [] [2]) (bodyOf f_spec_l07Together) (l_spec_l07Together gg d) 0 (funPost (envOf [k_spec_l06Same, k_spec_l01Atoms, k_spec_l01True] [] [] [2]) f_spec_l07Together fun r => areEq r [⟨.bool, togB gg d⟩]) (startState f_spec_l07Together [.val ⟨(.st .sig), gg⟩, .ref ⟨(.st .derivation), d⟩]) =
 (((∃ k1 : Nat, ((k1 ≤ d.kids.length ∧ allL (sameP d.says.prog) (d.kids.take k1) = true) ∧ ((d = d ∧ (gg = gg ∧ ((0 : Int) = (k1 : Int) ∧ True))) ∧ True))) ∧ (∀ k1 : Nat, ((k1 ≤ d.kids.length ∧ allL (sameP d.says.prog) (d.kids.take k1) = true) →
 (d.kids.length ≤ 140737488355328 →
 (inI64 ((d.kids.length : Int)) →
 (((decide ((k1 : Int) < ((d.kids.length : Int)))) = true →
 (idxOk (k1 : Int) d.kids.length ∧ (d.kids.length ≤ 140737488355328 →
 (((!(eqB (d.kids.getD k1 zD).says.prog d.says.prog)) = true →
 false = (togB gg d)) ∧ ((!(eqB (d.kids.getD k1 zD).says.prog d.says.prog)) = false →
 (inI64 ((k1 : Int) + (1 : Int)) ∧ (∃ k2 : Nat, ((k2 ≤ d.kids.length ∧ allL (sameP d.says.prog) (d.kids.take k2) = true) ∧ (d.kids.length - k2 < d.kids.length - k1 ∧ ((d = d ∧ (gg = gg ∧ (((k1 : Int) + (1 : Int)) = (k2 : Int) ∧ True))) ∧ True)))))))))) ∧ ((decide ((k1 : Int) < ((d.kids.length : Int)))) = false →
 ((∃ x2 : Nat, ((x2 ≤ (atomsN gg).toNat ∧ allN (togR d (atomsN gg).toNat) x2 = true ∧ allL (sameP d.says.prog) d.kids = true) ∧ ((d = d ∧ (gg = gg ∧ ((0 : Int) = (x2 : Int) ∧ True))) ∧ True))) ∧ (∀ x2 : Nat, ((x2 ≤ (atomsN gg).toNat ∧ allN (togR d (atomsN gg).toNat) x2 = true ∧ allL (sameP d.says.prog) d.kids = true) →
 ((0 ≤ gg.tests ∧ gg.tests ≤ 3) ∧ (inI64 (atomsN gg) →
 (((decide ((x2 : Int) < (atomsN gg))) = true →
 ((∃ y3 : Nat, ((y3 ≤ (atomsN gg).toNat ∧ allN (togA d x2) y3 = true ∧ (x2 : Int) < atomsN gg) ∧ ((d = d ∧ (gg = gg ∧ ((x2 : Int) = (x2 : Int) ∧ ((0 : Int) = (y3 : Int) ∧ (j_spec_l07Together_0 gg x2))))) ∧ True))) ∧ (∀ y3 : Nat, ((y3 ≤ (atomsN gg).toNat ∧ allN (togA d x2) y3 = true ∧ (x2 : Int) < atomsN gg) →
 ((0 ≤ gg.tests ∧ gg.tests ≤ 3) ∧ (inI64 (atomsN gg) →
 (((decide ((y3 : Int) < (atomsN gg))) = true →
 ((goodC d.says.pre = true ∧ 0 ≤ (x2 : Int) ∧ (x2 : Int) ≤ 4096) ∧ (((!(truE (x2 : Int) d.says.pre)) = false →
 ((goodC d.says.post = true ∧ 0 ≤ (y3 : Int) ∧ (y3 : Int) ≤ 4096) ∧ (((truE (y3 : Int) d.says.post) = true →
 (j_spec_l07Together_1 gg d x2 y3)) ∧ ((truE (y3 : Int) d.says.post) = false →
 ((∃ i4 : Nat, ((i4 ≤ d.kids.length ∧ (y3 : Int) < atomsN gg ∧ truE (x2 : Int) d.says.pre = true ∧ truE (y3 : Int) d.says.post = false) ∧ ((d = d ∧ (gg = gg ∧ ((x2 : Int) = (x2 : Int) ∧ ((y3 : Int) = (y3 : Int) ∧ (false = ((d.kids.take i4).any (togK (x2 : Int) (y3 : Int))) ∧ ((0 : Int) = (i4 : Int) ∧ (j_spec_l07Together_2 gg d x2 y3))))))) ∧ True))) ∧ (∀ i4 : Nat, ((i4 ≤ d.kids.length ∧ (y3 : Int) < atomsN gg ∧ truE (x2 : Int) d.says.pre = true ∧ truE (y3 : Int) d.says.post = false) →
 (d.kids.length ≤ 140737488355328 →
 (inI64 ((d.kids.length : Int)) →
 (((decide ((i4 : Int) < ((d.kids.length : Int)))) = true →
 ((((d.kids.take i4).any (togK (x2 : Int) (y3 : Int))) = false →
 (d.kids.length ≤ 140737488355328 →
 (idxOk (i4 : Int) d.kids.length ∧ ((goodC (d.kids.getD i4 zD).says.pre = true ∧ 0 ≤ (x2 : Int) ∧ (x2 : Int) ≤ 4096) ∧ (((truE (x2 : Int) (d.kids.getD i4 zD).says.pre) = true →
 (d.kids.length ≤ 140737488355328 →
 (idxOk (i4 : Int) d.kids.length ∧ ((goodC (d.kids.getD i4 zD).says.post = true ∧ 0 ≤ (y3 : Int) ∧ (y3 : Int) ≤ 4096) ∧ (inI64 ((i4 : Int) + (1 : Int)) ∧ (∃ i5 : Nat, ((i5 ≤ d.kids.length ∧ (y3 : Int) < atomsN gg ∧ truE (x2 : Int) d.says.pre = true ∧ truE (y3 : Int) d.says.post = false) ∧ (d.kids.length - i5 < d.kids.length - i4 ∧ ((d = d ∧ (gg = gg ∧ ((x2 : Int) = (x2 : Int) ∧ ((y3 : Int) = (y3 : Int) ∧ ((!(truE (y3 : Int) (d.kids.getD i4 zD).says.post)) = ((d.kids.take i5).any (togK (x2 : Int) (y3 : Int))) ∧ (((i4 : Int) + (1 : Int)) = (i5 : Int) ∧ (j_spec_l07Together_2 gg d x2 y3))))))) ∧ True))))))))) ∧ ((truE (x2 : Int) (d.kids.getD i4 zD).says.pre) = (!true) →
 (inI64 ((i4 : Int) + (1 : Int)) ∧ (∃ i5 : Nat, ((i5 ≤ d.kids.length ∧ (y3 : Int) < atomsN gg ∧ truE (x2 : Int) d.says.pre = true ∧ truE (y3 : Int) d.says.post = false) ∧ (d.kids.length - i5 < d.kids.length - i4 ∧ ((d = d ∧ (gg = gg ∧ ((x2 : Int) = (x2 : Int) ∧ ((y3 : Int) = (y3 : Int) ∧ (false = ((d.kids.take i5).any (togK (x2 : Int) (y3 : Int))) ∧ (((i4 : Int) + (1 : Int)) = (i5 : Int) ∧ (j_spec_l07Together_2 gg d x2 y3))))))) ∧ True))))))))))) ∧ (((d.kids.take i4).any (togK (x2 : Int) (y3 : Int))) = (!false) →
 (inI64 ((i4 : Int) + (1 : Int)) ∧ (∃ i5 : Nat, ((i5 ≤ d.kids.length ∧ (y3 : Int) < atomsN gg ∧ truE (x2 : Int) d.says.pre = true ∧ truE (y3 : Int) d.says.post = false) ∧ (d.kids.length - i5 < d.kids.length - i4 ∧ ((d = d ∧ (gg = gg ∧ ((x2 : Int) = (x2 : Int) ∧ ((y3 : Int) = (y3 : Int) ∧ (true = ((d.kids.take i5).any (togK (x2 : Int) (y3 : Int))) ∧ (((i4 : Int) + (1 : Int)) = (i5 : Int) ∧ (j_spec_l07Together_2 gg d x2 y3))))))) ∧ True)))))))) ∧ (j_spec_l07Together_3 gg d x2 y3 i4))))))))))) ∧ ((!(truE (x2 : Int) d.says.pre)) = (!false) →
 ((true = true →
 (j_spec_l07Together_1 gg d x2 y3)) ∧ (true = false →
 ((∃ i4 : Nat, ((i4 ≤ d.kids.length ∧ (y3 : Int) < atomsN gg ∧ truE (x2 : Int) d.says.pre = true ∧ truE (y3 : Int) d.says.post = false) ∧ ((d = d ∧ (gg = gg ∧ ((x2 : Int) = (x2 : Int) ∧ ((y3 : Int) = (y3 : Int) ∧ (false = ((d.kids.take i4).any (togK (x2 : Int) (y3 : Int))) ∧ ((0 : Int) = (i4 : Int) ∧ (j_spec_l07Together_4 gg d x2 y3))))))) ∧ True))) ∧ (∀ i4 : Nat, ((i4 ≤ d.kids.length ∧ (y3 : Int) < atomsN gg ∧ truE (x2 : Int) d.says.pre = true ∧ truE (y3 : Int) d.says.post = false) →
 (d.kids.length ≤ 140737488355328 →
 (inI64 ((d.kids.length : Int)) →
 (((decide ((i4 : Int) < ((d.kids.length : Int)))) = true →
 ((((d.kids.take i4).any (togK (x2 : Int) (y3 : Int))) = false →
 (d.kids.length ≤ 140737488355328 →
 (idxOk (i4 : Int) d.kids.length ∧ ((goodC (d.kids.getD i4 zD).says.pre = true ∧ 0 ≤ (x2 : Int) ∧ (x2 : Int) ≤ 4096) ∧ (((truE (x2 : Int) (d.kids.getD i4 zD).says.pre) = true →
 (d.kids.length ≤ 140737488355328 →
 (idxOk (i4 : Int) d.kids.length ∧ ((goodC (d.kids.getD i4 zD).says.post = true ∧ 0 ≤ (y3 : Int) ∧ (y3 : Int) ≤ 4096) ∧ (inI64 ((i4 : Int) + (1 : Int)) ∧ (∃ i5 : Nat, ((i5 ≤ d.kids.length ∧ (y3 : Int) < atomsN gg ∧ truE (x2 : Int) d.says.pre = true ∧ truE (y3 : Int) d.says.post = false) ∧ (d.kids.length - i5 < d.kids.length - i4 ∧ ((d = d ∧ (gg = gg ∧ ((x2 : Int) = (x2 : Int) ∧ ((y3 : Int) = (y3 : Int) ∧ ((!(truE (y3 : Int) (d.kids.getD i4 zD).says.post)) = ((d.kids.take i5).any (togK (x2 : Int) (y3 : Int))) ∧ (((i4 : Int) + (1 : Int)) = (i5 : Int) ∧ (j_spec_l07Together_4 gg d x2 y3))))))) ∧ True))))))))) ∧ ((truE (x2 : Int) (d.kids.getD i4 zD).says.pre) = (!true) →
 (inI64 ((i4 : Int) + (1 : Int)) ∧ (∃ i5 : Nat, ((i5 ≤ d.kids.length ∧ (y3 : Int) < atomsN gg ∧ truE (x2 : Int) d.says.pre = true ∧ truE (y3 : Int) d.says.post = false) ∧ (d.kids.length - i5 < d.kids.length - i4 ∧ ((d = d ∧ (gg = gg ∧ ((x2 : Int) = (x2 : Int) ∧ ((y3 : Int) = (y3 : Int) ∧ (false = ((d.kids.take i5).any (togK (x2 : Int) (y3 : Int))) ∧ (((i4 : Int) + (1 : Int)) = (i5 : Int) ∧ (j_spec_l07Together_4 gg d x2 y3))))))) ∧ True))))))))))) ∧ (((d.kids.take i4).any (togK (x2 : Int) (y3 : Int))) = (!false) →
 (inI64 ((i4 : Int) + (1 : Int)) ∧ (∃ i5 : Nat, ((i5 ≤ d.kids.length ∧ (y3 : Int) < atomsN gg ∧ truE (x2 : Int) d.says.pre = true ∧ truE (y3 : Int) d.says.post = false) ∧ (d.kids.length - i5 < d.kids.length - i4 ∧ ((d = d ∧ (gg = gg ∧ ((x2 : Int) = (x2 : Int) ∧ ((y3 : Int) = (y3 : Int) ∧ (true = ((d.kids.take i5).any (togK (x2 : Int) (y3 : Int))) ∧ (((i4 : Int) + (1 : Int)) = (i5 : Int) ∧ (j_spec_l07Together_4 gg d x2 y3))))))) ∧ True)))))))) ∧ (j_spec_l07Together_3 gg d x2 y3 i4))))))))))))) ∧ ((decide ((y3 : Int) < (atomsN gg))) = false →
 (inI64 ((x2 : Int) + (1 : Int)) ∧ (∃ x4 : Nat, ((x4 ≤ (atomsN gg).toNat ∧ allN (togR d (atomsN gg).toNat) x4 = true ∧ allL (sameP d.says.prog) d.kids = true) ∧ ((atomsN gg).toNat - x4 < (atomsN gg).toNat - x2 ∧ ((d = d ∧ (gg = gg ∧ (((x2 : Int) + (1 : Int)) = (x4 : Int) ∧ True))) ∧ True))))))))))))) ∧ ((decide ((x2 : Int) < (atomsN gg))) = false →
 true = (togB gg d)))))))))))))))) := by kernel_rfl
theorem ok_spec_l07Together (hE : AllGood [k_spec_l06Same, k_spec_l01Atoms, k_spec_l01True]) : Ctr.Good k_spec_l07Together := by
 refine ⟨fnOk_of at_spec_l07Together rfl (by decide), ?_⟩
 show ∀ (gg : GSig) (d : GDerivation), (sigOk gg = true ∧ gdK d = true ∧ allL gdK d.kids = true) → OkCall prog n_spec_l07Together [.val ⟨(.st .sig), gg⟩, .ref ⟨(.st .derivation), d⟩] (· = [⟨.bool, togB gg d⟩])
 intro gg d hp
 refine ok_of_awp (wr := []) (cl := []) (ro := [2]) hE at_spec_l07Together body_spec_l07Together (l_spec_l07Together gg d) ?_
 rewrite [vc_spec_l07Together gg d]
 have fs := (sigOk_iff gg).1 hp.1
 have fa := atomsN_le gg fs.1
 have fg := rule_says gg d hp.2.1
 have f0 := all_zero (sameP d.says.prog) d.kids
 have f1 := togB_eq gg d
 have f2 := allN_zero (togR d (atomsN gg).toNat)
 have f3 := hp.2.2
 refine ⟨⟨0, ⟨?_, ⟨⟨rfl, ⟨rfl, ⟨?_, trivial⟩⟩⟩, trivial⟩⟩⟩, fun k1 a0 => have b0x0 := all_take (sameP d.says.prog) zD d.kids k1; have b0x1 := all_bad (sameP d.says.prog) zD d.kids k1; have b0x2 := all_done (sameP d.says.prog) d.kids k1; have b0x3 := sameP_eq d.says.prog (d.kids.getD k1 zD); fun a1 => fun a2 => ⟨fun a3 => ⟨?_, fun a4 => ⟨fun a5 => ?_, fun a5 => ⟨?_, ⟨k1 + 1, ⟨?_, ⟨?_, ⟨⟨rfl, ⟨rfl, ⟨?_, trivial⟩⟩⟩, trivial⟩⟩⟩⟩⟩⟩⟩, fun a3 => ⟨⟨0, ⟨?_, ⟨⟨rfl, ⟨rfl, ⟨?_, trivial⟩⟩⟩, trivial⟩⟩⟩, fun x2 a4 => have b4x0 := allN_succ (togR d (atomsN gg).toNat) x2; have b4x1 := allN_bad (togR d (atomsN gg).toNat) (atomsN gg).toNat x2; have b4x2 := togR_eq d (atomsN gg).toNat x2; have b4x3 := allN_zero (togA d x2); ⟨?_, fun a5 => ⟨fun a6 => ⟨⟨0, ⟨?_, ⟨⟨rfl, ⟨rfl, ⟨rfl, ⟨?_, ⟨rfl, ⟨rfl, ⟨rfl, ⟨rfl, trivial⟩⟩⟩⟩⟩⟩⟩⟩, trivial⟩⟩⟩, fun y3 a7 => have b7x0 := allN_succ (togA d x2) y3; have b7x1 := allN_bad (togA d x2) (atomsN gg).toNat y3; have b7x2 := togA_eq d x2 y3; have b7x3 := any_zero (togK (x2 : Int) (y3 : Int)) d.kids; ⟨?_, fun a8 => ⟨fun a9 => ⟨?_, ⟨fun a10 => ⟨?_, ⟨fun a11 => ⟨?_, ⟨y3 + 1, ⟨?_, ⟨?_, ⟨⟨rfl, ⟨rfl, ⟨rfl, ⟨?_, ⟨rfl, ⟨rfl, ⟨rfl, ⟨rfl, trivial⟩⟩⟩⟩⟩⟩⟩⟩, trivial⟩⟩⟩⟩⟩, fun a11 => ⟨⟨0, ⟨?_, ⟨⟨rfl, ⟨rfl, ⟨rfl, ⟨rfl, ⟨?_, ⟨?_, ⟨rfl, ⟨rfl, ⟨rfl, ⟨rfl, ⟨rfl, ⟨rfl, ⟨rfl, ⟨rfl, ⟨rfl, ⟨rfl, ⟨rfl, ⟨rfl, ⟨rfl, ⟨rfl, ⟨rfl, ⟨rfl, ⟨rfl, ⟨rfl, ⟨rfl, ⟨rfl, ⟨rfl, ⟨rfl, ⟨rfl, trivial⟩⟩⟩⟩⟩⟩⟩⟩⟩⟩⟩⟩⟩⟩⟩⟩⟩⟩⟩⟩⟩⟩⟩⟩⟩⟩⟩⟩⟩, trivial⟩⟩⟩, fun i4 a12 => have b12x0 := any_take (togK (x2 : Int) (y3 : Int)) zD d.kids i4; have b12x1 := any_done (togK (x2 : Int) (y3 : Int)) d.kids i4; have b12x2 := togK_eq (x2 : Int) (y3 : Int) (d.kids.getD i4 zD); have b12x3 := all_getD gdK zD d.kids i4; have b12x4 := gdK_eq (d.kids.getD i4 zD); fun a13 => fun a14 => ⟨fun a15 => ⟨fun a16 => fun a17 => ⟨?_, ⟨?_, ⟨fun a18 => fun a19 => ⟨?_, ⟨?_, ⟨?_, ⟨i4 + 1, ⟨?_, ⟨?_, ⟨⟨rfl, ⟨rfl, ⟨rfl, ⟨rfl, ⟨?_, ⟨?_, ⟨rfl, ⟨rfl, ⟨rfl, ⟨rfl, ⟨rfl, ⟨rfl, ⟨rfl, ⟨rfl, ⟨rfl, ⟨rfl, ⟨rfl, ⟨rfl, ⟨rfl, ⟨rfl, ⟨rfl, ⟨rfl, ⟨rfl, ⟨rfl, ⟨rfl, ⟨rfl, ⟨rfl, ⟨rfl, ⟨rfl, trivial⟩⟩⟩⟩⟩⟩⟩⟩⟩⟩⟩⟩⟩⟩⟩⟩⟩⟩⟩⟩⟩⟩⟩⟩⟩⟩⟩⟩⟩, trivial⟩⟩⟩⟩⟩⟩⟩, fun a18 => ⟨?_, ⟨i4 + 1, ⟨?_, ⟨?_, ⟨⟨rfl, ⟨rfl, ⟨rfl, ⟨rfl, ⟨?_, ⟨?_, ⟨rfl, ⟨rfl, ⟨rfl, ⟨rfl, ⟨rfl, ⟨rfl, ⟨rfl, ⟨rfl, ⟨rfl, ⟨rfl, ⟨rfl, ⟨rfl, ⟨rfl, ⟨rfl, ⟨rfl, ⟨rfl, ⟨rfl, ⟨rfl, ⟨rfl, ⟨rfl, ⟨rfl, ⟨rfl, ⟨rfl, trivial⟩⟩⟩⟩⟩⟩⟩⟩⟩⟩⟩⟩⟩⟩⟩⟩⟩⟩⟩⟩⟩⟩⟩⟩⟩⟩⟩⟩⟩, trivial⟩⟩⟩⟩⟩⟩⟩⟩, fun a16 => ⟨?_, ⟨i4 + 1, ⟨?_, ⟨?_, ⟨⟨rfl, ⟨rfl, ⟨rfl, ⟨rfl, ⟨?_, ⟨?_, ⟨rfl, ⟨rfl, ⟨rfl, ⟨rfl, ⟨rfl, ⟨rfl, ⟨rfl, ⟨rfl, ⟨rfl, ⟨rfl, ⟨rfl, ⟨rfl, ⟨rfl, ⟨rfl, ⟨rfl, ⟨rfl, ⟨rfl, ⟨rfl, ⟨rfl, ⟨rfl, ⟨rfl, ⟨rfl, ⟨rfl, trivial⟩⟩⟩⟩⟩⟩⟩⟩⟩⟩⟩⟩⟩⟩⟩⟩⟩⟩⟩⟩⟩⟩⟩⟩⟩⟩⟩⟩⟩, trivial⟩⟩⟩⟩⟩⟩, fun a15 => ⟨fun a16 => ?_, fun a16 => ⟨?_, ⟨y3 + 1, ⟨?_, ⟨?_, ⟨⟨rfl, ⟨rfl, ⟨rfl, ⟨?_, ⟨rfl, ⟨rfl, ⟨rfl, ⟨rfl, trivial⟩⟩⟩⟩⟩⟩⟩⟩, trivial⟩⟩⟩⟩⟩⟩⟩⟩⟩⟩, fun a10 => ⟨fun a11 => ⟨?_, ⟨y3 + 1, ⟨?_, ⟨?_, ⟨⟨rfl, ⟨rfl, ⟨rfl, ⟨?_, ⟨rfl, ⟨rfl, ⟨rfl, ⟨rfl, trivial⟩⟩⟩⟩⟩⟩⟩⟩, trivial⟩⟩⟩⟩⟩, fun a11 => ⟨⟨0, ⟨?_, ⟨⟨rfl, ⟨rfl, ⟨rfl, ⟨rfl, ⟨?_, ⟨?_, ⟨rfl, ⟨rfl, ⟨rfl, ⟨rfl, ⟨rfl, ⟨rfl, ⟨rfl, ⟨rfl, ⟨rfl, ⟨rfl, ⟨rfl, ⟨rfl, ⟨rfl, ⟨rfl, ⟨rfl, ⟨rfl, ⟨?_, ⟨?_, ⟨?_, ⟨?_, ⟨?_, ⟨?_, ⟨rfl, trivial⟩⟩⟩⟩⟩⟩⟩⟩⟩⟩⟩⟩⟩⟩⟩⟩⟩⟩⟩⟩⟩⟩⟩⟩⟩⟩⟩⟩⟩, trivial⟩⟩⟩, fun i4 a12 => have b12x0 := any_take (togK (x2 : Int) (y3 : Int)) zD d.kids i4; have b12x1 := any_done (togK (x2 : Int) (y3 : Int)) d.kids i4; have b12x2 := togK_eq (x2 : Int) (y3 : Int) (d.kids.getD i4 zD); have b12x3 := all_getD gdK zD d.kids i4; have b12x4 := gdK_eq (d.kids.getD i4 zD); fun a13 => fun a14 => ⟨fun a15 => ⟨fun a16 => fun a17 => ⟨?_, ⟨?_, ⟨fun a18 => fun a19 => ⟨?_, ⟨?_, ⟨?_, ⟨i4 + 1, ⟨?_, ⟨?_, ⟨⟨rfl, ⟨rfl, ⟨rfl, ⟨rfl, ⟨?_, ⟨?_, ⟨rfl, ⟨rfl, ⟨rfl, ⟨rfl, ⟨rfl, ⟨rfl, ⟨rfl, ⟨rfl, ⟨rfl, ⟨rfl, ⟨rfl, ⟨rfl, ⟨rfl, ⟨rfl, ⟨rfl, ⟨rfl, ⟨?_, ⟨?_, ⟨?_, ⟨?_, ⟨?_, ⟨?_, ⟨rfl, trivial⟩⟩⟩⟩⟩⟩⟩⟩⟩⟩⟩⟩⟩⟩⟩⟩⟩⟩⟩⟩⟩⟩⟩⟩⟩⟩⟩⟩⟩, trivial⟩⟩⟩⟩⟩⟩⟩, fun a18 => ⟨?_, ⟨i4 + 1, ⟨?_, ⟨?_, ⟨⟨rfl, ⟨rfl, ⟨rfl, ⟨rfl, ⟨?_, ⟨?_, ⟨rfl, ⟨rfl, ⟨rfl, ⟨rfl, ⟨rfl, ⟨rfl, ⟨rfl, ⟨rfl, ⟨rfl, ⟨rfl, ⟨rfl, ⟨rfl, ⟨rfl, ⟨rfl, ⟨rfl, ⟨rfl, ⟨?_, ⟨?_, ⟨?_, ⟨?_, ⟨?_, ⟨?_, ⟨rfl, trivial⟩⟩⟩⟩⟩⟩⟩⟩⟩⟩⟩⟩⟩⟩⟩⟩⟩⟩⟩⟩⟩⟩⟩⟩⟩⟩⟩⟩⟩, trivial⟩⟩⟩⟩⟩⟩⟩⟩, fun a16 => ⟨?_, ⟨i4 + 1, ⟨?_, ⟨?_, ⟨⟨rfl, ⟨rfl, ⟨rfl, ⟨rfl, ⟨?_, ⟨?_, ⟨rfl, ⟨rfl, ⟨rfl, ⟨rfl, ⟨rfl, ⟨rfl, ⟨rfl, ⟨rfl, ⟨rfl, ⟨rfl, ⟨rfl, ⟨rfl, ⟨rfl, ⟨rfl, ⟨rfl, ⟨rfl, ⟨?_, ⟨?_, ⟨?_, ⟨?_, ⟨?_, ⟨?_, ⟨rfl, trivial⟩⟩⟩⟩⟩⟩⟩⟩⟩⟩⟩⟩⟩⟩⟩⟩⟩⟩⟩⟩⟩⟩⟩⟩⟩⟩⟩⟩⟩, trivial⟩⟩⟩⟩⟩⟩, fun a15 => ⟨fun a16 => ?_, fun a16 => ⟨?_, ⟨y3 + 1, ⟨?_, ⟨?_, ⟨⟨rfl, ⟨rfl, ⟨rfl, ⟨?_, ⟨rfl, ⟨rfl, ⟨rfl, ⟨rfl, trivial⟩⟩⟩⟩⟩⟩⟩⟩, trivial⟩⟩⟩⟩⟩⟩⟩⟩⟩⟩⟩, fun a9 => ⟨?_, ⟨x2 + 1, ⟨?_, ⟨?_, ⟨⟨rfl, ⟨rfl, ⟨?_, trivial⟩⟩⟩, trivial⟩⟩⟩⟩⟩⟩⟩⟩, fun a6 => ?_⟩⟩⟩⟩⟩
 all_goals try and_intros
 all_goals first | rfl | trivial | omega | (simp only [decide_eq_true_eq, decide_eq_false_iff_not, Bool.not_eq_false', Bool.not_eq_true', idxOk, inI64] at *; first | omega | grind) | grind [idxOk, inI64]
theorem good_spec_l07Together : Ctr.Good k_spec_l07Together := ok_spec_l07Together ⟨good_spec_l06Same, good_spec_l01Atoms, good_spec_l01True, trivial⟩
theorem cnt_kn (k n : Int) : cntB k n = (decide (1 ≤ k ∧ k ≤ 7 ∧ n = kn k) || decide (k = 8)) := by
 unfold cntB kn
 repeat' split
 all_goals (refine Bool.eq_iff_iff.2 ?_; simp only [Bool.or_eq_true, decide_eq_true_eq]; omega)
def k_spec_l07Right : Ctr := ⟨n_spec_l07Right, [.v (.st .sig), .v (.slice (.st .premise)), .r (.st .derivation)], fun (gg : GSig) (xs : List GPremise) (d : GDerivation) => ⟨(some (allL gdK d.kids = true), [⟨.bool, rightB gg xs d⟩])⟩⟩
def l_spec_l07Right (gg : GSig) (xs : List GPremise) (d : GDerivation) : Nat → LoopInv := fun _ => .none
abbrev j_spec_l07Right_0 (gg : GSig) (xs : List GPremise) (d : GDerivation) : Prop := (inI64 d.rule →
 (((decide (d.rule = (1 : Int))) = true →
 (((decide (d.says.prog.kind = (1 : Int))) = true →
 (inI64 d.says.prog.kind →
 (eqB d.says.pre d.says.post) = (rightB gg xs d))) ∧ ((decide (d.says.prog.kind = (1 : Int))) = (!true) →
 (inI64 d.says.prog.kind →
 false = (rightB gg xs d))))) ∧ ((decide (d.rule = (1 : Int))) = false →
 (((decide (d.rule = (2 : Int))) = true →
 (inI64 d.says.prog.kind →
 (decide (d.says.prog.kind = (2 : Int))) = (rightB gg xs d))) ∧ ((decide (d.rule = (2 : Int))) = false →
 (((decide (d.rule = (3 : Int))) = true →
 (inI64 d.says.prog.kind →
 (((decide (d.says.prog.kind = (3 : Int))) = true →
 (givB xs d.says) = (rightB gg xs d)) ∧ ((decide (d.says.prog.kind = (3 : Int))) = (!true) →
 false = (rightB gg xs d))))) ∧ ((decide (d.rule = (3 : Int))) = false →
 (((decide (d.rule = (4 : Int))) = true →
 (inI64 d.says.prog.kind →
 (((!(decide (d.says.prog.kind = (4 : Int)))) = true →
 false = (rightB gg xs d)) ∧ ((!(decide (d.says.prog.kind = (4 : Int)))) = false →
 (d.says.prog = d.says.prog ∧ (d.says.prog = d.says.prog ∧ (d.says.prog.cond = d.says.prog.cond ∧ (d.says = d.says ∧ (d.says = d.says ∧ (d.says.post = d.says.post ∧ ((sz_expr d.says.prog.cond ≤ 1048576 ∧ sz_expr d.says.post ≤ 1048576) ∧ (eqB d.says.pre (e_expr (GExpr.mk 6 0 [notE d.says.prog.cond, d.says.post]))) = (rightB gg xs d)))))))))))) ∧ ((decide (d.rule = (4 : Int))) = false →
 (((decide (d.rule = (5 : Int))) = true →
 (inI64 d.says.prog.kind →
 (((!(decide (d.says.prog.kind = (5 : Int)))) = true →
 false = (rightB gg xs d)) ∧ ((!(decide (d.says.prog.kind = (5 : Int)))) = false →
 (d.kids.length ≤ 140737488355328 →
 (idxOk (1 : Int) d.kids.length ∧ (idxOk (0 : Int) d.kids.length ∧ (idxOk (0 : Int) d.says.prog.kids.length ∧ (((sayB (d.kids.getD 0 zD).says d.says.pre (d.says.prog.kids.getD 0 zP) (d.kids.getD 1 zD).says.pre) = true →
 (idxOk (1 : Int) d.kids.length ∧ (idxOk (1 : Int) d.says.prog.kids.length ∧ (d.kids.length ≤ 140737488355328 →
 (d.says.prog.kids.length ≤ 140737488355328 →
 (d.kids.length ≤ 140737488355328 →
 (d.says.prog.kids.length ≤ 140737488355328 →
 (sayB (d.kids.getD 1 zD).says (d.kids.getD 1 zD).says.pre (d.says.prog.kids.getD 1 zP) d.says.post) = (rightB gg xs d)))))))) ∧ ((sayB (d.kids.getD 0 zD).says d.says.pre (d.says.prog.kids.getD 0 zP) (d.kids.getD 1 zD).says.pre) = (!true) →
 (d.kids.length ≤ 140737488355328 →
 (d.says.prog.kids.length ≤ 140737488355328 →
 false = (rightB gg xs d))))))))))))) ∧ ((decide (d.rule = (5 : Int))) = false →
 (((decide (d.rule = (6 : Int))) = true →
 (inI64 d.says.prog.kind →
 (((!(decide (d.says.prog.kind = (6 : Int)))) = true →
 false = (rightB gg xs d)) ∧ ((!(decide (d.says.prog.kind = (6 : Int)))) = false →
 (d.says.prog = d.says.prog ∧ (d.says.prog = d.says.prog ∧ (d.says.prog.cond = d.says.prog.cond ∧ (d.says = d.says ∧ (d.says = d.says ∧ (d.says.pre = d.says.pre ∧ ((sz_expr d.says.prog.cond ≤ 1048576 ∧ sz_expr d.says.pre ≤ 1048576) ∧ (d.says.prog = d.says.prog ∧ (d.says.prog = d.says.prog ∧ (d.says.prog.cond = d.says.prog.cond ∧ (d.says = d.says ∧ (d.says = d.says ∧ (d.says.pre = d.says.pre ∧ ((sz_expr d.says.prog.cond ≤ 1048576 ∧ sz_expr d.says.pre ≤ 1048576) ∧ (idxOk (0 : Int) d.kids.length ∧ (idxOk (0 : Int) d.says.prog.kids.length ∧ (((sayB (d.kids.getD 0 zD).says (e_expr (withE d.says.prog.cond false d.says.pre)) (d.says.prog.kids.getD 0 zP) d.says.post) = true →
 (idxOk (1 : Int) d.kids.length ∧ (idxOk (1 : Int) d.says.prog.kids.length ∧ (d.kids.length ≤ 140737488355328 →
 (d.says.prog.kids.length ≤ 140737488355328 →
 (d.kids.length ≤ 140737488355328 →
 (d.says.prog.kids.length ≤ 140737488355328 →
 (sayB (d.kids.getD 1 zD).says (e_expr (withE d.says.prog.cond true d.says.pre)) (d.says.prog.kids.getD 1 zP) d.says.post) = (rightB gg xs d)))))))) ∧ ((sayB (d.kids.getD 0 zD).says (e_expr (withE d.says.prog.cond false d.says.pre)) (d.says.prog.kids.getD 0 zP) d.says.post) = (!true) →
 (d.kids.length ≤ 140737488355328 →
 (d.says.prog.kids.length ≤ 140737488355328 →
 false = (rightB gg xs d))))))))))))))))))))))))) ∧ ((decide (d.rule = (6 : Int))) = false →
 (((decide (d.rule = (7 : Int))) = true →
 (inI64 d.says.prog.kind →
 (((!(decide (d.says.prog.kind = (7 : Int)))) = true →
 false = (rightB gg xs d)) ∧ ((!(decide (d.says.prog.kind = (7 : Int)))) = false →
 (d.says.prog = d.says.prog ∧ (d.says.prog = d.says.prog ∧ (d.says.prog.cond = d.says.prog.cond ∧ (d.says = d.says ∧ (d.says = d.says ∧ (d.says.pre = d.says.pre ∧ ((sz_expr d.says.prog.cond ≤ 1048576 ∧ sz_expr d.says.pre ≤ 1048576) ∧ (d.says.prog = d.says.prog ∧ (d.says.prog = d.says.prog ∧ (d.says.prog.cond = d.says.prog.cond ∧ (d.says = d.says ∧ (d.says = d.says ∧ (d.says.pre = d.says.pre ∧ ((sz_expr d.says.prog.cond ≤ 1048576 ∧ sz_expr d.says.pre ≤ 1048576) ∧ (((eqB d.says.post (e_expr (withE d.says.prog.cond true d.says.pre))) = true →
 (idxOk (0 : Int) d.kids.length ∧ (idxOk (0 : Int) d.says.prog.kids.length ∧ (d.kids.length ≤ 140737488355328 →
 (d.says.prog.kids.length ≤ 140737488355328 →
 (sayB (d.kids.getD 0 zD).says (e_expr (withE d.says.prog.cond false d.says.pre)) (d.says.prog.kids.getD 0 zP) d.says.pre) = (rightB gg xs d)))))) ∧ ((eqB d.says.post (e_expr (withE d.says.prog.cond true d.says.pre))) = (!true) →
 false = (rightB gg xs d))))))))))))))))))))) ∧ ((decide (d.rule = (7 : Int))) = false →
 ((sigOk gg = true ∧ gdK d = true ∧ allL gdK d.kids = true) ∧ (togB gg d) = (rightB gg xs d)))))))))))))))))
theorem vc_spec_l07Right (gg : GSig) (xs : List GPremise) (d : GDerivation) : awp (envO [k_spec_l07Triple, k_spec_l07Counts, k_spec_l01Same, k_spec_l07Given, k_spec_l07Says, k_spec_l07Together] [ko_spec_l07Asserted, ko_spec_l07With] [] [90, 154, 161, 205, 212] [] [] [3]) (bodyOf f_spec_l07Right) (l_spec_l07Right gg xs d) 0 (funPost (envO [k_spec_l07Triple, k_spec_l07Counts, k_spec_l01Same, k_spec_l07Given, k_spec_l07Says, k_spec_l07Together] [ko_spec_l07Asserted, ko_spec_l07With] [] [90, 154, 161, 205, 212] [] [] [3]) f_spec_l07Right fun r => areEq r [⟨.bool, rightB gg xs d⟩]) (startState f_spec_l07Right [.val ⟨(.st .sig), gg⟩, .val ⟨(.slice (.st .premise)), xs⟩, .ref ⟨(.st .derivation), d⟩]) =
 ((((!(okT gg d.says)) = false →
 (inI64 d.rule →
 (d.kids.length ≤ 140737488355328 →
 (inI64 ((d.kids.length : Int)) →
 (((!(cntB d.rule ((d.kids.length : Int)))) = true →
 false = (rightB gg xs d)) ∧ ((!(cntB d.rule ((d.kids.length : Int)))) = false →
 (j_spec_l07Right_0 gg xs d))))))) ∧ ((!(okT gg d.says)) = (!false) →
 ((true = true →
 false = (rightB gg xs d)) ∧ (true = false →
 (j_spec_l07Right_0 gg xs d)))))) := by kernel_rfl
theorem ok_spec_l07Right (hE : AllGood [k_spec_l07Triple, k_spec_l07Counts, k_spec_l01Same, k_spec_l07Given, k_spec_l07Says, k_spec_l07Together]) (hO : AllO [ko_spec_l07Asserted, ko_spec_l07With]) (hM : AllM []) (hS : AllS []) : Ctr.Good k_spec_l07Right := by
 refine ⟨fnOk_of at_spec_l07Right rfl (by decide), ?_⟩
 show ∀ (gg : GSig) (xs : List GPremise) (d : GDerivation), (allL gdK d.kids = true) → OkCall prog n_spec_l07Right [.val ⟨(.st .sig), gg⟩, .val ⟨(.slice (.st .premise)), xs⟩, .ref ⟨(.st .derivation), d⟩] (· = [⟨.bool, rightB gg xs d⟩])
 intro gg xs d hp
 refine ok_of_awpO (own := [90, 154, 161, 205, 212]) (wr := []) (cl := []) (ro := [3]) hE hO hM hS at_spec_l07Right body_spec_l07Right (l_spec_l07Right gg xs d) ?_
 rewrite [vc_spec_l07Right gg xs d]
 have fc := cnt_kn d.rule (d.kids.length : Int)
 have fr := rightB_eq gg xs d
 have ft := okT_trF gg d.says
 have fh := hdB_eq d
 have fg := okT_gd gg d
 have f5 := rule5 d
 have f8 : ∀ i, kdT d i = (d.kids.getD i zD).says := fun i => rfl
 have f9 : ∀ i, pkP d i = d.says.prog.kids.getD i zP := fun i => rfl
 refine ⟨fun a0 => fun a1 => fun a2 => fun a3 => ⟨fun a4 => ?_, fun a4 => fun a5 => ⟨fun a6 => ⟨fun a7 => fun a8 => ?_, fun a7 => fun a8 => ?_⟩, fun a6 => ⟨fun a7 => fun a8 => ?_, fun a7 => ⟨fun a8 => fun a9 => ⟨fun a10 => ?_, fun a10 => ?_⟩, fun a8 => ⟨fun a9 => fun a10 => ⟨fun a11 => ?_, fun a11 => ⟨rfl, ⟨rfl, ⟨rfl, ⟨rfl, ⟨rfl, ⟨rfl, ⟨?_, ?_⟩⟩⟩⟩⟩⟩⟩⟩, fun a9 => ⟨fun a10 => fun a11 => ⟨fun a12 => ?_, fun a12 => fun a13 => ⟨?_, ⟨?_, ⟨?_, ⟨fun a14 => ⟨?_, ⟨?_, fun a15 => fun a16 => fun a17 => fun a18 => ?_⟩⟩, fun a14 => fun a15 => fun a16 => ?_⟩⟩⟩⟩⟩, fun a10 => ⟨fun a11 => fun a12 => ⟨fun a13 => ?_, fun a13 => ⟨rfl, ⟨rfl, ⟨rfl, ⟨rfl, ⟨rfl, ⟨rfl, ⟨?_, ⟨rfl, ⟨rfl, ⟨rfl, ⟨rfl, ⟨rfl, ⟨rfl, ⟨?_, ⟨?_, ⟨?_, ⟨fun a14 => ⟨?_, ⟨?_, fun a15 => fun a16 => fun a17 => fun a18 => ?_⟩⟩, fun a14 => fun a15 => fun a16 => ?_⟩⟩⟩⟩⟩⟩⟩⟩⟩⟩⟩⟩⟩⟩⟩⟩⟩⟩, fun a11 => ⟨fun a12 => fun a13 => ⟨fun a14 => ?_, fun a14 => ⟨rfl, ⟨rfl, ⟨rfl, ⟨rfl, ⟨rfl, ⟨rfl, ⟨?_, ⟨rfl, ⟨rfl, ⟨rfl, ⟨rfl, ⟨rfl, ⟨rfl, ⟨?_, ⟨fun a15 => ⟨?_, ⟨?_, fun a16 => fun a17 => ?_⟩⟩, fun a15 => ?_⟩⟩⟩⟩⟩⟩⟩⟩⟩⟩⟩⟩⟩⟩⟩⟩, fun a12 => ⟨?_, ?_⟩⟩⟩⟩⟩⟩⟩⟩⟩, fun a0 => ⟨fun a1 => ?_, fun a1 => fun a2 => ⟨fun a3 => ⟨fun a4 => fun a5 => ?_, fun a4 => fun a5 => ?_⟩, fun a3 => ⟨fun a4 => fun a5 => ?_, fun a4 => ⟨fun a5 => fun a6 => ⟨fun a7 => ?_, fun a7 => ?_⟩, fun a5 => ⟨fun a6 => fun a7 => ⟨fun a8 => ?_, fun a8 => ⟨rfl, ⟨rfl, ⟨rfl, ⟨rfl, ⟨rfl, ⟨rfl, ⟨?_, ?_⟩⟩⟩⟩⟩⟩⟩⟩, fun a6 => ⟨fun a7 => fun a8 => ⟨fun a9 => ?_, fun a9 => fun a10 => ⟨?_, ⟨?_, ⟨?_, ⟨fun a11 => ⟨?_, ⟨?_, fun a12 => fun a13 => fun a14 => fun a15 => ?_⟩⟩, fun a11 => fun a12 => fun a13 => ?_⟩⟩⟩⟩⟩, fun a7 => ⟨fun a8 => fun a9 => ⟨fun a10 => ?_, fun a10 => ⟨rfl, ⟨rfl, ⟨rfl, ⟨rfl, ⟨rfl, ⟨rfl, ⟨?_, ⟨rfl, ⟨rfl, ⟨rfl, ⟨rfl, ⟨rfl, ⟨rfl, ⟨?_, ⟨?_, ⟨?_, ⟨fun a11 => ⟨?_, ⟨?_, fun a12 => fun a13 => fun a14 => fun a15 => ?_⟩⟩, fun a11 => fun a12 => fun a13 => ?_⟩⟩⟩⟩⟩⟩⟩⟩⟩⟩⟩⟩⟩⟩⟩⟩⟩⟩, fun a8 => ⟨fun a9 => fun a10 => ⟨fun a11 => ?_, fun a11 => ⟨rfl, ⟨rfl, ⟨rfl, ⟨rfl, ⟨rfl, ⟨rfl, ⟨?_, ⟨rfl, ⟨rfl, ⟨rfl, ⟨rfl, ⟨rfl, ⟨rfl, ⟨?_, ⟨fun a12 => ⟨?_, ⟨?_, fun a13 => fun a14 => ?_⟩⟩, fun a12 => ?_⟩⟩⟩⟩⟩⟩⟩⟩⟩⟩⟩⟩⟩⟩⟩⟩, fun a9 => ⟨?_, ?_⟩⟩⟩⟩⟩⟩⟩⟩⟩⟩
 all_goals try and_intros
 all_goals try simp only [GExpr.eta, GProg.eta, GDerivation.eta, GTriple.eta, GPremise.eta, GClaim.eta, GEquation.eta, GPair.eta, GSpot.eta, e_expr_eq, e_pair_eq, e_equation_eq, e_claim_eq, e_prog_eq, e_spot_eq, e_triple_eq, e_premise_eq, e_derivation_eq] at *
 all_goals first | rfl | trivial | (simp only [decide_eq_true_eq, decide_eq_false_iff_not, idxOk, inI64] at *; first | omega | grind [ruleB, kn, withE, TrF]) | grind [ruleB, kn, withE, TrF, idxOk]
theorem good_spec_l07Right : Ctr.Good k_spec_l07Right := ok_spec_l07Right ⟨good_spec_l07Triple, good_spec_l07Counts, good_spec_l01Same, good_spec_l07Given, good_spec_l07Says, good_spec_l07Together, trivial⟩ ⟨ogood_spec_l07Asserted, ogood_spec_l07With, trivial⟩ trivial trivial
end
end Go.Proofs.YtkogipcdjalehaaGreat

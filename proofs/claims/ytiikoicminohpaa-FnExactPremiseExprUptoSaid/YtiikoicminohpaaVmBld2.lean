/- Expressions that the reference builds; premises as expressions. Printed by vmk.py. -/
import Derived.Test.YtiikoicminohpaaVmUse
import Derived.Test.YtiikoicminohpaaVmLib
import Derived.Test.YtiikoicminohpaaVmSz
import Derived.Test.YtiikoicminohpaaVmPrem
import Derived.Test.YtiikoicminohpaaVmBld
set_option linter.unusedVariables false
set_option linter.unusedSimpArgs false
set_option linter.unusedSectionVars false
namespace Go.Proofs.Ytiikoicminohpaa
noncomputable section

def kon_spec_l01Own (n : Nat) : Ctr := ⟨n_spec_l01Own, [.r (.st .expr)], fun (e : GExpr) => ⟨(some (msz e < n ∧ sz_expr e ≤ 1048576), [⟨(.st .expr), e⟩])⟩⟩
def ko_spec_l01Own : Ctr := ⟨n_spec_l01Own, [.r (.st .expr)], fun (e : GExpr) => ⟨(some (sz_expr e ≤ 1048576), [⟨(.st .expr), e⟩])⟩⟩
def lo_spec_l01Own (e : GExpr) : Nat → LoopInv := (fun zb => if Nat.beq zb 0 then .mk (Nat) (fun i => i ≤ e.kids.length) (fun i => e.kids.length - i) [] [1, 5, 6, 7, 8, 9, 10, 11, 12, 13] (fun i => [(4, .imm ⟨(.int .i64), ((i : Int) : Int)⟩)]) [0, 2, 4, 14, 15, 16, 17, 18, 19, 20, 21, 22, 23, 24, 25, 26, 27, 28, 29, 30, 31, 32, 33, 34, 35] (fun i => [(3, .box [.imm ⟨(.int .i64), (e.kind : Int)⟩, .imm ⟨(.int .i64), (e.num : Int)⟩, .tree 3400]), (3400, .tree (.st .expr) (e.kids.take i : List GExpr))]) [] [] (fun i => fun _ => .none) else .none)
theorem vco_spec_l01Own (n : Nat) (e : GExpr) : awp (envO [] [kon_spec_l01Own n] [] [31, 32, 33] []) (bodyOf f_spec_l01Own) (lo_spec_l01Own e) 0 (ownPost (envO [] [kon_spec_l01Own n] [] [31, 32, 33] []) f_spec_l01Own fun r => areEq r [⟨(.st .expr), e⟩]) (startO f_spec_l01Own [.ref ⟨(.st .expr), e⟩]) =
  ((inI64 e.kind →
 (inI64 e.num →
 ((∃ i1 : Nat, (i1 ≤ e.kids.length ∧ ((e = e ∧ (True ∧ (True ∧ ((0 : Int) = (i1 : Int) ∧ True)))) ∧ ((e.kind = e.kind ∧ (e.num = e.num ∧ (True ∧ True))) ∧ ((e.kids.take i1) = [] ∧ (((0 : Int) = (0 : Int) ∧ ((0 : Int) = (0 : Int) ∧ (True ∧ True))) ∧ True)))))) ∧ (∀ i1 : Nat, (i1 ≤ e.kids.length →
 (e.kids.length ≤ 140737488355328 →
 (inI64 ((e.kids.length : Int)) →
 (((decide ((i1 : Int) < ((e.kids.length : Int)))) = true →
 (e.kids.length ≤ 140737488355328 →
 (inI64 (i1 : Int) →
 (idxOk (i1 : Int) e.kids.length ∧ (((3 : Nat) = 3 ∧ (2 : Nat) = 2) ∧ ((3400 : Nat) = 3400 ∧ (e = e ∧ (e = e ∧ (e.kids = e.kids ∧ (e.kids = e.kids ∧ ((i1 : Int) = (i1 : Int) ∧ (idxOk (i1 : Int) e.kids.length ∧ ((e.kids.getD i1 (GExpr.mk (0 : Int) (0 : Int) [])) = (e.kids.getD i1 (GExpr.mk (0 : Int) (0 : Int) [])) ∧ ((msz (e.kids.getD i1 (GExpr.mk (0 : Int) (0 : Int) [])) < n ∧ sz_expr (e.kids.getD i1 (GExpr.mk (0 : Int) (0 : Int) [])) ≤ 1048576) ∧ (((3 : Nat) = 3 ∧ (2 : Nat) = 2) ∧ ((3400 : Nat) = 3400 ∧ (((3 : Nat) = 3 ∧ (2 : Nat) = 2) ∧ ((3400 : Nat) = 3400 ∧ (roomOk ((e.kids.take i1).length + ([(e_expr (e.kids.getD i1 (GExpr.mk (0 : Int) (0 : Int) [])))]).length) 40 ∧ (inI64 ((i1 : Int) + (1 : Int)) ∧ (∃ i2 : Nat, (i2 ≤ e.kids.length ∧ (e.kids.length - i2 < e.kids.length - i1 ∧ ((e = e ∧ (True ∧ (True ∧ (((i1 : Int) + (1 : Int)) = (i2 : Int) ∧ True)))) ∧ ((e.kind = e.kind ∧ (e.num = e.num ∧ (True ∧ True))) ∧ (((e.kids.take i1) ++ ([(e_expr (e.kids.getD i1 (GExpr.mk (0 : Int) (0 : Int) [])))])) = (e.kids.take i2) ∧ (((0 : Int) = (0 : Int) ∧ ((0 : Int) = (0 : Int) ∧ (True ∧ True))) ∧ True))))))))))))))))))))))))))) ∧ ((decide ((i1 : Int) < ((e.kids.length : Int)))) = false →
 (GExpr.mk e.kind e.num (e.kids.take i1)) = e)))))))))) := by kernel_rfl
set_option maxRecDepth 4000 in
set_option maxHeartbeats 1000000 in
theorem oko_spec_l01Own (n : Nat) (hE : AllGood []) (hO : AllO [kon_spec_l01Own n]) (hM : AllM []) : Ctr.OGood (kon_spec_l01Own (n + 1)) := by
  refine ⟨fnOk_of at_spec_l01Own rfl (by decide), ?_⟩
  show ∀ (e : GExpr), (msz e < n + 1 ∧ sz_expr e ≤ 1048576) → OkOwn prog n_spec_l01Own [.ref ⟨(.st .expr), e⟩] [⟨(.st .expr), e⟩]
  intro e hp
  refine own_of_awp (own := [31, 32, 33]) (wr := []) (cl := []) (ro := []) hE hO hM at_spec_l01Own body_spec_l01Own (lo_spec_l01Own e) ?_
  rewrite [vco_spec_l01Own n e]
  rw [sz_expr_eq] at hp
  have f0 := msz_kids e
  have f1 := fun i (h : i < e.kids.length) => szL_getD sz_expr (GExpr.mk (0 : Int) (0 : Int) []) e.kids i h
  have f2 := fun i (h : i < e.kids.length) => msz_getD (GExpr.mk (0 : Int) (0 : Int) []) e.kids i h
  have f3 := fun i (h : i < e.kids.length) => take_snoc (GExpr.mk (0 : Int) (0 : Int) []) e.kids i h
  have f4 : e.kids.take 0 = [] := by simp
  have f5 : ∀ i, e.kids.length ≤ i → e.kids.take i = e.kids := fun i h => List.take_of_length_le h
  have f6 : ∀ i, (e.kids.take i).length ≤ e.kids.length := fun i => by simp; omega
  have f7 : ∀ ks, ks = e.kids → GExpr.mk e.kind e.num ks = e := fun ks h => by subst h; cases e; rfl
  refine fun a0 => fun a1 => ⟨⟨0, ⟨?_, ⟨⟨rfl, ⟨trivial, ⟨trivial, ⟨?_, trivial⟩⟩⟩⟩, ⟨⟨rfl, ⟨rfl, ⟨trivial, trivial⟩⟩⟩, ⟨?_, ⟨⟨rfl, ⟨rfl, ⟨trivial, trivial⟩⟩⟩, trivial⟩⟩⟩⟩⟩⟩, fun i1 => fun a2 => fun a3 => fun a4 => ⟨fun a5 => fun a6 => fun a7 => ⟨?_, ⟨⟨?_, ?_⟩, ⟨?_, ⟨rfl, ⟨rfl, ⟨rfl, ⟨rfl, ⟨rfl, ⟨?_, ⟨rfl, ⟨?_, ⟨⟨?_, ?_⟩, ⟨?_, ⟨⟨?_, ?_⟩, ⟨?_, ⟨?_, ⟨?_, ⟨i1 + 1, ⟨?_, ⟨?_, ⟨⟨rfl, ⟨trivial, ⟨trivial, ⟨?_, trivial⟩⟩⟩⟩, ⟨⟨rfl, ⟨rfl, ⟨trivial, trivial⟩⟩⟩, ⟨?_, ⟨⟨rfl, ⟨rfl, ⟨trivial, trivial⟩⟩⟩, trivial⟩⟩⟩⟩⟩⟩⟩⟩⟩⟩⟩⟩⟩⟩⟩⟩⟩⟩⟩⟩⟩⟩⟩⟩, fun a5 => ?_⟩⟩
  all_goals try and_intros
  all_goals try simp only [GExpr.eta, GProg.eta, GDerivation.eta, GTriple.eta, GPremise.eta, GClaim.eta, GEquation.eta, GPair.eta, GSpot.eta, e_expr_eq, e_pair_eq, e_equation_eq, e_claim_eq, e_prog_eq, e_spot_eq, e_triple_eq, e_premise_eq, e_derivation_eq] at *
  all_goals first | rfl | trivial | omega | (simp only [decide_eq_true_eq, decide_eq_false_iff_not, idxOk, inI64, roomOk, List.length_cons, List.length_nil] at *; first | omega | (have := f6 i1; omega) | exact f7 _ (f5 _ (by omega)) | grind) | grind

theorem allo_ownS : ∀ n, AllO [kon_spec_l01Own n]
  | 0 => ⟨⟨fnOk_of at_spec_l01Own rfl (by decide), fun _ h => absurd h.1 (Nat.not_lt_zero _)⟩, trivial⟩
  | n + 1 => by
    have ih := allo_ownS n
    exact ⟨oko_spec_l01Own n trivial ⟨ih.1, trivial⟩ trivial, trivial⟩
theorem ogood_spec_l01Own : Ctr.OGood ko_spec_l01Own :=
  ⟨fnOk_of at_spec_l01Own rfl (by decide), fun e hp => (allo_ownS (msz e + 1)).1.2 e (⟨Nat.lt_succ_self _, hp⟩)⟩

def ko_spec_l02Pair : Ctr := ⟨n_spec_l02Pair, [.v (.int .i64), .o (.st .expr), .o (.st .expr)], fun (k : Int) (a : GExpr) (b : GExpr) => ⟨(none, [⟨(.st .expr), ⟨k, 0, [a, b]⟩⟩])⟩⟩
def lo_spec_l02Pair (k : Int) (a : GExpr) (b : GExpr) : Nat → LoopInv := fun _ => .none
theorem vco_spec_l02Pair (k : Int) (a : GExpr) (b : GExpr) : awp (envO [] [] [] [10] []) (bodyOf f_spec_l02Pair) (lo_spec_l02Pair k a b) 0 (ownPost (envO [] [] [] [10] []) f_spec_l02Pair fun r => areEq r [⟨(.st .expr), ⟨k, 0, [a, b]⟩⟩]) (startO f_spec_l02Pair [.val ⟨(.int .i64), k⟩, .own ⟨(.st .expr), a⟩, .own ⟨(.st .expr), b⟩]) =
  ((GExpr.mk k (0 : Int) ([(e_expr a), (e_expr b)])) = (⟨k, 0, [a, b]⟩)) := by kernel_rfl
set_option maxRecDepth 4000 in
set_option maxHeartbeats 1000000 in
theorem oko_spec_l02Pair (hE : AllGood []) (hO : AllO []) (hM : AllM []) : Ctr.OGood ko_spec_l02Pair := by
  refine ⟨fnOk_of at_spec_l02Pair rfl (by decide), ?_⟩
  show ∀ (k : Int) (a : GExpr) (b : GExpr), True → OkOwn prog n_spec_l02Pair [.val ⟨(.int .i64), k⟩, .own ⟨(.st .expr), a⟩, .own ⟨(.st .expr), b⟩] [⟨(.st .expr), ⟨k, 0, [a, b]⟩⟩]
  intro k a b _
  refine own_of_awp (own := [10]) (wr := []) (cl := []) (ro := []) hE hO hM at_spec_l02Pair body_spec_l02Pair (lo_spec_l02Pair k a b) ?_
  rewrite [vco_spec_l02Pair k a b]
  refine ?_
  all_goals try and_intros
  all_goals try simp only [GExpr.eta, GProg.eta, GDerivation.eta, GTriple.eta, GPremise.eta, GClaim.eta, GEquation.eta, GPair.eta, GSpot.eta, e_expr_eq, e_pair_eq, e_equation_eq, e_claim_eq, e_prog_eq, e_spot_eq, e_triple_eq, e_premise_eq, e_derivation_eq] at *
  all_goals first | rfl | trivial | omega | (simp only [decide_eq_true_eq, decide_eq_false_iff_not, idxOk, inI64, inKind, cutOk, makeOk, roomOk] at *; omega) | (simp [idxOk, inI64] at *; omega) | grind

theorem ogood_spec_l02Pair : Ctr.OGood ko_spec_l02Pair := oko_spec_l02Pair trivial trivial trivial

def ko_spec_l06Not : Ctr := ⟨n_spec_l06Not, [.v (.st .expr)], fun (c : GExpr) => ⟨(some (sz_expr c ≤ 1048576), [⟨(.st .expr), ⟨5, 0, [c]⟩⟩])⟩⟩
def lo_spec_l06Not (c : GExpr) : Nat → LoopInv := fun _ => .none
theorem vco_spec_l06Not (c : GExpr) : awp (envO [] [ko_spec_l01Own] [] [3, 4] [] [] [1]) (bodyOf f_spec_l06Not) (lo_spec_l06Not c) 0 (ownPost (envO [] [ko_spec_l01Own] [] [3, 4] [] [] [1]) f_spec_l06Not fun r => areEq r [⟨(.st .expr), ⟨5, 0, [c]⟩⟩]) (startO f_spec_l06Not [.val ⟨(.st .expr), c⟩]) =
  ((sz_expr c ≤ 1048576 ∧ (GExpr.mk (5 : Int) (0 : Int) ([(e_expr c)])) = (⟨5, 0, [c]⟩))) := by kernel_rfl
set_option maxRecDepth 4000 in
set_option maxHeartbeats 1000000 in
theorem oko_spec_l06Not (hE : AllGood []) (hO : AllO [ko_spec_l01Own]) (hM : AllM []) : Ctr.OGood ko_spec_l06Not := by
  refine ⟨fnOk_of at_spec_l06Not rfl (by decide), ?_⟩
  show ∀ (c : GExpr), (sz_expr c ≤ 1048576) → OkOwn prog n_spec_l06Not [.val ⟨(.st .expr), c⟩] [⟨(.st .expr), ⟨5, 0, [c]⟩⟩]
  intro c hp
  refine own_of_awp (own := [3, 4]) (wr := []) (cl := []) (ro := [1]) hE hO hM at_spec_l06Not body_spec_l06Not (lo_spec_l06Not c) ?_
  rewrite [vco_spec_l06Not c]
  refine ⟨?_, ?_⟩
  all_goals try and_intros
  all_goals try simp only [GExpr.eta, GProg.eta, GDerivation.eta, GTriple.eta, GPremise.eta, GClaim.eta, GEquation.eta, GPair.eta, GSpot.eta, e_expr_eq, e_pair_eq, e_equation_eq, e_claim_eq, e_prog_eq, e_spot_eq, e_triple_eq, e_premise_eq, e_derivation_eq] at *
  all_goals first | rfl | trivial | omega | (simp only [decide_eq_true_eq, decide_eq_false_iff_not, idxOk, inI64, inKind, cutOk, makeOk, roomOk] at *; omega) | (simp [idxOk, inI64] at *; omega) | grind

theorem ogood_spec_l06Not : Ctr.OGood ko_spec_l06Not := oko_spec_l06Not trivial ⟨ogood_spec_l01Own, trivial⟩ trivial

mutual
theorem sz_nodes : ∀ x : GExpr, sz_expr x + 1 = nodesE x
  | ⟨_, _, ks⟩ => by
    have := szs_nodes ks
    simp only [sz_expr, nodesE]; omega
theorem szs_nodes : ∀ xs : List GExpr, xs.length + szs_expr xs = nodesEs xs
  | [] => rfl
  | x :: xs => by
    have h1 := sz_nodes x
    have h2 := szs_nodes xs
    simp only [szs_expr, nodesEs, List.length_cons]; omega
end
theorem isC_sz (gg : GSig) (x : GExpr) (h : isC gg x = true) : sz_expr x ≤ 1048576 := by
  simp only [isC, Bool.and_eq_true, isE_iff] at h
  have := sz_nodes x
  omega
theorem isE_sz (gg : GSig) (x : GExpr) (h : isE gg x = true) : sz_expr x ≤ 1048576 := by
  rw [isE_iff] at h
  have := sz_nodes x
  omega
/-- The expression of a premise. -/
def prE (x : GPremise) : GExpr := ⟨7, 0, [x.pre, ⟨7, 0, [⟨4, x.act, []⟩, ⟨5, 0, [x.post]⟩]⟩]⟩
theorem prE_eq (x : GPremise) : prE x = ⟨7, 0, [x.pre, ⟨7, 0, [⟨4, x.act, []⟩, ⟨5, 0, [x.post]⟩]⟩]⟩ := rfl
def prV (gg : GSig) (x : GPremise) : GExpr := if sigOk gg = true ∧ pmI gg x = true ∧ isE gg (prE x) = true then prE x else ⟨0, 0, []⟩
def prC (gg : GSig) (x : GPremise) : Int := if sigOk gg = true ∧ pmI gg x = true then (if isE gg (prE x) = true then 0 else 3) else 1
theorem pmI_sz (gg : GSig) (x : GPremise) (h : pmI gg x = true) : sz_expr x.pre ≤ 1048576 ∧ sz_expr x.post ≤ 1048576 := by
  simp only [pmI, Bool.and_eq_true] at h
  exact ⟨isC_sz gg _ h.1.1, isC_sz gg _ h.1.2⟩

def ko_impl_PremiseExpr : Ctr := ⟨n_impl_PremiseExpr, [.v (.st .sig), .v (.st .premise)], fun (gg : GSig) (x : GPremise) => ⟨(none, [⟨(.st .expr), prV gg x⟩, ⟨(.int .i64), prC gg x⟩])⟩⟩
def lo_impl_PremiseExpr (gg : GSig) (x : GPremise) : Nat → LoopInv := fun _ => .none
abbrev qo_impl_PremiseExpr_0 (gg : GSig) (x : GPremise) : Prop := (inI64 x.act →
 (x.pre = x.pre ∧ (x.pre = x.pre ∧ (x.act = x.act ∧ (x.act = x.act ∧ (x.post = x.post ∧ (x.post = x.post ∧ (sz_expr x.pre ≤ 1048576 ∧ (x.act = x.act ∧ (x.act = x.act ∧ (x.post = x.post ∧ (x.post = x.post ∧ (x.post = x.post ∧ (x.post = x.post ∧ (sz_expr x.post ≤ 1048576 ∧ (((!(isE gg (e_expr (⟨(7 : Int), 0, ([(e_expr x.pre), (e_expr (⟨(7 : Int), 0, ([(e_expr (⟨(4 : Int), x.act, []⟩)), (e_expr (⟨(5 : Int), 0, ([(e_expr x.post)])⟩))])⟩))])⟩)))) = true →
 ((GExpr.mk (0 : Int) (0 : Int) []) = (prV gg x) ∧ (3 : Int) = (prC gg x))) ∧ ((!(isE gg (e_expr (⟨(7 : Int), 0, ([(e_expr x.pre), (e_expr (⟨(7 : Int), 0, ([(e_expr (⟨(4 : Int), x.act, []⟩)), (e_expr (⟨(5 : Int), 0, ([(e_expr x.post)])⟩))])⟩))])⟩)))) = false →
 ((e_expr (⟨(7 : Int), 0, ([(e_expr x.pre), (e_expr (⟨(7 : Int), 0, ([(e_expr (⟨(4 : Int), x.act, []⟩)), (e_expr (⟨(5 : Int), 0, ([(e_expr x.post)])⟩))])⟩))])⟩)) = (prV gg x) ∧ (0 : Int) = (prC gg x)))))))))))))))))))
theorem vco_impl_PremiseExpr (gg : GSig) (x : GPremise) : awp (envO [k_impl_ValidSig, k_impl_isPremise, k_impl_isExpr] [ko_impl_copyExpr, ko_impl_leaf, ko_impl_tree] [] [19, 22, 25, 26, 27, 28, 29, 30, 31] [] [] [2, 3]) (bodyOf f_impl_PremiseExpr) (lo_impl_PremiseExpr gg x) 0 (ownPost (envO [k_impl_ValidSig, k_impl_isPremise, k_impl_isExpr] [ko_impl_copyExpr, ko_impl_leaf, ko_impl_tree] [] [19, 22, 25, 26, 27, 28, 29, 30, 31] [] [] [2, 3]) f_impl_PremiseExpr fun r => areEq r [⟨(.st .expr), prV gg x⟩, ⟨(.int .i64), prC gg x⟩]) (startO f_impl_PremiseExpr [.val ⟨(.st .sig), gg⟩, .val ⟨(.st .premise), x⟩]) =
  ((((!(sigOk gg)) = false →
 (sigOk gg = true ∧ (((!(pmI gg x)) = true →
 ((GExpr.mk (0 : Int) (0 : Int) []) = (prV gg x) ∧ (1 : Int) = (prC gg x))) ∧ ((!(pmI gg x)) = false →
 (qo_impl_PremiseExpr_0 gg x))))) ∧ ((!(sigOk gg)) = (!false) →
 ((true = true →
 ((GExpr.mk (0 : Int) (0 : Int) []) = (prV gg x) ∧ (1 : Int) = (prC gg x))) ∧ (true = false →
 (qo_impl_PremiseExpr_0 gg x)))))) := by kernel_rfl
set_option maxRecDepth 4000 in
set_option maxHeartbeats 1000000 in
theorem oko_impl_PremiseExpr (hE : AllGood [k_impl_ValidSig, k_impl_isPremise, k_impl_isExpr]) (hO : AllO [ko_impl_copyExpr, ko_impl_leaf, ko_impl_tree]) (hM : AllM []) : Ctr.OGood ko_impl_PremiseExpr := by
  refine ⟨fnOk_of at_impl_PremiseExpr rfl (by decide), ?_⟩
  show ∀ (gg : GSig) (x : GPremise), True → OkOwn prog n_impl_PremiseExpr [.val ⟨(.st .sig), gg⟩, .val ⟨(.st .premise), x⟩] [⟨(.st .expr), prV gg x⟩, ⟨(.int .i64), prC gg x⟩]
  intro gg x _
  refine own_of_awp (own := [19, 22, 25, 26, 27, 28, 29, 30, 31]) (wr := []) (cl := []) (ro := [2, 3]) hE hO hM at_impl_PremiseExpr body_impl_PremiseExpr (lo_impl_PremiseExpr gg x) ?_
  rewrite [vco_impl_PremiseExpr gg x]
  have f0 := pmI_sz gg x
  have f1 := prE_eq x
  have f2 : pmS gg x = (sigOk gg && pmI gg x) := rfl
  have f3 : ∀ e, okE gg e = (sigOk gg && isE gg e) := fun e => rfl
  refine ⟨fun a0 => ⟨?_, ⟨fun a1 => ⟨?_, ?_⟩, fun a1 => fun a2 => ⟨rfl, ⟨rfl, ⟨rfl, ⟨rfl, ⟨rfl, ⟨rfl, ⟨?_, ⟨rfl, ⟨rfl, ⟨rfl, ⟨rfl, ⟨rfl, ⟨rfl, ⟨?_, ⟨fun a3 => ⟨?_, ?_⟩, fun a3 => ⟨?_, ?_⟩⟩⟩⟩⟩⟩⟩⟩⟩⟩⟩⟩⟩⟩⟩⟩⟩⟩, fun a0 => ⟨fun a1 => ⟨?_, ?_⟩, fun a1 => fun a2 => ⟨rfl, ⟨rfl, ⟨rfl, ⟨rfl, ⟨rfl, ⟨rfl, ⟨?_, ⟨rfl, ⟨rfl, ⟨rfl, ⟨rfl, ⟨rfl, ⟨rfl, ⟨?_, ⟨fun a3 => ⟨?_, ?_⟩, fun a3 => ⟨?_, ?_⟩⟩⟩⟩⟩⟩⟩⟩⟩⟩⟩⟩⟩⟩⟩⟩⟩⟩
  all_goals try and_intros
  all_goals try simp only [GExpr.eta, GProg.eta, GDerivation.eta, GTriple.eta, GPremise.eta, GClaim.eta, GEquation.eta, GPair.eta, GSpot.eta, e_expr_eq, e_pair_eq, e_equation_eq, e_claim_eq, e_prog_eq, e_spot_eq, e_triple_eq, e_premise_eq, e_derivation_eq] at *
  all_goals first | rfl | trivial | omega | grind [prV, prC]

theorem ogood_impl_PremiseExpr : Ctr.OGood ko_impl_PremiseExpr := oko_impl_PremiseExpr ⟨good_impl_ValidSig, good_impl_isPremise, good_impl_isExpr, trivial⟩ ⟨ogood_impl_copyExpr, ogood_impl_leaf, ogood_impl_tree, trivial⟩ trivial

def ko_spec_PremiseExpr : Ctr := ⟨n_spec_PremiseExpr, [.v (.st .sig), .v (.st .premise)], fun (gg : GSig) (x : GPremise) => ⟨(none, [⟨(.st .expr), prV gg x⟩, ⟨(.int .i64), prC gg x⟩])⟩⟩
def lo_spec_PremiseExpr (gg : GSig) (x : GPremise) : Nat → LoopInv := fun _ => .none
theorem vco_spec_PremiseExpr (gg : GSig) (x : GPremise) : awp (envO [k_spec_l07Premise, k_spec_l01Ok] [ko_spec_l01Own, ko_spec_l02Pair, ko_spec_l06Not] [] [16, 20, 21, 22] [] [] [2, 3]) (bodyOf f_spec_PremiseExpr) (lo_spec_PremiseExpr gg x) 0 (ownPost (envO [k_spec_l07Premise, k_spec_l01Ok] [ko_spec_l01Own, ko_spec_l02Pair, ko_spec_l06Not] [] [16, 20, 21, 22] [] [] [2, 3]) f_spec_PremiseExpr fun r => areEq r [⟨(.st .expr), prV gg x⟩, ⟨(.int .i64), prC gg x⟩]) (startO f_spec_PremiseExpr [.val ⟨(.st .sig), gg⟩, .val ⟨(.st .premise), x⟩]) =
  ((((!(pmS gg x)) = true →
 ((GExpr.mk (0 : Int) (0 : Int) []) = (prV gg x) ∧ (1 : Int) = (prC gg x))) ∧ ((!(pmS gg x)) = false →
 (inI64 x.act →
 (x.pre = x.pre ∧ (((4 : Int) = (4 : Int) ∧ (x.act = x.act ∧ (True ∧ True))) ∧ (x.post = x.post ∧ (x.post = x.post ∧ (sz_expr x.pre ≤ 1048576 ∧ (((4 : Int) = (4 : Int) ∧ (x.act = x.act ∧ (True ∧ True))) ∧ (x.post = x.post ∧ (x.post = x.post ∧ (sz_expr x.post ≤ 1048576 ∧ (((4 : Int) = (4 : Int) ∧ (x.act = x.act ∧ (True ∧ True))) ∧ (((!(okE gg (e_expr (⟨(7 : Int), 0, [(e_expr x.pre), (e_expr (⟨(7 : Int), 0, [(GExpr.mk (4 : Int) x.act []), (e_expr (⟨5, 0, [x.post]⟩))]⟩))]⟩)))) = true →
 ((GExpr.mk (0 : Int) (0 : Int) []) = (prV gg x) ∧ (3 : Int) = (prC gg x))) ∧ ((!(okE gg (e_expr (⟨(7 : Int), 0, [(e_expr x.pre), (e_expr (⟨(7 : Int), 0, [(GExpr.mk (4 : Int) x.act []), (e_expr (⟨5, 0, [x.post]⟩))]⟩))]⟩)))) = false →
 ((e_expr (⟨(7 : Int), 0, [(e_expr x.pre), (e_expr (⟨(7 : Int), 0, [(GExpr.mk (4 : Int) x.act []), (e_expr (⟨5, 0, [x.post]⟩))]⟩))]⟩)) = (prV gg x) ∧ (0 : Int) = (prC gg x)))))))))))))))))) := by kernel_rfl
set_option maxRecDepth 4000 in
set_option maxHeartbeats 1000000 in
theorem oko_spec_PremiseExpr (hE : AllGood [k_spec_l07Premise, k_spec_l01Ok]) (hO : AllO [ko_spec_l01Own, ko_spec_l02Pair, ko_spec_l06Not]) (hM : AllM []) : Ctr.OGood ko_spec_PremiseExpr := by
  refine ⟨fnOk_of at_spec_PremiseExpr rfl (by decide), ?_⟩
  show ∀ (gg : GSig) (x : GPremise), True → OkOwn prog n_spec_PremiseExpr [.val ⟨(.st .sig), gg⟩, .val ⟨(.st .premise), x⟩] [⟨(.st .expr), prV gg x⟩, ⟨(.int .i64), prC gg x⟩]
  intro gg x _
  refine own_of_awp (own := [16, 20, 21, 22]) (wr := []) (cl := []) (ro := [2, 3]) hE hO hM at_spec_PremiseExpr body_spec_PremiseExpr (lo_spec_PremiseExpr gg x) ?_
  rewrite [vco_spec_PremiseExpr gg x]
  have f0 := pmI_sz gg x
  have f1 := prE_eq x
  have f2 : pmS gg x = (sigOk gg && pmI gg x) := rfl
  have f3 : ∀ e, okE gg e = (sigOk gg && isE gg e) := fun e => rfl
  refine ⟨fun a0 => ⟨?_, ?_⟩, fun a0 => fun a1 => ⟨rfl, ⟨⟨rfl, ⟨rfl, ⟨?_, ?_⟩⟩⟩, ⟨rfl, ⟨rfl, ⟨?_, ⟨⟨rfl, ⟨rfl, ⟨?_, ?_⟩⟩⟩, ⟨rfl, ⟨rfl, ⟨?_, ⟨⟨rfl, ⟨rfl, ⟨?_, ?_⟩⟩⟩, ⟨fun a2 => ⟨?_, ?_⟩, fun a2 => ⟨?_, ?_⟩⟩⟩⟩⟩⟩⟩⟩⟩⟩⟩⟩⟩
  all_goals try and_intros
  all_goals try simp only [GExpr.eta, GProg.eta, GDerivation.eta, GTriple.eta, GPremise.eta, GClaim.eta, GEquation.eta, GPair.eta, GSpot.eta, e_expr_eq, e_pair_eq, e_equation_eq, e_claim_eq, e_prog_eq, e_spot_eq, e_triple_eq, e_premise_eq, e_derivation_eq] at *
  all_goals first | rfl | trivial | omega | grind [prV, prC]

theorem ogood_spec_PremiseExpr : Ctr.OGood ko_spec_PremiseExpr := oko_spec_PremiseExpr ⟨good_spec_l07Premise, good_spec_l01Ok, trivial⟩ ⟨ogood_spec_l01Own, ogood_spec_l02Pair, ogood_spec_l06Not, trivial⟩ trivial

end
end Go.Proofs.Ytiikoicminohpaa

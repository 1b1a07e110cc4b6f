/- Expressions that are built. Printed by vmk.py. -/
import Derived.Test.YtiikoicminohpaaVmUse
import Derived.Test.YtiikoicminohpaaVmLib
import Derived.Test.YtiikoicminohpaaVmSz
set_option linter.unusedVariables false
set_option linter.unusedSimpArgs false
set_option linter.unusedSectionVars false
namespace Go.Proofs.Ytiikoicminohpaa
noncomputable section

def ko_impl_leaf : Ctr := ⟨n_impl_leaf, [.v (.int .i64), .v (.int .i64)], fun (k : Int) (m : Int) => ⟨(none, [⟨(.st .expr), GExpr.mk k m []⟩])⟩⟩
def lo_impl_leaf (k : Int) (m : Int) : Nat → LoopInv := fun _ => .none
theorem vco_impl_leaf (k : Int) (m : Int) : awp (envO [] [] [] [] []) (bodyOf f_impl_leaf) (lo_impl_leaf k m) 0 (ownPost (envO [] [] [] [] []) f_impl_leaf fun r => areEq r [⟨(.st .expr), GExpr.mk k m []⟩]) (startO f_impl_leaf [.val ⟨(.int .i64), k⟩, .val ⟨(.int .i64), m⟩]) =
  ((GExpr.mk k m []) = (GExpr.mk k m [])) := by kernel_rfl
set_option maxRecDepth 4000 in
set_option maxHeartbeats 1000000 in
theorem oko_impl_leaf (hE : AllGood []) (hO : AllO []) (hM : AllM []) (hS : AllS []) : Ctr.OGood ko_impl_leaf := by
  refine ⟨fnOk_of at_impl_leaf rfl (by decide), ?_⟩
  show ∀ (k : Int) (m : Int), True → OkOwn prog n_impl_leaf [.val ⟨(.int .i64), k⟩, .val ⟨(.int .i64), m⟩] [⟨(.st .expr), GExpr.mk k m []⟩]
  intro k m _
  refine own_of_awp (own := []) (wr := []) (cl := []) (ro := []) hE hO hM hS at_impl_leaf body_impl_leaf (lo_impl_leaf k m) ?_
  rewrite [vco_impl_leaf k m]
  refine rfl
  all_goals try and_intros
  all_goals first | rfl | trivial | omega | (simp only [decide_eq_true_eq, decide_eq_false_iff_not, idxOk, inI64, inKind, cutOk, makeOk, roomOk] at *; omega) | (simp [idxOk, inI64] at *; omega) | grind

theorem ogood_impl_leaf : Ctr.OGood ko_impl_leaf := oko_impl_leaf trivial trivial trivial trivial

def ko_impl_tree : Ctr := ⟨n_impl_tree, [.v (.int .i64), .o (.slice (.st .expr))], fun (k : Int) (ks : List GExpr) => ⟨(none, [⟨(.st .expr), GExpr.mk k 0 ks⟩])⟩⟩
def lo_impl_tree (k : Int) (ks : List GExpr) : Nat → LoopInv := fun _ => .none
theorem vco_impl_tree (k : Int) (ks : List GExpr) : awp (envO [] [] [] [] []) (bodyOf f_impl_tree) (lo_impl_tree k ks) 0 (ownPost (envO [] [] [] [] []) f_impl_tree fun r => areEq r [⟨(.st .expr), GExpr.mk k 0 ks⟩]) (startO f_impl_tree [.val ⟨(.int .i64), k⟩, .own ⟨(.slice (.st .expr)), ks⟩]) =
  ((GExpr.mk k (0 : Int) ks) = (GExpr.mk k 0 ks)) := by kernel_rfl
set_option maxRecDepth 4000 in
set_option maxHeartbeats 1000000 in
theorem oko_impl_tree (hE : AllGood []) (hO : AllO []) (hM : AllM []) (hS : AllS []) : Ctr.OGood ko_impl_tree := by
  refine ⟨fnOk_of at_impl_tree rfl (by decide), ?_⟩
  show ∀ (k : Int) (ks : List GExpr), True → OkOwn prog n_impl_tree [.val ⟨(.int .i64), k⟩, .own ⟨(.slice (.st .expr)), ks⟩] [⟨(.st .expr), GExpr.mk k 0 ks⟩]
  intro k ks _
  refine own_of_awp (own := []) (wr := []) (cl := []) (ro := []) hE hO hM hS at_impl_tree body_impl_tree (lo_impl_tree k ks) ?_
  rewrite [vco_impl_tree k ks]
  refine ?_
  all_goals try and_intros
  all_goals first | rfl | trivial | omega | (simp only [decide_eq_true_eq, decide_eq_false_iff_not, idxOk, inI64, inKind, cutOk, makeOk, roomOk] at *; omega) | (simp [idxOk, inI64] at *; omega) | grind

theorem ogood_impl_tree : Ctr.OGood ko_impl_tree := oko_impl_tree trivial trivial trivial trivial

def kon_impl_copyExpr (n : Nat) : Ctr := ⟨n_impl_copyExpr, [.v (.st .expr)], fun (e : GExpr) => ⟨(some (msz e < n ∧ sz_expr e ≤ 1048576), [⟨(.st .expr), e⟩])⟩⟩
def ko_impl_copyExpr : Ctr := ⟨n_impl_copyExpr, [.v (.st .expr)], fun (e : GExpr) => ⟨(some (sz_expr e ≤ 1048576), [⟨(.st .expr), e⟩])⟩⟩
def lo_impl_copyExpr (e : GExpr) : Nat → LoopInv := (fun zb => if Nat.beq zb 0 then .mk (Nat) (fun i => i ≤ e.kids.length) (fun i => e.kids.length - i) [] [0, 1, 4, 6, 7, 8, 9, 10, 11] (fun i => [(14, .imm ⟨(.int .i64), ((i : Int) : Int)⟩)]) [2, 5, 12, 13, 14, 15, 16, 17, 18, 19, 20, 21, 22, 23, 24, 25, 26] (fun i => [(3, .box [.imm ⟨(.int .i64), (e.kind : Int)⟩, .imm ⟨(.int .i64), (e.num : Int)⟩, .tree 2400]), (2400, .tree (.st .expr) (e.kids.take i : List GExpr))]) [] [] (fun i => fun _ => .none) else .none)
theorem vco_impl_copyExpr (n : Nat) (e : GExpr) : awp (envO [] [kon_impl_copyExpr n] [] [21, 22, 23] [] [] [1]) (bodyOf f_impl_copyExpr) (lo_impl_copyExpr e) 0 (ownPost (envO [] [kon_impl_copyExpr n] [] [21, 22, 23] [] [] [1]) f_impl_copyExpr fun r => areEq r [⟨(.st .expr), e⟩]) (startO f_impl_copyExpr [.val ⟨(.st .expr), e⟩]) =
  ((inI64 e.kind →
 (inI64 e.num →
 (e.kids.length ≤ 140737488355328 →
 (inI64 ((e.kids.length : Int)) →
 ((∃ i1 : Nat, (i1 ≤ e.kids.length ∧ ((True ∧ (True ∧ (e.kids = e.kids ∧ (((e.kids.length : Int)) = ((e.kids.length : Int)) ∧ ((0 : Int) = (i1 : Int) ∧ True))))) ∧ ((e.kind = e.kind ∧ (e.num = e.num ∧ (True ∧ True))) ∧ ((e.kids.take i1) = [] ∧ (((0 : Int) = (0 : Int) ∧ ((0 : Int) = (0 : Int) ∧ (True ∧ True))) ∧ True)))))) ∧ (∀ i1 : Nat, (i1 ≤ e.kids.length →
 (((decide ((i1 : Int) < ((e.kids.length : Int)))) = true →
 (idxOk (i1 : Int) e.kids.length ∧ (((3 : Nat) = 3 ∧ (2 : Nat) = 2) ∧ ((2400 : Nat) = 2400 ∧ (((e.kids.getD i1 (GExpr.mk (0 : Int) (0 : Int) [])).kind = (e.kids.getD i1 (GExpr.mk (0 : Int) (0 : Int) [])).kind ∧ ((e.kids.getD i1 (GExpr.mk (0 : Int) (0 : Int) [])).num = (e.kids.getD i1 (GExpr.mk (0 : Int) (0 : Int) [])).num ∧ ((e.kids.getD i1 (GExpr.mk (0 : Int) (0 : Int) [])).kids = (e.kids.getD i1 (GExpr.mk (0 : Int) (0 : Int) [])).kids ∧ True))) ∧ ((msz (e_expr (e.kids.getD i1 (GExpr.mk (0 : Int) (0 : Int) []))) < n ∧ sz_expr (e_expr (e.kids.getD i1 (GExpr.mk (0 : Int) (0 : Int) []))) ≤ 1048576) ∧ (((3 : Nat) = 3 ∧ (2 : Nat) = 2) ∧ ((2400 : Nat) = 2400 ∧ (((3 : Nat) = 3 ∧ (2 : Nat) = 2) ∧ ((2400 : Nat) = 2400 ∧ (roomOk ((e.kids.take i1).length + ([(e_expr (e.kids.getD i1 (GExpr.mk (0 : Int) (0 : Int) [])))]).length) 40 ∧ (inI64 ((i1 : Int) + (1 : Int)) ∧ (∃ i2 : Nat, (i2 ≤ e.kids.length ∧ (e.kids.length - i2 < e.kids.length - i1 ∧ ((True ∧ (True ∧ (e.kids = e.kids ∧ (((e.kids.length : Int)) = ((e.kids.length : Int)) ∧ (((i1 : Int) + (1 : Int)) = (i2 : Int) ∧ True))))) ∧ ((e.kind = e.kind ∧ (e.num = e.num ∧ (True ∧ True))) ∧ (((e.kids.take i1) ++ ([(e_expr (e.kids.getD i1 (GExpr.mk (0 : Int) (0 : Int) [])))])) = (e.kids.take i2) ∧ (((0 : Int) = (0 : Int) ∧ ((0 : Int) = (0 : Int) ∧ (True ∧ True))) ∧ True))))))))))))))))))) ∧ ((decide ((i1 : Int) < ((e.kids.length : Int)))) = false →
 (GExpr.mk e.kind e.num (e.kids.take i1)) = e)))))))))) := by kernel_rfl
set_option maxRecDepth 4000 in
set_option maxHeartbeats 1000000 in
theorem oko_impl_copyExpr (n : Nat) (hE : AllGood []) (hO : AllO [kon_impl_copyExpr n]) (hM : AllM []) (hS : AllS []) : Ctr.OGood (kon_impl_copyExpr (n + 1)) := by
  refine ⟨fnOk_of at_impl_copyExpr rfl (by decide), ?_⟩
  show ∀ (e : GExpr), (msz e < n + 1 ∧ sz_expr e ≤ 1048576) → OkOwn prog n_impl_copyExpr [.val ⟨(.st .expr), e⟩] [⟨(.st .expr), e⟩]
  intro e hp
  refine own_of_awp (own := [21, 22, 23]) (wr := []) (cl := []) (ro := [1]) hE hO hM hS at_impl_copyExpr body_impl_copyExpr (lo_impl_copyExpr e) ?_
  rewrite [vco_impl_copyExpr n e]
  rw [sz_expr_eq] at hp
  have f0 := msz_kids e
  have f1 := fun i (h : i < e.kids.length) => szL_getD sz_expr (GExpr.mk (0 : Int) (0 : Int) []) e.kids i h
  have f2 := fun i (h : i < e.kids.length) => msz_getD (GExpr.mk (0 : Int) (0 : Int) []) e.kids i h
  have f3 := fun i (h : i < e.kids.length) => take_snoc (GExpr.mk (0 : Int) (0 : Int) []) e.kids i h
  have f4 : e.kids.take 0 = [] := by simp
  have f5 : ∀ i, e.kids.length ≤ i → e.kids.take i = e.kids := fun i h => List.take_of_length_le h
  have f6 : ∀ i, (e.kids.take i).length ≤ e.kids.length := fun i => by simp; omega
  have f7 : ∀ ks, ks = e.kids → GExpr.mk e.kind e.num ks = e := fun ks h => by subst h; cases e; rfl
  refine fun a0 => fun a1 => fun a2 => fun a3 => ⟨⟨0, ⟨?_, ⟨⟨trivial, ⟨trivial, ⟨rfl, ⟨rfl, ⟨?_, trivial⟩⟩⟩⟩⟩, ⟨⟨rfl, ⟨rfl, ⟨trivial, trivial⟩⟩⟩, ⟨?_, ⟨⟨rfl, ⟨rfl, ⟨trivial, trivial⟩⟩⟩, trivial⟩⟩⟩⟩⟩⟩, fun i1 => fun a4 => ⟨fun a5 => ⟨?_, ⟨⟨?_, ?_⟩, ⟨?_, ⟨⟨rfl, ⟨rfl, ⟨rfl, ?_⟩⟩⟩, ⟨?_, ⟨⟨?_, ?_⟩, ⟨?_, ⟨⟨?_, ?_⟩, ⟨?_, ⟨?_, ⟨?_, ⟨i1 + 1, ⟨?_, ⟨?_, ⟨⟨trivial, ⟨trivial, ⟨rfl, ⟨rfl, ⟨?_, trivial⟩⟩⟩⟩⟩, ⟨⟨rfl, ⟨rfl, ⟨trivial, trivial⟩⟩⟩, ⟨?_, ⟨⟨rfl, ⟨rfl, ⟨trivial, trivial⟩⟩⟩, trivial⟩⟩⟩⟩⟩⟩⟩⟩⟩⟩⟩⟩⟩⟩⟩⟩⟩⟩, fun a5 => ?_⟩⟩
  all_goals try and_intros
  all_goals try simp only [GExpr.eta, GProg.eta, GDerivation.eta, GTriple.eta, GPremise.eta, GClaim.eta, GEquation.eta, GPair.eta, GSpot.eta, e_expr_eq, e_pair_eq, e_equation_eq, e_claim_eq, e_prog_eq, e_spot_eq, e_triple_eq, e_premise_eq, e_derivation_eq] at *
  all_goals first | rfl | trivial | omega | (simp only [decide_eq_true_eq, decide_eq_false_iff_not, idxOk, inI64, roomOk, List.length_cons, List.length_nil] at *; first | omega | (have := f6 i1; omega) | exact f7 _ (f5 _ (by omega)) | grind) | grind

theorem allo_copyO : ∀ n, AllO [kon_impl_copyExpr n]
  | 0 => ⟨⟨fnOk_of at_impl_copyExpr rfl (by decide), fun _ h => absurd h.1 (Nat.not_lt_zero _)⟩, trivial⟩
  | n + 1 => by
    have ih := allo_copyO n
    exact ⟨oko_impl_copyExpr n trivial ⟨ih.1, trivial⟩ trivial trivial, trivial⟩
theorem ogood_impl_copyExpr : Ctr.OGood ko_impl_copyExpr :=
  ⟨fnOk_of at_impl_copyExpr rfl (by decide), fun e hp => (allo_copyO (msz e + 1)).1.2 e (⟨Nat.lt_succ_self _, hp⟩)⟩

end
end Go.Proofs.Ytiikoicminohpaa

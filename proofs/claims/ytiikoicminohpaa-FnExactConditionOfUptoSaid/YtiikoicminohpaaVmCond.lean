/- Conditions of atoms. Printed by vmk.py. -/
import Derived.Test.YtiikoicminohpaaVmUse
import Derived.Test.YtiikoicminohpaaVmLib
import Derived.Test.YtiikoicminohpaaVmSz
import Derived.Test.YtiikoicminohpaaVmValid
import Derived.Test.YtiikoicminohpaaVmBld
set_option linter.unusedVariables false
set_option linter.unusedSimpArgs false
set_option linter.unusedSectionVars false
namespace Go.Proofs.Ytiikoicminohpaa
noncomputable section

def inB0 (b n : Int) : Bool := decide (0 ≤ n ∧ n ≤ b - 1)
theorem inB0_at (b : Int) (xs : List Int) (i : Nat) (h : i < xs.length) (k : allL (inB0 b) xs = true) : 0 ≤ xs.getD i 0 ∧ xs.getD i 0 ≤ b - 1 := by
  have := all_getD (inB0 b) 0 xs i h k
  simpa [inB0] using this
def bit0A (a n : Int) : Bool := decide (((Int.toNat (Int.fdiv a (2 ^ n.toNat)) &&& Int.toNat 1 : Nat) : Int) = 0)
/-- A test, or its negation, as an atom has it. -/
def litA (a n : Int) : GExpr := if bit0A a n = true then ⟨5, 0, [⟨3, n, []⟩]⟩ else ⟨3, n, []⟩
def conN (a : Int) : Nat → GExpr
  | 0 => ⟨2, 0, []⟩
  | 1 => litA a 0
  | n + 2 => ⟨7, 0, [conN a (n + 1), litA a ((n + 1 : Nat) : Int)]⟩
def outI (a : Int) (i : Nat) : GExpr := if i = 0 then ⟨0, 0, []⟩ else conN a i
theorem outI_zero (a : Int) : outI a 0 = ⟨0, 0, []⟩ := rfl
theorem outI_pos (a : Int) (i : Nat) (h : i ≠ 0) : outI a i = conN a i := by simp [outI, h]
theorem conN_one (a : Int) (i : Nat) (h : i = 0) : conN a (i + 1) = litA a i := by subst h; rfl
theorem conN_two (a : Int) (i : Nat) (h : i ≠ 0) : conN a (i + 1) = ⟨7, 0, [conN a i, litA a i]⟩ := by
  match i, h with
  | i + 1, _ => rfl
theorem litA_t (a n : Int) (h : decide (((Int.toNat (Int.fdiv a (2 ^ n.toNat)) &&& Int.toNat 1 : Nat) : Int) = 0) = true) : litA a n = ⟨5, 0, [⟨3, n, []⟩]⟩ := by
  have h : bit0A a n = true := h
  simp [litA, h]
theorem litA_f (a n : Int) (h : decide (((Int.toNat (Int.fdiv a (2 ^ n.toNat)) &&& Int.toNat 1 : Nat) : Int) = 0) = false) : litA a n = ⟨3, n, []⟩ := by
  have h : bit0A a n = false := h
  simp [litA, h]
theorem mkE (x : GExpr) : GExpr.mk x.kind x.num x.kids = x := by cases x; rfl
def sumE (xs : List GExpr) : GExpr := xs.foldl (fun o e => ⟨6, 0, [o, e]⟩) ⟨1, 0, []⟩
theorem sumE_nil : sumE [] = ⟨1, 0, []⟩ := rfl
theorem sumE_snoc (xs : List GExpr) (e : GExpr) : sumE (xs ++ [e]) = ⟨6, 0, [sumE xs, e]⟩ := by simp [sumE, List.foldl_append]
def goneE (x : GExpr) : GOExpr := ⟨x.kind, x.num, none⟩
/-- A list, of which the first elements have been taken out. -/
def outs (xs : List GExpr) (i : Nat) : List GOExpr := (xs.take i).map goneE ++ (xs.drop i).map toO
theorem outs_zero (xs : List GExpr) : outs xs 0 = List.map toO xs := by simp [outs]
theorem outs_length (xs : List GExpr) (i : Nat) : (outs xs i).length = xs.length := by simp [outs]; omega
theorem outs_getD (xs : List GExpr) (i : Nat) (z : GOExpr) (h : i < xs.length) : (outs xs i).getD i z = toO (xs.getD i ⟨0, 0, []⟩) := by
  have e : ((xs.take i).map goneE).length = i := by simp; omega
  simp only [outs, List.getD_eq_getElem?_getD]
  rw [List.getElem?_append_right (by omega), e, Nat.sub_self]
  simp [h]
theorem outs_set (xs : List GExpr) (i : Nat) (z : GOExpr) (h : i < xs.length) : (outs xs i).set i ⟨((outs xs i).getD i z).kind, ((outs xs i).getD i z).num, none⟩ = outs xs (i + 1) := by
  rw [outs_getD xs i z h]
  have e : ((xs.take i).map goneE).length = i := by simp; omega
  unfold outs
  rw [List.set_append_right _ _ (by omega), e, Nat.sub_self, List.drop_eq_getElem_cons h, List.map_cons, List.set_cons_zero, List.take_succ_eq_append_getElem h, List.map_append, List.append_assoc]
  simp [h, goneE, toO]
theorem outs_some (xs : List GExpr) (i : Nat) (z : GOExpr) (h : i < xs.length) : ((outs xs i).getD i z).kids.isSome = true ∧ True := by
  rw [outs_getD xs i z h]; exact ⟨rfl, trivial⟩
theorem outs_sum (xs : List GExpr) (i : Nat) (z : GOExpr) (h : i < xs.length) : sumE (xs.take (i + 1)) = ⟨6, 0, [sumE (xs.take i), ⟨((outs xs i).getD i z).kind, ((outs xs i).getD i z).num, ((outs xs i).getD i z).kids.getD []⟩]⟩ := by
  rw [outs_getD xs i z h, take_snoc ⟨0, 0, []⟩ xs i h, sumE_snoc]
  show _ = GExpr.mk 6 0 [sumE (xs.take i), GExpr.mk (xs.getD i ⟨0, 0, []⟩).kind (xs.getD i ⟨0, 0, []⟩).num (xs.getD i ⟨0, 0, []⟩).kids]
  rw [mkE]
/-- The condition of some atoms. -/
def ofA (gg : GSig) (xs : List Int) : GExpr := sumE (xs.map fun a => conN a gg.tests.toNat)
theorem ofA_step (gg : GSig) (xs : List Int) (i : Nat) (h : i < xs.length) : (xs.take (i + 1)).map (fun a => conN a gg.tests.toNat) = (xs.take i).map (fun a => conN a gg.tests.toNat) ++ [conN (xs.getD i 0) gg.tests.toNat] := by
  rw [take_snoc 0 xs i h, List.map_append]; rfl

def ko_impl_conditionOf : Ctr := ⟨n_impl_conditionOf, [.v (.st .sig), .v (.int .i64)], fun (gg : GSig) (atom : Int) => ⟨(some ((0 ≤ gg.tests ∧ gg.tests ≤ 3) ∧ 0 ≤ atom ∧ atom ≤ 4096), [⟨(.st .expr), conN atom gg.tests.toNat⟩])⟩⟩
def lo_impl_conditionOf (gg : GSig) (atom : Int) : Nat → LoopInv := (fun zb => if Nat.beq zb 0 then .mk (Nat) (fun i => i ≤ gg.tests.toNat ∧ 0 < gg.tests.toNat) (fun i => gg.tests.toNat - i) [] [0, 2, 3, 8, 9, 10, 11, 12, 13] (fun i => [(15, .imm ⟨(.int .i64), ((i : Int) : Int)⟩)]) [1, 4, 6, 7, 14, 15, 16, 17, 18, 19, 20, 21, 22, 23, 24, 25, 26, 27, 28, 29, 30, 31, 32, 33, 34, 35, 36] (fun i => [(5, .box [.imm ⟨(.int .i64), ((outI atom i).kind : Int)⟩, .imm ⟨(.int .i64), ((outI atom i).num : Int)⟩, .tree 3502]), (3502, .tree (.st .expr) ((outI atom i).kids : List GExpr))]) [] [] (fun i => fun _ => .none) else .none)
theorem vco_impl_conditionOf (gg : GSig) (atom : Int) : awp (envO [] [ko_impl_leaf, ko_impl_tree] [] [11, 19, 26, 27, 33, 34] [] [] [2]) (bodyOf f_impl_conditionOf) (lo_impl_conditionOf gg atom) 0 (ownPost (envO [] [ko_impl_leaf, ko_impl_tree] [] [11, 19, 26, 27, 33, 34] [] [] [2]) f_impl_conditionOf fun r => areEq r [⟨(.st .expr), conN atom gg.tests.toNat⟩]) (startO f_impl_conditionOf [.val ⟨(.st .sig), gg⟩, .val ⟨(.int .i64), atom⟩]) =
  ((inI64 gg.tests →
 (((decide (gg.tests = (0 : Int))) = true →
 (e_expr (GExpr.mk (2 : Int) (0 : Int) [])) = (conN atom gg.tests.toNat)) ∧ ((decide (gg.tests = (0 : Int))) = false →
 (inI64 gg.tests →
 ((∃ i1 : Nat, ((i1 ≤ gg.tests.toNat ∧ 0 < gg.tests.toNat) ∧ ((atom = atom ∧ (True ∧ (True ∧ (gg.tests = gg.tests ∧ ((0 : Int) = (i1 : Int) ∧ True))))) ∧ (((0 : Int) = ((outI atom i1).kind) ∧ ((0 : Int) = ((outI atom i1).num) ∧ (True ∧ True))) ∧ (((outI atom i1).kids) = [] ∧ (((0 : Int) = (0 : Int) ∧ ((0 : Int) = (0 : Int) ∧ (True ∧ True))) ∧ True)))))) ∧ (∀ i1 : Nat, ((i1 ≤ gg.tests.toNat ∧ 0 < gg.tests.toNat) →
 (((decide ((i1 : Int) < gg.tests)) = true →
 (((0 : Int) ≤ (i1 : Int) ∧ ((i1 : Int) < (64 : Int) ∧ inI64 (atom.fdiv (2 ^ (i1 : Int).toNat)))) ∧ (((0 : Int) ≤ (atom.fdiv (2 ^ (i1 : Int).toNat)) ∧ ((0 : Int) ≤ (1 : Int) ∧ (inI64 (atom.fdiv (2 ^ (i1 : Int).toNat)) ∧ inI64 (1 : Int)))) ∧ (((decide (((((atom.fdiv (2 ^ (i1 : Int).toNat)).toNat &&& (1 : Int).toNat : Nat) : Int)) = (0 : Int))) = true →
 (((decide ((i1 : Int) = (0 : Int))) = true →
 (inI64 ((i1 : Int) + (1 : Int)) ∧ (∃ i2 : Nat, ((i2 ≤ gg.tests.toNat ∧ 0 < gg.tests.toNat) ∧ (gg.tests.toNat - i2 < gg.tests.toNat - i1 ∧ ((atom = atom ∧ (True ∧ (True ∧ (gg.tests = gg.tests ∧ (((i1 : Int) + (1 : Int)) = (i2 : Int) ∧ True))))) ∧ (((GExpr.mk (5 : Int) 0 ([(e_expr (GExpr.mk (3 : Int) (i1 : Int) []))])).kind = ((outI atom i2).kind) ∧ ((GExpr.mk (5 : Int) 0 ([(e_expr (GExpr.mk (3 : Int) (i1 : Int) []))])).num = ((outI atom i2).num) ∧ (True ∧ True))) ∧ ((GExpr.mk (5 : Int) 0 ([(e_expr (GExpr.mk (3 : Int) (i1 : Int) []))])).kids = ((outI atom i2).kids) ∧ (((0 : Int) = (0 : Int) ∧ ((0 : Int) = (0 : Int) ∧ (True ∧ True))) ∧ True))))))))) ∧ ((decide ((i1 : Int) = (0 : Int))) = false →
 (inI64 ((i1 : Int) + (1 : Int)) ∧ (∃ i2 : Nat, ((i2 ≤ gg.tests.toNat ∧ 0 < gg.tests.toNat) ∧ (gg.tests.toNat - i2 < gg.tests.toNat - i1 ∧ ((atom = atom ∧ (True ∧ (True ∧ (gg.tests = gg.tests ∧ (((i1 : Int) + (1 : Int)) = (i2 : Int) ∧ True))))) ∧ (((GExpr.mk (7 : Int) 0 ([(GExpr.mk ((outI atom i1).kind) ((outI atom i1).num) ((outI atom i1).kids)), (e_expr (GExpr.mk (5 : Int) 0 ([(e_expr (GExpr.mk (3 : Int) (i1 : Int) []))])))])).kind = ((outI atom i2).kind) ∧ ((GExpr.mk (7 : Int) 0 ([(GExpr.mk ((outI atom i1).kind) ((outI atom i1).num) ((outI atom i1).kids)), (e_expr (GExpr.mk (5 : Int) 0 ([(e_expr (GExpr.mk (3 : Int) (i1 : Int) []))])))])).num = ((outI atom i2).num) ∧ (True ∧ True))) ∧ ((GExpr.mk (7 : Int) 0 ([(GExpr.mk ((outI atom i1).kind) ((outI atom i1).num) ((outI atom i1).kids)), (e_expr (GExpr.mk (5 : Int) 0 ([(e_expr (GExpr.mk (3 : Int) (i1 : Int) []))])))])).kids = ((outI atom i2).kids) ∧ (((0 : Int) = (0 : Int) ∧ ((0 : Int) = (0 : Int) ∧ (True ∧ True))) ∧ True))))))))))) ∧ ((decide (((((atom.fdiv (2 ^ (i1 : Int).toNat)).toNat &&& (1 : Int).toNat : Nat) : Int)) = (0 : Int))) = false →
 (((decide ((i1 : Int) = (0 : Int))) = true →
 (inI64 ((i1 : Int) + (1 : Int)) ∧ (∃ i2 : Nat, ((i2 ≤ gg.tests.toNat ∧ 0 < gg.tests.toNat) ∧ (gg.tests.toNat - i2 < gg.tests.toNat - i1 ∧ ((atom = atom ∧ (True ∧ (True ∧ (gg.tests = gg.tests ∧ (((i1 : Int) + (1 : Int)) = (i2 : Int) ∧ True))))) ∧ (((GExpr.mk (3 : Int) (i1 : Int) []).kind = ((outI atom i2).kind) ∧ ((GExpr.mk (3 : Int) (i1 : Int) []).num = ((outI atom i2).num) ∧ (True ∧ True))) ∧ ((GExpr.mk (3 : Int) (i1 : Int) []).kids = ((outI atom i2).kids) ∧ (((0 : Int) = (0 : Int) ∧ ((0 : Int) = (0 : Int) ∧ (True ∧ True))) ∧ True))))))))) ∧ ((decide ((i1 : Int) = (0 : Int))) = false →
 (inI64 ((i1 : Int) + (1 : Int)) ∧ (∃ i2 : Nat, ((i2 ≤ gg.tests.toNat ∧ 0 < gg.tests.toNat) ∧ (gg.tests.toNat - i2 < gg.tests.toNat - i1 ∧ ((atom = atom ∧ (True ∧ (True ∧ (gg.tests = gg.tests ∧ (((i1 : Int) + (1 : Int)) = (i2 : Int) ∧ True))))) ∧ (((GExpr.mk (7 : Int) 0 ([(GExpr.mk ((outI atom i1).kind) ((outI atom i1).num) ((outI atom i1).kids)), (e_expr (GExpr.mk (3 : Int) (i1 : Int) []))])).kind = ((outI atom i2).kind) ∧ ((GExpr.mk (7 : Int) 0 ([(GExpr.mk ((outI atom i1).kind) ((outI atom i1).num) ((outI atom i1).kids)), (e_expr (GExpr.mk (3 : Int) (i1 : Int) []))])).num = ((outI atom i2).num) ∧ (True ∧ True))) ∧ ((GExpr.mk (7 : Int) 0 ([(GExpr.mk ((outI atom i1).kind) ((outI atom i1).num) ((outI atom i1).kids)), (e_expr (GExpr.mk (3 : Int) (i1 : Int) []))])).kids = ((outI atom i2).kids) ∧ (((0 : Int) = (0 : Int) ∧ ((0 : Int) = (0 : Int) ∧ (True ∧ True))) ∧ True))))))))))))))) ∧ ((decide ((i1 : Int) < gg.tests)) = false →
 (GExpr.mk ((outI atom i1).kind) ((outI atom i1).num) ((outI atom i1).kids)) = (conN atom gg.tests.toNat))))))))))) := by kernel_rfl
set_option maxRecDepth 4000 in
set_option maxHeartbeats 1000000 in
theorem oko_impl_conditionOf (hE : AllGood []) (hO : AllO [ko_impl_leaf, ko_impl_tree]) (hM : AllM []) (hS : AllS []) : Ctr.OGood ko_impl_conditionOf := by
  refine ⟨fnOk_of at_impl_conditionOf rfl (by decide), ?_⟩
  show ∀ (gg : GSig) (atom : Int), ((0 ≤ gg.tests ∧ gg.tests ≤ 3) ∧ 0 ≤ atom ∧ atom ≤ 4096) → OkOwn prog n_impl_conditionOf [.val ⟨(.st .sig), gg⟩, .val ⟨(.int .i64), atom⟩] [⟨(.st .expr), conN atom gg.tests.toNat⟩]
  intro gg atom hp
  refine own_of_awp (own := [11, 19, 26, 27, 33, 34]) (wr := []) (cl := []) (ro := [2]) hE hO hM hS at_impl_conditionOf body_impl_conditionOf (lo_impl_conditionOf gg atom) ?_
  rewrite [vco_impl_conditionOf gg atom]
  have g0 : gg.tests = 0 → GExpr.mk 2 0 [] = conN atom gg.tests.toNat := fun h => by rw [h]; rfl
  have g1 : ∀ i : Nat, i ≤ gg.tests.toNat → gg.tests ≤ (i : Int) → 0 < gg.tests.toNat → outI atom i = conN atom gg.tests.toNat := fun i h1 h2 h3 => by rw [outI_pos atom i (by omega), show i = gg.tests.toNat by omega]
  refine fun a0 => ⟨fun a1 => ?_, fun a1 => fun a2 => ⟨⟨0, ⟨?_, ⟨⟨rfl, ⟨trivial, ⟨trivial, ⟨rfl, ⟨?_, trivial⟩⟩⟩⟩⟩, ⟨⟨?_, ⟨?_, ⟨trivial, trivial⟩⟩⟩, ⟨?_, ⟨⟨rfl, ⟨rfl, ⟨trivial, trivial⟩⟩⟩, trivial⟩⟩⟩⟩⟩⟩, fun i1 a3 => have b3x0 := outI_pos atom i1; have b3x1 := outI_pos atom (i1 + 1) (by omega); have b3x2 := conN_one atom i1; have b3x3 := conN_two atom i1; have b3x4 := litA_t atom i1; have b3x5 := litA_f atom i1; have b3x6 := fdiv_bounds atom i1 hp.2; ⟨fun a4 => ⟨⟨?_, ⟨?_, ?_⟩⟩, ⟨⟨?_, ⟨?_, ⟨?_, ?_⟩⟩⟩, ⟨fun a5 => ⟨fun a6 => ⟨?_, ⟨i1 + 1, ⟨?_, ⟨?_, ⟨⟨rfl, ⟨trivial, ⟨trivial, ⟨rfl, ⟨?_, trivial⟩⟩⟩⟩⟩, ⟨⟨?_, ⟨?_, ⟨trivial, trivial⟩⟩⟩, ⟨?_, ⟨⟨rfl, ⟨rfl, ⟨trivial, trivial⟩⟩⟩, trivial⟩⟩⟩⟩⟩⟩⟩⟩, fun a6 => ⟨?_, ⟨i1 + 1, ⟨?_, ⟨?_, ⟨⟨rfl, ⟨trivial, ⟨trivial, ⟨rfl, ⟨?_, trivial⟩⟩⟩⟩⟩, ⟨⟨?_, ⟨?_, ⟨trivial, trivial⟩⟩⟩, ⟨?_, ⟨⟨rfl, ⟨rfl, ⟨trivial, trivial⟩⟩⟩, trivial⟩⟩⟩⟩⟩⟩⟩⟩⟩, fun a5 => ⟨fun a6 => ⟨?_, ⟨i1 + 1, ⟨?_, ⟨?_, ⟨⟨rfl, ⟨trivial, ⟨trivial, ⟨rfl, ⟨?_, trivial⟩⟩⟩⟩⟩, ⟨⟨?_, ⟨?_, ⟨trivial, trivial⟩⟩⟩, ⟨?_, ⟨⟨rfl, ⟨rfl, ⟨trivial, trivial⟩⟩⟩, trivial⟩⟩⟩⟩⟩⟩⟩⟩, fun a6 => ⟨?_, ⟨i1 + 1, ⟨?_, ⟨?_, ⟨⟨rfl, ⟨trivial, ⟨trivial, ⟨rfl, ⟨?_, trivial⟩⟩⟩⟩⟩, ⟨⟨?_, ⟨?_, ⟨trivial, trivial⟩⟩⟩, ⟨?_, ⟨⟨rfl, ⟨rfl, ⟨trivial, trivial⟩⟩⟩, trivial⟩⟩⟩⟩⟩⟩⟩⟩⟩⟩⟩⟩, fun a4 => ?_⟩⟩⟩
  all_goals try and_intros
  all_goals try simp only [GExpr.eta, GProg.eta, GDerivation.eta, GTriple.eta, GPremise.eta, GClaim.eta, GEquation.eta, GPair.eta, GSpot.eta, e_expr_eq, e_pair_eq, e_equation_eq, e_claim_eq, e_prog_eq, e_spot_eq, e_triple_eq, e_premise_eq, e_derivation_eq] at *
  all_goals first | rfl | trivial | omega | (simp only [decide_eq_true_eq, decide_eq_false_iff_not, idxOk, inI64, inKind_u64, inKind_i64, u64_min, u64_max] at *; omega) | ((try simp only [mkE] at *); first | rfl | omega | (simp_all [outI_zero]; done) | grind [u64_min, u64_max, inI64])

theorem ogood_impl_conditionOf : Ctr.OGood ko_impl_conditionOf := oko_impl_conditionOf trivial ⟨ogood_impl_leaf, ogood_impl_tree, trivial⟩ trivial trivial

def ko_impl_sumOf : Ctr := ⟨n_impl_sumOf, [.o (.slice (.st .expr))], fun (xs : List GExpr) => ⟨(some (xs.length ≤ 1000), [⟨(.st .expr), sumE xs⟩])⟩⟩
def lo_impl_sumOf (xs : List GExpr) : Nat → LoopInv := (fun zb => if Nat.beq zb 0 then .mk (Nat) (fun i => i ≤ xs.length) (fun i => xs.length - i) [] [0, 1, 4, 6] (fun i => [(9, .imm ⟨(.int .i64), ((i : Int) : Int)⟩)]) [2, 5, 7, 8, 9, 10, 11, 12, 13, 14, 15, 16, 17, 18] (fun i => [(3, .box [.imm ⟨(.int .i64), ((sumE (xs.take i)).kind : Int)⟩, .imm ⟨(.int .i64), ((sumE (xs.take i)).num : Int)⟩, .tree 1702]), (1702, .tree (.st .expr) ((sumE (xs.take i)).kids : List GExpr)), (1000000, .tree (.st .oExpr) (outs xs i : List GOExpr))]) [] [] (fun i => fun _ => .none) else .none)
theorem vco_impl_sumOf (xs : List GExpr) : awp (envO [] [ko_impl_leaf, ko_impl_tree] [] [6, 15, 16, 12] []) (bodyOf f_impl_sumOf) (lo_impl_sumOf xs) 0 (ownPost (envO [] [ko_impl_leaf, ko_impl_tree] [] [6, 15, 16, 12] []) f_impl_sumOf fun r => areEq r [⟨(.st .expr), sumE xs⟩]) (startO f_impl_sumOf [.own ⟨(.slice (.st .expr)), xs⟩]) =
  (((∃ i1 : Nat, (i1 ≤ xs.length ∧ ((True ∧ (True ∧ (True ∧ (((xs.length : Int)) = ((xs.length : Int)) ∧ ((0 : Int) = (i1 : Int) ∧ True))))) ∧ (((GExpr.mk (1 : Int) (0 : Int) []).kind = ((sumE (xs.take i1)).kind) ∧ ((GExpr.mk (1 : Int) (0 : Int) []).num = ((sumE (xs.take i1)).num) ∧ (True ∧ True))) ∧ ((GExpr.mk (1 : Int) (0 : Int) []).kids = ((sumE (xs.take i1)).kids) ∧ ((List.map toO xs) = (outs xs i1) ∧ (((0 : Int) = (0 : Int) ∧ ((0 : Int) = (0 : Int) ∧ (True ∧ True))) ∧ True))))))) ∧ (∀ i1 : Nat, (i1 ≤ xs.length →
 (((decide ((i1 : Int) < ((xs.length : Int)))) = true →
 (idxOk (i1 : Int) (outs xs i1).length ∧ ((((outs xs i1).getD i1 (GOExpr.mk (0 : Int) (0 : Int) none)).kids.isSome = true ∧ True) ∧ (inI64 ((i1 : Int) + (1 : Int)) ∧ (∃ i2 : Nat, (i2 ≤ xs.length ∧ (xs.length - i2 < xs.length - i1 ∧ ((True ∧ (True ∧ (True ∧ (((xs.length : Int)) = ((xs.length : Int)) ∧ (((i1 : Int) + (1 : Int)) = (i2 : Int) ∧ True))))) ∧ (((GExpr.mk (6 : Int) 0 ([(GExpr.mk ((sumE (xs.take i1)).kind) ((sumE (xs.take i1)).num) ((sumE (xs.take i1)).kids)), (GExpr.mk ((outs xs i1).getD i1 (GOExpr.mk (0 : Int) (0 : Int) none)).kind ((outs xs i1).getD i1 (GOExpr.mk (0 : Int) (0 : Int) none)).num (((outs xs i1).getD i1 (GOExpr.mk (0 : Int) (0 : Int) none)).kids.getD []))])).kind = ((sumE (xs.take i2)).kind) ∧ ((GExpr.mk (6 : Int) 0 ([(GExpr.mk ((sumE (xs.take i1)).kind) ((sumE (xs.take i1)).num) ((sumE (xs.take i1)).kids)), (GExpr.mk ((outs xs i1).getD i1 (GOExpr.mk (0 : Int) (0 : Int) none)).kind ((outs xs i1).getD i1 (GOExpr.mk (0 : Int) (0 : Int) none)).num (((outs xs i1).getD i1 (GOExpr.mk (0 : Int) (0 : Int) none)).kids.getD []))])).num = ((sumE (xs.take i2)).num) ∧ (True ∧ True))) ∧ ((GExpr.mk (6 : Int) 0 ([(GExpr.mk ((sumE (xs.take i1)).kind) ((sumE (xs.take i1)).num) ((sumE (xs.take i1)).kids)), (GExpr.mk ((outs xs i1).getD i1 (GOExpr.mk (0 : Int) (0 : Int) none)).kind ((outs xs i1).getD i1 (GOExpr.mk (0 : Int) (0 : Int) none)).num (((outs xs i1).getD i1 (GOExpr.mk (0 : Int) (0 : Int) none)).kids.getD []))])).kids = ((sumE (xs.take i2)).kids) ∧ (((outs xs i1).set i1 (GOExpr.mk ((outs xs i1).getD i1 (GOExpr.mk (0 : Int) (0 : Int) none)).kind ((outs xs i1).getD i1 (GOExpr.mk (0 : Int) (0 : Int) none)).num none)) = (outs xs i2) ∧ (((0 : Int) = (0 : Int) ∧ ((0 : Int) = (0 : Int) ∧ (True ∧ True))) ∧ True)))))))))))) ∧ ((decide ((i1 : Int) < ((xs.length : Int)))) = false →
 (GExpr.mk ((sumE (xs.take i1)).kind) ((sumE (xs.take i1)).num) ((sumE (xs.take i1)).kids)) = (sumE xs))))))) := by kernel_rfl
set_option maxRecDepth 4000 in
set_option maxHeartbeats 1000000 in
theorem oko_impl_sumOf (hE : AllGood []) (hO : AllO [ko_impl_leaf, ko_impl_tree]) (hM : AllM []) (hS : AllS []) : Ctr.OGood ko_impl_sumOf := by
  refine ⟨fnOk_of at_impl_sumOf rfl (by decide), ?_⟩
  show ∀ (xs : List GExpr), (xs.length ≤ 1000) → OkOwn prog n_impl_sumOf [.own ⟨(.slice (.st .expr)), xs⟩] [⟨(.st .expr), sumE xs⟩]
  intro xs hp
  refine own_of_awp (own := [6, 15, 16, 12]) (wr := []) (cl := []) (ro := []) hE hO hM hS at_impl_sumOf body_impl_sumOf (lo_impl_sumOf xs) ?_
  rewrite [vco_impl_sumOf xs]
  have g0 := outs_zero xs
  have g1 : sumE (xs.take 0) = ⟨1, 0, []⟩ := by simp [sumE]
  have g2 : ∀ i, xs.length ≤ i → xs.take i = xs := fun i h => List.take_of_length_le h
  refine ⟨⟨0, ⟨?_, ⟨⟨trivial, ⟨trivial, ⟨trivial, ⟨rfl, ⟨?_, trivial⟩⟩⟩⟩⟩, ⟨⟨?_, ⟨?_, ⟨trivial, trivial⟩⟩⟩, ⟨?_, ⟨?_, ⟨⟨rfl, ⟨rfl, ⟨trivial, trivial⟩⟩⟩, trivial⟩⟩⟩⟩⟩⟩⟩, fun i1 a0 => have b0x0 := outs_length xs i1; have b0x1 := outs_set xs i1 ⟨0, 0, none⟩; have b0x2 := outs_some xs i1 ⟨0, 0, none⟩; have b0x3 := outs_sum xs i1 ⟨0, 0, none⟩; ⟨fun a1 => ⟨?_, ⟨?_, ⟨?_, ⟨i1 + 1, ⟨?_, ⟨?_, ⟨⟨trivial, ⟨trivial, ⟨trivial, ⟨rfl, ⟨?_, trivial⟩⟩⟩⟩⟩, ⟨⟨?_, ⟨?_, ⟨trivial, trivial⟩⟩⟩, ⟨?_, ⟨?_, ⟨⟨rfl, ⟨rfl, ⟨trivial, trivial⟩⟩⟩, trivial⟩⟩⟩⟩⟩⟩⟩⟩⟩⟩⟩, fun a1 => ?_⟩⟩
  all_goals try and_intros
  all_goals first | rfl | trivial | omega | exact g0.symm | (rw [g1]; done) | (simp only [decide_eq_true_eq, decide_eq_false_iff_not, idxOk, inI64, b0x0] at *; first | omega | exact b0x1 (by omega) | exact (b0x2 (by omega)).1 | (rw [b0x3 (by omega)]; simp only [mkE]; done) | (rw [b0x3 (by omega)]; done) | (rw [mkE, g2 i1 (by omega)]; done))

theorem ogood_impl_sumOf : Ctr.OGood ko_impl_sumOf := oko_impl_sumOf trivial ⟨ogood_impl_leaf, ogood_impl_tree, trivial⟩ trivial trivial

def ko_impl_ofAtoms : Ctr := ⟨n_impl_ofAtoms, [.v (.st .sig), .v (.slice (.int .i64))], fun (gg : GSig) (xs : List Int) => ⟨(some ((0 ≤ gg.tests ∧ gg.tests ≤ 3) ∧ allL (inB0 8) xs = true ∧ xs.length ≤ 8), [⟨(.st .expr), ofA gg xs⟩])⟩⟩
def lo_impl_ofAtoms (gg : GSig) (xs : List Int) : Nat → LoopInv := (fun zb => if Nat.beq zb 0 then .mk (Nat) (fun i => i ≤ xs.length) (fun i => xs.length - i) [] [0, 1, 3, 6, 8] (fun i => [(11, .imm ⟨(.int .i64), ((i : Int) : Int)⟩), (5, .tree 2100)]) [2, 4, 5, 7, 9, 10, 11, 12, 13, 14, 15, 16, 17, 18, 19, 20, 21, 22, 23] (fun i => [(2100, .tree (.st .expr) ((xs.take i).map (fun a => conN a gg.tests.toNat) : List GExpr))]) [] [] (fun i => fun _ => .none) else .none)
theorem vco_impl_ofAtoms (gg : GSig) (xs : List Int) : awp (envO [] [ko_impl_conditionOf, ko_impl_sumOf] [] [8, 18, 19, 20, 23] [] [] [2]) (bodyOf f_impl_ofAtoms) (lo_impl_ofAtoms gg xs) 0 (ownPost (envO [] [ko_impl_conditionOf, ko_impl_sumOf] [] [8, 18, 19, 20, 23] [] [] [2]) f_impl_ofAtoms fun r => areEq r [⟨(.st .expr), ofA gg xs⟩]) (startO f_impl_ofAtoms [.val ⟨(.st .sig), gg⟩, .val ⟨(.slice (.int .i64)), xs⟩]) =
  ((inI64 ((xs.length : Int)) →
 ((∃ i1 : Nat, (i1 ≤ xs.length ∧ ((gg = gg ∧ (True ∧ (True ∧ (xs = xs ∧ (((xs.length : Int)) = ((xs.length : Int)) ∧ ((0 : Int) = (i1 : Int) ∧ True)))))) ∧ ([] = ((xs.take i1).map (fun a => conN a gg.tests.toNat)) ∧ (((0 : Int) = (0 : Int) ∧ ((0 : Int) = (0 : Int) ∧ (True ∧ True))) ∧ True))))) ∧ (∀ i1 : Nat, (i1 ≤ xs.length →
 (((decide ((i1 : Int) < ((xs.length : Int)))) = true →
 (idxOk (i1 : Int) xs.length ∧ (inI64 (xs.getD i1 (0 : Int)) →
 (((0 ≤ gg.tests ∧ gg.tests ≤ 3) ∧ 0 ≤ (xs.getD i1 (0 : Int)) ∧ (xs.getD i1 (0 : Int)) ≤ 4096) ∧ (roomOk (((xs.take i1).map (fun a => conN a gg.tests.toNat)).length + ([(e_expr (conN (xs.getD i1 (0 : Int)) gg.tests.toNat))]).length) 40 ∧ (inI64 ((i1 : Int) + (1 : Int)) ∧ (∃ i2 : Nat, (i2 ≤ xs.length ∧ (xs.length - i2 < xs.length - i1 ∧ ((gg = gg ∧ (True ∧ (True ∧ (xs = xs ∧ (((xs.length : Int)) = ((xs.length : Int)) ∧ (((i1 : Int) + (1 : Int)) = (i2 : Int) ∧ True)))))) ∧ ((((xs.take i1).map (fun a => conN a gg.tests.toNat)) ++ ([(e_expr (conN (xs.getD i1 (0 : Int)) gg.tests.toNat))])) = ((xs.take i2).map (fun a => conN a gg.tests.toNat)) ∧ (((0 : Int) = (0 : Int) ∧ ((0 : Int) = (0 : Int) ∧ (True ∧ True))) ∧ True)))))))))))) ∧ ((decide ((i1 : Int) < ((xs.length : Int)))) = false →
 (((xs.take i1).map (fun a => conN a gg.tests.toNat)).length ≤ 1000 ∧ (e_expr (sumE ((xs.take i1).map (fun a => conN a gg.tests.toNat)))) = (ofA gg xs))))))))) := by kernel_rfl
set_option maxRecDepth 4000 in
set_option maxHeartbeats 1000000 in
theorem oko_impl_ofAtoms (hE : AllGood []) (hO : AllO [ko_impl_conditionOf, ko_impl_sumOf]) (hM : AllM []) (hS : AllS []) : Ctr.OGood ko_impl_ofAtoms := by
  refine ⟨fnOk_of at_impl_ofAtoms rfl (by decide), ?_⟩
  show ∀ (gg : GSig) (xs : List Int), ((0 ≤ gg.tests ∧ gg.tests ≤ 3) ∧ allL (inB0 8) xs = true ∧ xs.length ≤ 8) → OkOwn prog n_impl_ofAtoms [.val ⟨(.st .sig), gg⟩, .val ⟨(.slice (.int .i64)), xs⟩] [⟨(.st .expr), ofA gg xs⟩]
  intro gg xs hp
  refine own_of_awp (own := [8, 18, 19, 20, 23]) (wr := []) (cl := []) (ro := [2]) hE hO hM hS at_impl_ofAtoms body_impl_ofAtoms (lo_impl_ofAtoms gg xs) ?_
  rewrite [vco_impl_ofAtoms gg xs]
  have g2 : ∀ i, xs.length ≤ i → xs.take i = xs := fun i h => List.take_of_length_le h
  refine fun a0 => ⟨⟨0, ⟨?_, ⟨⟨rfl, ⟨trivial, ⟨trivial, ⟨rfl, ⟨rfl, ⟨?_, trivial⟩⟩⟩⟩⟩⟩, ⟨?_, ⟨⟨rfl, ⟨rfl, ⟨trivial, trivial⟩⟩⟩, trivial⟩⟩⟩⟩⟩, fun i1 a1 => have b1x0 := ofA_step gg xs i1; have b1x1 := inB0_at 8 xs i1; ⟨fun a2 => ⟨?_, fun a3 => ⟨?_, ⟨?_, ⟨?_, ⟨i1 + 1, ⟨?_, ⟨?_, ⟨⟨rfl, ⟨trivial, ⟨trivial, ⟨rfl, ⟨rfl, ⟨?_, trivial⟩⟩⟩⟩⟩⟩, ⟨?_, ⟨⟨rfl, ⟨rfl, ⟨trivial, trivial⟩⟩⟩, trivial⟩⟩⟩⟩⟩⟩⟩⟩⟩⟩, fun a2 => ⟨?_, ?_⟩⟩⟩
  all_goals try and_intros
  all_goals try simp only [GExpr.eta, GProg.eta, GDerivation.eta, GTriple.eta, GPremise.eta, GClaim.eta, GEquation.eta, GPair.eta, GSpot.eta, e_expr_eq, e_pair_eq, e_equation_eq, e_claim_eq, e_prog_eq, e_spot_eq, e_triple_eq, e_premise_eq, e_derivation_eq] at *
  all_goals first | rfl | trivial | omega | (simp only [decide_eq_true_eq, decide_eq_false_iff_not, idxOk, inI64, roomOk, List.length_append, List.length_cons, List.length_nil, List.length_map, List.length_take] at *; first | omega | (have := b1x1 (by omega) hp.2.1; omega) | (rw [b1x0 (by omega)]; done) | (rw [g2 i1 (by omega)]; rfl))

theorem ogood_impl_ofAtoms : Ctr.OGood ko_impl_ofAtoms := oko_impl_ofAtoms trivial ⟨ogood_impl_conditionOf, ogood_impl_sumOf, trivial⟩ trivial trivial

end
end Go.Proofs.Ytiikoicminohpaa

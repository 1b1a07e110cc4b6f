/- Copies that are wholly the call's own; marks. Printed by vmk.py. -/
import Derived.Test.YtiikoicminohpaaVmUse
import Derived.Test.YtiikoicminohpaaVmLib
import Derived.Test.YtiikoicminohpaaVmSz
import Derived.Test.YtiikoicminohpaaVmTo
import Derived.Test.YtiikoicminohpaaVmEq
set_option linter.unusedVariables false
set_option linter.unusedSimpArgs false
set_option linter.unusedSectionVars false
namespace Go.Proofs.Ytiikoicminohpaa
noncomputable section

/-- The numbers from k on. -/
def mkInts (k : Int) : List Int → List Int
  | [] => []
  | _ :: xs => k :: mkInts (k + 1) xs
theorem mkInts_length : ∀ (k : Int) (xs : List Int), (mkInts k xs).length = xs.length
  | _, [] => rfl
  | k, _ :: xs => by simp [mkInts, mkInts_length (k + 1) xs]
theorem mkInts_getD : ∀ (k : Int) (xs : List Int) (i : Nat) (d : Int), i < xs.length → (mkInts k xs).getD i d = k + i
  | k, [], i, d, h => by simp at h
  | k, _ :: xs, 0, d, h => by simp [mkInts]
  | k, _ :: xs, i + 1, d, h => by
    have := mkInts_getD (k + 1) xs i d (by simpa using h)
    simp [mkInts] at this ⊢; omega
/-- The first elements done, the others as they were. -/
def half {α : Type} (f : List α) (xs : List α) (i : Nat) : List α := f.take i ++ xs.drop i
theorem half_zero {α : Type} (f xs : List α) : xs = half f xs 0 := by simp [half]
theorem half_all {α : Type} (f xs : List α) (i : Nat) (h : f.length = xs.length) (hi : xs.length ≤ i) : half f xs i = f := by
  simp [half, List.take_of_length_le (h ▸ hi), List.drop_eq_nil_of_le hi]
theorem half_length {α : Type} (f xs : List α) (i : Nat) (h : f.length = xs.length) : (half f xs i).length = xs.length := by
  simp [half]; omega
theorem half_getD {α : Type} (f xs : List α) (d : α) (i : Nat) (h : f.length = xs.length) (hi : i < xs.length) : (half f xs i).getD i d = xs.getD i d := by
  simp only [half, List.getD_eq_getElem?_getD]
  rw [List.getElem?_append_right (by simp; omega)]
  simp [h, Nat.min_eq_left (Nat.le_of_lt hi)]
theorem half_set {α : Type} (f xs : List α) (d : α) (i : Nat) (h : f.length = xs.length) (hi : i < xs.length) : (half f xs i).set i (f.getD i d) = half f xs (i + 1) := by
  unfold half
  rw [List.set_append_right _ _ (by simp; omega)]
  have e : i - (List.take i f).length = 0 := by simp; omega
  rw [e, List.drop_eq_getElem_cons (by omega : i < xs.length), List.set_cons_zero, take_snoc d f i (by omega)]
  simp

def mk_laws_markInt64S : MK := ⟨n_laws_markInt64S, ⟨(.slice (.int .i64)), fun (xs : List Int) (k : Int) => (some (0 ≤ k ∧ k + (xs.length : Int) ≤ 4611686018427387904), mkInts k xs, k + (xs.length : Int))⟩⟩
def lm_laws_markInt64S (xs : List Int) (k : Int) : Nat → LoopInv := (fun zb => if Nat.beq zb 0 then .mk (Nat) (fun i => i ≤ xs.length) (fun i => xs.length - i) [] [2, 3] (fun i => [(5, .imm ⟨(.int .i64), ((i : Int) : Int)⟩), (1, .imm ⟨(.int .i64), (k + (i : Int) : Int)⟩), (0, .tree 50)]) [0, 1, 4, 5, 6, 7, 8, 9, 10, 11, 12, 13, 14, 15, 16, 17, 18] (fun i => [(50, .tree (.int .i64) (half (mkInts k xs) xs i : List Int))]) [] [] (fun i => fun _ => .none) else .none)
theorem vcm_laws_markInt64S (xs : List Int) (k : Int) : awp (envO [] [] [] [] []) (bodyOf f_laws_markInt64S) (lm_laws_markInt64S xs k) 0 (markPost f_laws_markInt64S mk_laws_markInt64S.m xs k) (markStart f_laws_markInt64S ⟨(.slice (.int .i64)), xs⟩ k) =
  (((∃ i1 : Nat, (i1 ≤ xs.length ∧ ((True ∧ (k = (k + (i1 : Int)) ∧ ((0 : Int) = (0 : Int) ∧ ((0 : Int) = (i1 : Int) ∧ True)))) ∧ (xs = (half (mkInts k xs) xs i1) ∧ True)))) ∧ (∀ i1 : Nat, (i1 ≤ xs.length →
 (((decide ((i1 : Int) < (((half (mkInts k xs) xs i1).length : Int)))) = true →
 (idxOk (i1 : Int) (half (mkInts k xs) xs i1).length ∧ (inI64 ((k + (i1 : Int)) + (1 : Int)) ∧ (inI64 ((i1 : Int) + (1 : Int)) ∧ (∃ i2 : Nat, (i2 ≤ xs.length ∧ (xs.length - i2 < xs.length - i1 ∧ ((True ∧ (((k + (i1 : Int)) + (1 : Int)) = (k + (i2 : Int)) ∧ ((0 : Int) = (0 : Int) ∧ (((i1 : Int) + (1 : Int)) = (i2 : Int) ∧ True)))) ∧ (((half (mkInts k xs) xs i1).set i1 (k + (i1 : Int))) = (half (mkInts k xs) xs i2) ∧ True))))))))) ∧ ((decide ((i1 : Int) < (((half (mkInts k xs) xs i1).length : Int)))) = false →
 ((k + (i1 : Int)) = (k + (xs.length : Int)) ∧ (half (mkInts k xs) xs i1) = (mkInts k xs)))))))) := by kernel_rfl
set_option maxRecDepth 4000 in
set_option maxHeartbeats 1000000 in
theorem okm_laws_markInt64S (hE : AllGood []) (hO : AllO []) (hM : AllM []) (hS : AllS []) : MK.Good mk_laws_markInt64S := by
  refine ⟨fnOk_of at_laws_markInt64S rfl (by decide), mark_of_awp (own := []) (wr := []) (cl := []) (ro := []) hE hO hM hS at_laws_markInt64S body_laws_markInt64S (fun xs k => lm_laws_markInt64S xs k) (fun x => Nat.le_of_ble_eq_true rfl) (Nat.le_of_ble_eq_true (by kernel_rfl)) ?_⟩
  show ∀ (xs : List Int) (k : Int), (0 ≤ k ∧ k + (xs.length : Int) ≤ 4611686018427387904) → inI64 k → awp (envO [] [] [] [] []) (bodyOf f_laws_markInt64S) (lm_laws_markInt64S xs k) 0 (markPost f_laws_markInt64S mk_laws_markInt64S.m xs k) (markStart f_laws_markInt64S ⟨(.slice (.int .i64)), xs⟩ k)
  intro xs k hp hk
  rewrite [vcm_laws_markInt64S xs k]
  have f0 := half_zero (mkInts k xs) xs
  refine ⟨⟨0, ⟨?_, ⟨⟨trivial, ⟨?_, ⟨rfl, ⟨?_, trivial⟩⟩⟩⟩, ⟨?_, trivial⟩⟩⟩⟩, fun i1 a0 => have b0x0 := half_all (mkInts k xs) xs i1 (mkInts_length k xs); have b0x1 := half_length (mkInts k xs) xs i1 (mkInts_length k xs); have b0x2 := half_set (mkInts k xs) xs 0 i1 (mkInts_length k xs); have b0x3 := mkInts_getD k xs i1 0; ⟨fun a1 => ⟨?_, ⟨?_, ⟨?_, ⟨i1 + 1, ⟨?_, ⟨?_, ⟨⟨trivial, ⟨?_, ⟨rfl, ⟨?_, trivial⟩⟩⟩⟩, ⟨?_, trivial⟩⟩⟩⟩⟩⟩⟩⟩, fun a1 => ⟨?_, ?_⟩⟩⟩
  all_goals try and_intros
  all_goals first | rfl | trivial | (simp only [decide_eq_true_eq, decide_eq_false_iff_not, idxOk, inI64, inKind] at *; omega) | (simp only [decide_eq_true_eq, decide_eq_false_iff_not, idxOk, inI64] at *; first | omega | (rw [← half_zero]; done) | grind) | grind

theorem mgood_laws_markInt64S : MK.Good mk_laws_markInt64S := okm_laws_markInt64S trivial trivial trivial trivial

def ko_laws_toInt64S : Ctr := ⟨n_laws_toInt64S, [.v (.slice (.int .i64))], fun (xs : List Int) => ⟨(some (xs.length ≤ 1048576), [⟨(.slice (.int .i64)), xs⟩])⟩⟩
def lo_laws_toInt64S (xs : List Int) : Nat → LoopInv := (fun zb => if Nat.beq zb 0 then .mk (Nat) (fun k => k ≤ xs.length) (fun k => xs.length - k) [] [1, 5, 6, 7] (fun k => [(4, .imm ⟨(.int .i64), ((k : Int) : Int)⟩), (3, .row 7)]) [0, 2, 3, 4, 8, 9, 10, 11, 12, 13, 14, 15, 16, 17, 18, 19, 20, 21] (fun k => [(7, .row T_int64 (.int .i64) (fill xs k 0 : List Int))]) [] [] (fun k => fun _ => .none) else .none)
theorem vco_laws_toInt64S (xs : List Int) : awp (envO [] [] [] [] []) (bodyOf f_laws_toInt64S) (lo_laws_toInt64S xs) 0 (ownPost (envO [] [] [] [] []) f_laws_toInt64S fun r => areEq r [⟨(.slice (.int .i64)), xs⟩]) (startO f_laws_toInt64S [.val ⟨(.slice (.int .i64)), xs⟩]) =
  ((inI64 ((xs.length : Int)) →
 (makeOk ((xs.length : Int)) ((xs.length : Int)) 8 ∧ ((∃ k1 : Nat, (k1 ≤ xs.length ∧ ((xs = xs ∧ (True ∧ (True ∧ ((0 : Int) = (k1 : Int) ∧ True)))) ∧ ((List.replicate (Int.toNat ((xs.length : Int))) (0 : Int)) = (fill xs k1 0) ∧ True)))) ∧ (∀ k1 : Nat, (k1 ≤ xs.length →
 (inI64 ((xs.length : Int)) →
 (((decide ((k1 : Int) < ((xs.length : Int)))) = true →
 (idxOk (k1 : Int) xs.length ∧ (inI64 (xs.getD k1 (0 : Int)) →
 (idxOk (k1 : Int) (fill xs k1 0).length ∧ (inI64 ((k1 : Int) + (1 : Int)) ∧ (∃ k2 : Nat, (k2 ≤ xs.length ∧ (xs.length - k2 < xs.length - k1 ∧ ((xs = xs ∧ (True ∧ (True ∧ (((k1 : Int) + (1 : Int)) = (k2 : Int) ∧ True)))) ∧ (((fill xs k1 0).set k1 (xs.getD k1 (0 : Int))) = (fill xs k2 0) ∧ True)))))))))) ∧ ((decide ((k1 : Int) < ((xs.length : Int)))) = false →
 (fill xs k1 0) = xs))))))))) := by kernel_rfl
set_option maxRecDepth 4000 in
set_option maxHeartbeats 1000000 in
theorem oko_laws_toInt64S (hE : AllGood []) (hO : AllO []) (hM : AllM []) (hS : AllS []) : Ctr.OGood ko_laws_toInt64S := by
  refine ⟨fnOk_of at_laws_toInt64S rfl (by decide), ?_⟩
  show ∀ (xs : List Int), (xs.length ≤ 1048576) → OkOwn prog n_laws_toInt64S [.val ⟨(.slice (.int .i64)), xs⟩] [⟨(.slice (.int .i64)), xs⟩]
  intro xs hp
  refine own_of_awp (own := []) (wr := []) (cl := []) (ro := []) hE hO hM hS at_laws_toInt64S body_laws_toInt64S (lo_laws_toInt64S xs) ?_
  rewrite [vco_laws_toInt64S xs]
  refine fun a0 => ⟨?_, ⟨⟨0, ⟨?_, ⟨⟨rfl, ⟨trivial, ⟨trivial, ⟨?_, trivial⟩⟩⟩⟩, ⟨?_, trivial⟩⟩⟩⟩, fun k1 a1 => have b1x0 := fill_all xs 0 k1; have b1x1 := length_fill xs 0 k1; have b1x2 := fill_set xs 0 0 k1; fun a2 => ⟨fun a3 => ⟨?_, fun a4 => ⟨?_, ⟨?_, ⟨k1 + 1, ⟨?_, ⟨?_, ⟨⟨rfl, ⟨trivial, ⟨trivial, ⟨?_, trivial⟩⟩⟩⟩, ⟨?_, trivial⟩⟩⟩⟩⟩⟩⟩⟩, fun a3 => ?_⟩⟩⟩
  all_goals try and_intros
  all_goals first | rfl | trivial | omega | (simp only [decide_eq_true_eq, decide_eq_false_iff_not, idxOk, inI64, inKind, cutOk, makeOk, roomOk] at *; omega) | (simp [idxOk, inI64] at *; omega) | grind | exact fill_zero xs _ | (simp only [decide_eq_true_eq, decide_eq_false_iff_not] at *; first | exact fill_set _ _ _ _ (by omega) | exact fill_all _ _ _ (by omega) | (simp only [makeOk]; omega))

theorem ogood_laws_toInt64S : Ctr.OGood ko_laws_toInt64S := oko_laws_toInt64S trivial trivial trivial trivial

def kon_laws_toExpr (n : Nat) : Ctr := ⟨n_laws_toExpr, [.v (.st .expr)], fun (x : GExpr) => ⟨(some (msz x < n ∧ sz_expr x ≤ 1048576), [⟨(.st .expr), x⟩])⟩⟩
def ko_laws_toExpr : Ctr := ⟨n_laws_toExpr, [.v (.st .expr)], fun (x : GExpr) => ⟨(some (sz_expr x ≤ 1048576), [⟨(.st .expr), x⟩])⟩⟩
def kon_laws_toExprS (n : Nat) : Ctr := ⟨n_laws_toExprS, [.v (.slice (.st .expr))], fun (xs : List GExpr) => ⟨(some (msz xs < n ∧ xs.length + szL sz_expr xs ≤ 1048576), [⟨(.slice (.st .expr)), xs⟩])⟩⟩
def ko_laws_toExprS : Ctr := ⟨n_laws_toExprS, [.v (.slice (.st .expr))], fun (xs : List GExpr) => ⟨(some (xs.length + szL sz_expr xs ≤ 1048576), [⟨(.slice (.st .expr)), xs⟩])⟩⟩
def lo_laws_toExpr (x : GExpr) : Nat → LoopInv := fun _ => .none
theorem vco_laws_toExpr (n : Nat) (x : GExpr) : awp (envO [] [kon_laws_toExprS n] [] [12] [] [] [1]) (bodyOf f_laws_toExpr) (lo_laws_toExpr x) 0 (ownPost (envO [] [kon_laws_toExprS n] [] [12] [] [] [1]) f_laws_toExpr fun r => areEq r [⟨(.st .expr), x⟩]) (startO f_laws_toExpr [.val ⟨(.st .expr), x⟩]) =
  ((inI64 x.kind →
 (inI64 x.num →
 (x.kids.length ≤ 140737488355328 →
 ((msz x.kids < n ∧ x.kids.length + szL sz_expr x.kids ≤ 1048576) ∧ (e_expr x) = x))))) := by kernel_rfl
set_option maxRecDepth 4000 in
set_option maxHeartbeats 1000000 in
theorem oko_laws_toExpr (n : Nat) (hE : AllGood []) (hO : AllO [kon_laws_toExprS n]) (hM : AllM []) (hS : AllS []) : Ctr.OGood (kon_laws_toExpr (n + 1)) := by
  refine ⟨fnOk_of at_laws_toExpr rfl (by decide), ?_⟩
  show ∀ (x : GExpr), (msz x < n + 1 ∧ sz_expr x ≤ 1048576) → OkOwn prog n_laws_toExpr [.val ⟨(.st .expr), x⟩] [⟨(.st .expr), x⟩]
  intro x hp
  refine own_of_awp (own := [12]) (wr := []) (cl := []) (ro := [1]) hE hO hM hS at_laws_toExpr body_laws_toExpr (lo_laws_toExpr x) ?_
  rewrite [vco_laws_toExpr n x]
  rw [sz_expr_eq] at hp
  have f0k := msz_kids x
  refine fun a0 => fun a1 => fun a2 => ⟨?_, ?_⟩
  all_goals try and_intros
  all_goals try simp only [GExpr.eta, GProg.eta, GDerivation.eta, GTriple.eta, GPremise.eta, GClaim.eta, GEquation.eta, GPair.eta, GSpot.eta, e_expr_eq, e_pair_eq, e_equation_eq, e_claim_eq, e_prog_eq, e_spot_eq, e_triple_eq, e_premise_eq, e_derivation_eq] at *
  all_goals first | rfl | trivial | omega | (simp only [decide_eq_true_eq, decide_eq_false_iff_not, idxOk, inI64, inKind, cutOk, makeOk, roomOk] at *; omega) | (simp [idxOk, inI64] at *; omega) | grind

def lo_laws_toExprS (xs : List GExpr) : Nat → LoopInv := (fun zb => if Nat.beq zb 0 then .mk (Nat) (fun k => k ≤ xs.length) (fun k => xs.length - k) [] [1, 5, 6, 7] (fun k => [(4, .imm ⟨(.int .i64), ((k : Int) : Int)⟩), (3, .tree 7)]) [0, 2, 3, 4, 8, 9, 10, 11, 12, 13, 14, 15, 16, 17, 18, 19, 20, 21, 22] (fun k => [(7, .tree (.st .expr) (fill xs k (GExpr.mk (0 : Int) (0 : Int) []) : List GExpr))]) [] [] (fun k => fun _ => .none) else .none)
theorem vco_laws_toExprS (n : Nat) (xs : List GExpr) : awp (envO [] [kon_laws_toExpr n] [] [7, 20] []) (bodyOf f_laws_toExprS) (lo_laws_toExprS xs) 0 (ownPost (envO [] [kon_laws_toExpr n] [] [7, 20] []) f_laws_toExprS fun r => areEq r [⟨(.slice (.st .expr)), xs⟩]) (startO f_laws_toExprS [.val ⟨(.slice (.st .expr)), xs⟩]) =
  ((inI64 ((xs.length : Int)) →
 (makeOk ((xs.length : Int)) ((xs.length : Int)) 40 ∧ ((∃ k1 : Nat, (k1 ≤ xs.length ∧ ((xs = xs ∧ (True ∧ (True ∧ ((0 : Int) = (k1 : Int) ∧ True)))) ∧ ((List.replicate (Int.toNat ((xs.length : Int))) (GExpr.mk (0 : Int) (0 : Int) [])) = (fill xs k1 (GExpr.mk (0 : Int) (0 : Int) [])) ∧ True)))) ∧ (∀ k1 : Nat, (k1 ≤ xs.length →
 (inI64 ((xs.length : Int)) →
 (((decide ((k1 : Int) < ((xs.length : Int)))) = true →
 (idxOk (k1 : Int) xs.length ∧ ((msz (xs.getD k1 (GExpr.mk (0 : Int) (0 : Int) [])) < n ∧ sz_expr (xs.getD k1 (GExpr.mk (0 : Int) (0 : Int) [])) ≤ 1048576) ∧ (idxOk (k1 : Int) (fill xs k1 (GExpr.mk (0 : Int) (0 : Int) [])).length ∧ (inI64 ((k1 : Int) + (1 : Int)) ∧ (∃ k2 : Nat, (k2 ≤ xs.length ∧ (xs.length - k2 < xs.length - k1 ∧ ((xs = xs ∧ (True ∧ (True ∧ (((k1 : Int) + (1 : Int)) = (k2 : Int) ∧ True)))) ∧ (((fill xs k1 (GExpr.mk (0 : Int) (0 : Int) [])).set k1 (e_expr (xs.getD k1 (GExpr.mk (0 : Int) (0 : Int) [])))) = (fill xs k2 (GExpr.mk (0 : Int) (0 : Int) [])) ∧ True)))))))))) ∧ ((decide ((k1 : Int) < ((xs.length : Int)))) = false →
 (fill xs k1 (GExpr.mk (0 : Int) (0 : Int) [])) = xs))))))))) := by kernel_rfl
set_option maxRecDepth 4000 in
set_option maxHeartbeats 1000000 in
theorem oko_laws_toExprS (n : Nat) (hE : AllGood []) (hO : AllO [kon_laws_toExpr n]) (hM : AllM []) (hS : AllS []) : Ctr.OGood (kon_laws_toExprS (n + 1)) := by
  refine ⟨fnOk_of at_laws_toExprS rfl (by decide), ?_⟩
  show ∀ (xs : List GExpr), (msz xs < n + 1 ∧ xs.length + szL sz_expr xs ≤ 1048576) → OkOwn prog n_laws_toExprS [.val ⟨(.slice (.st .expr)), xs⟩] [⟨(.slice (.st .expr)), xs⟩]
  intro xs hp
  refine own_of_awp (own := [7, 20]) (wr := []) (cl := []) (ro := []) hE hO hM hS at_laws_toExprS body_laws_toExprS (lo_laws_toExprS xs) ?_
  rewrite [vco_laws_toExprS n xs]
  refine fun a0 => ⟨?_, ⟨⟨0, ⟨?_, ⟨⟨rfl, ⟨trivial, ⟨trivial, ⟨?_, trivial⟩⟩⟩⟩, ⟨?_, trivial⟩⟩⟩⟩, fun k1 a1 => have b1x0 := fill_all xs (GExpr.mk (0 : Int) (0 : Int) []) k1; have b1x1 := length_fill xs (GExpr.mk (0 : Int) (0 : Int) []) k1; have b1x2 := fill_set xs (GExpr.mk (0 : Int) (0 : Int) []) (GExpr.mk (0 : Int) (0 : Int) []) k1; have b1x3 := szL_getD sz_expr (GExpr.mk (0 : Int) (0 : Int) []) xs k1; have b1x4 := msz_getD (GExpr.mk (0 : Int) (0 : Int) []) xs k1; fun a2 => ⟨fun a3 => ⟨?_, ⟨?_, ⟨?_, ⟨?_, ⟨k1 + 1, ⟨?_, ⟨?_, ⟨⟨rfl, ⟨trivial, ⟨trivial, ⟨?_, trivial⟩⟩⟩⟩, ⟨?_, trivial⟩⟩⟩⟩⟩⟩⟩⟩⟩, fun a3 => ?_⟩⟩⟩
  all_goals try and_intros
  all_goals try simp only [GExpr.eta, GProg.eta, GDerivation.eta, GTriple.eta, GPremise.eta, GClaim.eta, GEquation.eta, GPair.eta, GSpot.eta, e_expr_eq, e_pair_eq, e_equation_eq, e_claim_eq, e_prog_eq, e_spot_eq, e_triple_eq, e_premise_eq, e_derivation_eq] at *
  all_goals first | rfl | trivial | omega | (simp only [decide_eq_true_eq, decide_eq_false_iff_not, idxOk, inI64, inKind, cutOk, makeOk, roomOk] at *; omega) | (simp [idxOk, inI64] at *; omega) | grind | exact fill_zero xs _ | (simp only [decide_eq_true_eq, decide_eq_false_iff_not] at *; first | exact fill_set _ _ _ _ (by omega) | exact fill_all _ _ _ (by omega) | (simp only [makeOk]; omega))

theorem allo_toO_expr : ∀ n, AllO [kon_laws_toExpr n, kon_laws_toExprS n]
  | 0 => ⟨⟨fnOk_of at_laws_toExpr rfl (by decide), fun _ h => absurd h.1 (Nat.not_lt_zero _)⟩, ⟨fnOk_of at_laws_toExprS rfl (by decide), fun _ h => absurd h.1 (Nat.not_lt_zero _)⟩, trivial⟩
  | n + 1 => by
    have ih := allo_toO_expr n
    exact ⟨oko_laws_toExpr n trivial ⟨ih.2.1, trivial⟩ trivial trivial, oko_laws_toExprS n trivial ⟨ih.1, trivial⟩ trivial trivial, trivial⟩
theorem ogood_laws_toExpr : Ctr.OGood ko_laws_toExpr :=
  ⟨fnOk_of at_laws_toExpr rfl (by decide), fun x hp => (allo_toO_expr (msz x + 1)).1.2 x (⟨Nat.lt_succ_self _, hp⟩)⟩

theorem ogood_laws_toExprS : Ctr.OGood ko_laws_toExprS :=
  ⟨fnOk_of at_laws_toExprS rfl (by decide), fun xs hp => (allo_toO_expr (msz xs + 1)).2.1.2 xs (⟨Nat.lt_succ_self _, hp⟩)⟩

mutual
/-- How many marks an expression gets in a list; what it looks like then. -/
def cntX : GExpr → Nat
  | ⟨_, _, ks⟩ => 2 + cntXs ks
def cntXs : List GExpr → Nat
  | [] => 0
  | x :: xs => cntX x + cntXs xs
end
theorem cntXs_eq : ∀ xs, cntXs xs = szL cntX xs
  | [] => rfl
  | x :: xs => by rw [cntXs, szL, cntXs_eq xs]
theorem cntX_eq (x : GExpr) : cntX x = 2 + szL cntX x.kids := by
  cases x; simp [cntX, cntXs_eq]
mutual
def mkX (k : Int) : GExpr → GExpr
  | ⟨_, _, ks⟩ => ⟨k, k + 1, mkXs (k + 2) ks⟩
def mkXs (k : Int) : List GExpr → List GExpr
  | [] => []
  | x :: xs => mkX k x :: mkXs (k + (cntX x : Int)) xs
end
theorem mkX_eq (k : Int) (x : GExpr) : mkX k x = ⟨k, k + 1, mkXs (k + 2) x.kids⟩ := by cases x; rfl
theorem mkXs_length : ∀ (k : Int) (xs : List GExpr), (mkXs k xs).length = xs.length
  | _, [] => rfl
  | k, x :: xs => by simp [mkXs, mkXs_length _ xs]
theorem mkXs_getD (z : GExpr) : ∀ (k : Int) (xs : List GExpr) (i : Nat), i < xs.length → (mkXs k xs).getD i z = mkX (k + (szL cntX (xs.take i) : Int)) (xs.getD i z)
  | k, [], i, h => by simp at h
  | k, x :: xs, 0, h => by simp [mkXs, szL]
  | k, x :: xs, i + 1, h => by
    have := mkXs_getD z (k + (cntX x : Int)) xs i (by simpa using h)
    simp only [mkXs, List.getD_cons_succ, this, List.take_succ_cons, szL]
    congr 1
    omega
theorem cnt_len : ∀ xs : List GExpr, xs.length ≤ szL cntX xs
  | [] => by simp [szL]
  | x :: xs => by
    have := cnt_len xs
    have := cntX_eq x
    simp only [szL, List.length_cons]; omega
theorem set_getD {α : Type} (l : List α) (i : Nat) (y z : α) (h : i < l.length) : (l.set i y).getD i z = y := by
  simp [List.getD, h]
/-- The three stores of one element. -/
theorem mk_step (k : Int) (xs : List GExpr) (i : Nat) (z : GExpr) (h : i < xs.length) (y1 y2 y3 : GExpr) (h3 : y3 = mkX (k + (szL cntX (xs.take i) : Int)) (xs.getD i z)) :
    (((half (mkXs k xs) xs i).set i y1).set i y2).set i y3 = half (mkXs k xs) xs (i + 1) := by
  rw [List.set_set, List.set_set, h3, ← mkXs_getD z k xs i h, half_set _ _ z i (mkXs_length k xs) h]

def mkn_laws_markExprS (n : Nat) : MK := ⟨n_laws_markExprS, ⟨(.slice (.st .expr)), fun (xs : List GExpr) (k : Int) => (some (msz xs < n ∧ 0 ≤ k ∧ k + (szL cntX xs : Int) ≤ 4611686018427387904), mkXs k xs, k + (szL cntX xs : Int))⟩⟩
def mk_laws_markExprS : MK := ⟨n_laws_markExprS, ⟨(.slice (.st .expr)), fun (xs : List GExpr) (k : Int) => (some (0 ≤ k ∧ k + (szL cntX xs : Int) ≤ 4611686018427387904), mkXs k xs, k + (szL cntX xs : Int))⟩⟩
def lm_laws_markExprS (xs : List GExpr) (k : Int) : Nat → LoopInv := (fun zb => if Nat.beq zb 0 then .mk (Nat) (fun i => i ≤ xs.length) (fun i => xs.length - i) [] [2, 3] (fun i => [(5, .imm ⟨(.int .i64), ((i : Int) : Int)⟩), (1, .imm ⟨(.int .i64), (k + (szL cntX (xs.take i) : Int) : Int)⟩), (0, .tree 50)]) [0, 1, 4, 5, 6, 7, 8, 9, 10, 11, 12, 13, 14, 15, 16, 17, 18, 19, 20, 21, 22, 23, 24, 25, 26, 27, 28, 29, 30, 31, 32, 33] (fun i => [(50, .tree (.st .expr) (half (mkXs k xs) xs i : List GExpr))]) [] [] (fun i => fun _ => .none) else .none)
theorem vcm_laws_markExprS (n : Nat) (xs : List GExpr) (k : Int) : awp (envO [] [] [mkn_laws_markExprS n] [32] []) (bodyOf f_laws_markExprS) (lm_laws_markExprS xs k) 0 (markPost f_laws_markExprS (mkn_laws_markExprS (n + 1)).m xs k) (markStart f_laws_markExprS ⟨(.slice (.st .expr)), xs⟩ k) =
  (((∃ i1 : Nat, (i1 ≤ xs.length ∧ ((True ∧ (k = (k + (szL cntX (xs.take i1) : Int)) ∧ ((0 : Int) = (0 : Int) ∧ ((0 : Int) = (i1 : Int) ∧ True)))) ∧ (xs = (half (mkXs k xs) xs i1) ∧ True)))) ∧ (∀ i1 : Nat, (i1 ≤ xs.length →
 (((decide ((i1 : Int) < (((half (mkXs k xs) xs i1).length : Int)))) = true →
 (idxOk (i1 : Int) (half (mkXs k xs) xs i1).length ∧ (inI64 ((k + (szL cntX (xs.take i1) : Int)) + (1 : Int)) ∧ (idxOk (i1 : Int) ((half (mkXs k xs) xs i1).set i1 (GExpr.mk (k + (szL cntX (xs.take i1) : Int)) ((half (mkXs k xs) xs i1).getD i1 (GExpr.mk (0 : Int) (0 : Int) [])).num ((half (mkXs k xs) xs i1).getD i1 (GExpr.mk (0 : Int) (0 : Int) [])).kids)).length ∧ (inI64 (((k + (szL cntX (xs.take i1) : Int)) + (1 : Int)) + (1 : Int)) ∧ (idxOk (i1 : Int) (((half (mkXs k xs) xs i1).set i1 (GExpr.mk (k + (szL cntX (xs.take i1) : Int)) ((half (mkXs k xs) xs i1).getD i1 (GExpr.mk (0 : Int) (0 : Int) [])).num ((half (mkXs k xs) xs i1).getD i1 (GExpr.mk (0 : Int) (0 : Int) [])).kids)).set i1 (GExpr.mk (((half (mkXs k xs) xs i1).set i1 (GExpr.mk (k + (szL cntX (xs.take i1) : Int)) ((half (mkXs k xs) xs i1).getD i1 (GExpr.mk (0 : Int) (0 : Int) [])).num ((half (mkXs k xs) xs i1).getD i1 (GExpr.mk (0 : Int) (0 : Int) [])).kids)).getD i1 (GExpr.mk (0 : Int) (0 : Int) [])).kind ((k + (szL cntX (xs.take i1) : Int)) + (1 : Int)) (((half (mkXs k xs) xs i1).set i1 (GExpr.mk (k + (szL cntX (xs.take i1) : Int)) ((half (mkXs k xs) xs i1).getD i1 (GExpr.mk (0 : Int) (0 : Int) [])).num ((half (mkXs k xs) xs i1).getD i1 (GExpr.mk (0 : Int) (0 : Int) [])).kids)).getD i1 (GExpr.mk (0 : Int) (0 : Int) [])).kids)).length ∧ ((msz ((((half (mkXs k xs) xs i1).set i1 (GExpr.mk (k + (szL cntX (xs.take i1) : Int)) ((half (mkXs k xs) xs i1).getD i1 (GExpr.mk (0 : Int) (0 : Int) [])).num ((half (mkXs k xs) xs i1).getD i1 (GExpr.mk (0 : Int) (0 : Int) [])).kids)).set i1 (GExpr.mk (((half (mkXs k xs) xs i1).set i1 (GExpr.mk (k + (szL cntX (xs.take i1) : Int)) ((half (mkXs k xs) xs i1).getD i1 (GExpr.mk (0 : Int) (0 : Int) [])).num ((half (mkXs k xs) xs i1).getD i1 (GExpr.mk (0 : Int) (0 : Int) [])).kids)).getD i1 (GExpr.mk (0 : Int) (0 : Int) [])).kind ((k + (szL cntX (xs.take i1) : Int)) + (1 : Int)) (((half (mkXs k xs) xs i1).set i1 (GExpr.mk (k + (szL cntX (xs.take i1) : Int)) ((half (mkXs k xs) xs i1).getD i1 (GExpr.mk (0 : Int) (0 : Int) [])).num ((half (mkXs k xs) xs i1).getD i1 (GExpr.mk (0 : Int) (0 : Int) [])).kids)).getD i1 (GExpr.mk (0 : Int) (0 : Int) [])).kids)).getD i1 (GExpr.mk (0 : Int) (0 : Int) [])).kids < n ∧ 0 ≤ (((k + (szL cntX (xs.take i1) : Int)) + (1 : Int)) + (1 : Int)) ∧ (((k + (szL cntX (xs.take i1) : Int)) + (1 : Int)) + (1 : Int)) + (szL cntX ((((half (mkXs k xs) xs i1).set i1 (GExpr.mk (k + (szL cntX (xs.take i1) : Int)) ((half (mkXs k xs) xs i1).getD i1 (GExpr.mk (0 : Int) (0 : Int) [])).num ((half (mkXs k xs) xs i1).getD i1 (GExpr.mk (0 : Int) (0 : Int) [])).kids)).set i1 (GExpr.mk (((half (mkXs k xs) xs i1).set i1 (GExpr.mk (k + (szL cntX (xs.take i1) : Int)) ((half (mkXs k xs) xs i1).getD i1 (GExpr.mk (0 : Int) (0 : Int) [])).num ((half (mkXs k xs) xs i1).getD i1 (GExpr.mk (0 : Int) (0 : Int) [])).kids)).getD i1 (GExpr.mk (0 : Int) (0 : Int) [])).kind ((k + (szL cntX (xs.take i1) : Int)) + (1 : Int)) (((half (mkXs k xs) xs i1).set i1 (GExpr.mk (k + (szL cntX (xs.take i1) : Int)) ((half (mkXs k xs) xs i1).getD i1 (GExpr.mk (0 : Int) (0 : Int) [])).num ((half (mkXs k xs) xs i1).getD i1 (GExpr.mk (0 : Int) (0 : Int) [])).kids)).getD i1 (GExpr.mk (0 : Int) (0 : Int) [])).kids)).getD i1 (GExpr.mk (0 : Int) (0 : Int) [])).kids : Int) ≤ 4611686018427387904) ∧ (inI64 ((i1 : Int) + (1 : Int)) ∧ (∃ i2 : Nat, (i2 ≤ xs.length ∧ (xs.length - i2 < xs.length - i1 ∧ ((True ∧ (((((k + (szL cntX (xs.take i1) : Int)) + (1 : Int)) + (1 : Int)) + (szL cntX ((((half (mkXs k xs) xs i1).set i1 (GExpr.mk (k + (szL cntX (xs.take i1) : Int)) ((half (mkXs k xs) xs i1).getD i1 (GExpr.mk (0 : Int) (0 : Int) [])).num ((half (mkXs k xs) xs i1).getD i1 (GExpr.mk (0 : Int) (0 : Int) [])).kids)).set i1 (GExpr.mk (((half (mkXs k xs) xs i1).set i1 (GExpr.mk (k + (szL cntX (xs.take i1) : Int)) ((half (mkXs k xs) xs i1).getD i1 (GExpr.mk (0 : Int) (0 : Int) [])).num ((half (mkXs k xs) xs i1).getD i1 (GExpr.mk (0 : Int) (0 : Int) [])).kids)).getD i1 (GExpr.mk (0 : Int) (0 : Int) [])).kind ((k + (szL cntX (xs.take i1) : Int)) + (1 : Int)) (((half (mkXs k xs) xs i1).set i1 (GExpr.mk (k + (szL cntX (xs.take i1) : Int)) ((half (mkXs k xs) xs i1).getD i1 (GExpr.mk (0 : Int) (0 : Int) [])).num ((half (mkXs k xs) xs i1).getD i1 (GExpr.mk (0 : Int) (0 : Int) [])).kids)).getD i1 (GExpr.mk (0 : Int) (0 : Int) [])).kids)).getD i1 (GExpr.mk (0 : Int) (0 : Int) [])).kids : Int)) = (k + (szL cntX (xs.take i2) : Int)) ∧ ((0 : Int) = (0 : Int) ∧ (((i1 : Int) + (1 : Int)) = (i2 : Int) ∧ True)))) ∧ (((((half (mkXs k xs) xs i1).set i1 (GExpr.mk (k + (szL cntX (xs.take i1) : Int)) ((half (mkXs k xs) xs i1).getD i1 (GExpr.mk (0 : Int) (0 : Int) [])).num ((half (mkXs k xs) xs i1).getD i1 (GExpr.mk (0 : Int) (0 : Int) [])).kids)).set i1 (GExpr.mk (((half (mkXs k xs) xs i1).set i1 (GExpr.mk (k + (szL cntX (xs.take i1) : Int)) ((half (mkXs k xs) xs i1).getD i1 (GExpr.mk (0 : Int) (0 : Int) [])).num ((half (mkXs k xs) xs i1).getD i1 (GExpr.mk (0 : Int) (0 : Int) [])).kids)).getD i1 (GExpr.mk (0 : Int) (0 : Int) [])).kind ((k + (szL cntX (xs.take i1) : Int)) + (1 : Int)) (((half (mkXs k xs) xs i1).set i1 (GExpr.mk (k + (szL cntX (xs.take i1) : Int)) ((half (mkXs k xs) xs i1).getD i1 (GExpr.mk (0 : Int) (0 : Int) [])).num ((half (mkXs k xs) xs i1).getD i1 (GExpr.mk (0 : Int) (0 : Int) [])).kids)).getD i1 (GExpr.mk (0 : Int) (0 : Int) [])).kids)).set i1 (GExpr.mk ((((half (mkXs k xs) xs i1).set i1 (GExpr.mk (k + (szL cntX (xs.take i1) : Int)) ((half (mkXs k xs) xs i1).getD i1 (GExpr.mk (0 : Int) (0 : Int) [])).num ((half (mkXs k xs) xs i1).getD i1 (GExpr.mk (0 : Int) (0 : Int) [])).kids)).set i1 (GExpr.mk (((half (mkXs k xs) xs i1).set i1 (GExpr.mk (k + (szL cntX (xs.take i1) : Int)) ((half (mkXs k xs) xs i1).getD i1 (GExpr.mk (0 : Int) (0 : Int) [])).num ((half (mkXs k xs) xs i1).getD i1 (GExpr.mk (0 : Int) (0 : Int) [])).kids)).getD i1 (GExpr.mk (0 : Int) (0 : Int) [])).kind ((k + (szL cntX (xs.take i1) : Int)) + (1 : Int)) (((half (mkXs k xs) xs i1).set i1 (GExpr.mk (k + (szL cntX (xs.take i1) : Int)) ((half (mkXs k xs) xs i1).getD i1 (GExpr.mk (0 : Int) (0 : Int) [])).num ((half (mkXs k xs) xs i1).getD i1 (GExpr.mk (0 : Int) (0 : Int) [])).kids)).getD i1 (GExpr.mk (0 : Int) (0 : Int) [])).kids)).getD i1 (GExpr.mk (0 : Int) (0 : Int) [])).kind ((((half (mkXs k xs) xs i1).set i1 (GExpr.mk (k + (szL cntX (xs.take i1) : Int)) ((half (mkXs k xs) xs i1).getD i1 (GExpr.mk (0 : Int) (0 : Int) [])).num ((half (mkXs k xs) xs i1).getD i1 (GExpr.mk (0 : Int) (0 : Int) [])).kids)).set i1 (GExpr.mk (((half (mkXs k xs) xs i1).set i1 (GExpr.mk (k + (szL cntX (xs.take i1) : Int)) ((half (mkXs k xs) xs i1).getD i1 (GExpr.mk (0 : Int) (0 : Int) [])).num ((half (mkXs k xs) xs i1).getD i1 (GExpr.mk (0 : Int) (0 : Int) [])).kids)).getD i1 (GExpr.mk (0 : Int) (0 : Int) [])).kind ((k + (szL cntX (xs.take i1) : Int)) + (1 : Int)) (((half (mkXs k xs) xs i1).set i1 (GExpr.mk (k + (szL cntX (xs.take i1) : Int)) ((half (mkXs k xs) xs i1).getD i1 (GExpr.mk (0 : Int) (0 : Int) [])).num ((half (mkXs k xs) xs i1).getD i1 (GExpr.mk (0 : Int) (0 : Int) [])).kids)).getD i1 (GExpr.mk (0 : Int) (0 : Int) [])).kids)).getD i1 (GExpr.mk (0 : Int) (0 : Int) [])).num (mkXs (((k + (szL cntX (xs.take i1) : Int)) + (1 : Int)) + (1 : Int)) ((((half (mkXs k xs) xs i1).set i1 (GExpr.mk (k + (szL cntX (xs.take i1) : Int)) ((half (mkXs k xs) xs i1).getD i1 (GExpr.mk (0 : Int) (0 : Int) [])).num ((half (mkXs k xs) xs i1).getD i1 (GExpr.mk (0 : Int) (0 : Int) [])).kids)).set i1 (GExpr.mk (((half (mkXs k xs) xs i1).set i1 (GExpr.mk (k + (szL cntX (xs.take i1) : Int)) ((half (mkXs k xs) xs i1).getD i1 (GExpr.mk (0 : Int) (0 : Int) [])).num ((half (mkXs k xs) xs i1).getD i1 (GExpr.mk (0 : Int) (0 : Int) [])).kids)).getD i1 (GExpr.mk (0 : Int) (0 : Int) [])).kind ((k + (szL cntX (xs.take i1) : Int)) + (1 : Int)) (((half (mkXs k xs) xs i1).set i1 (GExpr.mk (k + (szL cntX (xs.take i1) : Int)) ((half (mkXs k xs) xs i1).getD i1 (GExpr.mk (0 : Int) (0 : Int) [])).num ((half (mkXs k xs) xs i1).getD i1 (GExpr.mk (0 : Int) (0 : Int) [])).kids)).getD i1 (GExpr.mk (0 : Int) (0 : Int) [])).kids)).getD i1 (GExpr.mk (0 : Int) (0 : Int) [])).kids))) = (half (mkXs k xs) xs i2) ∧ True))))))))))))) ∧ ((decide ((i1 : Int) < (((half (mkXs k xs) xs i1).length : Int)))) = false →
 ((k + (szL cntX (xs.take i1) : Int)) = (k + (szL cntX xs : Int)) ∧ (half (mkXs k xs) xs i1) = (mkXs k xs)))))))) := by kernel_rfl
set_option maxRecDepth 4000 in
set_option maxHeartbeats 1000000 in
theorem okm_laws_markExprS (n : Nat) (hE : AllGood []) (hO : AllO []) (hM : AllM [mkn_laws_markExprS n]) (hS : AllS []) : MK.Good (mkn_laws_markExprS (n + 1)) := by
  refine ⟨fnOk_of at_laws_markExprS rfl (by decide), mark_of_awp (own := [32]) (wr := []) (cl := []) (ro := []) hE hO hM hS at_laws_markExprS body_laws_markExprS (fun xs k => lm_laws_markExprS xs k) (fun x => Nat.le_of_ble_eq_true rfl) (Nat.le_of_ble_eq_true (by kernel_rfl)) ?_⟩
  show ∀ (xs : List GExpr) (k : Int), (msz xs < n + 1 ∧ 0 ≤ k ∧ k + (szL cntX xs : Int) ≤ 4611686018427387904) → inI64 k → awp (envO [] [] [mkn_laws_markExprS n] [32] []) (bodyOf f_laws_markExprS) (lm_laws_markExprS xs k) 0 (markPost f_laws_markExprS (mkn_laws_markExprS (n + 1)).m xs k) (markStart f_laws_markExprS ⟨(.slice (.st .expr)), xs⟩ k)
  intro xs k hp hk
  rewrite [vcm_laws_markExprS n xs k]
  have f0 := half_zero (mkXs k xs) xs
  have f1 := szL_zero cntX xs
  have f2 := cnt_len xs
  refine ⟨⟨0, ⟨?_, ⟨⟨trivial, ⟨?_, ⟨rfl, ⟨?_, trivial⟩⟩⟩⟩, ⟨?_, trivial⟩⟩⟩⟩, fun i1 a0 => have b0x0 := half_all (mkXs k xs) xs i1 (mkXs_length k xs); have b0x1 := half_length (mkXs k xs) xs i1 (mkXs_length k xs); have b0x2 := half_getD (mkXs k xs) xs (GExpr.mk (0 : Int) (0 : Int) []) i1 (mkXs_length k xs); have b0x3 := szL_take cntX (GExpr.mk (0 : Int) (0 : Int) []) xs i1; have b0x4 := szL_take_le cntX xs i1; have b0x5 := szL_take_le cntX xs (i1 + 1); have b0x6 := szL_all cntX xs i1; have b0x7 := cntX_eq (xs.getD i1 (GExpr.mk (0 : Int) (0 : Int) [])); have b0x8 := msz_getD (GExpr.mk (0 : Int) (0 : Int) []) xs i1; have b0x9 := msz_kids (xs.getD i1 (GExpr.mk (0 : Int) (0 : Int) [])); have b0x10 := mkX_eq (k + (szL cntX (xs.take i1) : Int)) (xs.getD i1 (GExpr.mk (0 : Int) (0 : Int) [])); have b0x11 := (fun (y : GExpr) (h : i1 < xs.length) => set_getD (half (mkXs k xs) xs i1) i1 y (GExpr.mk (0 : Int) (0 : Int) []) (by rw [half_length _ _ i1 (mkXs_length k xs)]; exact h)); have b0x12 := (fun (h : i1 < xs.length) (y1 y2 y3 : GExpr) => mk_step k xs i1 (GExpr.mk (0 : Int) (0 : Int) []) h y1 y2 y3); ⟨fun a1 => ⟨?_, ⟨?_, ⟨?_, ⟨?_, ⟨?_, ⟨?_, ⟨?_, ⟨i1 + 1, ⟨?_, ⟨?_, ⟨⟨trivial, ⟨?_, ⟨rfl, ⟨?_, trivial⟩⟩⟩⟩, ⟨?_, trivial⟩⟩⟩⟩⟩⟩⟩⟩⟩⟩⟩⟩, fun a1 => ⟨?_, ?_⟩⟩⟩
  all_goals try and_intros
  all_goals first | rfl | trivial | omega | (simp only [List.set_set, List.length_set, decide_eq_true_eq, decide_eq_false_iff_not, idxOk, inI64] at *; first | omega | (have hi : i2 < xs.length := by omega); simp only [b0x11 _ hi, b0x2 hi]; first | omega | (refine b0x12 hi (GExpr.mk 0 0 []) (GExpr.mk 0 0 []) _ ?_; rw [b0x10, Int.add_assoc]; rfl)) | grind

theorem allm_mark_expr : ∀ n, AllM [mkn_laws_markExprS n]
  | 0 => ⟨⟨fnOk_of at_laws_markExprS rfl (by decide), fun _ _ _ _ _ h => absurd (show msz _ < 0 from h.1) (Nat.not_lt_zero _)⟩, trivial⟩
  | n + 1 => by
    have ih := allm_mark_expr n
    exact ⟨okm_laws_markExprS n trivial trivial ⟨ih.1, trivial⟩ trivial, trivial⟩
theorem mgood_laws_markExprS : MK.Good mk_laws_markExprS :=
  ⟨fnOk_of at_laws_markExprS rfl (by decide), fun (xs : List GExpr) (k : Int) w v fp (hp : 0 ≤ k ∧ k + (szL cntX xs : Int) ≤ 4611686018427387904) => (allm_mark_expr (msz xs + 1)).1.2 xs k w v fp (show (msz xs < msz xs + 1 ∧ (0 ≤ k ∧ k + (szL cntX xs : Int) ≤ 4611686018427387904)) from ⟨Nat.lt_succ_self _, hp⟩)⟩

def mk_laws_markExpr : MK := ⟨n_laws_markExpr, ⟨(.st .expr), fun (x : GExpr) (k : Int) => (some (0 ≤ k ∧ k + (szL cntX x.kids : Int) ≤ 4611686018427387904), (GExpr.mk x.kind x.num (mkXs k x.kids)), k + (szL cntX x.kids : Int))⟩⟩
def lm_laws_markExpr (x : GExpr) (k : Int) : Nat → LoopInv := fun _ => .none
theorem vcm_laws_markExpr (x : GExpr) (k : Int) : awp (envO [] [] [mk_laws_markExprS] [8] []) (bodyOf f_laws_markExpr) (lm_laws_markExpr x k) 0 (markPost f_laws_markExpr mk_laws_markExpr.m x k) (markStart f_laws_markExpr ⟨(.st .expr), x⟩ k) =
  (((0 ≤ k ∧ k + (szL cntX x.kids : Int) ≤ 4611686018427387904) ∧ ((k + (szL cntX x.kids : Int)) = (k + (szL cntX x.kids : Int)) ∧ (GExpr.mk x.kind x.num (mkXs k x.kids)) = (GExpr.mk x.kind x.num (mkXs k x.kids))))) := by kernel_rfl
set_option maxRecDepth 4000 in
set_option maxHeartbeats 1000000 in
theorem okm_laws_markExpr (hE : AllGood []) (hO : AllO []) (hM : AllM [mk_laws_markExprS]) (hS : AllS []) : MK.Good mk_laws_markExpr := by
  refine ⟨fnOk_of at_laws_markExpr rfl (by decide), mark_of_awp (own := [8]) (wr := []) (cl := []) (ro := []) hE hO hM hS at_laws_markExpr body_laws_markExpr (fun x k => lm_laws_markExpr x k) (fun x => Nat.le_of_ble_eq_true rfl) (Nat.le_of_ble_eq_true (by kernel_rfl)) ?_⟩
  show ∀ (x : GExpr) (k : Int), (0 ≤ k ∧ k + (szL cntX x.kids : Int) ≤ 4611686018427387904) → inI64 k → awp (envO [] [] [mk_laws_markExprS] [8] []) (bodyOf f_laws_markExpr) (lm_laws_markExpr x k) 0 (markPost f_laws_markExpr mk_laws_markExpr.m x k) (markStart f_laws_markExpr ⟨(.st .expr), x⟩ k)
  intro x k hp hk
  rewrite [vcm_laws_markExpr x k]
  refine ⟨?_, ⟨rfl, rfl⟩⟩
  all_goals try and_intros
  all_goals first | rfl | trivial | omega | (simp only [decide_eq_true_eq, decide_eq_false_iff_not, idxOk, inI64, inKind, cutOk, makeOk, roomOk] at *; omega) | (simp [idxOk, inI64] at *; omega) | grind

theorem mgood_laws_markExpr : MK.Good mk_laws_markExpr := okm_laws_markExpr trivial trivial ⟨mgood_laws_markExprS, trivial⟩ trivial

/-- The marks hold: the number behind them, or -1. -/
def okInts (k : Int) : List Int → Bool
  | [] => true
  | x :: xs => decide (x = k) && okInts (k + 1) xs
theorem okInts_iff : ∀ (k : Int) (xs : List Int), okInts k xs = true ↔ ∀ i, i < xs.length → xs.getD i 0 = k + i
  | k, [] => by simp [okInts]
  | k, x :: xs => by
    simp only [okInts, Bool.and_eq_true, decide_eq_true_eq, okInts_iff (k + 1) xs]
    constructor
    · rintro ⟨h1, h2⟩ i hi
      cases i with
      | zero => simp [h1]
      | succ i => have := h2 i (by simpa using hi); simp at this ⊢; omega
    · intro h
      refine ⟨by have := h 0 (by simp); simpa using this, fun i hi => ?_⟩
      have := h (i + 1) (by simpa using hi)
      simp at this ⊢; omega
theorem okInts_take (k : Int) (xs : List Int) (i : Nat) (h : i < xs.length) : okInts k (xs.take (i + 1)) = (okInts k (xs.take i) && decide (xs.getD i 0 = k + i)) := by
  induction xs generalizing k i with
  | nil => simp at h
  | cons x xs ih =>
    cases i with
    | zero => simp [okInts]
    | succ i =>
      have := ih (k + 1) i (by simpa using h)
      simp only [List.take_succ_cons, okInts, this, Bool.and_assoc, List.getD_cons_succ]
      congr 2
      congr 1
      simp only [eq_iff_iff]
      constructor <;> intro h <;> omega
theorem okInts_bad (k : Int) (xs : List Int) (i : Nat) (h : i < xs.length) (e : xs.getD i 0 ≠ k + i) : okInts k xs = false := by
  cases hb : okInts k xs with
  | false => rfl
  | true => exact absurd ((okInts_iff k xs).1 hb i h) e
theorem okInts_mk (k : Int) (xs : List Int) : okInts k (mkInts k xs) = true :=
  (okInts_iff k _).2 fun i hi => mkInts_getD k xs i 0 (by rwa [mkInts_length] at hi)
def heldI (k : Int) (xs : List Int) : Int := bif okInts k xs then k + (xs.length : Int) else -1

def k_laws_heldInt64S : Ctr := ⟨n_laws_heldInt64S, [.v (.slice (.int .i64)), .v (.int .i64)], fun (xs : List Int) (k : Int) => ⟨(some (0 ≤ k ∧ k + (xs.length : Int) ≤ 4611686018427387904), [⟨(.int .i64), heldI k xs⟩])⟩⟩
def l_laws_heldInt64S (xs : List Int) (k : Int) : Nat → LoopInv := (fun zb => if Nat.beq zb 0 then .mk (Nat) (fun i => i ≤ xs.length ∧ okInts k (xs.take i) = true) (fun i => xs.length - i) [] [2, 3] (fun i => [(5, .imm ⟨(.int .i64), ((i : Int) : Int)⟩), (1, .imm ⟨(.int .i64), (k + (i : Int) : Int)⟩)]) [0, 1, 4, 5, 6, 7, 8, 9, 10, 11, 12, 13, 14, 15, 16, 17, 18, 19, 20] (fun i => []) [] [] (fun i => fun _ => .none) else .none)
theorem vc_laws_heldInt64S (xs : List Int) (k : Int) : awp (envOf []) (bodyOf f_laws_heldInt64S) (l_laws_heldInt64S xs k) 0 (funPost (envOf []) f_laws_heldInt64S fun r => areEq r [⟨(.int .i64), heldI k xs⟩]) (startState f_laws_heldInt64S [.val ⟨(.slice (.int .i64)), xs⟩, .val ⟨(.int .i64), k⟩]) =
  (((∃ i1 : Nat, ((i1 ≤ xs.length ∧ okInts k (xs.take i1) = true) ∧ ((xs = xs ∧ (k = (k + (i1 : Int)) ∧ ((0 : Int) = (i1 : Int) ∧ True))) ∧ True))) ∧ (∀ i1 : Nat, ((i1 ≤ xs.length ∧ okInts k (xs.take i1) = true) →
 (inI64 ((xs.length : Int)) →
 (((decide ((i1 : Int) < ((xs.length : Int)))) = true →
 (idxOk (i1 : Int) xs.length ∧ (inI64 (xs.getD i1 (0 : Int)) →
 (((!(decide ((xs.getD i1 (0 : Int)) = (k + (i1 : Int))))) = true →
 (-1 : Int) = (heldI k xs)) ∧ ((!(decide ((xs.getD i1 (0 : Int)) = (k + (i1 : Int))))) = false →
 (inI64 ((k + (i1 : Int)) + (1 : Int)) ∧ (inI64 ((i1 : Int) + (1 : Int)) ∧ (∃ i2 : Nat, ((i2 ≤ xs.length ∧ okInts k (xs.take i2) = true) ∧ (xs.length - i2 < xs.length - i1 ∧ ((xs = xs ∧ (((k + (i1 : Int)) + (1 : Int)) = (k + (i2 : Int)) ∧ (((i1 : Int) + (1 : Int)) = (i2 : Int) ∧ True))) ∧ True))))))))))) ∧ ((decide ((i1 : Int) < ((xs.length : Int)))) = false →
 (k + (i1 : Int)) = (heldI k xs)))))))) := by kernel_rfl
set_option maxRecDepth 4000 in
set_option maxHeartbeats 1000000 in
theorem ok_laws_heldInt64S (hE : AllGood []) : Ctr.Good k_laws_heldInt64S := by
  refine ⟨fnOk_of at_laws_heldInt64S rfl (by decide), ?_⟩
  show ∀ (xs : List Int) (k : Int), (0 ≤ k ∧ k + (xs.length : Int) ≤ 4611686018427387904) → OkCall prog n_laws_heldInt64S [.val ⟨(.slice (.int .i64)), xs⟩, .val ⟨(.int .i64), k⟩] (· = [⟨(.int .i64), heldI k xs⟩])
  intro xs k hp
  refine ok_of_awp (wr := []) (cl := []) (ro := []) hE at_laws_heldInt64S body_laws_heldInt64S (l_laws_heldInt64S xs k) ?_
  rewrite [vc_laws_heldInt64S xs k]
  have f0 : okInts k (xs.take 0) = true := by simp [okInts]
  have f1 : ∀ i, xs.length ≤ i → xs.take i = xs := fun i h => List.take_of_length_le h
  refine ⟨⟨0, ⟨?_, ⟨⟨rfl, ⟨?_, ⟨?_, trivial⟩⟩⟩, trivial⟩⟩⟩, fun i1 a0 => have b0x0 := okInts_take k xs i1; have b0x1 := okInts_bad k xs i1; have b0x2 := all_done (fun _ => true) xs i1; fun a1 => ⟨fun a2 => ⟨?_, fun a3 => ⟨fun a4 => ?_, fun a4 => ⟨?_, ⟨?_, ⟨i1 + 1, ⟨?_, ⟨?_, ⟨⟨rfl, ⟨?_, ⟨?_, trivial⟩⟩⟩, trivial⟩⟩⟩⟩⟩⟩⟩⟩, fun a2 => ?_⟩⟩
  all_goals try and_intros
  all_goals try unfold heldI
  all_goals first | rfl | trivial | omega | (simp only [decide_eq_true_eq, decide_eq_false_iff_not, idxOk, inI64, Bool.not_eq_true', Bool.not_eq_false'] at *; first | omega | grind)

theorem good_laws_heldInt64S : Ctr.Good k_laws_heldInt64S := ok_laws_heldInt64S trivial

end
end Go.Proofs.Ytiikoicminohpaa

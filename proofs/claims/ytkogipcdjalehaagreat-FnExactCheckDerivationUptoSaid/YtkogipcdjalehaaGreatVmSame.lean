/- Expressions and programs that are the same. Printed by vmk.py. -/
import Derived.Test.YtkogipcdjalehaaGreatVmUse
import Derived.Test.YtkogipcdjalehaaGreatVmLib
set_option linter.unusedVariables false
set_option linter.unusedSimpArgs false
set_option linter.unusedSectionVars false
set_option maxRecDepth 4000
set_option maxHeartbeats 4000000
namespace Go.Proofs.YtkogipcdjalehaaGreat
noncomputable section
def ask2 {α : Type} (F : α → α → Prop × Bool) (z : α) (xs ys : List α) : Prop := ∀ i, i < xs.length → i < ys.length → (F (xs.getD i z) (ys.getD i z)).1
def all2 {α : Type} (f : α → α → Bool) : List α → List α → Bool
 | [], [] => true
 | x :: xs, y :: ys => f x y && all2 f xs ys
 | _, _ => false
theorem all2_len {α : Type} (f : α → α → Bool) : ∀ xs ys : List α, all2 f xs ys = true → xs.length = ys.length
 | [], [], _ => rfl
 | x :: xs, y :: ys, h => by
  simp only [all2, Bool.and_eq_true] at h
  simp [all2_len f xs ys h.2]
 | [], _ :: _, h => by cases h
 | _ :: _, [], h => by cases h
theorem all2_ne {α : Type} (f : α → α → Bool) (xs ys : List α) (h : xs.length ≠ ys.length) : all2 f xs ys = false := by
 cases hb : all2 f xs ys
 ·rfl
 ·exact absurd (all2_len f xs ys hb) h
theorem all2_iff {α : Type} (f : α → α → Bool) (z : α) : ∀ xs ys : List α, all2 f xs ys = true ↔ xs.length = ys.length ∧ ∀ i, i < xs.length → f (xs.getD i z) (ys.getD i z) = true
 | [], [] => by simp [all2]
 | [], _ :: _ => by simp [all2]
 | _ :: _, [] => by simp [all2]
 | x :: xs, y :: ys => by
  simp only [all2, Bool.and_eq_true, all2_iff f z xs ys, List.length_cons, Nat.add_right_cancel_iff]
  constructor
  ·rintro ⟨h1, h2, h3⟩
   refine ⟨h2, fun i hi => ?_⟩
   cases i with
   | zero => simpa using h1
   | succ i => simpa using h3 i (by omega)
  ·rintro ⟨h1, h2⟩
   exact ⟨by simpa using h2 0 (by omega), h1, fun i hi => by simpa using h2 (i + 1) (by omega)⟩
theorem all2_at {α : Type} (f : α → α → Bool) (z : α) (xs ys : List α) (k : Nat) (h : xs.length = ys.length) (hk : k < xs.length) (hf : f (xs.getD k z) (ys.getD k z) = false) : all2 f xs ys = false := by
 cases hb : all2 f xs ys
 ·rfl
 ·have := ((all2_iff f z xs ys).1 hb).2 k hk
  rw [this] at hf; cases hf
theorem all2_upto {α : Type} (f : α → α → Bool) (z : α) (xs ys : List α) (k : Nat) (h : xs.length = ys.length) (hk : xs.length ≤ k) (ha : all2 f (xs.take k) (ys.take k) = true) : all2 f xs ys = true := by
 rwa [List.take_of_length_le hk, List.take_of_length_le (by omega)] at ha
theorem all2_snoc {α : Type} (f : α → α → Bool) (z : α) (xs ys : List α) (k : Nat) (h1 : k < xs.length) (h2 : k < ys.length) (ha : all2 f (xs.take k) (ys.take k) = true) (hf : f (xs.getD k z) (ys.getD k z) = true) : all2 f (xs.take (k + 1)) (ys.take (k + 1)) = true := by
 rw [all2_iff f z] at ha ⊢
 simp only [List.length_take, List.getD_eq_getElem?_getD] at ha hf ⊢
 refine ⟨by omega, fun i hi => ?_⟩
 rcases Nat.lt_or_ge i k with hik | hik
 ·have := ha.2 i (by omega)
  simpa [List.getElem?_take, hik, show i < k + 1 by omega] using this
 ·have : i = k := by omega
  subst this
  simpa [List.getElem?_take] using hf
theorem all2_eqB {α : Type} : ∀ xs ys : List α, all2 eqB xs ys = eqB xs ys
 | [], [] => by simp [all2]
 | [], _ :: _ => by simp [all2, eqB]
 | _ :: _, [] => by simp [all2, eqB]
 | x :: xs, y :: ys => by
  rw [all2, all2_eqB xs ys]
  refine Bool.eq_iff_iff.2 ?_
  simp
theorem eqB_expr (x y : GExpr) : eqB x y = (decide (x.kind = y.kind) && decide (x.num = y.num) && eqB x.kids y.kids) := by
 refine Bool.eq_iff_iff.2 ?_
 cases x; cases y; simp [and_assoc]
theorem eqB_prog (x y : GProg) : eqB x y = (decide (x.kind = y.kind) && decide (x.num = y.num) && eqB x.cond y.cond && eqB x.kids y.kids) := by
 refine Bool.eq_iff_iff.2 ?_
 cases x; cases y; simp [and_assoc]
def k_slices_EqualFunc_Expr : Ctr := ⟨n_slices_EqualFunc_Expr, [.v (.slice (.st .expr)), .v (.slice (.st .expr)), .c [(.st .expr), (.st .expr)] .bool], fun (xs : List GExpr) (ys : List GExpr) (F : GExpr → GExpr → Prop × Bool) => ⟨(some (ask2 F zE xs ys), [⟨.bool, all2 (fun x y => (F x y).2) xs ys⟩])⟩⟩
def l_slices_EqualFunc_Expr (xs : List GExpr) (ys : List GExpr) (F : GExpr → GExpr → Prop × Bool) : Nat → LoopInv := (fun zb => if Nat.beq zb 0 then .mk (Nat) (fun k => k ≤ xs.length ∧ xs.length = ys.length ∧ all2 (fun x y => (F x y).2) (xs.take k) (ys.take k) = true) (fun k => xs.length - k) [] [0, 3, 4, 5, 10, 11, 12, 13, 14] (fun k => [(17, .imm ⟨(.int .i64), ((k : Int) : Int)⟩)]) [1, 2, 6, 7, 8, 9, 15, 16, 17, 18, 19, 20, 21, 22, 23, 24, 25, 26, 27, 28, 29, 30, 31] (fun k => []) [] [] (fun k => fun _ => .none) else .none)
theorem vc_slices_EqualFunc_Expr (xs : List GExpr) (ys : List GExpr) (F : GExpr → GExpr → Prop × Bool) : awp (envOf []) (bodyOf f_slices_EqualFunc_Expr) (l_slices_EqualFunc_Expr xs ys F) 0 (funPost (envOf []) f_slices_EqualFunc_Expr fun r => areEq r [⟨.bool, all2 (fun x y => (F x y).2) xs ys⟩]) (startState f_slices_EqualFunc_Expr [.val ⟨(.slice (.st .expr)), xs⟩, .val ⟨(.slice (.st .expr)), ys⟩, .clo ⟨[(.st .expr), (.st .expr)], .bool, F⟩]) =
 ((inI64 ((xs.length : Int)) →
 (inI64 ((ys.length : Int)) →
 (((!(decide (((xs.length : Int)) = ((ys.length : Int))))) = true →
 false = (all2 (fun x y => (F x y).2) xs ys)) ∧ ((!(decide (((xs.length : Int)) = ((ys.length : Int))))) = false →
 (inI64 ((xs.length : Int)) →
 ((∃ k1 : Nat, ((k1 ≤ xs.length ∧ xs.length = ys.length ∧ all2 (fun x y => (F x y).2) (xs.take k1) (ys.take k1) = true) ∧ ((ys = ys ∧ (F = F ∧ (xs = xs ∧ (((xs.length : Int)) = ((xs.length : Int)) ∧ ((0 : Int) = (k1 : Int) ∧ True))))) ∧ True))) ∧ (∀ k1 : Nat, ((k1 ≤ xs.length ∧ xs.length = ys.length ∧ all2 (fun x y => (F x y).2) (xs.take k1) (ys.take k1) = true) →
 (((decide ((k1 : Int) < ((xs.length : Int)))) = true →
 (idxOk (k1 : Int) xs.length ∧ (idxOk (k1 : Int) ys.length ∧ ((F (e_expr (xs.getD k1 zE)) (e_expr (ys.getD k1 zE))).1 ∧ (((!((F (e_expr (xs.getD k1 zE)) (e_expr (ys.getD k1 zE))).2)) = true →
 false = (all2 (fun x y => (F x y).2) xs ys)) ∧ ((!((F (e_expr (xs.getD k1 zE)) (e_expr (ys.getD k1 zE))).2)) = false →
 (inI64 ((k1 : Int) + (1 : Int)) ∧ (∃ k2 : Nat, ((k2 ≤ xs.length ∧ xs.length = ys.length ∧ all2 (fun x y => (F x y).2) (xs.take k2) (ys.take k2) = true) ∧ (xs.length - k2 < xs.length - k1 ∧ ((ys = ys ∧ (F = F ∧ (xs = xs ∧ (((xs.length : Int)) = ((xs.length : Int)) ∧ (((k1 : Int) + (1 : Int)) = (k2 : Int) ∧ True))))) ∧ True))))))))))) ∧ ((decide ((k1 : Int) < ((xs.length : Int)))) = false →
 true = (all2 (fun x y => (F x y).2) xs ys)))))))))))) := by kernel_rfl
theorem ok_slices_EqualFunc_Expr (hE : AllGood []) : Ctr.Good k_slices_EqualFunc_Expr := by
 refine ⟨fnOk_of at_slices_EqualFunc_Expr rfl (by decide), ?_⟩
 show ∀ (xs : List GExpr) (ys : List GExpr) (F : GExpr → GExpr → Prop × Bool), (ask2 F zE xs ys) → OkCall prog n_slices_EqualFunc_Expr [.val ⟨(.slice (.st .expr)), xs⟩, .val ⟨(.slice (.st .expr)), ys⟩, .clo ⟨[(.st .expr), (.st .expr)], .bool, F⟩] (· = [⟨.bool, all2 (fun x y => (F x y).2) xs ys⟩])
 intro xs ys F hp
 refine ok_of_awp (wr := []) (cl := []) (ro := []) hE at_slices_EqualFunc_Expr body_slices_EqualFunc_Expr (l_slices_EqualFunc_Expr xs ys F) ?_
 rewrite [vc_slices_EqualFunc_Expr xs ys F]
 have f0 := all2_ne (fun x y => (F x y).2) xs ys
 refine fun a0 => fun a1 => ⟨fun a2 => ?_, fun a2 => fun a3 => ⟨⟨0, ⟨?_, ⟨⟨rfl, ⟨rfl, ⟨rfl, ⟨rfl, ⟨?_, trivial⟩⟩⟩⟩⟩, trivial⟩⟩⟩, fun k1 a4 => have b4x0 := hp k1; have b4x1 := all2_at (fun x y => (F x y).2) zE xs ys k1; have b4x2 := all2_upto (fun x y => (F x y).2) zE xs ys k1; have b4x3 := all2_snoc (fun x y => (F x y).2) zE xs ys k1; ⟨fun a5 => ⟨?_, ⟨?_, ⟨?_, ⟨fun a6 => ?_, fun a6 => ⟨?_, ⟨k1 + 1, ⟨?_, ⟨?_, ⟨⟨rfl, ⟨rfl, ⟨rfl, ⟨rfl, ⟨?_, trivial⟩⟩⟩⟩⟩, trivial⟩⟩⟩⟩⟩⟩⟩⟩⟩, fun a5 => ?_⟩⟩⟩
 all_goals try and_intros
 all_goals try simp only [GExpr.eta, GProg.eta, GDerivation.eta, GTriple.eta, GPremise.eta, GClaim.eta, GEquation.eta, GPair.eta, GSpot.eta, e_expr_eq, e_pair_eq, e_equation_eq, e_claim_eq, e_prog_eq, e_spot_eq, e_triple_eq, e_premise_eq, e_derivation_eq] at *
 all_goals first | rfl | trivial | (simp only [decide_eq_true_eq, decide_eq_false_iff_not, idxOk, inI64] at *; first | omega | grind) | (simp [all2]; done) | grind
theorem good_slices_EqualFunc_Expr : Ctr.Good k_slices_EqualFunc_Expr := ok_slices_EqualFunc_Expr trivial
def k_slices_EqualFunc_Prog : Ctr := ⟨n_slices_EqualFunc_Prog, [.v (.slice (.st .prog)), .v (.slice (.st .prog)), .c [(.st .prog), (.st .prog)] .bool], fun (xs : List GProg) (ys : List GProg) (F : GProg → GProg → Prop × Bool) => ⟨(some (ask2 F zP xs ys), [⟨.bool, all2 (fun x y => (F x y).2) xs ys⟩])⟩⟩
def l_slices_EqualFunc_Prog (xs : List GProg) (ys : List GProg) (F : GProg → GProg → Prop × Bool) : Nat → LoopInv := (fun zb => if Nat.beq zb 0 then .mk (Nat) (fun k => k ≤ xs.length ∧ xs.length = ys.length ∧ all2 (fun x y => (F x y).2) (xs.take k) (ys.take k) = true) (fun k => xs.length - k) [] [0, 3, 4, 5, 10, 11, 12, 13, 14] (fun k => [(17, .imm ⟨(.int .i64), ((k : Int) : Int)⟩)]) [1, 2, 6, 7, 8, 9, 15, 16, 17, 18, 19, 20, 21, 22, 23, 24, 25, 26, 27, 28, 29, 30, 31] (fun k => []) [] [] (fun k => fun _ => .none) else .none)
theorem vc_slices_EqualFunc_Prog (xs : List GProg) (ys : List GProg) (F : GProg → GProg → Prop × Bool) : awp (envOf []) (bodyOf f_slices_EqualFunc_Prog) (l_slices_EqualFunc_Prog xs ys F) 0 (funPost (envOf []) f_slices_EqualFunc_Prog fun r => areEq r [⟨.bool, all2 (fun x y => (F x y).2) xs ys⟩]) (startState f_slices_EqualFunc_Prog [.val ⟨(.slice (.st .prog)), xs⟩, .val ⟨(.slice (.st .prog)), ys⟩, .clo ⟨[(.st .prog), (.st .prog)], .bool, F⟩]) =
 ((inI64 ((xs.length : Int)) →
 (inI64 ((ys.length : Int)) →
 (((!(decide (((xs.length : Int)) = ((ys.length : Int))))) = true →
 false = (all2 (fun x y => (F x y).2) xs ys)) ∧ ((!(decide (((xs.length : Int)) = ((ys.length : Int))))) = false →
 (inI64 ((xs.length : Int)) →
 ((∃ k1 : Nat, ((k1 ≤ xs.length ∧ xs.length = ys.length ∧ all2 (fun x y => (F x y).2) (xs.take k1) (ys.take k1) = true) ∧ ((ys = ys ∧ (F = F ∧ (xs = xs ∧ (((xs.length : Int)) = ((xs.length : Int)) ∧ ((0 : Int) = (k1 : Int) ∧ True))))) ∧ True))) ∧ (∀ k1 : Nat, ((k1 ≤ xs.length ∧ xs.length = ys.length ∧ all2 (fun x y => (F x y).2) (xs.take k1) (ys.take k1) = true) →
 (((decide ((k1 : Int) < ((xs.length : Int)))) = true →
 (idxOk (k1 : Int) xs.length ∧ (idxOk (k1 : Int) ys.length ∧ ((F (e_prog (xs.getD k1 zP)) (e_prog (ys.getD k1 zP))).1 ∧ (((!((F (e_prog (xs.getD k1 zP)) (e_prog (ys.getD k1 zP))).2)) = true →
 false = (all2 (fun x y => (F x y).2) xs ys)) ∧ ((!((F (e_prog (xs.getD k1 zP)) (e_prog (ys.getD k1 zP))).2)) = false →
 (inI64 ((k1 : Int) + (1 : Int)) ∧ (∃ k2 : Nat, ((k2 ≤ xs.length ∧ xs.length = ys.length ∧ all2 (fun x y => (F x y).2) (xs.take k2) (ys.take k2) = true) ∧ (xs.length - k2 < xs.length - k1 ∧ ((ys = ys ∧ (F = F ∧ (xs = xs ∧ (((xs.length : Int)) = ((xs.length : Int)) ∧ (((k1 : Int) + (1 : Int)) = (k2 : Int) ∧ True))))) ∧ True))))))))))) ∧ ((decide ((k1 : Int) < ((xs.length : Int)))) = false →
 true = (all2 (fun x y => (F x y).2) xs ys)))))))))))) := by kernel_rfl
theorem ok_slices_EqualFunc_Prog (hE : AllGood []) : Ctr.Good k_slices_EqualFunc_Prog := by
 refine ⟨fnOk_of at_slices_EqualFunc_Prog rfl (by decide), ?_⟩
 show ∀ (xs : List GProg) (ys : List GProg) (F : GProg → GProg → Prop × Bool), (ask2 F zP xs ys) → OkCall prog n_slices_EqualFunc_Prog [.val ⟨(.slice (.st .prog)), xs⟩, .val ⟨(.slice (.st .prog)), ys⟩, .clo ⟨[(.st .prog), (.st .prog)], .bool, F⟩] (· = [⟨.bool, all2 (fun x y => (F x y).2) xs ys⟩])
 intro xs ys F hp
 refine ok_of_awp (wr := []) (cl := []) (ro := []) hE at_slices_EqualFunc_Prog body_slices_EqualFunc_Prog (l_slices_EqualFunc_Prog xs ys F) ?_
 rewrite [vc_slices_EqualFunc_Prog xs ys F]
 have f0 := all2_ne (fun x y => (F x y).2) xs ys
 refine fun a0 => fun a1 => ⟨fun a2 => ?_, fun a2 => fun a3 => ⟨⟨0, ⟨?_, ⟨⟨rfl, ⟨rfl, ⟨rfl, ⟨rfl, ⟨?_, trivial⟩⟩⟩⟩⟩, trivial⟩⟩⟩, fun k1 a4 => have b4x0 := hp k1; have b4x1 := all2_at (fun x y => (F x y).2) zP xs ys k1; have b4x2 := all2_upto (fun x y => (F x y).2) zP xs ys k1; have b4x3 := all2_snoc (fun x y => (F x y).2) zP xs ys k1; ⟨fun a5 => ⟨?_, ⟨?_, ⟨?_, ⟨fun a6 => ?_, fun a6 => ⟨?_, ⟨k1 + 1, ⟨?_, ⟨?_, ⟨⟨rfl, ⟨rfl, ⟨rfl, ⟨rfl, ⟨?_, trivial⟩⟩⟩⟩⟩, trivial⟩⟩⟩⟩⟩⟩⟩⟩⟩, fun a5 => ?_⟩⟩⟩
 all_goals try and_intros
 all_goals try simp only [GExpr.eta, GProg.eta, GDerivation.eta, GTriple.eta, GPremise.eta, GClaim.eta, GEquation.eta, GPair.eta, GSpot.eta, e_expr_eq, e_pair_eq, e_equation_eq, e_claim_eq, e_prog_eq, e_spot_eq, e_triple_eq, e_premise_eq, e_derivation_eq] at *
 all_goals first | rfl | trivial | (simp only [decide_eq_true_eq, decide_eq_false_iff_not, idxOk, inI64] at *; first | omega | grind) | (simp [all2]; done) | grind
theorem good_slices_EqualFunc_Prog : Ctr.Good k_slices_EqualFunc_Prog := ok_slices_EqualFunc_Prog trivial
def F_impl_SameExpr_n (n : Nat) : GExpr → GExpr → Prop × Bool := fun (x : GExpr) (y : GExpr) => ((msz x < n), eqB x y)
def q_impl_SameExpr : Nat × CloK := (n_impl_SameExpr, ⟨[(.st .expr), (.st .expr)], .bool, []⟩)
theorem ask_sameE (n : Nat) (xs ys : List GExpr) (h : msz xs ≤ n) : ask2 (F_impl_SameExpr_n n) zE xs ys := fun i hi _ => by
 have := msz_getD zE xs i hi
 show msz (xs.getD i _) < n
 omega
theorem all_sameE (n : Nat) (xs ys : List GExpr) : all2 (fun x y => (F_impl_SameExpr_n n x y).2) xs ys = eqB xs ys := all2_eqB xs ys
def kn_impl_SameExpr (n : Nat) : Ctr := ⟨n_impl_SameExpr, [.v (.st .expr), .v (.st .expr)], fun (x : GExpr) (y : GExpr) => ⟨(some (msz x < n), [⟨.bool, eqB x y⟩])⟩⟩
def k_impl_SameExpr : Ctr := ⟨n_impl_SameExpr, [.v (.st .expr), .v (.st .expr)], fun (x : GExpr) (y : GExpr) => ⟨(none, [⟨.bool, eqB x y⟩])⟩⟩
def l_impl_SameExpr (x : GExpr) (y : GExpr) : Nat → LoopInv := fun _ => .none
abbrev q_impl_SameExpr_0 (n : Nat) (x : GExpr) (y : GExpr) : Prop := (x.kids.length ≤ 140737488355328 →
 (y.kids.length ≤ 140737488355328 →
 (ask2 (F_impl_SameExpr_n n) zE x.kids y.kids ∧ (all2 (fun x y => ((F_impl_SameExpr_n n) x y).2) x.kids y.kids) = (eqB x y))))
theorem vc_impl_SameExpr (n : Nat) (x : GExpr) (y : GExpr) : awp (envOf [kn_impl_SameExpr n, k_slices_EqualFunc_Expr] [] [q_impl_SameExpr] [2, 3]) (bodyOf f_impl_SameExpr) (l_impl_SameExpr x y) 0 (funPost (envOf [kn_impl_SameExpr n, k_slices_EqualFunc_Expr] [] [q_impl_SameExpr] [2, 3]) f_impl_SameExpr fun r => areEq r [⟨.bool, eqB x y⟩]) (startState f_impl_SameExpr [.val ⟨(.st .expr), x⟩, .val ⟨(.st .expr), y⟩]) =
 ((inI64 x.kind →
 (inI64 y.kind →
 (((decide (x.kind = y.kind)) = true →
 (inI64 x.num →
 (inI64 y.num →
 (((decide (x.num = y.num)) = true →
 (q_impl_SameExpr_0 n x y)) ∧ ((decide (x.num = y.num)) = (!true) →
 false = (eqB x y)))))) ∧ ((decide (x.kind = y.kind)) = (!true) →
 ((false = true →
 (q_impl_SameExpr_0 n x y)) ∧ (false = (!true) →
 false = (eqB x y)))))))) := by kernel_rfl
theorem ok_impl_SameExpr (n : Nat) (hE : AllGood [kn_impl_SameExpr n, k_slices_EqualFunc_Expr]) : Ctr.Good (kn_impl_SameExpr (n + 1)) := by
 refine ⟨fnOk_of at_impl_SameExpr rfl (by decide), ?_⟩
 show ∀ (x : GExpr) (y : GExpr), (msz x < n + 1) → OkCall prog n_impl_SameExpr [.val ⟨(.st .expr), x⟩, .val ⟨(.st .expr), y⟩] (· = [⟨.bool, eqB x y⟩])
 intro x y hp
 refine ok_of_awp (wr := []) (cl := [q_impl_SameExpr]) (ro := [2, 3]) hE at_impl_SameExpr body_impl_SameExpr (l_impl_SameExpr x y) ?_
 rewrite [vc_impl_SameExpr n x y]
 have f0 := msz_kids x
 have f1 := ask_sameE n x.kids y.kids
 have f2 := all_sameE n x.kids y.kids
 have f3 := eqB_expr x y
 refine fun a0 => fun a1 => ⟨fun a2 => fun a3 => fun a4 => ⟨fun a5 => fun a6 => fun a7 => ⟨?_, ?_⟩, fun a5 => ?_⟩, fun a2 => ⟨fun a3 => fun a4 => fun a5 => ⟨?_, ?_⟩, fun a3 => ?_⟩⟩
 all_goals try and_intros
 all_goals first | rfl | trivial | (simp only [decide_eq_true_eq, decide_eq_false_iff_not, idxOk, inI64] at *; first | omega | grind) | grind [ask2]
theorem all_same_i  : ∀ n, AllGood [kn_impl_SameExpr n]
 | 0 => ⟨⟨fnOk_of at_impl_SameExpr rfl (by decide), fun _ _ h => absurd h (Nat.not_lt_zero _)⟩, trivial⟩
 | n + 1 => by
  have ih := all_same_i  n
  exact ⟨ok_impl_SameExpr n ⟨ih.1, good_slices_EqualFunc_Expr, trivial⟩, trivial⟩
theorem good_impl_SameExpr  : Ctr.Good k_impl_SameExpr :=
 ⟨fnOk_of at_impl_SameExpr rfl (by decide), fun x y hp => (all_same_i  (msz x + 1)).1.2 x y (Nat.lt_succ_self _)⟩
def F_impl_SameProg_n (n : Nat) : GProg → GProg → Prop × Bool := fun (x : GProg) (y : GProg) => ((msz x < n), eqB x y)
def q_impl_SameProg : Nat × CloK := (n_impl_SameProg, ⟨[(.st .prog), (.st .prog)], .bool, []⟩)
theorem ask_sameP (n : Nat) (xs ys : List GProg) (h : msz xs ≤ n) : ask2 (F_impl_SameProg_n n) zP xs ys := fun i hi _ => by
 have := msz_getD zP xs i hi
 show msz (xs.getD i _) < n
 omega
theorem all_sameP (n : Nat) (xs ys : List GProg) : all2 (fun x y => (F_impl_SameProg_n n x y).2) xs ys = eqB xs ys := all2_eqB xs ys
def kn_impl_SameProg (n : Nat) : Ctr := ⟨n_impl_SameProg, [.v (.st .prog), .v (.st .prog)], fun (x : GProg) (y : GProg) => ⟨(some (msz x < n), [⟨.bool, eqB x y⟩])⟩⟩
def k_impl_SameProg : Ctr := ⟨n_impl_SameProg, [.v (.st .prog), .v (.st .prog)], fun (x : GProg) (y : GProg) => ⟨(none, [⟨.bool, eqB x y⟩])⟩⟩
def l_impl_SameProg (x : GProg) (y : GProg) : Nat → LoopInv := fun _ => .none
abbrev q_impl_SameProg_0 (n : Nat) (x : GProg) (y : GProg) : Prop := (x.kids.length ≤ 140737488355328 →
 (y.kids.length ≤ 140737488355328 →
 (ask2 (F_impl_SameProg_n n) zP x.kids y.kids ∧ (all2 (fun x y => ((F_impl_SameProg_n n) x y).2) x.kids y.kids) = (eqB x y))))
theorem vc_impl_SameProg (n : Nat) (x : GProg) (y : GProg) : awp (envOf [kn_impl_SameProg n, k_impl_SameExpr, k_slices_EqualFunc_Prog] [] [q_impl_SameProg] [2, 3]) (bodyOf f_impl_SameProg) (l_impl_SameProg x y) 0 (funPost (envOf [kn_impl_SameProg n, k_impl_SameExpr, k_slices_EqualFunc_Prog] [] [q_impl_SameProg] [2, 3]) f_impl_SameProg fun r => areEq r [⟨.bool, eqB x y⟩]) (startState f_impl_SameProg [.val ⟨(.st .prog), x⟩, .val ⟨(.st .prog), y⟩]) =
 ((inI64 x.kind →
 (inI64 y.kind →
 (((decide (x.kind = y.kind)) = true →
 (inI64 x.num →
 (inI64 y.num →
 (((decide (x.num = y.num)) = true →
 (((eqB x.cond y.cond) = true →
 (q_impl_SameProg_0 n x y)) ∧ ((eqB x.cond y.cond) = (!true) →
 false = (eqB x y)))) ∧ ((decide (x.num = y.num)) = (!true) →
 ((false = true →
 (q_impl_SameProg_0 n x y)) ∧ (false = (!true) →
 false = (eqB x y)))))))) ∧ ((decide (x.kind = y.kind)) = (!true) →
 ((false = true →
 (((eqB x.cond y.cond) = true →
 (q_impl_SameProg_0 n x y)) ∧ ((eqB x.cond y.cond) = (!true) →
 false = (eqB x y)))) ∧ (false = (!true) →
 ((false = true →
 (q_impl_SameProg_0 n x y)) ∧ (false = (!true) →
 false = (eqB x y)))))))))) := by kernel_rfl
theorem ok_impl_SameProg (n : Nat) (hE : AllGood [kn_impl_SameProg n, k_impl_SameExpr, k_slices_EqualFunc_Prog]) : Ctr.Good (kn_impl_SameProg (n + 1)) := by
 refine ⟨fnOk_of at_impl_SameProg rfl (by decide), ?_⟩
 show ∀ (x : GProg) (y : GProg), (msz x < n + 1) → OkCall prog n_impl_SameProg [.val ⟨(.st .prog), x⟩, .val ⟨(.st .prog), y⟩] (· = [⟨.bool, eqB x y⟩])
 intro x y hp
 refine ok_of_awp (wr := []) (cl := [q_impl_SameProg]) (ro := [2, 3]) hE at_impl_SameProg body_impl_SameProg (l_impl_SameProg x y) ?_
 rewrite [vc_impl_SameProg n x y]
 have f0 := msz_kidsP x
 have f1 := ask_sameP n x.kids y.kids
 have f2 := all_sameP n x.kids y.kids
 have f3 := eqB_prog x y
 refine fun a0 => fun a1 => ⟨fun a2 => fun a3 => fun a4 => ⟨fun a5 => ⟨fun a6 => fun a7 => fun a8 => ⟨?_, ?_⟩, fun a6 => ?_⟩, fun a5 => ⟨fun a6 => fun a7 => fun a8 => ⟨?_, ?_⟩, fun a6 => ?_⟩⟩, fun a2 => ⟨fun a3 => ⟨fun a4 => fun a5 => fun a6 => ⟨?_, ?_⟩, fun a4 => ?_⟩, fun a3 => ⟨fun a4 => fun a5 => fun a6 => ⟨?_, ?_⟩, fun a4 => ?_⟩⟩⟩
 all_goals try and_intros
 all_goals first | rfl | trivial | (simp only [decide_eq_true_eq, decide_eq_false_iff_not, idxOk, inI64] at *; first | omega | grind) | grind [ask2]
theorem all_same_p  : ∀ n, AllGood [kn_impl_SameProg n]
 | 0 => ⟨⟨fnOk_of at_impl_SameProg rfl (by decide), fun _ _ h => absurd h (Nat.not_lt_zero _)⟩, trivial⟩
 | n + 1 => by
  have ih := all_same_p  n
  exact ⟨ok_impl_SameProg n ⟨ih.1, good_impl_SameExpr, good_slices_EqualFunc_Prog, trivial⟩, trivial⟩
theorem good_impl_SameProg  : Ctr.Good k_impl_SameProg :=
 ⟨fnOk_of at_impl_SameProg rfl (by decide), fun x y hp => (all_same_p  (msz x + 1)).1.2 x y (Nat.lt_succ_self _)⟩
def kn_spec_l01Same (n : Nat) : Ctr := ⟨n_spec_l01Same, [.r (.st .expr), .r (.st .expr)], fun (x : GExpr) (y : GExpr) => ⟨(some (msz x < n), [⟨.bool, eqB x y⟩])⟩⟩
def k_spec_l01Same : Ctr := ⟨n_spec_l01Same, [.r (.st .expr), .r (.st .expr)], fun (x : GExpr) (y : GExpr) => ⟨(none, [⟨.bool, eqB x y⟩])⟩⟩
def l_spec_l01Same (x : GExpr) (y : GExpr) : Nat → LoopInv := (fun zb => if Nat.beq zb 0 then .mk (Nat) (fun k => k ≤ x.kids.length ∧ x.kids.length = y.kids.length ∧ x.kids.take k = y.kids.take k ∧ x.kind = y.kind ∧ x.num = y.num) (fun k => x.kids.length - k) [] [2, 3, 6, 7, 8, 9, 10, 11, 12, 13, 14, 15, 16, 17, 18, 19, 20, 21, 22, 23, 24, 25, 26, 27, 28, 29, 30, 31, 32, 33, 34, 35, 36, 37, 38] (fun k => [(5, .imm ⟨(.int .i64), ((k : Int) : Int)⟩)]) [0, 1, 4, 5, 39, 40, 41, 42, 43, 44, 45, 46, 47, 48, 49, 50, 51, 52, 53, 54, 55, 56, 57, 58, 59, 60, 61] (fun k => []) [] [] (fun k => fun _ => .none) else .none)
abbrev q_spec_l01Same_0 (n : Nat) (x : GExpr) (y : GExpr) : Prop := ((∃ k1 : Nat, ((k1 ≤ x.kids.length ∧ x.kids.length = y.kids.length ∧ x.kids.take k1 = y.kids.take k1 ∧ x.kind = y.kind ∧ x.num = y.num) ∧ ((x = x ∧ (y = y ∧ ((0 : Int) = (k1 : Int) ∧ True))) ∧ True))) ∧ (∀ k1 : Nat, ((k1 ≤ x.kids.length ∧ x.kids.length = y.kids.length ∧ x.kids.take k1 = y.kids.take k1 ∧ x.kind = y.kind ∧ x.num = y.num) →
 (x.kids.length ≤ 140737488355328 →
 (inI64 ((x.kids.length : Int)) →
 (((decide ((k1 : Int) < ((x.kids.length : Int)))) = true →
 (idxOk (k1 : Int) x.kids.length ∧ (idxOk (k1 : Int) y.kids.length ∧ (x.kids.length ≤ 140737488355328 →
 (y.kids.length ≤ 140737488355328 →
 (msz (x.kids.getD k1 zE) < n ∧ (((!(eqB (x.kids.getD k1 zE) (y.kids.getD k1 zE))) = true →
 false = (eqB x y)) ∧ ((!(eqB (x.kids.getD k1 zE) (y.kids.getD k1 zE))) = false →
 (inI64 ((k1 : Int) + (1 : Int)) ∧ (∃ k2 : Nat, ((k2 ≤ x.kids.length ∧ x.kids.length = y.kids.length ∧ x.kids.take k2 = y.kids.take k2 ∧ x.kind = y.kind ∧ x.num = y.num) ∧ (x.kids.length - k2 < x.kids.length - k1 ∧ ((x = x ∧ (y = y ∧ (((k1 : Int) + (1 : Int)) = (k2 : Int) ∧ True))) ∧ True))))))))))))) ∧ ((decide ((k1 : Int) < ((x.kids.length : Int)))) = false →
 true = (eqB x y))))))))
abbrev q_spec_l01Same_1 (n : Nat) (x : GExpr) (y : GExpr) : Prop := (x.kids.length ≤ 140737488355328 →
 (inI64 ((x.kids.length : Int)) →
 (y.kids.length ≤ 140737488355328 →
 (inI64 ((y.kids.length : Int)) →
 (((!(decide (((x.kids.length : Int)) = ((y.kids.length : Int))))) = true →
 false = (eqB x y)) ∧ ((!(decide (((x.kids.length : Int)) = ((y.kids.length : Int))))) = false →
 (q_spec_l01Same_0 n x y)))))))
theorem vc_spec_l01Same (n : Nat) (x : GExpr) (y : GExpr) : awp (envOf [kn_spec_l01Same n]) (bodyOf f_spec_l01Same) (l_spec_l01Same x y) 0 (funPost (envOf [kn_spec_l01Same n]) f_spec_l01Same fun r => areEq r [⟨.bool, eqB x y⟩]) (startState f_spec_l01Same [.ref ⟨(.st .expr), x⟩, .ref ⟨(.st .expr), y⟩]) =
 ((((!(decide (x.kind = y.kind))) = false →
 (((!(decide (x.num = y.num))) = false →
 (inI64 x.kind →
 (inI64 y.kind →
 (inI64 x.num →
 (inI64 y.num →
 (q_spec_l01Same_1 n x y)))))) ∧ ((!(decide (x.num = y.num))) = (!false) →
 (inI64 x.kind →
 (inI64 y.kind →
 (inI64 x.num →
 (inI64 y.num →
 ((true = true →
 false = (eqB x y)) ∧ (true = false →
 (q_spec_l01Same_0 n x y)))))))))) ∧ ((!(decide (x.kind = y.kind))) = (!false) →
 ((true = false →
 (inI64 x.kind →
 (inI64 y.kind →
 (q_spec_l01Same_1 n x y)))) ∧ (true = (!false) →
 (inI64 x.kind →
 (inI64 y.kind →
 ((true = true →
 false = (eqB x y)) ∧ (true = false →
 (q_spec_l01Same_0 n x y)))))))))) := by kernel_rfl
theorem ok_spec_l01Same (n : Nat) (hE : AllGood [kn_spec_l01Same n]) : Ctr.Good (kn_spec_l01Same (n + 1)) := by
 refine ⟨fnOk_of at_spec_l01Same rfl (by decide), ?_⟩
 show ∀ (x : GExpr) (y : GExpr), (msz x < n + 1) → OkCall prog n_spec_l01Same [.ref ⟨(.st .expr), x⟩, .ref ⟨(.st .expr), y⟩] (· = [⟨.bool, eqB x y⟩])
 intro x y hp
 refine ok_of_awp (wr := []) (cl := []) (ro := []) hE at_spec_l01Same body_spec_l01Same (l_spec_l01Same x y) ?_
 rewrite [vc_spec_l01Same n x y]
 have f0 := msz_kids x
 have f3 := eqB_expr x y
 refine ⟨fun a0 => ⟨fun a1 => fun a2 => fun a3 => fun a4 => fun a5 => fun a6 => fun a7 => fun a8 => fun a9 => ⟨fun a10 => ?_, fun a10 => ⟨⟨0, ⟨?_, ⟨⟨rfl, ⟨rfl, ⟨?_, trivial⟩⟩⟩, trivial⟩⟩⟩, fun k1 a11 => have b11x0 := take_same zE x.kids y.kids k1; have b11x1 := take_same_all x.kids y.kids k1; have b11x2 := msz_getD zE x.kids k1; fun a12 => fun a13 => ⟨fun a14 => ⟨?_, ⟨?_, fun a15 => fun a16 => ⟨?_, ⟨fun a17 => ?_, fun a17 => ⟨?_, ⟨k1 + 1, ⟨?_, ⟨?_, ⟨⟨rfl, ⟨rfl, ⟨?_, trivial⟩⟩⟩, trivial⟩⟩⟩⟩⟩⟩⟩⟩⟩, fun a14 => ?_⟩⟩⟩, fun a1 => fun a2 => fun a3 => fun a4 => fun a5 => ⟨fun a6 => ?_, fun a6 => ⟨⟨0, ⟨?_, ⟨⟨rfl, ⟨rfl, ⟨?_, trivial⟩⟩⟩, trivial⟩⟩⟩, fun k1 a7 => have b7x0 := take_same zE x.kids y.kids k1; have b7x1 := take_same_all x.kids y.kids k1; have b7x2 := msz_getD zE x.kids k1; fun a8 => fun a9 => ⟨fun a10 => ⟨?_, ⟨?_, fun a11 => fun a12 => ⟨?_, ⟨fun a13 => ?_, fun a13 => ⟨?_, ⟨k1 + 1, ⟨?_, ⟨?_, ⟨⟨rfl, ⟨rfl, ⟨?_, trivial⟩⟩⟩, trivial⟩⟩⟩⟩⟩⟩⟩⟩⟩, fun a10 => ?_⟩⟩⟩⟩, fun a0 => ⟨fun a1 => fun a2 => fun a3 => fun a4 => fun a5 => fun a6 => fun a7 => ⟨fun a8 => ?_, fun a8 => ⟨⟨0, ⟨?_, ⟨⟨rfl, ⟨rfl, ⟨?_, trivial⟩⟩⟩, trivial⟩⟩⟩, fun k1 a9 => have b9x0 := take_same zE x.kids y.kids k1; have b9x1 := take_same_all x.kids y.kids k1; have b9x2 := msz_getD zE x.kids k1; fun a10 => fun a11 => ⟨fun a12 => ⟨?_, ⟨?_, fun a13 => fun a14 => ⟨?_, ⟨fun a15 => ?_, fun a15 => ⟨?_, ⟨k1 + 1, ⟨?_, ⟨?_, ⟨⟨rfl, ⟨rfl, ⟨?_, trivial⟩⟩⟩, trivial⟩⟩⟩⟩⟩⟩⟩⟩⟩, fun a12 => ?_⟩⟩⟩, fun a1 => fun a2 => fun a3 => ⟨fun a4 => ?_, fun a4 => ⟨⟨0, ⟨?_, ⟨⟨rfl, ⟨rfl, ⟨?_, trivial⟩⟩⟩, trivial⟩⟩⟩, fun k1 a5 => have b5x0 := take_same zE x.kids y.kids k1; have b5x1 := take_same_all x.kids y.kids k1; have b5x2 := msz_getD zE x.kids k1; fun a6 => fun a7 => ⟨fun a8 => ⟨?_, ⟨?_, fun a9 => fun a10 => ⟨?_, ⟨fun a11 => ?_, fun a11 => ⟨?_, ⟨k1 + 1, ⟨?_, ⟨?_, ⟨⟨rfl, ⟨rfl, ⟨?_, trivial⟩⟩⟩, trivial⟩⟩⟩⟩⟩⟩⟩⟩⟩, fun a8 => ?_⟩⟩⟩⟩⟩
 all_goals try and_intros
 all_goals first | rfl | trivial | (simp only [decide_eq_true_eq, decide_eq_false_iff_not, Bool.not_eq_false', Bool.not_eq_true', decide_not, idxOk, inI64] at *; first | omega | grind) | grind [eqB_iff, eqB_iff']
theorem all_same_s  : ∀ n, AllGood [kn_spec_l01Same n]
 | 0 => ⟨⟨fnOk_of at_spec_l01Same rfl (by decide), fun _ _ h => absurd h (Nat.not_lt_zero _)⟩, trivial⟩
 | n + 1 => by
  have ih := all_same_s  n
  exact ⟨ok_spec_l01Same n ⟨ih.1, trivial⟩, trivial⟩
theorem good_spec_l01Same  : Ctr.Good k_spec_l01Same :=
 ⟨fnOk_of at_spec_l01Same rfl (by decide), fun x y hp => (all_same_s  (msz x + 1)).1.2 x y (Nat.lt_succ_self _)⟩
def kn_spec_l06Same (n : Nat) : Ctr := ⟨n_spec_l06Same, [.r (.st .prog), .r (.st .prog)], fun (x : GProg) (y : GProg) => ⟨(some (msz x < n), [⟨.bool, eqB x y⟩])⟩⟩
def k_spec_l06Same : Ctr := ⟨n_spec_l06Same, [.r (.st .prog), .r (.st .prog)], fun (x : GProg) (y : GProg) => ⟨(none, [⟨.bool, eqB x y⟩])⟩⟩
def l_spec_l06Same (x : GProg) (y : GProg) : Nat → LoopInv := (fun zb => if Nat.beq zb 0 then .mk (Nat) (fun k => k ≤ x.kids.length ∧ x.kids.length = y.kids.length ∧ x.kids.take k = y.kids.take k ∧ x.kind = y.kind ∧ x.num = y.num ∧ x.cond = y.cond) (fun k => x.kids.length - k) [] [2, 3, 6, 7, 8, 9, 10, 11, 12, 13, 14, 15, 16, 17, 18, 19, 20, 21, 22, 23, 24, 25, 26, 27, 28, 29, 30, 31, 32, 33, 34, 35, 36, 37, 38, 39, 40, 41, 42, 43, 44, 45, 46, 47, 48] (fun k => [(5, .imm ⟨(.int .i64), ((k : Int) : Int)⟩)]) [0, 1, 4, 5, 49, 50, 51, 52, 53, 54, 55, 56, 57, 58, 59, 60, 61, 62, 63, 64, 65, 66, 67, 68, 69, 70, 71] (fun k => []) [] [] (fun k => fun _ => .none) else .none)
abbrev q_spec_l06Same_0 (n : Nat) (x : GProg) (y : GProg) : Prop := ((∃ k1 : Nat, ((k1 ≤ x.kids.length ∧ x.kids.length = y.kids.length ∧ x.kids.take k1 = y.kids.take k1 ∧ x.kind = y.kind ∧ x.num = y.num ∧ x.cond = y.cond) ∧ ((x = x ∧ (y = y ∧ ((0 : Int) = (k1 : Int) ∧ True))) ∧ True))) ∧ (∀ k1 : Nat, ((k1 ≤ x.kids.length ∧ x.kids.length = y.kids.length ∧ x.kids.take k1 = y.kids.take k1 ∧ x.kind = y.kind ∧ x.num = y.num ∧ x.cond = y.cond) →
 (x.kids.length ≤ 140737488355328 →
 (inI64 ((x.kids.length : Int)) →
 (((decide ((k1 : Int) < ((x.kids.length : Int)))) = true →
 (idxOk (k1 : Int) x.kids.length ∧ (idxOk (k1 : Int) y.kids.length ∧ (x.kids.length ≤ 140737488355328 →
 (y.kids.length ≤ 140737488355328 →
 (msz (x.kids.getD k1 zP) < n ∧ (((!(eqB (x.kids.getD k1 zP) (y.kids.getD k1 zP))) = true →
 false = (eqB x y)) ∧ ((!(eqB (x.kids.getD k1 zP) (y.kids.getD k1 zP))) = false →
 (inI64 ((k1 : Int) + (1 : Int)) ∧ (∃ k2 : Nat, ((k2 ≤ x.kids.length ∧ x.kids.length = y.kids.length ∧ x.kids.take k2 = y.kids.take k2 ∧ x.kind = y.kind ∧ x.num = y.num ∧ x.cond = y.cond) ∧ (x.kids.length - k2 < x.kids.length - k1 ∧ ((x = x ∧ (y = y ∧ (((k1 : Int) + (1 : Int)) = (k2 : Int) ∧ True))) ∧ True))))))))))))) ∧ ((decide ((k1 : Int) < ((x.kids.length : Int)))) = false →
 true = (eqB x y))))))))
abbrev q_spec_l06Same_1 (n : Nat) (x : GProg) (y : GProg) : Prop := (x.kids.length ≤ 140737488355328 →
 (inI64 ((x.kids.length : Int)) →
 (y.kids.length ≤ 140737488355328 →
 (inI64 ((y.kids.length : Int)) →
 (((!(eqB x.cond y.cond)) = true →
 false = (eqB x y)) ∧ ((!(eqB x.cond y.cond)) = false →
 (q_spec_l06Same_0 n x y)))))))
abbrev q_spec_l06Same_2 (n : Nat) (x : GProg) (y : GProg) : Prop := (x.kids.length ≤ 140737488355328 →
 (inI64 ((x.kids.length : Int)) →
 (y.kids.length ≤ 140737488355328 →
 (inI64 ((y.kids.length : Int)) →
 ((true = true →
 false = (eqB x y)) ∧ (true = false →
 (q_spec_l06Same_0 n x y)))))))
theorem vc_spec_l06Same (n : Nat) (x : GProg) (y : GProg) : awp (envOf [kn_spec_l06Same n, k_spec_l01Same]) (bodyOf f_spec_l06Same) (l_spec_l06Same x y) 0 (funPost (envOf [kn_spec_l06Same n, k_spec_l01Same]) f_spec_l06Same fun r => areEq r [⟨.bool, eqB x y⟩]) (startState f_spec_l06Same [.ref ⟨(.st .prog), x⟩, .ref ⟨(.st .prog), y⟩]) =
 ((((!(decide (x.kind = y.kind))) = false →
 (((!(decide (x.num = y.num))) = false →
 (((!(decide (((x.kids.length : Int)) = ((y.kids.length : Int))))) = false →
 (inI64 x.kind →
 (inI64 y.kind →
 (inI64 x.num →
 (inI64 y.num →
 (q_spec_l06Same_1 n x y)))))) ∧ ((!(decide (((x.kids.length : Int)) = ((y.kids.length : Int))))) = (!false) →
 (inI64 x.kind →
 (inI64 y.kind →
 (inI64 x.num →
 (inI64 y.num →
 (q_spec_l06Same_2 n x y)))))))) ∧ ((!(decide (x.num = y.num))) = (!false) →
 ((true = false →
 (inI64 x.kind →
 (inI64 y.kind →
 (inI64 x.num →
 (inI64 y.num →
 (((!(eqB x.cond y.cond)) = true →
 false = (eqB x y)) ∧ ((!(eqB x.cond y.cond)) = false →
 (q_spec_l06Same_0 n x y)))))))) ∧ (true = (!false) →
 (inI64 x.kind →
 (inI64 y.kind →
 (inI64 x.num →
 (inI64 y.num →
 ((true = true →
 false = (eqB x y)) ∧ (true = false →
 (q_spec_l06Same_0 n x y)))))))))))) ∧ ((!(decide (x.kind = y.kind))) = (!false) →
 ((true = false →
 (((!(decide (((x.kids.length : Int)) = ((y.kids.length : Int))))) = false →
 (inI64 x.kind →
 (inI64 y.kind →
 (q_spec_l06Same_1 n x y)))) ∧ ((!(decide (((x.kids.length : Int)) = ((y.kids.length : Int))))) = (!false) →
 (inI64 x.kind →
 (inI64 y.kind →
 (q_spec_l06Same_2 n x y)))))) ∧ (true = (!false) →
 ((true = false →
 (inI64 x.kind →
 (inI64 y.kind →
 (((!(eqB x.cond y.cond)) = true →
 false = (eqB x y)) ∧ ((!(eqB x.cond y.cond)) = false →
 (q_spec_l06Same_0 n x y)))))) ∧ (true = (!false) →
 (inI64 x.kind →
 (inI64 y.kind →
 ((true = true →
 false = (eqB x y)) ∧ (true = false →
 (q_spec_l06Same_0 n x y)))))))))))) := by kernel_rfl
theorem ok_spec_l06Same (n : Nat) (hE : AllGood [kn_spec_l06Same n, k_spec_l01Same]) : Ctr.Good (kn_spec_l06Same (n + 1)) := by
 refine ⟨fnOk_of at_spec_l06Same rfl (by decide), ?_⟩
 show ∀ (x : GProg) (y : GProg), (msz x < n + 1) → OkCall prog n_spec_l06Same [.ref ⟨(.st .prog), x⟩, .ref ⟨(.st .prog), y⟩] (· = [⟨.bool, eqB x y⟩])
 intro x y hp
 refine ok_of_awp (wr := []) (cl := []) (ro := []) hE at_spec_l06Same body_spec_l06Same (l_spec_l06Same x y) ?_
 rewrite [vc_spec_l06Same n x y]
 have f0 := msz_kidsP x
 have f3 := eqB_prog x y
 refine ⟨fun a0 => ⟨fun a1 => ⟨fun a2 => fun a3 => fun a4 => fun a5 => fun a6 => fun a7 => fun a8 => fun a9 => fun a10 => ⟨fun a11 => ?_, fun a11 => ⟨⟨0, ⟨?_, ⟨⟨rfl, ⟨rfl, ⟨?_, trivial⟩⟩⟩, trivial⟩⟩⟩, fun k1 a12 => have b12x0 := take_same zP x.kids y.kids k1; have b12x1 := take_same_all x.kids y.kids k1; have b12x2 := msz_getD zP x.kids k1; fun a13 => fun a14 => ⟨fun a15 => ⟨?_, ⟨?_, fun a16 => fun a17 => ⟨?_, ⟨fun a18 => ?_, fun a18 => ⟨?_, ⟨k1 + 1, ⟨?_, ⟨?_, ⟨⟨rfl, ⟨rfl, ⟨?_, trivial⟩⟩⟩, trivial⟩⟩⟩⟩⟩⟩⟩⟩⟩, fun a15 => ?_⟩⟩⟩, fun a2 => fun a3 => fun a4 => fun a5 => fun a6 => fun a7 => fun a8 => fun a9 => fun a10 => ⟨fun a11 => ?_, fun a11 => ⟨⟨0, ⟨?_, ⟨⟨rfl, ⟨rfl, ⟨?_, trivial⟩⟩⟩, trivial⟩⟩⟩, fun k1 a12 => have b12x0 := take_same zP x.kids y.kids k1; have b12x1 := take_same_all x.kids y.kids k1; have b12x2 := msz_getD zP x.kids k1; fun a13 => fun a14 => ⟨fun a15 => ⟨?_, ⟨?_, fun a16 => fun a17 => ⟨?_, ⟨fun a18 => ?_, fun a18 => ⟨?_, ⟨k1 + 1, ⟨?_, ⟨?_, ⟨⟨rfl, ⟨rfl, ⟨?_, trivial⟩⟩⟩, trivial⟩⟩⟩⟩⟩⟩⟩⟩⟩, fun a15 => ?_⟩⟩⟩⟩, fun a1 => ⟨fun a2 => fun a3 => fun a4 => fun a5 => fun a6 => ⟨fun a7 => ?_, fun a7 => ⟨⟨0, ⟨?_, ⟨⟨rfl, ⟨rfl, ⟨?_, trivial⟩⟩⟩, trivial⟩⟩⟩, fun k1 a8 => have b8x0 := take_same zP x.kids y.kids k1; have b8x1 := take_same_all x.kids y.kids k1; have b8x2 := msz_getD zP x.kids k1; fun a9 => fun a10 => ⟨fun a11 => ⟨?_, ⟨?_, fun a12 => fun a13 => ⟨?_, ⟨fun a14 => ?_, fun a14 => ⟨?_, ⟨k1 + 1, ⟨?_, ⟨?_, ⟨⟨rfl, ⟨rfl, ⟨?_, trivial⟩⟩⟩, trivial⟩⟩⟩⟩⟩⟩⟩⟩⟩, fun a11 => ?_⟩⟩⟩, fun a2 => fun a3 => fun a4 => fun a5 => fun a6 => ⟨fun a7 => ?_, fun a7 => ⟨⟨0, ⟨?_, ⟨⟨rfl, ⟨rfl, ⟨?_, trivial⟩⟩⟩, trivial⟩⟩⟩, fun k1 a8 => have b8x0 := take_same zP x.kids y.kids k1; have b8x1 := take_same_all x.kids y.kids k1; have b8x2 := msz_getD zP x.kids k1; fun a9 => fun a10 => ⟨fun a11 => ⟨?_, ⟨?_, fun a12 => fun a13 => ⟨?_, ⟨fun a14 => ?_, fun a14 => ⟨?_, ⟨k1 + 1, ⟨?_, ⟨?_, ⟨⟨rfl, ⟨rfl, ⟨?_, trivial⟩⟩⟩, trivial⟩⟩⟩⟩⟩⟩⟩⟩⟩, fun a11 => ?_⟩⟩⟩⟩⟩, fun a0 => ⟨fun a1 => ⟨fun a2 => fun a3 => fun a4 => fun a5 => fun a6 => fun a7 => fun a8 => ⟨fun a9 => ?_, fun a9 => ⟨⟨0, ⟨?_, ⟨⟨rfl, ⟨rfl, ⟨?_, trivial⟩⟩⟩, trivial⟩⟩⟩, fun k1 a10 => have b10x0 := take_same zP x.kids y.kids k1; have b10x1 := take_same_all x.kids y.kids k1; have b10x2 := msz_getD zP x.kids k1; fun a11 => fun a12 => ⟨fun a13 => ⟨?_, ⟨?_, fun a14 => fun a15 => ⟨?_, ⟨fun a16 => ?_, fun a16 => ⟨?_, ⟨k1 + 1, ⟨?_, ⟨?_, ⟨⟨rfl, ⟨rfl, ⟨?_, trivial⟩⟩⟩, trivial⟩⟩⟩⟩⟩⟩⟩⟩⟩, fun a13 => ?_⟩⟩⟩, fun a2 => fun a3 => fun a4 => fun a5 => fun a6 => fun a7 => fun a8 => ⟨fun a9 => ?_, fun a9 => ⟨⟨0, ⟨?_, ⟨⟨rfl, ⟨rfl, ⟨?_, trivial⟩⟩⟩, trivial⟩⟩⟩, fun k1 a10 => have b10x0 := take_same zP x.kids y.kids k1; have b10x1 := take_same_all x.kids y.kids k1; have b10x2 := msz_getD zP x.kids k1; fun a11 => fun a12 => ⟨fun a13 => ⟨?_, ⟨?_, fun a14 => fun a15 => ⟨?_, ⟨fun a16 => ?_, fun a16 => ⟨?_, ⟨k1 + 1, ⟨?_, ⟨?_, ⟨⟨rfl, ⟨rfl, ⟨?_, trivial⟩⟩⟩, trivial⟩⟩⟩⟩⟩⟩⟩⟩⟩, fun a13 => ?_⟩⟩⟩⟩, fun a1 => ⟨fun a2 => fun a3 => fun a4 => ⟨fun a5 => ?_, fun a5 => ⟨⟨0, ⟨?_, ⟨⟨rfl, ⟨rfl, ⟨?_, trivial⟩⟩⟩, trivial⟩⟩⟩, fun k1 a6 => have b6x0 := take_same zP x.kids y.kids k1; have b6x1 := take_same_all x.kids y.kids k1; have b6x2 := msz_getD zP x.kids k1; fun a7 => fun a8 => ⟨fun a9 => ⟨?_, ⟨?_, fun a10 => fun a11 => ⟨?_, ⟨fun a12 => ?_, fun a12 => ⟨?_, ⟨k1 + 1, ⟨?_, ⟨?_, ⟨⟨rfl, ⟨rfl, ⟨?_, trivial⟩⟩⟩, trivial⟩⟩⟩⟩⟩⟩⟩⟩⟩, fun a9 => ?_⟩⟩⟩, fun a2 => fun a3 => fun a4 => ⟨fun a5 => ?_, fun a5 => ⟨⟨0, ⟨?_, ⟨⟨rfl, ⟨rfl, ⟨?_, trivial⟩⟩⟩, trivial⟩⟩⟩, fun k1 a6 => have b6x0 := take_same zP x.kids y.kids k1; have b6x1 := take_same_all x.kids y.kids k1; have b6x2 := msz_getD zP x.kids k1; fun a7 => fun a8 => ⟨fun a9 => ⟨?_, ⟨?_, fun a10 => fun a11 => ⟨?_, ⟨fun a12 => ?_, fun a12 => ⟨?_, ⟨k1 + 1, ⟨?_, ⟨?_, ⟨⟨rfl, ⟨rfl, ⟨?_, trivial⟩⟩⟩, trivial⟩⟩⟩⟩⟩⟩⟩⟩⟩, fun a9 => ?_⟩⟩⟩⟩⟩⟩
 all_goals try and_intros
 all_goals first | rfl | trivial | (simp only [decide_eq_true_eq, decide_eq_false_iff_not, Bool.not_eq_false', Bool.not_eq_true', decide_not, idxOk, inI64] at *; first | omega | grind) | grind [eqB_iff, eqB_iff']
theorem all_same_t  : ∀ n, AllGood [kn_spec_l06Same n]
 | 0 => ⟨⟨fnOk_of at_spec_l06Same rfl (by decide), fun _ _ h => absurd h (Nat.not_lt_zero _)⟩, trivial⟩
 | n + 1 => by
  have ih := all_same_t  n
  exact ⟨ok_spec_l06Same n ⟨ih.1, good_spec_l01Same, trivial⟩, trivial⟩
theorem good_spec_l06Same  : Ctr.Good k_spec_l06Same :=
 ⟨fnOk_of at_spec_l06Same rfl (by decide), fun x y hp => (all_same_t  (msz x + 1)).1.2 x y (Nat.lt_succ_self _)⟩
end
end Go.Proofs.YtkogipcdjalehaaGreat

/- Conditions of atoms: the lists of atoms; the reference. Printed by vmk.py. -/
import Derived.Test.YtiikoicminohpaaVmUse
import Derived.Test.YtiikoicminohpaaVmLib
import Derived.Test.YtiikoicminohpaaVmSz
import Derived.Test.YtiikoicminohpaaVmValid
import Derived.Test.YtiikoicminohpaaVmBld
import Derived.Test.YtiikoicminohpaaVmCond
set_option linter.unusedVariables false
set_option linter.unusedSimpArgs false
set_option linter.unusedSectionVars false
namespace Go.Proofs.Ytiikoicminohpaa
noncomputable section

/-- It is greater than the one ahead of it. -/
def ascAt (xs : List Int) (k : Nat) : Bool := decide (k = 0) || decide (xs.getD (k - 1) 0 < xs.getD k 0)
def ascB (xs : List Int) : Bool := allN (ascAt xs) xs.length
def risAt (lo hi : Int) (xs : List Int) (k : Nat) : Bool := decide (lo ≤ xs.getD k 0 ∧ xs.getD k 0 ≤ hi) && ascAt xs k
def risB (lo hi : Int) (xs : List Int) : Bool := allN (risAt lo hi xs) xs.length
theorem ascAt_eq (xs : List Int) (k : Nat) (h : 1 ≤ k) : ascAt xs k = decide (xs.getD (k - 1) 0 < xs.getD k 0) := by
  unfold ascAt
  have : k ≠ 0 := by omega
  simp [this]
theorem toNat_pred (k : Nat) : ((k : Int) - (1 : Int)).toNat = k - 1 := by omega
theorem allN_one (p : Nat → Bool) : allN p 1 = p 0 := by simp [allN]
theorem allN_zero (p : Nat → Bool) : allN p 0 = true := rfl
theorem risAt_eq (lo hi : Int) (xs : List Int) (k : Nat) : risAt lo hi xs k = (decide (lo ≤ xs.getD k 0 ∧ xs.getD k 0 ≤ hi) && ascAt xs k) := rfl
theorem inB0_eq (b n : Int) : inB0 b n = decide (0 ≤ n ∧ n ≤ b - 1) := rfl
theorem ofA_snoc (gg : GSig) (xs : List Int) (i : Nat) (h : i < xs.length) : ofA gg (xs.take (i + 1)) = ⟨6, 0, [ofA gg (xs.take i), conN (xs.getD i 0) gg.tests.toNat]⟩ := by
  unfold ofA
  rw [ofA_step gg xs i h, sumE_snoc]
theorem ascAt_zero (xs : List Int) : ascAt xs 0 = true := rfl

def k_impl_ascending : Ctr := ⟨n_impl_ascending, [.v (.slice (.int .i64))], fun (xs : List Int) => ⟨(none, [⟨.bool, ascB xs⟩])⟩⟩
def l_impl_ascending (xs : List Int) : Nat → LoopInv := (fun zb => if Nat.beq zb 0 then .mk (Nat) (fun k => 1 ≤ k ∧ (k ≤ xs.length ∨ k = 1) ∧ allN (ascAt xs) k = true) (fun k => xs.length - k) [] [1] (fun k => [(3, .imm ⟨(.int .i64), ((k : Int) : Int)⟩)]) [0, 2, 3, 4, 5, 6, 7, 8, 9, 10, 11, 12, 13, 14, 15, 16, 17, 18, 19] (fun k => []) [] [] (fun k => fun _ => .none) else .none)
theorem vc_impl_ascending (xs : List Int) : awp (envOf []) (bodyOf f_impl_ascending) (l_impl_ascending xs) 0 (funPost (envOf []) f_impl_ascending fun r => areEq r [⟨.bool, ascB xs⟩]) (startState f_impl_ascending [.val ⟨(.slice (.int .i64)), xs⟩]) =
  (((∃ k1 : Nat, ((1 ≤ k1 ∧ (k1 ≤ xs.length ∨ k1 = 1) ∧ allN (ascAt xs) k1 = true) ∧ ((xs = xs ∧ ((1 : Int) = (k1 : Int) ∧ True)) ∧ True))) ∧ (∀ k1 : Nat, ((1 ≤ k1 ∧ (k1 ≤ xs.length ∨ k1 = 1) ∧ allN (ascAt xs) k1 = true) →
 (inI64 ((xs.length : Int)) →
 (((decide ((k1 : Int) < ((xs.length : Int)))) = true →
 (idxOk (k1 : Int) xs.length ∧ (inI64 ((k1 : Int) - (1 : Int)) ∧ (idxOk ((k1 : Int) - (1 : Int)) xs.length ∧ (inI64 (xs.getD k1 (0 : Int)) →
 (inI64 (xs.getD (Int.toNat ((k1 : Int) - (1 : Int))) (0 : Int)) →
 (((decide ((xs.getD k1 (0 : Int)) ≤ (xs.getD (Int.toNat ((k1 : Int) - (1 : Int))) (0 : Int)))) = true →
 false = (ascB xs)) ∧ ((decide ((xs.getD k1 (0 : Int)) ≤ (xs.getD (Int.toNat ((k1 : Int) - (1 : Int))) (0 : Int)))) = false →
 (inI64 ((k1 : Int) + (1 : Int)) ∧ (∃ k2 : Nat, ((1 ≤ k2 ∧ (k2 ≤ xs.length ∨ k2 = 1) ∧ allN (ascAt xs) k2 = true) ∧ (xs.length - k2 < xs.length - k1 ∧ ((xs = xs ∧ (((k1 : Int) + (1 : Int)) = (k2 : Int) ∧ True)) ∧ True))))))))))))) ∧ ((decide ((k1 : Int) < ((xs.length : Int)))) = false →
 true = (ascB xs)))))))) := by kernel_rfl
set_option maxRecDepth 4000 in
set_option maxHeartbeats 1000000 in
theorem ok_impl_ascending (hE : AllGood []) : Ctr.Good k_impl_ascending := by
  refine ⟨fnOk_of at_impl_ascending rfl (by decide), ?_⟩
  show ∀ (xs : List Int), True → OkCall prog n_impl_ascending [.val ⟨(.slice (.int .i64)), xs⟩] (· = [⟨.bool, ascB xs⟩])
  intro xs _
  refine ok_of_awp (wr := []) (cl := []) (ro := []) hE at_impl_ascending body_impl_ascending (l_impl_ascending xs) ?_
  rewrite [vc_impl_ascending xs]
  have g0 := allN_one (ascAt xs)
  have g1 := ascAt_zero xs
  have g2 := allN_zero (ascAt xs)
  have g3 : ascB xs = allN (ascAt xs) xs.length := rfl
  refine ⟨⟨1, ⟨?_, ⟨⟨rfl, ⟨?_, trivial⟩⟩, trivial⟩⟩⟩, fun k1 a0 => have b0x0 := ascAt_eq xs k1; have b0x1 := allN_succ (ascAt xs) k1; have b0x2 := allN_bad (ascAt xs) xs.length k1; have b0x3 := toNat_pred k1; fun a1 => ⟨fun a2 => ⟨?_, ⟨?_, ⟨?_, fun a3 => fun a4 => ⟨fun a5 => ?_, fun a5 => ⟨?_, ⟨k1 + 1, ⟨?_, ⟨?_, ⟨⟨rfl, ⟨?_, trivial⟩⟩, trivial⟩⟩⟩⟩⟩⟩⟩⟩⟩, fun a2 => ?_⟩⟩
  all_goals try and_intros
  all_goals first | rfl | trivial | omega | (simp only [decide_eq_true_eq, decide_eq_false_iff_not, idxOk, inI64, toNat_pred] at *; omega) | (simp only [toNat_pred, decide_eq_true_eq, decide_eq_false_iff_not, idxOk, inI64, ascB, risB] at *; first | omega | grind)

theorem good_impl_ascending : Ctr.Good k_impl_ascending := ok_impl_ascending trivial

def k_impl_inRange : Ctr := ⟨n_impl_inRange, [.v (.slice (.int .i64)), .v (.int .i64)], fun (xs : List Int) (below : Int) => ⟨(some (0 ≤ below ∧ below ≤ 4096), [⟨.bool, allL (inB0 below) xs⟩])⟩⟩
def l_impl_inRange (xs : List Int) (below : Int) : Nat → LoopInv := (fun zb => if Nat.beq zb 0 then .mk (Nat) (fun k => k ≤ xs.length ∧ allL (inB0 below) (xs.take k) = true) (fun k => xs.length - k) [] [0, 2, 3, 5] (fun k => [(9, .imm ⟨(.int .i64), ((k : Int) : Int)⟩)]) [1, 4, 6, 7, 8, 9, 10, 11, 12, 13, 14, 15, 16, 17, 18] (fun k => []) [] [] (fun k => fun _ => .none) else .none)
theorem vc_impl_inRange (xs : List Int) (below : Int) : awp (envOf [k_impl_within]) (bodyOf f_impl_inRange) (l_impl_inRange xs below) 0 (funPost (envOf [k_impl_within]) f_impl_inRange fun r => areEq r [⟨.bool, allL (inB0 below) xs⟩]) (startState f_impl_inRange [.val ⟨(.slice (.int .i64)), xs⟩, .val ⟨(.int .i64), below⟩]) =
  ((inI64 ((xs.length : Int)) →
 ((∃ k1 : Nat, ((k1 ≤ xs.length ∧ allL (inB0 below) (xs.take k1) = true) ∧ ((below = below ∧ (xs = xs ∧ (((xs.length : Int)) = ((xs.length : Int)) ∧ ((0 : Int) = (k1 : Int) ∧ True)))) ∧ True))) ∧ (∀ k1 : Nat, ((k1 ≤ xs.length ∧ allL (inB0 below) (xs.take k1) = true) →
 (((decide ((k1 : Int) < ((xs.length : Int)))) = true →
 (idxOk (k1 : Int) xs.length ∧ (inI64 (xs.getD k1 (0 : Int)) →
 (inI64 (below - (1 : Int)) ∧ ((((!(decide ((0 : Int) ≤ (xs.getD k1 (0 : Int)) ∧ (xs.getD k1 (0 : Int)) ≤ (below - (1 : Int))))) = true) →
 false = (allL (inB0 below) xs)) ∧ (((!(decide ((0 : Int) ≤ (xs.getD k1 (0 : Int)) ∧ (xs.getD k1 (0 : Int)) ≤ (below - (1 : Int))))) = false) →
 (inI64 ((k1 : Int) + (1 : Int)) ∧ (∃ k2 : Nat, ((k2 ≤ xs.length ∧ allL (inB0 below) (xs.take k2) = true) ∧ (xs.length - k2 < xs.length - k1 ∧ ((below = below ∧ (xs = xs ∧ (((xs.length : Int)) = ((xs.length : Int)) ∧ (((k1 : Int) + (1 : Int)) = (k2 : Int) ∧ True)))) ∧ True))))))))))) ∧ ((decide ((k1 : Int) < ((xs.length : Int)))) = false →
 true = (allL (inB0 below) xs)))))))) := by kernel_rfl
set_option maxRecDepth 4000 in
set_option maxHeartbeats 1000000 in
theorem ok_impl_inRange (hE : AllGood [k_impl_within]) : Ctr.Good k_impl_inRange := by
  refine ⟨fnOk_of at_impl_inRange rfl (by decide), ?_⟩
  show ∀ (xs : List Int) (below : Int), (0 ≤ below ∧ below ≤ 4096) → OkCall prog n_impl_inRange [.val ⟨(.slice (.int .i64)), xs⟩, .val ⟨(.int .i64), below⟩] (· = [⟨.bool, allL (inB0 below) xs⟩])
  intro xs below hp
  refine ok_of_awp (wr := []) (cl := []) (ro := []) hE at_impl_inRange body_impl_inRange (l_impl_inRange xs below) ?_
  rewrite [vc_impl_inRange xs below]
  have f0 := all_zero (inB0 below) xs
  refine fun a0 => ⟨⟨0, ⟨?_, ⟨⟨rfl, ⟨rfl, ⟨rfl, ⟨?_, trivial⟩⟩⟩⟩, trivial⟩⟩⟩, fun k1 a1 => have b1x0 := all_take (inB0 below) 0 xs k1; have b1x1 := all_bad (inB0 below) 0 xs k1; have b1x2 := all_done (inB0 below) xs k1; have b1x3 := inB0_eq below (xs.getD k1 0); ⟨fun a2 => ⟨?_, fun a3 => ⟨?_, ⟨fun a4 => ?_, fun a4 => ⟨?_, ⟨k1 + 1, ⟨?_, ⟨?_, ⟨⟨rfl, ⟨rfl, ⟨rfl, ⟨?_, trivial⟩⟩⟩⟩, trivial⟩⟩⟩⟩⟩⟩⟩⟩, fun a2 => ?_⟩⟩
  all_goals try and_intros
  all_goals first | rfl | trivial | omega | (simp only [decide_eq_true_eq, decide_eq_false_iff_not, idxOk, inI64] at *; omega) | grind [idxOk, inI64]

theorem good_impl_inRange : Ctr.Good k_impl_inRange := ok_impl_inRange ⟨good_impl_within, trivial⟩

def k_spec_l00Rises : Ctr := ⟨n_spec_l00Rises, [.v (.slice (.int .i64)), .v (.int .i64), .v (.int .i64)], fun (xs : List Int) (lo : Int) (hi : Int) => ⟨(none, [⟨.bool, risB lo hi xs⟩])⟩⟩
def l_spec_l00Rises (xs : List Int) (lo : Int) (hi : Int) : Nat → LoopInv := (fun zb => if Nat.beq zb 0 then .mk (Nat) (fun k => k ≤ xs.length ∧ allN (risAt lo hi xs) k = true) (fun k => xs.length - k) [] [3, 4, 5] (fun k => [(7, .imm ⟨(.int .i64), ((k : Int) : Int)⟩)]) [0, 1, 2, 6, 7, 8, 9, 10, 11, 12, 13, 14, 15, 16, 17, 18, 19, 20, 21, 22, 23, 24, 25, 26, 27, 28, 29, 30, 31, 32, 33, 34, 35, 36, 37] (fun k => []) [] [] (fun k => fun _ => .none) else .none)
abbrev q_spec_l00Rises_0 (xs : List Int) (lo : Int) (hi : Int) (k1 : Nat) : Prop := (inI64 ((k1 : Int) + (1 : Int)) ∧ (∃ k2 : Nat, ((k2 ≤ xs.length ∧ allN (risAt lo hi xs) k2 = true) ∧ (xs.length - k2 < xs.length - k1 ∧ ((xs = xs ∧ (lo = lo ∧ (hi = hi ∧ (((k1 : Int) + (1 : Int)) = (k2 : Int) ∧ True)))) ∧ True)))))
theorem vc_spec_l00Rises (xs : List Int) (lo : Int) (hi : Int) : awp (envOf [k_spec_l00In]) (bodyOf f_spec_l00Rises) (l_spec_l00Rises xs lo hi) 0 (funPost (envOf [k_spec_l00In]) f_spec_l00Rises fun r => areEq r [⟨.bool, risB lo hi xs⟩]) (startState f_spec_l00Rises [.val ⟨(.slice (.int .i64)), xs⟩, .val ⟨(.int .i64), lo⟩, .val ⟨(.int .i64), hi⟩]) =
  (((∃ k1 : Nat, ((k1 ≤ xs.length ∧ allN (risAt lo hi xs) k1 = true) ∧ ((xs = xs ∧ (lo = lo ∧ (hi = hi ∧ ((0 : Int) = (k1 : Int) ∧ True)))) ∧ True))) ∧ (∀ k1 : Nat, ((k1 ≤ xs.length ∧ allN (risAt lo hi xs) k1 = true) →
 (inI64 ((xs.length : Int)) →
 (((decide ((k1 : Int) < ((xs.length : Int)))) = true →
 (idxOk (k1 : Int) xs.length ∧ ((((!(decide (lo ≤ (xs.getD k1 (0 : Int)) ∧ (xs.getD k1 (0 : Int)) ≤ hi))) = false) →
 (((decide ((0 : Int) < (k1 : Int))) = true →
 (inI64 ((k1 : Int) - (1 : Int)) ∧ (idxOk ((k1 : Int) - (1 : Int)) xs.length ∧ (idxOk (k1 : Int) xs.length ∧ (inI64 (xs.getD k1 (0 : Int)) →
 (inI64 (xs.getD (Int.toNat ((k1 : Int) - (1 : Int))) (0 : Int)) →
 (inI64 (xs.getD k1 (0 : Int)) →
 (((decide ((xs.getD k1 (0 : Int)) ≤ (xs.getD (Int.toNat ((k1 : Int) - (1 : Int))) (0 : Int)))) = true →
 false = (risB lo hi xs)) ∧ ((decide ((xs.getD k1 (0 : Int)) ≤ (xs.getD (Int.toNat ((k1 : Int) - (1 : Int))) (0 : Int)))) = false →
 (q_spec_l00Rises_0 xs lo hi k1)))))))))) ∧ ((decide ((0 : Int) < (k1 : Int))) = (!true) →
 (inI64 (xs.getD k1 (0 : Int)) →
 ((false = true →
 false = (risB lo hi xs)) ∧ (false = false →
 (q_spec_l00Rises_0 xs lo hi k1))))))) ∧ (((!(decide (lo ≤ (xs.getD k1 (0 : Int)) ∧ (xs.getD k1 (0 : Int)) ≤ hi))) = (!false)) →
 (inI64 (xs.getD k1 (0 : Int)) →
 ((true = true →
 false = (risB lo hi xs)) ∧ (true = false →
 (q_spec_l00Rises_0 xs lo hi k1)))))))) ∧ ((decide ((k1 : Int) < ((xs.length : Int)))) = false →
 true = (risB lo hi xs)))))))) := by kernel_rfl
set_option maxRecDepth 4000 in
set_option maxHeartbeats 1000000 in
theorem ok_spec_l00Rises (hE : AllGood [k_spec_l00In]) : Ctr.Good k_spec_l00Rises := by
  refine ⟨fnOk_of at_spec_l00Rises rfl (by decide), ?_⟩
  show ∀ (xs : List Int) (lo : Int) (hi : Int), True → OkCall prog n_spec_l00Rises [.val ⟨(.slice (.int .i64)), xs⟩, .val ⟨(.int .i64), lo⟩, .val ⟨(.int .i64), hi⟩] (· = [⟨.bool, risB lo hi xs⟩])
  intro xs lo hi _
  refine ok_of_awp (wr := []) (cl := []) (ro := []) hE at_spec_l00Rises body_spec_l00Rises (l_spec_l00Rises xs lo hi) ?_
  rewrite [vc_spec_l00Rises xs lo hi]
  have g1 := ascAt_zero xs
  have g2 := allN_zero (risAt lo hi xs)
  have g3 : risB lo hi xs = allN (risAt lo hi xs) xs.length := rfl
  refine ⟨⟨0, ⟨?_, ⟨⟨rfl, ⟨rfl, ⟨rfl, ⟨?_, trivial⟩⟩⟩⟩, trivial⟩⟩⟩, fun k1 a0 => have b0x0 := risAt_eq lo hi xs k1; have b0x1 := ascAt_eq xs k1; have b0x2 := allN_succ (risAt lo hi xs) k1; have b0x3 := allN_bad (risAt lo hi xs) xs.length k1; have b0x4 := toNat_pred k1; fun a1 => ⟨fun a2 => ⟨?_, ⟨fun a3 => ⟨fun a4 => ⟨?_, ⟨?_, ⟨?_, fun a5 => fun a6 => fun a7 => ⟨fun a8 => ?_, fun a8 => ⟨?_, ⟨k1 + 1, ⟨?_, ⟨?_, ⟨⟨rfl, ⟨rfl, ⟨rfl, ⟨?_, trivial⟩⟩⟩⟩, trivial⟩⟩⟩⟩⟩⟩⟩⟩⟩, fun a4 => fun a5 => ⟨fun a6 => ?_, fun a6 => ⟨?_, ⟨k1 + 1, ⟨?_, ⟨?_, ⟨⟨rfl, ⟨rfl, ⟨rfl, ⟨?_, trivial⟩⟩⟩⟩, trivial⟩⟩⟩⟩⟩⟩⟩, fun a3 => fun a4 => ⟨fun a5 => ?_, fun a5 => ⟨?_, ⟨k1 + 1, ⟨?_, ⟨?_, ⟨⟨rfl, ⟨rfl, ⟨rfl, ⟨?_, trivial⟩⟩⟩⟩, trivial⟩⟩⟩⟩⟩⟩⟩⟩, fun a2 => ?_⟩⟩
  all_goals try and_intros
  all_goals first | rfl | trivial | omega | (simp only [decide_eq_true_eq, decide_eq_false_iff_not, idxOk, inI64, toNat_pred] at *; omega) | (simp only [toNat_pred, decide_eq_true_eq, decide_eq_false_iff_not, idxOk, inI64, ascB, risB] at *; first | omega | grind)

theorem good_spec_l00Rises : Ctr.Good k_spec_l00Rises := ok_spec_l00Rises ⟨good_spec_l00In, trivial⟩

def k_spec_l02One : Ctr := ⟨n_spec_l02One, [], ⟨(none, [⟨(.st .expr), GExpr.mk 2 0 []⟩])⟩⟩
def l_spec_l02One  : Nat → LoopInv := fun _ => .none
theorem vc_spec_l02One  : awp (envOf []) (bodyOf f_spec_l02One) (l_spec_l02One ) 0 (funPost (envOf []) f_spec_l02One fun r => areEq r [⟨(.st .expr), GExpr.mk 2 0 []⟩]) (startState f_spec_l02One []) =
  ((GExpr.mk (2 : Int) (0 : Int) []) = (GExpr.mk 2 0 [])) := by kernel_rfl
set_option maxRecDepth 4000 in
set_option maxHeartbeats 1000000 in
theorem ok_spec_l02One (hE : AllGood []) : Ctr.Good k_spec_l02One := by
  refine ⟨fnOk_of at_spec_l02One rfl (by decide), ?_⟩
  show True → OkCall prog n_spec_l02One [] (· = [⟨(.st .expr), GExpr.mk 2 0 []⟩])
  intro  _
  refine ok_of_awp (wr := []) (cl := []) (ro := []) hE at_spec_l02One body_spec_l02One (l_spec_l02One ) ?_
  rewrite [vc_spec_l02One ]
  refine ?_
  all_goals try and_intros
  all_goals first | rfl | trivial | omega | (simp only [decide_eq_true_eq, decide_eq_false_iff_not, idxOk, inI64, inKind, cutOk, makeOk, roomOk] at *; omega) | (simp [idxOk, inI64] at *; omega) | grind

theorem good_spec_l02One : Ctr.Good k_spec_l02One := ok_spec_l02One trivial

def k_spec_l02Zero : Ctr := ⟨n_spec_l02Zero, [], ⟨(none, [⟨(.st .expr), GExpr.mk 1 0 []⟩])⟩⟩
def l_spec_l02Zero  : Nat → LoopInv := fun _ => .none
theorem vc_spec_l02Zero  : awp (envOf []) (bodyOf f_spec_l02Zero) (l_spec_l02Zero ) 0 (funPost (envOf []) f_spec_l02Zero fun r => areEq r [⟨(.st .expr), GExpr.mk 1 0 []⟩]) (startState f_spec_l02Zero []) =
  ((GExpr.mk (1 : Int) (0 : Int) []) = (GExpr.mk 1 0 [])) := by kernel_rfl
set_option maxRecDepth 4000 in
set_option maxHeartbeats 1000000 in
theorem ok_spec_l02Zero (hE : AllGood []) : Ctr.Good k_spec_l02Zero := by
  refine ⟨fnOk_of at_spec_l02Zero rfl (by decide), ?_⟩
  show True → OkCall prog n_spec_l02Zero [] (· = [⟨(.st .expr), GExpr.mk 1 0 []⟩])
  intro  _
  refine ok_of_awp (wr := []) (cl := []) (ro := []) hE at_spec_l02Zero body_spec_l02Zero (l_spec_l02Zero ) ?_
  rewrite [vc_spec_l02Zero ]
  refine ?_
  all_goals try and_intros
  all_goals first | rfl | trivial | omega | (simp only [decide_eq_true_eq, decide_eq_false_iff_not, idxOk, inI64, inKind, cutOk, makeOk, roomOk] at *; omega) | (simp [idxOk, inI64] at *; omega) | grind

theorem good_spec_l02Zero : Ctr.Good k_spec_l02Zero := ok_spec_l02Zero trivial

def k_spec_l02Pair : Ctr := ⟨n_spec_l02Pair, [.v (.int .i64), .v (.st .expr), .v (.st .expr)], fun (k : Int) (a : GExpr) (b : GExpr) => ⟨(none, [⟨(.st .expr), GExpr.mk k 0 [a, b]⟩])⟩⟩
def l_spec_l02Pair (k : Int) (a : GExpr) (b : GExpr) : Nat → LoopInv := fun _ => .none
theorem vc_spec_l02Pair (k : Int) (a : GExpr) (b : GExpr) : awp (envOf [] [] [] [4, 5]) (bodyOf f_spec_l02Pair) (l_spec_l02Pair k a b) 0 (funPost (envOf [] [] [] [4, 5]) f_spec_l02Pair fun r => areEq r [⟨(.st .expr), GExpr.mk k 0 [a, b]⟩]) (startState f_spec_l02Pair [.val ⟨(.int .i64), k⟩, .val ⟨(.st .expr), a⟩, .val ⟨(.st .expr), b⟩]) =
  ((GExpr.mk k (0 : Int) ([a, b])) = (GExpr.mk k 0 [a, b])) := by kernel_rfl
set_option maxRecDepth 4000 in
set_option maxHeartbeats 1000000 in
theorem ok_spec_l02Pair (hE : AllGood []) : Ctr.Good k_spec_l02Pair := by
  refine ⟨fnOk_of at_spec_l02Pair rfl (by decide), ?_⟩
  show ∀ (k : Int) (a : GExpr) (b : GExpr), True → OkCall prog n_spec_l02Pair [.val ⟨(.int .i64), k⟩, .val ⟨(.st .expr), a⟩, .val ⟨(.st .expr), b⟩] (· = [⟨(.st .expr), GExpr.mk k 0 [a, b]⟩])
  intro k a b _
  refine ok_of_awp (wr := []) (cl := []) (ro := [4, 5]) hE at_spec_l02Pair body_spec_l02Pair (l_spec_l02Pair k a b) ?_
  rewrite [vc_spec_l02Pair k a b]
  refine ?_
  all_goals try and_intros
  all_goals first | rfl | trivial | omega | (simp only [decide_eq_true_eq, decide_eq_false_iff_not, idxOk, inI64, inKind, cutOk, makeOk, roomOk] at *; omega) | (simp [idxOk, inI64] at *; omega) | grind

theorem good_spec_l02Pair : Ctr.Good k_spec_l02Pair := ok_spec_l02Pair trivial

def k_spec_l02AtomExpr : Ctr := ⟨n_spec_l02AtomExpr, [.v (.st .sig), .v (.int .i64)], fun (gg : GSig) (atom : Int) => ⟨(some ((0 ≤ gg.tests ∧ gg.tests ≤ 3) ∧ 0 ≤ atom ∧ atom ≤ 4096), [⟨(.st .expr), conN atom gg.tests.toNat⟩])⟩⟩
def l_spec_l02AtomExpr (gg : GSig) (atom : Int) : Nat → LoopInv := (fun zb => if Nat.beq zb 0 then .mk (Nat) (fun i => i ≤ gg.tests.toNat) (fun i => gg.tests.toNat - i) [24] [0, 3, 8] (fun i => [(6, .imm ⟨(.int .i64), ((i : Int) : Int)⟩)]) [1, 2, 4, 6, 7, 9, 10, 11, 12, 13, 14, 15, 16, 17, 18, 19, 20, 21, 22, 23, 24, 25, 26, 27, 28, 29, 30, 31, 32] (fun i => [(5, .box [.imm ⟨(.int .i64), ((conN atom i).kind : Int)⟩, .imm ⟨(.int .i64), ((conN atom i).num : Int)⟩, .imm ⟨(.slice (.st .expr)), ((conN atom i).kids : List GExpr)⟩])]) [] [] (fun i => fun _ => .none) else .none)
theorem vc_spec_l02AtomExpr (gg : GSig) (atom : Int) : awp (envOf [k_spec_l02One, k_spec_l02Pair] [] [] [2]) (bodyOf f_spec_l02AtomExpr) (l_spec_l02AtomExpr gg atom) 0 (funPost (envOf [k_spec_l02One, k_spec_l02Pair] [] [] [2]) f_spec_l02AtomExpr fun r => areEq r [⟨(.st .expr), conN atom gg.tests.toNat⟩]) (startState f_spec_l02AtomExpr [.val ⟨(.st .sig), gg⟩, .val ⟨(.int .i64), atom⟩]) =
  (((∃ i1 : Nat, (i1 ≤ gg.tests.toNat ∧ ((atom = atom ∧ (gg = gg ∧ (True ∧ (True ∧ ((0 : Int) = (i1 : Int) ∧ True))))) ∧ (((GExpr.mk 2 0 []).kind = ((conN atom i1).kind) ∧ ((GExpr.mk 2 0 []).num = ((conN atom i1).num) ∧ ((GExpr.mk 2 0 []).kids = ((conN atom i1).kids) ∧ True))) ∧ (((0 : Int) = (0 : Int) ∧ ((0 : Int) = (0 : Int) ∧ (True ∧ True))) ∧ True))))) ∧ (∀ i1 : Nat, (i1 ≤ gg.tests.toNat →
 (inI64 gg.tests →
 (((decide ((i1 : Int) < gg.tests)) = true →
 (inKind .u64 (i1 : Int) ∧ (((0 : Int) ≤ (i1 : Int) ∧ ((i1 : Int) < (64 : Int) ∧ inI64 (atom.fdiv (2 ^ (i1 : Int).toNat)))) ∧ (((0 : Int) ≤ (atom.fdiv (2 ^ (i1 : Int).toNat)) ∧ ((0 : Int) ≤ (1 : Int) ∧ (inI64 (atom.fdiv (2 ^ (i1 : Int).toNat)) ∧ inI64 (1 : Int)))) ∧ (((decide (((((atom.fdiv (2 ^ (i1 : Int).toNat)).toNat &&& (1 : Int).toNat : Nat) : Int)) = (0 : Int))) = true →
 (((decide ((i1 : Int) = (0 : Int))) = true →
 (inI64 ((i1 : Int) + (1 : Int)) ∧ (∃ i2 : Nat, (i2 ≤ gg.tests.toNat ∧ (gg.tests.toNat - i2 < gg.tests.toNat - i1 ∧ ((atom = atom ∧ (gg = gg ∧ (True ∧ (True ∧ (((i1 : Int) + (1 : Int)) = (i2 : Int) ∧ True))))) ∧ (((5 : Int) = ((conN atom i2).kind) ∧ ((0 : Int) = ((conN atom i2).num) ∧ (([(GExpr.mk (3 : Int) (i1 : Int) [])]) = ((conN atom i2).kids) ∧ True))) ∧ (((0 : Int) = (0 : Int) ∧ ((0 : Int) = (0 : Int) ∧ (True ∧ True))) ∧ True)))))))) ∧ ((decide ((i1 : Int) = (0 : Int))) = false →
 (inI64 ((i1 : Int) + (1 : Int)) ∧ (∃ i2 : Nat, (i2 ≤ gg.tests.toNat ∧ (gg.tests.toNat - i2 < gg.tests.toNat - i1 ∧ ((atom = atom ∧ (gg = gg ∧ (True ∧ (True ∧ (((i1 : Int) + (1 : Int)) = (i2 : Int) ∧ True))))) ∧ (((GExpr.mk (7 : Int) 0 [(GExpr.mk ((conN atom i1).kind) ((conN atom i1).num) ((conN atom i1).kids)), (GExpr.mk (5 : Int) (0 : Int) ([(GExpr.mk (3 : Int) (i1 : Int) [])]))]).kind = ((conN atom i2).kind) ∧ ((GExpr.mk (7 : Int) 0 [(GExpr.mk ((conN atom i1).kind) ((conN atom i1).num) ((conN atom i1).kids)), (GExpr.mk (5 : Int) (0 : Int) ([(GExpr.mk (3 : Int) (i1 : Int) [])]))]).num = ((conN atom i2).num) ∧ ((GExpr.mk (7 : Int) 0 [(GExpr.mk ((conN atom i1).kind) ((conN atom i1).num) ((conN atom i1).kids)), (GExpr.mk (5 : Int) (0 : Int) ([(GExpr.mk (3 : Int) (i1 : Int) [])]))]).kids = ((conN atom i2).kids) ∧ True))) ∧ (((0 : Int) = (0 : Int) ∧ ((0 : Int) = (0 : Int) ∧ (True ∧ True))) ∧ True)))))))))) ∧ ((decide (((((atom.fdiv (2 ^ (i1 : Int).toNat)).toNat &&& (1 : Int).toNat : Nat) : Int)) = (0 : Int))) = false →
 (((decide ((i1 : Int) = (0 : Int))) = true →
 (inI64 ((i1 : Int) + (1 : Int)) ∧ (∃ i2 : Nat, (i2 ≤ gg.tests.toNat ∧ (gg.tests.toNat - i2 < gg.tests.toNat - i1 ∧ ((atom = atom ∧ (gg = gg ∧ (True ∧ (True ∧ (((i1 : Int) + (1 : Int)) = (i2 : Int) ∧ True))))) ∧ (((3 : Int) = ((conN atom i2).kind) ∧ ((i1 : Int) = ((conN atom i2).num) ∧ (((conN atom i2).kids) = [] ∧ True))) ∧ (((0 : Int) = (0 : Int) ∧ ((0 : Int) = (0 : Int) ∧ (True ∧ True))) ∧ True)))))))) ∧ ((decide ((i1 : Int) = (0 : Int))) = false →
 (inI64 ((i1 : Int) + (1 : Int)) ∧ (∃ i2 : Nat, (i2 ≤ gg.tests.toNat ∧ (gg.tests.toNat - i2 < gg.tests.toNat - i1 ∧ ((atom = atom ∧ (gg = gg ∧ (True ∧ (True ∧ (((i1 : Int) + (1 : Int)) = (i2 : Int) ∧ True))))) ∧ (((GExpr.mk (7 : Int) 0 [(GExpr.mk ((conN atom i1).kind) ((conN atom i1).num) ((conN atom i1).kids)), (GExpr.mk (3 : Int) (i1 : Int) [])]).kind = ((conN atom i2).kind) ∧ ((GExpr.mk (7 : Int) 0 [(GExpr.mk ((conN atom i1).kind) ((conN atom i1).num) ((conN atom i1).kids)), (GExpr.mk (3 : Int) (i1 : Int) [])]).num = ((conN atom i2).num) ∧ ((GExpr.mk (7 : Int) 0 [(GExpr.mk ((conN atom i1).kind) ((conN atom i1).num) ((conN atom i1).kids)), (GExpr.mk (3 : Int) (i1 : Int) [])]).kids = ((conN atom i2).kids) ∧ True))) ∧ (((0 : Int) = (0 : Int) ∧ ((0 : Int) = (0 : Int) ∧ (True ∧ True))) ∧ True))))))))))))))) ∧ ((decide ((i1 : Int) < gg.tests)) = false →
 (GExpr.mk ((conN atom i1).kind) ((conN atom i1).num) ((conN atom i1).kids)) = (conN atom gg.tests.toNat)))))))) := by kernel_rfl
set_option maxRecDepth 4000 in
set_option maxHeartbeats 1000000 in
theorem ok_spec_l02AtomExpr (hE : AllGood [k_spec_l02One, k_spec_l02Pair]) : Ctr.Good k_spec_l02AtomExpr := by
  refine ⟨fnOk_of at_spec_l02AtomExpr rfl (by decide), ?_⟩
  show ∀ (gg : GSig) (atom : Int), ((0 ≤ gg.tests ∧ gg.tests ≤ 3) ∧ 0 ≤ atom ∧ atom ≤ 4096) → OkCall prog n_spec_l02AtomExpr [.val ⟨(.st .sig), gg⟩, .val ⟨(.int .i64), atom⟩] (· = [⟨(.st .expr), conN atom gg.tests.toNat⟩])
  intro gg atom hp
  refine ok_of_awp (wr := []) (cl := []) (ro := [2]) hE at_spec_l02AtomExpr body_spec_l02AtomExpr (l_spec_l02AtomExpr gg atom) ?_
  rewrite [vc_spec_l02AtomExpr gg atom]
  have g0 : conN atom 0 = ⟨2, 0, []⟩ := rfl
  refine ⟨⟨0, ⟨?_, ⟨⟨rfl, ⟨rfl, ⟨trivial, ⟨trivial, ⟨?_, trivial⟩⟩⟩⟩⟩, ⟨⟨?_, ⟨?_, ⟨?_, trivial⟩⟩⟩, ⟨⟨rfl, ⟨rfl, ⟨trivial, trivial⟩⟩⟩, trivial⟩⟩⟩⟩⟩, fun i1 a0 => have b0x0 := conN_one atom i1; have b0x1 := conN_two atom i1; have b0x2 := litA_t atom i1; have b0x3 := litA_f atom i1; have b0x4 := fdiv_bounds atom i1 hp.2; fun a1 => ⟨fun a2 => ⟨?_, ⟨⟨?_, ⟨?_, ?_⟩⟩, ⟨⟨?_, ⟨?_, ⟨?_, ?_⟩⟩⟩, ⟨fun a3 => ⟨fun a4 => ⟨?_, ⟨i1 + 1, ⟨?_, ⟨?_, ⟨⟨rfl, ⟨rfl, ⟨trivial, ⟨trivial, ⟨?_, trivial⟩⟩⟩⟩⟩, ⟨⟨?_, ⟨?_, ⟨?_, trivial⟩⟩⟩, ⟨⟨rfl, ⟨rfl, ⟨trivial, trivial⟩⟩⟩, trivial⟩⟩⟩⟩⟩⟩⟩, fun a4 => ⟨?_, ⟨i1 + 1, ⟨?_, ⟨?_, ⟨⟨rfl, ⟨rfl, ⟨trivial, ⟨trivial, ⟨?_, trivial⟩⟩⟩⟩⟩, ⟨⟨?_, ⟨?_, ⟨?_, trivial⟩⟩⟩, ⟨⟨rfl, ⟨rfl, ⟨trivial, trivial⟩⟩⟩, trivial⟩⟩⟩⟩⟩⟩⟩⟩, fun a3 => ⟨fun a4 => ⟨?_, ⟨i1 + 1, ⟨?_, ⟨?_, ⟨⟨rfl, ⟨rfl, ⟨trivial, ⟨trivial, ⟨?_, trivial⟩⟩⟩⟩⟩, ⟨⟨?_, ⟨?_, ⟨?_, trivial⟩⟩⟩, ⟨⟨rfl, ⟨rfl, ⟨trivial, trivial⟩⟩⟩, trivial⟩⟩⟩⟩⟩⟩⟩, fun a4 => ⟨?_, ⟨i1 + 1, ⟨?_, ⟨?_, ⟨⟨rfl, ⟨rfl, ⟨trivial, ⟨trivial, ⟨?_, trivial⟩⟩⟩⟩⟩, ⟨⟨?_, ⟨?_, ⟨?_, trivial⟩⟩⟩, ⟨⟨rfl, ⟨rfl, ⟨trivial, trivial⟩⟩⟩, trivial⟩⟩⟩⟩⟩⟩⟩⟩⟩⟩⟩⟩, fun a2 => ?_⟩⟩
  all_goals try and_intros
  all_goals first | rfl | trivial | omega | (simp only [decide_eq_true_eq, decide_eq_false_iff_not, idxOk, inI64, inKind_u64, inKind_i64, u64_min, u64_max] at *; omega) | ((try simp only [mkE] at *); first | rfl | omega | (simp_all; done) | grind [u64_min, u64_max, inI64])

theorem good_spec_l02AtomExpr : Ctr.Good k_spec_l02AtomExpr := ok_spec_l02AtomExpr ⟨good_spec_l02One, good_spec_l02Pair, trivial⟩

def k_spec_l07Of : Ctr := ⟨n_spec_l07Of, [.v (.st .sig), .v (.slice (.int .i64))], fun (gg : GSig) (xs : List Int) => ⟨(some ((0 ≤ gg.tests ∧ gg.tests ≤ 3) ∧ allL (inB0 8) xs = true ∧ xs.length ≤ 8), [⟨(.st .expr), ofA gg xs⟩])⟩⟩
def l_spec_l07Of (gg : GSig) (xs : List Int) : Nat → LoopInv := (fun zb => if Nat.beq zb 0 then .mk (Nat) (fun i => i ≤ xs.length) (fun i => xs.length - i) [] [0, 3, 7] (fun i => [(6, .imm ⟨(.int .i64), ((i : Int) : Int)⟩)]) [1, 2, 4, 6, 8, 9, 10, 11, 12, 13, 14, 15, 16, 17, 18, 19, 20, 21, 22] (fun i => [(5, .box [.imm ⟨(.int .i64), ((ofA gg (xs.take i)).kind : Int)⟩, .imm ⟨(.int .i64), ((ofA gg (xs.take i)).num : Int)⟩, .imm ⟨(.slice (.st .expr)), ((ofA gg (xs.take i)).kids : List GExpr)⟩])]) [] [] (fun i => fun _ => .none) else .none)
theorem vc_spec_l07Of (gg : GSig) (xs : List Int) : awp (envOf [k_spec_l02Zero, k_spec_l02AtomExpr, k_spec_l02Pair] [] [] [2]) (bodyOf f_spec_l07Of) (l_spec_l07Of gg xs) 0 (funPost (envOf [k_spec_l02Zero, k_spec_l02AtomExpr, k_spec_l02Pair] [] [] [2]) f_spec_l07Of fun r => areEq r [⟨(.st .expr), ofA gg xs⟩]) (startState f_spec_l07Of [.val ⟨(.st .sig), gg⟩, .val ⟨(.slice (.int .i64)), xs⟩]) =
  (((∃ i1 : Nat, (i1 ≤ xs.length ∧ ((xs = xs ∧ (gg = gg ∧ (True ∧ (True ∧ ((0 : Int) = (i1 : Int) ∧ True))))) ∧ (((GExpr.mk 1 0 []).kind = ((ofA gg (xs.take i1)).kind) ∧ ((GExpr.mk 1 0 []).num = ((ofA gg (xs.take i1)).num) ∧ ((GExpr.mk 1 0 []).kids = ((ofA gg (xs.take i1)).kids) ∧ True))) ∧ (((0 : Int) = (0 : Int) ∧ ((0 : Int) = (0 : Int) ∧ (True ∧ True))) ∧ True))))) ∧ (∀ i1 : Nat, (i1 ≤ xs.length →
 (inI64 ((xs.length : Int)) →
 (((decide ((i1 : Int) < ((xs.length : Int)))) = true →
 (idxOk (i1 : Int) xs.length ∧ (((0 ≤ gg.tests ∧ gg.tests ≤ 3) ∧ 0 ≤ (xs.getD i1 (0 : Int)) ∧ (xs.getD i1 (0 : Int)) ≤ 4096) ∧ (inI64 (xs.getD i1 (0 : Int)) →
 (inI64 ((i1 : Int) + (1 : Int)) ∧ (∃ i2 : Nat, (i2 ≤ xs.length ∧ (xs.length - i2 < xs.length - i1 ∧ ((xs = xs ∧ (gg = gg ∧ (True ∧ (True ∧ (((i1 : Int) + (1 : Int)) = (i2 : Int) ∧ True))))) ∧ (((GExpr.mk (6 : Int) 0 [(GExpr.mk ((ofA gg (xs.take i1)).kind) ((ofA gg (xs.take i1)).num) ((ofA gg (xs.take i1)).kids)), (conN (xs.getD i1 (0 : Int)) gg.tests.toNat)]).kind = ((ofA gg (xs.take i2)).kind) ∧ ((GExpr.mk (6 : Int) 0 [(GExpr.mk ((ofA gg (xs.take i1)).kind) ((ofA gg (xs.take i1)).num) ((ofA gg (xs.take i1)).kids)), (conN (xs.getD i1 (0 : Int)) gg.tests.toNat)]).num = ((ofA gg (xs.take i2)).num) ∧ ((GExpr.mk (6 : Int) 0 [(GExpr.mk ((ofA gg (xs.take i1)).kind) ((ofA gg (xs.take i1)).num) ((ofA gg (xs.take i1)).kids)), (conN (xs.getD i1 (0 : Int)) gg.tests.toNat)]).kids = ((ofA gg (xs.take i2)).kids) ∧ True))) ∧ (((0 : Int) = (0 : Int) ∧ ((0 : Int) = (0 : Int) ∧ (True ∧ True))) ∧ True))))))))))) ∧ ((decide ((i1 : Int) < ((xs.length : Int)))) = false →
 (GExpr.mk ((ofA gg (xs.take i1)).kind) ((ofA gg (xs.take i1)).num) ((ofA gg (xs.take i1)).kids)) = (ofA gg xs)))))))) := by kernel_rfl
set_option maxRecDepth 4000 in
set_option maxHeartbeats 1000000 in
theorem ok_spec_l07Of (hE : AllGood [k_spec_l02Zero, k_spec_l02AtomExpr, k_spec_l02Pair]) : Ctr.Good k_spec_l07Of := by
  refine ⟨fnOk_of at_spec_l07Of rfl (by decide), ?_⟩
  show ∀ (gg : GSig) (xs : List Int), ((0 ≤ gg.tests ∧ gg.tests ≤ 3) ∧ allL (inB0 8) xs = true ∧ xs.length ≤ 8) → OkCall prog n_spec_l07Of [.val ⟨(.st .sig), gg⟩, .val ⟨(.slice (.int .i64)), xs⟩] (· = [⟨(.st .expr), ofA gg xs⟩])
  intro gg xs hp
  refine ok_of_awp (wr := []) (cl := []) (ro := [2]) hE at_spec_l07Of body_spec_l07Of (l_spec_l07Of gg xs) ?_
  rewrite [vc_spec_l07Of gg xs]
  have g0 : ofA gg (xs.take 0) = ⟨1, 0, []⟩ := by simp [ofA, sumE]
  have g2 : ∀ i, xs.length ≤ i → xs.take i = xs := fun i h => List.take_of_length_le h
  refine ⟨⟨0, ⟨?_, ⟨⟨rfl, ⟨rfl, ⟨trivial, ⟨trivial, ⟨?_, trivial⟩⟩⟩⟩⟩, ⟨⟨?_, ⟨?_, ⟨?_, trivial⟩⟩⟩, ⟨⟨rfl, ⟨rfl, ⟨trivial, trivial⟩⟩⟩, trivial⟩⟩⟩⟩⟩, fun i1 a0 => have b0x0 := ofA_snoc gg xs i1; have b0x1 := inB0_at 8 xs i1; fun a1 => ⟨fun a2 => ⟨?_, ⟨?_, fun a3 => ⟨?_, ⟨i1 + 1, ⟨?_, ⟨?_, ⟨⟨rfl, ⟨rfl, ⟨trivial, ⟨trivial, ⟨?_, trivial⟩⟩⟩⟩⟩, ⟨⟨?_, ⟨?_, ⟨?_, trivial⟩⟩⟩, ⟨⟨rfl, ⟨rfl, ⟨trivial, trivial⟩⟩⟩, trivial⟩⟩⟩⟩⟩⟩⟩⟩⟩, fun a2 => ?_⟩⟩
  all_goals try and_intros
  all_goals first | rfl | trivial | omega | (simp only [decide_eq_true_eq, decide_eq_false_iff_not, idxOk, inI64, mkE] at *; first | rfl | omega | (have := b0x1 (by omega) hp.2.1; omega) | (rw [b0x0 (by omega)]; done) | (rw [g2 i1 (by omega)]; done) | (rw [g0]; done))

theorem good_spec_l07Of : Ctr.Good k_spec_l07Of := ok_spec_l07Of ⟨good_spec_l02Zero, good_spec_l02AtomExpr, good_spec_l02Pair, trivial⟩

end
end Go.Proofs.Ytiikoicminohpaa

/- Weakest and strongest conditions: what is answered. Printed by vmk.py. -/
import Derived.Test.YtcdppmpjplhgkaaVmUse
import Derived.Test.YtcdppmpjplhgkaaVmLib
import Derived.Test.YtcdppmpjplhgkaaVmUnder
set_option linter.unusedVariables false
set_option linter.unusedSimpArgs false
set_option linter.unusedSectionVars false
namespace Go.Proofs.Ytcdppmpjplhgkaa
noncomputable section

def ko_impl_weakest : Ctr := ⟨n_impl_weakest, [.v (.st .sig), .v (.slice (.st .premise)), .v (.st .prog), .v (.st .expr)], fun (gg : GSig) (xs : List GPremise) (p : GProg) (c : GExpr) => ⟨(some (okL gg xs p ∧ goodC c = true), [⟨(.slice (.int .i64)), wkL (leadT (atomsN gg) xs p) c⟩])⟩⟩
def lo_impl_weakest (gg : GSig) (xs : List GPremise) (p : GProg) (c : GExpr) : Nat → LoopInv := (fun zb => if Nat.beq zb 0 then .mk (Nat) (fun k => k ≤ (leadT (atomsN gg) xs p).length) (fun k => (leadT (atomsN gg) xs p).length - k) [] [0, 1, 2, 3, 4, 5, 6, 15, 16, 17, 18] (fun k => [(21, .imm ⟨(.int .i64), ((k : Int) : Int)⟩), (9, .row 15)]) [7, 8, 9, 10, 11, 12, 13, 14, 19, 20, 21, 22, 23, 24, 25, 26, 27, 28, 29, 30, 31, 32, 33, 34, 35, 36, 37, 38, 39, 40, 41, 42, 43, 44, 45, 46, 47, 48, 49, 50] (fun k => [(15, .row T_int64 (.int .i64) (selN (wkAt (leadT (atomsN gg) xs p) c) k : List Int))]) [] [] (fun k => (fun zb => if Nat.beq zb 2 then .mk (Nat) (fun j => j ≤ ((leadT (atomsN gg) xs p).getD k []).length) (fun j => ((leadT (atomsN gg) xs p).getD k []).length - j) [] [0, 1, 2, 3, 4, 5, 6, 15, 16, 17, 18] (fun j => [(28, .imm ⟨(.int .i64), ((j : Int) : Int)⟩), (12, .imm ⟨.bool, (allN (sfAt (leadT (atomsN gg) xs p) c k) j : Bool)⟩)]) [7, 8, 9, 10, 11, 12, 13, 14, 15, 19, 20, 21, 22, 23, 24, 25, 26, 27, 28, 29, 30, 31, 32, 33, 34, 35, 36, 37, 38, 39, 40, 41, 42, 43, 44, 45, 46, 47, 48, 49, 50] (fun j => []) [] [] (fun j => fun _ => .none) else .none)) else .none)
abbrev qo_impl_weakest_0 (gg : GSig) (xs : List GPremise) (p : GProg) (k1 : Nat) (j2 : Nat) (j3 : Nat) : Prop := ((leadT (atomsN gg) xs p) = (leadT (atomsN gg) xs p) ∧ ((((leadT (atomsN gg) xs p).length : Int)) = (((leadT (atomsN gg) xs p).length : Int)) ∧ ((k1 : Int) = (k1 : Int) ∧ ((decide ((k1 : Int) < (((leadT (atomsN gg) xs p).length : Int)))) = (decide ((k1 : Int) < (((leadT (atomsN gg) xs p).length : Int)))) ∧ ((k1 : Int) = (k1 : Int) ∧ (((leadT (atomsN gg) xs p).getD k1 []) = ((leadT (atomsN gg) xs p).getD k1 []) ∧ (((leadT (atomsN gg) xs p).getD k1 []) = ((leadT (atomsN gg) xs p).getD k1 []) ∧ (((leadT (atomsN gg) xs p).getD k1 []) = ((leadT (atomsN gg) xs p).getD k1 []) ∧ (((((leadT (atomsN gg) xs p).getD k1 []).length : Int)) = ((((leadT (atomsN gg) xs p).getD k1 []).length : Int)) ∧ (((j2 : Int) + (1 : Int)) = (j3 : Int) ∧ True))))))))))
abbrev qo_impl_weakest_1 (gg : GSig) (xs : List GPremise) (p : GProg) (c : GExpr) (k1 : Nat) (k3 : Nat) : Prop := (c = c ∧ (True ∧ (True ∧ ((leadT (atomsN gg) xs p) = (leadT (atomsN gg) xs p) ∧ ((((leadT (atomsN gg) xs p).length : Int)) = (((leadT (atomsN gg) xs p).length : Int)) ∧ (((k1 : Int) + (1 : Int)) = (k3 : Int) ∧ True))))))
theorem vco_impl_weakest (gg : GSig) (xs : List GPremise) (p : GProg) (c : GExpr) : awp (envO [k_impl_leads, k_impl_truth] [] [] [] [] [] [4, 6, 7]) (bodyOf f_impl_weakest) (lo_impl_weakest gg xs p c) 0 (ownPost (envO [k_impl_leads, k_impl_truth] [] [] [] [] [] [4, 6, 7]) f_impl_weakest fun r => areEq r [⟨(.slice (.int .i64)), wkL (leadT (atomsN gg) xs p) c⟩]) (startState f_impl_weakest [.val ⟨(.st .sig), gg⟩, .val ⟨(.slice (.st .premise)), xs⟩, .val ⟨(.st .prog), p⟩, .val ⟨(.st .expr), c⟩]) =
  ((okL gg xs p ∧ ((leadT (atomsN gg) xs p).length ≤ 140737488355328 →
 (inI64 (((leadT (atomsN gg) xs p).length : Int)) →
 ((∃ k1 : Nat, (k1 ≤ (leadT (atomsN gg) xs p).length ∧ ((c = c ∧ (True ∧ (True ∧ ((leadT (atomsN gg) xs p) = (leadT (atomsN gg) xs p) ∧ ((((leadT (atomsN gg) xs p).length : Int)) = (((leadT (atomsN gg) xs p).length : Int)) ∧ ((0 : Int) = (k1 : Int) ∧ True)))))) ∧ ([] = (selN (wkAt (leadT (atomsN gg) xs p) c) k1) ∧ True)))) ∧ (∀ k1 : Nat, (k1 ≤ (leadT (atomsN gg) xs p).length →
 (((decide ((k1 : Int) < (((leadT (atomsN gg) xs p).length : Int)))) = true →
 (idxOk (k1 : Int) (leadT (atomsN gg) xs p).length ∧ (((leadT (atomsN gg) xs p).getD k1 []).length ≤ 140737488355328 →
 (inI64 ((((leadT (atomsN gg) xs p).getD k1 []).length : Int)) →
 ((∃ j2 : Nat, (j2 ≤ ((leadT (atomsN gg) xs p).getD k1 []).length ∧ ((c = c ∧ (True ∧ (True ∧ ((k1 : Int) = (k1 : Int) ∧ (((leadT (atomsN gg) xs p).getD k1 []) = ((leadT (atomsN gg) xs p).getD k1 []) ∧ (true = (allN (sfAt (leadT (atomsN gg) xs p) c k1) j2) ∧ ((leadT (atomsN gg) xs p) = (leadT (atomsN gg) xs p) ∧ ((((leadT (atomsN gg) xs p).length : Int)) = (((leadT (atomsN gg) xs p).length : Int)) ∧ ((k1 : Int) = (k1 : Int) ∧ ((decide ((k1 : Int) < (((leadT (atomsN gg) xs p).length : Int)))) = (decide ((k1 : Int) < (((leadT (atomsN gg) xs p).length : Int)))) ∧ ((k1 : Int) = (k1 : Int) ∧ (((leadT (atomsN gg) xs p).getD k1 []) = ((leadT (atomsN gg) xs p).getD k1 []) ∧ (((leadT (atomsN gg) xs p).getD k1 []) = ((leadT (atomsN gg) xs p).getD k1 []) ∧ (((leadT (atomsN gg) xs p).getD k1 []) = ((leadT (atomsN gg) xs p).getD k1 []) ∧ (((((leadT (atomsN gg) xs p).getD k1 []).length : Int)) = ((((leadT (atomsN gg) xs p).getD k1 []).length : Int)) ∧ ((0 : Int) = (j2 : Int) ∧ True)))))))))))))))) ∧ ((selN (wkAt (leadT (atomsN gg) xs p) c) k1) = (selN (wkAt (leadT (atomsN gg) xs p) c) k1) ∧ True)))) ∧ (∀ j2 : Nat, (j2 ≤ ((leadT (atomsN gg) xs p).getD k1 []).length →
 (((decide ((j2 : Int) < ((((leadT (atomsN gg) xs p).getD k1 []).length : Int)))) = true →
 (idxOk (j2 : Int) ((leadT (atomsN gg) xs p).getD k1 []).length ∧ (((allN (sfAt (leadT (atomsN gg) xs p) c k1) j2) = true →
 (((!(((leadT (atomsN gg) xs p).getD k1 []).getD j2 false)) = false →
 ((goodC c = true ∧ 0 ≤ (j2 : Int) ∧ (j2 : Int) ≤ 4096) ∧ (inI64 ((j2 : Int) + (1 : Int)) ∧ (∃ j3 : Nat, (j3 ≤ ((leadT (atomsN gg) xs p).getD k1 []).length ∧ (((leadT (atomsN gg) xs p).getD k1 []).length - j3 < ((leadT (atomsN gg) xs p).getD k1 []).length - j2 ∧ ((c = c ∧ (True ∧ (True ∧ ((k1 : Int) = (k1 : Int) ∧ (((leadT (atomsN gg) xs p).getD k1 []) = ((leadT (atomsN gg) xs p).getD k1 []) ∧ ((truE (j2 : Int) c) = (allN (sfAt (leadT (atomsN gg) xs p) c k1) j3) ∧ (qo_impl_weakest_0 gg xs p k1 j2 j3))))))) ∧ ((selN (wkAt (leadT (atomsN gg) xs p) c) k1) = (selN (wkAt (leadT (atomsN gg) xs p) c) k1) ∧ True)))))))) ∧ ((!(((leadT (atomsN gg) xs p).getD k1 []).getD j2 false)) = (!false) →
 (inI64 ((j2 : Int) + (1 : Int)) ∧ (∃ j3 : Nat, (j3 ≤ ((leadT (atomsN gg) xs p).getD k1 []).length ∧ (((leadT (atomsN gg) xs p).getD k1 []).length - j3 < ((leadT (atomsN gg) xs p).getD k1 []).length - j2 ∧ ((c = c ∧ (True ∧ (True ∧ ((k1 : Int) = (k1 : Int) ∧ (((leadT (atomsN gg) xs p).getD k1 []) = ((leadT (atomsN gg) xs p).getD k1 []) ∧ (true = (allN (sfAt (leadT (atomsN gg) xs p) c k1) j3) ∧ (qo_impl_weakest_0 gg xs p k1 j2 j3))))))) ∧ ((selN (wkAt (leadT (atomsN gg) xs p) c) k1) = (selN (wkAt (leadT (atomsN gg) xs p) c) k1) ∧ True))))))))) ∧ ((allN (sfAt (leadT (atomsN gg) xs p) c k1) j2) = (!true) →
 (inI64 ((j2 : Int) + (1 : Int)) ∧ (∃ j3 : Nat, (j3 ≤ ((leadT (atomsN gg) xs p).getD k1 []).length ∧ (((leadT (atomsN gg) xs p).getD k1 []).length - j3 < ((leadT (atomsN gg) xs p).getD k1 []).length - j2 ∧ ((c = c ∧ (True ∧ (True ∧ ((k1 : Int) = (k1 : Int) ∧ (((leadT (atomsN gg) xs p).getD k1 []) = ((leadT (atomsN gg) xs p).getD k1 []) ∧ (false = (allN (sfAt (leadT (atomsN gg) xs p) c k1) j3) ∧ (qo_impl_weakest_0 gg xs p k1 j2 j3))))))) ∧ ((selN (wkAt (leadT (atomsN gg) xs p) c) k1) = (selN (wkAt (leadT (atomsN gg) xs p) c) k1) ∧ True)))))))))) ∧ ((decide ((j2 : Int) < ((((leadT (atomsN gg) xs p).getD k1 []).length : Int)))) = false →
 (((allN (sfAt (leadT (atomsN gg) xs p) c k1) j2) = true →
 (roomOk ((selN (wkAt (leadT (atomsN gg) xs p) c) k1).length + ([(k1 : Int)]).length) 8 ∧ (inI64 ((k1 : Int) + (1 : Int)) ∧ (∃ k3 : Nat, (k3 ≤ (leadT (atomsN gg) xs p).length ∧ ((leadT (atomsN gg) xs p).length - k3 < (leadT (atomsN gg) xs p).length - k1 ∧ ((qo_impl_weakest_1 gg xs p c k1 k3) ∧ (((selN (wkAt (leadT (atomsN gg) xs p) c) k1) ++ ([(k1 : Int)])) = (selN (wkAt (leadT (atomsN gg) xs p) c) k3) ∧ True)))))))) ∧ ((allN (sfAt (leadT (atomsN gg) xs p) c k1) j2) = false →
 (inI64 ((k1 : Int) + (1 : Int)) ∧ (∃ k3 : Nat, (k3 ≤ (leadT (atomsN gg) xs p).length ∧ ((leadT (atomsN gg) xs p).length - k3 < (leadT (atomsN gg) xs p).length - k1 ∧ ((qo_impl_weakest_1 gg xs p c k1 k3) ∧ ((selN (wkAt (leadT (atomsN gg) xs p) c) k1) = (selN (wkAt (leadT (atomsN gg) xs p) c) k3) ∧ True))))))))))))))))) ∧ ((decide ((k1 : Int) < (((leadT (atomsN gg) xs p).length : Int)))) = false →
 (selN (wkAt (leadT (atomsN gg) xs p) c) k1) = (wkL (leadT (atomsN gg) xs p) c)))))))))) := by kernel_rfl
set_option maxRecDepth 4000 in
set_option maxHeartbeats 1000000 in
theorem oko_impl_weakest (hE : AllGood [k_impl_leads, k_impl_truth]) (hO : AllO []) (hM : AllM []) : Ctr.OGood ko_impl_weakest := by
  refine ⟨fnOk_of at_impl_weakest rfl (by decide), ?_⟩
  show ∀ (gg : GSig) (xs : List GPremise) (p : GProg) (c : GExpr), (okL gg xs p ∧ goodC c = true) → OkOwn prog n_impl_weakest [.val ⟨(.st .sig), gg⟩, .val ⟨(.slice (.st .premise)), xs⟩, .val ⟨(.st .prog), p⟩, .val ⟨(.st .expr), c⟩] [⟨(.slice (.int .i64)), wkL (leadT (atomsN gg) xs p) c⟩]
  intro gg xs p c hp
  refine own_of_awp (own := []) (wr := []) (cl := []) (ro := [4, 6, 7]) hE hO hM at_impl_weakest body_impl_weakest (lo_impl_weakest gg xs p c) ?_
  rewrite [vco_impl_weakest gg xs p c]
  have f1 := leadT_small gg xs p hp.1
  refine ⟨?_, fun a0 => fun a1 => ⟨⟨0, ⟨?_, ⟨⟨rfl, ⟨trivial, ⟨trivial, ⟨rfl, ⟨rfl, ⟨?_, trivial⟩⟩⟩⟩⟩⟩, ⟨?_, trivial⟩⟩⟩⟩, fun k1 a2 => have b2x0 := selN_t (wkAt (leadT (atomsN gg) xs p) c) k1; have b2x1 := selN_f (wkAt (leadT (atomsN gg) xs p) c) k1; have b2x2 := selN_len (wkAt (leadT (atomsN gg) xs p) c) k1; have b2x3 := wkL_eq (leadT (atomsN gg) xs p) c k1; have b2x4 := f1.2.2 k1; ⟨fun a3 => ⟨?_, fun a4 => fun a5 => ⟨⟨0, ⟨?_, ⟨⟨rfl, ⟨trivial, ⟨trivial, ⟨rfl, ⟨rfl, ⟨?_, ⟨rfl, ⟨rfl, ⟨rfl, ⟨rfl, ⟨rfl, ⟨rfl, ⟨rfl, ⟨rfl, ⟨rfl, ⟨?_, trivial⟩⟩⟩⟩⟩⟩⟩⟩⟩⟩⟩⟩⟩⟩⟩⟩, ⟨rfl, trivial⟩⟩⟩⟩, fun j2 a6 => have b6x0 := allN_succ (sfAt (leadT (atomsN gg) xs p) c k1) j2; have b6x1 := wkAt_eq (leadT (atomsN gg) xs p) c k1 j2; have b6x2 := sfAt_eq (leadT (atomsN gg) xs p) c k1 j2; ⟨fun a7 => ⟨?_, ⟨fun a8 => ⟨fun a9 => ⟨?_, ⟨?_, ⟨j2 + 1, ⟨?_, ⟨?_, ⟨⟨rfl, ⟨trivial, ⟨trivial, ⟨rfl, ⟨rfl, ⟨?_, ⟨rfl, ⟨rfl, ⟨rfl, ⟨rfl, ⟨rfl, ⟨rfl, ⟨rfl, ⟨rfl, ⟨rfl, ⟨?_, trivial⟩⟩⟩⟩⟩⟩⟩⟩⟩⟩⟩⟩⟩⟩⟩⟩, ⟨rfl, trivial⟩⟩⟩⟩⟩⟩⟩, fun a9 => ⟨?_, ⟨j2 + 1, ⟨?_, ⟨?_, ⟨⟨rfl, ⟨trivial, ⟨trivial, ⟨rfl, ⟨rfl, ⟨?_, ⟨rfl, ⟨rfl, ⟨rfl, ⟨rfl, ⟨rfl, ⟨rfl, ⟨rfl, ⟨rfl, ⟨rfl, ⟨?_, trivial⟩⟩⟩⟩⟩⟩⟩⟩⟩⟩⟩⟩⟩⟩⟩⟩, ⟨rfl, trivial⟩⟩⟩⟩⟩⟩⟩, fun a8 => ⟨?_, ⟨j2 + 1, ⟨?_, ⟨?_, ⟨⟨rfl, ⟨trivial, ⟨trivial, ⟨rfl, ⟨rfl, ⟨?_, ⟨rfl, ⟨rfl, ⟨rfl, ⟨rfl, ⟨rfl, ⟨rfl, ⟨rfl, ⟨rfl, ⟨rfl, ⟨?_, trivial⟩⟩⟩⟩⟩⟩⟩⟩⟩⟩⟩⟩⟩⟩⟩⟩, ⟨rfl, trivial⟩⟩⟩⟩⟩⟩⟩⟩, fun a7 => ⟨fun a8 => ⟨?_, ⟨?_, ⟨k1 + 1, ⟨?_, ⟨?_, ⟨⟨rfl, ⟨trivial, ⟨trivial, ⟨rfl, ⟨rfl, ⟨?_, trivial⟩⟩⟩⟩⟩⟩, ⟨?_, trivial⟩⟩⟩⟩⟩⟩⟩, fun a8 => ⟨?_, ⟨k1 + 1, ⟨?_, ⟨?_, ⟨⟨rfl, ⟨trivial, ⟨trivial, ⟨rfl, ⟨rfl, ⟨?_, trivial⟩⟩⟩⟩⟩⟩, ⟨?_, trivial⟩⟩⟩⟩⟩⟩⟩⟩⟩⟩, fun a3 => ?_⟩⟩⟩
  all_goals try and_intros
  all_goals first | rfl | trivial | omega | (simp only [decide_eq_true_eq, decide_eq_false_iff_not, idxOk, inI64, roomOk, List.length_append, List.length_cons, List.length_nil] at *; omega) | grind [idxOk, inI64, allN_succ]

theorem ogood_impl_weakest : Ctr.OGood ko_impl_weakest := oko_impl_weakest ⟨good_impl_leads, good_impl_truth, trivial⟩ trivial trivial

def wuV (gg : GSig) (xs : List GPremise) (p : GProg) (c : GExpr) : List Int := bif premsOk gg xs && (isP gg p && isC gg c) then wkL (leadT (atomsN gg) xs p) c else []
def suV (gg : GSig) (xs : List GPremise) (c : GExpr) (p : GProg) : List Int := bif premsOk gg xs && (isP gg p && isC gg c) then selN (strP gg xs c p) (atomsN gg).toNat else []
def wuC (gg : GSig) (xs : List GPremise) (p : GProg) (c : GExpr) : Int := bif premsOk gg xs && (isP gg p && isC gg c) then 0 else 1
theorem wu_t (gg : GSig) (xs : List GPremise) (p : GProg) (c : GExpr) (h1 : premsOk gg xs = true) (h2 : isP gg p = true) (h3 : isC gg c = true) : wuV gg xs p c = wkL (leadT (atomsN gg) xs p) c ∧ suV gg xs c p = selN (strP gg xs c p) (atomsN gg).toNat ∧ wuC gg xs p c = 0 ∧ okL gg xs p ∧ goodC c = true ∧ strL gg xs c p = selN (strP gg xs c p) (atomsN gg).toNat := by
  have hL := okL_of gg xs p h1 h2
  exact ⟨by simp [wuV, h1, h2, h3], by simp [suV, h1, h2, h3], by simp [wuC, h1, h2, h3], hL, isC_good gg c hL.sig h3, strL_eq gg xs c p hL⟩
theorem wu_f (gg : GSig) (xs : List GPremise) (p : GProg) (c : GExpr) (h : premsOk gg xs = false ∨ isP gg p = false ∨ isC gg c = false) : wuV gg xs p c = [] ∧ suV gg xs c p = [] ∧ wuC gg xs p c = 1 := by
  rcases h with h | h | h <;> simp [wuV, suV, wuC, h]
theorem wu_sig (gg : GSig) (xs : List GPremise) (h : premsOk gg xs = true) : sigOk gg = true := premsOk_sig gg xs h
theorem okP_eq (gg : GSig) (p : GProg) : okP gg p = (sigOk gg && isP gg p) := rfl
theorem wuV_len (gg : GSig) (xs : List GPremise) (p : GProg) (c : GExpr) : (wuV gg xs p c).length ≤ 8 ∧ (suV gg xs c p).length ≤ 8 := by
  cases h1 : premsOk gg xs
  · have := wu_f gg xs p c (.inl h1); rw [this.1, this.2.1]; simp
  · cases h2 : isP gg p
    · have := wu_f gg xs p c (.inr (.inl h2)); rw [this.1, this.2.1]; simp
    · cases h3 : isC gg c
      · have := wu_f gg xs p c (.inr (.inr h3)); rw [this.1, this.2.1]; simp
      · obtain ⟨a1, a2, _, a4, _⟩ := wu_t gg xs p c h1 h2 h3
        rw [a1, a2]
        have := (sigOk_n gg a4.sig).2
        have b1 := selN_len (wkAt (leadT (atomsN gg) xs p) c) (leadT (atomsN gg) xs p).length
        have b2 := selN_len (strP gg xs c p) (atomsN gg).toNat
        have b3 := (leadT_sq gg (atomsN gg) xs p a4.tree).len
        unfold wkL
        omega

def ko_impl_WeakestUnder : Ctr := ⟨n_impl_WeakestUnder, [.v (.st .sig), .v (.slice (.st .premise)), .v (.st .prog), .v (.st .expr)], fun (gg : GSig) (xs : List GPremise) (p : GProg) (c : GExpr) => ⟨(none, [⟨(.slice (.int .i64)), wuV gg xs p c⟩, ⟨(.int .i64), wuC gg xs p c⟩])⟩⟩
def lo_impl_WeakestUnder (gg : GSig) (xs : List GPremise) (p : GProg) (c : GExpr) : Nat → LoopInv := fun _ => .none
abbrev qo_impl_WeakestUnder_0 (gg : GSig) (xs : List GPremise) (p : GProg) (c : GExpr) : Prop := (((!(isC gg c)) = true →
 ([] = (wuV gg xs p c) ∧ (1 : Int) = (wuC gg xs p c))) ∧ ((!(isC gg c)) = false →
 ((okL gg xs p ∧ goodC c = true) ∧ ((wkL (leadT (atomsN gg) xs p) c) = (wuV gg xs p c) ∧ (0 : Int) = (wuC gg xs p c)))))
abbrev qo_impl_WeakestUnder_1 (gg : GSig) (xs : List GPremise) (p : GProg) (c : GExpr) : Prop := ((true = true →
 ([] = (wuV gg xs p c) ∧ (1 : Int) = (wuC gg xs p c))) ∧ (true = false →
 ((okL gg xs p ∧ goodC c = true) ∧ ((wkL (leadT (atomsN gg) xs p) c) = (wuV gg xs p c) ∧ (0 : Int) = (wuC gg xs p c)))))
theorem vco_impl_WeakestUnder (gg : GSig) (xs : List GPremise) (p : GProg) (c : GExpr) : awp (envO [k_impl_ValidPremises, k_impl_isProg, k_impl_isCondition] [ko_impl_weakest] [] [30] [] [] [4, 6, 7]) (bodyOf f_impl_WeakestUnder) (lo_impl_WeakestUnder gg xs p c) 0 (ownPost (envO [k_impl_ValidPremises, k_impl_isProg, k_impl_isCondition] [ko_impl_weakest] [] [30] [] [] [4, 6, 7]) f_impl_WeakestUnder fun r => areEq r [⟨(.slice (.int .i64)), wuV gg xs p c⟩, ⟨(.int .i64), wuC gg xs p c⟩]) (startState f_impl_WeakestUnder [.val ⟨(.st .sig), gg⟩, .val ⟨(.slice (.st .premise)), xs⟩, .val ⟨(.st .prog), p⟩, .val ⟨(.st .expr), c⟩]) =
  ((((!(premsOk gg xs)) = false →
 (sigOk gg = true ∧ (((!(isP gg p)) = false →
 (qo_impl_WeakestUnder_0 gg xs p c)) ∧ ((!(isP gg p)) = (!false) →
 (qo_impl_WeakestUnder_1 gg xs p c))))) ∧ ((!(premsOk gg xs)) = (!false) →
 ((true = false →
 (qo_impl_WeakestUnder_0 gg xs p c)) ∧ (true = (!false) →
 (qo_impl_WeakestUnder_1 gg xs p c)))))) := by kernel_rfl
set_option maxRecDepth 4000 in
set_option maxHeartbeats 1000000 in
theorem oko_impl_WeakestUnder (hE : AllGood [k_impl_ValidPremises, k_impl_isProg, k_impl_isCondition]) (hO : AllO [ko_impl_weakest]) (hM : AllM []) : Ctr.OGood ko_impl_WeakestUnder := by
  refine ⟨fnOk_of at_impl_WeakestUnder rfl (by decide), ?_⟩
  show ∀ (gg : GSig) (xs : List GPremise) (p : GProg) (c : GExpr), True → OkOwn prog n_impl_WeakestUnder [.val ⟨(.st .sig), gg⟩, .val ⟨(.slice (.st .premise)), xs⟩, .val ⟨(.st .prog), p⟩, .val ⟨(.st .expr), c⟩] [⟨(.slice (.int .i64)), wuV gg xs p c⟩, ⟨(.int .i64), wuC gg xs p c⟩]
  intro gg xs p c _
  refine own_of_awp (own := [30]) (wr := []) (cl := []) (ro := [4, 6, 7]) hE hO hM at_impl_WeakestUnder body_impl_WeakestUnder (lo_impl_WeakestUnder gg xs p c) ?_
  rewrite [vco_impl_WeakestUnder gg xs p c]
  have f1 := wu_t gg xs p c
  have f2 := wu_f gg xs p c
  have f3 := wu_sig gg xs
  have f4 := okP_eq gg p
  have f5 := okC_eqP gg c
  refine ⟨fun a0 => ⟨?_, ⟨fun a1 => ⟨fun a2 => ⟨?_, ?_⟩, fun a2 => ⟨?_, ⟨?_, ?_⟩⟩⟩, fun a1 => ⟨fun a2 => ⟨?_, ?_⟩, fun a2 => ⟨?_, ⟨?_, ?_⟩⟩⟩⟩⟩, fun a0 => ⟨fun a1 => ⟨fun a2 => ⟨?_, ?_⟩, fun a2 => ⟨?_, ⟨?_, ?_⟩⟩⟩, fun a1 => ⟨fun a2 => ⟨?_, ?_⟩, fun a2 => ⟨?_, ⟨?_, ?_⟩⟩⟩⟩⟩
  all_goals try and_intros
  all_goals first | with_reducible rfl | omega | grind

theorem ogood_impl_WeakestUnder : Ctr.OGood ko_impl_WeakestUnder := oko_impl_WeakestUnder ⟨good_impl_ValidPremises, good_impl_isProg, good_impl_isCondition, trivial⟩ ⟨ogood_impl_weakest, trivial⟩ trivial

def k_spec_WeakestUnder : Ctr := ⟨n_spec_WeakestUnder, [.v (.st .sig), .v (.slice (.st .premise)), .v (.st .prog), .v (.st .expr)], fun (gg : GSig) (xs : List GPremise) (p : GProg) (c : GExpr) => ⟨(none, [⟨(.slice (.int .i64)), wuV gg xs p c⟩, ⟨(.int .i64), wuC gg xs p c⟩])⟩⟩
def l_spec_WeakestUnder (gg : GSig) (xs : List GPremise) (p : GProg) (c : GExpr) : Nat → LoopInv := fun _ => .none
abbrev q_spec_WeakestUnder_0 (gg : GSig) (xs : List GPremise) (p : GProg) (c : GExpr) : Prop := ((okL gg xs p ∧ premsOk gg xs = true ∧ goodC c = true) ∧ ((wkL (leadT (atomsN gg) xs p) c).length ≤ 140737488355328 →
 ((wkL (leadT (atomsN gg) xs p) c) = (wuV gg xs p c) ∧ (0 : Int) = (wuC gg xs p c))))
abbrev q_spec_WeakestUnder_1 (gg : GSig) (xs : List GPremise) (p : GProg) (c : GExpr) : Prop := (((!(okC gg c)) = true →
 ([] = (wuV gg xs p c) ∧ (1 : Int) = (wuC gg xs p c))) ∧ ((!(okC gg c)) = false →
 (q_spec_WeakestUnder_0 gg xs p c)))
theorem vc_spec_WeakestUnder (gg : GSig) (xs : List GPremise) (p : GProg) (c : GExpr) : awp (envOf [k_spec_l07Premises, k_spec_l06Ok, k_spec_l06Cond, k_spec_l07Sure] [] [] [4, 6, 7]) (bodyOf f_spec_WeakestUnder) (l_spec_WeakestUnder gg xs p c) 0 (funPost (envOf [k_spec_l07Premises, k_spec_l06Ok, k_spec_l06Cond, k_spec_l07Sure] [] [] [4, 6, 7]) f_spec_WeakestUnder fun r => areEq r [⟨(.slice (.int .i64)), wuV gg xs p c⟩, ⟨(.int .i64), wuC gg xs p c⟩]) (startState f_spec_WeakestUnder [.val ⟨(.st .sig), gg⟩, .val ⟨(.slice (.st .premise)), xs⟩, .val ⟨(.st .prog), p⟩, .val ⟨(.st .expr), c⟩]) =
  ((((!(premsOk gg xs)) = false →
 (((!(okP gg p)) = false →
 (q_spec_WeakestUnder_1 gg xs p c)) ∧ ((!(okP gg p)) = (!false) →
 ((true = true →
 ([] = (wuV gg xs p c) ∧ (1 : Int) = (wuC gg xs p c))) ∧ (true = false →
 (q_spec_WeakestUnder_0 gg xs p c)))))) ∧ ((!(premsOk gg xs)) = (!false) →
 ((true = false →
 (q_spec_WeakestUnder_1 gg xs p c)) ∧ (true = (!false) →
 ((true = true →
 ([] = (wuV gg xs p c) ∧ (1 : Int) = (wuC gg xs p c))) ∧ (true = false →
 (q_spec_WeakestUnder_0 gg xs p c)))))))) := by kernel_rfl
set_option maxRecDepth 4000 in
set_option maxHeartbeats 1000000 in
theorem ok_spec_WeakestUnder (hE : AllGood [k_spec_l07Premises, k_spec_l06Ok, k_spec_l06Cond, k_spec_l07Sure]) : Ctr.Good k_spec_WeakestUnder := by
  refine ⟨fnOk_of at_spec_WeakestUnder rfl (by decide), ?_⟩
  show ∀ (gg : GSig) (xs : List GPremise) (p : GProg) (c : GExpr), True → OkCall prog n_spec_WeakestUnder [.val ⟨(.st .sig), gg⟩, .val ⟨(.slice (.st .premise)), xs⟩, .val ⟨(.st .prog), p⟩, .val ⟨(.st .expr), c⟩] (· = [⟨(.slice (.int .i64)), wuV gg xs p c⟩, ⟨(.int .i64), wuC gg xs p c⟩])
  intro gg xs p c _
  refine ok_of_awp (wr := []) (cl := []) (ro := [4, 6, 7]) hE at_spec_WeakestUnder body_spec_WeakestUnder (l_spec_WeakestUnder gg xs p c) ?_
  rewrite [vc_spec_WeakestUnder gg xs p c]
  have f1 := wu_t gg xs p c
  have f2 := wu_f gg xs p c
  have f3 := wu_sig gg xs
  have f4 := okP_eq gg p
  have f5 := okC_eqP gg c
  refine ⟨fun a0 => ⟨fun a1 => ⟨fun a2 => ⟨?_, ?_⟩, fun a2 => ⟨?_, fun a3 => ⟨?_, ?_⟩⟩⟩, fun a1 => ⟨fun a2 => ⟨?_, ?_⟩, fun a2 => ⟨?_, fun a3 => ⟨?_, ?_⟩⟩⟩⟩, fun a0 => ⟨fun a1 => ⟨fun a2 => ⟨?_, ?_⟩, fun a2 => ⟨?_, fun a3 => ⟨?_, ?_⟩⟩⟩, fun a1 => ⟨fun a2 => ⟨?_, ?_⟩, fun a2 => ⟨?_, fun a3 => ⟨?_, ?_⟩⟩⟩⟩⟩
  all_goals try and_intros
  all_goals first | with_reducible rfl | omega | grind

theorem good_spec_WeakestUnder : Ctr.Good k_spec_WeakestUnder := ok_spec_WeakestUnder ⟨good_spec_l07Premises, good_spec_l06Ok, good_spec_l06Cond, good_spec_l07Sure, trivial⟩

def k_spec_StrongestUnder : Ctr := ⟨n_spec_StrongestUnder, [.v (.st .sig), .v (.slice (.st .premise)), .v (.st .expr), .v (.st .prog)], fun (gg : GSig) (xs : List GPremise) (c : GExpr) (p : GProg) => ⟨(none, [⟨(.slice (.int .i64)), suV gg xs c p⟩, ⟨(.int .i64), wuC gg xs p c⟩])⟩⟩
def l_spec_StrongestUnder (gg : GSig) (xs : List GPremise) (c : GExpr) (p : GProg) : Nat → LoopInv := fun _ => .none
abbrev q_spec_StrongestUnder_0 (gg : GSig) (xs : List GPremise) (c : GExpr) (p : GProg) : Prop := ((sigOk gg = true ∧ goodC c = true) ∧ ((atN gg c).length ≤ 140737488355328 →
 ((okL gg xs p ∧ premsOk gg xs = true ∧ isSet (atomsN gg) (atN gg c)) ∧ ((fromL gg xs p (atN gg c)).length ≤ 140737488355328 →
 ((fromL gg xs p (atN gg c)) = (suV gg xs c p) ∧ (0 : Int) = (wuC gg xs p c))))))
abbrev q_spec_StrongestUnder_1 (gg : GSig) (xs : List GPremise) (c : GExpr) (p : GProg) : Prop := (((!(okC gg c)) = true →
 ([] = (suV gg xs c p) ∧ (1 : Int) = (wuC gg xs p c))) ∧ ((!(okC gg c)) = false →
 (q_spec_StrongestUnder_0 gg xs c p)))
theorem vc_spec_StrongestUnder (gg : GSig) (xs : List GPremise) (c : GExpr) (p : GProg) : awp (envOf [k_spec_l07Premises, k_spec_l06Ok, k_spec_l06Cond, k_spec_l07Atoms, k_spec_l07From] [] [] [4, 6, 7]) (bodyOf f_spec_StrongestUnder) (l_spec_StrongestUnder gg xs c p) 0 (funPost (envOf [k_spec_l07Premises, k_spec_l06Ok, k_spec_l06Cond, k_spec_l07Atoms, k_spec_l07From] [] [] [4, 6, 7]) f_spec_StrongestUnder fun r => areEq r [⟨(.slice (.int .i64)), suV gg xs c p⟩, ⟨(.int .i64), wuC gg xs p c⟩]) (startState f_spec_StrongestUnder [.val ⟨(.st .sig), gg⟩, .val ⟨(.slice (.st .premise)), xs⟩, .val ⟨(.st .expr), c⟩, .val ⟨(.st .prog), p⟩]) =
  ((((!(premsOk gg xs)) = false →
 (((!(okP gg p)) = false →
 (q_spec_StrongestUnder_1 gg xs c p)) ∧ ((!(okP gg p)) = (!false) →
 ((true = true →
 ([] = (suV gg xs c p) ∧ (1 : Int) = (wuC gg xs p c))) ∧ (true = false →
 (q_spec_StrongestUnder_0 gg xs c p)))))) ∧ ((!(premsOk gg xs)) = (!false) →
 ((true = false →
 (q_spec_StrongestUnder_1 gg xs c p)) ∧ (true = (!false) →
 ((true = true →
 ([] = (suV gg xs c p) ∧ (1 : Int) = (wuC gg xs p c))) ∧ (true = false →
 (q_spec_StrongestUnder_0 gg xs c p)))))))) := by kernel_rfl
set_option maxRecDepth 4000 in
set_option maxHeartbeats 1000000 in
theorem ok_spec_StrongestUnder (hE : AllGood [k_spec_l07Premises, k_spec_l06Ok, k_spec_l06Cond, k_spec_l07Atoms, k_spec_l07From]) : Ctr.Good k_spec_StrongestUnder := by
  refine ⟨fnOk_of at_spec_StrongestUnder rfl (by decide), ?_⟩
  show ∀ (gg : GSig) (xs : List GPremise) (c : GExpr) (p : GProg), True → OkCall prog n_spec_StrongestUnder [.val ⟨(.st .sig), gg⟩, .val ⟨(.slice (.st .premise)), xs⟩, .val ⟨(.st .expr), c⟩, .val ⟨(.st .prog), p⟩] (· = [⟨(.slice (.int .i64)), suV gg xs c p⟩, ⟨(.int .i64), wuC gg xs p c⟩])
  intro gg xs c p _
  refine ok_of_awp (wr := []) (cl := []) (ro := [4, 6, 7]) hE at_spec_StrongestUnder body_spec_StrongestUnder (l_spec_StrongestUnder gg xs c p) ?_
  rewrite [vc_spec_StrongestUnder gg xs c p]
  have f1 := wu_t gg xs p c
  have f2 := wu_f gg xs p c
  have f3 := wu_sig gg xs
  have f4 := okP_eq gg p
  have f5 := okC_eqP gg c
  have f6 : fromL gg xs p (atN gg c) = strL gg xs c p := rfl
  have f7 := atN_set gg c
  refine ⟨fun a0 => ⟨fun a1 => ⟨fun a2 => ⟨?_, ?_⟩, fun a2 => ⟨?_, fun a3 => ⟨?_, fun a4 => ⟨?_, ?_⟩⟩⟩⟩, fun a1 => ⟨fun a2 => ⟨?_, ?_⟩, fun a2 => ⟨?_, fun a3 => ⟨?_, fun a4 => ⟨?_, ?_⟩⟩⟩⟩⟩, fun a0 => ⟨fun a1 => ⟨fun a2 => ⟨?_, ?_⟩, fun a2 => ⟨?_, fun a3 => ⟨?_, fun a4 => ⟨?_, ?_⟩⟩⟩⟩, fun a1 => ⟨fun a2 => ⟨?_, ?_⟩, fun a2 => ⟨?_, fun a3 => ⟨?_, fun a4 => ⟨?_, ?_⟩⟩⟩⟩⟩⟩
  all_goals try and_intros
  all_goals first | with_reducible rfl | omega | grind

theorem good_spec_StrongestUnder : Ctr.Good k_spec_StrongestUnder := ok_spec_StrongestUnder ⟨good_spec_l07Premises, good_spec_l06Ok, good_spec_l06Cond, good_spec_l07Atoms, good_spec_l07From, trivial⟩

end
end Go.Proofs.Ytcdppmpjplhgkaa

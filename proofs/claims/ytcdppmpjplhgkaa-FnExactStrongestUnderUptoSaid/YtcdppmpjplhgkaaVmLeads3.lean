/- What holds behind the allowed words of programs, by the program. Printed by vmk.py. -/
import Derived.Test.YtcdppmpjplhgkaaVmUse
import Derived.Test.YtcdppmpjplhgkaaVmLib
import Derived.Test.YtcdppmpjplhgkaaVmAllows
import Derived.Test.YtcdppmpjplhgkaaVmProg
import Derived.Test.YtcdppmpjplhgkaaVmLeads
import Derived.Test.YtcdppmpjplhgkaaVmLeads2
set_option linter.unusedVariables false
set_option linter.unusedSimpArgs false
set_option linter.unusedSectionVars false
namespace Go.Proofs.Ytcdppmpjplhgkaa
noncomputable section

/-- Where an atom leads to, a condition holds. -/
def sfAt (t : List (List Bool)) (c : GExpr) (x y : Nat) : Bool := !gt2 t (x : Int) (y : Int) || truE (y : Int) c
theorem sfAt_eq (t : List (List Bool)) (c : GExpr) (x y : Nat) : sfAt t c x y = (!((t.getD x []).getD y false) || truE (y : Int) c) := by simp [sfAt, gt2]
def wkAt (t : List (List Bool)) (c : GExpr) (x : Nat) : Bool := allN (sfAt t c x) (t.getD x []).length
def wkL (t : List (List Bool)) (c : GExpr) : List Int := selN (wkAt t c) t.length
theorem wkL_eq (t : List (List Bool)) (c : GExpr) (k : Nat) (h1 : (t.length : Int) ≤ (k : Int)) (h2 : k ≤ t.length) : selN (wkAt t c) k = wkL t c := by
  have : k = t.length := by omega
  rw [this]; rfl
theorem wkAt_eq (t : List (List Bool)) (c : GExpr) (x k : Nat) (h1 : ((t.getD x []).length : Int) ≤ (k : Int)) (h2 : k ≤ (t.getD x []).length) : allN (sfAt t c x) k = wkAt t c x := by
  have : k = (t.getD x []).length := by omega
  rw [this]; rfl
theorem leadT_small (gg : GSig) (xs : List GPremise) (p : GProg) (h : okL gg xs p) : (leadT (atomsN gg) xs p).length = (atomsN gg).toNat ∧ (leadT (atomsN gg) xs p).length ≤ 8 ∧ ∀ i, i < (leadT (atomsN gg) xs p).length → ((leadT (atomsN gg) xs p).getD i []).length = (atomsN gg).toNat ∧ ((leadT (atomsN gg) xs p).getD i []).length ≤ 8 := by
  have hn := (sigOk_n gg h.sig).2
  have hs := leadT_sq gg (atomsN gg) xs p h.tree
  have h1 := hs.len
  refine ⟨h1, by omega, fun i hi => ?_⟩
  have := hs.row i (by omega)
  omega

def k_impl_weakest : Ctr := ⟨n_impl_weakest, [.v (.st .sig), .v (.slice (.st .premise)), .v (.st .prog), .v (.st .expr)], fun (gg : GSig) (xs : List GPremise) (p : GProg) (c : GExpr) => ⟨(some (okL gg xs p ∧ goodC c = true), [⟨(.slice (.int .i64)), wkL (leadT (atomsN gg) xs p) c⟩])⟩⟩
def l_impl_weakest (gg : GSig) (xs : List GPremise) (p : GProg) (c : GExpr) : Nat → LoopInv := (fun zb => if Nat.beq zb 0 then .mk (Nat) (fun k => k ≤ (leadT (atomsN gg) xs p).length) (fun k => (leadT (atomsN gg) xs p).length - k) [] [0, 1, 2, 3, 4, 5, 6, 15, 16, 17, 18] (fun k => [(21, .imm ⟨(.int .i64), ((k : Int) : Int)⟩), (9, .row 15)]) [7, 8, 9, 10, 11, 12, 13, 14, 19, 20, 21, 22, 23, 24, 25, 26, 27, 28, 29, 30, 31, 32, 33, 34, 35, 36, 37, 38, 39, 40, 41, 42, 43, 44, 45, 46, 47, 48, 49, 50] (fun k => [(15, .row T_int64 (.int .i64) (selN (wkAt (leadT (atomsN gg) xs p) c) k : List Int))]) [] [] (fun k => (fun zb => if Nat.beq zb 2 then .mk (Nat) (fun j => j ≤ ((leadT (atomsN gg) xs p).getD k []).length) (fun j => ((leadT (atomsN gg) xs p).getD k []).length - j) [] [0, 1, 2, 3, 4, 5, 6, 15, 16, 17, 18] (fun j => [(28, .imm ⟨(.int .i64), ((j : Int) : Int)⟩), (12, .imm ⟨.bool, (allN (sfAt (leadT (atomsN gg) xs p) c k) j : Bool)⟩)]) [7, 8, 9, 10, 11, 12, 13, 14, 15, 19, 20, 21, 22, 23, 24, 25, 26, 27, 28, 29, 30, 31, 32, 33, 34, 35, 36, 37, 38, 39, 40, 41, 42, 43, 44, 45, 46, 47, 48, 49, 50] (fun j => []) [] [] (fun j => fun _ => .none) else .none)) else .none)
abbrev q_impl_weakest_0 (gg : GSig) (xs : List GPremise) (p : GProg) (k1 : Nat) (j2 : Nat) (j3 : Nat) : Prop := ((leadT (atomsN gg) xs p) = (leadT (atomsN gg) xs p) ∧ ((((leadT (atomsN gg) xs p).length : Int)) = (((leadT (atomsN gg) xs p).length : Int)) ∧ ((k1 : Int) = (k1 : Int) ∧ ((decide ((k1 : Int) < (((leadT (atomsN gg) xs p).length : Int)))) = (decide ((k1 : Int) < (((leadT (atomsN gg) xs p).length : Int)))) ∧ ((k1 : Int) = (k1 : Int) ∧ (((leadT (atomsN gg) xs p).getD k1 []) = ((leadT (atomsN gg) xs p).getD k1 []) ∧ (((leadT (atomsN gg) xs p).getD k1 []) = ((leadT (atomsN gg) xs p).getD k1 []) ∧ (((leadT (atomsN gg) xs p).getD k1 []) = ((leadT (atomsN gg) xs p).getD k1 []) ∧ (((((leadT (atomsN gg) xs p).getD k1 []).length : Int)) = ((((leadT (atomsN gg) xs p).getD k1 []).length : Int)) ∧ (((j2 : Int) + (1 : Int)) = (j3 : Int) ∧ True))))))))))
abbrev q_impl_weakest_1 (gg : GSig) (xs : List GPremise) (p : GProg) (c : GExpr) (k1 : Nat) (k3 : Nat) : Prop := (c = c ∧ (True ∧ (True ∧ ((leadT (atomsN gg) xs p) = (leadT (atomsN gg) xs p) ∧ ((((leadT (atomsN gg) xs p).length : Int)) = (((leadT (atomsN gg) xs p).length : Int)) ∧ (((k1 : Int) + (1 : Int)) = (k3 : Int) ∧ True))))))
theorem vc_impl_weakest (gg : GSig) (xs : List GPremise) (p : GProg) (c : GExpr) : awp (envOf [k_impl_leads, k_impl_truth] [] [] [4, 6, 7]) (bodyOf f_impl_weakest) (l_impl_weakest gg xs p c) 0 (funPost (envOf [k_impl_leads, k_impl_truth] [] [] [4, 6, 7]) f_impl_weakest fun r => areEq r [⟨(.slice (.int .i64)), wkL (leadT (atomsN gg) xs p) c⟩]) (startState f_impl_weakest [.val ⟨(.st .sig), gg⟩, .val ⟨(.slice (.st .premise)), xs⟩, .val ⟨(.st .prog), p⟩, .val ⟨(.st .expr), c⟩]) =
  ((okL gg xs p ∧ ((leadT (atomsN gg) xs p).length ≤ 140737488355328 →
 (inI64 (((leadT (atomsN gg) xs p).length : Int)) →
 ((∃ k1 : Nat, (k1 ≤ (leadT (atomsN gg) xs p).length ∧ ((c = c ∧ (True ∧ (True ∧ ((leadT (atomsN gg) xs p) = (leadT (atomsN gg) xs p) ∧ ((((leadT (atomsN gg) xs p).length : Int)) = (((leadT (atomsN gg) xs p).length : Int)) ∧ ((0 : Int) = (k1 : Int) ∧ True)))))) ∧ ([] = (selN (wkAt (leadT (atomsN gg) xs p) c) k1) ∧ True)))) ∧ (∀ k1 : Nat, (k1 ≤ (leadT (atomsN gg) xs p).length →
 (((decide ((k1 : Int) < (((leadT (atomsN gg) xs p).length : Int)))) = true →
 (idxOk (k1 : Int) (leadT (atomsN gg) xs p).length ∧ (((leadT (atomsN gg) xs p).getD k1 []).length ≤ 140737488355328 →
 (inI64 ((((leadT (atomsN gg) xs p).getD k1 []).length : Int)) →
 ((∃ j2 : Nat, (j2 ≤ ((leadT (atomsN gg) xs p).getD k1 []).length ∧ ((c = c ∧ (True ∧ (True ∧ ((k1 : Int) = (k1 : Int) ∧ (((leadT (atomsN gg) xs p).getD k1 []) = ((leadT (atomsN gg) xs p).getD k1 []) ∧ (true = (allN (sfAt (leadT (atomsN gg) xs p) c k1) j2) ∧ ((leadT (atomsN gg) xs p) = (leadT (atomsN gg) xs p) ∧ ((((leadT (atomsN gg) xs p).length : Int)) = (((leadT (atomsN gg) xs p).length : Int)) ∧ ((k1 : Int) = (k1 : Int) ∧ ((decide ((k1 : Int) < (((leadT (atomsN gg) xs p).length : Int)))) = (decide ((k1 : Int) < (((leadT (atomsN gg) xs p).length : Int)))) ∧ ((k1 : Int) = (k1 : Int) ∧ (((leadT (atomsN gg) xs p).getD k1 []) = ((leadT (atomsN gg) xs p).getD k1 []) ∧ (((leadT (atomsN gg) xs p).getD k1 []) = ((leadT (atomsN gg) xs p).getD k1 []) ∧ (((leadT (atomsN gg) xs p).getD k1 []) = ((leadT (atomsN gg) xs p).getD k1 []) ∧ (((((leadT (atomsN gg) xs p).getD k1 []).length : Int)) = ((((leadT (atomsN gg) xs p).getD k1 []).length : Int)) ∧ ((0 : Int) = (j2 : Int) ∧ True)))))))))))))))) ∧ ((selN (wkAt (leadT (atomsN gg) xs p) c) k1) = (selN (wkAt (leadT (atomsN gg) xs p) c) k1) ∧ True)))) ∧ (∀ j2 : Nat, (j2 ≤ ((leadT (atomsN gg) xs p).getD k1 []).length →
 (((decide ((j2 : Int) < ((((leadT (atomsN gg) xs p).getD k1 []).length : Int)))) = true →
 (idxOk (j2 : Int) ((leadT (atomsN gg) xs p).getD k1 []).length ∧ (((allN (sfAt (leadT (atomsN gg) xs p) c k1) j2) = true →
 (((!(((leadT (atomsN gg) xs p).getD k1 []).getD j2 false)) = false →
 ((goodC c = true ∧ 0 ≤ (j2 : Int) ∧ (j2 : Int) ≤ 4096) ∧ (inI64 ((j2 : Int) + (1 : Int)) ∧ (∃ j3 : Nat, (j3 ≤ ((leadT (atomsN gg) xs p).getD k1 []).length ∧ (((leadT (atomsN gg) xs p).getD k1 []).length - j3 < ((leadT (atomsN gg) xs p).getD k1 []).length - j2 ∧ ((c = c ∧ (True ∧ (True ∧ ((k1 : Int) = (k1 : Int) ∧ (((leadT (atomsN gg) xs p).getD k1 []) = ((leadT (atomsN gg) xs p).getD k1 []) ∧ ((truE (j2 : Int) c) = (allN (sfAt (leadT (atomsN gg) xs p) c k1) j3) ∧ (q_impl_weakest_0 gg xs p k1 j2 j3))))))) ∧ ((selN (wkAt (leadT (atomsN gg) xs p) c) k1) = (selN (wkAt (leadT (atomsN gg) xs p) c) k1) ∧ True)))))))) ∧ ((!(((leadT (atomsN gg) xs p).getD k1 []).getD j2 false)) = (!false) →
 (inI64 ((j2 : Int) + (1 : Int)) ∧ (∃ j3 : Nat, (j3 ≤ ((leadT (atomsN gg) xs p).getD k1 []).length ∧ (((leadT (atomsN gg) xs p).getD k1 []).length - j3 < ((leadT (atomsN gg) xs p).getD k1 []).length - j2 ∧ ((c = c ∧ (True ∧ (True ∧ ((k1 : Int) = (k1 : Int) ∧ (((leadT (atomsN gg) xs p).getD k1 []) = ((leadT (atomsN gg) xs p).getD k1 []) ∧ (true = (allN (sfAt (leadT (atomsN gg) xs p) c k1) j3) ∧ (q_impl_weakest_0 gg xs p k1 j2 j3))))))) ∧ ((selN (wkAt (leadT (atomsN gg) xs p) c) k1) = (selN (wkAt (leadT (atomsN gg) xs p) c) k1) ∧ True))))))))) ∧ ((allN (sfAt (leadT (atomsN gg) xs p) c k1) j2) = (!true) →
 (inI64 ((j2 : Int) + (1 : Int)) ∧ (∃ j3 : Nat, (j3 ≤ ((leadT (atomsN gg) xs p).getD k1 []).length ∧ (((leadT (atomsN gg) xs p).getD k1 []).length - j3 < ((leadT (atomsN gg) xs p).getD k1 []).length - j2 ∧ ((c = c ∧ (True ∧ (True ∧ ((k1 : Int) = (k1 : Int) ∧ (((leadT (atomsN gg) xs p).getD k1 []) = ((leadT (atomsN gg) xs p).getD k1 []) ∧ (false = (allN (sfAt (leadT (atomsN gg) xs p) c k1) j3) ∧ (q_impl_weakest_0 gg xs p k1 j2 j3))))))) ∧ ((selN (wkAt (leadT (atomsN gg) xs p) c) k1) = (selN (wkAt (leadT (atomsN gg) xs p) c) k1) ∧ True)))))))))) ∧ ((decide ((j2 : Int) < ((((leadT (atomsN gg) xs p).getD k1 []).length : Int)))) = false →
 (((allN (sfAt (leadT (atomsN gg) xs p) c k1) j2) = true →
 (roomOk ((selN (wkAt (leadT (atomsN gg) xs p) c) k1).length + ([(k1 : Int)]).length) 8 ∧ (inI64 ((k1 : Int) + (1 : Int)) ∧ (∃ k3 : Nat, (k3 ≤ (leadT (atomsN gg) xs p).length ∧ ((leadT (atomsN gg) xs p).length - k3 < (leadT (atomsN gg) xs p).length - k1 ∧ ((q_impl_weakest_1 gg xs p c k1 k3) ∧ (((selN (wkAt (leadT (atomsN gg) xs p) c) k1) ++ ([(k1 : Int)])) = (selN (wkAt (leadT (atomsN gg) xs p) c) k3) ∧ True)))))))) ∧ ((allN (sfAt (leadT (atomsN gg) xs p) c k1) j2) = false →
 (inI64 ((k1 : Int) + (1 : Int)) ∧ (∃ k3 : Nat, (k3 ≤ (leadT (atomsN gg) xs p).length ∧ ((leadT (atomsN gg) xs p).length - k3 < (leadT (atomsN gg) xs p).length - k1 ∧ ((q_impl_weakest_1 gg xs p c k1 k3) ∧ ((selN (wkAt (leadT (atomsN gg) xs p) c) k1) = (selN (wkAt (leadT (atomsN gg) xs p) c) k3) ∧ True))))))))))))))))) ∧ ((decide ((k1 : Int) < (((leadT (atomsN gg) xs p).length : Int)))) = false →
 (selN (wkAt (leadT (atomsN gg) xs p) c) k1) = (wkL (leadT (atomsN gg) xs p) c)))))))))) := by kernel_rfl
set_option maxRecDepth 4000 in
set_option maxHeartbeats 1000000 in
theorem ok_impl_weakest (hE : AllGood [k_impl_leads, k_impl_truth]) : Ctr.Good k_impl_weakest := by
  refine ⟨fnOk_of at_impl_weakest rfl (by decide), ?_⟩
  show ∀ (gg : GSig) (xs : List GPremise) (p : GProg) (c : GExpr), (okL gg xs p ∧ goodC c = true) → OkCall prog n_impl_weakest [.val ⟨(.st .sig), gg⟩, .val ⟨(.slice (.st .premise)), xs⟩, .val ⟨(.st .prog), p⟩, .val ⟨(.st .expr), c⟩] (· = [⟨(.slice (.int .i64)), wkL (leadT (atomsN gg) xs p) c⟩])
  intro gg xs p c hp
  refine ok_of_awp (wr := []) (cl := []) (ro := [4, 6, 7]) hE at_impl_weakest body_impl_weakest (l_impl_weakest gg xs p c) ?_
  rewrite [vc_impl_weakest gg xs p c]
  have f1 := leadT_small gg xs p hp.1
  refine ⟨?_, fun a0 => fun a1 => ⟨⟨0, ⟨?_, ⟨⟨rfl, ⟨trivial, ⟨trivial, ⟨rfl, ⟨rfl, ⟨?_, trivial⟩⟩⟩⟩⟩⟩, ⟨?_, trivial⟩⟩⟩⟩, fun k1 a2 => have b2x0 := selN_t (wkAt (leadT (atomsN gg) xs p) c) k1; have b2x1 := selN_f (wkAt (leadT (atomsN gg) xs p) c) k1; have b2x2 := selN_len (wkAt (leadT (atomsN gg) xs p) c) k1; have b2x3 := wkL_eq (leadT (atomsN gg) xs p) c k1; have b2x4 := f1.2.2 k1; ⟨fun a3 => ⟨?_, fun a4 => fun a5 => ⟨⟨0, ⟨?_, ⟨⟨rfl, ⟨trivial, ⟨trivial, ⟨rfl, ⟨rfl, ⟨?_, ⟨rfl, ⟨rfl, ⟨rfl, ⟨rfl, ⟨rfl, ⟨rfl, ⟨rfl, ⟨rfl, ⟨rfl, ⟨?_, trivial⟩⟩⟩⟩⟩⟩⟩⟩⟩⟩⟩⟩⟩⟩⟩⟩, ⟨rfl, trivial⟩⟩⟩⟩, fun j2 a6 => have b6x0 := allN_succ (sfAt (leadT (atomsN gg) xs p) c k1) j2; have b6x1 := wkAt_eq (leadT (atomsN gg) xs p) c k1 j2; have b6x2 := sfAt_eq (leadT (atomsN gg) xs p) c k1 j2; ⟨fun a7 => ⟨?_, ⟨fun a8 => ⟨fun a9 => ⟨?_, ⟨?_, ⟨j2 + 1, ⟨?_, ⟨?_, ⟨⟨rfl, ⟨trivial, ⟨trivial, ⟨rfl, ⟨rfl, ⟨?_, ⟨rfl, ⟨rfl, ⟨rfl, ⟨rfl, ⟨rfl, ⟨rfl, ⟨rfl, ⟨rfl, ⟨rfl, ⟨?_, trivial⟩⟩⟩⟩⟩⟩⟩⟩⟩⟩⟩⟩⟩⟩⟩⟩, ⟨rfl, trivial⟩⟩⟩⟩⟩⟩⟩, fun a9 => ⟨?_, ⟨j2 + 1, ⟨?_, ⟨?_, ⟨⟨rfl, ⟨trivial, ⟨trivial, ⟨rfl, ⟨rfl, ⟨?_, ⟨rfl, ⟨rfl, ⟨rfl, ⟨rfl, ⟨rfl, ⟨rfl, ⟨rfl, ⟨rfl, ⟨rfl, ⟨?_, trivial⟩⟩⟩⟩⟩⟩⟩⟩⟩⟩⟩⟩⟩⟩⟩⟩, ⟨rfl, trivial⟩⟩⟩⟩⟩⟩⟩, fun a8 => ⟨?_, ⟨j2 + 1, ⟨?_, ⟨?_, ⟨⟨rfl, ⟨trivial, ⟨trivial, ⟨rfl, ⟨rfl, ⟨?_, ⟨rfl, ⟨rfl, ⟨rfl, ⟨rfl, ⟨rfl, ⟨rfl, ⟨rfl, ⟨rfl, ⟨rfl, ⟨?_, trivial⟩⟩⟩⟩⟩⟩⟩⟩⟩⟩⟩⟩⟩⟩⟩⟩, ⟨rfl, trivial⟩⟩⟩⟩⟩⟩⟩⟩, fun a7 => ⟨fun a8 => ⟨?_, ⟨?_, ⟨k1 + 1, ⟨?_, ⟨?_, ⟨⟨rfl, ⟨trivial, ⟨trivial, ⟨rfl, ⟨rfl, ⟨?_, trivial⟩⟩⟩⟩⟩⟩, ⟨?_, trivial⟩⟩⟩⟩⟩⟩⟩, fun a8 => ⟨?_, ⟨k1 + 1, ⟨?_, ⟨?_, ⟨⟨rfl, ⟨trivial, ⟨trivial, ⟨rfl, ⟨rfl, ⟨?_, trivial⟩⟩⟩⟩⟩⟩, ⟨?_, trivial⟩⟩⟩⟩⟩⟩⟩⟩⟩⟩, fun a3 => ?_⟩⟩⟩
  all_goals try and_intros
  all_goals first | rfl | trivial | omega | (simp only [decide_eq_true_eq, decide_eq_false_iff_not, idxOk, inI64, roomOk, List.length_append, List.length_cons, List.length_nil] at *; omega) | grind [idxOk, inI64, allN_succ]

theorem good_impl_weakest : Ctr.Good k_impl_weakest := ok_impl_weakest ⟨good_impl_leads, good_impl_truth, trivial⟩

/-- The place of the first number that is wanted, from k on; -1 if there is none. -/
def idxG (p : Int → Bool) : Int → List Int → Int
  | _, [] => -1
  | k, x :: xs => bif p x then k else idxG p (k + 1) xs
def notP (p : Int → Bool) (x : Int) : Bool := !p x
theorem notP_eq (p : Int → Bool) (x : Int) : notP p x = !p x := rfl
theorem idxG_none (p : Int → Bool) : ∀ (xs : List Int) (k : Int), allL (notP p) xs = true → idxG p k xs = -1
  | [], k, _ => rfl
  | x :: xs, k, h => by
    simp only [allL, Bool.and_eq_true, notP, Bool.not_eq_true'] at h
    rw [idxG, h.1]
    exact idxG_none p xs (k + 1) (by simpa [notP] using h.2)
theorem idxG_at (p : Int → Bool) : ∀ (xs : List Int) (k : Int) (i : Nat), i < xs.length → allL (notP p) (xs.take i) = true → p (xs.getD i 0) = true → idxG p k xs = k + i
  | [], k, i, h, _, _ => by simp at h
  | x :: xs, k, 0, h, _, e => by simp at e; simp [idxG, e]
  | x :: xs, k, i + 1, h, ha, e => by
    simp only [List.take_succ_cons, allL, Bool.and_eq_true, notP, Bool.not_eq_true'] at ha
    rw [idxG, ha.1]
    have := idxG_at p xs (k + 1) i (by simpa using h) (by simpa [notP] using ha.2) (by simpa using e)
    rw [cond_false, this]; push_cast; omega
theorem idxG_any (p : Int → Bool) : ∀ (xs : List Int) (k : Int), 0 ≤ k → decide (0 ≤ idxG p k xs) = xs.any p
  | [], k, _ => rfl
  | x :: xs, k, hk => by
    rw [idxG, List.any_cons]
    cases h : p x
    · simpa using idxG_any p xs (k + 1) (by omega)
    · simpa using hk
theorem idxG_le (p : Int → Bool) : ∀ (xs : List Int) (k : Int), 0 ≤ k → -1 ≤ idxG p k xs ∧ idxG p k xs ≤ k + xs.length
  | [], k, hk => by simp [idxG]; omega
  | x :: xs, k, hk => by
    have := idxG_le p xs (k + 1) (by omega)
    rw [idxG]
    cases h : p x
    · simp only [cond_false, List.length_cons]; omega
    · simp only [cond_true, List.length_cons]; omega
/-- A function of numbers may be asked at all of a list. -/
def askL (F : Int → Prop × Bool) (xs : List Int) : Prop := ∀ i, i < xs.length → (F (xs.getD i 0)).1
def eqP (v : Int) (x : Int) : Bool := decide (v = x)
theorem eqP_eq (v x : Int) : eqP v x = decide (v = x) := rfl
theorem any_eqP (v : Int) (xs : List Int) : xs.any (eqP v) = decide (v ∈ xs) := by
  induction xs with
  | nil => rfl
  | cons x xs ih => rw [List.any_cons, ih, eqP]; simp

def k_slices_Index_int64 : Ctr := ⟨n_slices_Index_int64, [.v (.slice (.int .i64)), .v (.int .i64)], fun (xs : List Int) (v : Int) => ⟨(none, [⟨(.int .i64), idxG (eqP v) 0 xs⟩])⟩⟩
def l_slices_Index_int64 (xs : List Int) (v : Int) : Nat → LoopInv := (fun zb => if Nat.beq zb 0 then .mk (Nat) (fun k => k ≤ xs.length ∧ allL (notP (eqP v)) (xs.take k) = true) (fun k => xs.length - k) [] [2, 3, 6] (fun k => [(8, .imm ⟨(.int .i64), ((k : Int) : Int)⟩)]) [0, 1, 4, 5, 7, 8, 9, 10, 11, 12, 13, 14, 15, 16, 17, 18] (fun k => []) [] [] (fun k => fun _ => .none) else .none)
theorem vc_slices_Index_int64 (xs : List Int) (v : Int) : awp (envOf []) (bodyOf f_slices_Index_int64) (l_slices_Index_int64 xs v) 0 (funPost (envOf []) f_slices_Index_int64 fun r => areEq r [⟨(.int .i64), idxG (eqP v) 0 xs⟩]) (startState f_slices_Index_int64 [.val ⟨(.slice (.int .i64)), xs⟩, .val ⟨(.int .i64), v⟩]) =
  ((inI64 ((xs.length : Int)) →
 ((∃ k1 : Nat, ((k1 ≤ xs.length ∧ allL (notP (eqP v)) (xs.take k1) = true) ∧ ((xs = xs ∧ (v = v ∧ (((xs.length : Int)) = ((xs.length : Int)) ∧ ((0 : Int) = (k1 : Int) ∧ True)))) ∧ True))) ∧ (∀ k1 : Nat, ((k1 ≤ xs.length ∧ allL (notP (eqP v)) (xs.take k1) = true) →
 (((decide ((k1 : Int) < ((xs.length : Int)))) = true →
 (idxOk (k1 : Int) xs.length ∧ (inI64 (xs.getD k1 (0 : Int)) →
 (((decide (v = (xs.getD k1 (0 : Int)))) = true →
 (k1 : Int) = (idxG (eqP v) 0 xs)) ∧ ((decide (v = (xs.getD k1 (0 : Int)))) = false →
 (inI64 ((k1 : Int) + (1 : Int)) ∧ (∃ k2 : Nat, ((k2 ≤ xs.length ∧ allL (notP (eqP v)) (xs.take k2) = true) ∧ (xs.length - k2 < xs.length - k1 ∧ ((xs = xs ∧ (v = v ∧ (((xs.length : Int)) = ((xs.length : Int)) ∧ (((k1 : Int) + (1 : Int)) = (k2 : Int) ∧ True)))) ∧ True)))))))))) ∧ ((decide ((k1 : Int) < ((xs.length : Int)))) = false →
 (-1 : Int) = (idxG (eqP v) 0 xs)))))))) := by kernel_rfl
set_option maxRecDepth 4000 in
set_option maxHeartbeats 1000000 in
theorem ok_slices_Index_int64 (hE : AllGood []) : Ctr.Good k_slices_Index_int64 := by
  refine ⟨fnOk_of at_slices_Index_int64 rfl (by decide), ?_⟩
  show ∀ (xs : List Int) (v : Int), True → OkCall prog n_slices_Index_int64 [.val ⟨(.slice (.int .i64)), xs⟩, .val ⟨(.int .i64), v⟩] (· = [⟨(.int .i64), idxG (eqP v) 0 xs⟩])
  intro xs v _
  refine ok_of_awp (wr := []) (cl := []) (ro := []) hE at_slices_Index_int64 body_slices_Index_int64 (l_slices_Index_int64 xs v) ?_
  rewrite [vc_slices_Index_int64 xs v]
  have f0 := all_zero (notP (eqP v)) xs
  have f1 := idxG_none (eqP v) xs 0
  refine fun a0 => ⟨⟨0, ⟨?_, ⟨⟨rfl, ⟨rfl, ⟨rfl, ⟨?_, trivial⟩⟩⟩⟩, trivial⟩⟩⟩, fun k1 a1 => have b1x0 := all_take (notP (eqP v)) 0 xs k1; have b1x1 := all_done (notP (eqP v)) xs k1; have b1x2 := idxG_at (eqP v) xs 0 k1; have b1x3 := notP_eq (eqP v) (xs.getD k1 0); have b1x4 := eqP_eq v (xs.getD k1 0); ⟨fun a2 => ⟨?_, fun a3 => ⟨fun a4 => ?_, fun a4 => ⟨?_, ⟨k1 + 1, ⟨?_, ⟨?_, ⟨⟨rfl, ⟨rfl, ⟨rfl, ⟨?_, trivial⟩⟩⟩⟩, trivial⟩⟩⟩⟩⟩⟩⟩, fun a2 => ?_⟩⟩
  all_goals try and_intros
  all_goals first | rfl | trivial | omega | (simp only [decide_eq_true_eq, decide_eq_false_iff_not, idxOk, inI64] at *; omega) | grind [notP, idxOk, inI64, eqP]

theorem good_slices_Index_int64 : Ctr.Good k_slices_Index_int64 := ok_slices_Index_int64 trivial

def k_slices_Contains_int64 : Ctr := ⟨n_slices_Contains_int64, [.v (.slice (.int .i64)), .v (.int .i64)], fun (xs : List Int) (v : Int) => ⟨(none, [⟨.bool, decide (v ∈ xs)⟩])⟩⟩
def l_slices_Contains_int64 (xs : List Int) (v : Int) : Nat → LoopInv := fun _ => .none
theorem vc_slices_Contains_int64 (xs : List Int) (v : Int) : awp (envOf [k_slices_Index_int64]) (bodyOf f_slices_Contains_int64) (l_slices_Contains_int64 xs v) 0 (funPost (envOf [k_slices_Index_int64]) f_slices_Contains_int64 fun r => areEq r [⟨.bool, decide (v ∈ xs)⟩]) (startState f_slices_Contains_int64 [.val ⟨(.slice (.int .i64)), xs⟩, .val ⟨(.int .i64), v⟩]) =
  ((inI64 (idxG (eqP v) 0 xs) →
 (decide ((0 : Int) ≤ (idxG (eqP v) 0 xs))) = (decide (v ∈ xs)))) := by kernel_rfl
set_option maxRecDepth 4000 in
set_option maxHeartbeats 1000000 in
theorem ok_slices_Contains_int64 (hE : AllGood [k_slices_Index_int64]) : Ctr.Good k_slices_Contains_int64 := by
  refine ⟨fnOk_of at_slices_Contains_int64 rfl (by decide), ?_⟩
  show ∀ (xs : List Int) (v : Int), True → OkCall prog n_slices_Contains_int64 [.val ⟨(.slice (.int .i64)), xs⟩, .val ⟨(.int .i64), v⟩] (· = [⟨.bool, decide (v ∈ xs)⟩])
  intro xs v _
  refine ok_of_awp (wr := []) (cl := []) (ro := []) hE at_slices_Contains_int64 body_slices_Contains_int64 (l_slices_Contains_int64 xs v) ?_
  rewrite [vc_slices_Contains_int64 xs v]
  have f0 := idxG_any (eqP v) xs 0 (by omega)
  rw [any_eqP] at f0
  refine fun a0 => ?_
  all_goals try and_intros
  all_goals first | rfl | trivial | omega | (simp only [decide_eq_true_eq, decide_eq_false_iff_not, idxOk, inI64] at *; omega) | grind [notP, idxOk, inI64, eqP]

theorem good_slices_Contains_int64 : Ctr.Good k_slices_Contains_int64 := ok_slices_Contains_int64 ⟨good_slices_Index_int64, trivial⟩

def k_slices_IndexFunc_int64 : Ctr := ⟨n_slices_IndexFunc_int64, [.v (.slice (.int .i64)), .c [(.int .i64)] .bool], fun (xs : List Int) (F : Int → Prop × Bool) => ⟨(some (askL F xs), [⟨(.int .i64), idxG (fun x => (F x).2) 0 xs⟩])⟩⟩
def l_slices_IndexFunc_int64 (xs : List Int) (F : Int → Prop × Bool) : Nat → LoopInv := (fun zb => if Nat.beq zb 0 then .mk (Nat) (fun k => k ≤ xs.length ∧ allL (notP (fun x => (F x).2)) (xs.take k) = true) (fun k => xs.length - k) [] [2, 3, 6] (fun k => [(8, .imm ⟨(.int .i64), ((k : Int) : Int)⟩)]) [0, 1, 4, 5, 7, 8, 9, 10, 11, 12, 13, 14, 15, 16, 17, 18] (fun k => []) [] [] (fun k => fun _ => .none) else .none)
theorem vc_slices_IndexFunc_int64 (xs : List Int) (F : Int → Prop × Bool) : awp (envOf []) (bodyOf f_slices_IndexFunc_int64) (l_slices_IndexFunc_int64 xs F) 0 (funPost (envOf []) f_slices_IndexFunc_int64 fun r => areEq r [⟨(.int .i64), idxG (fun x => (F x).2) 0 xs⟩]) (startState f_slices_IndexFunc_int64 [.val ⟨(.slice (.int .i64)), xs⟩, .clo ⟨[(.int .i64)], .bool, F⟩]) =
  ((inI64 ((xs.length : Int)) →
 ((∃ k1 : Nat, ((k1 ≤ xs.length ∧ allL (notP (fun x => (F x).2)) (xs.take k1) = true) ∧ ((xs = xs ∧ (F = F ∧ (((xs.length : Int)) = ((xs.length : Int)) ∧ ((0 : Int) = (k1 : Int) ∧ True)))) ∧ True))) ∧ (∀ k1 : Nat, ((k1 ≤ xs.length ∧ allL (notP (fun x => (F x).2)) (xs.take k1) = true) →
 (((decide ((k1 : Int) < ((xs.length : Int)))) = true →
 (idxOk (k1 : Int) xs.length ∧ (inI64 (xs.getD k1 (0 : Int)) →
 ((F (xs.getD k1 (0 : Int))).1 ∧ ((((F (xs.getD k1 (0 : Int))).2) = true →
 (k1 : Int) = (idxG (fun x => (F x).2) 0 xs)) ∧ (((F (xs.getD k1 (0 : Int))).2) = false →
 (inI64 ((k1 : Int) + (1 : Int)) ∧ (∃ k2 : Nat, ((k2 ≤ xs.length ∧ allL (notP (fun x => (F x).2)) (xs.take k2) = true) ∧ (xs.length - k2 < xs.length - k1 ∧ ((xs = xs ∧ (F = F ∧ (((xs.length : Int)) = ((xs.length : Int)) ∧ (((k1 : Int) + (1 : Int)) = (k2 : Int) ∧ True)))) ∧ True))))))))))) ∧ ((decide ((k1 : Int) < ((xs.length : Int)))) = false →
 (-1 : Int) = (idxG (fun x => (F x).2) 0 xs)))))))) := by kernel_rfl
set_option maxRecDepth 4000 in
set_option maxHeartbeats 1000000 in
theorem ok_slices_IndexFunc_int64 (hE : AllGood []) : Ctr.Good k_slices_IndexFunc_int64 := by
  refine ⟨fnOk_of at_slices_IndexFunc_int64 rfl (by decide), ?_⟩
  show ∀ (xs : List Int) (F : Int → Prop × Bool), (askL F xs) → OkCall prog n_slices_IndexFunc_int64 [.val ⟨(.slice (.int .i64)), xs⟩, .clo ⟨[(.int .i64)], .bool, F⟩] (· = [⟨(.int .i64), idxG (fun x => (F x).2) 0 xs⟩])
  intro xs F hp
  refine ok_of_awp (wr := []) (cl := []) (ro := []) hE at_slices_IndexFunc_int64 body_slices_IndexFunc_int64 (l_slices_IndexFunc_int64 xs F) ?_
  rewrite [vc_slices_IndexFunc_int64 xs F]
  have f0 := all_zero (notP (fun x => (F x).2)) xs
  have f1 := idxG_none (fun x => (F x).2) xs 0
  refine fun a0 => ⟨⟨0, ⟨?_, ⟨⟨rfl, ⟨rfl, ⟨rfl, ⟨?_, trivial⟩⟩⟩⟩, trivial⟩⟩⟩, fun k1 a1 => have b1x0 := all_take (notP (fun x => (F x).2)) 0 xs k1; have b1x1 := all_done (notP (fun x => (F x).2)) xs k1; have b1x2 := idxG_at (fun x => (F x).2) xs 0 k1; have b1x3 := notP_eq (fun x => (F x).2) (xs.getD k1 0); have b1x4 := hp k1; ⟨fun a2 => ⟨?_, fun a3 => ⟨?_, ⟨fun a4 => ?_, fun a4 => ⟨?_, ⟨k1 + 1, ⟨?_, ⟨?_, ⟨⟨rfl, ⟨rfl, ⟨rfl, ⟨?_, trivial⟩⟩⟩⟩, trivial⟩⟩⟩⟩⟩⟩⟩⟩, fun a2 => ?_⟩⟩
  all_goals try and_intros
  all_goals first | rfl | trivial | omega | (simp only [decide_eq_true_eq, decide_eq_false_iff_not, idxOk, inI64] at *; omega) | grind [notP, idxOk, inI64, eqP]

theorem good_slices_IndexFunc_int64 : Ctr.Good k_slices_IndexFunc_int64 := ok_slices_IndexFunc_int64 trivial

def k_slices_ContainsFunc_int64 : Ctr := ⟨n_slices_ContainsFunc_int64, [.v (.slice (.int .i64)), .c [(.int .i64)] .bool], fun (xs : List Int) (F : Int → Prop × Bool) => ⟨(some (askL F xs), [⟨.bool, xs.any (fun x => (F x).2)⟩])⟩⟩
def l_slices_ContainsFunc_int64 (xs : List Int) (F : Int → Prop × Bool) : Nat → LoopInv := fun _ => .none
theorem vc_slices_ContainsFunc_int64 (xs : List Int) (F : Int → Prop × Bool) : awp (envOf [k_slices_IndexFunc_int64]) (bodyOf f_slices_ContainsFunc_int64) (l_slices_ContainsFunc_int64 xs F) 0 (funPost (envOf [k_slices_IndexFunc_int64]) f_slices_ContainsFunc_int64 fun r => areEq r [⟨.bool, xs.any (fun x => (F x).2)⟩]) (startState f_slices_ContainsFunc_int64 [.val ⟨(.slice (.int .i64)), xs⟩, .clo ⟨[(.int .i64)], .bool, F⟩]) =
  ((askL F xs ∧ (inI64 (idxG (fun x => (F x).2) 0 xs) →
 (decide ((0 : Int) ≤ (idxG (fun x => (F x).2) 0 xs))) = (xs.any (fun x => (F x).2))))) := by kernel_rfl
set_option maxRecDepth 4000 in
set_option maxHeartbeats 1000000 in
theorem ok_slices_ContainsFunc_int64 (hE : AllGood [k_slices_IndexFunc_int64]) : Ctr.Good k_slices_ContainsFunc_int64 := by
  refine ⟨fnOk_of at_slices_ContainsFunc_int64 rfl (by decide), ?_⟩
  show ∀ (xs : List Int) (F : Int → Prop × Bool), (askL F xs) → OkCall prog n_slices_ContainsFunc_int64 [.val ⟨(.slice (.int .i64)), xs⟩, .clo ⟨[(.int .i64)], .bool, F⟩] (· = [⟨.bool, xs.any (fun x => (F x).2)⟩])
  intro xs F hp
  refine ok_of_awp (wr := []) (cl := []) (ro := []) hE at_slices_ContainsFunc_int64 body_slices_ContainsFunc_int64 (l_slices_ContainsFunc_int64 xs F) ?_
  rewrite [vc_slices_ContainsFunc_int64 xs F]
  have f0 := idxG_any (fun x => (F x).2) xs 0 (by omega)
  refine ⟨?_, fun a0 => ?_⟩
  all_goals try and_intros
  all_goals first | rfl | trivial | omega | (simp only [decide_eq_true_eq, decide_eq_false_iff_not, idxOk, inI64] at *; omega) | grind [notP, idxOk, inI64, eqP]

theorem good_slices_ContainsFunc_int64 : Ctr.Good k_slices_ContainsFunc_int64 := ok_slices_ContainsFunc_int64 ⟨good_slices_IndexFunc_int64, trivial⟩

end
end Go.Proofs.Ytcdppmpjplhgkaa

/- Worlds: their form. Printed by vmk.py. -/
import Derived.Test.YtlmgmdkelbdmgaaVmUse
import Derived.Test.YtlmgmdkelbdmgaaVmLib
import Derived.Test.YtlmgmdkelbdmgaaVmExpr
import Derived.Test.YtlmgmdkelbdmgaaVmExpr2
import Derived.Test.YtlmgmdkelbdmgaaVmShaped
import Derived.Test.YtlmgmdkelbdmgaaVmTruth
import Derived.Test.YtlmgmdkelbdmgaaVmValid
set_option linter.unusedVariables false
set_option linter.unusedSimpArgs false
set_option linter.unusedSectionVars false
namespace Go.Proofs.Ytlmgmdkelbdmgaa
noncomputable section

def inB (b n : Int) : Bool := decide (0 ≤ n ∧ n ≤ b - 1)
def stB (n k : Int) : Bool := decide (-1 ≤ k ∧ k ≤ n - 1)
def actB (n : Int) (l : List Int) : Bool := decide ((l.length : Int) = n) && allL (stB n) l
/-- A world is one of a signature. -/
def isW (gg : GSig) (x : GWorld) : Bool := decide (1 ≤ (x.atoms.length : Int) ∧ (x.atoms.length : Int) ≤ 12) && allL (inB (atomsN gg)) x.atoms && decide ((x.acts.length : Int) = gg.actions) && allL (actB x.atoms.length) x.acts
def okW (gg : GSig) (x : GWorld) : Bool := sigOk gg && isW gg x
theorem isW_eq (gg : GSig) (x : GWorld) : isW gg x = (decide (1 ≤ (x.atoms.length : Int) ∧ (x.atoms.length : Int) ≤ 12) && allL (inB (atomsN gg)) x.atoms && decide ((x.acts.length : Int) = gg.actions) && allL (actB x.atoms.length) x.acts) := rfl
theorem inB_eq (b n : Int) : inB b n = decide (0 ≤ n ∧ n ≤ b - 1) := rfl
theorem stB_eq (n k : Int) : stB n k = decide (-1 ≤ k ∧ k ≤ n - 1) := rfl
theorem actB_eq (n : Int) (l : List Int) : actB n l = (decide ((l.length : Int) = n) && allL (stB n) l) := rfl
theorem sigOk_actsW (gg : GSig) (h : sigOk gg = true) : (0 ≤ gg.tests ∧ gg.tests ≤ 3) ∧ 0 ≤ gg.actions ∧ gg.actions ≤ 4 := (sigOk_iff gg).1 h

def k_impl_inRange : Ctr := ⟨n_impl_inRange, [.v (.slice (.int .i64)), .v (.int .i64)], fun (xs : List Int) (below : Int) => ⟨(some (0 ≤ below ∧ below ≤ 4096), [⟨.bool, allL (inB below) xs⟩])⟩⟩
def l_impl_inRange (xs : List Int) (below : Int) : Nat → LoopInv := (fun zb => if Nat.beq zb 0 then .mk (Nat) (fun k => k ≤ xs.length ∧ allL (inB below) (xs.take k) = true) (fun k => xs.length - k) [] [0, 2, 3, 5] (fun k => [(9, .imm ⟨(.int .i64), ((k : Int) : Int)⟩)]) [1, 4, 6, 7, 8, 9, 10, 11, 12, 13, 14, 15, 16, 17, 18] (fun k => []) [] [] (fun k => fun _ => .none) else .none)
theorem vc_impl_inRange (xs : List Int) (below : Int) : awp (envOf [k_impl_within]) (bodyOf f_impl_inRange) (l_impl_inRange xs below) 0 (funPost (envOf [k_impl_within]) f_impl_inRange fun r => areEq r [⟨.bool, allL (inB below) xs⟩]) (startState f_impl_inRange [.val ⟨(.slice (.int .i64)), xs⟩, .val ⟨(.int .i64), below⟩]) =
  ((inI64 ((xs.length : Int)) →
   ((∃ k1 : Nat, ((k1 ≤ xs.length ∧ allL (inB below) (xs.take k1) = true) ∧ ((below = below ∧ (xs = xs ∧ (((xs.length : Int)) = ((xs.length : Int)) ∧ ((0 : Int) = (k1 : Int) ∧ True)))) ∧ True))) ∧ (∀ k2 : Nat, ((k2 ≤ xs.length ∧ allL (inB below) (xs.take k2) = true) →
       (((decide ((k2 : Int) < ((xs.length : Int)))) = true →
         (idxOk (k2 : Int) xs.length ∧ (inI64 (xs.getD k2 (0 : Int)) →
           (inI64 (below - (1 : Int)) ∧ ((((!(decide ((0 : Int) ≤ (xs.getD k2 (0 : Int)) ∧ (xs.getD k2 (0 : Int)) ≤ (below - (1 : Int))))) = true) →
             false = (allL (inB below) xs)) ∧ (((!(decide ((0 : Int) ≤ (xs.getD k2 (0 : Int)) ∧ (xs.getD k2 (0 : Int)) ≤ (below - (1 : Int))))) = false) →
             (inI64 ((k2 : Int) + (1 : Int)) ∧ (∃ k3 : Nat, ((k3 ≤ xs.length ∧ allL (inB below) (xs.take k3) = true) ∧ (xs.length - k3 < xs.length - k2 ∧ ((below = below ∧ (xs = xs ∧ (((xs.length : Int)) = ((xs.length : Int)) ∧ (((k2 : Int) + (1 : Int)) = (k3 : Int) ∧ True)))) ∧ True))))))))))) ∧ ((decide ((k2 : Int) < ((xs.length : Int)))) = false →
         true = (allL (inB below) xs)))))))) := by kernel_rfl
set_option maxRecDepth 4000 in
set_option maxHeartbeats 1000000 in
theorem ok_impl_inRange (hE : AllGood [k_impl_within]) : Ctr.Good k_impl_inRange := by
  refine ⟨fnOk_of at_impl_inRange rfl (by decide), ?_⟩
  show ∀ (xs : List Int) (below : Int), (0 ≤ below ∧ below ≤ 4096) → OkCall prog n_impl_inRange [.val ⟨(.slice (.int .i64)), xs⟩, .val ⟨(.int .i64), below⟩] (· = [⟨.bool, allL (inB below) xs⟩])
  intro xs below hp
  refine ok_of_awp (wr := []) hE at_impl_inRange body_impl_inRange (l_impl_inRange xs below) ?_
  rewrite [vc_impl_inRange xs below]
  have f0 := all_zero (inB below) xs
  refine fun a0 => ⟨⟨0, ⟨?_, ⟨⟨rfl, ⟨rfl, ⟨rfl, ⟨?_, trivial⟩⟩⟩⟩, trivial⟩⟩⟩, fun k2 a1 => have b1x0 := all_take (inB below) 0 xs k2; have b1x1 := all_bad (inB below) 0 xs k2; have b1x2 := all_done (inB below) xs k2; have b1x3 := inB_eq below (xs.getD k2 0); ⟨fun a2 => ⟨?_, fun a3 => ⟨?_, ⟨fun a4 => ?_, fun a4 => ⟨?_, ⟨k2 + 1, ⟨?_, ⟨?_, ⟨⟨rfl, ⟨rfl, ⟨rfl, ⟨?_, trivial⟩⟩⟩⟩, trivial⟩⟩⟩⟩⟩⟩⟩⟩, fun a2 => ?_⟩⟩
  all_goals try and_intros
  all_goals first | rfl | trivial | omega | (simp only [decide_eq_true_eq, decide_eq_false_iff_not, idxOk, inI64] at *; omega) | grind [idxOk, inI64]

theorem good_impl_inRange : Ctr.Good k_impl_inRange := ok_impl_inRange ⟨good_impl_within, trivial⟩

def k_spec_l02Atom : Ctr := ⟨n_spec_l02Atom, [.v (.st .sig), .v (.int .i64)], fun (gg : GSig) (atom : Int) => ⟨(some (sigOk gg = true), [⟨.bool, inB (atomsN gg) atom⟩])⟩⟩
def l_spec_l02Atom (gg : GSig) (atom : Int) : Nat → LoopInv := fun _ => .none
theorem vc_spec_l02Atom (gg : GSig) (atom : Int) : awp (envOf [k_spec_l01Atoms, k_spec_l00In]) (bodyOf f_spec_l02Atom) (l_spec_l02Atom gg atom) 0 (funPost (envOf [k_spec_l01Atoms, k_spec_l00In]) f_spec_l02Atom fun r => areEq r [⟨.bool, inB (atomsN gg) atom⟩]) (startState f_spec_l02Atom [.val ⟨(.st .sig), gg⟩, .val ⟨(.int .i64), atom⟩]) =
  (((0 ≤ gg.tests ∧ gg.tests ≤ 3) ∧ (inI64 (atomsN gg) →
   (inI64 ((atomsN gg) - (1 : Int)) ∧ ((decide ((0 : Int) ≤ atom ∧ atom ≤ ((atomsN gg) - (1 : Int)))) = (inB (atomsN gg) atom)))))) := by kernel_rfl
set_option maxRecDepth 4000 in
set_option maxHeartbeats 1000000 in
theorem ok_spec_l02Atom (hE : AllGood [k_spec_l01Atoms, k_spec_l00In]) : Ctr.Good k_spec_l02Atom := by
  refine ⟨fnOk_of at_spec_l02Atom rfl (by decide), ?_⟩
  show ∀ (gg : GSig) (atom : Int), (sigOk gg = true) → OkCall prog n_spec_l02Atom [.val ⟨(.st .sig), gg⟩, .val ⟨(.int .i64), atom⟩] (· = [⟨.bool, inB (atomsN gg) atom⟩])
  intro gg atom hp
  refine ok_of_awp (wr := []) hE at_spec_l02Atom body_spec_l02Atom (l_spec_l02Atom gg atom) ?_
  rewrite [vc_spec_l02Atom gg atom]
  have f0 := sigOk_actsW gg hp
  have f1 := atomsN_le gg f0.1
  have f2 := inB_eq (atomsN gg) atom
  refine ⟨?_, fun a0 => ⟨?_, ?_⟩⟩
  all_goals try and_intros
  all_goals first | rfl | trivial | omega | (simp only [decide_eq_true_eq, decide_eq_false_iff_not, idxOk, inI64] at *; omega) | grind [idxOk, inI64]

theorem good_spec_l02Atom : Ctr.Good k_spec_l02Atom := ok_spec_l02Atom ⟨good_spec_l01Atoms, good_spec_l00In, trivial⟩

def k_impl_isWorld : Ctr := ⟨n_impl_isWorld, [.v (.st .sig), .v (.st .world)], fun (gg : GSig) (x : GWorld) => ⟨(some (sigOk gg = true), [⟨.bool, isW gg x⟩])⟩⟩
def l_impl_isWorld (gg : GSig) (x : GWorld) : Nat → LoopInv := (fun zb => if Nat.beq zb 0 then .mk (Nat) (fun k => k ≤ x.acts.length ∧ allL (actB (x.atoms.length : Int)) (x.acts.take k) = true) (fun k => x.acts.length - k) [] [0, 1, 2, 3, 6, 8, 10, 11, 12, 13, 14, 15, 16, 17, 18, 19, 20, 21, 22, 23, 24, 25, 26, 27, 28, 29, 30, 31, 32] (fun k => [(35, .imm ⟨(.int .i64), ((k : Int) : Int)⟩)]) [4, 5, 7, 9, 33, 34, 35, 36, 37, 38, 39, 40, 41, 42, 43, 44, 45, 46, 47, 48, 49, 50, 51, 52, 53, 54, 55] (fun k => []) [] [] (fun k => (fun zb => if Nat.beq zb 2 then .mk (Nat) (fun j => k < x.acts.length ∧ allL (actB (x.atoms.length : Int)) (x.acts.take k) = true ∧ ((x.acts.getD k []).length : Int) = (x.atoms.length : Int) ∧ j ≤ (x.acts.getD k []).length ∧ allL (stB (x.atoms.length : Int)) ((x.acts.getD k []).take j) = true) (fun j => (x.acts.getD k []).length - j) [] [0, 1, 2, 3, 6, 8, 10, 11, 12, 13, 14, 15, 16, 17, 18, 19, 20, 21, 22, 23, 24, 25, 26, 27, 28, 29, 30, 31, 32] (fun j => [(45, .imm ⟨(.int .i64), ((j : Int) : Int)⟩)]) [4, 5, 7, 9, 33, 34, 35, 36, 37, 38, 39, 40, 41, 42, 43, 44, 45, 46, 47, 48, 49, 50, 51, 52, 53, 54, 55] (fun j => []) [] [] (fun j => fun _ => .none) else .none)) else if Nat.beq zb 100004 then .mk (Unit) (fun u => decide (1 ≤ (x.atoms.length : Int) ∧ (x.atoms.length : Int) ≤ 12) = true ∧ allL (inB (atomsN gg)) x.atoms = true ∧ (x.acts.length : Int) = gg.actions) (fun u => 0) [] [0, 1, 2, 6, 8, 10, 11, 12, 13, 14, 15, 16, 17, 18, 19, 20, 21, 22, 23, 24, 25, 26, 27, 28, 29, 30, 31] (fun u => []) [3, 4, 5, 7, 9, 32, 33, 34, 35, 36, 37, 38, 39, 40, 41, 42, 43, 44, 45, 46, 47, 48, 49, 50, 51, 52, 53, 54, 55] (fun u => []) [] [] (fun u => (fun zb => if Nat.beq zb 0 then .mk (Nat) (fun k => k ≤ x.acts.length ∧ allL (actB (x.atoms.length : Int)) (x.acts.take k) = true) (fun k => x.acts.length - k) [] [0, 1, 2, 3, 6, 8, 10, 11, 12, 13, 14, 15, 16, 17, 18, 19, 20, 21, 22, 23, 24, 25, 26, 27, 28, 29, 30, 31, 32] (fun k => [(35, .imm ⟨(.int .i64), ((k : Int) : Int)⟩)]) [4, 5, 7, 9, 33, 34, 35, 36, 37, 38, 39, 40, 41, 42, 43, 44, 45, 46, 47, 48, 49, 50, 51, 52, 53, 54, 55] (fun k => []) [] [] (fun k => (fun zb => if Nat.beq zb 2 then .mk (Nat) (fun j => k < x.acts.length ∧ allL (actB (x.atoms.length : Int)) (x.acts.take k) = true ∧ ((x.acts.getD k []).length : Int) = (x.atoms.length : Int) ∧ j ≤ (x.acts.getD k []).length ∧ allL (stB (x.atoms.length : Int)) ((x.acts.getD k []).take j) = true) (fun j => (x.acts.getD k []).length - j) [] [0, 1, 2, 3, 6, 8, 10, 11, 12, 13, 14, 15, 16, 17, 18, 19, 20, 21, 22, 23, 24, 25, 26, 27, 28, 29, 30, 31, 32] (fun j => [(45, .imm ⟨(.int .i64), ((j : Int) : Int)⟩)]) [4, 5, 7, 9, 33, 34, 35, 36, 37, 38, 39, 40, 41, 42, 43, 44, 45, 46, 47, 48, 49, 50, 51, 52, 53, 54, 55] (fun j => []) [] [] (fun j => fun _ => .none) else .none)) else .none)) else .none)
theorem vc_impl_isWorld (gg : GSig) (x : GWorld) : awp (envOf [k_impl_within, k_impl_inRange, k_impl_atomsIn]) (bodyOf f_impl_isWorld) (l_impl_isWorld gg x) 0 (funPost (envOf [k_impl_within, k_impl_inRange, k_impl_atomsIn]) f_impl_isWorld fun r => areEq r [⟨.bool, isW gg x⟩]) (startState f_impl_isWorld [.val ⟨(.st .sig), gg⟩, .val ⟨(.st .world), x⟩]) =
  ((x.atoms.length ≤ 140737488355328 →
   (inI64 ((x.atoms.length : Int)) →
     (((((!(decide ((1 : Int) ≤ ((x.atoms.length : Int)) ∧ ((x.atoms.length : Int)) ≤ (12 : Int)))) = false) →
       ((0 ≤ gg.tests ∧ gg.tests ≤ 3) ∧ ((0 ≤ (atomsN gg) ∧ (atomsN gg) ≤ 4096) ∧ (((!(allL (inB (atomsN gg)) x.atoms)) = false →
         (x.atoms.length ≤ 140737488355328 →
           (inI64 (atomsN gg) →
             (x.acts.length ≤ 140737488355328 →
               (inI64 ((x.acts.length : Int)) →
                 (inI64 gg.actions →
                   (((!(decide (((x.acts.length : Int)) = gg.actions))) = true →
                     false = (isW gg x)) ∧ ((!(decide (((x.acts.length : Int)) = gg.actions))) = false →
                     (∃ u1 : Unit, ((decide (1 ≤ (x.atoms.length : Int) ∧ (x.atoms.length : Int) ≤ 12) = true ∧ allL (inB (atomsN gg)) x.atoms = true ∧ (x.acts.length : Int) = gg.actions) ∧ ((True ∧ (((x.atoms.length : Int)) = ((x.atoms.length : Int)) ∧ True)) ∧ ((x.atoms = x.atoms ∧ (x.acts = x.acts ∧ True)) ∧ True)))))))))))) ∧ ((!(allL (inB (atomsN gg)) x.atoms)) = (!false) →
         (x.atoms.length ≤ 140737488355328 →
           (inI64 (atomsN gg) →
             ((true = true →
               false = (isW gg x)) ∧ (true = false →
               (∃ u2 : Unit, ((decide (1 ≤ (x.atoms.length : Int) ∧ (x.atoms.length : Int) ≤ 12) = true ∧ allL (inB (atomsN gg)) x.atoms = true ∧ (x.acts.length : Int) = gg.actions) ∧ ((True ∧ (((x.atoms.length : Int)) = ((x.atoms.length : Int)) ∧ True)) ∧ ((x.atoms = x.atoms ∧ (x.acts = x.acts ∧ True)) ∧ True))))))))))))) ∧ (((!(decide ((1 : Int) ≤ ((x.atoms.length : Int)) ∧ ((x.atoms.length : Int)) ≤ (12 : Int)))) = (!false)) →
       ((true = false →
         (x.acts.length ≤ 140737488355328 →
           (inI64 ((x.acts.length : Int)) →
             (inI64 gg.actions →
               (((!(decide (((x.acts.length : Int)) = gg.actions))) = true →
                 false = (isW gg x)) ∧ ((!(decide (((x.acts.length : Int)) = gg.actions))) = false →
                 (∃ u3 : Unit, ((decide (1 ≤ (x.atoms.length : Int) ∧ (x.atoms.length : Int) ≤ 12) = true ∧ allL (inB (atomsN gg)) x.atoms = true ∧ (x.acts.length : Int) = gg.actions) ∧ ((True ∧ (((x.atoms.length : Int)) = ((x.atoms.length : Int)) ∧ True)) ∧ ((x.atoms = x.atoms ∧ (x.acts = x.acts ∧ True)) ∧ True)))))))))) ∧ (true = (!false) →
         ((true = true →
           false = (isW gg x)) ∧ (true = false →
           (∃ u4 : Unit, ((decide (1 ≤ (x.atoms.length : Int) ∧ (x.atoms.length : Int) ≤ 12) = true ∧ allL (inB (atomsN gg)) x.atoms = true ∧ (x.acts.length : Int) = gg.actions) ∧ ((True ∧ (((x.atoms.length : Int)) = ((x.atoms.length : Int)) ∧ True)) ∧ ((x.atoms = x.atoms ∧ (x.acts = x.acts ∧ True)) ∧ True)))))))))) ∧ (∀ u5 : Unit, ((decide (1 ≤ (x.atoms.length : Int) ∧ (x.atoms.length : Int) ≤ 12) = true ∧ allL (inB (atomsN gg)) x.atoms = true ∧ (x.acts.length : Int) = gg.actions) →
         (x.acts.length ≤ 140737488355328 →
           (inI64 ((x.acts.length : Int)) →
             ((∃ k6 : Nat, ((k6 ≤ x.acts.length ∧ allL (actB (x.atoms.length : Int)) (x.acts.take k6) = true) ∧ ((((x.atoms.length : Int)) = ((x.atoms.length : Int)) ∧ (x.acts = x.acts ∧ (((x.acts.length : Int)) = ((x.acts.length : Int)) ∧ ((0 : Int) = (k6 : Int) ∧ True)))) ∧ True))) ∧ (∀ k7 : Nat, ((k7 ≤ x.acts.length ∧ allL (actB (x.atoms.length : Int)) (x.acts.take k7) = true) →
                 (((decide ((k7 : Int) < ((x.acts.length : Int)))) = true →
                   (idxOk (k7 : Int) x.acts.length ∧ ((x.acts.getD k7 []).length ≤ 140737488355328 →
                     (inI64 (((x.acts.getD k7 []).length : Int)) →
                       (((!(decide ((((x.acts.getD k7 []).length : Int)) = ((x.atoms.length : Int))))) = true →
                         false = (isW gg x)) ∧ ((!(decide ((((x.acts.getD k7 []).length : Int)) = ((x.atoms.length : Int))))) = false →
                         (inI64 (((x.acts.getD k7 []).length : Int)) →
                           ((∃ j8 : Nat, ((k7 < x.acts.length ∧ allL (actB (x.atoms.length : Int)) (x.acts.take k7) = true ∧ ((x.acts.getD k7 []).length : Int) = (x.atoms.length : Int) ∧ j8 ≤ (x.acts.getD k7 []).length ∧ allL (stB (x.atoms.length : Int)) ((x.acts.getD k7 []).take j8) = true) ∧ ((((x.atoms.length : Int)) = ((x.atoms.length : Int)) ∧ ((x.acts.getD k7 []) = (x.acts.getD k7 []) ∧ (x.acts = x.acts ∧ (((x.acts.length : Int)) = ((x.acts.length : Int)) ∧ ((k7 : Int) = (k7 : Int) ∧ ((decide ((k7 : Int) < ((x.acts.length : Int)))) = (decide ((k7 : Int) < ((x.acts.length : Int)))) ∧ ((x.acts.getD k7 []) = (x.acts.getD k7 []) ∧ ((x.acts.getD k7 []) = (x.acts.getD k7 []) ∧ ((x.acts.getD k7 []) = (x.acts.getD k7 []) ∧ ((((x.acts.getD k7 []).length : Int)) = (((x.acts.getD k7 []).length : Int)) ∧ (((x.atoms.length : Int)) = ((x.atoms.length : Int)) ∧ ((!(decide ((((x.acts.getD k7 []).length : Int)) = ((x.atoms.length : Int))))) = (!(decide ((((x.acts.getD k7 []).length : Int)) = ((x.atoms.length : Int))))) ∧ ((x.acts.getD k7 []) = (x.acts.getD k7 []) ∧ ((((x.acts.getD k7 []).length : Int)) = (((x.acts.getD k7 []).length : Int)) ∧ ((0 : Int) = (j8 : Int) ∧ True))))))))))))))) ∧ True))) ∧ (∀ j9 : Nat, ((k7 < x.acts.length ∧ allL (actB (x.atoms.length : Int)) (x.acts.take k7) = true ∧ ((x.acts.getD k7 []).length : Int) = (x.atoms.length : Int) ∧ j9 ≤ (x.acts.getD k7 []).length ∧ allL (stB (x.atoms.length : Int)) ((x.acts.getD k7 []).take j9) = true) →
                               (((decide ((j9 : Int) < (((x.acts.getD k7 []).length : Int)))) = true →
                                 (idxOk (j9 : Int) (x.acts.getD k7 []).length ∧ (inI64 ((x.acts.getD k7 []).getD j9 (0 : Int)) →
                                   (inI64 (((x.atoms.length : Int)) - (1 : Int)) ∧ ((((!(decide ((-1 : Int) ≤ ((x.acts.getD k7 []).getD j9 (0 : Int)) ∧ ((x.acts.getD k7 []).getD j9 (0 : Int)) ≤ (((x.atoms.length : Int)) - (1 : Int))))) = true) →
                                     false = (isW gg x)) ∧ (((!(decide ((-1 : Int) ≤ ((x.acts.getD k7 []).getD j9 (0 : Int)) ∧ ((x.acts.getD k7 []).getD j9 (0 : Int)) ≤ (((x.atoms.length : Int)) - (1 : Int))))) = false) →
                                     (inI64 ((j9 : Int) + (1 : Int)) ∧ (∃ j10 : Nat, ((k7 < x.acts.length ∧ allL (actB (x.atoms.length : Int)) (x.acts.take k7) = true ∧ ((x.acts.getD k7 []).length : Int) = (x.atoms.length : Int) ∧ j10 ≤ (x.acts.getD k7 []).length ∧ allL (stB (x.atoms.length : Int)) ((x.acts.getD k7 []).take j10) = true) ∧ ((x.acts.getD k7 []).length - j10 < (x.acts.getD k7 []).length - j9 ∧ ((((x.atoms.length : Int)) = ((x.atoms.length : Int)) ∧ ((x.acts.getD k7 []) = (x.acts.getD k7 []) ∧ (x.acts = x.acts ∧ (((x.acts.length : Int)) = ((x.acts.length : Int)) ∧ ((k7 : Int) = (k7 : Int) ∧ ((decide ((k7 : Int) < ((x.acts.length : Int)))) = (decide ((k7 : Int) < ((x.acts.length : Int)))) ∧ ((x.acts.getD k7 []) = (x.acts.getD k7 []) ∧ ((x.acts.getD k7 []) = (x.acts.getD k7 []) ∧ ((x.acts.getD k7 []) = (x.acts.getD k7 []) ∧ ((((x.acts.getD k7 []).length : Int)) = (((x.acts.getD k7 []).length : Int)) ∧ (((x.atoms.length : Int)) = ((x.atoms.length : Int)) ∧ ((!(decide ((((x.acts.getD k7 []).length : Int)) = ((x.atoms.length : Int))))) = (!(decide ((((x.acts.getD k7 []).length : Int)) = ((x.atoms.length : Int))))) ∧ ((x.acts.getD k7 []) = (x.acts.getD k7 []) ∧ ((((x.acts.getD k7 []).length : Int)) = (((x.acts.getD k7 []).length : Int)) ∧ (((j9 : Int) + (1 : Int)) = (j10 : Int) ∧ True))))))))))))))) ∧ True))))))))))) ∧ ((decide ((j9 : Int) < (((x.acts.getD k7 []).length : Int)))) = false →
                                 (inI64 ((k7 : Int) + (1 : Int)) ∧ (∃ k11 : Nat, ((k11 ≤ x.acts.length ∧ allL (actB (x.atoms.length : Int)) (x.acts.take k11) = true) ∧ (x.acts.length - k11 < x.acts.length - k7 ∧ ((((x.atoms.length : Int)) = ((x.atoms.length : Int)) ∧ (x.acts = x.acts ∧ (((x.acts.length : Int)) = ((x.acts.length : Int)) ∧ (((k7 : Int) + (1 : Int)) = (k11 : Int) ∧ True)))) ∧ True))))))))))))))))) ∧ ((decide ((k7 : Int) < ((x.acts.length : Int)))) = false →
                   true = (isW gg x)))))))))))))) := by kernel_rfl
set_option maxRecDepth 4000 in
set_option maxHeartbeats 1000000 in
theorem ok_impl_isWorld (hE : AllGood [k_impl_within, k_impl_inRange, k_impl_atomsIn]) : Ctr.Good k_impl_isWorld := by
  refine ⟨fnOk_of at_impl_isWorld rfl (by decide), ?_⟩
  show ∀ (gg : GSig) (x : GWorld), (sigOk gg = true) → OkCall prog n_impl_isWorld [.val ⟨(.st .sig), gg⟩, .val ⟨(.st .world), x⟩] (· = [⟨.bool, isW gg x⟩])
  intro gg x hp
  refine ok_of_awp (wr := []) hE at_impl_isWorld body_impl_isWorld (l_impl_isWorld gg x) ?_
  rewrite [vc_impl_isWorld gg x]
  have f0 := sigOk_actsW gg hp
  have f1 := atomsN_le gg f0.1
  have f2 := all_zero (actB (x.atoms.length : Int)) x.acts
  have f3 := all_zero (stB (x.atoms.length : Int))
  rw [isW_eq]
  refine fun a0 => fun a1 => ⟨⟨fun a2 => ⟨?_, ⟨?_, ⟨fun a3 => fun a4 => fun a5 => fun a6 => fun a7 => fun a8 => ⟨fun a9 => ?_, fun a9 => ⟨(), ⟨?_, ⟨⟨trivial, ⟨rfl, trivial⟩⟩, ⟨⟨rfl, ⟨rfl, trivial⟩⟩, trivial⟩⟩⟩⟩⟩, fun a3 => fun a4 => fun a5 => ⟨fun a6 => ?_, fun a6 => ⟨(), ⟨?_, ⟨⟨trivial, ⟨rfl, trivial⟩⟩, ⟨⟨rfl, ⟨rfl, trivial⟩⟩, trivial⟩⟩⟩⟩⟩⟩⟩⟩, fun a2 => ⟨fun a3 => fun a4 => fun a5 => fun a6 => ⟨fun a7 => ?_, fun a7 => ⟨(), ⟨?_, ⟨⟨trivial, ⟨rfl, trivial⟩⟩, ⟨⟨rfl, ⟨rfl, trivial⟩⟩, trivial⟩⟩⟩⟩⟩, fun a3 => ⟨fun a4 => ?_, fun a4 => ⟨(), ⟨?_, ⟨⟨trivial, ⟨rfl, trivial⟩⟩, ⟨⟨rfl, ⟨rfl, trivial⟩⟩, trivial⟩⟩⟩⟩⟩⟩⟩, fun u5 => fun a2 => fun a3 => fun a4 => ⟨⟨0, ⟨?_, ⟨⟨rfl, ⟨rfl, ⟨rfl, ⟨?_, trivial⟩⟩⟩⟩, trivial⟩⟩⟩, fun k7 a5 => have b5x0 := all_take (actB (x.atoms.length : Int)) [] x.acts k7; have b5x1 := all_bad (actB (x.atoms.length : Int)) [] x.acts k7; have b5x2 := all_done (actB (x.atoms.length : Int)) x.acts k7; have b5x3 := actB_eq x.atoms.length (x.acts.getD k7 []); ⟨fun a6 => ⟨?_, fun a7 => fun a8 => ⟨fun a9 => ?_, fun a9 => fun a10 => ⟨⟨0, ⟨?_, ⟨⟨rfl, ⟨rfl, ⟨rfl, ⟨rfl, ⟨rfl, ⟨rfl, ⟨rfl, ⟨rfl, ⟨rfl, ⟨rfl, ⟨rfl, ⟨?_, ⟨rfl, ⟨rfl, ⟨?_, trivial⟩⟩⟩⟩⟩⟩⟩⟩⟩⟩⟩⟩⟩⟩⟩, trivial⟩⟩⟩, fun j9 a11 => have b11x0 := all_take (stB (x.atoms.length : Int)) 0 (x.acts.getD k7 []) j9; have b11x1 := all_bad (stB (x.atoms.length : Int)) 0 (x.acts.getD k7 []) j9; have b11x2 := all_done (stB (x.atoms.length : Int)) (x.acts.getD k7 []) j9; have b11x3 := stB_eq x.atoms.length ((x.acts.getD k7 []).getD j9 0); have b11x4 := actB_eq x.atoms.length (x.acts.getD k7 []); have b11x5 := all_take (actB (x.atoms.length : Int)) [] x.acts k7; have b11x6 := all_bad (actB (x.atoms.length : Int)) [] x.acts k7; ⟨fun a12 => ⟨?_, fun a13 => ⟨?_, ⟨fun a14 => ?_, fun a14 => ⟨?_, ⟨j9 + 1, ⟨?_, ⟨?_, ⟨⟨rfl, ⟨rfl, ⟨rfl, ⟨rfl, ⟨rfl, ⟨rfl, ⟨rfl, ⟨rfl, ⟨rfl, ⟨rfl, ⟨rfl, ⟨?_, ⟨rfl, ⟨rfl, ⟨?_, trivial⟩⟩⟩⟩⟩⟩⟩⟩⟩⟩⟩⟩⟩⟩⟩, trivial⟩⟩⟩⟩⟩⟩⟩⟩, fun a12 => ⟨?_, ⟨k7 + 1, ⟨?_, ⟨?_, ⟨⟨rfl, ⟨rfl, ⟨rfl, ⟨?_, trivial⟩⟩⟩⟩, trivial⟩⟩⟩⟩⟩⟩⟩⟩⟩, fun a6 => ?_⟩⟩⟩
  all_goals try and_intros
  all_goals first | rfl | trivial | omega | (simp only [decide_eq_true_eq, decide_eq_false_iff_not, idxOk, inI64] at *; omega) | grind [idxOk, inI64]

theorem good_impl_isWorld : Ctr.Good k_impl_isWorld := ok_impl_isWorld ⟨good_impl_within, good_impl_inRange, good_impl_atomsIn, trivial⟩

def k_impl_ValidWorld : Ctr := ⟨n_impl_ValidWorld, [.v (.st .sig), .v (.st .world)], fun (gg : GSig) (x : GWorld) => ⟨(none, [⟨.bool, okW gg x⟩])⟩⟩
def l_impl_ValidWorld (gg : GSig) (x : GWorld) : Nat → LoopInv := fun _ => .none
theorem vc_impl_ValidWorld (gg : GSig) (x : GWorld) : awp (envOf [k_impl_ValidSig, k_impl_isWorld]) (bodyOf f_impl_ValidWorld) (l_impl_ValidWorld gg x) 0 (funPost (envOf [k_impl_ValidSig, k_impl_isWorld]) f_impl_ValidWorld fun r => areEq r [⟨.bool, okW gg x⟩]) (startState f_impl_ValidWorld [.val ⟨(.st .sig), gg⟩, .val ⟨(.st .world), x⟩]) =
  ((((sigOk gg) = true →
   (sigOk gg = true ∧ (isW gg x) = (okW gg x))) ∧ ((sigOk gg) = (!true) →
   false = (okW gg x)))) := by kernel_rfl
set_option maxRecDepth 4000 in
set_option maxHeartbeats 1000000 in
theorem ok_impl_ValidWorld (hE : AllGood [k_impl_ValidSig, k_impl_isWorld]) : Ctr.Good k_impl_ValidWorld := by
  refine ⟨fnOk_of at_impl_ValidWorld rfl (by decide), ?_⟩
  show ∀ (gg : GSig) (x : GWorld), True → OkCall prog n_impl_ValidWorld [.val ⟨(.st .sig), gg⟩, .val ⟨(.st .world), x⟩] (· = [⟨.bool, okW gg x⟩])
  intro gg x _
  refine ok_of_awp (wr := []) hE at_impl_ValidWorld body_impl_ValidWorld (l_impl_ValidWorld gg x) ?_
  rewrite [vc_impl_ValidWorld gg x]
  refine ⟨fun a0 => ⟨?_, ?_⟩, fun a0 => ?_⟩
  all_goals try and_intros
  all_goals first | rfl | trivial | grind [okW]

theorem good_impl_ValidWorld : Ctr.Good k_impl_ValidWorld := ok_impl_ValidWorld ⟨good_impl_ValidSig, good_impl_isWorld, trivial⟩

def k_spec_l06World : Ctr := ⟨n_spec_l06World, [.v (.st .sig), .r (.st .world)], fun (gg : GSig) (x : GWorld) => ⟨(none, [⟨.bool, okW gg x⟩])⟩⟩
def l_spec_l06World (gg : GSig) (x : GWorld) : Nat → LoopInv := (fun zb => if Nat.beq zb 0 then .mk (Nat) (fun k => sigOk gg = true ∧ k ≤ x.atoms.length ∧ allL (inB (atomsN gg)) (x.atoms.take k) = true) (fun k => x.atoms.length - k) [] [0, 3, 9, 10, 11, 12, 13, 14, 15, 16, 17, 18, 19, 20, 21, 22, 23, 24, 25, 26, 27, 28, 29, 30, 31] (fun k => [(6, .imm ⟨(.int .i64), ((k : Int) : Int)⟩)]) [1, 2, 4, 5, 6, 7, 8, 32, 33, 34, 35, 36, 37, 38, 39, 40, 41, 42, 43, 44, 45, 46, 47, 48, 49, 50, 51, 52, 53, 54, 55, 56, 57, 58, 59, 60, 61, 62, 63, 64, 65, 66, 67, 68, 69, 70, 71, 72, 73, 74, 75, 76, 77, 78, 79, 80, 81, 82, 83, 84, 85, 86, 87, 88, 89, 90, 91, 92, 93, 94, 95] (fun k => []) [] [] (fun k => fun _ => .none) else if Nat.beq zb 2 then .mk (Nat) (fun k => k ≤ x.acts.length ∧ allL (actB (x.atoms.length : Int)) (x.acts.take k) = true) (fun k => x.acts.length - k) [] [0, 2, 3, 6, 9, 10, 11, 12, 13, 14, 15, 16, 17, 18, 19, 20, 21, 22, 23, 24, 25, 26, 27, 28, 29, 30, 31, 32, 33, 34, 35, 36, 37, 38, 39, 40, 41, 42, 43, 44, 45, 46, 47, 48, 49, 50] (fun k => [(7, .imm ⟨(.int .i64), ((k : Int) : Int)⟩)]) [1, 4, 5, 7, 8, 51, 52, 53, 54, 55, 56, 57, 58, 59, 60, 61, 62, 63, 64, 65, 66, 67, 68, 69, 70, 71, 72, 73, 74, 75, 76, 77, 78, 79, 80, 81, 82, 83, 84, 85, 86, 87, 88, 89, 90, 91, 92, 93, 94, 95] (fun k => []) [] [] (fun k => (fun zb => if Nat.beq zb 4 then .mk (Nat) (fun j => k < x.acts.length ∧ allL (actB (x.atoms.length : Int)) (x.acts.take k) = true ∧ ((x.acts.getD k []).length : Int) = (x.atoms.length : Int) ∧ j ≤ (x.acts.getD k []).length ∧ allL (stB (x.atoms.length : Int)) ((x.acts.getD k []).take j) = true) (fun j => (x.acts.getD k []).length - j) [] [0, 2, 3, 6, 9, 10, 11, 12, 13, 14, 15, 16, 17, 18, 19, 20, 21, 22, 23, 24, 25, 26, 27, 28, 29, 30, 31, 32, 33, 34, 35, 36, 37, 38, 39, 40, 41, 42, 43, 44, 45, 46, 47, 48, 49, 50] (fun j => [(8, .imm ⟨(.int .i64), ((j : Int) : Int)⟩)]) [1, 4, 5, 7, 8, 51, 52, 53, 54, 55, 56, 57, 58, 59, 60, 61, 62, 63, 64, 65, 66, 67, 68, 69, 70, 71, 72, 73, 74, 75, 76, 77, 78, 79, 80, 81, 82, 83, 84, 85, 86, 87, 88, 89, 90, 91, 92, 93, 94, 95] (fun j => []) [] [] (fun j => fun _ => .none) else .none)) else if Nat.beq zb 100009 then .mk (Unit) (fun u => sigOk gg = true ∧ decide (1 ≤ (x.atoms.length : Int) ∧ (x.atoms.length : Int) ≤ 12) = true ∧ (x.acts.length : Int) = gg.actions ∧ allL (inB (atomsN gg)) x.atoms = true) (fun u => 0) [] [0, 2, 3, 6, 9, 10, 11, 12, 13, 14, 15, 16, 17, 18, 19, 20, 21, 22, 23, 24, 25, 26, 27, 28, 29, 30, 31, 32, 33, 34, 35, 36, 37, 38, 39, 40, 41, 42, 43, 44, 45, 46, 47, 48, 49, 50] (fun u => []) [1, 4, 5, 7, 8, 51, 52, 53, 54, 55, 56, 57, 58, 59, 60, 61, 62, 63, 64, 65, 66, 67, 68, 69, 70, 71, 72, 73, 74, 75, 76, 77, 78, 79, 80, 81, 82, 83, 84, 85, 86, 87, 88, 89, 90, 91, 92, 93, 94, 95] (fun u => []) [] [] (fun u => (fun zb => if Nat.beq zb 2 then .mk (Nat) (fun k => k ≤ x.acts.length ∧ allL (actB (x.atoms.length : Int)) (x.acts.take k) = true) (fun k => x.acts.length - k) [] [0, 2, 3, 6, 9, 10, 11, 12, 13, 14, 15, 16, 17, 18, 19, 20, 21, 22, 23, 24, 25, 26, 27, 28, 29, 30, 31, 32, 33, 34, 35, 36, 37, 38, 39, 40, 41, 42, 43, 44, 45, 46, 47, 48, 49, 50] (fun k => [(7, .imm ⟨(.int .i64), ((k : Int) : Int)⟩)]) [1, 4, 5, 7, 8, 51, 52, 53, 54, 55, 56, 57, 58, 59, 60, 61, 62, 63, 64, 65, 66, 67, 68, 69, 70, 71, 72, 73, 74, 75, 76, 77, 78, 79, 80, 81, 82, 83, 84, 85, 86, 87, 88, 89, 90, 91, 92, 93, 94, 95] (fun k => []) [] [] (fun k => (fun zb => if Nat.beq zb 4 then .mk (Nat) (fun j => k < x.acts.length ∧ allL (actB (x.atoms.length : Int)) (x.acts.take k) = true ∧ ((x.acts.getD k []).length : Int) = (x.atoms.length : Int) ∧ j ≤ (x.acts.getD k []).length ∧ allL (stB (x.atoms.length : Int)) ((x.acts.getD k []).take j) = true) (fun j => (x.acts.getD k []).length - j) [] [0, 2, 3, 6, 9, 10, 11, 12, 13, 14, 15, 16, 17, 18, 19, 20, 21, 22, 23, 24, 25, 26, 27, 28, 29, 30, 31, 32, 33, 34, 35, 36, 37, 38, 39, 40, 41, 42, 43, 44, 45, 46, 47, 48, 49, 50] (fun j => [(8, .imm ⟨(.int .i64), ((j : Int) : Int)⟩)]) [1, 4, 5, 7, 8, 51, 52, 53, 54, 55, 56, 57, 58, 59, 60, 61, 62, 63, 64, 65, 66, 67, 68, 69, 70, 71, 72, 73, 74, 75, 76, 77, 78, 79, 80, 81, 82, 83, 84, 85, 86, 87, 88, 89, 90, 91, 92, 93, 94, 95] (fun j => []) [] [] (fun j => fun _ => .none) else .none)) else .none)) else if Nat.beq zb 100004 then .mk (Unit) (fun u => sigOk gg = true ∧ decide (1 ≤ (x.atoms.length : Int) ∧ (x.atoms.length : Int) ≤ 12) = true ∧ (x.acts.length : Int) = gg.actions) (fun u => 0) [] [0, 3, 9, 10, 11, 12, 13, 14, 15, 16, 17, 18, 19, 20, 21, 22, 23, 24, 25, 26, 27, 28, 29, 30, 31] (fun u => []) [1, 2, 4, 5, 6, 7, 8, 32, 33, 34, 35, 36, 37, 38, 39, 40, 41, 42, 43, 44, 45, 46, 47, 48, 49, 50, 51, 52, 53, 54, 55, 56, 57, 58, 59, 60, 61, 62, 63, 64, 65, 66, 67, 68, 69, 70, 71, 72, 73, 74, 75, 76, 77, 78, 79, 80, 81, 82, 83, 84, 85, 86, 87, 88, 89, 90, 91, 92, 93, 94, 95] (fun u => []) [] [] (fun u => (fun zb => if Nat.beq zb 0 then .mk (Nat) (fun k => sigOk gg = true ∧ k ≤ x.atoms.length ∧ allL (inB (atomsN gg)) (x.atoms.take k) = true) (fun k => x.atoms.length - k) [] [0, 3, 9, 10, 11, 12, 13, 14, 15, 16, 17, 18, 19, 20, 21, 22, 23, 24, 25, 26, 27, 28, 29, 30, 31] (fun k => [(6, .imm ⟨(.int .i64), ((k : Int) : Int)⟩)]) [1, 2, 4, 5, 6, 7, 8, 32, 33, 34, 35, 36, 37, 38, 39, 40, 41, 42, 43, 44, 45, 46, 47, 48, 49, 50, 51, 52, 53, 54, 55, 56, 57, 58, 59, 60, 61, 62, 63, 64, 65, 66, 67, 68, 69, 70, 71, 72, 73, 74, 75, 76, 77, 78, 79, 80, 81, 82, 83, 84, 85, 86, 87, 88, 89, 90, 91, 92, 93, 94, 95] (fun k => []) [] [] (fun k => fun _ => .none) else if Nat.beq zb 2 then .mk (Nat) (fun k => k ≤ x.acts.length ∧ allL (actB (x.atoms.length : Int)) (x.acts.take k) = true) (fun k => x.acts.length - k) [] [0, 2, 3, 6, 9, 10, 11, 12, 13, 14, 15, 16, 17, 18, 19, 20, 21, 22, 23, 24, 25, 26, 27, 28, 29, 30, 31, 32, 33, 34, 35, 36, 37, 38, 39, 40, 41, 42, 43, 44, 45, 46, 47, 48, 49, 50] (fun k => [(7, .imm ⟨(.int .i64), ((k : Int) : Int)⟩)]) [1, 4, 5, 7, 8, 51, 52, 53, 54, 55, 56, 57, 58, 59, 60, 61, 62, 63, 64, 65, 66, 67, 68, 69, 70, 71, 72, 73, 74, 75, 76, 77, 78, 79, 80, 81, 82, 83, 84, 85, 86, 87, 88, 89, 90, 91, 92, 93, 94, 95] (fun k => []) [] [] (fun k => (fun zb => if Nat.beq zb 4 then .mk (Nat) (fun j => k < x.acts.length ∧ allL (actB (x.atoms.length : Int)) (x.acts.take k) = true ∧ ((x.acts.getD k []).length : Int) = (x.atoms.length : Int) ∧ j ≤ (x.acts.getD k []).length ∧ allL (stB (x.atoms.length : Int)) ((x.acts.getD k []).take j) = true) (fun j => (x.acts.getD k []).length - j) [] [0, 2, 3, 6, 9, 10, 11, 12, 13, 14, 15, 16, 17, 18, 19, 20, 21, 22, 23, 24, 25, 26, 27, 28, 29, 30, 31, 32, 33, 34, 35, 36, 37, 38, 39, 40, 41, 42, 43, 44, 45, 46, 47, 48, 49, 50] (fun j => [(8, .imm ⟨(.int .i64), ((j : Int) : Int)⟩)]) [1, 4, 5, 7, 8, 51, 52, 53, 54, 55, 56, 57, 58, 59, 60, 61, 62, 63, 64, 65, 66, 67, 68, 69, 70, 71, 72, 73, 74, 75, 76, 77, 78, 79, 80, 81, 82, 83, 84, 85, 86, 87, 88, 89, 90, 91, 92, 93, 94, 95] (fun j => []) [] [] (fun j => fun _ => .none) else .none)) else if Nat.beq zb 100009 then .mk (Unit) (fun u => sigOk gg = true ∧ decide (1 ≤ (x.atoms.length : Int) ∧ (x.atoms.length : Int) ≤ 12) = true ∧ (x.acts.length : Int) = gg.actions ∧ allL (inB (atomsN gg)) x.atoms = true) (fun u => 0) [] [0, 2, 3, 6, 9, 10, 11, 12, 13, 14, 15, 16, 17, 18, 19, 20, 21, 22, 23, 24, 25, 26, 27, 28, 29, 30, 31, 32, 33, 34, 35, 36, 37, 38, 39, 40, 41, 42, 43, 44, 45, 46, 47, 48, 49, 50] (fun u => []) [1, 4, 5, 7, 8, 51, 52, 53, 54, 55, 56, 57, 58, 59, 60, 61, 62, 63, 64, 65, 66, 67, 68, 69, 70, 71, 72, 73, 74, 75, 76, 77, 78, 79, 80, 81, 82, 83, 84, 85, 86, 87, 88, 89, 90, 91, 92, 93, 94, 95] (fun u => []) [] [] (fun u => (fun zb => if Nat.beq zb 2 then .mk (Nat) (fun k => k ≤ x.acts.length ∧ allL (actB (x.atoms.length : Int)) (x.acts.take k) = true) (fun k => x.acts.length - k) [] [0, 2, 3, 6, 9, 10, 11, 12, 13, 14, 15, 16, 17, 18, 19, 20, 21, 22, 23, 24, 25, 26, 27, 28, 29, 30, 31, 32, 33, 34, 35, 36, 37, 38, 39, 40, 41, 42, 43, 44, 45, 46, 47, 48, 49, 50] (fun k => [(7, .imm ⟨(.int .i64), ((k : Int) : Int)⟩)]) [1, 4, 5, 7, 8, 51, 52, 53, 54, 55, 56, 57, 58, 59, 60, 61, 62, 63, 64, 65, 66, 67, 68, 69, 70, 71, 72, 73, 74, 75, 76, 77, 78, 79, 80, 81, 82, 83, 84, 85, 86, 87, 88, 89, 90, 91, 92, 93, 94, 95] (fun k => []) [] [] (fun k => (fun zb => if Nat.beq zb 4 then .mk (Nat) (fun j => k < x.acts.length ∧ allL (actB (x.atoms.length : Int)) (x.acts.take k) = true ∧ ((x.acts.getD k []).length : Int) = (x.atoms.length : Int) ∧ j ≤ (x.acts.getD k []).length ∧ allL (stB (x.atoms.length : Int)) ((x.acts.getD k []).take j) = true) (fun j => (x.acts.getD k []).length - j) [] [0, 2, 3, 6, 9, 10, 11, 12, 13, 14, 15, 16, 17, 18, 19, 20, 21, 22, 23, 24, 25, 26, 27, 28, 29, 30, 31, 32, 33, 34, 35, 36, 37, 38, 39, 40, 41, 42, 43, 44, 45, 46, 47, 48, 49, 50] (fun j => [(8, .imm ⟨(.int .i64), ((j : Int) : Int)⟩)]) [1, 4, 5, 7, 8, 51, 52, 53, 54, 55, 56, 57, 58, 59, 60, 61, 62, 63, 64, 65, 66, 67, 68, 69, 70, 71, 72, 73, 74, 75, 76, 77, 78, 79, 80, 81, 82, 83, 84, 85, 86, 87, 88, 89, 90, 91, 92, 93, 94, 95] (fun j => []) [] [] (fun j => fun _ => .none) else .none)) else .none)) else .none)) else .none)
theorem vc_spec_l06World (gg : GSig) (x : GWorld) : awp (envOf [k_spec_l01Sig, k_spec_l00In, k_spec_l02Atom]) (bodyOf f_spec_l06World) (l_spec_l06World gg x) 0 (funPost (envOf [k_spec_l01Sig, k_spec_l00In, k_spec_l02Atom]) f_spec_l06World fun r => areEq r [⟨.bool, okW gg x⟩]) (startState f_spec_l06World [.val ⟨(.st .sig), gg⟩, .ref ⟨(.st .world), x⟩]) =
  ((x.atoms.length ≤ 140737488355328 →
   (inI64 ((x.atoms.length : Int)) →
     ((((!(sigOk gg)) = false →
       ((((!(decide ((1 : Int) ≤ ((x.atoms.length : Int)) ∧ ((x.atoms.length : Int)) ≤ (12 : Int)))) = false) →
         (x.acts.length ≤ 140737488355328 →
           (inI64 ((x.acts.length : Int)) →
             (inI64 gg.actions →
               (((!(decide (((x.acts.length : Int)) = gg.actions))) = true →
                 false = (okW gg x)) ∧ ((!(decide (((x.acts.length : Int)) = gg.actions))) = false →
                 (∃ u1 : Unit, ((sigOk gg = true ∧ decide (1 ≤ (x.atoms.length : Int) ∧ (x.atoms.length : Int) ≤ 12) = true ∧ (x.acts.length : Int) = gg.actions) ∧ ((x = x ∧ (True ∧ (((x.atoms.length : Int)) = ((x.atoms.length : Int)) ∧ True))) ∧ ((gg.tests = gg.tests ∧ (gg.actions = gg.actions ∧ True)) ∧ True)))))))))) ∧ (((!(decide ((1 : Int) ≤ ((x.atoms.length : Int)) ∧ ((x.atoms.length : Int)) ≤ (12 : Int)))) = (!false)) →
         ((true = true →
           false = (okW gg x)) ∧ (true = false →
           (∃ u2 : Unit, ((sigOk gg = true ∧ decide (1 ≤ (x.atoms.length : Int) ∧ (x.atoms.length : Int) ≤ 12) = true ∧ (x.acts.length : Int) = gg.actions) ∧ ((x = x ∧ (True ∧ (((x.atoms.length : Int)) = ((x.atoms.length : Int)) ∧ True))) ∧ ((gg.tests = gg.tests ∧ (gg.actions = gg.actions ∧ True)) ∧ True))))))))) ∧ ((!(sigOk gg)) = (!false) →
       ((true = false →
         (x.acts.length ≤ 140737488355328 →
           (inI64 ((x.acts.length : Int)) →
             (inI64 gg.actions →
               (((!(decide (((x.acts.length : Int)) = gg.actions))) = true →
                 false = (okW gg x)) ∧ ((!(decide (((x.acts.length : Int)) = gg.actions))) = false →
                 (∃ u3 : Unit, ((sigOk gg = true ∧ decide (1 ≤ (x.atoms.length : Int) ∧ (x.atoms.length : Int) ≤ 12) = true ∧ (x.acts.length : Int) = gg.actions) ∧ ((x = x ∧ (True ∧ (((x.atoms.length : Int)) = ((x.atoms.length : Int)) ∧ True))) ∧ ((gg.tests = gg.tests ∧ (gg.actions = gg.actions ∧ True)) ∧ True)))))))))) ∧ (true = (!false) →
         ((true = true →
           false = (okW gg x)) ∧ (true = false →
           (∃ u4 : Unit, ((sigOk gg = true ∧ decide (1 ≤ (x.atoms.length : Int) ∧ (x.atoms.length : Int) ≤ 12) = true ∧ (x.acts.length : Int) = gg.actions) ∧ ((x = x ∧ (True ∧ (((x.atoms.length : Int)) = ((x.atoms.length : Int)) ∧ True))) ∧ ((gg.tests = gg.tests ∧ (gg.actions = gg.actions ∧ True)) ∧ True)))))))))) ∧ (∀ u5 : Unit, ((sigOk gg = true ∧ decide (1 ≤ (x.atoms.length : Int) ∧ (x.atoms.length : Int) ≤ 12) = true ∧ (x.acts.length : Int) = gg.actions) →
         (((∃ k6 : Nat, ((sigOk gg = true ∧ k6 ≤ x.atoms.length ∧ allL (inB (atomsN gg)) (x.atoms.take k6) = true) ∧ ((x = x ∧ (True ∧ (((x.atoms.length : Int)) = ((x.atoms.length : Int)) ∧ ((0 : Int) = (k6 : Int) ∧ True)))) ∧ ((gg.tests = gg.tests ∧ (gg.actions = gg.actions ∧ True)) ∧ True)))) ∧ (∀ k7 : Nat, ((sigOk gg = true ∧ k7 ≤ x.atoms.length ∧ allL (inB (atomsN gg)) (x.atoms.take k7) = true) →
             (x.atoms.length ≤ 140737488355328 →
               (inI64 ((x.atoms.length : Int)) →
                 (((decide ((k7 : Int) < ((x.atoms.length : Int)))) = true →
                   (idxOk (k7 : Int) x.atoms.length ∧ (x.atoms.length ≤ 140737488355328 →
                     (inI64 (x.atoms.getD k7 (0 : Int)) →
                       (sigOk gg = true ∧ (((!(inB (atomsN gg) (x.atoms.getD k7 (0 : Int)))) = true →
                         false = (okW gg x)) ∧ ((!(inB (atomsN gg) (x.atoms.getD k7 (0 : Int)))) = false →
                         (inI64 ((k7 : Int) + (1 : Int)) ∧ (∃ k8 : Nat, ((sigOk gg = true ∧ k8 ≤ x.atoms.length ∧ allL (inB (atomsN gg)) (x.atoms.take k8) = true) ∧ (x.atoms.length - k8 < x.atoms.length - k7 ∧ ((x = x ∧ (True ∧ (((x.atoms.length : Int)) = ((x.atoms.length : Int)) ∧ (((k7 : Int) + (1 : Int)) = (k8 : Int) ∧ True)))) ∧ ((gg.tests = gg.tests ∧ (gg.actions = gg.actions ∧ True)) ∧ True))))))))))))) ∧ ((decide ((k7 : Int) < ((x.atoms.length : Int)))) = false →
                   (∃ u9 : Unit, ((sigOk gg = true ∧ decide (1 ≤ (x.atoms.length : Int) ∧ (x.atoms.length : Int) ≤ 12) = true ∧ (x.acts.length : Int) = gg.actions ∧ allL (inB (atomsN gg)) x.atoms = true) ∧ ((x = x ∧ (((x.atoms.length : Int)) = ((x.atoms.length : Int)) ∧ True)) ∧ True)))))))))) ∧ (∀ u10 : Unit, ((sigOk gg = true ∧ decide (1 ≤ (x.atoms.length : Int) ∧ (x.atoms.length : Int) ≤ 12) = true ∧ (x.acts.length : Int) = gg.actions ∧ allL (inB (atomsN gg)) x.atoms = true) →
             ((∃ k11 : Nat, ((k11 ≤ x.acts.length ∧ allL (actB (x.atoms.length : Int)) (x.acts.take k11) = true) ∧ ((x = x ∧ (((x.atoms.length : Int)) = ((x.atoms.length : Int)) ∧ ((0 : Int) = (k11 : Int) ∧ True))) ∧ True))) ∧ (∀ k12 : Nat, ((k12 ≤ x.acts.length ∧ allL (actB (x.atoms.length : Int)) (x.acts.take k12) = true) →
                 (x.acts.length ≤ 140737488355328 →
                   (inI64 ((x.acts.length : Int)) →
                     (((decide ((k12 : Int) < ((x.acts.length : Int)))) = true →
                       (x.acts.length ≤ 140737488355328 →
                         (idxOk (k12 : Int) x.acts.length ∧ ((x.acts.getD k12 []).length ≤ 140737488355328 →
                           (inI64 (((x.acts.getD k12 []).length : Int)) →
                             (((!(decide ((((x.acts.getD k12 []).length : Int)) = ((x.atoms.length : Int))))) = true →
                               false = (okW gg x)) ∧ ((!(decide ((((x.acts.getD k12 []).length : Int)) = ((x.atoms.length : Int))))) = false →
                               ((∃ j13 : Nat, ((k12 < x.acts.length ∧ allL (actB (x.atoms.length : Int)) (x.acts.take k12) = true ∧ ((x.acts.getD k12 []).length : Int) = (x.atoms.length : Int) ∧ j13 ≤ (x.acts.getD k12 []).length ∧ allL (stB (x.atoms.length : Int)) ((x.acts.getD k12 []).take j13) = true) ∧ ((x = x ∧ (((x.atoms.length : Int)) = ((x.atoms.length : Int)) ∧ ((k12 : Int) = (k12 : Int) ∧ ((0 : Int) = (j13 : Int) ∧ ((k12 : Int) = (k12 : Int) ∧ (x = x ∧ (x = x ∧ (x.acts = x.acts ∧ (x.acts = x.acts ∧ (((x.acts.length : Int)) = ((x.acts.length : Int)) ∧ ((decide ((k12 : Int) < ((x.acts.length : Int)))) = (decide ((k12 : Int) < ((x.acts.length : Int)))) ∧ (x = x ∧ (x = x ∧ (x.acts = x.acts ∧ (x.acts = x.acts ∧ ((k12 : Int) = (k12 : Int) ∧ ((x.acts.getD k12 []) = (x.acts.getD k12 []) ∧ ((x.acts.getD k12 []) = (x.acts.getD k12 []) ∧ ((((x.acts.getD k12 []).length : Int)) = (((x.acts.getD k12 []).length : Int)) ∧ (((x.atoms.length : Int)) = ((x.atoms.length : Int)) ∧ ((!(decide ((((x.acts.getD k12 []).length : Int)) = ((x.atoms.length : Int))))) = (!(decide ((((x.acts.getD k12 []).length : Int)) = ((x.atoms.length : Int))))) ∧ True))))))))))))))))))))) ∧ True))) ∧ (∀ j14 : Nat, ((k12 < x.acts.length ∧ allL (actB (x.atoms.length : Int)) (x.acts.take k12) = true ∧ ((x.acts.getD k12 []).length : Int) = (x.atoms.length : Int) ∧ j14 ≤ (x.acts.getD k12 []).length ∧ allL (stB (x.atoms.length : Int)) ((x.acts.getD k12 []).take j14) = true) →
                                   (x.acts.length ≤ 140737488355328 →
                                     (idxOk (k12 : Int) x.acts.length ∧ ((x.acts.getD k12 []).length ≤ 140737488355328 →
                                       (inI64 (((x.acts.getD k12 []).length : Int)) →
                                         (((decide ((j14 : Int) < (((x.acts.getD k12 []).length : Int)))) = true →
                                           (x.acts.length ≤ 140737488355328 →
                                             (idxOk (k12 : Int) x.acts.length ∧ ((x.acts.getD k12 []).length ≤ 140737488355328 →
                                               (idxOk (j14 : Int) (x.acts.getD k12 []).length ∧ (inI64 ((x.acts.getD k12 []).getD j14 (0 : Int)) →
                                                 (inI64 (((x.atoms.length : Int)) - (1 : Int)) ∧ ((((!(decide ((-1 : Int) ≤ ((x.acts.getD k12 []).getD j14 (0 : Int)) ∧ ((x.acts.getD k12 []).getD j14 (0 : Int)) ≤ (((x.atoms.length : Int)) - (1 : Int))))) = true) →
                                                   false = (okW gg x)) ∧ (((!(decide ((-1 : Int) ≤ ((x.acts.getD k12 []).getD j14 (0 : Int)) ∧ ((x.acts.getD k12 []).getD j14 (0 : Int)) ≤ (((x.atoms.length : Int)) - (1 : Int))))) = false) →
                                                   (inI64 ((j14 : Int) + (1 : Int)) ∧ (∃ j15 : Nat, ((k12 < x.acts.length ∧ allL (actB (x.atoms.length : Int)) (x.acts.take k12) = true ∧ ((x.acts.getD k12 []).length : Int) = (x.atoms.length : Int) ∧ j15 ≤ (x.acts.getD k12 []).length ∧ allL (stB (x.atoms.length : Int)) ((x.acts.getD k12 []).take j15) = true) ∧ ((x.acts.getD k12 []).length - j15 < (x.acts.getD k12 []).length - j14 ∧ ((x = x ∧ (((x.atoms.length : Int)) = ((x.atoms.length : Int)) ∧ ((k12 : Int) = (k12 : Int) ∧ (((j14 : Int) + (1 : Int)) = (j15 : Int) ∧ ((k12 : Int) = (k12 : Int) ∧ (x = x ∧ (x = x ∧ (x.acts = x.acts ∧ (x.acts = x.acts ∧ (((x.acts.length : Int)) = ((x.acts.length : Int)) ∧ ((decide ((k12 : Int) < ((x.acts.length : Int)))) = (decide ((k12 : Int) < ((x.acts.length : Int)))) ∧ (x = x ∧ (x = x ∧ (x.acts = x.acts ∧ (x.acts = x.acts ∧ ((k12 : Int) = (k12 : Int) ∧ ((x.acts.getD k12 []) = (x.acts.getD k12 []) ∧ ((x.acts.getD k12 []) = (x.acts.getD k12 []) ∧ ((((x.acts.getD k12 []).length : Int)) = (((x.acts.getD k12 []).length : Int)) ∧ (((x.atoms.length : Int)) = ((x.atoms.length : Int)) ∧ ((!(decide ((((x.acts.getD k12 []).length : Int)) = ((x.atoms.length : Int))))) = (!(decide ((((x.acts.getD k12 []).length : Int)) = ((x.atoms.length : Int))))) ∧ True))))))))))))))))))))) ∧ True)))))))))))))) ∧ ((decide ((j14 : Int) < (((x.acts.getD k12 []).length : Int)))) = false →
                                           (inI64 ((k12 : Int) + (1 : Int)) ∧ (∃ k16 : Nat, ((k16 ≤ x.acts.length ∧ allL (actB (x.atoms.length : Int)) (x.acts.take k16) = true) ∧ (x.acts.length - k16 < x.acts.length - k12 ∧ ((x = x ∧ (((x.atoms.length : Int)) = ((x.atoms.length : Int)) ∧ (((k12 : Int) + (1 : Int)) = (k16 : Int) ∧ True))) ∧ True))))))))))))))))))))) ∧ ((decide ((k12 : Int) < ((x.acts.length : Int)))) = false →
                       true = (okW gg x))))))))))))))))) := by kernel_rfl
set_option maxRecDepth 4000 in
set_option maxHeartbeats 1000000 in
theorem ok_spec_l06World (hE : AllGood [k_spec_l01Sig, k_spec_l00In, k_spec_l02Atom]) : Ctr.Good k_spec_l06World := by
  refine ⟨fnOk_of at_spec_l06World rfl (by decide), ?_⟩
  show ∀ (gg : GSig) (x : GWorld), True → OkCall prog n_spec_l06World [.val ⟨(.st .sig), gg⟩, .ref ⟨(.st .world), x⟩] (· = [⟨.bool, okW gg x⟩])
  intro gg x _
  refine ok_of_awp (wr := []) hE at_spec_l06World body_spec_l06World (l_spec_l06World gg x) ?_
  rewrite [vc_spec_l06World gg x]
  have f0 := sigOk_actsW gg
  have f2 := all_zero (actB (x.atoms.length : Int)) x.acts
  have f3 := all_zero (stB (x.atoms.length : Int))
  have f4 := all_zero (inB (atomsN gg)) x.atoms
  have f5 : okW gg x = (sigOk gg && isW gg x) := rfl
  rw [f5, isW_eq]
  refine fun a0 => fun a1 => ⟨⟨fun a2 => ⟨fun a3 => fun a4 => fun a5 => fun a6 => ⟨fun a7 => ?_, fun a7 => ⟨(), ⟨?_, ⟨⟨rfl, ⟨trivial, ⟨rfl, trivial⟩⟩⟩, ⟨⟨rfl, ⟨rfl, trivial⟩⟩, trivial⟩⟩⟩⟩⟩, fun a3 => ⟨fun a4 => ?_, fun a4 => ⟨(), ⟨?_, ⟨⟨rfl, ⟨trivial, ⟨rfl, trivial⟩⟩⟩, ⟨⟨rfl, ⟨rfl, trivial⟩⟩, trivial⟩⟩⟩⟩⟩⟩, fun a2 => ⟨fun a3 => fun a4 => fun a5 => fun a6 => ⟨fun a7 => ?_, fun a7 => ⟨(), ⟨?_, ⟨⟨rfl, ⟨trivial, ⟨rfl, trivial⟩⟩⟩, ⟨⟨rfl, ⟨rfl, trivial⟩⟩, trivial⟩⟩⟩⟩⟩, fun a3 => ⟨fun a4 => ?_, fun a4 => ⟨(), ⟨?_, ⟨⟨rfl, ⟨trivial, ⟨rfl, trivial⟩⟩⟩, ⟨⟨rfl, ⟨rfl, trivial⟩⟩, trivial⟩⟩⟩⟩⟩⟩⟩, fun u5 => fun a2 => ⟨⟨⟨0, ⟨?_, ⟨⟨rfl, ⟨trivial, ⟨rfl, ⟨?_, trivial⟩⟩⟩⟩, ⟨⟨rfl, ⟨rfl, trivial⟩⟩, trivial⟩⟩⟩⟩, fun k7 a3 => have b3x0 := all_take (inB (atomsN gg)) 0 x.atoms k7; have b3x1 := all_bad (inB (atomsN gg)) 0 x.atoms k7; have b3x2 := all_done (inB (atomsN gg)) x.atoms k7; fun a4 => fun a5 => ⟨fun a6 => ⟨?_, fun a7 => fun a8 => ⟨?_, ⟨fun a9 => ?_, fun a9 => ⟨?_, ⟨k7 + 1, ⟨?_, ⟨?_, ⟨⟨rfl, ⟨trivial, ⟨rfl, ⟨?_, trivial⟩⟩⟩⟩, ⟨⟨rfl, ⟨rfl, trivial⟩⟩, trivial⟩⟩⟩⟩⟩⟩⟩⟩⟩, fun a6 => ⟨(), ⟨?_, ⟨⟨rfl, ⟨rfl, trivial⟩⟩, trivial⟩⟩⟩⟩⟩, fun u10 => fun a3 => ⟨⟨0, ⟨?_, ⟨⟨rfl, ⟨rfl, ⟨?_, trivial⟩⟩⟩, trivial⟩⟩⟩, fun k12 a4 => have b4x0 := all_take (actB (x.atoms.length : Int)) [] x.acts k12; have b4x1 := all_bad (actB (x.atoms.length : Int)) [] x.acts k12; have b4x2 := all_done (actB (x.atoms.length : Int)) x.acts k12; have b4x3 := actB_eq x.atoms.length (x.acts.getD k12 []); fun a5 => fun a6 => ⟨fun a7 => fun a8 => ⟨?_, fun a9 => fun a10 => ⟨fun a11 => ?_, fun a11 => ⟨⟨0, ⟨?_, ⟨⟨rfl, ⟨rfl, ⟨rfl, ⟨?_, ⟨rfl, ⟨rfl, ⟨rfl, ⟨rfl, ⟨rfl, ⟨rfl, ⟨rfl, ⟨rfl, ⟨rfl, ⟨rfl, ⟨rfl, ⟨rfl, ⟨rfl, ⟨rfl, ⟨rfl, ⟨rfl, ⟨?_, trivial⟩⟩⟩⟩⟩⟩⟩⟩⟩⟩⟩⟩⟩⟩⟩⟩⟩⟩⟩⟩⟩, trivial⟩⟩⟩, fun j14 a12 => have b12x0 := all_take (stB (x.atoms.length : Int)) 0 (x.acts.getD k12 []) j14; have b12x1 := all_bad (stB (x.atoms.length : Int)) 0 (x.acts.getD k12 []) j14; have b12x2 := all_done (stB (x.atoms.length : Int)) (x.acts.getD k12 []) j14; have b12x3 := stB_eq x.atoms.length ((x.acts.getD k12 []).getD j14 0); have b12x4 := actB_eq x.atoms.length (x.acts.getD k12 []); have b12x5 := all_take (actB (x.atoms.length : Int)) [] x.acts k12; have b12x6 := all_bad (actB (x.atoms.length : Int)) [] x.acts k12; fun a13 => ⟨?_, fun a14 => fun a15 => ⟨fun a16 => fun a17 => ⟨?_, fun a18 => ⟨?_, fun a19 => ⟨?_, ⟨fun a20 => ?_, fun a20 => ⟨?_, ⟨j14 + 1, ⟨?_, ⟨?_, ⟨⟨rfl, ⟨rfl, ⟨rfl, ⟨?_, ⟨rfl, ⟨rfl, ⟨rfl, ⟨rfl, ⟨rfl, ⟨rfl, ⟨rfl, ⟨rfl, ⟨rfl, ⟨rfl, ⟨rfl, ⟨rfl, ⟨rfl, ⟨rfl, ⟨rfl, ⟨rfl, ⟨?_, trivial⟩⟩⟩⟩⟩⟩⟩⟩⟩⟩⟩⟩⟩⟩⟩⟩⟩⟩⟩⟩⟩, trivial⟩⟩⟩⟩⟩⟩⟩⟩⟩, fun a16 => ⟨?_, ⟨k12 + 1, ⟨?_, ⟨?_, ⟨⟨rfl, ⟨rfl, ⟨?_, trivial⟩⟩⟩, trivial⟩⟩⟩⟩⟩⟩⟩⟩⟩⟩, fun a7 => ?_⟩⟩⟩⟩
  all_goals try and_intros
  all_goals first | rfl | trivial | omega | (simp only [decide_eq_true_eq, decide_eq_false_iff_not, idxOk, inI64] at *; omega) | grind [idxOk, inI64]

theorem good_spec_l06World : Ctr.Good k_spec_l06World := ok_spec_l06World ⟨good_spec_l01Sig, good_spec_l00In, good_spec_l02Atom, trivial⟩

end
end Go.Proofs.Ytlmgmdkelbdmgaa

/- One condition implies another; the law FnExactImplies. Printed by vmk.py. -/
import Derived.Test.YtiikoicminohpaaVmUse
import Derived.Test.YtiikoicminohpaaVmLib
import Derived.Test.YtiikoicminohpaaVmSz
import Derived.Test.YtiikoicminohpaaVmTo
import Derived.Test.YtiikoicminohpaaVmEq
import Derived.Test.YtiikoicminohpaaVmExpr
import Derived.Test.YtiikoicminohpaaVmExpr2
import Derived.Test.YtiikoicminohpaaVmShaped
import Derived.Test.YtiikoicminohpaaVmTruth
import Derived.Test.YtiikoicminohpaaVmValid
set_option linter.unusedVariables false
set_option linter.unusedSimpArgs false
set_option linter.unusedSectionVars false
namespace Go.Proofs.Ytiikoicminohpaa
noncomputable section

theorem impAt_eq (b c : GExpr) (k : Nat) : impAt b c k = (!truE (k : Int) b || truE (k : Int) c) := rfl
def impV (gg : GSig) (b c : GExpr) : Bool := okC gg b && okC gg c && impB gg b c
def impC (gg : GSig) (b c : GExpr) : Int := if okE gg b = true ∧ okE gg c = true then (if condE b = true ∧ condE c = true then 0 else 4) else 1
theorem okE_sig (gg : GSig) (b : GExpr) (h : okE gg b = true) : 0 ≤ gg.tests ∧ gg.tests ≤ 3 := by
  simp only [okE, Bool.and_eq_true, sigOk_iff] at h; exact h.1.1
theorem impAll (gg : GSig) (b c : GExpr) (k : Nat) (h : atomsN gg ≤ (k : Int)) (hk : k ≤ (atomsN gg).toNat) : impB gg b c = allN (impAt b c) k := by
  have : (atomsN gg).toNat = k := by omega
  rw [impB, this]
theorem impBad (gg : GSig) (b c : GExpr) (k : Nat) (h : (k : Int) < atomsN gg) (e : impAt b c k = false) : impB gg b c = false :=
  allN_bad _ _ k (by omega) e

def k_spec_l07Implies : Ctr := ⟨n_spec_l07Implies, [.v (.st .sig), .r (.st .expr), .r (.st .expr)], fun (gg : GSig) (b : GExpr) (c : GExpr) => ⟨(some (okC gg b = true ∧ okC gg c = true), [⟨.bool, impB gg b c⟩])⟩⟩
def l_spec_l07Implies (gg : GSig) (b : GExpr) (c : GExpr) : Nat → LoopInv := (fun zb => if Nat.beq zb 0 then .mk (Nat) (fun k => k ≤ (atomsN gg).toNat ∧ allN (impAt b c) k = true) (fun k => (atomsN gg).toNat - k) [] [0, 4, 5] (fun k => [(7, .imm ⟨(.int .i64), ((k : Int) : Int)⟩)]) [1, 2, 3, 6, 7, 8, 9, 10, 11, 12, 13, 14, 15, 16, 17, 18, 19, 20, 21, 22] (fun k => []) [] [] (fun k => fun _ => .none) else .none)
theorem vc_spec_l07Implies (gg : GSig) (b : GExpr) (c : GExpr) : awp (envOf [k_spec_l01Atoms, k_spec_l01True]) (bodyOf f_spec_l07Implies) (l_spec_l07Implies gg b c) 0 (funPost (envOf [k_spec_l01Atoms, k_spec_l01True]) f_spec_l07Implies fun r => areEq r [⟨.bool, impB gg b c⟩]) (startState f_spec_l07Implies [.val ⟨(.st .sig), gg⟩, .ref ⟨(.st .expr), b⟩, .ref ⟨(.st .expr), c⟩]) =
  ((∃ k1 : Nat, ((k1 ≤ (atomsN gg).toNat ∧ allN (impAt b c) k1 = true) ∧ ((b = b ∧ (c = c ∧ (True ∧ ((0 : Int) = (k1 : Int) ∧ True)))) ∧ ((gg.tests = gg.tests ∧ (gg.actions = gg.actions ∧ True)) ∧ True)))) ∧ (∀ k2 : Nat, ((k2 ≤ (atomsN gg).toNat ∧ allN (impAt b c) k2 = true) →
     ((0 ≤ gg.tests ∧ gg.tests ≤ 3) ∧ (inI64 (atomsN gg) →
       (((decide ((k2 : Int) < (atomsN gg))) = true →
         ((goodC b = true ∧ 0 ≤ (k2 : Int) ∧ (k2 : Int) ≤ 4096) ∧ (((truE (k2 : Int) b) = true →
           ((goodC c = true ∧ 0 ≤ (k2 : Int) ∧ (k2 : Int) ≤ 4096) ∧ (((!(truE (k2 : Int) c)) = true →
             false = (impB gg b c)) ∧ ((!(truE (k2 : Int) c)) = false →
             (inI64 ((k2 : Int) + (1 : Int)) ∧ (∃ k3 : Nat, ((k3 ≤ (atomsN gg).toNat ∧ allN (impAt b c) k3 = true) ∧ ((atomsN gg).toNat - k3 < (atomsN gg).toNat - k2 ∧ ((b = b ∧ (c = c ∧ (True ∧ (((k2 : Int) + (1 : Int)) = (k3 : Int) ∧ True)))) ∧ ((gg.tests = gg.tests ∧ (gg.actions = gg.actions ∧ True)) ∧ True)))))))))) ∧ ((truE (k2 : Int) b) = (!true) →
           ((false = true →
             false = (impB gg b c)) ∧ (false = false →
             (inI64 ((k2 : Int) + (1 : Int)) ∧ (∃ k4 : Nat, ((k4 ≤ (atomsN gg).toNat ∧ allN (impAt b c) k4 = true) ∧ ((atomsN gg).toNat - k4 < (atomsN gg).toNat - k2 ∧ ((b = b ∧ (c = c ∧ (True ∧ (((k2 : Int) + (1 : Int)) = (k4 : Int) ∧ True)))) ∧ ((gg.tests = gg.tests ∧ (gg.actions = gg.actions ∧ True)) ∧ True)))))))))))) ∧ ((decide ((k2 : Int) < (atomsN gg))) = false →
         true = (impB gg b c)))))))) := by kernel_rfl
set_option maxRecDepth 4000 in
set_option maxHeartbeats 1000000 in
theorem ok_spec_l07Implies (hE : AllGood [k_spec_l01Atoms, k_spec_l01True]) : Ctr.Good k_spec_l07Implies := by
  refine ⟨fnOk_of at_spec_l07Implies rfl (by decide), ?_⟩
  show ∀ (gg : GSig) (b : GExpr) (c : GExpr), (okC gg b = true ∧ okC gg c = true) → OkCall prog n_spec_l07Implies [.val ⟨(.st .sig), gg⟩, .ref ⟨(.st .expr), b⟩, .ref ⟨(.st .expr), c⟩] (· = [⟨.bool, impB gg b c⟩])
  intro gg b c hp
  refine ok_of_awp (wr := []) hE at_spec_l07Implies body_spec_l07Implies (l_spec_l07Implies gg b c) ?_
  rewrite [vc_spec_l07Implies gg b c]
  have f0 := okE_sig gg b (by simp only [okC, Bool.and_eq_true] at hp; exact hp.1.1)
  have f1 := atomsN_le gg f0
  have f2 := okC_good gg b hp.1
  have f3 := okC_good gg c hp.2
  have f4 : allN (impAt b c) 0 = true := rfl
  refine ⟨⟨0, ⟨?_, ⟨⟨rfl, ⟨rfl, ⟨trivial, ⟨?_, trivial⟩⟩⟩⟩, ⟨⟨rfl, ⟨rfl, trivial⟩⟩, trivial⟩⟩⟩⟩, fun k2 a0 => have b0x0 := allN_succ (impAt b c) k2; have b0x1 := impAt_eq b c k2; have b0x2 := impBad gg b c k2; have b0x3 := impAll gg b c k2; ⟨?_, fun a1 => ⟨fun a2 => ⟨?_, ⟨fun a3 => ⟨?_, ⟨fun a4 => ?_, fun a4 => ⟨?_, ⟨k2 + 1, ⟨?_, ⟨?_, ⟨⟨rfl, ⟨rfl, ⟨trivial, ⟨?_, trivial⟩⟩⟩⟩, ⟨⟨rfl, ⟨rfl, trivial⟩⟩, trivial⟩⟩⟩⟩⟩⟩⟩⟩, fun a3 => ⟨fun a4 => ?_, fun a4 => ⟨?_, ⟨k2 + 1, ⟨?_, ⟨?_, ⟨⟨rfl, ⟨rfl, ⟨trivial, ⟨?_, trivial⟩⟩⟩⟩, ⟨⟨rfl, ⟨rfl, trivial⟩⟩, trivial⟩⟩⟩⟩⟩⟩⟩⟩⟩, fun a2 => ?_⟩⟩⟩
  all_goals try and_intros
  all_goals first | rfl | trivial | omega | (simp only [decide_eq_true_eq, decide_eq_false_iff_not, idxOk, inI64, inKind_u64, inKind_i64, u64_min, u64_max] at *; omega) | grind [okC]

theorem good_spec_l07Implies : Ctr.Good k_spec_l07Implies := ok_spec_l07Implies ⟨good_spec_l01Atoms, good_spec_l01True, trivial⟩

def k_spec_Implies : Ctr := ⟨n_spec_Implies, [.v (.st .sig), .v (.st .expr), .v (.st .expr)], fun (gg : GSig) (b : GExpr) (c : GExpr) => ⟨(none, [⟨.bool, impV gg b c⟩, ⟨(.int .i64), impC gg b c⟩])⟩⟩
def l_spec_Implies (gg : GSig) (b : GExpr) (c : GExpr) : Nat → LoopInv := fun _ => .none
theorem vc_spec_Implies (gg : GSig) (b : GExpr) (c : GExpr) : awp (envOf [k_spec_l01Ok, k_spec_l01Condition, k_spec_l07Implies]) (bodyOf f_spec_Implies) (l_spec_Implies gg b c) 0 (funPost (envOf [k_spec_l01Ok, k_spec_l01Condition, k_spec_l07Implies]) f_spec_Implies fun r => areEq r [⟨.bool, impV gg b c⟩, ⟨(.int .i64), impC gg b c⟩]) (startState f_spec_Implies [.val ⟨(.st .sig), gg⟩, .val ⟨(.st .expr), b⟩, .val ⟨(.st .expr), c⟩]) =
  (((!(okE gg b)) = false →
   (((!(okE gg c)) = true →
     (false = (impV gg b c) ∧ (1 : Int) = (impC gg b c))) ∧ ((!(okE gg c)) = false →
     (((!(condE b)) = false →
       (((!(condE c)) = true →
         (false = (impV gg b c) ∧ (4 : Int) = (impC gg b c))) ∧ ((!(condE c)) = false →
         ((okC gg b = true ∧ okC gg c = true) ∧ ((impB gg b c) = (impV gg b c) ∧ (0 : Int) = (impC gg b c)))))) ∧ ((!(condE b)) = (!false) →
       ((true = true →
         (false = (impV gg b c) ∧ (4 : Int) = (impC gg b c))) ∧ (true = false →
         ((okC gg b = true ∧ okC gg c = true) ∧ ((impB gg b c) = (impV gg b c) ∧ (0 : Int) = (impC gg b c)))))))))) ∧ ((!(okE gg b)) = (!false) →
   ((true = true →
     (false = (impV gg b c) ∧ (1 : Int) = (impC gg b c))) ∧ (true = false →
     (((!(condE b)) = false →
       (((!(condE c)) = true →
         (false = (impV gg b c) ∧ (4 : Int) = (impC gg b c))) ∧ ((!(condE c)) = false →
         ((okC gg b = true ∧ okC gg c = true) ∧ ((impB gg b c) = (impV gg b c) ∧ (0 : Int) = (impC gg b c)))))) ∧ ((!(condE b)) = (!false) →
       ((true = true →
         (false = (impV gg b c) ∧ (4 : Int) = (impC gg b c))) ∧ (true = false →
         ((okC gg b = true ∧ okC gg c = true) ∧ ((impB gg b c) = (impV gg b c) ∧ (0 : Int) = (impC gg b c))))))))))) := by
  refine Eq.trans (b := ((((!(okE gg (GExpr.mk b.kind b.num b.kids))) = false →
   (((!(okE gg (GExpr.mk c.kind c.num c.kids))) = true →
     (false = (impV gg b c) ∧ (1 : Int) = (impC gg b c))) ∧ ((!(okE gg (GExpr.mk c.kind c.num c.kids))) = false →
     (((!(condE (GExpr.mk b.kind b.num b.kids))) = false →
       (((!(condE (GExpr.mk c.kind c.num c.kids))) = true →
         (false = (impV gg b c) ∧ (4 : Int) = (impC gg b c))) ∧ ((!(condE (GExpr.mk c.kind c.num c.kids))) = false →
         ((okC gg (GExpr.mk b.kind b.num b.kids) = true ∧ okC gg (GExpr.mk c.kind c.num c.kids) = true) ∧ ((impB gg (GExpr.mk b.kind b.num b.kids) (GExpr.mk c.kind c.num c.kids)) = (impV gg b c) ∧ (0 : Int) = (impC gg b c)))))) ∧ ((!(condE (GExpr.mk b.kind b.num b.kids))) = (!false) →
       ((true = true →
         (false = (impV gg b c) ∧ (4 : Int) = (impC gg b c))) ∧ (true = false →
         ((okC gg (GExpr.mk b.kind b.num b.kids) = true ∧ okC gg (GExpr.mk c.kind c.num c.kids) = true) ∧ ((impB gg (GExpr.mk b.kind b.num b.kids) (GExpr.mk c.kind c.num c.kids)) = (impV gg b c) ∧ (0 : Int) = (impC gg b c)))))))))) ∧ ((!(okE gg (GExpr.mk b.kind b.num b.kids))) = (!false) →
   ((true = true →
     (false = (impV gg b c) ∧ (1 : Int) = (impC gg b c))) ∧ (true = false →
     (((!(condE (GExpr.mk b.kind b.num b.kids))) = false →
       (((!(condE (GExpr.mk c.kind c.num c.kids))) = true →
         (false = (impV gg b c) ∧ (4 : Int) = (impC gg b c))) ∧ ((!(condE (GExpr.mk c.kind c.num c.kids))) = false →
         ((okC gg (GExpr.mk b.kind b.num b.kids) = true ∧ okC gg (GExpr.mk c.kind c.num c.kids) = true) ∧ ((impB gg (GExpr.mk b.kind b.num b.kids) (GExpr.mk c.kind c.num c.kids)) = (impV gg b c) ∧ (0 : Int) = (impC gg b c)))))) ∧ ((!(condE (GExpr.mk b.kind b.num b.kids))) = (!false) →
       ((true = true →
         (false = (impV gg b c) ∧ (4 : Int) = (impC gg b c))) ∧ (true = false →
         ((okC gg (GExpr.mk b.kind b.num b.kids) = true ∧ okC gg (GExpr.mk c.kind c.num c.kids) = true) ∧ ((impB gg (GExpr.mk b.kind b.num b.kids) (GExpr.mk c.kind c.num c.kids)) = (impV gg b c) ∧ (0 : Int) = (impC gg b c))))))))))))) (by kernel_rfl) ?_
  simp only [GExpr.eta, GProg.eta, GDerivation.eta, GTriple.eta, GPremise.eta, GClaim.eta, GEquation.eta, GPair.eta, GSpot.eta]
set_option maxRecDepth 4000 in
set_option maxHeartbeats 1000000 in
theorem ok_spec_Implies (hE : AllGood [k_spec_l01Ok, k_spec_l01Condition, k_spec_l07Implies]) : Ctr.Good k_spec_Implies := by
  refine ⟨fnOk_of at_spec_Implies rfl (by decide), ?_⟩
  show ∀ (gg : GSig) (b : GExpr) (c : GExpr), True → OkCall prog n_spec_Implies [.val ⟨(.st .sig), gg⟩, .val ⟨(.st .expr), b⟩, .val ⟨(.st .expr), c⟩] (· = [⟨.bool, impV gg b c⟩, ⟨(.int .i64), impC gg b c⟩])
  intro gg b c _
  refine ok_of_awp (wr := []) hE at_spec_Implies body_spec_Implies (l_spec_Implies gg b c) ?_
  rewrite [vc_spec_Implies gg b c]
  refine ⟨fun a0 => ⟨fun a1 => ⟨?_, ?_⟩, fun a1 => ⟨fun a2 => ⟨fun a3 => ⟨?_, ?_⟩, fun a3 => ⟨?_, ⟨?_, ?_⟩⟩⟩, fun a2 => ⟨fun a3 => ⟨?_, ?_⟩, fun a3 => ⟨?_, ⟨?_, ?_⟩⟩⟩⟩⟩, fun a0 => ⟨fun a1 => ⟨?_, ?_⟩, fun a1 => ⟨fun a2 => ⟨fun a3 => ⟨?_, ?_⟩, fun a3 => ⟨?_, ⟨?_, ?_⟩⟩⟩, fun a2 => ⟨fun a3 => ⟨?_, ?_⟩, fun a3 => ⟨?_, ⟨?_, ?_⟩⟩⟩⟩⟩⟩
  all_goals try and_intros
  all_goals first | rfl | trivial | grind [okC, impV, impC]

theorem good_spec_Implies : Ctr.Good k_spec_Implies := ok_spec_Implies ⟨good_spec_l01Ok, good_spec_l01Condition, good_spec_l07Implies, trivial⟩

def k_impl_Implies : Ctr := ⟨n_impl_Implies, [.v (.st .sig), .v (.st .expr), .v (.st .expr)], fun (gg : GSig) (b : GExpr) (c : GExpr) => ⟨(none, [⟨.bool, impV gg b c⟩, ⟨(.int .i64), impC gg b c⟩])⟩⟩
def l_impl_Implies (gg : GSig) (b : GExpr) (c : GExpr) : Nat → LoopInv := (fun zb => if Nat.beq zb 0 then .mk (Nat) (fun k => k ≤ (atomsN gg).toNat ∧ allN (impAt b c) k = true) (fun k => (atomsN gg).toNat - k) [] [0, 1, 2, 3, 9, 10, 11, 12, 13, 14, 15, 16, 17, 18, 19, 20, 21, 22, 23] (fun k => [(25, .imm ⟨(.int .i64), ((k : Int) : Int)⟩)]) [4, 5, 6, 7, 8, 24, 25, 26, 27, 28, 29, 30, 31, 32, 33, 34, 35, 36, 37] (fun k => []) [] [] (fun k => fun _ => .none) else .none)
theorem vc_impl_Implies (gg : GSig) (b : GExpr) (c : GExpr) : awp (envOf [k_impl_validExprs, k_impl_IsCondition, k_impl_atomsIn, k_impl_truth]) (bodyOf f_impl_Implies) (l_impl_Implies gg b c) 0 (funPost (envOf [k_impl_validExprs, k_impl_IsCondition, k_impl_atomsIn, k_impl_truth]) f_impl_Implies fun r => areEq r [⟨.bool, impV gg b c⟩, ⟨(.int .i64), impC gg b c⟩]) (startState f_impl_Implies [.val ⟨(.st .sig), gg⟩, .val ⟨(.st .expr), b⟩, .val ⟨(.st .expr), c⟩]) =
  (((!(allL (isE gg) ([b, c]) && sigOk gg)) = true →
   (false = (impV gg b c) ∧ (1 : Int) = (impC gg b c))) ∧ ((!(allL (isE gg) ([b, c]) && sigOk gg)) = false →
   (((!(condE b)) = false →
     (((!(condE c)) = true →
       (false = (impV gg b c) ∧ (4 : Int) = (impC gg b c))) ∧ ((!(condE c)) = false →
       ((0 ≤ gg.tests ∧ gg.tests ≤ 3) ∧ (inI64 (atomsN gg) →
         ((∃ k1 : Nat, ((k1 ≤ (atomsN gg).toNat ∧ allN (impAt b c) k1 = true) ∧ ((True ∧ (True ∧ ((atomsN gg) = (atomsN gg) ∧ ((0 : Int) = (k1 : Int) ∧ True)))) ∧ ((c.kind = c.kind ∧ (c.num = c.num ∧ (c.kids = c.kids ∧ True))) ∧ ((b.kind = b.kind ∧ (b.num = b.num ∧ (b.kids = b.kids ∧ True))) ∧ True))))) ∧ (∀ k2 : Nat, ((k2 ≤ (atomsN gg).toNat ∧ allN (impAt b c) k2 = true) →
             (((decide ((k2 : Int) < (atomsN gg))) = true →
               ((goodC b = true ∧ 0 ≤ (k2 : Int) ∧ (k2 : Int) ≤ 4096) ∧ (((truE (k2 : Int) b) = true →
                 ((goodC c = true ∧ 0 ≤ (k2 : Int) ∧ (k2 : Int) ≤ 4096) ∧ (((!(truE (k2 : Int) c)) = true →
                   (false = (impV gg b c) ∧ (0 : Int) = (impC gg b c))) ∧ ((!(truE (k2 : Int) c)) = false →
                   (inI64 ((k2 : Int) + (1 : Int)) ∧ (∃ k3 : Nat, ((k3 ≤ (atomsN gg).toNat ∧ allN (impAt b c) k3 = true) ∧ ((atomsN gg).toNat - k3 < (atomsN gg).toNat - k2 ∧ ((True ∧ (True ∧ ((atomsN gg) = (atomsN gg) ∧ (((k2 : Int) + (1 : Int)) = (k3 : Int) ∧ True)))) ∧ ((c.kind = c.kind ∧ (c.num = c.num ∧ (c.kids = c.kids ∧ True))) ∧ ((b.kind = b.kind ∧ (b.num = b.num ∧ (b.kids = b.kids ∧ True))) ∧ True))))))))))) ∧ ((truE (k2 : Int) b) = (!true) →
                 ((false = true →
                   (false = (impV gg b c) ∧ (0 : Int) = (impC gg b c))) ∧ (false = false →
                   (inI64 ((k2 : Int) + (1 : Int)) ∧ (∃ k4 : Nat, ((k4 ≤ (atomsN gg).toNat ∧ allN (impAt b c) k4 = true) ∧ ((atomsN gg).toNat - k4 < (atomsN gg).toNat - k2 ∧ ((True ∧ (True ∧ ((atomsN gg) = (atomsN gg) ∧ (((k2 : Int) + (1 : Int)) = (k4 : Int) ∧ True)))) ∧ ((c.kind = c.kind ∧ (c.num = c.num ∧ (c.kids = c.kids ∧ True))) ∧ ((b.kind = b.kind ∧ (b.num = b.num ∧ (b.kids = b.kids ∧ True))) ∧ True))))))))))))) ∧ ((decide ((k2 : Int) < (atomsN gg))) = false →
               (true = (impV gg b c) ∧ (0 : Int) = (impC gg b c)))))))))))) ∧ ((!(condE b)) = (!false) →
     ((true = true →
       (false = (impV gg b c) ∧ (4 : Int) = (impC gg b c))) ∧ (true = false →
       ((0 ≤ gg.tests ∧ gg.tests ≤ 3) ∧ (inI64 (atomsN gg) →
         ((∃ k5 : Nat, ((k5 ≤ (atomsN gg).toNat ∧ allN (impAt b c) k5 = true) ∧ ((True ∧ (True ∧ ((atomsN gg) = (atomsN gg) ∧ ((0 : Int) = (k5 : Int) ∧ True)))) ∧ ((c.kind = c.kind ∧ (c.num = c.num ∧ (c.kids = c.kids ∧ True))) ∧ ((b.kind = b.kind ∧ (b.num = b.num ∧ (b.kids = b.kids ∧ True))) ∧ True))))) ∧ (∀ k6 : Nat, ((k6 ≤ (atomsN gg).toNat ∧ allN (impAt b c) k6 = true) →
             (((decide ((k6 : Int) < (atomsN gg))) = true →
               ((goodC b = true ∧ 0 ≤ (k6 : Int) ∧ (k6 : Int) ≤ 4096) ∧ (((truE (k6 : Int) b) = true →
                 ((goodC c = true ∧ 0 ≤ (k6 : Int) ∧ (k6 : Int) ≤ 4096) ∧ (((!(truE (k6 : Int) c)) = true →
                   (false = (impV gg b c) ∧ (0 : Int) = (impC gg b c))) ∧ ((!(truE (k6 : Int) c)) = false →
                   (inI64 ((k6 : Int) + (1 : Int)) ∧ (∃ k7 : Nat, ((k7 ≤ (atomsN gg).toNat ∧ allN (impAt b c) k7 = true) ∧ ((atomsN gg).toNat - k7 < (atomsN gg).toNat - k6 ∧ ((True ∧ (True ∧ ((atomsN gg) = (atomsN gg) ∧ (((k6 : Int) + (1 : Int)) = (k7 : Int) ∧ True)))) ∧ ((c.kind = c.kind ∧ (c.num = c.num ∧ (c.kids = c.kids ∧ True))) ∧ ((b.kind = b.kind ∧ (b.num = b.num ∧ (b.kids = b.kids ∧ True))) ∧ True))))))))))) ∧ ((truE (k6 : Int) b) = (!true) →
                 ((false = true →
                   (false = (impV gg b c) ∧ (0 : Int) = (impC gg b c))) ∧ (false = false →
                   (inI64 ((k6 : Int) + (1 : Int)) ∧ (∃ k8 : Nat, ((k8 ≤ (atomsN gg).toNat ∧ allN (impAt b c) k8 = true) ∧ ((atomsN gg).toNat - k8 < (atomsN gg).toNat - k6 ∧ ((True ∧ (True ∧ ((atomsN gg) = (atomsN gg) ∧ (((k6 : Int) + (1 : Int)) = (k8 : Int) ∧ True)))) ∧ ((c.kind = c.kind ∧ (c.num = c.num ∧ (c.kids = c.kids ∧ True))) ∧ ((b.kind = b.kind ∧ (b.num = b.num ∧ (b.kids = b.kids ∧ True))) ∧ True))))))))))))) ∧ ((decide ((k6 : Int) < (atomsN gg))) = false →
               (true = (impV gg b c) ∧ (0 : Int) = (impC gg b c))))))))))))))) := by
  refine Eq.trans (b := ((((!(allL (isE gg) ([(GExpr.mk b.kind b.num b.kids), (GExpr.mk c.kind c.num c.kids)]) && sigOk gg)) = true →
   (false = (impV gg b c) ∧ (1 : Int) = (impC gg b c))) ∧ ((!(allL (isE gg) ([(GExpr.mk b.kind b.num b.kids), (GExpr.mk c.kind c.num c.kids)]) && sigOk gg)) = false →
   (((!(condE (GExpr.mk b.kind b.num b.kids))) = false →
     (((!(condE (GExpr.mk c.kind c.num c.kids))) = true →
       (false = (impV gg b c) ∧ (4 : Int) = (impC gg b c))) ∧ ((!(condE (GExpr.mk c.kind c.num c.kids))) = false →
       ((0 ≤ gg.tests ∧ gg.tests ≤ 3) ∧ (inI64 (atomsN gg) →
         ((∃ k1 : Nat, ((k1 ≤ (atomsN gg).toNat ∧ allN (impAt b c) k1 = true) ∧ ((True ∧ (True ∧ ((atomsN gg) = (atomsN gg) ∧ ((0 : Int) = (k1 : Int) ∧ True)))) ∧ ((c.kind = c.kind ∧ (c.num = c.num ∧ (c.kids = c.kids ∧ True))) ∧ ((b.kind = b.kind ∧ (b.num = b.num ∧ (b.kids = b.kids ∧ True))) ∧ True))))) ∧ (∀ k2 : Nat, ((k2 ≤ (atomsN gg).toNat ∧ allN (impAt b c) k2 = true) →
             (((decide ((k2 : Int) < (atomsN gg))) = true →
               ((goodC (GExpr.mk b.kind b.num b.kids) = true ∧ 0 ≤ (k2 : Int) ∧ (k2 : Int) ≤ 4096) ∧ (((truE (k2 : Int) (GExpr.mk b.kind b.num b.kids)) = true →
                 ((goodC (GExpr.mk c.kind c.num c.kids) = true ∧ 0 ≤ (k2 : Int) ∧ (k2 : Int) ≤ 4096) ∧ (((!(truE (k2 : Int) (GExpr.mk c.kind c.num c.kids))) = true →
                   (false = (impV gg b c) ∧ (0 : Int) = (impC gg b c))) ∧ ((!(truE (k2 : Int) (GExpr.mk c.kind c.num c.kids))) = false →
                   (inI64 ((k2 : Int) + (1 : Int)) ∧ (∃ k3 : Nat, ((k3 ≤ (atomsN gg).toNat ∧ allN (impAt b c) k3 = true) ∧ ((atomsN gg).toNat - k3 < (atomsN gg).toNat - k2 ∧ ((True ∧ (True ∧ ((atomsN gg) = (atomsN gg) ∧ (((k2 : Int) + (1 : Int)) = (k3 : Int) ∧ True)))) ∧ ((c.kind = c.kind ∧ (c.num = c.num ∧ (c.kids = c.kids ∧ True))) ∧ ((b.kind = b.kind ∧ (b.num = b.num ∧ (b.kids = b.kids ∧ True))) ∧ True))))))))))) ∧ ((truE (k2 : Int) (GExpr.mk b.kind b.num b.kids)) = (!true) →
                 ((false = true →
                   (false = (impV gg b c) ∧ (0 : Int) = (impC gg b c))) ∧ (false = false →
                   (inI64 ((k2 : Int) + (1 : Int)) ∧ (∃ k4 : Nat, ((k4 ≤ (atomsN gg).toNat ∧ allN (impAt b c) k4 = true) ∧ ((atomsN gg).toNat - k4 < (atomsN gg).toNat - k2 ∧ ((True ∧ (True ∧ ((atomsN gg) = (atomsN gg) ∧ (((k2 : Int) + (1 : Int)) = (k4 : Int) ∧ True)))) ∧ ((c.kind = c.kind ∧ (c.num = c.num ∧ (c.kids = c.kids ∧ True))) ∧ ((b.kind = b.kind ∧ (b.num = b.num ∧ (b.kids = b.kids ∧ True))) ∧ True))))))))))))) ∧ ((decide ((k2 : Int) < (atomsN gg))) = false →
               (true = (impV gg b c) ∧ (0 : Int) = (impC gg b c)))))))))))) ∧ ((!(condE (GExpr.mk b.kind b.num b.kids))) = (!false) →
     ((true = true →
       (false = (impV gg b c) ∧ (4 : Int) = (impC gg b c))) ∧ (true = false →
       ((0 ≤ gg.tests ∧ gg.tests ≤ 3) ∧ (inI64 (atomsN gg) →
         ((∃ k5 : Nat, ((k5 ≤ (atomsN gg).toNat ∧ allN (impAt b c) k5 = true) ∧ ((True ∧ (True ∧ ((atomsN gg) = (atomsN gg) ∧ ((0 : Int) = (k5 : Int) ∧ True)))) ∧ ((c.kind = c.kind ∧ (c.num = c.num ∧ (c.kids = c.kids ∧ True))) ∧ ((b.kind = b.kind ∧ (b.num = b.num ∧ (b.kids = b.kids ∧ True))) ∧ True))))) ∧ (∀ k6 : Nat, ((k6 ≤ (atomsN gg).toNat ∧ allN (impAt b c) k6 = true) →
             (((decide ((k6 : Int) < (atomsN gg))) = true →
               ((goodC (GExpr.mk b.kind b.num b.kids) = true ∧ 0 ≤ (k6 : Int) ∧ (k6 : Int) ≤ 4096) ∧ (((truE (k6 : Int) (GExpr.mk b.kind b.num b.kids)) = true →
                 ((goodC (GExpr.mk c.kind c.num c.kids) = true ∧ 0 ≤ (k6 : Int) ∧ (k6 : Int) ≤ 4096) ∧ (((!(truE (k6 : Int) (GExpr.mk c.kind c.num c.kids))) = true →
                   (false = (impV gg b c) ∧ (0 : Int) = (impC gg b c))) ∧ ((!(truE (k6 : Int) (GExpr.mk c.kind c.num c.kids))) = false →
                   (inI64 ((k6 : Int) + (1 : Int)) ∧ (∃ k7 : Nat, ((k7 ≤ (atomsN gg).toNat ∧ allN (impAt b c) k7 = true) ∧ ((atomsN gg).toNat - k7 < (atomsN gg).toNat - k6 ∧ ((True ∧ (True ∧ ((atomsN gg) = (atomsN gg) ∧ (((k6 : Int) + (1 : Int)) = (k7 : Int) ∧ True)))) ∧ ((c.kind = c.kind ∧ (c.num = c.num ∧ (c.kids = c.kids ∧ True))) ∧ ((b.kind = b.kind ∧ (b.num = b.num ∧ (b.kids = b.kids ∧ True))) ∧ True))))))))))) ∧ ((truE (k6 : Int) (GExpr.mk b.kind b.num b.kids)) = (!true) →
                 ((false = true →
                   (false = (impV gg b c) ∧ (0 : Int) = (impC gg b c))) ∧ (false = false →
                   (inI64 ((k6 : Int) + (1 : Int)) ∧ (∃ k8 : Nat, ((k8 ≤ (atomsN gg).toNat ∧ allN (impAt b c) k8 = true) ∧ ((atomsN gg).toNat - k8 < (atomsN gg).toNat - k6 ∧ ((True ∧ (True ∧ ((atomsN gg) = (atomsN gg) ∧ (((k6 : Int) + (1 : Int)) = (k8 : Int) ∧ True)))) ∧ ((c.kind = c.kind ∧ (c.num = c.num ∧ (c.kids = c.kids ∧ True))) ∧ ((b.kind = b.kind ∧ (b.num = b.num ∧ (b.kids = b.kids ∧ True))) ∧ True))))))))))))) ∧ ((decide ((k6 : Int) < (atomsN gg))) = false →
               (true = (impV gg b c) ∧ (0 : Int) = (impC gg b c))))))))))))))))) (by kernel_rfl) ?_
  simp only [GExpr.eta, GProg.eta, GDerivation.eta, GTriple.eta, GPremise.eta, GClaim.eta, GEquation.eta, GPair.eta, GSpot.eta]
set_option maxRecDepth 4000 in
set_option maxHeartbeats 1000000 in
theorem ok_impl_Implies (hE : AllGood [k_impl_validExprs, k_impl_IsCondition, k_impl_atomsIn, k_impl_truth]) : Ctr.Good k_impl_Implies := by
  refine ⟨fnOk_of at_impl_Implies rfl (by decide), ?_⟩
  show ∀ (gg : GSig) (b : GExpr) (c : GExpr), True → OkCall prog n_impl_Implies [.val ⟨(.st .sig), gg⟩, .val ⟨(.st .expr), b⟩, .val ⟨(.st .expr), c⟩] (· = [⟨.bool, impV gg b c⟩, ⟨(.int .i64), impC gg b c⟩])
  intro gg b c _
  refine ok_of_awp (wr := []) hE at_impl_Implies body_impl_Implies (l_impl_Implies gg b c) ?_
  rewrite [vc_impl_Implies gg b c]
  have f0 := okE_sig gg b
  have f1 := atomsN_le gg
  have f2 := okC_good gg b
  have f3 := okC_good gg c
  have f4 : allN (impAt b c) 0 = true := rfl
  have f5 : (allL (isE gg) [b, c] && sigOk gg) = (okE gg b && okE gg c) := by
   simp only [allL, okE]; cases sigOk gg <;> cases isE gg b <;> cases isE gg c <;> rfl
  have f6 : okC gg b = (okE gg b && condE b) := rfl
  have f7 : okC gg c = (okE gg c && condE c) := rfl
  refine ⟨fun a0 => ⟨?_, ?_⟩, fun a0 => ⟨fun a1 => ⟨fun a2 => ⟨?_, ?_⟩, fun a2 => ⟨?_, fun a3 => ⟨⟨0, ⟨?_, ⟨⟨trivial, ⟨trivial, ⟨rfl, ⟨?_, trivial⟩⟩⟩⟩, ⟨⟨rfl, ⟨rfl, ⟨rfl, trivial⟩⟩⟩, ⟨⟨rfl, ⟨rfl, ⟨rfl, trivial⟩⟩⟩, trivial⟩⟩⟩⟩⟩, fun k2 a4 => have b4x0 := allN_succ (impAt b c) k2; have b4x1 := impAt_eq b c k2; have b4x2 := impBad gg b c k2; have b4x3 := impAll gg b c k2; ⟨fun a5 => ⟨?_, ⟨fun a6 => ⟨?_, ⟨fun a7 => ⟨?_, ?_⟩, fun a7 => ⟨?_, ⟨k2 + 1, ⟨?_, ⟨?_, ⟨⟨trivial, ⟨trivial, ⟨rfl, ⟨?_, trivial⟩⟩⟩⟩, ⟨⟨rfl, ⟨rfl, ⟨rfl, trivial⟩⟩⟩, ⟨⟨rfl, ⟨rfl, ⟨rfl, trivial⟩⟩⟩, trivial⟩⟩⟩⟩⟩⟩⟩⟩⟩, fun a6 => ⟨fun a7 => ⟨?_, ?_⟩, fun a7 => ⟨?_, ⟨k2 + 1, ⟨?_, ⟨?_, ⟨⟨trivial, ⟨trivial, ⟨rfl, ⟨?_, trivial⟩⟩⟩⟩, ⟨⟨rfl, ⟨rfl, ⟨rfl, trivial⟩⟩⟩, ⟨⟨rfl, ⟨rfl, ⟨rfl, trivial⟩⟩⟩, trivial⟩⟩⟩⟩⟩⟩⟩⟩⟩⟩, fun a5 => ⟨?_, ?_⟩⟩⟩⟩⟩, fun a1 => ⟨fun a2 => ⟨?_, ?_⟩, fun a2 => ⟨?_, fun a3 => ⟨⟨0, ⟨?_, ⟨⟨trivial, ⟨trivial, ⟨rfl, ⟨?_, trivial⟩⟩⟩⟩, ⟨⟨rfl, ⟨rfl, ⟨rfl, trivial⟩⟩⟩, ⟨⟨rfl, ⟨rfl, ⟨rfl, trivial⟩⟩⟩, trivial⟩⟩⟩⟩⟩, fun k6 a4 => have b4x0 := allN_succ (impAt b c) k6; have b4x1 := impAt_eq b c k6; have b4x2 := impBad gg b c k6; have b4x3 := impAll gg b c k6; ⟨fun a5 => ⟨?_, ⟨fun a6 => ⟨?_, ⟨fun a7 => ⟨?_, ?_⟩, fun a7 => ⟨?_, ⟨k6 + 1, ⟨?_, ⟨?_, ⟨⟨trivial, ⟨trivial, ⟨rfl, ⟨?_, trivial⟩⟩⟩⟩, ⟨⟨rfl, ⟨rfl, ⟨rfl, trivial⟩⟩⟩, ⟨⟨rfl, ⟨rfl, ⟨rfl, trivial⟩⟩⟩, trivial⟩⟩⟩⟩⟩⟩⟩⟩⟩, fun a6 => ⟨fun a7 => ⟨?_, ?_⟩, fun a7 => ⟨?_, ⟨k6 + 1, ⟨?_, ⟨?_, ⟨⟨trivial, ⟨trivial, ⟨rfl, ⟨?_, trivial⟩⟩⟩⟩, ⟨⟨rfl, ⟨rfl, ⟨rfl, trivial⟩⟩⟩, ⟨⟨rfl, ⟨rfl, ⟨rfl, trivial⟩⟩⟩, trivial⟩⟩⟩⟩⟩⟩⟩⟩⟩⟩, fun a5 => ⟨?_, ?_⟩⟩⟩⟩⟩⟩⟩
  all_goals try and_intros
  all_goals first | rfl | trivial | omega | (simp only [decide_eq_true_eq, decide_eq_false_iff_not, idxOk, inI64, inKind_u64, inKind_i64, u64_min, u64_max] at *; omega) | grind [impV, impC]

theorem good_impl_Implies : Ctr.Good k_impl_Implies := ok_impl_Implies ⟨good_impl_validExprs, good_impl_IsCondition, good_impl_atomsIn, good_impl_truth, trivial⟩

def k_laws_FnExactImplies : Ctr := ⟨n_laws_FnExactImplies, [.v (.st .sig), .v (.st .expr), .v (.st .expr)], fun (gg : GSig) (b : GExpr) (c : GExpr) => ⟨(none, [⟨.bool, true⟩])⟩⟩
def l_laws_FnExactImplies (gg : GSig) (b : GExpr) (c : GExpr) : Nat → LoopInv := fun _ => .none
theorem vc_laws_FnExactImplies (gg : GSig) (b : GExpr) (c : GExpr) : awp (envOf [k_laws_szExpr, k_laws_toExpr, k_laws_toSig, k_spec_Implies, k_impl_Implies, k_laws_eqExpr]) (bodyOf f_laws_FnExactImplies) (l_laws_FnExactImplies gg b c) 0 (funPost (envOf [k_laws_szExpr, k_laws_toExpr, k_laws_toSig, k_spec_Implies, k_impl_Implies, k_laws_eqExpr]) f_laws_FnExactImplies fun r => areEq r [⟨.bool, true⟩]) (startState f_laws_FnExactImplies [.val ⟨(.st .sig), gg⟩, .val ⟨(.st .expr), b⟩, .val ⟨(.st .expr), c⟩]) =
  ((0 ≤ (1048576 : Int) ∧ (1048576 : Int) ≤ 1048576) ∧ (inI64 (szR (sz_expr b) (1048576 : Int)) →
   (((decide ((szR (sz_expr b) (1048576 : Int)) < (0 : Int))) = true →
     true = true) ∧ ((decide ((szR (sz_expr b) (1048576 : Int)) < (0 : Int))) = false →
     ((0 ≤ (szR (sz_expr b) (1048576 : Int)) ∧ (szR (sz_expr b) (1048576 : Int)) ≤ 1048576) ∧ (inI64 (szR (sz_expr c) (szR (sz_expr b) (1048576 : Int))) →
       (((decide ((szR (sz_expr c) (szR (sz_expr b) (1048576 : Int))) < (0 : Int))) = true →
         true = true) ∧ ((decide ((szR (sz_expr c) (szR (sz_expr b) (1048576 : Int))) < (0 : Int))) = false →
         (sz_expr b ≤ 1048576 ∧ (sz_expr c ≤ 1048576 ∧ (inI64 (impC gg b c) →
           (sz_expr b ≤ 1048576 ∧ (sz_expr c ≤ 1048576 ∧ (inI64 (impC gg b c) →
             (((!((impV gg b c) == (impV gg b c))) = false →
               (((!(decide ((impC gg b c) = (impC gg b c)))) = true →
                 false = true) ∧ ((!(decide ((impC gg b c) = (impC gg b c)))) = false →
                 (sz_expr b ≤ 1048576 ∧ (((!(eqB b b)) = true →
                   false = true) ∧ ((!(eqB b b)) = false →
                   (sz_expr c ≤ 1048576 ∧ (((!(eqB c c)) = true →
                     false = true) ∧ ((!(eqB c c)) = false →
                     true = true))))))))) ∧ ((!((impV gg b c) == (impV gg b c))) = (!false) →
               ((true = true →
                 false = true) ∧ (true = false →
                 (sz_expr b ≤ 1048576 ∧ (((!(eqB b b)) = true →
                   false = true) ∧ ((!(eqB b b)) = false →
                   (sz_expr c ≤ 1048576 ∧ (((!(eqB c c)) = true →
                     false = true) ∧ ((!(eqB c c)) = false →
                     true = true)))))))))))))))))))))))) := by
  refine Eq.trans (b := (((0 ≤ (1048576 : Int) ∧ (1048576 : Int) ≤ 1048576) ∧ (inI64 (szR (sz_expr (GExpr.mk b.kind b.num b.kids)) (1048576 : Int)) →
   (((decide ((szR (sz_expr (GExpr.mk b.kind b.num b.kids)) (1048576 : Int)) < (0 : Int))) = true →
     true = true) ∧ ((decide ((szR (sz_expr (GExpr.mk b.kind b.num b.kids)) (1048576 : Int)) < (0 : Int))) = false →
     ((0 ≤ (szR (sz_expr (GExpr.mk b.kind b.num b.kids)) (1048576 : Int)) ∧ (szR (sz_expr (GExpr.mk b.kind b.num b.kids)) (1048576 : Int)) ≤ 1048576) ∧ (inI64 (szR (sz_expr (GExpr.mk c.kind c.num c.kids)) (szR (sz_expr (GExpr.mk b.kind b.num b.kids)) (1048576 : Int))) →
       (((decide ((szR (sz_expr (GExpr.mk c.kind c.num c.kids)) (szR (sz_expr (GExpr.mk b.kind b.num b.kids)) (1048576 : Int))) < (0 : Int))) = true →
         true = true) ∧ ((decide ((szR (sz_expr (GExpr.mk c.kind c.num c.kids)) (szR (sz_expr (GExpr.mk b.kind b.num b.kids)) (1048576 : Int))) < (0 : Int))) = false →
         (sz_expr (GExpr.mk b.kind b.num b.kids) ≤ 1048576 ∧ (sz_expr (GExpr.mk c.kind c.num c.kids) ≤ 1048576 ∧ (inI64 (impC gg (GExpr.mk b.kind b.num b.kids) (GExpr.mk c.kind c.num c.kids)) →
           (sz_expr (GExpr.mk b.kind b.num b.kids) ≤ 1048576 ∧ (sz_expr (GExpr.mk c.kind c.num c.kids) ≤ 1048576 ∧ (inI64 (impC gg (GExpr.mk b.kind b.num b.kids) (GExpr.mk c.kind c.num c.kids)) →
             (((!((impV gg (GExpr.mk b.kind b.num b.kids) (GExpr.mk c.kind c.num c.kids)) == (impV gg (GExpr.mk b.kind b.num b.kids) (GExpr.mk c.kind c.num c.kids)))) = false →
               (((!(decide ((impC gg (GExpr.mk b.kind b.num b.kids) (GExpr.mk c.kind c.num c.kids)) = (impC gg (GExpr.mk b.kind b.num b.kids) (GExpr.mk c.kind c.num c.kids))))) = true →
                 false = true) ∧ ((!(decide ((impC gg (GExpr.mk b.kind b.num b.kids) (GExpr.mk c.kind c.num c.kids)) = (impC gg (GExpr.mk b.kind b.num b.kids) (GExpr.mk c.kind c.num c.kids))))) = false →
                 (sz_expr (GExpr.mk b.kind b.num b.kids) ≤ 1048576 ∧ (((!(eqB (GExpr.mk b.kind b.num b.kids) (GExpr.mk b.kind b.num b.kids))) = true →
                   false = true) ∧ ((!(eqB (GExpr.mk b.kind b.num b.kids) (GExpr.mk b.kind b.num b.kids))) = false →
                   (sz_expr (GExpr.mk c.kind c.num c.kids) ≤ 1048576 ∧ (((!(eqB (GExpr.mk c.kind c.num c.kids) (GExpr.mk c.kind c.num c.kids))) = true →
                     false = true) ∧ ((!(eqB (GExpr.mk c.kind c.num c.kids) (GExpr.mk c.kind c.num c.kids))) = false →
                     true = true))))))))) ∧ ((!((impV gg (GExpr.mk b.kind b.num b.kids) (GExpr.mk c.kind c.num c.kids)) == (impV gg (GExpr.mk b.kind b.num b.kids) (GExpr.mk c.kind c.num c.kids)))) = (!false) →
               ((true = true →
                 false = true) ∧ (true = false →
                 (sz_expr (GExpr.mk b.kind b.num b.kids) ≤ 1048576 ∧ (((!(eqB (GExpr.mk b.kind b.num b.kids) (GExpr.mk b.kind b.num b.kids))) = true →
                   false = true) ∧ ((!(eqB (GExpr.mk b.kind b.num b.kids) (GExpr.mk b.kind b.num b.kids))) = false →
                   (sz_expr (GExpr.mk c.kind c.num c.kids) ≤ 1048576 ∧ (((!(eqB (GExpr.mk c.kind c.num c.kids) (GExpr.mk c.kind c.num c.kids))) = true →
                     false = true) ∧ ((!(eqB (GExpr.mk c.kind c.num c.kids) (GExpr.mk c.kind c.num c.kids))) = false →
                     true = true)))))))))))))))))))))))))) (by kernel_rfl) ?_
  simp only [GExpr.eta, GProg.eta, GDerivation.eta, GTriple.eta, GPremise.eta, GClaim.eta, GEquation.eta, GPair.eta, GSpot.eta]
set_option maxRecDepth 4000 in
set_option maxHeartbeats 1000000 in
theorem ok_laws_FnExactImplies (hE : AllGood [k_laws_szExpr, k_laws_toExpr, k_laws_toSig, k_spec_Implies, k_impl_Implies, k_laws_eqExpr]) : Ctr.Good k_laws_FnExactImplies := by
  refine ⟨fnOk_of at_laws_FnExactImplies rfl (by decide), ?_⟩
  show ∀ (gg : GSig) (b : GExpr) (c : GExpr), True → OkCall prog n_laws_FnExactImplies [.val ⟨(.st .sig), gg⟩, .val ⟨(.st .expr), b⟩, .val ⟨(.st .expr), c⟩] (· = [⟨.bool, true⟩])
  intro gg b c _
  refine ok_of_awp (wr := []) hE at_laws_FnExactImplies body_laws_FnExactImplies (l_laws_FnExactImplies gg b c) ?_
  rewrite [vc_laws_FnExactImplies gg b c]
  have f0 := szR_or (sz_expr b) 1048576
  have f1 := szR_or (sz_expr c) (szR (sz_expr b) 1048576)
  refine ⟨?_, fun a0 => ⟨fun a1 => rfl, fun a1 => ⟨?_, fun a2 => ⟨fun a3 => rfl, fun a3 => ⟨?_, ⟨?_, fun a4 => ⟨?_, ⟨?_, fun a5 => ⟨fun a6 => ⟨fun a7 => ?_, fun a7 => ⟨?_, ⟨fun a8 => ?_, fun a8 => ⟨?_, ⟨fun a9 => ?_, fun a9 => rfl⟩⟩⟩⟩⟩, fun a6 => ⟨fun a7 => ?_, fun a7 => ⟨?_, ⟨fun a8 => ?_, fun a8 => ⟨?_, ⟨fun a9 => ?_, fun a9 => rfl⟩⟩⟩⟩⟩⟩⟩⟩⟩⟩⟩⟩⟩⟩
  all_goals try and_intros
  all_goals first | rfl | trivial | omega | (simp only [decide_eq_true_eq, decide_eq_false_iff_not, idxOk, inI64, inKind, cutOk, makeOk, roomOk] at *; omega) | (simp [idxOk, inI64] at *; omega) | grind | (simp_all; done)

theorem good_laws_FnExactImplies : Ctr.Good k_laws_FnExactImplies := ok_laws_FnExactImplies ⟨good_laws_szExpr, good_laws_toExpr, good_laws_toSig, good_spec_Implies, good_impl_Implies, good_laws_eqExpr, trivial⟩

theorem law_FnExactImplies : ∀ tvs : List TV, tvs.map TV.τ = [(.st .sig), (.st .expr), (.st .expr)] → OkCall prog n_laws_FnExactImplies (tvs.map .val) (· = [⟨.bool, true⟩]) := by
  intro tvs h
  match tvs, h with
  | [⟨t0, a0⟩, ⟨t1, a1⟩, ⟨t2, a2⟩], h =>
    simp only [List.map_cons, List.map_nil, List.cons.injEq, and_true] at h
    obtain ⟨rfl, rfl, rfl⟩ := h
    exact good_laws_FnExactImplies.2 a0 a1 a2 trivial

end
end Go.Proofs.Ytiikoicminohpaa

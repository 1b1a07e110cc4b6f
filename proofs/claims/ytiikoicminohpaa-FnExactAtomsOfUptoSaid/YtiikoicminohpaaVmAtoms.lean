/- The atoms of a condition; the law FnExactAtomsOf. Printed by vmk.py. -/
import Derived.Test.YtiikoicminohpaaVmUse
import Derived.Test.YtiikoicminohpaaVmLib
import Derived.Test.YtiikoicminohpaaVmSz
import Derived.Test.YtiikoicminohpaaVmTo
import Derived.Test.YtiikoicminohpaaVmEq
import Derived.Test.YtiikoicminohpaaVmOwnFam
import Derived.Test.YtiikoicminohpaaVmValid
set_option linter.unusedVariables false
set_option linter.unusedSimpArgs false
set_option linter.unusedSectionVars false
namespace Go.Proofs.Ytiikoicminohpaa
noncomputable section

/-- The first atoms at which a condition holds. -/
def atomsL (c : GExpr) : Nat → List Int
  | 0 => []
  | n + 1 => atomsL c n ++ (bif truE (n : Int) c then [(n : Int)] else [])
theorem atomsL_len (c : GExpr) : ∀ n, (atomsL c n).length ≤ n
  | 0 => Nat.le_refl _
  | n + 1 => by
    have := atomsL_len c n
    simp only [atomsL, List.length_append]
    cases truE (n : Int) c <;> simp <;> omega
theorem atomsL_t (c : GExpr) (n : Nat) (h : truE (n : Int) c = true) : atomsL c n ++ [(n : Int)] = atomsL c (n + 1) := by simp [atomsL, h]
theorem atomsL_f (c : GExpr) (n : Nat) (h : truE (n : Int) c = false) : atomsL c n = atomsL c (n + 1) := by simp [atomsL, h]
def atAll (gg : GSig) (c : GExpr) : List Int := atomsL c (atomsN gg).toNat
theorem atAll_len (gg : GSig) (c : GExpr) (h : 0 ≤ gg.tests ∧ gg.tests ≤ 3) : (atAll gg c).length ≤ 8 := by
  have := atomsL_len c (atomsN gg).toNat
  have := atomsN_le gg h
  unfold atAll; omega
theorem atAll_eq (gg : GSig) (c : GExpr) (k : Nat) (h1 : atomsN gg ≤ (k : Int)) (h2 : k ≤ (atomsN gg).toNat) : atomsL c k = atAll gg c := by
  have : k = (atomsN gg).toNat := by omega
  rw [this]; rfl
def atV (gg : GSig) (c : GExpr) : List Int := if okC gg c = true then atAll gg c else []
def atC (gg : GSig) (c : GExpr) : Int := if okE gg c = true then (if condE c = true then 0 else 4) else 1
theorem okE_sig' (gg : GSig) (b : GExpr) (h : okE gg b = true) : 0 ≤ gg.tests ∧ gg.tests ≤ 3 := by
  simp only [okE, Bool.and_eq_true, sigOk_iff] at h; exact h.1.1
theorem atV_len (gg : GSig) (c : GExpr) : (atV gg c).length ≤ 8 := by
  unfold atV
  split
  · rename_i h; simp only [okC, Bool.and_eq_true] at h; exact atAll_len gg c (okE_sig' gg c h.1)
  · simp

def ko_impl_atomsOf : Ctr := ⟨n_impl_atomsOf, [.v (.st .sig), .v (.st .expr)], fun (gg : GSig) (c : GExpr) => ⟨(some (okC gg c = true), [⟨(.slice (.int .i64)), atAll gg c⟩])⟩⟩
def lo_impl_atomsOf (gg : GSig) (c : GExpr) : Nat → LoopInv := (fun zb => if Nat.beq zb 0 then .mk (Nat) (fun k => k ≤ (atomsN gg).toNat) (fun k => (atomsN gg).toNat - k) [] [0, 1, 2, 7, 8] (fun k => [(10, .imm ⟨(.int .i64), ((k : Int) : Int)⟩), (5, .row 7)]) [3, 4, 5, 6, 9, 10, 11, 12, 13, 14, 15, 16, 17, 18, 19, 20, 21] (fun k => [(7, .row T_int64 (.int .i64) (atomsL c k : List Int))]) [] [] (fun k => fun _ => .none) else .none)
theorem vco_impl_atomsOf (gg : GSig) (c : GExpr) : awp (envO [k_impl_atomsIn, k_impl_truth] [] [] [] []) (bodyOf f_impl_atomsOf) (lo_impl_atomsOf gg c) 0 (ownPost (envO [k_impl_atomsIn, k_impl_truth] [] [] [] []) f_impl_atomsOf fun r => areEq r [⟨(.slice (.int .i64)), atAll gg c⟩]) (startState f_impl_atomsOf [.val ⟨(.st .sig), gg⟩, .val ⟨(.st .expr), c⟩]) =
  (((0 ≤ gg.tests ∧ gg.tests ≤ 3) ∧ (inI64 (atomsN gg) →
   ((∃ k1 : Nat, (k1 ≤ (atomsN gg).toNat ∧ ((True ∧ (True ∧ (True ∧ ((atomsN gg) = (atomsN gg) ∧ ((0 : Int) = (k1 : Int) ∧ True))))) ∧ ([] = (atomsL c k1) ∧ ((c.kind = c.kind ∧ (c.num = c.num ∧ (c.kids = c.kids ∧ True))) ∧ True))))) ∧ (∀ k2 : Nat, (k2 ≤ (atomsN gg).toNat →
       (((decide ((k2 : Int) < (atomsN gg))) = true →
         ((goodC c = true ∧ 0 ≤ (k2 : Int) ∧ (k2 : Int) ≤ 4096) ∧ (((truE (k2 : Int) c) = true →
           (roomOk ((atomsL c k2).length + ([(k2 : Int)]).length) 8 ∧ (inI64 ((k2 : Int) + (1 : Int)) ∧ (∃ k3 : Nat, (k3 ≤ (atomsN gg).toNat ∧ ((atomsN gg).toNat - k3 < (atomsN gg).toNat - k2 ∧ ((True ∧ (True ∧ (True ∧ ((atomsN gg) = (atomsN gg) ∧ (((k2 : Int) + (1 : Int)) = (k3 : Int) ∧ True))))) ∧ (((atomsL c k2) ++ ([(k2 : Int)])) = (atomsL c k3) ∧ ((c.kind = c.kind ∧ (c.num = c.num ∧ (c.kids = c.kids ∧ True))) ∧ True))))))))) ∧ ((truE (k2 : Int) c) = false →
           (inI64 ((k2 : Int) + (1 : Int)) ∧ (∃ k4 : Nat, (k4 ≤ (atomsN gg).toNat ∧ ((atomsN gg).toNat - k4 < (atomsN gg).toNat - k2 ∧ ((True ∧ (True ∧ (True ∧ ((atomsN gg) = (atomsN gg) ∧ (((k2 : Int) + (1 : Int)) = (k4 : Int) ∧ True))))) ∧ ((atomsL c k2) = (atomsL c k4) ∧ ((c.kind = c.kind ∧ (c.num = c.num ∧ (c.kids = c.kids ∧ True))) ∧ True))))))))))) ∧ ((decide ((k2 : Int) < (atomsN gg))) = false →
         (atomsL c k2) = (atAll gg c))))))))) := by
  refine Eq.trans (b := ((((0 ≤ gg.tests ∧ gg.tests ≤ 3) ∧ (inI64 (atomsN gg) →
   ((∃ k1 : Nat, (k1 ≤ (atomsN gg).toNat ∧ ((True ∧ (True ∧ (True ∧ ((atomsN gg) = (atomsN gg) ∧ ((0 : Int) = (k1 : Int) ∧ True))))) ∧ ([] = (atomsL c k1) ∧ ((c.kind = c.kind ∧ (c.num = c.num ∧ (c.kids = c.kids ∧ True))) ∧ True))))) ∧ (∀ k2 : Nat, (k2 ≤ (atomsN gg).toNat →
       (((decide ((k2 : Int) < (atomsN gg))) = true →
         ((goodC (GExpr.mk c.kind c.num c.kids) = true ∧ 0 ≤ (k2 : Int) ∧ (k2 : Int) ≤ 4096) ∧ (((truE (k2 : Int) (GExpr.mk c.kind c.num c.kids)) = true →
           (roomOk ((atomsL c k2).length + ([(k2 : Int)]).length) 8 ∧ (inI64 ((k2 : Int) + (1 : Int)) ∧ (∃ k3 : Nat, (k3 ≤ (atomsN gg).toNat ∧ ((atomsN gg).toNat - k3 < (atomsN gg).toNat - k2 ∧ ((True ∧ (True ∧ (True ∧ ((atomsN gg) = (atomsN gg) ∧ (((k2 : Int) + (1 : Int)) = (k3 : Int) ∧ True))))) ∧ (((atomsL c k2) ++ ([(k2 : Int)])) = (atomsL c k3) ∧ ((c.kind = c.kind ∧ (c.num = c.num ∧ (c.kids = c.kids ∧ True))) ∧ True))))))))) ∧ ((truE (k2 : Int) (GExpr.mk c.kind c.num c.kids)) = false →
           (inI64 ((k2 : Int) + (1 : Int)) ∧ (∃ k4 : Nat, (k4 ≤ (atomsN gg).toNat ∧ ((atomsN gg).toNat - k4 < (atomsN gg).toNat - k2 ∧ ((True ∧ (True ∧ (True ∧ ((atomsN gg) = (atomsN gg) ∧ (((k2 : Int) + (1 : Int)) = (k4 : Int) ∧ True))))) ∧ ((atomsL c k2) = (atomsL c k4) ∧ ((c.kind = c.kind ∧ (c.num = c.num ∧ (c.kids = c.kids ∧ True))) ∧ True))))))))))) ∧ ((decide ((k2 : Int) < (atomsN gg))) = false →
         (atomsL c k2) = (atAll gg c))))))))))) (by kernel_rfl) ?_
  simp only [GExpr.eta, GProg.eta, GDerivation.eta, GTriple.eta, GPremise.eta, GClaim.eta, GEquation.eta, GPair.eta, GSpot.eta]
set_option maxRecDepth 4000 in
set_option maxHeartbeats 1000000 in
theorem oko_impl_atomsOf (hE : AllGood [k_impl_atomsIn, k_impl_truth]) (hO : AllO []) (hM : AllM []) : Ctr.OGood ko_impl_atomsOf := by
  refine ⟨fnOk_of at_impl_atomsOf rfl (by decide), ?_⟩
  show ∀ (gg : GSig) (c : GExpr), (okC gg c = true) → OkOwn prog n_impl_atomsOf [.val ⟨(.st .sig), gg⟩, .val ⟨(.st .expr), c⟩] [⟨(.slice (.int .i64)), atAll gg c⟩]
  intro gg c hp
  refine own_of_awp (own := []) (wr := []) hE hO hM at_impl_atomsOf body_impl_atomsOf (lo_impl_atomsOf gg c) ?_
  rewrite [vco_impl_atomsOf gg c]
  have f0 := okE_sig' gg c (by simp only [okC, Bool.and_eq_true] at hp; exact hp.1)
  have f1 := atomsN_le gg f0
  have f2 := okC_good gg c hp
  have f3 : ([] : List Int) = atomsL c 0 := rfl
  refine ⟨?_, fun a0 => ⟨⟨0, ⟨?_, ⟨⟨trivial, ⟨trivial, ⟨trivial, ⟨rfl, ⟨?_, trivial⟩⟩⟩⟩⟩, ⟨?_, ⟨⟨rfl, ⟨rfl, ⟨rfl, trivial⟩⟩⟩, trivial⟩⟩⟩⟩⟩, fun k2 a1 => have b1x0 := atomsL_t c k2; have b1x1 := atomsL_f c k2; have b1x2 := atomsL_len c k2; have b1x3 := atAll_eq gg c k2; ⟨fun a2 => ⟨?_, ⟨fun a3 => ⟨?_, ⟨?_, ⟨k2 + 1, ⟨?_, ⟨?_, ⟨⟨trivial, ⟨trivial, ⟨trivial, ⟨rfl, ⟨?_, trivial⟩⟩⟩⟩⟩, ⟨?_, ⟨⟨rfl, ⟨rfl, ⟨rfl, trivial⟩⟩⟩, trivial⟩⟩⟩⟩⟩⟩⟩⟩, fun a3 => ⟨?_, ⟨k2 + 1, ⟨?_, ⟨?_, ⟨⟨trivial, ⟨trivial, ⟨trivial, ⟨rfl, ⟨?_, trivial⟩⟩⟩⟩⟩, ⟨?_, ⟨⟨rfl, ⟨rfl, ⟨rfl, trivial⟩⟩⟩, trivial⟩⟩⟩⟩⟩⟩⟩⟩⟩, fun a2 => ?_⟩⟩⟩
  all_goals try and_intros
  all_goals first | rfl | trivial | omega | (simp only [decide_eq_true_eq, decide_eq_false_iff_not, idxOk, inI64, inKind_u64, inKind_i64, u64_min, u64_max, roomOk, List.length_append, List.length_cons, List.length_nil] at *; omega) | grind

theorem ogood_impl_atomsOf : Ctr.OGood ko_impl_atomsOf := oko_impl_atomsOf ⟨good_impl_atomsIn, good_impl_truth, trivial⟩ trivial trivial

def ko_impl_AtomsOf : Ctr := ⟨n_impl_AtomsOf, [.v (.st .sig), .v (.st .expr)], fun (gg : GSig) (c : GExpr) => ⟨(none, [⟨(.slice (.int .i64)), atV gg c⟩, ⟨(.int .i64), atC gg c⟩])⟩⟩
def lo_impl_AtomsOf (gg : GSig) (c : GExpr) : Nat → LoopInv := fun _ => .none
theorem vco_impl_AtomsOf (gg : GSig) (c : GExpr) : awp (envO [k_impl_ValidExpr, k_impl_IsCondition] [ko_impl_atomsOf] [] [15] []) (bodyOf f_impl_AtomsOf) (lo_impl_AtomsOf gg c) 0 (ownPost (envO [k_impl_ValidExpr, k_impl_IsCondition] [ko_impl_atomsOf] [] [15] []) f_impl_AtomsOf fun r => areEq r [⟨(.slice (.int .i64)), atV gg c⟩, ⟨(.int .i64), atC gg c⟩]) (startState f_impl_AtomsOf [.val ⟨(.st .sig), gg⟩, .val ⟨(.st .expr), c⟩]) =
  ((((!(okE gg c)) = true →
   ([] = (atV gg c) ∧ (1 : Int) = (atC gg c))) ∧ ((!(okE gg c)) = false →
   (((!(condE c)) = true →
     ([] = (atV gg c) ∧ (4 : Int) = (atC gg c))) ∧ ((!(condE c)) = false →
     (okC gg c = true ∧ ((atAll gg c) = (atV gg c) ∧ (0 : Int) = (atC gg c)))))))) := by
  refine Eq.trans (b := (((((!(okE gg (GExpr.mk c.kind c.num c.kids))) = true →
   ([] = (atV gg c) ∧ (1 : Int) = (atC gg c))) ∧ ((!(okE gg (GExpr.mk c.kind c.num c.kids))) = false →
   (((!(condE (GExpr.mk c.kind c.num c.kids))) = true →
     ([] = (atV gg c) ∧ (4 : Int) = (atC gg c))) ∧ ((!(condE (GExpr.mk c.kind c.num c.kids))) = false →
     (okC gg (GExpr.mk c.kind c.num c.kids) = true ∧ ((atAll gg (GExpr.mk c.kind c.num c.kids)) = (atV gg c) ∧ (0 : Int) = (atC gg c)))))))))) (by kernel_rfl) ?_
  simp only [GExpr.eta, GProg.eta, GDerivation.eta, GTriple.eta, GPremise.eta, GClaim.eta, GEquation.eta, GPair.eta, GSpot.eta]
set_option maxRecDepth 4000 in
set_option maxHeartbeats 1000000 in
theorem oko_impl_AtomsOf (hE : AllGood [k_impl_ValidExpr, k_impl_IsCondition]) (hO : AllO [ko_impl_atomsOf]) (hM : AllM []) : Ctr.OGood ko_impl_AtomsOf := by
  refine ⟨fnOk_of at_impl_AtomsOf rfl (by decide), ?_⟩
  show ∀ (gg : GSig) (c : GExpr), True → OkOwn prog n_impl_AtomsOf [.val ⟨(.st .sig), gg⟩, .val ⟨(.st .expr), c⟩] [⟨(.slice (.int .i64)), atV gg c⟩, ⟨(.int .i64), atC gg c⟩]
  intro gg c _
  refine own_of_awp (own := [15]) (wr := []) hE hO hM at_impl_AtomsOf body_impl_AtomsOf (lo_impl_AtomsOf gg c) ?_
  rewrite [vco_impl_AtomsOf gg c]
  refine ⟨fun a0 => ⟨?_, ?_⟩, fun a0 => ⟨fun a1 => ⟨?_, ?_⟩, fun a1 => ⟨?_, ⟨?_, ?_⟩⟩⟩⟩
  all_goals try and_intros
  all_goals first | rfl | trivial | grind [okC, atV, atC]

theorem ogood_impl_AtomsOf : Ctr.OGood ko_impl_AtomsOf := oko_impl_AtomsOf ⟨good_impl_ValidExpr, good_impl_IsCondition, trivial⟩ ⟨ogood_impl_atomsOf, trivial⟩ trivial

def k_spec_l07Atoms : Ctr := ⟨n_spec_l07Atoms, [.v (.st .sig), .r (.st .expr)], fun (gg : GSig) (c : GExpr) => ⟨(some (okC gg c = true), [⟨(.slice (.int .i64)), atAll gg c⟩])⟩⟩
def l_spec_l07Atoms (gg : GSig) (c : GExpr) : Nat → LoopInv := (fun zb => if Nat.beq zb 0 then .mk (Nat) (fun k => k ≤ (atomsN gg).toNat) (fun k => (atomsN gg).toNat - k) [] [0, 3, 7] (fun k => [(6, .imm ⟨(.int .i64), ((k : Int) : Int)⟩), (5, .row 7)]) [1, 2, 4, 5, 6, 8, 9, 10, 11, 12, 13, 14, 15, 16, 17, 18, 19, 20, 21] (fun k => [(7, .row T_int64 (.int .i64) (atomsL c k : List Int))]) [] [] (fun k => fun _ => .none) else .none)
theorem vc_spec_l07Atoms (gg : GSig) (c : GExpr) : awp (envOf [k_spec_l01Atoms, k_spec_l01True]) (bodyOf f_spec_l07Atoms) (l_spec_l07Atoms gg c) 0 (funPost (envOf [k_spec_l01Atoms, k_spec_l01True]) f_spec_l07Atoms fun r => areEq r [⟨(.slice (.int .i64)), atAll gg c⟩]) (startState f_spec_l07Atoms [.val ⟨(.st .sig), gg⟩, .ref ⟨(.st .expr), c⟩]) =
  (((∃ k1 : Nat, (k1 ≤ (atomsN gg).toNat ∧ ((c = c ∧ (True ∧ (True ∧ (True ∧ ((0 : Int) = (k1 : Int) ∧ True))))) ∧ ([] = (atomsL c k1) ∧ ((gg.tests = gg.tests ∧ (gg.actions = gg.actions ∧ True)) ∧ True))))) ∧ (∀ k2 : Nat, (k2 ≤ (atomsN gg).toNat →
     ((0 ≤ gg.tests ∧ gg.tests ≤ 3) ∧ (inI64 (atomsN gg) →
       (((decide ((k2 : Int) < (atomsN gg))) = true →
         ((goodC c = true ∧ 0 ≤ (k2 : Int) ∧ (k2 : Int) ≤ 4096) ∧ (((truE (k2 : Int) c) = true →
           (roomOk ((atomsL c k2).length + ([(k2 : Int)]).length) 8 ∧ (inI64 ((k2 : Int) + (1 : Int)) ∧ (∃ k3 : Nat, (k3 ≤ (atomsN gg).toNat ∧ ((atomsN gg).toNat - k3 < (atomsN gg).toNat - k2 ∧ ((c = c ∧ (True ∧ (True ∧ (True ∧ (((k2 : Int) + (1 : Int)) = (k3 : Int) ∧ True))))) ∧ (((atomsL c k2) ++ ([(k2 : Int)])) = (atomsL c k3) ∧ ((gg.tests = gg.tests ∧ (gg.actions = gg.actions ∧ True)) ∧ True))))))))) ∧ ((truE (k2 : Int) c) = false →
           (inI64 ((k2 : Int) + (1 : Int)) ∧ (∃ k4 : Nat, (k4 ≤ (atomsN gg).toNat ∧ ((atomsN gg).toNat - k4 < (atomsN gg).toNat - k2 ∧ ((c = c ∧ (True ∧ (True ∧ (True ∧ (((k2 : Int) + (1 : Int)) = (k4 : Int) ∧ True))))) ∧ ((atomsL c k2) = (atomsL c k4) ∧ ((gg.tests = gg.tests ∧ (gg.actions = gg.actions ∧ True)) ∧ True))))))))))) ∧ ((decide ((k2 : Int) < (atomsN gg))) = false →
         (atomsL c k2) = (atAll gg c))))))))) := by kernel_rfl
set_option maxRecDepth 4000 in
set_option maxHeartbeats 1000000 in
theorem ok_spec_l07Atoms (hE : AllGood [k_spec_l01Atoms, k_spec_l01True]) : Ctr.Good k_spec_l07Atoms := by
  refine ⟨fnOk_of at_spec_l07Atoms rfl (by decide), ?_⟩
  show ∀ (gg : GSig) (c : GExpr), (okC gg c = true) → OkCall prog n_spec_l07Atoms [.val ⟨(.st .sig), gg⟩, .ref ⟨(.st .expr), c⟩] (· = [⟨(.slice (.int .i64)), atAll gg c⟩])
  intro gg c hp
  refine ok_of_awp (wr := []) hE at_spec_l07Atoms body_spec_l07Atoms (l_spec_l07Atoms gg c) ?_
  rewrite [vc_spec_l07Atoms gg c]
  have f0 := okE_sig' gg c (by simp only [okC, Bool.and_eq_true] at hp; exact hp.1)
  have f1 := atomsN_le gg f0
  have f2 := okC_good gg c hp
  have f3 : ([] : List Int) = atomsL c 0 := rfl
  refine ⟨⟨0, ⟨?_, ⟨⟨rfl, ⟨trivial, ⟨trivial, ⟨trivial, ⟨?_, trivial⟩⟩⟩⟩⟩, ⟨?_, ⟨⟨rfl, ⟨rfl, trivial⟩⟩, trivial⟩⟩⟩⟩⟩, fun k2 a0 => have b0x0 := atomsL_t c k2; have b0x1 := atomsL_f c k2; have b0x2 := atomsL_len c k2; have b0x3 := atAll_eq gg c k2; ⟨?_, fun a1 => ⟨fun a2 => ⟨?_, ⟨fun a3 => ⟨?_, ⟨?_, ⟨k2 + 1, ⟨?_, ⟨?_, ⟨⟨rfl, ⟨trivial, ⟨trivial, ⟨trivial, ⟨?_, trivial⟩⟩⟩⟩⟩, ⟨?_, ⟨⟨rfl, ⟨rfl, trivial⟩⟩, trivial⟩⟩⟩⟩⟩⟩⟩⟩, fun a3 => ⟨?_, ⟨k2 + 1, ⟨?_, ⟨?_, ⟨⟨rfl, ⟨trivial, ⟨trivial, ⟨trivial, ⟨?_, trivial⟩⟩⟩⟩⟩, ⟨?_, ⟨⟨rfl, ⟨rfl, trivial⟩⟩, trivial⟩⟩⟩⟩⟩⟩⟩⟩⟩, fun a2 => ?_⟩⟩⟩
  all_goals try and_intros
  all_goals first | rfl | trivial | omega | (simp only [decide_eq_true_eq, decide_eq_false_iff_not, idxOk, inI64, inKind_u64, inKind_i64, u64_min, u64_max, roomOk, List.length_append, List.length_cons, List.length_nil] at *; omega) | grind

theorem good_spec_l07Atoms : Ctr.Good k_spec_l07Atoms := ok_spec_l07Atoms ⟨good_spec_l01Atoms, good_spec_l01True, trivial⟩

def k_spec_AtomsOf : Ctr := ⟨n_spec_AtomsOf, [.v (.st .sig), .v (.st .expr)], fun (gg : GSig) (c : GExpr) => ⟨(none, [⟨(.slice (.int .i64)), atV gg c⟩, ⟨(.int .i64), atC gg c⟩])⟩⟩
def l_spec_AtomsOf (gg : GSig) (c : GExpr) : Nat → LoopInv := fun _ => .none
theorem vc_spec_AtomsOf (gg : GSig) (c : GExpr) : awp (envOf [k_spec_l01Ok, k_spec_l01Condition, k_spec_l07Atoms]) (bodyOf f_spec_AtomsOf) (l_spec_AtomsOf gg c) 0 (funPost (envOf [k_spec_l01Ok, k_spec_l01Condition, k_spec_l07Atoms]) f_spec_AtomsOf fun r => areEq r [⟨(.slice (.int .i64)), atV gg c⟩, ⟨(.int .i64), atC gg c⟩]) (startState f_spec_AtomsOf [.val ⟨(.st .sig), gg⟩, .val ⟨(.st .expr), c⟩]) =
  ((((!(okE gg c)) = true →
   ([] = (atV gg c) ∧ (1 : Int) = (atC gg c))) ∧ ((!(okE gg c)) = false →
   (((!(condE c)) = true →
     ([] = (atV gg c) ∧ (4 : Int) = (atC gg c))) ∧ ((!(condE c)) = false →
     (okC gg c = true ∧ ((atAll gg c).length ≤ 140737488355328 →
       ((atAll gg c) = (atV gg c) ∧ (0 : Int) = (atC gg c))))))))) := by
  refine Eq.trans (b := (((((!(okE gg (GExpr.mk c.kind c.num c.kids))) = true →
   ([] = (atV gg c) ∧ (1 : Int) = (atC gg c))) ∧ ((!(okE gg (GExpr.mk c.kind c.num c.kids))) = false →
   (((!(condE (GExpr.mk c.kind c.num c.kids))) = true →
     ([] = (atV gg c) ∧ (4 : Int) = (atC gg c))) ∧ ((!(condE (GExpr.mk c.kind c.num c.kids))) = false →
     (okC gg (GExpr.mk c.kind c.num c.kids) = true ∧ ((atAll gg (GExpr.mk c.kind c.num c.kids)).length ≤ 140737488355328 →
       ((atAll gg (GExpr.mk c.kind c.num c.kids)) = (atV gg c) ∧ (0 : Int) = (atC gg c))))))))))) (by kernel_rfl) ?_
  simp only [GExpr.eta, GProg.eta, GDerivation.eta, GTriple.eta, GPremise.eta, GClaim.eta, GEquation.eta, GPair.eta, GSpot.eta]
set_option maxRecDepth 4000 in
set_option maxHeartbeats 1000000 in
theorem ok_spec_AtomsOf (hE : AllGood [k_spec_l01Ok, k_spec_l01Condition, k_spec_l07Atoms]) : Ctr.Good k_spec_AtomsOf := by
  refine ⟨fnOk_of at_spec_AtomsOf rfl (by decide), ?_⟩
  show ∀ (gg : GSig) (c : GExpr), True → OkCall prog n_spec_AtomsOf [.val ⟨(.st .sig), gg⟩, .val ⟨(.st .expr), c⟩] (· = [⟨(.slice (.int .i64)), atV gg c⟩, ⟨(.int .i64), atC gg c⟩])
  intro gg c _
  refine ok_of_awp (wr := []) hE at_spec_AtomsOf body_spec_AtomsOf (l_spec_AtomsOf gg c) ?_
  rewrite [vc_spec_AtomsOf gg c]
  refine ⟨fun a0 => ⟨?_, ?_⟩, fun a0 => ⟨fun a1 => ⟨?_, ?_⟩, fun a1 => ⟨?_, fun a2 => ⟨?_, ?_⟩⟩⟩⟩
  all_goals try and_intros
  all_goals first | rfl | trivial | grind [okC, atV, atC]

theorem good_spec_AtomsOf : Ctr.Good k_spec_AtomsOf := ok_spec_AtomsOf ⟨good_spec_l01Ok, good_spec_l01Condition, good_spec_l07Atoms, trivial⟩

theorem heldI_mk (k : Int) (xs : List Int) : heldI k (mkInts k xs) = k + (xs.length : Int) := by
  simp [heldI, okInts_mk, mkInts_length]
mutual
theorem cntX_sz : ∀ x : GExpr, cntX x = 2 + 2 * sz_expr x
  | ⟨k, n, ks⟩ => by
    have := cntXs_sz ks
    simp only [cntX, sz_expr, this, szs_expr_eq]
theorem cntXs_sz : ∀ xs : List GExpr, cntXs xs = 2 * (xs.length + szL sz_expr xs)
  | [] => by simp [cntXs, szL]
  | x :: xs => by
    have h1 := cntX_sz x
    have h2 := cntXs_sz xs
    simp only [cntXs, szL, List.length_cons, h1, h2]; omega
end
theorem cnt_sz (x : GExpr) : szL cntX x.kids = 2 * sz_expr x := by
  have := cntXs_sz x.kids
  rw [cntXs_eq] at this
  rw [this, sz_expr_eq]

def k_laws_FnExactAtomsOf : Ctr := ⟨n_laws_FnExactAtomsOf, [.v (.st .sig), .v (.st .expr)], fun (gg : GSig) (c : GExpr) => ⟨(none, [⟨.bool, true⟩])⟩⟩
def l_laws_FnExactAtomsOf (gg : GSig) (c : GExpr) : Nat → LoopInv := fun _ => .none
theorem vc_laws_FnExactAtomsOf (gg : GSig) (c : GExpr) : awp (envO [k_laws_szExpr, k_laws_toExpr, k_laws_toSig, k_spec_AtomsOf, k_laws_eqInt64S, k_laws_eqExpr, k_laws_heldInt64S] [ko_laws_toExpr, ko_impl_AtomsOf] [mk_laws_markExpr, mk_laws_markInt64S] [30, 35, 54, 70, 84] []) (bodyOf f_laws_FnExactAtomsOf) (l_laws_FnExactAtomsOf gg c) 0 (funPost (envO [k_laws_szExpr, k_laws_toExpr, k_laws_toSig, k_spec_AtomsOf, k_laws_eqInt64S, k_laws_eqExpr, k_laws_heldInt64S] [ko_laws_toExpr, ko_impl_AtomsOf] [mk_laws_markExpr, mk_laws_markInt64S] [30, 35, 54, 70, 84] []) f_laws_FnExactAtomsOf fun r => areEq r [⟨.bool, true⟩]) (startState f_laws_FnExactAtomsOf [.val ⟨(.st .sig), gg⟩, .val ⟨(.st .expr), c⟩]) =
  (((0 ≤ (1048576 : Int) ∧ (1048576 : Int) ≤ 1048576) ∧ (inI64 (szR (sz_expr c) (1048576 : Int)) →
   (((decide ((szR (sz_expr c) (1048576 : Int)) < (0 : Int))) = true →
     true = true) ∧ ((decide ((szR (sz_expr c) (1048576 : Int)) < (0 : Int))) = false →
     (sz_expr c ≤ 1048576 ∧ ((atV gg c).length ≤ 140737488355328 →
       (inI64 (atC gg c) →
         (sz_expr c ≤ 1048576 ∧ (inI64 (atC gg c) →
           (((!(eqB (atV gg c) (atV gg c))) = false →
             (((!(decide ((atC gg c) = (atC gg c)))) = true →
               false = true) ∧ ((!(decide ((atC gg c) = (atC gg c)))) = false →
               (sz_expr c ≤ 1048576 ∧ (((!(eqB c c)) = true →
                 false = true) ∧ ((!(eqB c c)) = false →
                 ((0 ≤ (1 : Int) ∧ (1 : Int) + (szL cntX c.kids : Int) ≤ 4611686018427387904) ∧ (((decide (((1 : Int) + (szL cntX c.kids : Int)) < (0 : Int))) = false →
                   (((!(eqB (atV gg c) (atV gg c))) = false →
                     (((!(decide ((atC gg c) = (atC gg c)))) = true →
                       false = true) ∧ ((!(decide ((atC gg c) = (atC gg c)))) = false →
                       ((0 ≤ (1 : Int) ∧ (1 : Int) + ((atV gg c).length : Int) ≤ 4611686018427387904) ∧ ((0 ≤ (1 : Int) ∧ (1 : Int) + ((mkInts (1 : Int) (atV gg c)).length : Int) ≤ 4611686018427387904) ∧ (inI64 (heldI (1 : Int) (mkInts (1 : Int) (atV gg c))) →
                         (((decide ((heldI (1 : Int) (mkInts (1 : Int) (atV gg c))) < (0 : Int))) = true →
                           false = true) ∧ ((decide ((heldI (1 : Int) (mkInts (1 : Int) (atV gg c))) < (0 : Int))) = false →
                           (((!(decide ((heldI (1 : Int) (mkInts (1 : Int) (atV gg c))) = ((1 : Int) + ((atV gg c).length : Int))))) = true →
                             false = true) ∧ ((!(decide ((heldI (1 : Int) (mkInts (1 : Int) (atV gg c))) = ((1 : Int) + ((atV gg c).length : Int))))) = false →
                             (sz_expr c ≤ 1048576 ∧ (inI64 (atC gg c) →
                               (((!(eqB (atV gg c) (atV gg c))) = false →
                                 (((!(decide ((atC gg c) = (atC gg c)))) = true →
                                   false = true) ∧ ((!(decide ((atC gg c) = (atC gg c)))) = false →
                                   ((0 ≤ (1 : Int) ∧ (1 : Int) + ((mkInts (1 : Int) (atV gg c)).length : Int) ≤ 4611686018427387904) ∧ (inI64 (heldI (1 : Int) (mkInts (1 : Int) (atV gg c))) →
                                     (((decide ((heldI (1 : Int) (mkInts (1 : Int) (atV gg c))) < (0 : Int))) = true →
                                       false = true) ∧ ((decide ((heldI (1 : Int) (mkInts (1 : Int) (atV gg c))) < (0 : Int))) = false →
                                       (((!(decide ((heldI (1 : Int) (mkInts (1 : Int) (atV gg c))) = ((1 : Int) + ((atV gg c).length : Int))))) = true →
                                         false = true) ∧ ((!(decide ((heldI (1 : Int) (mkInts (1 : Int) (atV gg c))) = ((1 : Int) + ((atV gg c).length : Int))))) = false →
                                         true = true))))))))) ∧ ((!(eqB (atV gg c) (atV gg c))) = (!false) →
                                 ((true = true →
                                   false = true) ∧ (true = false →
                                   ((0 ≤ (1 : Int) ∧ (1 : Int) + ((mkInts (1 : Int) (atV gg c)).length : Int) ≤ 4611686018427387904) ∧ (inI64 (heldI (1 : Int) (mkInts (1 : Int) (atV gg c))) →
                                     (((decide ((heldI (1 : Int) (mkInts (1 : Int) (atV gg c))) < (0 : Int))) = true →
                                       false = true) ∧ ((decide ((heldI (1 : Int) (mkInts (1 : Int) (atV gg c))) < (0 : Int))) = false →
                                       (((!(decide ((heldI (1 : Int) (mkInts (1 : Int) (atV gg c))) = ((1 : Int) + ((atV gg c).length : Int))))) = true →
                                         false = true) ∧ ((!(decide ((heldI (1 : Int) (mkInts (1 : Int) (atV gg c))) = ((1 : Int) + ((atV gg c).length : Int))))) = false →
                                         true = true)))))))))))))))))))))) ∧ ((!(eqB (atV gg c) (atV gg c))) = (!false) →
                     ((true = true →
                       false = true) ∧ (true = false →
                       ((0 ≤ (1 : Int) ∧ (1 : Int) + ((atV gg c).length : Int) ≤ 4611686018427387904) ∧ ((0 ≤ (1 : Int) ∧ (1 : Int) + ((mkInts (1 : Int) (atV gg c)).length : Int) ≤ 4611686018427387904) ∧ (inI64 (heldI (1 : Int) (mkInts (1 : Int) (atV gg c))) →
                         (((decide ((heldI (1 : Int) (mkInts (1 : Int) (atV gg c))) < (0 : Int))) = true →
                           false = true) ∧ ((decide ((heldI (1 : Int) (mkInts (1 : Int) (atV gg c))) < (0 : Int))) = false →
                           (((!(decide ((heldI (1 : Int) (mkInts (1 : Int) (atV gg c))) = ((1 : Int) + ((atV gg c).length : Int))))) = true →
                             false = true) ∧ ((!(decide ((heldI (1 : Int) (mkInts (1 : Int) (atV gg c))) = ((1 : Int) + ((atV gg c).length : Int))))) = false →
                             (sz_expr c ≤ 1048576 ∧ (inI64 (atC gg c) →
                               (((!(eqB (atV gg c) (atV gg c))) = false →
                                 (((!(decide ((atC gg c) = (atC gg c)))) = true →
                                   false = true) ∧ ((!(decide ((atC gg c) = (atC gg c)))) = false →
                                   ((0 ≤ (1 : Int) ∧ (1 : Int) + ((mkInts (1 : Int) (atV gg c)).length : Int) ≤ 4611686018427387904) ∧ (inI64 (heldI (1 : Int) (mkInts (1 : Int) (atV gg c))) →
                                     (((decide ((heldI (1 : Int) (mkInts (1 : Int) (atV gg c))) < (0 : Int))) = true →
                                       false = true) ∧ ((decide ((heldI (1 : Int) (mkInts (1 : Int) (atV gg c))) < (0 : Int))) = false →
                                       (((!(decide ((heldI (1 : Int) (mkInts (1 : Int) (atV gg c))) = ((1 : Int) + ((atV gg c).length : Int))))) = true →
                                         false = true) ∧ ((!(decide ((heldI (1 : Int) (mkInts (1 : Int) (atV gg c))) = ((1 : Int) + ((atV gg c).length : Int))))) = false →
                                         true = true))))))))) ∧ ((!(eqB (atV gg c) (atV gg c))) = (!false) →
                                 ((true = true →
                                   false = true) ∧ (true = false →
                                   ((0 ≤ (1 : Int) ∧ (1 : Int) + ((mkInts (1 : Int) (atV gg c)).length : Int) ≤ 4611686018427387904) ∧ (inI64 (heldI (1 : Int) (mkInts (1 : Int) (atV gg c))) →
                                     (((decide ((heldI (1 : Int) (mkInts (1 : Int) (atV gg c))) < (0 : Int))) = true →
                                       false = true) ∧ ((decide ((heldI (1 : Int) (mkInts (1 : Int) (atV gg c))) < (0 : Int))) = false →
                                       (((!(decide ((heldI (1 : Int) (mkInts (1 : Int) (atV gg c))) = ((1 : Int) + ((atV gg c).length : Int))))) = true →
                                         false = true) ∧ ((!(decide ((heldI (1 : Int) (mkInts (1 : Int) (atV gg c))) = ((1 : Int) + ((atV gg c).length : Int))))) = false →
                                         true = true)))))))))))))))))))))))) ∧ ((decide (((1 : Int) + (szL cntX c.kids : Int)) < (0 : Int))) = (!false) →
                   ((true = false →
                     (((!(decide ((atC gg c) = (atC gg c)))) = true →
                       false = true) ∧ ((!(decide ((atC gg c) = (atC gg c)))) = false →
                       ((0 ≤ (1 : Int) ∧ (1 : Int) + ((atV gg c).length : Int) ≤ 4611686018427387904) ∧ ((0 ≤ (1 : Int) ∧ (1 : Int) + ((mkInts (1 : Int) (atV gg c)).length : Int) ≤ 4611686018427387904) ∧ (inI64 (heldI (1 : Int) (mkInts (1 : Int) (atV gg c))) →
                         (((decide ((heldI (1 : Int) (mkInts (1 : Int) (atV gg c))) < (0 : Int))) = true →
                           false = true) ∧ ((decide ((heldI (1 : Int) (mkInts (1 : Int) (atV gg c))) < (0 : Int))) = false →
                           (((!(decide ((heldI (1 : Int) (mkInts (1 : Int) (atV gg c))) = ((1 : Int) + ((atV gg c).length : Int))))) = true →
                             false = true) ∧ ((!(decide ((heldI (1 : Int) (mkInts (1 : Int) (atV gg c))) = ((1 : Int) + ((atV gg c).length : Int))))) = false →
                             (sz_expr c ≤ 1048576 ∧ (inI64 (atC gg c) →
                               (((!(eqB (atV gg c) (atV gg c))) = false →
                                 (((!(decide ((atC gg c) = (atC gg c)))) = true →
                                   false = true) ∧ ((!(decide ((atC gg c) = (atC gg c)))) = false →
                                   ((0 ≤ (1 : Int) ∧ (1 : Int) + ((mkInts (1 : Int) (atV gg c)).length : Int) ≤ 4611686018427387904) ∧ (inI64 (heldI (1 : Int) (mkInts (1 : Int) (atV gg c))) →
                                     (((decide ((heldI (1 : Int) (mkInts (1 : Int) (atV gg c))) < (0 : Int))) = true →
                                       false = true) ∧ ((decide ((heldI (1 : Int) (mkInts (1 : Int) (atV gg c))) < (0 : Int))) = false →
                                       (((!(decide ((heldI (1 : Int) (mkInts (1 : Int) (atV gg c))) = ((1 : Int) + ((atV gg c).length : Int))))) = true →
                                         false = true) ∧ ((!(decide ((heldI (1 : Int) (mkInts (1 : Int) (atV gg c))) = ((1 : Int) + ((atV gg c).length : Int))))) = false →
                                         true = true))))))))) ∧ ((!(eqB (atV gg c) (atV gg c))) = (!false) →
                                 ((true = true →
                                   false = true) ∧ (true = false →
                                   ((0 ≤ (1 : Int) ∧ (1 : Int) + ((mkInts (1 : Int) (atV gg c)).length : Int) ≤ 4611686018427387904) ∧ (inI64 (heldI (1 : Int) (mkInts (1 : Int) (atV gg c))) →
                                     (((decide ((heldI (1 : Int) (mkInts (1 : Int) (atV gg c))) < (0 : Int))) = true →
                                       false = true) ∧ ((decide ((heldI (1 : Int) (mkInts (1 : Int) (atV gg c))) < (0 : Int))) = false →
                                       (((!(decide ((heldI (1 : Int) (mkInts (1 : Int) (atV gg c))) = ((1 : Int) + ((atV gg c).length : Int))))) = true →
                                         false = true) ∧ ((!(decide ((heldI (1 : Int) (mkInts (1 : Int) (atV gg c))) = ((1 : Int) + ((atV gg c).length : Int))))) = false →
                                         true = true)))))))))))))))))))))) ∧ (true = (!false) →
                     ((true = true →
                       false = true) ∧ (true = false →
                       ((0 ≤ (1 : Int) ∧ (1 : Int) + ((atV gg c).length : Int) ≤ 4611686018427387904) ∧ ((0 ≤ (1 : Int) ∧ (1 : Int) + ((mkInts (1 : Int) (atV gg c)).length : Int) ≤ 4611686018427387904) ∧ (inI64 (heldI (1 : Int) (mkInts (1 : Int) (atV gg c))) →
                         (((decide ((heldI (1 : Int) (mkInts (1 : Int) (atV gg c))) < (0 : Int))) = true →
                           false = true) ∧ ((decide ((heldI (1 : Int) (mkInts (1 : Int) (atV gg c))) < (0 : Int))) = false →
                           (((!(decide ((heldI (1 : Int) (mkInts (1 : Int) (atV gg c))) = ((1 : Int) + ((atV gg c).length : Int))))) = true →
                             false = true) ∧ ((!(decide ((heldI (1 : Int) (mkInts (1 : Int) (atV gg c))) = ((1 : Int) + ((atV gg c).length : Int))))) = false →
                             (sz_expr c ≤ 1048576 ∧ (inI64 (atC gg c) →
                               (((!(eqB (atV gg c) (atV gg c))) = false →
                                 (((!(decide ((atC gg c) = (atC gg c)))) = true →
                                   false = true) ∧ ((!(decide ((atC gg c) = (atC gg c)))) = false →
                                   ((0 ≤ (1 : Int) ∧ (1 : Int) + ((mkInts (1 : Int) (atV gg c)).length : Int) ≤ 4611686018427387904) ∧ (inI64 (heldI (1 : Int) (mkInts (1 : Int) (atV gg c))) →
                                     (((decide ((heldI (1 : Int) (mkInts (1 : Int) (atV gg c))) < (0 : Int))) = true →
                                       false = true) ∧ ((decide ((heldI (1 : Int) (mkInts (1 : Int) (atV gg c))) < (0 : Int))) = false →
                                       (((!(decide ((heldI (1 : Int) (mkInts (1 : Int) (atV gg c))) = ((1 : Int) + ((atV gg c).length : Int))))) = true →
                                         false = true) ∧ ((!(decide ((heldI (1 : Int) (mkInts (1 : Int) (atV gg c))) = ((1 : Int) + ((atV gg c).length : Int))))) = false →
                                         true = true))))))))) ∧ ((!(eqB (atV gg c) (atV gg c))) = (!false) →
                                 ((true = true →
                                   false = true) ∧ (true = false →
                                   ((0 ≤ (1 : Int) ∧ (1 : Int) + ((mkInts (1 : Int) (atV gg c)).length : Int) ≤ 4611686018427387904) ∧ (inI64 (heldI (1 : Int) (mkInts (1 : Int) (atV gg c))) →
                                     (((decide ((heldI (1 : Int) (mkInts (1 : Int) (atV gg c))) < (0 : Int))) = true →
                                       false = true) ∧ ((decide ((heldI (1 : Int) (mkInts (1 : Int) (atV gg c))) < (0 : Int))) = false →
                                       (((!(decide ((heldI (1 : Int) (mkInts (1 : Int) (atV gg c))) = ((1 : Int) + ((atV gg c).length : Int))))) = true →
                                         false = true) ∧ ((!(decide ((heldI (1 : Int) (mkInts (1 : Int) (atV gg c))) = ((1 : Int) + ((atV gg c).length : Int))))) = false →
                                         true = true)))))))))))))))))))))))))))))))) ∧ ((!(eqB (atV gg c) (atV gg c))) = (!false) →
             ((true = true →
               false = true) ∧ (true = false →
               (sz_expr c ≤ 1048576 ∧ (((!(eqB c c)) = true →
                 false = true) ∧ ((!(eqB c c)) = false →
                 ((0 ≤ (1 : Int) ∧ (1 : Int) + (szL cntX c.kids : Int) ≤ 4611686018427387904) ∧ (((decide (((1 : Int) + (szL cntX c.kids : Int)) < (0 : Int))) = false →
                   (((!(eqB (atV gg c) (atV gg c))) = false →
                     (((!(decide ((atC gg c) = (atC gg c)))) = true →
                       false = true) ∧ ((!(decide ((atC gg c) = (atC gg c)))) = false →
                       ((0 ≤ (1 : Int) ∧ (1 : Int) + ((atV gg c).length : Int) ≤ 4611686018427387904) ∧ ((0 ≤ (1 : Int) ∧ (1 : Int) + ((mkInts (1 : Int) (atV gg c)).length : Int) ≤ 4611686018427387904) ∧ (inI64 (heldI (1 : Int) (mkInts (1 : Int) (atV gg c))) →
                         (((decide ((heldI (1 : Int) (mkInts (1 : Int) (atV gg c))) < (0 : Int))) = true →
                           false = true) ∧ ((decide ((heldI (1 : Int) (mkInts (1 : Int) (atV gg c))) < (0 : Int))) = false →
                           (((!(decide ((heldI (1 : Int) (mkInts (1 : Int) (atV gg c))) = ((1 : Int) + ((atV gg c).length : Int))))) = true →
                             false = true) ∧ ((!(decide ((heldI (1 : Int) (mkInts (1 : Int) (atV gg c))) = ((1 : Int) + ((atV gg c).length : Int))))) = false →
                             (sz_expr c ≤ 1048576 ∧ (inI64 (atC gg c) →
                               (((!(eqB (atV gg c) (atV gg c))) = false →
                                 (((!(decide ((atC gg c) = (atC gg c)))) = true →
                                   false = true) ∧ ((!(decide ((atC gg c) = (atC gg c)))) = false →
                                   ((0 ≤ (1 : Int) ∧ (1 : Int) + ((mkInts (1 : Int) (atV gg c)).length : Int) ≤ 4611686018427387904) ∧ (inI64 (heldI (1 : Int) (mkInts (1 : Int) (atV gg c))) →
                                     (((decide ((heldI (1 : Int) (mkInts (1 : Int) (atV gg c))) < (0 : Int))) = true →
                                       false = true) ∧ ((decide ((heldI (1 : Int) (mkInts (1 : Int) (atV gg c))) < (0 : Int))) = false →
                                       (((!(decide ((heldI (1 : Int) (mkInts (1 : Int) (atV gg c))) = ((1 : Int) + ((atV gg c).length : Int))))) = true →
                                         false = true) ∧ ((!(decide ((heldI (1 : Int) (mkInts (1 : Int) (atV gg c))) = ((1 : Int) + ((atV gg c).length : Int))))) = false →
                                         true = true))))))))) ∧ ((!(eqB (atV gg c) (atV gg c))) = (!false) →
                                 ((true = true →
                                   false = true) ∧ (true = false →
                                   ((0 ≤ (1 : Int) ∧ (1 : Int) + ((mkInts (1 : Int) (atV gg c)).length : Int) ≤ 4611686018427387904) ∧ (inI64 (heldI (1 : Int) (mkInts (1 : Int) (atV gg c))) →
                                     (((decide ((heldI (1 : Int) (mkInts (1 : Int) (atV gg c))) < (0 : Int))) = true →
                                       false = true) ∧ ((decide ((heldI (1 : Int) (mkInts (1 : Int) (atV gg c))) < (0 : Int))) = false →
                                       (((!(decide ((heldI (1 : Int) (mkInts (1 : Int) (atV gg c))) = ((1 : Int) + ((atV gg c).length : Int))))) = true →
                                         false = true) ∧ ((!(decide ((heldI (1 : Int) (mkInts (1 : Int) (atV gg c))) = ((1 : Int) + ((atV gg c).length : Int))))) = false →
                                         true = true)))))))))))))))))))))) ∧ ((!(eqB (atV gg c) (atV gg c))) = (!false) →
                     ((true = true →
                       false = true) ∧ (true = false →
                       ((0 ≤ (1 : Int) ∧ (1 : Int) + ((atV gg c).length : Int) ≤ 4611686018427387904) ∧ ((0 ≤ (1 : Int) ∧ (1 : Int) + ((mkInts (1 : Int) (atV gg c)).length : Int) ≤ 4611686018427387904) ∧ (inI64 (heldI (1 : Int) (mkInts (1 : Int) (atV gg c))) →
                         (((decide ((heldI (1 : Int) (mkInts (1 : Int) (atV gg c))) < (0 : Int))) = true →
                           false = true) ∧ ((decide ((heldI (1 : Int) (mkInts (1 : Int) (atV gg c))) < (0 : Int))) = false →
                           (((!(decide ((heldI (1 : Int) (mkInts (1 : Int) (atV gg c))) = ((1 : Int) + ((atV gg c).length : Int))))) = true →
                             false = true) ∧ ((!(decide ((heldI (1 : Int) (mkInts (1 : Int) (atV gg c))) = ((1 : Int) + ((atV gg c).length : Int))))) = false →
                             (sz_expr c ≤ 1048576 ∧ (inI64 (atC gg c) →
                               (((!(eqB (atV gg c) (atV gg c))) = false →
                                 (((!(decide ((atC gg c) = (atC gg c)))) = true →
                                   false = true) ∧ ((!(decide ((atC gg c) = (atC gg c)))) = false →
                                   ((0 ≤ (1 : Int) ∧ (1 : Int) + ((mkInts (1 : Int) (atV gg c)).length : Int) ≤ 4611686018427387904) ∧ (inI64 (heldI (1 : Int) (mkInts (1 : Int) (atV gg c))) →
                                     (((decide ((heldI (1 : Int) (mkInts (1 : Int) (atV gg c))) < (0 : Int))) = true →
                                       false = true) ∧ ((decide ((heldI (1 : Int) (mkInts (1 : Int) (atV gg c))) < (0 : Int))) = false →
                                       (((!(decide ((heldI (1 : Int) (mkInts (1 : Int) (atV gg c))) = ((1 : Int) + ((atV gg c).length : Int))))) = true →
                                         false = true) ∧ ((!(decide ((heldI (1 : Int) (mkInts (1 : Int) (atV gg c))) = ((1 : Int) + ((atV gg c).length : Int))))) = false →
                                         true = true))))))))) ∧ ((!(eqB (atV gg c) (atV gg c))) = (!false) →
                                 ((true = true →
                                   false = true) ∧ (true = false →
                                   ((0 ≤ (1 : Int) ∧ (1 : Int) + ((mkInts (1 : Int) (atV gg c)).length : Int) ≤ 4611686018427387904) ∧ (inI64 (heldI (1 : Int) (mkInts (1 : Int) (atV gg c))) →
                                     (((decide ((heldI (1 : Int) (mkInts (1 : Int) (atV gg c))) < (0 : Int))) = true →
                                       false = true) ∧ ((decide ((heldI (1 : Int) (mkInts (1 : Int) (atV gg c))) < (0 : Int))) = false →
                                       (((!(decide ((heldI (1 : Int) (mkInts (1 : Int) (atV gg c))) = ((1 : Int) + ((atV gg c).length : Int))))) = true →
                                         false = true) ∧ ((!(decide ((heldI (1 : Int) (mkInts (1 : Int) (atV gg c))) = ((1 : Int) + ((atV gg c).length : Int))))) = false →
                                         true = true)))))))))))))))))))))))) ∧ ((decide (((1 : Int) + (szL cntX c.kids : Int)) < (0 : Int))) = (!false) →
                   ((true = false →
                     (((!(decide ((atC gg c) = (atC gg c)))) = true →
                       false = true) ∧ ((!(decide ((atC gg c) = (atC gg c)))) = false →
                       ((0 ≤ (1 : Int) ∧ (1 : Int) + ((atV gg c).length : Int) ≤ 4611686018427387904) ∧ ((0 ≤ (1 : Int) ∧ (1 : Int) + ((mkInts (1 : Int) (atV gg c)).length : Int) ≤ 4611686018427387904) ∧ (inI64 (heldI (1 : Int) (mkInts (1 : Int) (atV gg c))) →
                         (((decide ((heldI (1 : Int) (mkInts (1 : Int) (atV gg c))) < (0 : Int))) = true →
                           false = true) ∧ ((decide ((heldI (1 : Int) (mkInts (1 : Int) (atV gg c))) < (0 : Int))) = false →
                           (((!(decide ((heldI (1 : Int) (mkInts (1 : Int) (atV gg c))) = ((1 : Int) + ((atV gg c).length : Int))))) = true →
                             false = true) ∧ ((!(decide ((heldI (1 : Int) (mkInts (1 : Int) (atV gg c))) = ((1 : Int) + ((atV gg c).length : Int))))) = false →
                             (sz_expr c ≤ 1048576 ∧ (inI64 (atC gg c) →
                               (((!(eqB (atV gg c) (atV gg c))) = false →
                                 (((!(decide ((atC gg c) = (atC gg c)))) = true →
                                   false = true) ∧ ((!(decide ((atC gg c) = (atC gg c)))) = false →
                                   ((0 ≤ (1 : Int) ∧ (1 : Int) + ((mkInts (1 : Int) (atV gg c)).length : Int) ≤ 4611686018427387904) ∧ (inI64 (heldI (1 : Int) (mkInts (1 : Int) (atV gg c))) →
                                     (((decide ((heldI (1 : Int) (mkInts (1 : Int) (atV gg c))) < (0 : Int))) = true →
                                       false = true) ∧ ((decide ((heldI (1 : Int) (mkInts (1 : Int) (atV gg c))) < (0 : Int))) = false →
                                       (((!(decide ((heldI (1 : Int) (mkInts (1 : Int) (atV gg c))) = ((1 : Int) + ((atV gg c).length : Int))))) = true →
                                         false = true) ∧ ((!(decide ((heldI (1 : Int) (mkInts (1 : Int) (atV gg c))) = ((1 : Int) + ((atV gg c).length : Int))))) = false →
                                         true = true))))))))) ∧ ((!(eqB (atV gg c) (atV gg c))) = (!false) →
                                 ((true = true →
                                   false = true) ∧ (true = false →
                                   ((0 ≤ (1 : Int) ∧ (1 : Int) + ((mkInts (1 : Int) (atV gg c)).length : Int) ≤ 4611686018427387904) ∧ (inI64 (heldI (1 : Int) (mkInts (1 : Int) (atV gg c))) →
                                     (((decide ((heldI (1 : Int) (mkInts (1 : Int) (atV gg c))) < (0 : Int))) = true →
                                       false = true) ∧ ((decide ((heldI (1 : Int) (mkInts (1 : Int) (atV gg c))) < (0 : Int))) = false →
                                       (((!(decide ((heldI (1 : Int) (mkInts (1 : Int) (atV gg c))) = ((1 : Int) + ((atV gg c).length : Int))))) = true →
                                         false = true) ∧ ((!(decide ((heldI (1 : Int) (mkInts (1 : Int) (atV gg c))) = ((1 : Int) + ((atV gg c).length : Int))))) = false →
                                         true = true)))))))))))))))))))))) ∧ (true = (!false) →
                     ((true = true →
                       false = true) ∧ (true = false →
                       ((0 ≤ (1 : Int) ∧ (1 : Int) + ((atV gg c).length : Int) ≤ 4611686018427387904) ∧ ((0 ≤ (1 : Int) ∧ (1 : Int) + ((mkInts (1 : Int) (atV gg c)).length : Int) ≤ 4611686018427387904) ∧ (inI64 (heldI (1 : Int) (mkInts (1 : Int) (atV gg c))) →
                         (((decide ((heldI (1 : Int) (mkInts (1 : Int) (atV gg c))) < (0 : Int))) = true →
                           false = true) ∧ ((decide ((heldI (1 : Int) (mkInts (1 : Int) (atV gg c))) < (0 : Int))) = false →
                           (((!(decide ((heldI (1 : Int) (mkInts (1 : Int) (atV gg c))) = ((1 : Int) + ((atV gg c).length : Int))))) = true →
                             false = true) ∧ ((!(decide ((heldI (1 : Int) (mkInts (1 : Int) (atV gg c))) = ((1 : Int) + ((atV gg c).length : Int))))) = false →
                             (sz_expr c ≤ 1048576 ∧ (inI64 (atC gg c) →
                               (((!(eqB (atV gg c) (atV gg c))) = false →
                                 (((!(decide ((atC gg c) = (atC gg c)))) = true →
                                   false = true) ∧ ((!(decide ((atC gg c) = (atC gg c)))) = false →
                                   ((0 ≤ (1 : Int) ∧ (1 : Int) + ((mkInts (1 : Int) (atV gg c)).length : Int) ≤ 4611686018427387904) ∧ (inI64 (heldI (1 : Int) (mkInts (1 : Int) (atV gg c))) →
                                     (((decide ((heldI (1 : Int) (mkInts (1 : Int) (atV gg c))) < (0 : Int))) = true →
                                       false = true) ∧ ((decide ((heldI (1 : Int) (mkInts (1 : Int) (atV gg c))) < (0 : Int))) = false →
                                       (((!(decide ((heldI (1 : Int) (mkInts (1 : Int) (atV gg c))) = ((1 : Int) + ((atV gg c).length : Int))))) = true →
                                         false = true) ∧ ((!(decide ((heldI (1 : Int) (mkInts (1 : Int) (atV gg c))) = ((1 : Int) + ((atV gg c).length : Int))))) = false →
                                         true = true))))))))) ∧ ((!(eqB (atV gg c) (atV gg c))) = (!false) →
                                 ((true = true →
                                   false = true) ∧ (true = false →
                                   ((0 ≤ (1 : Int) ∧ (1 : Int) + ((mkInts (1 : Int) (atV gg c)).length : Int) ≤ 4611686018427387904) ∧ (inI64 (heldI (1 : Int) (mkInts (1 : Int) (atV gg c))) →
                                     (((decide ((heldI (1 : Int) (mkInts (1 : Int) (atV gg c))) < (0 : Int))) = true →
                                       false = true) ∧ ((decide ((heldI (1 : Int) (mkInts (1 : Int) (atV gg c))) < (0 : Int))) = false →
                                       (((!(decide ((heldI (1 : Int) (mkInts (1 : Int) (atV gg c))) = ((1 : Int) + ((atV gg c).length : Int))))) = true →
                                         false = true) ∧ ((!(decide ((heldI (1 : Int) (mkInts (1 : Int) (atV gg c))) = ((1 : Int) + ((atV gg c).length : Int))))) = false →
                                         true = true))))))))))))))))))))))))))))))))))))))))))) := by
  refine Eq.trans (b := ((((0 ≤ (1048576 : Int) ∧ (1048576 : Int) ≤ 1048576) ∧ (inI64 (szR (sz_expr (GExpr.mk c.kind c.num c.kids)) (1048576 : Int)) →
   (((decide ((szR (sz_expr (GExpr.mk c.kind c.num c.kids)) (1048576 : Int)) < (0 : Int))) = true →
     true = true) ∧ ((decide ((szR (sz_expr (GExpr.mk c.kind c.num c.kids)) (1048576 : Int)) < (0 : Int))) = false →
     (sz_expr (GExpr.mk c.kind c.num c.kids) ≤ 1048576 ∧ ((atV gg (GExpr.mk c.kind c.num c.kids)).length ≤ 140737488355328 →
       (inI64 (atC gg (GExpr.mk c.kind c.num c.kids)) →
         (sz_expr (GExpr.mk c.kind c.num c.kids) ≤ 1048576 ∧ (inI64 (atC gg (GExpr.mk c.kind c.num c.kids)) →
           (((!(eqB (atV gg (GExpr.mk c.kind c.num c.kids)) (atV gg (GExpr.mk c.kind c.num c.kids)))) = false →
             (((!(decide ((atC gg (GExpr.mk c.kind c.num c.kids)) = (atC gg (GExpr.mk c.kind c.num c.kids))))) = true →
               false = true) ∧ ((!(decide ((atC gg (GExpr.mk c.kind c.num c.kids)) = (atC gg (GExpr.mk c.kind c.num c.kids))))) = false →
               (sz_expr (GExpr.mk c.kind c.num c.kids) ≤ 1048576 ∧ (((!(eqB (GExpr.mk c.kind c.num c.kids) (GExpr.mk c.kind c.num c.kids))) = true →
                 false = true) ∧ ((!(eqB (GExpr.mk c.kind c.num c.kids) (GExpr.mk c.kind c.num c.kids))) = false →
                 ((0 ≤ (1 : Int) ∧ (1 : Int) + (szL cntX (GExpr.mk c.kind c.num c.kids).kids : Int) ≤ 4611686018427387904) ∧ (((decide (((1 : Int) + (szL cntX (GExpr.mk c.kind c.num c.kids).kids : Int)) < (0 : Int))) = false →
                   (((!(eqB (atV gg (GExpr.mk c.kind c.num c.kids)) (atV gg (GExpr.mk c.kind c.num c.kids)))) = false →
                     (((!(decide ((atC gg (GExpr.mk c.kind c.num c.kids)) = (atC gg (GExpr.mk c.kind c.num c.kids))))) = true →
                       false = true) ∧ ((!(decide ((atC gg (GExpr.mk c.kind c.num c.kids)) = (atC gg (GExpr.mk c.kind c.num c.kids))))) = false →
                       ((0 ≤ (1 : Int) ∧ (1 : Int) + ((atV gg (GExpr.mk c.kind c.num c.kids)).length : Int) ≤ 4611686018427387904) ∧ ((0 ≤ (1 : Int) ∧ (1 : Int) + ((mkInts (1 : Int) (atV gg (GExpr.mk c.kind c.num c.kids))).length : Int) ≤ 4611686018427387904) ∧ (inI64 (heldI (1 : Int) (mkInts (1 : Int) (atV gg (GExpr.mk c.kind c.num c.kids)))) →
                         (((decide ((heldI (1 : Int) (mkInts (1 : Int) (atV gg (GExpr.mk c.kind c.num c.kids)))) < (0 : Int))) = true →
                           false = true) ∧ ((decide ((heldI (1 : Int) (mkInts (1 : Int) (atV gg (GExpr.mk c.kind c.num c.kids)))) < (0 : Int))) = false →
                           (((!(decide ((heldI (1 : Int) (mkInts (1 : Int) (atV gg (GExpr.mk c.kind c.num c.kids)))) = ((1 : Int) + ((atV gg (GExpr.mk c.kind c.num c.kids)).length : Int))))) = true →
                             false = true) ∧ ((!(decide ((heldI (1 : Int) (mkInts (1 : Int) (atV gg (GExpr.mk c.kind c.num c.kids)))) = ((1 : Int) + ((atV gg (GExpr.mk c.kind c.num c.kids)).length : Int))))) = false →
                             (sz_expr (GExpr.mk c.kind c.num c.kids) ≤ 1048576 ∧ (inI64 (atC gg (GExpr.mk c.kind c.num c.kids)) →
                               (((!(eqB (atV gg (GExpr.mk c.kind c.num c.kids)) (atV gg (GExpr.mk c.kind c.num c.kids)))) = false →
                                 (((!(decide ((atC gg (GExpr.mk c.kind c.num c.kids)) = (atC gg (GExpr.mk c.kind c.num c.kids))))) = true →
                                   false = true) ∧ ((!(decide ((atC gg (GExpr.mk c.kind c.num c.kids)) = (atC gg (GExpr.mk c.kind c.num c.kids))))) = false →
                                   ((0 ≤ (1 : Int) ∧ (1 : Int) + ((mkInts (1 : Int) (atV gg (GExpr.mk c.kind c.num c.kids))).length : Int) ≤ 4611686018427387904) ∧ (inI64 (heldI (1 : Int) (mkInts (1 : Int) (atV gg (GExpr.mk c.kind c.num c.kids)))) →
                                     (((decide ((heldI (1 : Int) (mkInts (1 : Int) (atV gg (GExpr.mk c.kind c.num c.kids)))) < (0 : Int))) = true →
                                       false = true) ∧ ((decide ((heldI (1 : Int) (mkInts (1 : Int) (atV gg (GExpr.mk c.kind c.num c.kids)))) < (0 : Int))) = false →
                                       (((!(decide ((heldI (1 : Int) (mkInts (1 : Int) (atV gg (GExpr.mk c.kind c.num c.kids)))) = ((1 : Int) + ((atV gg (GExpr.mk c.kind c.num c.kids)).length : Int))))) = true →
                                         false = true) ∧ ((!(decide ((heldI (1 : Int) (mkInts (1 : Int) (atV gg (GExpr.mk c.kind c.num c.kids)))) = ((1 : Int) + ((atV gg (GExpr.mk c.kind c.num c.kids)).length : Int))))) = false →
                                         true = true))))))))) ∧ ((!(eqB (atV gg (GExpr.mk c.kind c.num c.kids)) (atV gg (GExpr.mk c.kind c.num c.kids)))) = (!false) →
                                 ((true = true →
                                   false = true) ∧ (true = false →
                                   ((0 ≤ (1 : Int) ∧ (1 : Int) + ((mkInts (1 : Int) (atV gg (GExpr.mk c.kind c.num c.kids))).length : Int) ≤ 4611686018427387904) ∧ (inI64 (heldI (1 : Int) (mkInts (1 : Int) (atV gg (GExpr.mk c.kind c.num c.kids)))) →
                                     (((decide ((heldI (1 : Int) (mkInts (1 : Int) (atV gg (GExpr.mk c.kind c.num c.kids)))) < (0 : Int))) = true →
                                       false = true) ∧ ((decide ((heldI (1 : Int) (mkInts (1 : Int) (atV gg (GExpr.mk c.kind c.num c.kids)))) < (0 : Int))) = false →
                                       (((!(decide ((heldI (1 : Int) (mkInts (1 : Int) (atV gg (GExpr.mk c.kind c.num c.kids)))) = ((1 : Int) + ((atV gg (GExpr.mk c.kind c.num c.kids)).length : Int))))) = true →
                                         false = true) ∧ ((!(decide ((heldI (1 : Int) (mkInts (1 : Int) (atV gg (GExpr.mk c.kind c.num c.kids)))) = ((1 : Int) + ((atV gg (GExpr.mk c.kind c.num c.kids)).length : Int))))) = false →
                                         true = true)))))))))))))))))))))) ∧ ((!(eqB (atV gg (GExpr.mk c.kind c.num c.kids)) (atV gg (GExpr.mk c.kind c.num c.kids)))) = (!false) →
                     ((true = true →
                       false = true) ∧ (true = false →
                       ((0 ≤ (1 : Int) ∧ (1 : Int) + ((atV gg (GExpr.mk c.kind c.num c.kids)).length : Int) ≤ 4611686018427387904) ∧ ((0 ≤ (1 : Int) ∧ (1 : Int) + ((mkInts (1 : Int) (atV gg (GExpr.mk c.kind c.num c.kids))).length : Int) ≤ 4611686018427387904) ∧ (inI64 (heldI (1 : Int) (mkInts (1 : Int) (atV gg (GExpr.mk c.kind c.num c.kids)))) →
                         (((decide ((heldI (1 : Int) (mkInts (1 : Int) (atV gg (GExpr.mk c.kind c.num c.kids)))) < (0 : Int))) = true →
                           false = true) ∧ ((decide ((heldI (1 : Int) (mkInts (1 : Int) (atV gg (GExpr.mk c.kind c.num c.kids)))) < (0 : Int))) = false →
                           (((!(decide ((heldI (1 : Int) (mkInts (1 : Int) (atV gg (GExpr.mk c.kind c.num c.kids)))) = ((1 : Int) + ((atV gg (GExpr.mk c.kind c.num c.kids)).length : Int))))) = true →
                             false = true) ∧ ((!(decide ((heldI (1 : Int) (mkInts (1 : Int) (atV gg (GExpr.mk c.kind c.num c.kids)))) = ((1 : Int) + ((atV gg (GExpr.mk c.kind c.num c.kids)).length : Int))))) = false →
                             (sz_expr (GExpr.mk c.kind c.num c.kids) ≤ 1048576 ∧ (inI64 (atC gg (GExpr.mk c.kind c.num c.kids)) →
                               (((!(eqB (atV gg (GExpr.mk c.kind c.num c.kids)) (atV gg (GExpr.mk c.kind c.num c.kids)))) = false →
                                 (((!(decide ((atC gg (GExpr.mk c.kind c.num c.kids)) = (atC gg (GExpr.mk c.kind c.num c.kids))))) = true →
                                   false = true) ∧ ((!(decide ((atC gg (GExpr.mk c.kind c.num c.kids)) = (atC gg (GExpr.mk c.kind c.num c.kids))))) = false →
                                   ((0 ≤ (1 : Int) ∧ (1 : Int) + ((mkInts (1 : Int) (atV gg (GExpr.mk c.kind c.num c.kids))).length : Int) ≤ 4611686018427387904) ∧ (inI64 (heldI (1 : Int) (mkInts (1 : Int) (atV gg (GExpr.mk c.kind c.num c.kids)))) →
                                     (((decide ((heldI (1 : Int) (mkInts (1 : Int) (atV gg (GExpr.mk c.kind c.num c.kids)))) < (0 : Int))) = true →
                                       false = true) ∧ ((decide ((heldI (1 : Int) (mkInts (1 : Int) (atV gg (GExpr.mk c.kind c.num c.kids)))) < (0 : Int))) = false →
                                       (((!(decide ((heldI (1 : Int) (mkInts (1 : Int) (atV gg (GExpr.mk c.kind c.num c.kids)))) = ((1 : Int) + ((atV gg (GExpr.mk c.kind c.num c.kids)).length : Int))))) = true →
                                         false = true) ∧ ((!(decide ((heldI (1 : Int) (mkInts (1 : Int) (atV gg (GExpr.mk c.kind c.num c.kids)))) = ((1 : Int) + ((atV gg (GExpr.mk c.kind c.num c.kids)).length : Int))))) = false →
                                         true = true))))))))) ∧ ((!(eqB (atV gg (GExpr.mk c.kind c.num c.kids)) (atV gg (GExpr.mk c.kind c.num c.kids)))) = (!false) →
                                 ((true = true →
                                   false = true) ∧ (true = false →
                                   ((0 ≤ (1 : Int) ∧ (1 : Int) + ((mkInts (1 : Int) (atV gg (GExpr.mk c.kind c.num c.kids))).length : Int) ≤ 4611686018427387904) ∧ (inI64 (heldI (1 : Int) (mkInts (1 : Int) (atV gg (GExpr.mk c.kind c.num c.kids)))) →
                                     (((decide ((heldI (1 : Int) (mkInts (1 : Int) (atV gg (GExpr.mk c.kind c.num c.kids)))) < (0 : Int))) = true →
                                       false = true) ∧ ((decide ((heldI (1 : Int) (mkInts (1 : Int) (atV gg (GExpr.mk c.kind c.num c.kids)))) < (0 : Int))) = false →
                                       (((!(decide ((heldI (1 : Int) (mkInts (1 : Int) (atV gg (GExpr.mk c.kind c.num c.kids)))) = ((1 : Int) + ((atV gg (GExpr.mk c.kind c.num c.kids)).length : Int))))) = true →
                                         false = true) ∧ ((!(decide ((heldI (1 : Int) (mkInts (1 : Int) (atV gg (GExpr.mk c.kind c.num c.kids)))) = ((1 : Int) + ((atV gg (GExpr.mk c.kind c.num c.kids)).length : Int))))) = false →
                                         true = true)))))))))))))))))))))))) ∧ ((decide (((1 : Int) + (szL cntX (GExpr.mk c.kind c.num c.kids).kids : Int)) < (0 : Int))) = (!false) →
                   ((true = false →
                     (((!(decide ((atC gg (GExpr.mk c.kind c.num c.kids)) = (atC gg (GExpr.mk c.kind c.num c.kids))))) = true →
                       false = true) ∧ ((!(decide ((atC gg (GExpr.mk c.kind c.num c.kids)) = (atC gg (GExpr.mk c.kind c.num c.kids))))) = false →
                       ((0 ≤ (1 : Int) ∧ (1 : Int) + ((atV gg (GExpr.mk c.kind c.num c.kids)).length : Int) ≤ 4611686018427387904) ∧ ((0 ≤ (1 : Int) ∧ (1 : Int) + ((mkInts (1 : Int) (atV gg (GExpr.mk c.kind c.num c.kids))).length : Int) ≤ 4611686018427387904) ∧ (inI64 (heldI (1 : Int) (mkInts (1 : Int) (atV gg (GExpr.mk c.kind c.num c.kids)))) →
                         (((decide ((heldI (1 : Int) (mkInts (1 : Int) (atV gg (GExpr.mk c.kind c.num c.kids)))) < (0 : Int))) = true →
                           false = true) ∧ ((decide ((heldI (1 : Int) (mkInts (1 : Int) (atV gg (GExpr.mk c.kind c.num c.kids)))) < (0 : Int))) = false →
                           (((!(decide ((heldI (1 : Int) (mkInts (1 : Int) (atV gg (GExpr.mk c.kind c.num c.kids)))) = ((1 : Int) + ((atV gg (GExpr.mk c.kind c.num c.kids)).length : Int))))) = true →
                             false = true) ∧ ((!(decide ((heldI (1 : Int) (mkInts (1 : Int) (atV gg (GExpr.mk c.kind c.num c.kids)))) = ((1 : Int) + ((atV gg (GExpr.mk c.kind c.num c.kids)).length : Int))))) = false →
                             (sz_expr (GExpr.mk c.kind c.num c.kids) ≤ 1048576 ∧ (inI64 (atC gg (GExpr.mk c.kind c.num c.kids)) →
                               (((!(eqB (atV gg (GExpr.mk c.kind c.num c.kids)) (atV gg (GExpr.mk c.kind c.num c.kids)))) = false →
                                 (((!(decide ((atC gg (GExpr.mk c.kind c.num c.kids)) = (atC gg (GExpr.mk c.kind c.num c.kids))))) = true →
                                   false = true) ∧ ((!(decide ((atC gg (GExpr.mk c.kind c.num c.kids)) = (atC gg (GExpr.mk c.kind c.num c.kids))))) = false →
                                   ((0 ≤ (1 : Int) ∧ (1 : Int) + ((mkInts (1 : Int) (atV gg (GExpr.mk c.kind c.num c.kids))).length : Int) ≤ 4611686018427387904) ∧ (inI64 (heldI (1 : Int) (mkInts (1 : Int) (atV gg (GExpr.mk c.kind c.num c.kids)))) →
                                     (((decide ((heldI (1 : Int) (mkInts (1 : Int) (atV gg (GExpr.mk c.kind c.num c.kids)))) < (0 : Int))) = true →
                                       false = true) ∧ ((decide ((heldI (1 : Int) (mkInts (1 : Int) (atV gg (GExpr.mk c.kind c.num c.kids)))) < (0 : Int))) = false →
                                       (((!(decide ((heldI (1 : Int) (mkInts (1 : Int) (atV gg (GExpr.mk c.kind c.num c.kids)))) = ((1 : Int) + ((atV gg (GExpr.mk c.kind c.num c.kids)).length : Int))))) = true →
                                         false = true) ∧ ((!(decide ((heldI (1 : Int) (mkInts (1 : Int) (atV gg (GExpr.mk c.kind c.num c.kids)))) = ((1 : Int) + ((atV gg (GExpr.mk c.kind c.num c.kids)).length : Int))))) = false →
                                         true = true))))))))) ∧ ((!(eqB (atV gg (GExpr.mk c.kind c.num c.kids)) (atV gg (GExpr.mk c.kind c.num c.kids)))) = (!false) →
                                 ((true = true →
                                   false = true) ∧ (true = false →
                                   ((0 ≤ (1 : Int) ∧ (1 : Int) + ((mkInts (1 : Int) (atV gg (GExpr.mk c.kind c.num c.kids))).length : Int) ≤ 4611686018427387904) ∧ (inI64 (heldI (1 : Int) (mkInts (1 : Int) (atV gg (GExpr.mk c.kind c.num c.kids)))) →
                                     (((decide ((heldI (1 : Int) (mkInts (1 : Int) (atV gg (GExpr.mk c.kind c.num c.kids)))) < (0 : Int))) = true →
                                       false = true) ∧ ((decide ((heldI (1 : Int) (mkInts (1 : Int) (atV gg (GExpr.mk c.kind c.num c.kids)))) < (0 : Int))) = false →
                                       (((!(decide ((heldI (1 : Int) (mkInts (1 : Int) (atV gg (GExpr.mk c.kind c.num c.kids)))) = ((1 : Int) + ((atV gg (GExpr.mk c.kind c.num c.kids)).length : Int))))) = true →
                                         false = true) ∧ ((!(decide ((heldI (1 : Int) (mkInts (1 : Int) (atV gg (GExpr.mk c.kind c.num c.kids)))) = ((1 : Int) + ((atV gg (GExpr.mk c.kind c.num c.kids)).length : Int))))) = false →
                                         true = true)))))))))))))))))))))) ∧ (true = (!false) →
                     ((true = true →
                       false = true) ∧ (true = false →
                       ((0 ≤ (1 : Int) ∧ (1 : Int) + ((atV gg (GExpr.mk c.kind c.num c.kids)).length : Int) ≤ 4611686018427387904) ∧ ((0 ≤ (1 : Int) ∧ (1 : Int) + ((mkInts (1 : Int) (atV gg (GExpr.mk c.kind c.num c.kids))).length : Int) ≤ 4611686018427387904) ∧ (inI64 (heldI (1 : Int) (mkInts (1 : Int) (atV gg (GExpr.mk c.kind c.num c.kids)))) →
                         (((decide ((heldI (1 : Int) (mkInts (1 : Int) (atV gg (GExpr.mk c.kind c.num c.kids)))) < (0 : Int))) = true →
                           false = true) ∧ ((decide ((heldI (1 : Int) (mkInts (1 : Int) (atV gg (GExpr.mk c.kind c.num c.kids)))) < (0 : Int))) = false →
                           (((!(decide ((heldI (1 : Int) (mkInts (1 : Int) (atV gg (GExpr.mk c.kind c.num c.kids)))) = ((1 : Int) + ((atV gg (GExpr.mk c.kind c.num c.kids)).length : Int))))) = true →
                             false = true) ∧ ((!(decide ((heldI (1 : Int) (mkInts (1 : Int) (atV gg (GExpr.mk c.kind c.num c.kids)))) = ((1 : Int) + ((atV gg (GExpr.mk c.kind c.num c.kids)).length : Int))))) = false →
                             (sz_expr (GExpr.mk c.kind c.num c.kids) ≤ 1048576 ∧ (inI64 (atC gg (GExpr.mk c.kind c.num c.kids)) →
                               (((!(eqB (atV gg (GExpr.mk c.kind c.num c.kids)) (atV gg (GExpr.mk c.kind c.num c.kids)))) = false →
                                 (((!(decide ((atC gg (GExpr.mk c.kind c.num c.kids)) = (atC gg (GExpr.mk c.kind c.num c.kids))))) = true →
                                   false = true) ∧ ((!(decide ((atC gg (GExpr.mk c.kind c.num c.kids)) = (atC gg (GExpr.mk c.kind c.num c.kids))))) = false →
                                   ((0 ≤ (1 : Int) ∧ (1 : Int) + ((mkInts (1 : Int) (atV gg (GExpr.mk c.kind c.num c.kids))).length : Int) ≤ 4611686018427387904) ∧ (inI64 (heldI (1 : Int) (mkInts (1 : Int) (atV gg (GExpr.mk c.kind c.num c.kids)))) →
                                     (((decide ((heldI (1 : Int) (mkInts (1 : Int) (atV gg (GExpr.mk c.kind c.num c.kids)))) < (0 : Int))) = true →
                                       false = true) ∧ ((decide ((heldI (1 : Int) (mkInts (1 : Int) (atV gg (GExpr.mk c.kind c.num c.kids)))) < (0 : Int))) = false →
                                       (((!(decide ((heldI (1 : Int) (mkInts (1 : Int) (atV gg (GExpr.mk c.kind c.num c.kids)))) = ((1 : Int) + ((atV gg (GExpr.mk c.kind c.num c.kids)).length : Int))))) = true →
                                         false = true) ∧ ((!(decide ((heldI (1 : Int) (mkInts (1 : Int) (atV gg (GExpr.mk c.kind c.num c.kids)))) = ((1 : Int) + ((atV gg (GExpr.mk c.kind c.num c.kids)).length : Int))))) = false →
                                         true = true))))))))) ∧ ((!(eqB (atV gg (GExpr.mk c.kind c.num c.kids)) (atV gg (GExpr.mk c.kind c.num c.kids)))) = (!false) →
                                 ((true = true →
                                   false = true) ∧ (true = false →
                                   ((0 ≤ (1 : Int) ∧ (1 : Int) + ((mkInts (1 : Int) (atV gg (GExpr.mk c.kind c.num c.kids))).length : Int) ≤ 4611686018427387904) ∧ (inI64 (heldI (1 : Int) (mkInts (1 : Int) (atV gg (GExpr.mk c.kind c.num c.kids)))) →
                                     (((decide ((heldI (1 : Int) (mkInts (1 : Int) (atV gg (GExpr.mk c.kind c.num c.kids)))) < (0 : Int))) = true →
                                       false = true) ∧ ((decide ((heldI (1 : Int) (mkInts (1 : Int) (atV gg (GExpr.mk c.kind c.num c.kids)))) < (0 : Int))) = false →
                                       (((!(decide ((heldI (1 : Int) (mkInts (1 : Int) (atV gg (GExpr.mk c.kind c.num c.kids)))) = ((1 : Int) + ((atV gg (GExpr.mk c.kind c.num c.kids)).length : Int))))) = true →
                                         false = true) ∧ ((!(decide ((heldI (1 : Int) (mkInts (1 : Int) (atV gg (GExpr.mk c.kind c.num c.kids)))) = ((1 : Int) + ((atV gg (GExpr.mk c.kind c.num c.kids)).length : Int))))) = false →
                                         true = true)))))))))))))))))))))))))))))))) ∧ ((!(eqB (atV gg (GExpr.mk c.kind c.num c.kids)) (atV gg (GExpr.mk c.kind c.num c.kids)))) = (!false) →
             ((true = true →
               false = true) ∧ (true = false →
               (sz_expr (GExpr.mk c.kind c.num c.kids) ≤ 1048576 ∧ (((!(eqB (GExpr.mk c.kind c.num c.kids) (GExpr.mk c.kind c.num c.kids))) = true →
                 false = true) ∧ ((!(eqB (GExpr.mk c.kind c.num c.kids) (GExpr.mk c.kind c.num c.kids))) = false →
                 ((0 ≤ (1 : Int) ∧ (1 : Int) + (szL cntX (GExpr.mk c.kind c.num c.kids).kids : Int) ≤ 4611686018427387904) ∧ (((decide (((1 : Int) + (szL cntX (GExpr.mk c.kind c.num c.kids).kids : Int)) < (0 : Int))) = false →
                   (((!(eqB (atV gg (GExpr.mk c.kind c.num c.kids)) (atV gg (GExpr.mk c.kind c.num c.kids)))) = false →
                     (((!(decide ((atC gg (GExpr.mk c.kind c.num c.kids)) = (atC gg (GExpr.mk c.kind c.num c.kids))))) = true →
                       false = true) ∧ ((!(decide ((atC gg (GExpr.mk c.kind c.num c.kids)) = (atC gg (GExpr.mk c.kind c.num c.kids))))) = false →
                       ((0 ≤ (1 : Int) ∧ (1 : Int) + ((atV gg (GExpr.mk c.kind c.num c.kids)).length : Int) ≤ 4611686018427387904) ∧ ((0 ≤ (1 : Int) ∧ (1 : Int) + ((mkInts (1 : Int) (atV gg (GExpr.mk c.kind c.num c.kids))).length : Int) ≤ 4611686018427387904) ∧ (inI64 (heldI (1 : Int) (mkInts (1 : Int) (atV gg (GExpr.mk c.kind c.num c.kids)))) →
                         (((decide ((heldI (1 : Int) (mkInts (1 : Int) (atV gg (GExpr.mk c.kind c.num c.kids)))) < (0 : Int))) = true →
                           false = true) ∧ ((decide ((heldI (1 : Int) (mkInts (1 : Int) (atV gg (GExpr.mk c.kind c.num c.kids)))) < (0 : Int))) = false →
                           (((!(decide ((heldI (1 : Int) (mkInts (1 : Int) (atV gg (GExpr.mk c.kind c.num c.kids)))) = ((1 : Int) + ((atV gg (GExpr.mk c.kind c.num c.kids)).length : Int))))) = true →
                             false = true) ∧ ((!(decide ((heldI (1 : Int) (mkInts (1 : Int) (atV gg (GExpr.mk c.kind c.num c.kids)))) = ((1 : Int) + ((atV gg (GExpr.mk c.kind c.num c.kids)).length : Int))))) = false →
                             (sz_expr (GExpr.mk c.kind c.num c.kids) ≤ 1048576 ∧ (inI64 (atC gg (GExpr.mk c.kind c.num c.kids)) →
                               (((!(eqB (atV gg (GExpr.mk c.kind c.num c.kids)) (atV gg (GExpr.mk c.kind c.num c.kids)))) = false →
                                 (((!(decide ((atC gg (GExpr.mk c.kind c.num c.kids)) = (atC gg (GExpr.mk c.kind c.num c.kids))))) = true →
                                   false = true) ∧ ((!(decide ((atC gg (GExpr.mk c.kind c.num c.kids)) = (atC gg (GExpr.mk c.kind c.num c.kids))))) = false →
                                   ((0 ≤ (1 : Int) ∧ (1 : Int) + ((mkInts (1 : Int) (atV gg (GExpr.mk c.kind c.num c.kids))).length : Int) ≤ 4611686018427387904) ∧ (inI64 (heldI (1 : Int) (mkInts (1 : Int) (atV gg (GExpr.mk c.kind c.num c.kids)))) →
                                     (((decide ((heldI (1 : Int) (mkInts (1 : Int) (atV gg (GExpr.mk c.kind c.num c.kids)))) < (0 : Int))) = true →
                                       false = true) ∧ ((decide ((heldI (1 : Int) (mkInts (1 : Int) (atV gg (GExpr.mk c.kind c.num c.kids)))) < (0 : Int))) = false →
                                       (((!(decide ((heldI (1 : Int) (mkInts (1 : Int) (atV gg (GExpr.mk c.kind c.num c.kids)))) = ((1 : Int) + ((atV gg (GExpr.mk c.kind c.num c.kids)).length : Int))))) = true →
                                         false = true) ∧ ((!(decide ((heldI (1 : Int) (mkInts (1 : Int) (atV gg (GExpr.mk c.kind c.num c.kids)))) = ((1 : Int) + ((atV gg (GExpr.mk c.kind c.num c.kids)).length : Int))))) = false →
                                         true = true))))))))) ∧ ((!(eqB (atV gg (GExpr.mk c.kind c.num c.kids)) (atV gg (GExpr.mk c.kind c.num c.kids)))) = (!false) →
                                 ((true = true →
                                   false = true) ∧ (true = false →
                                   ((0 ≤ (1 : Int) ∧ (1 : Int) + ((mkInts (1 : Int) (atV gg (GExpr.mk c.kind c.num c.kids))).length : Int) ≤ 4611686018427387904) ∧ (inI64 (heldI (1 : Int) (mkInts (1 : Int) (atV gg (GExpr.mk c.kind c.num c.kids)))) →
                                     (((decide ((heldI (1 : Int) (mkInts (1 : Int) (atV gg (GExpr.mk c.kind c.num c.kids)))) < (0 : Int))) = true →
                                       false = true) ∧ ((decide ((heldI (1 : Int) (mkInts (1 : Int) (atV gg (GExpr.mk c.kind c.num c.kids)))) < (0 : Int))) = false →
                                       (((!(decide ((heldI (1 : Int) (mkInts (1 : Int) (atV gg (GExpr.mk c.kind c.num c.kids)))) = ((1 : Int) + ((atV gg (GExpr.mk c.kind c.num c.kids)).length : Int))))) = true →
                                         false = true) ∧ ((!(decide ((heldI (1 : Int) (mkInts (1 : Int) (atV gg (GExpr.mk c.kind c.num c.kids)))) = ((1 : Int) + ((atV gg (GExpr.mk c.kind c.num c.kids)).length : Int))))) = false →
                                         true = true)))))))))))))))))))))) ∧ ((!(eqB (atV gg (GExpr.mk c.kind c.num c.kids)) (atV gg (GExpr.mk c.kind c.num c.kids)))) = (!false) →
                     ((true = true →
                       false = true) ∧ (true = false →
                       ((0 ≤ (1 : Int) ∧ (1 : Int) + ((atV gg (GExpr.mk c.kind c.num c.kids)).length : Int) ≤ 4611686018427387904) ∧ ((0 ≤ (1 : Int) ∧ (1 : Int) + ((mkInts (1 : Int) (atV gg (GExpr.mk c.kind c.num c.kids))).length : Int) ≤ 4611686018427387904) ∧ (inI64 (heldI (1 : Int) (mkInts (1 : Int) (atV gg (GExpr.mk c.kind c.num c.kids)))) →
                         (((decide ((heldI (1 : Int) (mkInts (1 : Int) (atV gg (GExpr.mk c.kind c.num c.kids)))) < (0 : Int))) = true →
                           false = true) ∧ ((decide ((heldI (1 : Int) (mkInts (1 : Int) (atV gg (GExpr.mk c.kind c.num c.kids)))) < (0 : Int))) = false →
                           (((!(decide ((heldI (1 : Int) (mkInts (1 : Int) (atV gg (GExpr.mk c.kind c.num c.kids)))) = ((1 : Int) + ((atV gg (GExpr.mk c.kind c.num c.kids)).length : Int))))) = true →
                             false = true) ∧ ((!(decide ((heldI (1 : Int) (mkInts (1 : Int) (atV gg (GExpr.mk c.kind c.num c.kids)))) = ((1 : Int) + ((atV gg (GExpr.mk c.kind c.num c.kids)).length : Int))))) = false →
                             (sz_expr (GExpr.mk c.kind c.num c.kids) ≤ 1048576 ∧ (inI64 (atC gg (GExpr.mk c.kind c.num c.kids)) →
                               (((!(eqB (atV gg (GExpr.mk c.kind c.num c.kids)) (atV gg (GExpr.mk c.kind c.num c.kids)))) = false →
                                 (((!(decide ((atC gg (GExpr.mk c.kind c.num c.kids)) = (atC gg (GExpr.mk c.kind c.num c.kids))))) = true →
                                   false = true) ∧ ((!(decide ((atC gg (GExpr.mk c.kind c.num c.kids)) = (atC gg (GExpr.mk c.kind c.num c.kids))))) = false →
                                   ((0 ≤ (1 : Int) ∧ (1 : Int) + ((mkInts (1 : Int) (atV gg (GExpr.mk c.kind c.num c.kids))).length : Int) ≤ 4611686018427387904) ∧ (inI64 (heldI (1 : Int) (mkInts (1 : Int) (atV gg (GExpr.mk c.kind c.num c.kids)))) →
                                     (((decide ((heldI (1 : Int) (mkInts (1 : Int) (atV gg (GExpr.mk c.kind c.num c.kids)))) < (0 : Int))) = true →
                                       false = true) ∧ ((decide ((heldI (1 : Int) (mkInts (1 : Int) (atV gg (GExpr.mk c.kind c.num c.kids)))) < (0 : Int))) = false →
                                       (((!(decide ((heldI (1 : Int) (mkInts (1 : Int) (atV gg (GExpr.mk c.kind c.num c.kids)))) = ((1 : Int) + ((atV gg (GExpr.mk c.kind c.num c.kids)).length : Int))))) = true →
                                         false = true) ∧ ((!(decide ((heldI (1 : Int) (mkInts (1 : Int) (atV gg (GExpr.mk c.kind c.num c.kids)))) = ((1 : Int) + ((atV gg (GExpr.mk c.kind c.num c.kids)).length : Int))))) = false →
                                         true = true))))))))) ∧ ((!(eqB (atV gg (GExpr.mk c.kind c.num c.kids)) (atV gg (GExpr.mk c.kind c.num c.kids)))) = (!false) →
                                 ((true = true →
                                   false = true) ∧ (true = false →
                                   ((0 ≤ (1 : Int) ∧ (1 : Int) + ((mkInts (1 : Int) (atV gg (GExpr.mk c.kind c.num c.kids))).length : Int) ≤ 4611686018427387904) ∧ (inI64 (heldI (1 : Int) (mkInts (1 : Int) (atV gg (GExpr.mk c.kind c.num c.kids)))) →
                                     (((decide ((heldI (1 : Int) (mkInts (1 : Int) (atV gg (GExpr.mk c.kind c.num c.kids)))) < (0 : Int))) = true →
                                       false = true) ∧ ((decide ((heldI (1 : Int) (mkInts (1 : Int) (atV gg (GExpr.mk c.kind c.num c.kids)))) < (0 : Int))) = false →
                                       (((!(decide ((heldI (1 : Int) (mkInts (1 : Int) (atV gg (GExpr.mk c.kind c.num c.kids)))) = ((1 : Int) + ((atV gg (GExpr.mk c.kind c.num c.kids)).length : Int))))) = true →
                                         false = true) ∧ ((!(decide ((heldI (1 : Int) (mkInts (1 : Int) (atV gg (GExpr.mk c.kind c.num c.kids)))) = ((1 : Int) + ((atV gg (GExpr.mk c.kind c.num c.kids)).length : Int))))) = false →
                                         true = true)))))))))))))))))))))))) ∧ ((decide (((1 : Int) + (szL cntX (GExpr.mk c.kind c.num c.kids).kids : Int)) < (0 : Int))) = (!false) →
                   ((true = false →
                     (((!(decide ((atC gg (GExpr.mk c.kind c.num c.kids)) = (atC gg (GExpr.mk c.kind c.num c.kids))))) = true →
                       false = true) ∧ ((!(decide ((atC gg (GExpr.mk c.kind c.num c.kids)) = (atC gg (GExpr.mk c.kind c.num c.kids))))) = false →
                       ((0 ≤ (1 : Int) ∧ (1 : Int) + ((atV gg (GExpr.mk c.kind c.num c.kids)).length : Int) ≤ 4611686018427387904) ∧ ((0 ≤ (1 : Int) ∧ (1 : Int) + ((mkInts (1 : Int) (atV gg (GExpr.mk c.kind c.num c.kids))).length : Int) ≤ 4611686018427387904) ∧ (inI64 (heldI (1 : Int) (mkInts (1 : Int) (atV gg (GExpr.mk c.kind c.num c.kids)))) →
                         (((decide ((heldI (1 : Int) (mkInts (1 : Int) (atV gg (GExpr.mk c.kind c.num c.kids)))) < (0 : Int))) = true →
                           false = true) ∧ ((decide ((heldI (1 : Int) (mkInts (1 : Int) (atV gg (GExpr.mk c.kind c.num c.kids)))) < (0 : Int))) = false →
                           (((!(decide ((heldI (1 : Int) (mkInts (1 : Int) (atV gg (GExpr.mk c.kind c.num c.kids)))) = ((1 : Int) + ((atV gg (GExpr.mk c.kind c.num c.kids)).length : Int))))) = true →
                             false = true) ∧ ((!(decide ((heldI (1 : Int) (mkInts (1 : Int) (atV gg (GExpr.mk c.kind c.num c.kids)))) = ((1 : Int) + ((atV gg (GExpr.mk c.kind c.num c.kids)).length : Int))))) = false →
                             (sz_expr (GExpr.mk c.kind c.num c.kids) ≤ 1048576 ∧ (inI64 (atC gg (GExpr.mk c.kind c.num c.kids)) →
                               (((!(eqB (atV gg (GExpr.mk c.kind c.num c.kids)) (atV gg (GExpr.mk c.kind c.num c.kids)))) = false →
                                 (((!(decide ((atC gg (GExpr.mk c.kind c.num c.kids)) = (atC gg (GExpr.mk c.kind c.num c.kids))))) = true →
                                   false = true) ∧ ((!(decide ((atC gg (GExpr.mk c.kind c.num c.kids)) = (atC gg (GExpr.mk c.kind c.num c.kids))))) = false →
                                   ((0 ≤ (1 : Int) ∧ (1 : Int) + ((mkInts (1 : Int) (atV gg (GExpr.mk c.kind c.num c.kids))).length : Int) ≤ 4611686018427387904) ∧ (inI64 (heldI (1 : Int) (mkInts (1 : Int) (atV gg (GExpr.mk c.kind c.num c.kids)))) →
                                     (((decide ((heldI (1 : Int) (mkInts (1 : Int) (atV gg (GExpr.mk c.kind c.num c.kids)))) < (0 : Int))) = true →
                                       false = true) ∧ ((decide ((heldI (1 : Int) (mkInts (1 : Int) (atV gg (GExpr.mk c.kind c.num c.kids)))) < (0 : Int))) = false →
                                       (((!(decide ((heldI (1 : Int) (mkInts (1 : Int) (atV gg (GExpr.mk c.kind c.num c.kids)))) = ((1 : Int) + ((atV gg (GExpr.mk c.kind c.num c.kids)).length : Int))))) = true →
                                         false = true) ∧ ((!(decide ((heldI (1 : Int) (mkInts (1 : Int) (atV gg (GExpr.mk c.kind c.num c.kids)))) = ((1 : Int) + ((atV gg (GExpr.mk c.kind c.num c.kids)).length : Int))))) = false →
                                         true = true))))))))) ∧ ((!(eqB (atV gg (GExpr.mk c.kind c.num c.kids)) (atV gg (GExpr.mk c.kind c.num c.kids)))) = (!false) →
                                 ((true = true →
                                   false = true) ∧ (true = false →
                                   ((0 ≤ (1 : Int) ∧ (1 : Int) + ((mkInts (1 : Int) (atV gg (GExpr.mk c.kind c.num c.kids))).length : Int) ≤ 4611686018427387904) ∧ (inI64 (heldI (1 : Int) (mkInts (1 : Int) (atV gg (GExpr.mk c.kind c.num c.kids)))) →
                                     (((decide ((heldI (1 : Int) (mkInts (1 : Int) (atV gg (GExpr.mk c.kind c.num c.kids)))) < (0 : Int))) = true →
                                       false = true) ∧ ((decide ((heldI (1 : Int) (mkInts (1 : Int) (atV gg (GExpr.mk c.kind c.num c.kids)))) < (0 : Int))) = false →
                                       (((!(decide ((heldI (1 : Int) (mkInts (1 : Int) (atV gg (GExpr.mk c.kind c.num c.kids)))) = ((1 : Int) + ((atV gg (GExpr.mk c.kind c.num c.kids)).length : Int))))) = true →
                                         false = true) ∧ ((!(decide ((heldI (1 : Int) (mkInts (1 : Int) (atV gg (GExpr.mk c.kind c.num c.kids)))) = ((1 : Int) + ((atV gg (GExpr.mk c.kind c.num c.kids)).length : Int))))) = false →
                                         true = true)))))))))))))))))))))) ∧ (true = (!false) →
                     ((true = true →
                       false = true) ∧ (true = false →
                       ((0 ≤ (1 : Int) ∧ (1 : Int) + ((atV gg (GExpr.mk c.kind c.num c.kids)).length : Int) ≤ 4611686018427387904) ∧ ((0 ≤ (1 : Int) ∧ (1 : Int) + ((mkInts (1 : Int) (atV gg (GExpr.mk c.kind c.num c.kids))).length : Int) ≤ 4611686018427387904) ∧ (inI64 (heldI (1 : Int) (mkInts (1 : Int) (atV gg (GExpr.mk c.kind c.num c.kids)))) →
                         (((decide ((heldI (1 : Int) (mkInts (1 : Int) (atV gg (GExpr.mk c.kind c.num c.kids)))) < (0 : Int))) = true →
                           false = true) ∧ ((decide ((heldI (1 : Int) (mkInts (1 : Int) (atV gg (GExpr.mk c.kind c.num c.kids)))) < (0 : Int))) = false →
                           (((!(decide ((heldI (1 : Int) (mkInts (1 : Int) (atV gg (GExpr.mk c.kind c.num c.kids)))) = ((1 : Int) + ((atV gg (GExpr.mk c.kind c.num c.kids)).length : Int))))) = true →
                             false = true) ∧ ((!(decide ((heldI (1 : Int) (mkInts (1 : Int) (atV gg (GExpr.mk c.kind c.num c.kids)))) = ((1 : Int) + ((atV gg (GExpr.mk c.kind c.num c.kids)).length : Int))))) = false →
                             (sz_expr (GExpr.mk c.kind c.num c.kids) ≤ 1048576 ∧ (inI64 (atC gg (GExpr.mk c.kind c.num c.kids)) →
                               (((!(eqB (atV gg (GExpr.mk c.kind c.num c.kids)) (atV gg (GExpr.mk c.kind c.num c.kids)))) = false →
                                 (((!(decide ((atC gg (GExpr.mk c.kind c.num c.kids)) = (atC gg (GExpr.mk c.kind c.num c.kids))))) = true →
                                   false = true) ∧ ((!(decide ((atC gg (GExpr.mk c.kind c.num c.kids)) = (atC gg (GExpr.mk c.kind c.num c.kids))))) = false →
                                   ((0 ≤ (1 : Int) ∧ (1 : Int) + ((mkInts (1 : Int) (atV gg (GExpr.mk c.kind c.num c.kids))).length : Int) ≤ 4611686018427387904) ∧ (inI64 (heldI (1 : Int) (mkInts (1 : Int) (atV gg (GExpr.mk c.kind c.num c.kids)))) →
                                     (((decide ((heldI (1 : Int) (mkInts (1 : Int) (atV gg (GExpr.mk c.kind c.num c.kids)))) < (0 : Int))) = true →
                                       false = true) ∧ ((decide ((heldI (1 : Int) (mkInts (1 : Int) (atV gg (GExpr.mk c.kind c.num c.kids)))) < (0 : Int))) = false →
                                       (((!(decide ((heldI (1 : Int) (mkInts (1 : Int) (atV gg (GExpr.mk c.kind c.num c.kids)))) = ((1 : Int) + ((atV gg (GExpr.mk c.kind c.num c.kids)).length : Int))))) = true →
                                         false = true) ∧ ((!(decide ((heldI (1 : Int) (mkInts (1 : Int) (atV gg (GExpr.mk c.kind c.num c.kids)))) = ((1 : Int) + ((atV gg (GExpr.mk c.kind c.num c.kids)).length : Int))))) = false →
                                         true = true))))))))) ∧ ((!(eqB (atV gg (GExpr.mk c.kind c.num c.kids)) (atV gg (GExpr.mk c.kind c.num c.kids)))) = (!false) →
                                 ((true = true →
                                   false = true) ∧ (true = false →
                                   ((0 ≤ (1 : Int) ∧ (1 : Int) + ((mkInts (1 : Int) (atV gg (GExpr.mk c.kind c.num c.kids))).length : Int) ≤ 4611686018427387904) ∧ (inI64 (heldI (1 : Int) (mkInts (1 : Int) (atV gg (GExpr.mk c.kind c.num c.kids)))) →
                                     (((decide ((heldI (1 : Int) (mkInts (1 : Int) (atV gg (GExpr.mk c.kind c.num c.kids)))) < (0 : Int))) = true →
                                       false = true) ∧ ((decide ((heldI (1 : Int) (mkInts (1 : Int) (atV gg (GExpr.mk c.kind c.num c.kids)))) < (0 : Int))) = false →
                                       (((!(decide ((heldI (1 : Int) (mkInts (1 : Int) (atV gg (GExpr.mk c.kind c.num c.kids)))) = ((1 : Int) + ((atV gg (GExpr.mk c.kind c.num c.kids)).length : Int))))) = true →
                                         false = true) ∧ ((!(decide ((heldI (1 : Int) (mkInts (1 : Int) (atV gg (GExpr.mk c.kind c.num c.kids)))) = ((1 : Int) + ((atV gg (GExpr.mk c.kind c.num c.kids)).length : Int))))) = false →
                                         true = true))))))))))))))))))))))))))))))))))))))))))))) (by kernel_rfl) ?_
  simp only [GExpr.eta, GProg.eta, GDerivation.eta, GTriple.eta, GPremise.eta, GClaim.eta, GEquation.eta, GPair.eta, GSpot.eta]
set_option maxRecDepth 4000 in
set_option maxHeartbeats 1000000 in
theorem ok_laws_FnExactAtomsOf (hE : AllGood [k_laws_szExpr, k_laws_toExpr, k_laws_toSig, k_spec_AtomsOf, k_laws_eqInt64S, k_laws_eqExpr, k_laws_heldInt64S]) (hO : AllO [ko_laws_toExpr, ko_impl_AtomsOf]) (hM : AllM [mk_laws_markExpr, mk_laws_markInt64S]) : Ctr.Good k_laws_FnExactAtomsOf := by
  refine ⟨fnOk_of at_laws_FnExactAtomsOf rfl (by decide), ?_⟩
  show ∀ (gg : GSig) (c : GExpr), True → OkCall prog n_laws_FnExactAtomsOf [.val ⟨(.st .sig), gg⟩, .val ⟨(.st .expr), c⟩] (· = [⟨.bool, true⟩])
  intro gg c _
  refine ok_of_awpO (own := [30, 35, 54, 70, 84]) (wr := []) hE hO hM at_laws_FnExactAtomsOf body_laws_FnExactAtomsOf (l_laws_FnExactAtomsOf gg c) ?_
  rewrite [vc_laws_FnExactAtomsOf gg c]
  have f0 := szR_or (sz_expr c) 1048576
  have f1 := cnt_sz c
  have f2 := atV_len gg c
  have f3 := heldI_mk 1 (atV gg c)
  have f4 := mkInts_length 1 (atV gg c)
  refine ⟨?_, fun a0 => ⟨fun a1 => rfl, fun a1 => ⟨?_, fun a2 => fun a3 => ⟨?_, fun a4 => ⟨fun a5 => ⟨fun a6 => ?_, fun a6 => ⟨?_, ⟨fun a7 => ?_, fun a7 => ⟨?_, ⟨fun a8 => ⟨fun a9 => ⟨fun a10 => ?_, fun a10 => ⟨?_, ⟨?_, fun a11 => ⟨fun a12 => ?_, fun a12 => ⟨fun a13 => ?_, fun a13 => ⟨?_, fun a14 => ⟨fun a15 => ⟨fun a16 => ?_, fun a16 => ⟨?_, fun a17 => ⟨fun a18 => ?_, fun a18 => ⟨fun a19 => ?_, fun a19 => rfl⟩⟩⟩⟩, fun a15 => ⟨fun a16 => ?_, fun a16 => ⟨?_, fun a17 => ⟨fun a18 => ?_, fun a18 => ⟨fun a19 => ?_, fun a19 => rfl⟩⟩⟩⟩⟩⟩⟩⟩⟩⟩⟩, fun a9 => ⟨fun a10 => ?_, fun a10 => ⟨?_, ⟨?_, fun a11 => ⟨fun a12 => ?_, fun a12 => ⟨fun a13 => ?_, fun a13 => ⟨?_, fun a14 => ⟨fun a15 => ⟨fun a16 => ?_, fun a16 => ⟨?_, fun a17 => ⟨fun a18 => ?_, fun a18 => ⟨fun a19 => ?_, fun a19 => rfl⟩⟩⟩⟩, fun a15 => ⟨fun a16 => ?_, fun a16 => ⟨?_, fun a17 => ⟨fun a18 => ?_, fun a18 => ⟨fun a19 => ?_, fun a19 => rfl⟩⟩⟩⟩⟩⟩⟩⟩⟩⟩⟩⟩, fun a8 => ⟨fun a9 => ⟨fun a10 => ?_, fun a10 => ⟨?_, ⟨?_, fun a11 => ⟨fun a12 => ?_, fun a12 => ⟨fun a13 => ?_, fun a13 => ⟨?_, fun a14 => ⟨fun a15 => ⟨fun a16 => ?_, fun a16 => ⟨?_, fun a17 => ⟨fun a18 => ?_, fun a18 => ⟨fun a19 => ?_, fun a19 => rfl⟩⟩⟩⟩, fun a15 => ⟨fun a16 => ?_, fun a16 => ⟨?_, fun a17 => ⟨fun a18 => ?_, fun a18 => ⟨fun a19 => ?_, fun a19 => rfl⟩⟩⟩⟩⟩⟩⟩⟩⟩⟩⟩, fun a9 => ⟨fun a10 => ?_, fun a10 => ⟨?_, ⟨?_, fun a11 => ⟨fun a12 => ?_, fun a12 => ⟨fun a13 => ?_, fun a13 => ⟨?_, fun a14 => ⟨fun a15 => ⟨fun a16 => ?_, fun a16 => ⟨?_, fun a17 => ⟨fun a18 => ?_, fun a18 => ⟨fun a19 => ?_, fun a19 => rfl⟩⟩⟩⟩, fun a15 => ⟨fun a16 => ?_, fun a16 => ⟨?_, fun a17 => ⟨fun a18 => ?_, fun a18 => ⟨fun a19 => ?_, fun a19 => rfl⟩⟩⟩⟩⟩⟩⟩⟩⟩⟩⟩⟩⟩⟩⟩⟩⟩, fun a5 => ⟨fun a6 => ?_, fun a6 => ⟨?_, ⟨fun a7 => ?_, fun a7 => ⟨?_, ⟨fun a8 => ⟨fun a9 => ⟨fun a10 => ?_, fun a10 => ⟨?_, ⟨?_, fun a11 => ⟨fun a12 => ?_, fun a12 => ⟨fun a13 => ?_, fun a13 => ⟨?_, fun a14 => ⟨fun a15 => ⟨fun a16 => ?_, fun a16 => ⟨?_, fun a17 => ⟨fun a18 => ?_, fun a18 => ⟨fun a19 => ?_, fun a19 => rfl⟩⟩⟩⟩, fun a15 => ⟨fun a16 => ?_, fun a16 => ⟨?_, fun a17 => ⟨fun a18 => ?_, fun a18 => ⟨fun a19 => ?_, fun a19 => rfl⟩⟩⟩⟩⟩⟩⟩⟩⟩⟩⟩, fun a9 => ⟨fun a10 => ?_, fun a10 => ⟨?_, ⟨?_, fun a11 => ⟨fun a12 => ?_, fun a12 => ⟨fun a13 => ?_, fun a13 => ⟨?_, fun a14 => ⟨fun a15 => ⟨fun a16 => ?_, fun a16 => ⟨?_, fun a17 => ⟨fun a18 => ?_, fun a18 => ⟨fun a19 => ?_, fun a19 => rfl⟩⟩⟩⟩, fun a15 => ⟨fun a16 => ?_, fun a16 => ⟨?_, fun a17 => ⟨fun a18 => ?_, fun a18 => ⟨fun a19 => ?_, fun a19 => rfl⟩⟩⟩⟩⟩⟩⟩⟩⟩⟩⟩⟩, fun a8 => ⟨fun a9 => ⟨fun a10 => ?_, fun a10 => ⟨?_, ⟨?_, fun a11 => ⟨fun a12 => ?_, fun a12 => ⟨fun a13 => ?_, fun a13 => ⟨?_, fun a14 => ⟨fun a15 => ⟨fun a16 => ?_, fun a16 => ⟨?_, fun a17 => ⟨fun a18 => ?_, fun a18 => ⟨fun a19 => ?_, fun a19 => rfl⟩⟩⟩⟩, fun a15 => ⟨fun a16 => ?_, fun a16 => ⟨?_, fun a17 => ⟨fun a18 => ?_, fun a18 => ⟨fun a19 => ?_, fun a19 => rfl⟩⟩⟩⟩⟩⟩⟩⟩⟩⟩⟩, fun a9 => ⟨fun a10 => ?_, fun a10 => ⟨?_, ⟨?_, fun a11 => ⟨fun a12 => ?_, fun a12 => ⟨fun a13 => ?_, fun a13 => ⟨?_, fun a14 => ⟨fun a15 => ⟨fun a16 => ?_, fun a16 => ⟨?_, fun a17 => ⟨fun a18 => ?_, fun a18 => ⟨fun a19 => ?_, fun a19 => rfl⟩⟩⟩⟩, fun a15 => ⟨fun a16 => ?_, fun a16 => ⟨?_, fun a17 => ⟨fun a18 => ?_, fun a18 => ⟨fun a19 => ?_, fun a19 => rfl⟩⟩⟩⟩⟩⟩⟩⟩⟩⟩⟩⟩⟩⟩⟩⟩⟩⟩⟩⟩⟩⟩
  all_goals try and_intros
  all_goals first | rfl | trivial | omega | (simp only [decide_eq_true_eq, decide_eq_false_iff_not, idxOk, inI64, inKind, cutOk, makeOk, roomOk] at *; omega) | (simp [idxOk, inI64] at *; omega) | grind | (simp_all; done)

theorem good_laws_FnExactAtomsOf : Ctr.Good k_laws_FnExactAtomsOf := ok_laws_FnExactAtomsOf ⟨good_laws_szExpr, good_laws_toExpr, good_laws_toSig, good_spec_AtomsOf, good_laws_eqInt64S, good_laws_eqExpr, good_laws_heldInt64S, trivial⟩ ⟨ogood_laws_toExpr, ogood_impl_AtomsOf, trivial⟩ ⟨mgood_laws_markExpr, mgood_laws_markInt64S, trivial⟩

theorem law_FnExactAtomsOf : ∀ tvs : List TV, tvs.map TV.τ = [(.st .sig), (.st .expr)] → OkCall prog n_laws_FnExactAtomsOf (tvs.map .val) (· = [⟨.bool, true⟩]) := by
  intro tvs h
  match tvs, h with
  | [⟨t0, a0⟩, ⟨t1, a1⟩], h =>
    simp only [List.map_cons, List.map_nil, List.cons.injEq, and_true] at h
    obtain ⟨rfl, rfl⟩ := h
    exact good_laws_FnExactAtomsOf.2 a0 a1 trivial

end
end Go.Proofs.Ytiikoicminohpaa

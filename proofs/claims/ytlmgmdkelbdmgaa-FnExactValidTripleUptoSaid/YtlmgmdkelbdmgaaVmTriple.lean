/- The law FnExactValidTriple. Printed by vmk.py. -/
import Derived.Test.YtlmgmdkelbdmgaaVmUse
import Derived.Test.YtlmgmdkelbdmgaaVmLib
import Derived.Test.YtlmgmdkelbdmgaaVmSz
import Derived.Test.YtlmgmdkelbdmgaaVmTo
import Derived.Test.YtlmgmdkelbdmgaaVmEq
import Derived.Test.YtlmgmdkelbdmgaaVmProg
set_option linter.unusedVariables false
set_option linter.unusedSimpArgs false
set_option linter.unusedSectionVars false
namespace Go.Proofs.Ytlmgmdkelbdmgaa
noncomputable section

def okT (gg : GSig) (t : GTriple) : Bool := okP gg t.prog && isC gg t.pre && isC gg t.post
theorem okT_eq (gg : GSig) (t : GTriple) : okT gg t = (okC gg t.pre && okC gg t.post && okP gg t.prog) := by
  simp only [okT, okC_eqP, okP]
  cases sigOk gg <;> cases isP gg t.prog <;> cases isC gg t.pre <;> cases isC gg t.post <;> rfl

def k_impl_ValidTriple : Ctr := ⟨n_impl_ValidTriple, [.v (.st .sig), .v (.st .triple)], fun (gg : GSig) (x : GTriple) => ⟨(none, [⟨.bool, okT gg x⟩])⟩⟩
def l_impl_ValidTriple (gg : GSig) (x : GTriple) : Nat → LoopInv := fun _ => .none
theorem vc_impl_ValidTriple (gg : GSig) (x : GTriple) : awp (envOf [k_impl_ValidProg, k_impl_isCondition]) (bodyOf f_impl_ValidTriple) (l_impl_ValidTriple gg x) 0 (funPost (envOf [k_impl_ValidProg, k_impl_isCondition]) f_impl_ValidTriple fun r => areEq r [⟨.bool, okT gg x⟩]) (startState f_impl_ValidTriple [.val ⟨(.st .sig), gg⟩, .val ⟨(.st .triple), x⟩]) =
  ((((okP gg x.prog) = true →
   (((isC gg x.pre) = true →
     (isC gg x.post) = (okT gg x)) ∧ ((isC gg x.pre) = (!true) →
     false = (okT gg x)))) ∧ ((okP gg x.prog) = (!true) →
   ((false = true →
     (isC gg x.post) = (okT gg x)) ∧ (false = (!true) →
     false = (okT gg x)))))) := by
  refine Eq.trans (b := (((((okP gg (GProg.mk x.prog.kind x.prog.num (GExpr.mk x.prog.cond.kind x.prog.cond.num x.prog.cond.kids) x.prog.kids)) = true →
   (((isC gg (GExpr.mk x.pre.kind x.pre.num x.pre.kids)) = true →
     (isC gg (GExpr.mk x.post.kind x.post.num x.post.kids)) = (okT gg x)) ∧ ((isC gg (GExpr.mk x.pre.kind x.pre.num x.pre.kids)) = (!true) →
     false = (okT gg x)))) ∧ ((okP gg (GProg.mk x.prog.kind x.prog.num (GExpr.mk x.prog.cond.kind x.prog.cond.num x.prog.cond.kids) x.prog.kids)) = (!true) →
   ((false = true →
     (isC gg (GExpr.mk x.post.kind x.post.num x.post.kids)) = (okT gg x)) ∧ (false = (!true) →
     false = (okT gg x)))))))) (by kernel_rfl) ?_
  simp only [GExpr.eta, GProg.eta, GDerivation.eta, GTriple.eta, GPremise.eta, GClaim.eta, GEquation.eta, GPair.eta, GSpot.eta]
set_option maxRecDepth 4000 in
set_option maxHeartbeats 1000000 in
theorem ok_impl_ValidTriple (hE : AllGood [k_impl_ValidProg, k_impl_isCondition]) : Ctr.Good k_impl_ValidTriple := by
  refine ⟨fnOk_of at_impl_ValidTriple rfl (by decide), ?_⟩
  show ∀ (gg : GSig) (x : GTriple), True → OkCall prog n_impl_ValidTriple [.val ⟨(.st .sig), gg⟩, .val ⟨(.st .triple), x⟩] (· = [⟨.bool, okT gg x⟩])
  intro gg x _
  refine ok_of_awp (wr := []) hE at_impl_ValidTriple body_impl_ValidTriple (l_impl_ValidTriple gg x) ?_
  rewrite [vc_impl_ValidTriple gg x]
  refine ⟨fun a0 => ⟨fun a1 => ?_, fun a1 => ?_⟩, fun a0 => ⟨fun a1 => ?_, fun a1 => ?_⟩⟩
  all_goals try and_intros
  all_goals first | rfl | trivial | grind [okT]

theorem good_impl_ValidTriple : Ctr.Good k_impl_ValidTriple := ok_impl_ValidTriple ⟨good_impl_ValidProg, good_impl_isCondition, trivial⟩

def k_spec_l07Triple : Ctr := ⟨n_spec_l07Triple, [.v (.st .sig), .r (.st .triple)], fun (gg : GSig) (x : GTriple) => ⟨(none, [⟨.bool, okT gg x⟩])⟩⟩
def l_spec_l07Triple (gg : GSig) (x : GTriple) : Nat → LoopInv := fun _ => .none
theorem vc_spec_l07Triple (gg : GSig) (x : GTriple) : awp (envOf [k_spec_l06Cond, k_spec_l06Ok]) (bodyOf f_spec_l07Triple) (l_spec_l07Triple gg x) 0 (funPost (envOf [k_spec_l06Cond, k_spec_l06Ok]) f_spec_l07Triple fun r => areEq r [⟨.bool, okT gg x⟩]) (startState f_spec_l07Triple [.val ⟨(.st .sig), gg⟩, .ref ⟨(.st .triple), x⟩]) =
  ((((okC gg x.pre) = true →
   (((okC gg x.post) = true →
     (okP gg x.prog) = (okT gg x)) ∧ ((okC gg x.post) = (!true) →
     false = (okT gg x)))) ∧ ((okC gg x.pre) = (!true) →
   ((false = true →
     (okP gg x.prog) = (okT gg x)) ∧ (false = (!true) →
     false = (okT gg x)))))) := by kernel_rfl
set_option maxRecDepth 4000 in
set_option maxHeartbeats 1000000 in
theorem ok_spec_l07Triple (hE : AllGood [k_spec_l06Cond, k_spec_l06Ok]) : Ctr.Good k_spec_l07Triple := by
  refine ⟨fnOk_of at_spec_l07Triple rfl (by decide), ?_⟩
  show ∀ (gg : GSig) (x : GTriple), True → OkCall prog n_spec_l07Triple [.val ⟨(.st .sig), gg⟩, .ref ⟨(.st .triple), x⟩] (· = [⟨.bool, okT gg x⟩])
  intro gg x _
  refine ok_of_awp (wr := []) hE at_spec_l07Triple body_spec_l07Triple (l_spec_l07Triple gg x) ?_
  rewrite [vc_spec_l07Triple gg x]
  rw [okT_eq]
  refine ⟨fun a0 => ⟨fun a1 => ?_, fun a1 => ?_⟩, fun a0 => ⟨fun a1 => ?_, fun a1 => ?_⟩⟩
  all_goals try and_intros
  all_goals first | rfl | trivial | grind

theorem good_spec_l07Triple : Ctr.Good k_spec_l07Triple := ok_spec_l07Triple ⟨good_spec_l06Cond, good_spec_l06Ok, trivial⟩

def k_spec_ValidTriple : Ctr := ⟨n_spec_ValidTriple, [.v (.st .sig), .v (.st .triple)], fun (gg : GSig) (x : GTriple) => ⟨(none, [⟨.bool, okT gg x⟩])⟩⟩
def l_spec_ValidTriple (gg : GSig) (x : GTriple) : Nat → LoopInv := fun _ => .none
theorem vc_spec_ValidTriple (gg : GSig) (x : GTriple) : awp (envOf [k_spec_l07Triple]) (bodyOf f_spec_ValidTriple) (l_spec_ValidTriple gg x) 0 (funPost (envOf [k_spec_l07Triple]) f_spec_ValidTriple fun r => areEq r [⟨.bool, okT gg x⟩]) (startState f_spec_ValidTriple [.val ⟨(.st .sig), gg⟩, .val ⟨(.st .triple), x⟩]) =
  ((okT gg x) = (okT gg x)) := by
  refine Eq.trans (b := (((okT gg (GTriple.mk (GExpr.mk x.pre.kind x.pre.num x.pre.kids) (GProg.mk x.prog.kind x.prog.num (GExpr.mk x.prog.cond.kind x.prog.cond.num x.prog.cond.kids) x.prog.kids) (GExpr.mk x.post.kind x.post.num x.post.kids))) = (okT gg x)))) (by kernel_rfl) ?_
  simp only [GExpr.eta, GProg.eta, GDerivation.eta, GTriple.eta, GPremise.eta, GClaim.eta, GEquation.eta, GPair.eta, GSpot.eta]
set_option maxRecDepth 4000 in
set_option maxHeartbeats 1000000 in
theorem ok_spec_ValidTriple (hE : AllGood [k_spec_l07Triple]) : Ctr.Good k_spec_ValidTriple := by
  refine ⟨fnOk_of at_spec_ValidTriple rfl (by decide), ?_⟩
  show ∀ (gg : GSig) (x : GTriple), True → OkCall prog n_spec_ValidTriple [.val ⟨(.st .sig), gg⟩, .val ⟨(.st .triple), x⟩] (· = [⟨.bool, okT gg x⟩])
  intro gg x _
  refine ok_of_awp (wr := []) hE at_spec_ValidTriple body_spec_ValidTriple (l_spec_ValidTriple gg x) ?_
  rewrite [vc_spec_ValidTriple gg x]
  refine rfl
  all_goals try and_intros
  all_goals first | rfl | trivial | omega | (simp only [decide_eq_true_eq, decide_eq_false_iff_not, idxOk, inI64, inKind, cutOk, makeOk, roomOk] at *; omega) | (simp [idxOk, inI64] at *; omega) | grind

theorem good_spec_ValidTriple : Ctr.Good k_spec_ValidTriple := ok_spec_ValidTriple ⟨good_spec_l07Triple, trivial⟩

def k_laws_FnExactValidTriple : Ctr := ⟨n_laws_FnExactValidTriple, [.v (.st .sig), .v (.st .triple)], fun (gg : GSig) (x : GTriple) => ⟨(none, [⟨.bool, true⟩])⟩⟩
def l_laws_FnExactValidTriple (gg : GSig) (x : GTriple) : Nat → LoopInv := fun _ => .none
theorem vc_laws_FnExactValidTriple (gg : GSig) (x : GTriple) : awp (envOf [k_laws_szTriple, k_laws_toTriple, k_laws_toSig, k_spec_ValidTriple, k_impl_ValidTriple, k_laws_eqTriple]) (bodyOf f_laws_FnExactValidTriple) (l_laws_FnExactValidTriple gg x) 0 (funPost (envOf [k_laws_szTriple, k_laws_toTriple, k_laws_toSig, k_spec_ValidTriple, k_impl_ValidTriple, k_laws_eqTriple]) f_laws_FnExactValidTriple fun r => areEq r [⟨.bool, true⟩]) (startState f_laws_FnExactValidTriple [.val ⟨(.st .sig), gg⟩, .val ⟨(.st .triple), x⟩]) =
  (((0 ≤ (1048576 : Int) ∧ (1048576 : Int) ≤ 1048576) ∧ (inI64 (szR (sz_triple x) (1048576 : Int)) →
   (((decide ((szR (sz_triple x) (1048576 : Int)) < (0 : Int))) = true →
     true = true) ∧ ((decide ((szR (sz_triple x) (1048576 : Int)) < (0 : Int))) = false →
     (sz_triple x ≤ 1048576 ∧ (sz_triple x ≤ 1048576 ∧ (((!((okT gg x) == (okT gg x))) = true →
       false = true) ∧ ((!((okT gg x) == (okT gg x))) = false →
       (sz_triple x ≤ 1048576 ∧ (((!(eqB x x)) = true →
         false = true) ∧ ((!(eqB x x)) = false →
         true = true)))))))))))) := by
  refine Eq.trans (b := ((((0 ≤ (1048576 : Int) ∧ (1048576 : Int) ≤ 1048576) ∧ (inI64 (szR (sz_triple (GTriple.mk (GExpr.mk x.pre.kind x.pre.num x.pre.kids) (GProg.mk x.prog.kind x.prog.num (GExpr.mk x.prog.cond.kind x.prog.cond.num x.prog.cond.kids) x.prog.kids) (GExpr.mk x.post.kind x.post.num x.post.kids))) (1048576 : Int)) →
   (((decide ((szR (sz_triple (GTriple.mk (GExpr.mk x.pre.kind x.pre.num x.pre.kids) (GProg.mk x.prog.kind x.prog.num (GExpr.mk x.prog.cond.kind x.prog.cond.num x.prog.cond.kids) x.prog.kids) (GExpr.mk x.post.kind x.post.num x.post.kids))) (1048576 : Int)) < (0 : Int))) = true →
     true = true) ∧ ((decide ((szR (sz_triple (GTriple.mk (GExpr.mk x.pre.kind x.pre.num x.pre.kids) (GProg.mk x.prog.kind x.prog.num (GExpr.mk x.prog.cond.kind x.prog.cond.num x.prog.cond.kids) x.prog.kids) (GExpr.mk x.post.kind x.post.num x.post.kids))) (1048576 : Int)) < (0 : Int))) = false →
     (sz_triple (GTriple.mk (GExpr.mk x.pre.kind x.pre.num x.pre.kids) (GProg.mk x.prog.kind x.prog.num (GExpr.mk x.prog.cond.kind x.prog.cond.num x.prog.cond.kids) x.prog.kids) (GExpr.mk x.post.kind x.post.num x.post.kids)) ≤ 1048576 ∧ (sz_triple (GTriple.mk (GExpr.mk x.pre.kind x.pre.num x.pre.kids) (GProg.mk x.prog.kind x.prog.num (GExpr.mk x.prog.cond.kind x.prog.cond.num x.prog.cond.kids) x.prog.kids) (GExpr.mk x.post.kind x.post.num x.post.kids)) ≤ 1048576 ∧ (((!((okT gg (GTriple.mk (GExpr.mk x.pre.kind x.pre.num x.pre.kids) (GProg.mk x.prog.kind x.prog.num (GExpr.mk x.prog.cond.kind x.prog.cond.num x.prog.cond.kids) x.prog.kids) (GExpr.mk x.post.kind x.post.num x.post.kids))) == (okT gg (GTriple.mk (GExpr.mk x.pre.kind x.pre.num x.pre.kids) (GProg.mk x.prog.kind x.prog.num (GExpr.mk x.prog.cond.kind x.prog.cond.num x.prog.cond.kids) x.prog.kids) (GExpr.mk x.post.kind x.post.num x.post.kids))))) = true →
       false = true) ∧ ((!((okT gg (GTriple.mk (GExpr.mk x.pre.kind x.pre.num x.pre.kids) (GProg.mk x.prog.kind x.prog.num (GExpr.mk x.prog.cond.kind x.prog.cond.num x.prog.cond.kids) x.prog.kids) (GExpr.mk x.post.kind x.post.num x.post.kids))) == (okT gg (GTriple.mk (GExpr.mk x.pre.kind x.pre.num x.pre.kids) (GProg.mk x.prog.kind x.prog.num (GExpr.mk x.prog.cond.kind x.prog.cond.num x.prog.cond.kids) x.prog.kids) (GExpr.mk x.post.kind x.post.num x.post.kids))))) = false →
       (sz_triple (GTriple.mk (GExpr.mk x.pre.kind x.pre.num x.pre.kids) (GProg.mk x.prog.kind x.prog.num (GExpr.mk x.prog.cond.kind x.prog.cond.num x.prog.cond.kids) x.prog.kids) (GExpr.mk x.post.kind x.post.num x.post.kids)) ≤ 1048576 ∧ (((!(eqB (GTriple.mk (GExpr.mk x.pre.kind x.pre.num x.pre.kids) (GProg.mk x.prog.kind x.prog.num (GExpr.mk x.prog.cond.kind x.prog.cond.num x.prog.cond.kids) x.prog.kids) (GExpr.mk x.post.kind x.post.num x.post.kids)) (GTriple.mk (GExpr.mk x.pre.kind x.pre.num x.pre.kids) (GProg.mk x.prog.kind x.prog.num (GExpr.mk x.prog.cond.kind x.prog.cond.num x.prog.cond.kids) x.prog.kids) (GExpr.mk x.post.kind x.post.num x.post.kids)))) = true →
         false = true) ∧ ((!(eqB (GTriple.mk (GExpr.mk x.pre.kind x.pre.num x.pre.kids) (GProg.mk x.prog.kind x.prog.num (GExpr.mk x.prog.cond.kind x.prog.cond.num x.prog.cond.kids) x.prog.kids) (GExpr.mk x.post.kind x.post.num x.post.kids)) (GTriple.mk (GExpr.mk x.pre.kind x.pre.num x.pre.kids) (GProg.mk x.prog.kind x.prog.num (GExpr.mk x.prog.cond.kind x.prog.cond.num x.prog.cond.kids) x.prog.kids) (GExpr.mk x.post.kind x.post.num x.post.kids)))) = false →
         true = true)))))))))))))) (by kernel_rfl) ?_
  simp only [GExpr.eta, GProg.eta, GDerivation.eta, GTriple.eta, GPremise.eta, GClaim.eta, GEquation.eta, GPair.eta, GSpot.eta]
set_option maxRecDepth 4000 in
set_option maxHeartbeats 1000000 in
theorem ok_laws_FnExactValidTriple (hE : AllGood [k_laws_szTriple, k_laws_toTriple, k_laws_toSig, k_spec_ValidTriple, k_impl_ValidTriple, k_laws_eqTriple]) : Ctr.Good k_laws_FnExactValidTriple := by
  refine ⟨fnOk_of at_laws_FnExactValidTriple rfl (by decide), ?_⟩
  show ∀ (gg : GSig) (x : GTriple), True → OkCall prog n_laws_FnExactValidTriple [.val ⟨(.st .sig), gg⟩, .val ⟨(.st .triple), x⟩] (· = [⟨.bool, true⟩])
  intro gg x _
  refine ok_of_awp (wr := []) hE at_laws_FnExactValidTriple body_laws_FnExactValidTriple (l_laws_FnExactValidTriple gg x) ?_
  rewrite [vc_laws_FnExactValidTriple gg x]
  have f0 := szR_or (sz_triple x) 1048576
  refine ⟨?_, fun a0 => ⟨fun a1 => rfl, fun a1 => ⟨?_, ⟨?_, ⟨fun a2 => ?_, fun a2 => ⟨?_, ⟨fun a3 => ?_, fun a3 => rfl⟩⟩⟩⟩⟩⟩⟩
  all_goals try and_intros
  all_goals first | rfl | trivial | omega | (simp only [decide_eq_true_eq, decide_eq_false_iff_not, idxOk, inI64, inKind, cutOk, makeOk, roomOk] at *; omega) | (simp [idxOk, inI64] at *; omega) | grind | (simp_all; done)

theorem good_laws_FnExactValidTriple : Ctr.Good k_laws_FnExactValidTriple := ok_laws_FnExactValidTriple ⟨good_laws_szTriple, good_laws_toTriple, good_laws_toSig, good_spec_ValidTriple, good_impl_ValidTriple, good_laws_eqTriple, trivial⟩

theorem law_FnExactValidTriple : ∀ tvs : List TV, tvs.map TV.τ = [(.st .sig), (.st .triple)] → OkCall prog n_laws_FnExactValidTriple (tvs.map .val) (· = [⟨.bool, true⟩]) := by
  intro tvs h
  match tvs, h with
  | [⟨t0, a0⟩, ⟨t1, a1⟩], h =>
    simp only [List.map_cons, List.map_nil, List.cons.injEq, and_true] at h
    obtain ⟨rfl, rfl⟩ := h
    exact good_laws_FnExactValidTriple.2 a0 a1 trivial

end
end Go.Proofs.Ytlmgmdkelbdmgaa

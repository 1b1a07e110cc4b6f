/- The laws FnExactTripleUnder and FnExactHoldsTriple. Printed by vmk.py. -/
import Derived.Test.YtcdppmpjplhgkaaVmUse
import Derived.Test.YtcdppmpjplhgkaaVmLib
import Derived.Test.YtcdppmpjplhgkaaVmSz
import Derived.Test.YtcdppmpjplhgkaaVmTo
import Derived.Test.YtcdppmpjplhgkaaVmEq
import Derived.Test.YtcdppmpjplhgkaaVmUnder
set_option linter.unusedVariables false
set_option linter.unusedSimpArgs false
set_option linter.unusedSectionVars false
namespace Go.Proofs.Ytcdppmpjplhgkaa
noncomputable section

def k_laws_FnExactTripleUnder : Ctr := ⟨n_laws_FnExactTripleUnder, [.v (.st .sig), .v (.slice (.st .premise)), .v (.st .triple)], fun (gg : GSig) (xs : List GPremise) (t : GTriple) => ⟨(none, [⟨.bool, true⟩])⟩⟩
def l_laws_FnExactTripleUnder (gg : GSig) (xs : List GPremise) (t : GTriple) : Nat → LoopInv := fun _ => .none
theorem vc_laws_FnExactTripleUnder (gg : GSig) (xs : List GPremise) (t : GTriple) : awp (envOf [k_laws_szPremiseS, k_laws_szTriple, k_laws_toPremiseS, k_laws_toTriple, k_laws_toSig, k_spec_TripleUnder, k_impl_TripleUnder, k_laws_eqTriple, k_laws_eqPremiseS]) (bodyOf f_laws_FnExactTripleUnder) (l_laws_FnExactTripleUnder gg xs t) 0 (funPost (envOf [k_laws_szPremiseS, k_laws_szTriple, k_laws_toPremiseS, k_laws_toTriple, k_laws_toSig, k_spec_TripleUnder, k_impl_TripleUnder, k_laws_eqTriple, k_laws_eqPremiseS]) f_laws_FnExactTripleUnder fun r => areEq r [⟨.bool, true⟩]) (startState f_laws_FnExactTripleUnder [.val ⟨(.st .sig), gg⟩, .val ⟨(.slice (.st .premise)), xs⟩, .val ⟨(.st .triple), t⟩]) =
  (((0 ≤ (1048576 : Int) ∧ (1048576 : Int) ≤ 1048576) ∧ (inI64 (szR (xs.length + szL sz_premise xs) (1048576 : Int)) →
  (((decide ((szR (xs.length + szL sz_premise xs) (1048576 : Int)) < (0 : Int))) = true →
  true = true) ∧ ((decide ((szR (xs.length + szL sz_premise xs) (1048576 : Int)) < (0 : Int))) = false →
  ((0 ≤ (szR (xs.length + szL sz_premise xs) (1048576 : Int)) ∧ (szR (xs.length + szL sz_premise xs) (1048576 : Int)) ≤ 1048576) ∧ (inI64 (szR (sz_triple t) (szR (xs.length + szL sz_premise xs) (1048576 : Int))) →
  (((decide ((szR (sz_triple t) (szR (xs.length + szL sz_premise xs) (1048576 : Int))) < (0 : Int))) = true →
  true = true) ∧ ((decide ((szR (sz_triple t) (szR (xs.length + szL sz_premise xs) (1048576 : Int))) < (0 : Int))) = false →
  (xs.length + szL sz_premise xs ≤ 1048576 ∧ (sz_triple t ≤ 1048576 ∧ (xs.length ≤ 140737488355328 →
  (inI64 (tuC gg xs t) →
  (xs.length + szL sz_premise xs ≤ 1048576 ∧ (xs.length ≤ 140737488355328 →
  (sz_triple t ≤ 1048576 ∧ (inI64 (tuC gg xs t) →
  (((!((tuV gg xs t) == (tuV gg xs t))) = false →
  (((!(decide ((tuC gg xs t) = (tuC gg xs t)))) = true →
  false = true) ∧ ((!(decide ((tuC gg xs t) = (tuC gg xs t)))) = false →
  (xs.length + szL sz_premise xs ≤ 1048576 ∧ (xs.length ≤ 140737488355328 →
  (((!(eqB xs xs)) = true →
  false = true) ∧ ((!(eqB xs xs)) = false →
  (sz_triple t ≤ 1048576 ∧ (((!(eqB t t)) = true →
  false = true) ∧ ((!(eqB t t)) = false →
  true = true)))))))))) ∧ ((!((tuV gg xs t) == (tuV gg xs t))) = (!false) →
  ((true = true →
  false = true) ∧ (true = false →
  (xs.length + szL sz_premise xs ≤ 1048576 ∧ (xs.length ≤ 140737488355328 →
  (((!(eqB xs xs)) = true →
  false = true) ∧ ((!(eqB xs xs)) = false →
  (sz_triple t ≤ 1048576 ∧ (((!(eqB t t)) = true →
  false = true) ∧ ((!(eqB t t)) = false →
  true = true)))))))))))))))))))))))))))) := by
  refine Eq.trans (b := ((((0 ≤ (1048576 : Int) ∧ (1048576 : Int) ≤ 1048576) ∧ (inI64 (szR (xs.length + szL sz_premise xs) (1048576 : Int)) →
  (((decide ((szR (xs.length + szL sz_premise xs) (1048576 : Int)) < (0 : Int))) = true →
  true = true) ∧ ((decide ((szR (xs.length + szL sz_premise xs) (1048576 : Int)) < (0 : Int))) = false →
  ((0 ≤ (szR (xs.length + szL sz_premise xs) (1048576 : Int)) ∧ (szR (xs.length + szL sz_premise xs) (1048576 : Int)) ≤ 1048576) ∧ (inI64 (szR (sz_triple (GTriple.mk (GExpr.mk t.pre.kind t.pre.num t.pre.kids) (GProg.mk t.prog.kind t.prog.num (GExpr.mk t.prog.cond.kind t.prog.cond.num t.prog.cond.kids) t.prog.kids) (GExpr.mk t.post.kind t.post.num t.post.kids))) (szR (xs.length + szL sz_premise xs) (1048576 : Int))) →
  (((decide ((szR (sz_triple (GTriple.mk (GExpr.mk t.pre.kind t.pre.num t.pre.kids) (GProg.mk t.prog.kind t.prog.num (GExpr.mk t.prog.cond.kind t.prog.cond.num t.prog.cond.kids) t.prog.kids) (GExpr.mk t.post.kind t.post.num t.post.kids))) (szR (xs.length + szL sz_premise xs) (1048576 : Int))) < (0 : Int))) = true →
  true = true) ∧ ((decide ((szR (sz_triple (GTriple.mk (GExpr.mk t.pre.kind t.pre.num t.pre.kids) (GProg.mk t.prog.kind t.prog.num (GExpr.mk t.prog.cond.kind t.prog.cond.num t.prog.cond.kids) t.prog.kids) (GExpr.mk t.post.kind t.post.num t.post.kids))) (szR (xs.length + szL sz_premise xs) (1048576 : Int))) < (0 : Int))) = false →
  (xs.length + szL sz_premise xs ≤ 1048576 ∧ (sz_triple (GTriple.mk (GExpr.mk t.pre.kind t.pre.num t.pre.kids) (GProg.mk t.prog.kind t.prog.num (GExpr.mk t.prog.cond.kind t.prog.cond.num t.prog.cond.kids) t.prog.kids) (GExpr.mk t.post.kind t.post.num t.post.kids)) ≤ 1048576 ∧ (xs.length ≤ 140737488355328 →
  (inI64 (tuC gg xs (GTriple.mk (GExpr.mk t.pre.kind t.pre.num t.pre.kids) (GProg.mk t.prog.kind t.prog.num (GExpr.mk t.prog.cond.kind t.prog.cond.num t.prog.cond.kids) t.prog.kids) (GExpr.mk t.post.kind t.post.num t.post.kids))) →
  (xs.length + szL sz_premise xs ≤ 1048576 ∧ (xs.length ≤ 140737488355328 →
  (sz_triple (GTriple.mk (GExpr.mk t.pre.kind t.pre.num t.pre.kids) (GProg.mk t.prog.kind t.prog.num (GExpr.mk t.prog.cond.kind t.prog.cond.num t.prog.cond.kids) t.prog.kids) (GExpr.mk t.post.kind t.post.num t.post.kids)) ≤ 1048576 ∧ (inI64 (tuC gg xs (GTriple.mk (GExpr.mk t.pre.kind t.pre.num t.pre.kids) (GProg.mk t.prog.kind t.prog.num (GExpr.mk t.prog.cond.kind t.prog.cond.num t.prog.cond.kids) t.prog.kids) (GExpr.mk t.post.kind t.post.num t.post.kids))) →
  (((!((tuV gg xs (GTriple.mk (GExpr.mk t.pre.kind t.pre.num t.pre.kids) (GProg.mk t.prog.kind t.prog.num (GExpr.mk t.prog.cond.kind t.prog.cond.num t.prog.cond.kids) t.prog.kids) (GExpr.mk t.post.kind t.post.num t.post.kids))) == (tuV gg xs (GTriple.mk (GExpr.mk t.pre.kind t.pre.num t.pre.kids) (GProg.mk t.prog.kind t.prog.num (GExpr.mk t.prog.cond.kind t.prog.cond.num t.prog.cond.kids) t.prog.kids) (GExpr.mk t.post.kind t.post.num t.post.kids))))) = false →
  (((!(decide ((tuC gg xs (GTriple.mk (GExpr.mk t.pre.kind t.pre.num t.pre.kids) (GProg.mk t.prog.kind t.prog.num (GExpr.mk t.prog.cond.kind t.prog.cond.num t.prog.cond.kids) t.prog.kids) (GExpr.mk t.post.kind t.post.num t.post.kids))) = (tuC gg xs (GTriple.mk (GExpr.mk t.pre.kind t.pre.num t.pre.kids) (GProg.mk t.prog.kind t.prog.num (GExpr.mk t.prog.cond.kind t.prog.cond.num t.prog.cond.kids) t.prog.kids) (GExpr.mk t.post.kind t.post.num t.post.kids)))))) = true →
  false = true) ∧ ((!(decide ((tuC gg xs (GTriple.mk (GExpr.mk t.pre.kind t.pre.num t.pre.kids) (GProg.mk t.prog.kind t.prog.num (GExpr.mk t.prog.cond.kind t.prog.cond.num t.prog.cond.kids) t.prog.kids) (GExpr.mk t.post.kind t.post.num t.post.kids))) = (tuC gg xs (GTriple.mk (GExpr.mk t.pre.kind t.pre.num t.pre.kids) (GProg.mk t.prog.kind t.prog.num (GExpr.mk t.prog.cond.kind t.prog.cond.num t.prog.cond.kids) t.prog.kids) (GExpr.mk t.post.kind t.post.num t.post.kids)))))) = false →
  (xs.length + szL sz_premise xs ≤ 1048576 ∧ (xs.length ≤ 140737488355328 →
  (((!(eqB xs xs)) = true →
  false = true) ∧ ((!(eqB xs xs)) = false →
  (sz_triple (GTriple.mk (GExpr.mk t.pre.kind t.pre.num t.pre.kids) (GProg.mk t.prog.kind t.prog.num (GExpr.mk t.prog.cond.kind t.prog.cond.num t.prog.cond.kids) t.prog.kids) (GExpr.mk t.post.kind t.post.num t.post.kids)) ≤ 1048576 ∧ (((!(eqB (GTriple.mk (GExpr.mk t.pre.kind t.pre.num t.pre.kids) (GProg.mk t.prog.kind t.prog.num (GExpr.mk t.prog.cond.kind t.prog.cond.num t.prog.cond.kids) t.prog.kids) (GExpr.mk t.post.kind t.post.num t.post.kids)) (GTriple.mk (GExpr.mk t.pre.kind t.pre.num t.pre.kids) (GProg.mk t.prog.kind t.prog.num (GExpr.mk t.prog.cond.kind t.prog.cond.num t.prog.cond.kids) t.prog.kids) (GExpr.mk t.post.kind t.post.num t.post.kids)))) = true →
  false = true) ∧ ((!(eqB (GTriple.mk (GExpr.mk t.pre.kind t.pre.num t.pre.kids) (GProg.mk t.prog.kind t.prog.num (GExpr.mk t.prog.cond.kind t.prog.cond.num t.prog.cond.kids) t.prog.kids) (GExpr.mk t.post.kind t.post.num t.post.kids)) (GTriple.mk (GExpr.mk t.pre.kind t.pre.num t.pre.kids) (GProg.mk t.prog.kind t.prog.num (GExpr.mk t.prog.cond.kind t.prog.cond.num t.prog.cond.kids) t.prog.kids) (GExpr.mk t.post.kind t.post.num t.post.kids)))) = false →
  true = true)))))))))) ∧ ((!((tuV gg xs (GTriple.mk (GExpr.mk t.pre.kind t.pre.num t.pre.kids) (GProg.mk t.prog.kind t.prog.num (GExpr.mk t.prog.cond.kind t.prog.cond.num t.prog.cond.kids) t.prog.kids) (GExpr.mk t.post.kind t.post.num t.post.kids))) == (tuV gg xs (GTriple.mk (GExpr.mk t.pre.kind t.pre.num t.pre.kids) (GProg.mk t.prog.kind t.prog.num (GExpr.mk t.prog.cond.kind t.prog.cond.num t.prog.cond.kids) t.prog.kids) (GExpr.mk t.post.kind t.post.num t.post.kids))))) = (!false) →
  ((true = true →
  false = true) ∧ (true = false →
  (xs.length + szL sz_premise xs ≤ 1048576 ∧ (xs.length ≤ 140737488355328 →
  (((!(eqB xs xs)) = true →
  false = true) ∧ ((!(eqB xs xs)) = false →
  (sz_triple (GTriple.mk (GExpr.mk t.pre.kind t.pre.num t.pre.kids) (GProg.mk t.prog.kind t.prog.num (GExpr.mk t.prog.cond.kind t.prog.cond.num t.prog.cond.kids) t.prog.kids) (GExpr.mk t.post.kind t.post.num t.post.kids)) ≤ 1048576 ∧ (((!(eqB (GTriple.mk (GExpr.mk t.pre.kind t.pre.num t.pre.kids) (GProg.mk t.prog.kind t.prog.num (GExpr.mk t.prog.cond.kind t.prog.cond.num t.prog.cond.kids) t.prog.kids) (GExpr.mk t.post.kind t.post.num t.post.kids)) (GTriple.mk (GExpr.mk t.pre.kind t.pre.num t.pre.kids) (GProg.mk t.prog.kind t.prog.num (GExpr.mk t.prog.cond.kind t.prog.cond.num t.prog.cond.kids) t.prog.kids) (GExpr.mk t.post.kind t.post.num t.post.kids)))) = true →
  false = true) ∧ ((!(eqB (GTriple.mk (GExpr.mk t.pre.kind t.pre.num t.pre.kids) (GProg.mk t.prog.kind t.prog.num (GExpr.mk t.prog.cond.kind t.prog.cond.num t.prog.cond.kids) t.prog.kids) (GExpr.mk t.post.kind t.post.num t.post.kids)) (GTriple.mk (GExpr.mk t.pre.kind t.pre.num t.pre.kids) (GProg.mk t.prog.kind t.prog.num (GExpr.mk t.prog.cond.kind t.prog.cond.num t.prog.cond.kids) t.prog.kids) (GExpr.mk t.post.kind t.post.num t.post.kids)))) = false →
  true = true)))))))))))))))))))))))))))))) (by kernel_rfl) ?_
  simp only [GExpr.eta, GProg.eta, GDerivation.eta, GTriple.eta, GPremise.eta, GClaim.eta, GEquation.eta, GPair.eta, GSpot.eta]
set_option maxRecDepth 4000 in
set_option maxHeartbeats 1000000 in
theorem ok_laws_FnExactTripleUnder (hE : AllGood [k_laws_szPremiseS, k_laws_szTriple, k_laws_toPremiseS, k_laws_toTriple, k_laws_toSig, k_spec_TripleUnder, k_impl_TripleUnder, k_laws_eqTriple, k_laws_eqPremiseS]) : Ctr.Good k_laws_FnExactTripleUnder := by
  refine ⟨fnOk_of at_laws_FnExactTripleUnder rfl (by decide), ?_⟩
  show ∀ (gg : GSig) (xs : List GPremise) (t : GTriple), True → OkCall prog n_laws_FnExactTripleUnder [.val ⟨(.st .sig), gg⟩, .val ⟨(.slice (.st .premise)), xs⟩, .val ⟨(.st .triple), t⟩] (· = [⟨.bool, true⟩])
  intro gg xs t _
  refine ok_of_awp (wr := []) (cl := []) hE at_laws_FnExactTripleUnder body_laws_FnExactTripleUnder (l_laws_FnExactTripleUnder gg xs t) ?_
  rewrite [vc_laws_FnExactTripleUnder gg xs t]
  have f0 := szR_or (xs.length + szL sz_premise xs) 1048576
  have f1 := szR_or (sz_triple t) (szR (xs.length + szL sz_premise xs) 1048576)
  refine ⟨?_, fun a0 => ⟨fun a1 => rfl, fun a1 => ⟨?_, fun a2 => ⟨fun a3 => rfl, fun a3 => ⟨?_, ⟨?_, fun a4 => fun a5 => ⟨?_, fun a6 => ⟨?_, fun a7 => ⟨fun a8 => ⟨fun a9 => ?_, fun a9 => ⟨?_, fun a10 => ⟨fun a11 => ?_, fun a11 => ⟨?_, ⟨fun a12 => ?_, fun a12 => rfl⟩⟩⟩⟩⟩, fun a8 => ⟨fun a9 => ?_, fun a9 => ⟨?_, fun a10 => ⟨fun a11 => ?_, fun a11 => ⟨?_, ⟨fun a12 => ?_, fun a12 => rfl⟩⟩⟩⟩⟩⟩⟩⟩⟩⟩⟩⟩⟩⟩
  all_goals try and_intros
  all_goals first | rfl | trivial | omega | (simp only [decide_eq_true_eq, decide_eq_false_iff_not, idxOk, inI64, inKind, cutOk, makeOk, roomOk] at *; omega) | (simp [idxOk, inI64] at *; omega) | grind | (simp_all; done)

theorem good_laws_FnExactTripleUnder : Ctr.Good k_laws_FnExactTripleUnder := ok_laws_FnExactTripleUnder ⟨good_laws_szPremiseS, good_laws_szTriple, good_laws_toPremiseS, good_laws_toTriple, good_laws_toSig, good_spec_TripleUnder, good_impl_TripleUnder, good_laws_eqTriple, good_laws_eqPremiseS, trivial⟩

theorem law_FnExactTripleUnder : ∀ tvs : List TV, tvs.map TV.τ = [(.st .sig), (.slice (.st .premise)), (.st .triple)] → OkCall prog n_laws_FnExactTripleUnder (tvs.map .val) (· = [⟨.bool, true⟩]) := by
  intro tvs h
  match tvs, h with
  | [⟨t0, a0⟩, ⟨t1, a1⟩, ⟨t2, a2⟩], h =>
    simp only [List.map_cons, List.map_nil, List.cons.injEq, and_true] at h
    obtain ⟨rfl, rfl, rfl⟩ := h
    exact good_laws_FnExactTripleUnder.2 a0 a1 a2 trivial

def k_laws_FnExactHoldsTriple : Ctr := ⟨n_laws_FnExactHoldsTriple, [.v (.st .sig), .v (.st .triple)], fun (gg : GSig) (t : GTriple) => ⟨(none, [⟨.bool, true⟩])⟩⟩
def l_laws_FnExactHoldsTriple (gg : GSig) (t : GTriple) : Nat → LoopInv := fun _ => .none
theorem vc_laws_FnExactHoldsTriple (gg : GSig) (t : GTriple) : awp (envOf [k_laws_szTriple, k_laws_toTriple, k_laws_toSig, k_spec_HoldsTriple, k_impl_HoldsTriple, k_laws_eqTriple]) (bodyOf f_laws_FnExactHoldsTriple) (l_laws_FnExactHoldsTriple gg t) 0 (funPost (envOf [k_laws_szTriple, k_laws_toTriple, k_laws_toSig, k_spec_HoldsTriple, k_impl_HoldsTriple, k_laws_eqTriple]) f_laws_FnExactHoldsTriple fun r => areEq r [⟨.bool, true⟩]) (startState f_laws_FnExactHoldsTriple [.val ⟨(.st .sig), gg⟩, .val ⟨(.st .triple), t⟩]) =
  (((0 ≤ (1048576 : Int) ∧ (1048576 : Int) ≤ 1048576) ∧ (inI64 (szR (sz_triple t) (1048576 : Int)) →
  (((decide ((szR (sz_triple t) (1048576 : Int)) < (0 : Int))) = true →
  true = true) ∧ ((decide ((szR (sz_triple t) (1048576 : Int)) < (0 : Int))) = false →
  (sz_triple t ≤ 1048576 ∧ (inI64 (tuC gg [] t) →
  (sz_triple t ≤ 1048576 ∧ (inI64 (tuC gg [] t) →
  (((!((tuV gg [] t) == (tuV gg [] t))) = false →
  (((!(decide ((tuC gg [] t) = (tuC gg [] t)))) = true →
  false = true) ∧ ((!(decide ((tuC gg [] t) = (tuC gg [] t)))) = false →
  (sz_triple t ≤ 1048576 ∧ (((!(eqB t t)) = true →
  false = true) ∧ ((!(eqB t t)) = false →
  true = true)))))) ∧ ((!((tuV gg [] t) == (tuV gg [] t))) = (!false) →
  ((true = true →
  false = true) ∧ (true = false →
  (sz_triple t ≤ 1048576 ∧ (((!(eqB t t)) = true →
  false = true) ∧ ((!(eqB t t)) = false →
  true = true)))))))))))))))) := by
  refine Eq.trans (b := ((((0 ≤ (1048576 : Int) ∧ (1048576 : Int) ≤ 1048576) ∧ (inI64 (szR (sz_triple (GTriple.mk (GExpr.mk t.pre.kind t.pre.num t.pre.kids) (GProg.mk t.prog.kind t.prog.num (GExpr.mk t.prog.cond.kind t.prog.cond.num t.prog.cond.kids) t.prog.kids) (GExpr.mk t.post.kind t.post.num t.post.kids))) (1048576 : Int)) →
  (((decide ((szR (sz_triple (GTriple.mk (GExpr.mk t.pre.kind t.pre.num t.pre.kids) (GProg.mk t.prog.kind t.prog.num (GExpr.mk t.prog.cond.kind t.prog.cond.num t.prog.cond.kids) t.prog.kids) (GExpr.mk t.post.kind t.post.num t.post.kids))) (1048576 : Int)) < (0 : Int))) = true →
  true = true) ∧ ((decide ((szR (sz_triple (GTriple.mk (GExpr.mk t.pre.kind t.pre.num t.pre.kids) (GProg.mk t.prog.kind t.prog.num (GExpr.mk t.prog.cond.kind t.prog.cond.num t.prog.cond.kids) t.prog.kids) (GExpr.mk t.post.kind t.post.num t.post.kids))) (1048576 : Int)) < (0 : Int))) = false →
  (sz_triple (GTriple.mk (GExpr.mk t.pre.kind t.pre.num t.pre.kids) (GProg.mk t.prog.kind t.prog.num (GExpr.mk t.prog.cond.kind t.prog.cond.num t.prog.cond.kids) t.prog.kids) (GExpr.mk t.post.kind t.post.num t.post.kids)) ≤ 1048576 ∧ (inI64 (tuC gg [] (GTriple.mk (GExpr.mk t.pre.kind t.pre.num t.pre.kids) (GProg.mk t.prog.kind t.prog.num (GExpr.mk t.prog.cond.kind t.prog.cond.num t.prog.cond.kids) t.prog.kids) (GExpr.mk t.post.kind t.post.num t.post.kids))) →
  (sz_triple (GTriple.mk (GExpr.mk t.pre.kind t.pre.num t.pre.kids) (GProg.mk t.prog.kind t.prog.num (GExpr.mk t.prog.cond.kind t.prog.cond.num t.prog.cond.kids) t.prog.kids) (GExpr.mk t.post.kind t.post.num t.post.kids)) ≤ 1048576 ∧ (inI64 (tuC gg [] (GTriple.mk (GExpr.mk t.pre.kind t.pre.num t.pre.kids) (GProg.mk t.prog.kind t.prog.num (GExpr.mk t.prog.cond.kind t.prog.cond.num t.prog.cond.kids) t.prog.kids) (GExpr.mk t.post.kind t.post.num t.post.kids))) →
  (((!((tuV gg [] (GTriple.mk (GExpr.mk t.pre.kind t.pre.num t.pre.kids) (GProg.mk t.prog.kind t.prog.num (GExpr.mk t.prog.cond.kind t.prog.cond.num t.prog.cond.kids) t.prog.kids) (GExpr.mk t.post.kind t.post.num t.post.kids))) == (tuV gg [] (GTriple.mk (GExpr.mk t.pre.kind t.pre.num t.pre.kids) (GProg.mk t.prog.kind t.prog.num (GExpr.mk t.prog.cond.kind t.prog.cond.num t.prog.cond.kids) t.prog.kids) (GExpr.mk t.post.kind t.post.num t.post.kids))))) = false →
  (((!(decide ((tuC gg [] (GTriple.mk (GExpr.mk t.pre.kind t.pre.num t.pre.kids) (GProg.mk t.prog.kind t.prog.num (GExpr.mk t.prog.cond.kind t.prog.cond.num t.prog.cond.kids) t.prog.kids) (GExpr.mk t.post.kind t.post.num t.post.kids))) = (tuC gg [] (GTriple.mk (GExpr.mk t.pre.kind t.pre.num t.pre.kids) (GProg.mk t.prog.kind t.prog.num (GExpr.mk t.prog.cond.kind t.prog.cond.num t.prog.cond.kids) t.prog.kids) (GExpr.mk t.post.kind t.post.num t.post.kids)))))) = true →
  false = true) ∧ ((!(decide ((tuC gg [] (GTriple.mk (GExpr.mk t.pre.kind t.pre.num t.pre.kids) (GProg.mk t.prog.kind t.prog.num (GExpr.mk t.prog.cond.kind t.prog.cond.num t.prog.cond.kids) t.prog.kids) (GExpr.mk t.post.kind t.post.num t.post.kids))) = (tuC gg [] (GTriple.mk (GExpr.mk t.pre.kind t.pre.num t.pre.kids) (GProg.mk t.prog.kind t.prog.num (GExpr.mk t.prog.cond.kind t.prog.cond.num t.prog.cond.kids) t.prog.kids) (GExpr.mk t.post.kind t.post.num t.post.kids)))))) = false →
  (sz_triple (GTriple.mk (GExpr.mk t.pre.kind t.pre.num t.pre.kids) (GProg.mk t.prog.kind t.prog.num (GExpr.mk t.prog.cond.kind t.prog.cond.num t.prog.cond.kids) t.prog.kids) (GExpr.mk t.post.kind t.post.num t.post.kids)) ≤ 1048576 ∧ (((!(eqB (GTriple.mk (GExpr.mk t.pre.kind t.pre.num t.pre.kids) (GProg.mk t.prog.kind t.prog.num (GExpr.mk t.prog.cond.kind t.prog.cond.num t.prog.cond.kids) t.prog.kids) (GExpr.mk t.post.kind t.post.num t.post.kids)) (GTriple.mk (GExpr.mk t.pre.kind t.pre.num t.pre.kids) (GProg.mk t.prog.kind t.prog.num (GExpr.mk t.prog.cond.kind t.prog.cond.num t.prog.cond.kids) t.prog.kids) (GExpr.mk t.post.kind t.post.num t.post.kids)))) = true →
  false = true) ∧ ((!(eqB (GTriple.mk (GExpr.mk t.pre.kind t.pre.num t.pre.kids) (GProg.mk t.prog.kind t.prog.num (GExpr.mk t.prog.cond.kind t.prog.cond.num t.prog.cond.kids) t.prog.kids) (GExpr.mk t.post.kind t.post.num t.post.kids)) (GTriple.mk (GExpr.mk t.pre.kind t.pre.num t.pre.kids) (GProg.mk t.prog.kind t.prog.num (GExpr.mk t.prog.cond.kind t.prog.cond.num t.prog.cond.kids) t.prog.kids) (GExpr.mk t.post.kind t.post.num t.post.kids)))) = false →
  true = true)))))) ∧ ((!((tuV gg [] (GTriple.mk (GExpr.mk t.pre.kind t.pre.num t.pre.kids) (GProg.mk t.prog.kind t.prog.num (GExpr.mk t.prog.cond.kind t.prog.cond.num t.prog.cond.kids) t.prog.kids) (GExpr.mk t.post.kind t.post.num t.post.kids))) == (tuV gg [] (GTriple.mk (GExpr.mk t.pre.kind t.pre.num t.pre.kids) (GProg.mk t.prog.kind t.prog.num (GExpr.mk t.prog.cond.kind t.prog.cond.num t.prog.cond.kids) t.prog.kids) (GExpr.mk t.post.kind t.post.num t.post.kids))))) = (!false) →
  ((true = true →
  false = true) ∧ (true = false →
  (sz_triple (GTriple.mk (GExpr.mk t.pre.kind t.pre.num t.pre.kids) (GProg.mk t.prog.kind t.prog.num (GExpr.mk t.prog.cond.kind t.prog.cond.num t.prog.cond.kids) t.prog.kids) (GExpr.mk t.post.kind t.post.num t.post.kids)) ≤ 1048576 ∧ (((!(eqB (GTriple.mk (GExpr.mk t.pre.kind t.pre.num t.pre.kids) (GProg.mk t.prog.kind t.prog.num (GExpr.mk t.prog.cond.kind t.prog.cond.num t.prog.cond.kids) t.prog.kids) (GExpr.mk t.post.kind t.post.num t.post.kids)) (GTriple.mk (GExpr.mk t.pre.kind t.pre.num t.pre.kids) (GProg.mk t.prog.kind t.prog.num (GExpr.mk t.prog.cond.kind t.prog.cond.num t.prog.cond.kids) t.prog.kids) (GExpr.mk t.post.kind t.post.num t.post.kids)))) = true →
  false = true) ∧ ((!(eqB (GTriple.mk (GExpr.mk t.pre.kind t.pre.num t.pre.kids) (GProg.mk t.prog.kind t.prog.num (GExpr.mk t.prog.cond.kind t.prog.cond.num t.prog.cond.kids) t.prog.kids) (GExpr.mk t.post.kind t.post.num t.post.kids)) (GTriple.mk (GExpr.mk t.pre.kind t.pre.num t.pre.kids) (GProg.mk t.prog.kind t.prog.num (GExpr.mk t.prog.cond.kind t.prog.cond.num t.prog.cond.kids) t.prog.kids) (GExpr.mk t.post.kind t.post.num t.post.kids)))) = false →
  true = true)))))))))))))))))) (by kernel_rfl) ?_
  simp only [GExpr.eta, GProg.eta, GDerivation.eta, GTriple.eta, GPremise.eta, GClaim.eta, GEquation.eta, GPair.eta, GSpot.eta]
set_option maxRecDepth 4000 in
set_option maxHeartbeats 1000000 in
theorem ok_laws_FnExactHoldsTriple (hE : AllGood [k_laws_szTriple, k_laws_toTriple, k_laws_toSig, k_spec_HoldsTriple, k_impl_HoldsTriple, k_laws_eqTriple]) : Ctr.Good k_laws_FnExactHoldsTriple := by
  refine ⟨fnOk_of at_laws_FnExactHoldsTriple rfl (by decide), ?_⟩
  show ∀ (gg : GSig) (t : GTriple), True → OkCall prog n_laws_FnExactHoldsTriple [.val ⟨(.st .sig), gg⟩, .val ⟨(.st .triple), t⟩] (· = [⟨.bool, true⟩])
  intro gg t _
  refine ok_of_awp (wr := []) (cl := []) hE at_laws_FnExactHoldsTriple body_laws_FnExactHoldsTriple (l_laws_FnExactHoldsTriple gg t) ?_
  rewrite [vc_laws_FnExactHoldsTriple gg t]
  have f0 := szR_or (sz_triple t) 1048576
  refine ⟨?_, fun a0 => ⟨fun a1 => rfl, fun a1 => ⟨?_, fun a2 => ⟨?_, fun a3 => ⟨fun a4 => ⟨fun a5 => ?_, fun a5 => ⟨?_, ⟨fun a6 => ?_, fun a6 => rfl⟩⟩⟩, fun a4 => ⟨fun a5 => ?_, fun a5 => ⟨?_, ⟨fun a6 => ?_, fun a6 => rfl⟩⟩⟩⟩⟩⟩⟩⟩
  all_goals try and_intros
  all_goals first | rfl | trivial | omega | (simp only [decide_eq_true_eq, decide_eq_false_iff_not, idxOk, inI64, inKind, cutOk, makeOk, roomOk] at *; omega) | (simp [idxOk, inI64] at *; omega) | grind | (simp_all; done)

theorem good_laws_FnExactHoldsTriple : Ctr.Good k_laws_FnExactHoldsTriple := ok_laws_FnExactHoldsTriple ⟨good_laws_szTriple, good_laws_toTriple, good_laws_toSig, good_spec_HoldsTriple, good_impl_HoldsTriple, good_laws_eqTriple, trivial⟩

theorem law_FnExactHoldsTriple : ∀ tvs : List TV, tvs.map TV.τ = [(.st .sig), (.st .triple)] → OkCall prog n_laws_FnExactHoldsTriple (tvs.map .val) (· = [⟨.bool, true⟩]) := by
  intro tvs h
  match tvs, h with
  | [⟨t0, a0⟩, ⟨t1, a1⟩], h =>
    simp only [List.map_cons, List.map_nil, List.cons.injEq, and_true] at h
    obtain ⟨rfl, rfl⟩ := h
    exact good_laws_FnExactHoldsTriple.2 a0 a1 trivial

end
end Go.Proofs.Ytcdppmpjplhgkaa

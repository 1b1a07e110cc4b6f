/- Triples under premises: what is answered. Printed by vmk.py. -/
import Derived.Test.YtcdppmpjplhgkaaVmUse
import Derived.Test.YtcdppmpjplhgkaaVmLib
import Derived.Test.YtcdppmpjplhgkaaVmAllows
import Derived.Test.YtcdppmpjplhgkaaVmProg
import Derived.Test.YtcdppmpjplhgkaaVmLeads
import Derived.Test.YtcdppmpjplhgkaaVmLeads2
import Derived.Test.YtcdppmpjplhgkaaVmLeads3
import Derived.Test.YtcdppmpjplhgkaaVmFrom
import Derived.Test.YtcdppmpjplhgkaaVmFrom2
import Derived.Test.YtcdppmpjplhgkaaVmFrom3
import Derived.Test.YtcdppmpjplhgkaaVmFrom4
import Derived.Test.YtcdppmpjplhgkaaVmFrom5
set_option linter.unusedVariables false
set_option linter.unusedSimpArgs false
set_option linter.unusedSectionVars false
namespace Go.Proofs.Ytcdppmpjplhgkaa
noncomputable section

def okT (gg : GSig) (t : GTriple) : Bool := okP gg t.prog && isC gg t.pre && isC gg t.post
theorem okT_eq (gg : GSig) (t : GTriple) : okT gg t = (okC gg t.pre && okC gg t.post && okP gg t.prog) := by
  simp only [okT, okC_eqP, okP]
  cases sigOk gg <;> cases isP gg t.prog <;> cases isC gg t.pre <;> cases isC gg t.post <;> rfl
theorem okT_facts (gg : GSig) (xs : List GPremise) (t : GTriple) (h1 : premsOk gg xs = true) (h2 : okT gg t = true) : okL gg xs t.prog ∧ goodC t.pre = true ∧ goodC t.post = true := by
  simp only [okT, Bool.and_eq_true] at h2
  have hs := premsOk_sig gg xs h1
  exact ⟨okL_okP gg xs _ h1 h2.1.1, isC_good gg _ hs h2.1.2, isC_good gg _ hs h2.2⟩
theorem okT_sig (gg : GSig) (t : GTriple) (h : okT gg t = true) : premsOk gg [] = true := by
  simp only [okT, Bool.and_eq_true] at h
  exact premsOk_nil gg (okP_sig gg _ h.1.1)
def tuV (gg : GSig) (xs : List GPremise) (t : GTriple) : Bool := bif premsOk gg xs && okT gg t then hoB gg xs t else false
def tuC (gg : GSig) (xs : List GPremise) (t : GTriple) : Int := bif premsOk gg xs && okT gg t then 0 else 1
theorem tu_t (gg : GSig) (xs : List GPremise) (t : GTriple) (h : premsOk gg xs = true) (h2 : okT gg t = true) : tuV gg xs t = hoB gg xs t ∧ tuC gg xs t = 0 := by simp [tuV, tuC, h, h2]
theorem tu_f (gg : GSig) (xs : List GPremise) (t : GTriple) (h : premsOk gg xs = false ∨ okT gg t = false) : tuV gg xs t = false ∧ tuC gg xs t = 1 := by
  rcases h with h | h <;> simp [tuV, tuC, h]

def k_impl_ValidTriple : Ctr := ⟨n_impl_ValidTriple, [.v (.st .sig), .v (.st .triple)], fun (gg : GSig) (x : GTriple) => ⟨(none, [⟨.bool, okT gg x⟩])⟩⟩
def l_impl_ValidTriple (gg : GSig) (x : GTriple) : Nat → LoopInv := fun _ => .none
theorem vc_impl_ValidTriple (gg : GSig) (x : GTriple) : awp (envOf [k_impl_ValidProg, k_impl_isCondition] [] [] [2, 3]) (bodyOf f_impl_ValidTriple) (l_impl_ValidTriple gg x) 0 (funPost (envOf [k_impl_ValidProg, k_impl_isCondition] [] [] [2, 3]) f_impl_ValidTriple fun r => areEq r [⟨.bool, okT gg x⟩]) (startState f_impl_ValidTriple [.val ⟨(.st .sig), gg⟩, .val ⟨(.st .triple), x⟩]) =
  ((((okP gg x.prog) = true →
 (((isC gg x.pre) = true →
 (isC gg x.post) = (okT gg x)) ∧ ((isC gg x.pre) = (!true) →
 false = (okT gg x)))) ∧ ((okP gg x.prog) = (!true) →
 ((false = true →
 (isC gg x.post) = (okT gg x)) ∧ (false = (!true) →
 false = (okT gg x)))))) := by kernel_rfl
set_option maxRecDepth 4000 in
set_option maxHeartbeats 1000000 in
theorem ok_impl_ValidTriple (hE : AllGood [k_impl_ValidProg, k_impl_isCondition]) : Ctr.Good k_impl_ValidTriple := by
  refine ⟨fnOk_of at_impl_ValidTriple rfl (by decide), ?_⟩
  show ∀ (gg : GSig) (x : GTriple), True → OkCall prog n_impl_ValidTriple [.val ⟨(.st .sig), gg⟩, .val ⟨(.st .triple), x⟩] (· = [⟨.bool, okT gg x⟩])
  intro gg x _
  refine ok_of_awp (wr := []) (cl := []) (ro := [2, 3]) hE at_impl_ValidTriple body_impl_ValidTriple (l_impl_ValidTriple gg x) ?_
  rewrite [vc_impl_ValidTriple gg x]
  refine ⟨fun a0 => ⟨fun a1 => ?_, fun a1 => ?_⟩, fun a0 => ⟨fun a1 => ?_, fun a1 => ?_⟩⟩
  all_goals try and_intros
  all_goals first | rfl | trivial | grind [okT]

theorem good_impl_ValidTriple : Ctr.Good k_impl_ValidTriple := ok_impl_ValidTriple ⟨good_impl_ValidProg, good_impl_isCondition, trivial⟩

def k_spec_l07Triple : Ctr := ⟨n_spec_l07Triple, [.v (.st .sig), .r (.st .triple)], fun (gg : GSig) (x : GTriple) => ⟨(none, [⟨.bool, okT gg x⟩])⟩⟩
def l_spec_l07Triple (gg : GSig) (x : GTriple) : Nat → LoopInv := fun _ => .none
theorem vc_spec_l07Triple (gg : GSig) (x : GTriple) : awp (envOf [k_spec_l06Cond, k_spec_l06Ok] [] [] [2]) (bodyOf f_spec_l07Triple) (l_spec_l07Triple gg x) 0 (funPost (envOf [k_spec_l06Cond, k_spec_l06Ok] [] [] [2]) f_spec_l07Triple fun r => areEq r [⟨.bool, okT gg x⟩]) (startState f_spec_l07Triple [.val ⟨(.st .sig), gg⟩, .ref ⟨(.st .triple), x⟩]) =
  ((((okC gg x.pre) = true →
 (((okC gg x.post) = true →
 (okP gg x.prog) = (okT gg x)) ∧ ((okC gg x.post) = (!true) →
 false = (okT gg x)))) ∧ ((okC gg x.pre) = (!true) →
 ((false = true →
 (okP gg x.prog) = (okT gg x)) ∧ (false = (!true) →
 false = (okT gg x)))))) := by kernel_rfl
set_option maxRecDepth 4000 in
set_option maxHeartbeats 1000000 in
theorem ok_spec_l07Triple (hE : AllGood [k_spec_l06Cond, k_spec_l06Ok]) : Ctr.Good k_spec_l07Triple := by
  refine ⟨fnOk_of at_spec_l07Triple rfl (by decide), ?_⟩
  show ∀ (gg : GSig) (x : GTriple), True → OkCall prog n_spec_l07Triple [.val ⟨(.st .sig), gg⟩, .ref ⟨(.st .triple), x⟩] (· = [⟨.bool, okT gg x⟩])
  intro gg x _
  refine ok_of_awp (wr := []) (cl := []) (ro := [2]) hE at_spec_l07Triple body_spec_l07Triple (l_spec_l07Triple gg x) ?_
  rewrite [vc_spec_l07Triple gg x]
  refine ⟨fun a0 => ⟨fun a1 => ?_, fun a1 => ?_⟩, fun a0 => ⟨fun a1 => ?_, fun a1 => ?_⟩⟩
  all_goals try and_intros
  all_goals try rw [okT_eq]
  all_goals first | rfl | trivial | grind

theorem good_spec_l07Triple : Ctr.Good k_spec_l07Triple := ok_spec_l07Triple ⟨good_spec_l06Cond, good_spec_l06Ok, trivial⟩

def k_impl_TripleUnder : Ctr := ⟨n_impl_TripleUnder, [.v (.st .sig), .v (.slice (.st .premise)), .v (.st .triple)], fun (gg : GSig) (xs : List GPremise) (t : GTriple) => ⟨(none, [⟨.bool, tuV gg xs t⟩, ⟨(.int .i64), tuC gg xs t⟩])⟩⟩
def l_impl_TripleUnder (gg : GSig) (xs : List GPremise) (t : GTriple) : Nat → LoopInv := fun _ => .none
theorem vc_impl_TripleUnder (gg : GSig) (xs : List GPremise) (t : GTriple) : awp (envOf [k_impl_ValidPremises, k_impl_ValidTriple, k_impl_holdsUnder] [] [] [3, 5]) (bodyOf f_impl_TripleUnder) (l_impl_TripleUnder gg xs t) 0 (funPost (envOf [k_impl_ValidPremises, k_impl_ValidTriple, k_impl_holdsUnder] [] [] [3, 5]) f_impl_TripleUnder fun r => areEq r [⟨.bool, tuV gg xs t⟩, ⟨(.int .i64), tuC gg xs t⟩]) (startState f_impl_TripleUnder [.val ⟨(.st .sig), gg⟩, .val ⟨(.slice (.st .premise)), xs⟩, .val ⟨(.st .triple), t⟩]) =
  ((((!(premsOk gg xs)) = false →
 (((!(okT gg t)) = true →
 (false = (tuV gg xs t) ∧ (1 : Int) = (tuC gg xs t))) ∧ ((!(okT gg t)) = false →
 ((okL gg xs t.prog ∧ goodC t.pre = true ∧ goodC t.post = true) ∧ ((hoB gg xs t) = (tuV gg xs t) ∧ (0 : Int) = (tuC gg xs t)))))) ∧ ((!(premsOk gg xs)) = (!false) →
 ((true = true →
 (false = (tuV gg xs t) ∧ (1 : Int) = (tuC gg xs t))) ∧ (true = false →
 ((okL gg xs t.prog ∧ goodC t.pre = true ∧ goodC t.post = true) ∧ ((hoB gg xs t) = (tuV gg xs t) ∧ (0 : Int) = (tuC gg xs t)))))))) := by kernel_rfl
set_option maxRecDepth 4000 in
set_option maxHeartbeats 1000000 in
theorem ok_impl_TripleUnder (hE : AllGood [k_impl_ValidPremises, k_impl_ValidTriple, k_impl_holdsUnder]) : Ctr.Good k_impl_TripleUnder := by
  refine ⟨fnOk_of at_impl_TripleUnder rfl (by decide), ?_⟩
  show ∀ (gg : GSig) (xs : List GPremise) (t : GTriple), True → OkCall prog n_impl_TripleUnder [.val ⟨(.st .sig), gg⟩, .val ⟨(.slice (.st .premise)), xs⟩, .val ⟨(.st .triple), t⟩] (· = [⟨.bool, tuV gg xs t⟩, ⟨(.int .i64), tuC gg xs t⟩])
  intro gg xs t _
  refine ok_of_awp (wr := []) (cl := []) (ro := [3, 5]) hE at_impl_TripleUnder body_impl_TripleUnder (l_impl_TripleUnder gg xs t) ?_
  rewrite [vc_impl_TripleUnder gg xs t]
  have f1 := okT_facts gg xs t
  have f2 := tu_t gg xs t
  have f3 := tu_f gg xs t
  refine ⟨fun a0 => ⟨fun a1 => ⟨?_, ?_⟩, fun a1 => ⟨?_, ⟨?_, ?_⟩⟩⟩, fun a0 => ⟨fun a1 => ⟨?_, ?_⟩, fun a1 => ⟨?_, ⟨?_, ?_⟩⟩⟩⟩
  all_goals try and_intros
  all_goals first | with_reducible rfl | omega | grind

theorem good_impl_TripleUnder : Ctr.Good k_impl_TripleUnder := ok_impl_TripleUnder ⟨good_impl_ValidPremises, good_impl_ValidTriple, good_impl_holdsUnder, trivial⟩

def k_spec_TripleUnder : Ctr := ⟨n_spec_TripleUnder, [.v (.st .sig), .v (.slice (.st .premise)), .v (.st .triple)], fun (gg : GSig) (xs : List GPremise) (t : GTriple) => ⟨(none, [⟨.bool, tuV gg xs t⟩, ⟨(.int .i64), tuC gg xs t⟩])⟩⟩
def l_spec_TripleUnder (gg : GSig) (xs : List GPremise) (t : GTriple) : Nat → LoopInv := fun _ => .none
abbrev q_spec_TripleUnder_0 (gg : GSig) (xs : List GPremise) (t : GTriple) : Prop := ((okL gg xs t.prog ∧ premsOk gg xs = true ∧ goodC t.pre = true ∧ goodC t.post = true) ∧ ((hoB gg xs t) = (tuV gg xs t) ∧ (0 : Int) = (tuC gg xs t)))
theorem vc_spec_TripleUnder (gg : GSig) (xs : List GPremise) (t : GTriple) : awp (envOf [k_spec_l07Premises, k_spec_l07Triple, k_spec_l07Holds] [] [] [3, 5]) (bodyOf f_spec_TripleUnder) (l_spec_TripleUnder gg xs t) 0 (funPost (envOf [k_spec_l07Premises, k_spec_l07Triple, k_spec_l07Holds] [] [] [3, 5]) f_spec_TripleUnder fun r => areEq r [⟨.bool, tuV gg xs t⟩, ⟨(.int .i64), tuC gg xs t⟩]) (startState f_spec_TripleUnder [.val ⟨(.st .sig), gg⟩, .val ⟨(.slice (.st .premise)), xs⟩, .val ⟨(.st .triple), t⟩]) =
  ((((!(premsOk gg xs)) = false →
 (((!(okT gg t)) = true →
 (false = (tuV gg xs t) ∧ (1 : Int) = (tuC gg xs t))) ∧ ((!(okT gg t)) = false →
 (q_spec_TripleUnder_0 gg xs t)))) ∧ ((!(premsOk gg xs)) = (!false) →
 ((true = true →
 (false = (tuV gg xs t) ∧ (1 : Int) = (tuC gg xs t))) ∧ (true = false →
 (q_spec_TripleUnder_0 gg xs t)))))) := by kernel_rfl
set_option maxRecDepth 4000 in
set_option maxHeartbeats 1000000 in
theorem ok_spec_TripleUnder (hE : AllGood [k_spec_l07Premises, k_spec_l07Triple, k_spec_l07Holds]) : Ctr.Good k_spec_TripleUnder := by
  refine ⟨fnOk_of at_spec_TripleUnder rfl (by decide), ?_⟩
  show ∀ (gg : GSig) (xs : List GPremise) (t : GTriple), True → OkCall prog n_spec_TripleUnder [.val ⟨(.st .sig), gg⟩, .val ⟨(.slice (.st .premise)), xs⟩, .val ⟨(.st .triple), t⟩] (· = [⟨.bool, tuV gg xs t⟩, ⟨(.int .i64), tuC gg xs t⟩])
  intro gg xs t _
  refine ok_of_awp (wr := []) (cl := []) (ro := [3, 5]) hE at_spec_TripleUnder body_spec_TripleUnder (l_spec_TripleUnder gg xs t) ?_
  rewrite [vc_spec_TripleUnder gg xs t]
  have f1 := okT_facts gg xs t
  have f2 := tu_t gg xs t
  have f3 := tu_f gg xs t
  refine ⟨fun a0 => ⟨fun a1 => ⟨?_, ?_⟩, fun a1 => ⟨?_, ⟨?_, ?_⟩⟩⟩, fun a0 => ⟨fun a1 => ⟨?_, ?_⟩, fun a1 => ⟨?_, ⟨?_, ?_⟩⟩⟩⟩
  all_goals try and_intros
  all_goals first | with_reducible rfl | omega | grind

theorem good_spec_TripleUnder : Ctr.Good k_spec_TripleUnder := ok_spec_TripleUnder ⟨good_spec_l07Premises, good_spec_l07Triple, good_spec_l07Holds, trivial⟩

def k_impl_HoldsTriple : Ctr := ⟨n_impl_HoldsTriple, [.v (.st .sig), .v (.st .triple)], fun (gg : GSig) (t : GTriple) => ⟨(none, [⟨.bool, tuV gg [] t⟩, ⟨(.int .i64), tuC gg [] t⟩])⟩⟩
def l_impl_HoldsTriple (gg : GSig) (t : GTriple) : Nat → LoopInv := fun _ => .none
theorem vc_impl_HoldsTriple (gg : GSig) (t : GTriple) : awp (envOf [k_impl_TripleUnder] [] [] [2, 3]) (bodyOf f_impl_HoldsTriple) (l_impl_HoldsTriple gg t) 0 (funPost (envOf [k_impl_TripleUnder] [] [] [2, 3]) f_impl_HoldsTriple fun r => areEq r [⟨.bool, tuV gg [] t⟩, ⟨(.int .i64), tuC gg [] t⟩]) (startState f_impl_HoldsTriple [.val ⟨(.st .sig), gg⟩, .val ⟨(.st .triple), t⟩]) =
  ((inI64 (tuC gg [] t) →
 ((tuV gg [] t) = (tuV gg [] t) ∧ (tuC gg [] t) = (tuC gg [] t)))) := by kernel_rfl
set_option maxRecDepth 4000 in
set_option maxHeartbeats 1000000 in
theorem ok_impl_HoldsTriple (hE : AllGood [k_impl_TripleUnder]) : Ctr.Good k_impl_HoldsTriple := by
  refine ⟨fnOk_of at_impl_HoldsTriple rfl (by decide), ?_⟩
  show ∀ (gg : GSig) (t : GTriple), True → OkCall prog n_impl_HoldsTriple [.val ⟨(.st .sig), gg⟩, .val ⟨(.st .triple), t⟩] (· = [⟨.bool, tuV gg [] t⟩, ⟨(.int .i64), tuC gg [] t⟩])
  intro gg t _
  refine ok_of_awp (wr := []) (cl := []) (ro := [2, 3]) hE at_impl_HoldsTriple body_impl_HoldsTriple (l_impl_HoldsTriple gg t) ?_
  rewrite [vc_impl_HoldsTriple gg t]
  refine fun a0 => ⟨rfl, rfl⟩
  all_goals try and_intros
  all_goals first | with_reducible rfl | omega | grind

theorem good_impl_HoldsTriple : Ctr.Good k_impl_HoldsTriple := ok_impl_HoldsTriple ⟨good_impl_TripleUnder, trivial⟩

def k_spec_HoldsTriple : Ctr := ⟨n_spec_HoldsTriple, [.v (.st .sig), .v (.st .triple)], fun (gg : GSig) (t : GTriple) => ⟨(none, [⟨.bool, tuV gg [] t⟩, ⟨(.int .i64), tuC gg [] t⟩])⟩⟩
def l_spec_HoldsTriple (gg : GSig) (t : GTriple) : Nat → LoopInv := fun _ => .none
theorem vc_spec_HoldsTriple (gg : GSig) (t : GTriple) : awp (envOf [k_spec_l07Triple, k_spec_l07Holds] [] [] [2, 3]) (bodyOf f_spec_HoldsTriple) (l_spec_HoldsTriple gg t) 0 (funPost (envOf [k_spec_l07Triple, k_spec_l07Holds] [] [] [2, 3]) f_spec_HoldsTriple fun r => areEq r [⟨.bool, tuV gg [] t⟩, ⟨(.int .i64), tuC gg [] t⟩]) (startState f_spec_HoldsTriple [.val ⟨(.st .sig), gg⟩, .val ⟨(.st .triple), t⟩]) =
  ((((!(okT gg t)) = true →
 (false = (tuV gg [] t) ∧ (1 : Int) = (tuC gg [] t))) ∧ ((!(okT gg t)) = false →
 ((okL gg [] t.prog ∧ premsOk gg [] = true ∧ goodC t.pre = true ∧ goodC t.post = true) ∧ ((hoB gg [] t) = (tuV gg [] t) ∧ (0 : Int) = (tuC gg [] t)))))) := by kernel_rfl
set_option maxRecDepth 4000 in
set_option maxHeartbeats 1000000 in
theorem ok_spec_HoldsTriple (hE : AllGood [k_spec_l07Triple, k_spec_l07Holds]) : Ctr.Good k_spec_HoldsTriple := by
  refine ⟨fnOk_of at_spec_HoldsTriple rfl (by decide), ?_⟩
  show ∀ (gg : GSig) (t : GTriple), True → OkCall prog n_spec_HoldsTriple [.val ⟨(.st .sig), gg⟩, .val ⟨(.st .triple), t⟩] (· = [⟨.bool, tuV gg [] t⟩, ⟨(.int .i64), tuC gg [] t⟩])
  intro gg t _
  refine ok_of_awp (wr := []) (cl := []) (ro := [2, 3]) hE at_spec_HoldsTriple body_spec_HoldsTriple (l_spec_HoldsTriple gg t) ?_
  rewrite [vc_spec_HoldsTriple gg t]
  have f0 := okT_sig gg t
  have f1 := okT_facts gg [] t
  have f2 := tu_t gg [] t
  have f3 := tu_f gg [] t
  refine ⟨fun a0 => ⟨?_, ?_⟩, fun a0 => ⟨?_, ⟨?_, ?_⟩⟩⟩
  all_goals try and_intros
  all_goals first | with_reducible rfl | omega | grind

theorem good_spec_HoldsTriple : Ctr.Good k_spec_HoldsTriple := ok_spec_HoldsTriple ⟨good_spec_l07Triple, good_spec_l07Holds, trivial⟩

end
end Go.Proofs.Ytcdppmpjplhgkaa

/- The pairs of atoms that the allowed words of a program lead to, by the program. Printed by vmk.py. -/
import Derived.Test.YtcdppmpjplhgkaaVmUse
import Derived.Test.YtcdppmpjplhgkaaVmLib
import Derived.Test.YtcdppmpjplhgkaaVmAllows
import Derived.Test.YtcdppmpjplhgkaaVmProg
import Derived.Test.YtcdppmpjplhgkaaVmLeads
set_option linter.unusedVariables false
set_option linter.unusedSimpArgs false
set_option linter.unusedSectionVars false
namespace Go.Proofs.Ytcdppmpjplhgkaa
noncomputable section

/-- A place of a table. -/
def inT (t : List (List Bool)) (x y : Int) : Prop := 0 ≤ x ∧ 0 ≤ y ∧ x.toNat < t.length ∧ y.toNat < (t.getD x.toNat []).length ∧ x ≤ 4096 ∧ y ≤ 4096
theorem inT_of (n : Nat) (t : List (List Bool)) (h : sqT n t) (hn : n ≤ 4096) (x y : Int) (hx : 0 ≤ x ∧ x < n) (hy : 0 ≤ y ∧ y < n) : inT t x y := by
  have h1 := h.1
  have h2 := h.2 x.toNat (by omega)
  exact ⟨hx.1, hy.1, by omega, by omega, by omega, by omega⟩

def F_impl_leads_1 (xs : List GPremise) (p : GProg) : Int → Int → Prop × Bool := fun (x : Int) (y : Int) => ((allL gdP xs = true ∧ 0 ≤ x ∧ x ≤ 4096 ∧ 0 ≤ y ∧ y ≤ 4096), alwB xs p.num x y)
theorem F_impl_leads_1_1 (xs : List GPremise) (p : GProg) (x : Int) (y : Int) : (F_impl_leads_1 xs p x y).1 = (allL gdP xs = true ∧ 0 ≤ x ∧ x ≤ 4096 ∧ 0 ≤ y ∧ y ≤ 4096) := rfl
theorem F_impl_leads_1_2 (xs : List GPremise) (p : GProg) (x : Int) (y : Int) : (F_impl_leads_1 xs p x y).2 = (alwB xs p.num x y) := rfl
def q_impl_leads_1 : Nat × CloK := (n_impl_leads_1, ⟨[(.int .i64), (.int .i64)], .bool, [(true, (.slice (.st .premise))), (true, (.st .prog))]⟩)
def k_impl_leads_1 : Ctr := ⟨n_impl_leads_1, [.v (.int .i64), .v (.int .i64), .r (.slice (.st .premise)), .r (.st .prog)], fun (x : Int) (y : Int) (xs : List GPremise) (p : GProg) => ⟨(some (allL gdP xs = true ∧ 0 ≤ x ∧ x ≤ 4096 ∧ 0 ≤ y ∧ y ≤ 4096), [⟨.bool, alwB xs p.num x y⟩])⟩⟩
def l_impl_leads_1 (x : Int) (y : Int) (xs : List GPremise) (p : GProg) : Nat → LoopInv := fun _ => .none
theorem vc_impl_leads_1 (x : Int) (y : Int) (xs : List GPremise) (p : GProg) : awp (envOf [k_impl_allows]) (bodyOf f_impl_leads_1) (l_impl_leads_1 x y xs p) 0 (funPost (envOf [k_impl_allows]) f_impl_leads_1 fun r => areEq r [⟨.bool, alwB xs p.num x y⟩]) (startState f_impl_leads_1 [.val ⟨(.int .i64), x⟩, .val ⟨(.int .i64), y⟩, .ref ⟨(.slice (.st .premise)), xs⟩, .ref ⟨(.st .prog), p⟩]) =
  ((xs.length ≤ 140737488355328 →
 (inI64 p.num →
 ((allL gdP xs = true ∧ 0 ≤ x ∧ x ≤ 4096 ∧ 0 ≤ y ∧ y ≤ 4096) ∧ (alwB xs p.num x y) = (alwB xs p.num x y))))) := by kernel_rfl
set_option maxRecDepth 4000 in
set_option maxHeartbeats 1000000 in
theorem ok_impl_leads_1 (hE : AllGood [k_impl_allows]) : Ctr.Good k_impl_leads_1 := by
  refine ⟨fnOk_of at_impl_leads_1 rfl (by decide), ?_⟩
  show ∀ (x : Int) (y : Int) (xs : List GPremise) (p : GProg), (allL gdP xs = true ∧ 0 ≤ x ∧ x ≤ 4096 ∧ 0 ≤ y ∧ y ≤ 4096) → OkCall prog n_impl_leads_1 [.val ⟨(.int .i64), x⟩, .val ⟨(.int .i64), y⟩, .ref ⟨(.slice (.st .premise)), xs⟩, .ref ⟨(.st .prog), p⟩] (· = [⟨.bool, alwB xs p.num x y⟩])
  intro x y xs p hp
  refine ok_of_awp (wr := []) (cl := []) (ro := []) hE at_impl_leads_1 body_impl_leads_1 (l_impl_leads_1 x y xs p) ?_
  rewrite [vc_impl_leads_1 x y xs p]
  refine fun a0 => fun a1 => ⟨?_, rfl⟩
  all_goals try and_intros
  all_goals first | rfl | trivial | omega | (simp only [decide_eq_true_eq, decide_eq_false_iff_not, idxOk, inI64, inKind, cutOk, makeOk, roomOk] at *; omega) | (simp [idxOk, inI64] at *; omega) | grind

theorem good_impl_leads_1 : Ctr.Good k_impl_leads_1 := ok_impl_leads_1 ⟨good_impl_allows, trivial⟩

def F_impl_leads_2 (p : GProg) (ks : List (List (List Bool))) : Int → Int → Prop × Bool := fun (x : Int) (y : Int) => ((goodC p.cond = true ∧ 1 ≤ ks.length ∧ inT (ks.getD 0 []) x y), decide (x = y) || (truE x p.cond && gt2 (ks.getD 0 []) x y))
theorem F_impl_leads_2_1 (p : GProg) (ks : List (List (List Bool))) (x : Int) (y : Int) : (F_impl_leads_2 p ks x y).1 = (goodC p.cond = true ∧ 1 ≤ ks.length ∧ inT (ks.getD 0 []) x y) := rfl
theorem F_impl_leads_2_2 (p : GProg) (ks : List (List (List Bool))) (x : Int) (y : Int) : (F_impl_leads_2 p ks x y).2 = (decide (x = y) || (truE x p.cond && gt2 (ks.getD 0 []) x y)) := rfl
def q_impl_leads_2 : Nat × CloK := (n_impl_leads_2, ⟨[(.int .i64), (.int .i64)], .bool, [(true, (.st .prog)), (true, (.slice (.slice (.slice .bool))))]⟩)
def k_impl_leads_2 : Ctr := ⟨n_impl_leads_2, [.v (.int .i64), .v (.int .i64), .r (.st .prog), .r (.slice (.slice (.slice .bool)))], fun (x : Int) (y : Int) (p : GProg) (ks : List (List (List Bool))) => ⟨(some (goodC p.cond = true ∧ 1 ≤ ks.length ∧ inT (ks.getD 0 []) x y), [⟨.bool, decide (x = y) || (truE x p.cond && gt2 (ks.getD 0 []) x y)⟩])⟩⟩
def l_impl_leads_2 (x : Int) (y : Int) (p : GProg) (ks : List (List (List Bool))) : Nat → LoopInv := fun _ => .none
theorem vc_impl_leads_2 (x : Int) (y : Int) (p : GProg) (ks : List (List (List Bool))) : awp (envOf [k_impl_truth]) (bodyOf f_impl_leads_2) (l_impl_leads_2 x y p ks) 0 (funPost (envOf [k_impl_truth]) f_impl_leads_2 fun r => areEq r [⟨.bool, decide (x = y) || (truE x p.cond && gt2 (ks.getD 0 []) x y)⟩]) (startState f_impl_leads_2 [.val ⟨(.int .i64), x⟩, .val ⟨(.int .i64), y⟩, .ref ⟨(.st .prog), p⟩, .ref ⟨(.slice (.slice (.slice .bool))), ks⟩]) =
  ((((decide (x = y)) = false →
 ((goodC p.cond = true ∧ 0 ≤ x ∧ x ≤ 4096) ∧ (((truE x p.cond) = true →
 (ks.length ≤ 140737488355328 →
 (idxOk (0 : Int) ks.length ∧ ((ks.getD 0 []).length ≤ 140737488355328 →
 (idxOk x (ks.getD 0 []).length ∧ (((ks.getD 0 []).getD (Int.toNat x) []).length ≤ 140737488355328 →
 (idxOk y ((ks.getD 0 []).getD (Int.toNat x) []).length ∧ (((ks.getD 0 []).getD (Int.toNat x) []).getD (Int.toNat y) false) = (decide (x = y) || (truE x p.cond && gt2 (ks.getD 0 []) x y))))))))) ∧ ((truE x p.cond) = (!true) →
 false = (decide (x = y) || (truE x p.cond && gt2 (ks.getD 0 []) x y)))))) ∧ ((decide (x = y)) = (!false) →
 true = (decide (x = y) || (truE x p.cond && gt2 (ks.getD 0 []) x y))))) := by kernel_rfl
set_option maxRecDepth 4000 in
set_option maxHeartbeats 1000000 in
theorem ok_impl_leads_2 (hE : AllGood [k_impl_truth]) : Ctr.Good k_impl_leads_2 := by
  refine ⟨fnOk_of at_impl_leads_2 rfl (by decide), ?_⟩
  show ∀ (x : Int) (y : Int) (p : GProg) (ks : List (List (List Bool))), (goodC p.cond = true ∧ 1 ≤ ks.length ∧ inT (ks.getD 0 []) x y) → OkCall prog n_impl_leads_2 [.val ⟨(.int .i64), x⟩, .val ⟨(.int .i64), y⟩, .ref ⟨(.st .prog), p⟩, .ref ⟨(.slice (.slice (.slice .bool))), ks⟩] (· = [⟨.bool, decide (x = y) || (truE x p.cond && gt2 (ks.getD 0 []) x y)⟩])
  intro x y p ks hp
  refine ok_of_awp (wr := []) (cl := []) (ro := []) hE at_impl_leads_2 body_impl_leads_2 (l_impl_leads_2 x y p ks) ?_
  rewrite [vc_impl_leads_2 x y p ks]
  have f0 := hp.2.2
  unfold inT at f0
  refine ⟨fun a0 => ⟨?_, ⟨fun a1 => fun a2 => ⟨?_, fun a3 => ⟨?_, fun a4 => ⟨?_, ?_⟩⟩⟩, fun a1 => ?_⟩⟩, fun a0 => ?_⟩
  all_goals try and_intros
  all_goals first | rfl | trivial | omega | (simp only [decide_eq_true_eq, decide_eq_false_iff_not, idxOk, inI64] at *; omega) | grind [gt2, idxOk, inI64]

theorem good_impl_leads_2 : Ctr.Good k_impl_leads_2 := ok_impl_leads_2 ⟨good_impl_truth, trivial⟩

def F_impl_leads_3 (ways : List (List Bool)) (p : GProg) : Int → Int → Prop × Bool := fun (x : Int) (y : Int) => ((goodC p.cond = true ∧ inT ways x y), gt2 ways x y && !truE y p.cond)
theorem F_impl_leads_3_1 (ways : List (List Bool)) (p : GProg) (x : Int) (y : Int) : (F_impl_leads_3 ways p x y).1 = (goodC p.cond = true ∧ inT ways x y) := rfl
theorem F_impl_leads_3_2 (ways : List (List Bool)) (p : GProg) (x : Int) (y : Int) : (F_impl_leads_3 ways p x y).2 = (gt2 ways x y && !truE y p.cond) := rfl
def q_impl_leads_3 : Nat × CloK := (n_impl_leads_3, ⟨[(.int .i64), (.int .i64)], .bool, [(true, (.slice (.slice .bool))), (true, (.st .prog))]⟩)
def k_impl_leads_3 : Ctr := ⟨n_impl_leads_3, [.v (.int .i64), .v (.int .i64), .r (.slice (.slice .bool)), .r (.st .prog)], fun (x : Int) (y : Int) (ways : List (List Bool)) (p : GProg) => ⟨(some (goodC p.cond = true ∧ inT ways x y), [⟨.bool, gt2 ways x y && !truE y p.cond⟩])⟩⟩
def l_impl_leads_3 (x : Int) (y : Int) (ways : List (List Bool)) (p : GProg) : Nat → LoopInv := fun _ => .none
theorem vc_impl_leads_3 (x : Int) (y : Int) (ways : List (List Bool)) (p : GProg) : awp (envOf [k_impl_truth]) (bodyOf f_impl_leads_3) (l_impl_leads_3 x y ways p) 0 (funPost (envOf [k_impl_truth]) f_impl_leads_3 fun r => areEq r [⟨.bool, gt2 ways x y && !truE y p.cond⟩]) (startState f_impl_leads_3 [.val ⟨(.int .i64), x⟩, .val ⟨(.int .i64), y⟩, .ref ⟨(.slice (.slice .bool)), ways⟩, .ref ⟨(.st .prog), p⟩]) =
  ((ways.length ≤ 140737488355328 →
 (idxOk x ways.length ∧ ((ways.getD (Int.toNat x) []).length ≤ 140737488355328 →
 (idxOk y (ways.getD (Int.toNat x) []).length ∧ ((((ways.getD (Int.toNat x) []).getD (Int.toNat y) false) = true →
 ((goodC p.cond = true ∧ 0 ≤ y ∧ y ≤ 4096) ∧ (!(truE y p.cond)) = (gt2 ways x y && !truE y p.cond))) ∧ (((ways.getD (Int.toNat x) []).getD (Int.toNat y) false) = (!true) →
 false = (gt2 ways x y && !truE y p.cond)))))))) := by kernel_rfl
set_option maxRecDepth 4000 in
set_option maxHeartbeats 1000000 in
theorem ok_impl_leads_3 (hE : AllGood [k_impl_truth]) : Ctr.Good k_impl_leads_3 := by
  refine ⟨fnOk_of at_impl_leads_3 rfl (by decide), ?_⟩
  show ∀ (x : Int) (y : Int) (ways : List (List Bool)) (p : GProg), (goodC p.cond = true ∧ inT ways x y) → OkCall prog n_impl_leads_3 [.val ⟨(.int .i64), x⟩, .val ⟨(.int .i64), y⟩, .ref ⟨(.slice (.slice .bool)), ways⟩, .ref ⟨(.st .prog), p⟩] (· = [⟨.bool, gt2 ways x y && !truE y p.cond⟩])
  intro x y ways p hp
  refine ok_of_awp (wr := []) (cl := []) (ro := []) hE at_impl_leads_3 body_impl_leads_3 (l_impl_leads_3 x y ways p) ?_
  rewrite [vc_impl_leads_3 x y ways p]
  have f0 := hp.2
  unfold inT at f0
  refine fun a0 => ⟨?_, fun a1 => ⟨?_, ⟨fun a2 => ⟨?_, ?_⟩, fun a2 => ?_⟩⟩⟩
  all_goals try and_intros
  all_goals first | rfl | trivial | omega | (simp only [decide_eq_true_eq, decide_eq_false_iff_not, idxOk, inI64] at *; omega) | grind [gt2, idxOk, inI64]

theorem good_impl_leads_3 : Ctr.Good k_impl_leads_3 := ok_impl_leads_3 ⟨good_impl_truth, trivial⟩

def F_impl_leads_4 (p : GProg) (ks : List (List (List Bool))) : Int → Int → Prop × Bool := fun (x : Int) (y : Int) => ((0 ≤ x ∧ x ≤ 4096 ∧ (p.kind = 4 ∨ p.kind = 6 → goodC p.cond = true) ∧ (p.kind = 6 → 2 ≤ ks.length ∧ inT (ks.getD 0 []) x y ∧ inT (ks.getD 1 []) x y)), if p.kind = 1 then decide (x = y) else if p.kind = 4 then decide (x = y) && truE x p.cond else if p.kind = 6 then (if truE x p.cond = true then gt2 (ks.getD 0 []) x y else gt2 (ks.getD 1 []) x y) else false)
theorem F_impl_leads_4_1 (p : GProg) (ks : List (List (List Bool))) (x : Int) (y : Int) : (F_impl_leads_4 p ks x y).1 = (0 ≤ x ∧ x ≤ 4096 ∧ (p.kind = 4 ∨ p.kind = 6 → goodC p.cond = true) ∧ (p.kind = 6 → 2 ≤ ks.length ∧ inT (ks.getD 0 []) x y ∧ inT (ks.getD 1 []) x y)) := rfl
theorem F_impl_leads_4_2 (p : GProg) (ks : List (List (List Bool))) (x : Int) (y : Int) : (F_impl_leads_4 p ks x y).2 = (if p.kind = 1 then decide (x = y) else if p.kind = 4 then decide (x = y) && truE x p.cond else if p.kind = 6 then (if truE x p.cond = true then gt2 (ks.getD 0 []) x y else gt2 (ks.getD 1 []) x y) else false) := rfl
def q_impl_leads_4 : Nat × CloK := (n_impl_leads_4, ⟨[(.int .i64), (.int .i64)], .bool, [(true, (.st .prog)), (true, (.slice (.slice (.slice .bool))))]⟩)
def k_impl_leads_4 : Ctr := ⟨n_impl_leads_4, [.v (.int .i64), .v (.int .i64), .r (.st .prog), .r (.slice (.slice (.slice .bool)))], fun (x : Int) (y : Int) (p : GProg) (ks : List (List (List Bool))) => ⟨(some (0 ≤ x ∧ x ≤ 4096 ∧ (p.kind = 4 ∨ p.kind = 6 → goodC p.cond = true) ∧ (p.kind = 6 → 2 ≤ ks.length ∧ inT (ks.getD 0 []) x y ∧ inT (ks.getD 1 []) x y)), [⟨.bool, if p.kind = 1 then decide (x = y) else if p.kind = 4 then decide (x = y) && truE x p.cond else if p.kind = 6 then (if truE x p.cond = true then gt2 (ks.getD 0 []) x y else gt2 (ks.getD 1 []) x y) else false⟩])⟩⟩
def l_impl_leads_4 (x : Int) (y : Int) (p : GProg) (ks : List (List (List Bool))) : Nat → LoopInv := fun _ => .none
theorem vc_impl_leads_4 (x : Int) (y : Int) (p : GProg) (ks : List (List (List Bool))) : awp (envOf [k_impl_truth]) (bodyOf f_impl_leads_4) (l_impl_leads_4 x y p ks) 0 (funPost (envOf [k_impl_truth]) f_impl_leads_4 fun r => areEq r [⟨.bool, if p.kind = 1 then decide (x = y) else if p.kind = 4 then decide (x = y) && truE x p.cond else if p.kind = 6 then (if truE x p.cond = true then gt2 (ks.getD 0 []) x y else gt2 (ks.getD 1 []) x y) else false⟩]) (startState f_impl_leads_4 [.val ⟨(.int .i64), x⟩, .val ⟨(.int .i64), y⟩, .ref ⟨(.st .prog), p⟩, .ref ⟨(.slice (.slice (.slice .bool))), ks⟩]) =
  ((inI64 p.kind →
 (((decide (p.kind = (1 : Int))) = true →
 (decide (x = y)) = (if p.kind = 1 then decide (x = y) else if p.kind = 4 then decide (x = y) && truE x p.cond else if p.kind = 6 then (if truE x p.cond = true then gt2 (ks.getD 0 []) x y else gt2 (ks.getD 1 []) x y) else false)) ∧ ((decide (p.kind = (1 : Int))) = false →
 (((decide (p.kind = (4 : Int))) = true →
 (((decide (x = y)) = true →
 ((goodC p.cond = true ∧ 0 ≤ x ∧ x ≤ 4096) ∧ (truE x p.cond) = (if p.kind = 1 then decide (x = y) else if p.kind = 4 then decide (x = y) && truE x p.cond else if p.kind = 6 then (if truE x p.cond = true then gt2 (ks.getD 0 []) x y else gt2 (ks.getD 1 []) x y) else false))) ∧ ((decide (x = y)) = (!true) →
 false = (if p.kind = 1 then decide (x = y) else if p.kind = 4 then decide (x = y) && truE x p.cond else if p.kind = 6 then (if truE x p.cond = true then gt2 (ks.getD 0 []) x y else gt2 (ks.getD 1 []) x y) else false)))) ∧ ((decide (p.kind = (4 : Int))) = false →
 (((decide (p.kind = (6 : Int))) = true →
 ((goodC p.cond = true ∧ 0 ≤ x ∧ x ≤ 4096) ∧ (((truE x p.cond) = true →
 (ks.length ≤ 140737488355328 →
 (idxOk (0 : Int) ks.length ∧ ((ks.getD 0 []).length ≤ 140737488355328 →
 (idxOk x (ks.getD 0 []).length ∧ (((ks.getD 0 []).getD (Int.toNat x) []).length ≤ 140737488355328 →
 (idxOk y ((ks.getD 0 []).getD (Int.toNat x) []).length ∧ (((ks.getD 0 []).getD (Int.toNat x) []).getD (Int.toNat y) false) = (if p.kind = 1 then decide (x = y) else if p.kind = 4 then decide (x = y) && truE x p.cond else if p.kind = 6 then (if truE x p.cond = true then gt2 (ks.getD 0 []) x y else gt2 (ks.getD 1 []) x y) else false)))))))) ∧ ((truE x p.cond) = false →
 (ks.length ≤ 140737488355328 →
 (idxOk (1 : Int) ks.length ∧ ((ks.getD 1 []).length ≤ 140737488355328 →
 (idxOk x (ks.getD 1 []).length ∧ (((ks.getD 1 []).getD (Int.toNat x) []).length ≤ 140737488355328 →
 (idxOk y ((ks.getD 1 []).getD (Int.toNat x) []).length ∧ (((ks.getD 1 []).getD (Int.toNat x) []).getD (Int.toNat y) false) = (if p.kind = 1 then decide (x = y) else if p.kind = 4 then decide (x = y) && truE x p.cond else if p.kind = 6 then (if truE x p.cond = true then gt2 (ks.getD 0 []) x y else gt2 (ks.getD 1 []) x y) else false))))))))))) ∧ ((decide (p.kind = (6 : Int))) = false →
 false = (if p.kind = 1 then decide (x = y) else if p.kind = 4 then decide (x = y) && truE x p.cond else if p.kind = 6 then (if truE x p.cond = true then gt2 (ks.getD 0 []) x y else gt2 (ks.getD 1 []) x y) else false))))))))) := by kernel_rfl
set_option maxRecDepth 4000 in
set_option maxHeartbeats 1000000 in
theorem ok_impl_leads_4 (hE : AllGood [k_impl_truth]) : Ctr.Good k_impl_leads_4 := by
  refine ⟨fnOk_of at_impl_leads_4 rfl (by decide), ?_⟩
  show ∀ (x : Int) (y : Int) (p : GProg) (ks : List (List (List Bool))), (0 ≤ x ∧ x ≤ 4096 ∧ (p.kind = 4 ∨ p.kind = 6 → goodC p.cond = true) ∧ (p.kind = 6 → 2 ≤ ks.length ∧ inT (ks.getD 0 []) x y ∧ inT (ks.getD 1 []) x y)) → OkCall prog n_impl_leads_4 [.val ⟨(.int .i64), x⟩, .val ⟨(.int .i64), y⟩, .ref ⟨(.st .prog), p⟩, .ref ⟨(.slice (.slice (.slice .bool))), ks⟩] (· = [⟨.bool, if p.kind = 1 then decide (x = y) else if p.kind = 4 then decide (x = y) && truE x p.cond else if p.kind = 6 then (if truE x p.cond = true then gt2 (ks.getD 0 []) x y else gt2 (ks.getD 1 []) x y) else false⟩])
  intro x y p ks hp
  refine ok_of_awp (wr := []) (cl := []) (ro := []) hE at_impl_leads_4 body_impl_leads_4 (l_impl_leads_4 x y p ks) ?_
  rewrite [vc_impl_leads_4 x y p ks]
  have f0 := hp
  unfold inT at f0
  refine fun a0 => ⟨fun a1 => ?_, fun a1 => ⟨fun a2 => ⟨fun a3 => ⟨?_, ?_⟩, fun a3 => ?_⟩, fun a2 => ⟨fun a3 => ⟨?_, ⟨fun a4 => fun a5 => ⟨?_, fun a6 => ⟨?_, fun a7 => ⟨?_, ?_⟩⟩⟩, fun a4 => fun a5 => ⟨?_, fun a6 => ⟨?_, fun a7 => ⟨?_, ?_⟩⟩⟩⟩⟩, fun a3 => ?_⟩⟩⟩
  all_goals try and_intros
  all_goals first | rfl | trivial | omega | (simp only [decide_eq_true_eq, decide_eq_false_iff_not, idxOk, inI64] at *; omega) | grind [gt2, idxOk, inI64]

theorem good_impl_leads_4 : Ctr.Good k_impl_leads_4 := ok_impl_leads_4 ⟨good_impl_truth, trivial⟩

def powT (t : List (List Bool)) : Nat → List (List Bool)
  | 0 => t
  | k + 1 => compT (powT t k) (powT t k)
def leadN (n : Int) (xs : List GPremise) (p : GProg) (ks : List (List (List Bool))) : List (List Bool) :=
  if p.kind = 3 then tabF n (F_impl_leads_1 xs p) else if p.kind = 5 then compT (ks.getD 0 []) (ks.getD 1 [])
  else if p.kind = 7 then tabF n (F_impl_leads_3 (powT (tabF n (F_impl_leads_2 p ks)) n.toNat) p) else tabF n (F_impl_leads_4 p ks)
mutual
def leadT (n : Int) (xs : List GPremise) : GProg → List (List Bool)
  | ⟨k, m, c, ks⟩ => leadN n xs ⟨k, m, c, ks⟩ (leadTs n xs ks)
def leadTs (n : Int) (xs : List GPremise) : List GProg → List (List (List Bool))
  | [] => []
  | p :: ps => leadT n xs p :: leadTs n xs ps
end
theorem leadT_eq (n : Int) (xs : List GPremise) (p : GProg) : leadT n xs p = leadN n xs p (leadTs n xs p.kids) := by cases p; rfl
theorem leadTs_eq (n : Int) (xs : List GPremise) : ∀ ps, leadTs n xs ps = ps.map (leadT n xs)
  | [] => rfl
  | p :: ps => by rw [leadTs, List.map_cons, leadTs_eq n xs ps]
theorem leadTs_len (n : Int) (xs : List GPremise) (ps : List GProg) : (leadTs n xs ps).length = ps.length := by simp [leadTs_eq]
theorem leadTs_getD (n : Int) (xs : List GPremise) (z : GProg) (ps : List GProg) (i : Nat) (h : i < ps.length) : (leadTs n xs ps).getD i [] = leadT n xs (ps.getD i z) := by
  rw [leadTs_eq]; simp [List.getD, h]
theorem leadTs_take (n : Int) (xs : List GPremise) (z : GProg) (ps : List GProg) (k : Nat) (h : k < ps.length) : leadTs n xs (ps.take k) ++ [leadT n xs (ps.getD k z)] = leadTs n xs (ps.take (k + 1)) := by
  rw [take_snoc z ps k h, leadTs_eq, leadTs_eq]; simp
theorem leadTs_zero (n : Int) (xs : List GPremise) (ps : List GProg) : [] = leadTs n xs (ps.take 0) := by simp [leadTs]
theorem leadTs_all (n : Int) (xs : List GPremise) (ps : List GProg) (k : Nat) (h : ps.length ≤ k) : leadTs n xs (ps.take k) = leadTs n xs ps := by rw [List.take_of_length_le h]
theorem powT_sq (n : Nat) (t : List (List Bool)) (h : sqT n t) : ∀ k, sqT n (powT t k)
  | 0 => h
  | k + 1 => compT_sq n _ _ (powT_sq n t h k)
theorem headP_kids (gg : GSig) (p : GProg) (h : headP gg p = true) : (p.kind = 5 ∨ p.kind = 6 → p.kids.length = 2) ∧ (p.kind = 7 → p.kids.length = 1) := by
  rw [headP_eq] at h
  simp only [Bool.and_eq_true, decide_eq_true_eq] at h
  have h1 := h.1.1
  refine ⟨fun e => ?_, fun e => ?_⟩
  · rcases e with e | e <;> rw [e] at h1 <;> simp [kidsPN] at h1 <;> omega
  · rw [e] at h1; simp [kidsPN] at h1; omega
theorem okL_len (gg : GSig) (xs : List GPremise) (p : GProg) (h : headP gg p = true) : p.kids.length ≤ 2 := by
  rw [headP_eq] at h
  simp only [Bool.and_eq_true, decide_eq_true_eq] at h
  have h1 := h.1.1
  unfold kidsPN at h1
  repeat' split at h1
  all_goals omega
theorem headP_cond (gg : GSig) (p : GProg) (hs : sigOk gg = true) (h : headP gg p = true) : (p.kind = 4 ∨ p.kind = 6 ∨ p.kind = 7) → goodC p.cond = true := by
  rw [headP_eq] at h
  simp only [Bool.and_eq_true] at h
  have h1 := h.2
  intro e
  have : asksP p.kind = true := by rcases e with e | e | e <;> simp [asksP, e]
  rw [conP, if_pos this] at h1
  exact isC_good gg _ hs h1
mutual
theorem leadT_sq (gg : GSig) (n : Int) (xs : List GPremise) : ∀ p : GProg, treeP gg p = true → sqT n.toNat (leadT n xs p)
  | ⟨k, m, c, ks⟩ => fun h => by
    have hk := leadTs_sq gg n xs ks
    rw [treeP_eq] at h
    simp only [Bool.and_eq_true] at h
    obtain ⟨h1, h2⟩ := h
    have h3 := headP_kids gg _ h1
    rw [leadT, leadN]
    split
    · exact tabF_sq _ _
    · split
      · rename_i e
        have h4 : ks.length = 2 := h3.1 (.inl e)
        have h5 := hk h2 0 (by omega)
        exact compT_sq _ _ _ h5
      · split
        · exact tabF_sq _ _
        · exact tabF_sq _ _
theorem leadTs_sq (gg : GSig) (n : Int) (xs : List GPremise) : ∀ ps : List GProg, allL (treeP gg) ps = true → ∀ i, i < ps.length → sqT n.toNat ((leadTs n xs ps).getD i [])
  | [] => fun _ i h => by simp at h
  | p :: ps => fun h i hi => by
    simp only [allL, Bool.and_eq_true] at h
    have h1 := leadT_sq gg n xs p h.1
    have h2 := leadTs_sq gg n xs ps h.2
    cases i with
    | zero => simpa [leadTs] using h1
    | succ i => simpa [leadTs] using h2 i (by simpa using hi)
end
/-- What a walk of the program asks for. -/
structure okL (gg : GSig) (xs : List GPremise) (p : GProg) : Prop where
  sig : sigOk gg = true
  gd : allL gdP xs = true
  tree : treeP gg p = true
theorem sigOk_n (gg : GSig) (h : sigOk gg = true) : (0 ≤ gg.tests ∧ gg.tests ≤ 3) ∧ 1 ≤ atomsN gg ∧ atomsN gg ≤ 8 := by
  rw [sigOk_iff] at h
  exact ⟨h.1, atomsN_le gg h.1⟩
theorem okL_kid (gg : GSig) (xs : List GPremise) (p : GProg) (h : okL gg xs p) (z : GProg) (i : Nat) (hi : i < p.kids.length) : okL gg xs (p.kids.getD i z) := by
  refine ⟨h.1, h.gd, ?_⟩
  have := h.tree
  rw [treeP_eq, Bool.and_eq_true] at this
  exact all_getD _ _ _ _ hi this.2
theorem sqT_self (n : Nat) (t : List (List Bool)) (h : sqT n t) : t.length = n ∧ sqT t.length t := by
  have := h.1
  rw [this]; exact ⟨rfl, h⟩
theorem lead3 (gg : GSig) (xs : List GPremise) (p : GProg) (h : okL gg xs p) (e : p.kind = 3) : askF (atomsN gg) (F_impl_leads_1 xs p) ∧ tabF (atomsN gg) (F_impl_leads_1 xs p) = leadT (atomsN gg) xs p := by
  have hn := (sigOk_n gg h.1).2
  refine ⟨fun x y h1 h2 h3 h4 => ?_, by rw [leadT_eq, leadN, if_pos e]⟩
  rw [F_impl_leads_1_1]
  exact ⟨h.gd, h1, by omega, h3, by omega⟩
theorem lead5 (gg : GSig) (xs : List GPremise) (p : GProg) (h : okL gg xs p) (e : p.kind = 5) : p.kids.length = 2 ∧ ((leadTs (atomsN gg) xs p.kids).getD 0 []).length ≤ 4096 ∧
    sqT ((leadTs (atomsN gg) xs p.kids).getD 0 []).length ((leadTs (atomsN gg) xs p.kids).getD 0 []) ∧ sqT ((leadTs (atomsN gg) xs p.kids).getD 0 []).length ((leadTs (atomsN gg) xs p.kids).getD 1 []) ∧
    compT ((leadTs (atomsN gg) xs p.kids).getD 0 []) ((leadTs (atomsN gg) xs p.kids).getD 1 []) = leadT (atomsN gg) xs p := by
  have hn := (sigOk_n gg h.1).2
  have ht := h.tree
  rw [treeP_eq, Bool.and_eq_true] at ht
  have h2 := (headP_kids gg p ht.1).1 (.inl e)
  have s0 := leadTs_sq gg (atomsN gg) xs p.kids ht.2 0 (by omega)
  have s1 := leadTs_sq gg (atomsN gg) xs p.kids ht.2 1 (by omega)
  have l0 := s0.1
  refine ⟨h2, by omega, by rw [l0]; exact s0, by rw [l0]; exact s1, ?_⟩
  rw [leadT_eq, leadN, if_neg (by omega), if_pos e]
def way0 (gg : GSig) (xs : List GPremise) (p : GProg) : List (List Bool) := tabF (atomsN gg) (F_impl_leads_2 p (leadTs (atomsN gg) xs p.kids))
theorem lead7 (gg : GSig) (xs : List GPremise) (p : GProg) (h : okL gg xs p) (e : p.kind = 7) : askF (atomsN gg) (F_impl_leads_2 p (leadTs (atomsN gg) xs p.kids)) ∧
    (∀ k, (powT (way0 gg xs p) k).length ≤ 4096 ∧ sqT (powT (way0 gg xs p) k).length (powT (way0 gg xs p) k) ∧ askF (atomsN gg) (F_impl_leads_3 (powT (way0 gg xs p) k) p)) ∧
    tabF (atomsN gg) (F_impl_leads_3 (powT (way0 gg xs p) (atomsN gg).toNat) p) = leadT (atomsN gg) xs p := by
  have hn := (sigOk_n gg h.1).2
  have ht := h.tree
  rw [treeP_eq, Bool.and_eq_true] at ht
  have h2 := (headP_kids gg p ht.1).2 e
  have hc := headP_cond gg p h.1 ht.1 (by omega)
  have s0 := leadTs_sq gg (atomsN gg) xs p.kids ht.2 0 (by omega)
  refine ⟨fun x y h1 h2 h3 h4 => ?_, fun k => ?_, ?_⟩
  · rw [F_impl_leads_2_1]
    exact ⟨hc, by rw [leadTs_len]; omega, inT_of _ _ s0 (by omega) x y ⟨h1, by omega⟩ ⟨h3, by omega⟩⟩
  · have s := powT_sq _ (way0 gg xs p) (tabF_sq _ _) k
    have l := s.1
    refine ⟨by omega, by rw [l]; exact s, fun x y h1 h2 h3 h4 => ?_⟩
    rw [F_impl_leads_3_1]
    exact ⟨hc, inT_of _ _ s (by omega) x y ⟨h1, by omega⟩ ⟨h3, by omega⟩⟩
  · rw [leadT_eq, leadN, if_neg (by omega), if_neg (by omega), if_pos e]; rfl
theorem leadX (gg : GSig) (xs : List GPremise) (p : GProg) (h : okL gg xs p) (e3 : p.kind ≠ 3) (e5 : p.kind ≠ 5) (e7 : p.kind ≠ 7) : askF (atomsN gg) (F_impl_leads_4 p (leadTs (atomsN gg) xs p.kids)) ∧
    tabF (atomsN gg) (F_impl_leads_4 p (leadTs (atomsN gg) xs p.kids)) = leadT (atomsN gg) xs p := by
  have hn := (sigOk_n gg h.1).2
  have ht := h.tree
  rw [treeP_eq, Bool.and_eq_true] at ht
  refine ⟨fun x y h1 h2 h3 h4 => ?_, by rw [leadT_eq, leadN, if_neg e3, if_neg e5, if_neg e7]⟩
  rw [F_impl_leads_4_1]
  refine ⟨h1, by omega, fun e => headP_cond gg p h.1 ht.1 (by omega), fun e => ?_⟩
  have h6 := (headP_kids gg p ht.1).1 (.inr e)
  have s0 := leadTs_sq gg (atomsN gg) xs p.kids ht.2 0 (by omega)
  have s1 := leadTs_sq gg (atomsN gg) xs p.kids ht.2 1 (by omega)
  exact ⟨by rw [leadTs_len]; omega, inT_of _ _ s0 (by omega) x y ⟨h1, by omega⟩ ⟨h3, by omega⟩, inT_of _ _ s1 (by omega) x y ⟨h1, by omega⟩ ⟨h3, by omega⟩⟩

def kn_impl_leads (n : Nat) : Ctr := ⟨n_impl_leads, [.v (.st .sig), .v (.slice (.st .premise)), .v (.st .prog)], fun (gg : GSig) (xs : List GPremise) (p : GProg) => ⟨(some (msz p < n ∧ okL gg xs p), [⟨(.slice (.slice .bool)), leadT (atomsN gg) xs p⟩])⟩⟩
def k_impl_leads : Ctr := ⟨n_impl_leads, [.v (.st .sig), .v (.slice (.st .premise)), .v (.st .prog)], fun (gg : GSig) (xs : List GPremise) (p : GProg) => ⟨(some (okL gg xs p), [⟨(.slice (.slice .bool)), leadT (atomsN gg) xs p⟩])⟩⟩
def l_impl_leads (gg : GSig) (xs : List GPremise) (p : GProg) : Nat → LoopInv := (fun zb => if Nat.beq zb 0 then .mk (Nat) (fun k => k ≤ p.kids.length) (fun k => p.kids.length - k) [] [0, 1, 2, 9, 12, 13, 14, 15] (fun k => [(18, .imm ⟨(.int .i64), ((k : Int) : Int)⟩)]) [3, 4, 5, 6, 7, 10, 11, 16, 17, 18, 19, 20, 21, 22, 23, 24, 25, 26, 27, 28, 29, 30, 31, 32, 33, 34, 35, 36, 37, 38, 39, 40, 41, 42, 43, 44, 45, 46, 47, 48, 49, 50, 51, 52, 53, 54, 55, 56, 57, 58, 59, 60, 61, 62, 63] (fun k => [(8, .box [.row 14]), (14, .row T_s_s_bool (.slice (.slice .bool)) (leadTs (atomsN gg) xs (p.kids.take k) : List (List (List Bool))))]) [] [] (fun k => fun _ => .none) else if Nat.beq zb 100008 then .mk (Unit) (fun u => True) (fun u => 0) [] [0, 1, 2, 3, 9, 10, 12, 13, 14, 15, 16, 17, 18, 19, 20, 21, 22, 23, 24, 25, 26, 27, 28, 29] (fun u => []) [4, 5, 6, 7, 11, 30, 31, 32, 33, 34, 35, 36, 37, 38, 39, 40, 41, 42, 43, 44, 45, 46, 47, 48, 49, 50, 51, 52, 53, 54, 55, 56, 57, 58, 59, 60, 61, 62, 63] (fun u => [(8, .box [.row 14]), (14, .row T_s_s_bool (.slice (.slice .bool)) ((leadTs (atomsN gg) xs p.kids) : List (List (List Bool))))]) [] [] (fun u => (fun zb => if Nat.beq zb 3 then .mk (Nat) (fun k => k ≤ (atomsN gg).toNat ∧ p.kind = 7) (fun k => (atomsN gg).toNat - k) [] [0, 1, 2, 3, 4, 9, 10, 12, 13, 14, 15, 16, 17, 18, 19, 20, 21, 22, 23, 24, 25, 26, 27, 28, 29, 30, 31, 32, 33, 34, 35, 36, 37, 38, 39, 40, 41, 42, 43, 44, 45, 46, 47, 48, 49, 50] (fun k => [(52, .imm ⟨(.int .i64), ((k : Int) : Int)⟩)]) [5, 6, 7, 8, 14, 51, 52, 53, 54, 55, 56, 57, 58, 59, 60, 61, 62, 63] (fun k => [(11, .box [.imm ⟨(.slice (.slice .bool)), (powT (way0 gg xs p) k : List (List Bool))⟩])]) [] [] (fun k => fun _ => .none) else .none)) else .none)
theorem vc_impl_leads (n : Nat) (gg : GSig) (xs : List GPremise) (p : GProg) : awp (envOf [kn_impl_leads n, k_impl_atomsIn, k_impl_table_bool, k_impl_composed, k_impl_leads_1, k_impl_leads_2, k_impl_leads_3, k_impl_leads_4] [] [q_impl_leads_1, q_impl_leads_2, q_impl_leads_3, q_impl_leads_4] [3, 4, 5]) (bodyOf f_impl_leads) (l_impl_leads gg xs p) 0 (funPost (envOf [kn_impl_leads n, k_impl_atomsIn, k_impl_table_bool, k_impl_composed, k_impl_leads_1, k_impl_leads_2, k_impl_leads_3, k_impl_leads_4] [] [q_impl_leads_1, q_impl_leads_2, q_impl_leads_3, q_impl_leads_4] [3, 4, 5]) f_impl_leads fun r => areEq r [⟨(.slice (.slice .bool)), leadT (atomsN gg) xs p⟩]) (startState f_impl_leads [.val ⟨(.st .sig), gg⟩, .val ⟨(.slice (.st .premise)), xs⟩, .val ⟨(.st .prog), p⟩]) =
  (((0 ≤ gg.tests ∧ gg.tests ≤ 3) ∧ (inI64 (atomsN gg) →
 ((p.kids.length ≤ 140737488355328 →
 (inI64 ((p.kids.length : Int)) →
 ((∃ k1 : Nat, (k1 ≤ p.kids.length ∧ ((gg = gg ∧ (xs = xs ∧ (p = p ∧ (True ∧ ((atomsN gg) = (atomsN gg) ∧ (True ∧ (p.kids = p.kids ∧ (((p.kids.length : Int)) = ((p.kids.length : Int)) ∧ ((0 : Int) = (k1 : Int) ∧ True))))))))) ∧ ((True ∧ True) ∧ ([] = (leadTs (atomsN gg) xs (p.kids.take k1)) ∧ True))))) ∧ (∀ k1 : Nat, (k1 ≤ p.kids.length →
 (((decide ((k1 : Int) < ((p.kids.length : Int)))) = true →
 (idxOk (k1 : Int) p.kids.length ∧ ((msz (e_prog (p.kids.getD k1 (GProg.mk (0 : Int) (0 : Int) (GExpr.mk (0 : Int) (0 : Int) []) []))) < n ∧ okL gg xs (e_prog (p.kids.getD k1 (GProg.mk (0 : Int) (0 : Int) (GExpr.mk (0 : Int) (0 : Int) []) [])))) ∧ (xs.length ≤ 140737488355328 →
 ((leadT (atomsN gg) xs (e_prog (p.kids.getD k1 (GProg.mk (0 : Int) (0 : Int) (GExpr.mk (0 : Int) (0 : Int) []) [])))).length ≤ 140737488355328 →
 (roomOk ((leadTs (atomsN gg) xs (p.kids.take k1)).length + ([(leadT (atomsN gg) xs (e_prog (p.kids.getD k1 (GProg.mk (0 : Int) (0 : Int) (GExpr.mk (0 : Int) (0 : Int) []) []))))]).length) 24 ∧ (inI64 ((k1 : Int) + (1 : Int)) ∧ (∃ k2 : Nat, (k2 ≤ p.kids.length ∧ (p.kids.length - k2 < p.kids.length - k1 ∧ ((gg = gg ∧ (xs = xs ∧ (p = p ∧ (True ∧ ((atomsN gg) = (atomsN gg) ∧ (True ∧ (p.kids = p.kids ∧ (((p.kids.length : Int)) = ((p.kids.length : Int)) ∧ (((k1 : Int) + (1 : Int)) = (k2 : Int) ∧ True))))))))) ∧ ((True ∧ True) ∧ (((leadTs (atomsN gg) xs (p.kids.take k1)) ++ ([(leadT (atomsN gg) xs (e_prog (p.kids.getD k1 (GProg.mk (0 : Int) (0 : Int) (GExpr.mk (0 : Int) (0 : Int) []) []))))])) = (leadTs (atomsN gg) xs (p.kids.take k2)) ∧ True))))))))))))) ∧ ((decide ((k1 : Int) < ((p.kids.length : Int)))) = false →
 (∃ u2 : Unit, (True ∧ ((xs = xs ∧ (p = p ∧ (True ∧ ((atomsN gg) = (atomsN gg) ∧ (True ∧ True))))) ∧ ((True ∧ True) ∧ ((leadTs (atomsN gg) xs (p.kids.take k1)) = (leadTs (atomsN gg) xs p.kids) ∧ True)))))))))))) ∧ (∀ u1 : Unit, (True →
 (inI64 p.kind →
 (((decide (p.kind = (3 : Int))) = true →
 ((0 ≤ (atomsN gg) ∧ (atomsN gg) ≤ 4096 ∧ askF (atomsN gg) (F_impl_leads_1 xs p)) ∧ ((tabF (atomsN gg) (F_impl_leads_1 xs p)).length ≤ 140737488355328 →
 (tabF (atomsN gg) (F_impl_leads_1 xs p)) = (leadT (atomsN gg) xs p)))) ∧ ((decide (p.kind = (3 : Int))) = false →
 (((decide (p.kind = (5 : Int))) = true →
 (idxOk (0 : Int) (leadTs (atomsN gg) xs p.kids).length ∧ (idxOk (1 : Int) (leadTs (atomsN gg) xs p.kids).length ∧ (((leadTs (atomsN gg) xs p.kids).getD 0 []).length ≤ 140737488355328 →
 (((leadTs (atomsN gg) xs p.kids).getD 1 []).length ≤ 140737488355328 →
 ((((leadTs (atomsN gg) xs p.kids).getD 0 []).length ≤ 4096 ∧ sqT ((leadTs (atomsN gg) xs p.kids).getD 0 []).length ((leadTs (atomsN gg) xs p.kids).getD 0 []) ∧ sqT ((leadTs (atomsN gg) xs p.kids).getD 0 []).length ((leadTs (atomsN gg) xs p.kids).getD 1 [])) ∧ ((compT ((leadTs (atomsN gg) xs p.kids).getD 0 []) ((leadTs (atomsN gg) xs p.kids).getD 1 [])).length ≤ 140737488355328 →
 (compT ((leadTs (atomsN gg) xs p.kids).getD 0 []) ((leadTs (atomsN gg) xs p.kids).getD 1 [])) = (leadT (atomsN gg) xs p)))))))) ∧ ((decide (p.kind = (5 : Int))) = false →
 (((decide (p.kind = (7 : Int))) = true →
 ((0 ≤ (atomsN gg) ∧ (atomsN gg) ≤ 4096 ∧ askF (atomsN gg) (F_impl_leads_2 p (leadTs (atomsN gg) xs p.kids))) ∧ ((tabF (atomsN gg) (F_impl_leads_2 p (leadTs (atomsN gg) xs p.kids))).length ≤ 140737488355328 →
 ((∃ k2 : Nat, ((k2 ≤ (atomsN gg).toNat ∧ p.kind = 7) ∧ ((p = p ∧ (True ∧ ((atomsN gg) = (atomsN gg) ∧ (True ∧ (True ∧ ((atomsN gg) = (atomsN gg) ∧ ((0 : Int) = (k2 : Int) ∧ True))))))) ∧ (((tabF (atomsN gg) (F_impl_leads_2 p (leadTs (atomsN gg) xs p.kids))) = (powT (way0 gg xs p) k2) ∧ True) ∧ (((leadTs (atomsN gg) xs p.kids) = (leadTs (atomsN gg) xs p.kids) ∧ True) ∧ True))))) ∧ (∀ k2 : Nat, ((k2 ≤ (atomsN gg).toNat ∧ p.kind = 7) →
 (((decide ((k2 : Int) < (atomsN gg))) = true →
 ((powT (way0 gg xs p) k2).length ≤ 140737488355328 →
 ((powT (way0 gg xs p) k2).length ≤ 140737488355328 →
 (((powT (way0 gg xs p) k2).length ≤ 4096 ∧ sqT (powT (way0 gg xs p) k2).length (powT (way0 gg xs p) k2) ∧ sqT (powT (way0 gg xs p) k2).length (powT (way0 gg xs p) k2)) ∧ ((compT (powT (way0 gg xs p) k2) (powT (way0 gg xs p) k2)).length ≤ 140737488355328 →
 (inI64 ((k2 : Int) + (1 : Int)) ∧ (∃ k3 : Nat, ((k3 ≤ (atomsN gg).toNat ∧ p.kind = 7) ∧ ((atomsN gg).toNat - k3 < (atomsN gg).toNat - k2 ∧ ((p = p ∧ (True ∧ ((atomsN gg) = (atomsN gg) ∧ (True ∧ (True ∧ ((atomsN gg) = (atomsN gg) ∧ (((k2 : Int) + (1 : Int)) = (k3 : Int) ∧ True))))))) ∧ (((compT (powT (way0 gg xs p) k2) (powT (way0 gg xs p) k2)) = (powT (way0 gg xs p) k3) ∧ True) ∧ (((leadTs (atomsN gg) xs p.kids) = (leadTs (atomsN gg) xs p.kids) ∧ True) ∧ True)))))))))))) ∧ ((decide ((k2 : Int) < (atomsN gg))) = false →
 ((0 ≤ (atomsN gg) ∧ (atomsN gg) ≤ 4096 ∧ askF (atomsN gg) (F_impl_leads_3 (powT (way0 gg xs p) k2) p)) ∧ ((tabF (atomsN gg) (F_impl_leads_3 (powT (way0 gg xs p) k2) p)).length ≤ 140737488355328 →
 (tabF (atomsN gg) (F_impl_leads_3 (powT (way0 gg xs p) k2) p)) = (leadT (atomsN gg) xs p))))))))))) ∧ ((decide (p.kind = (7 : Int))) = false →
 ((0 ≤ (atomsN gg) ∧ (atomsN gg) ≤ 4096 ∧ askF (atomsN gg) (F_impl_leads_4 p (leadTs (atomsN gg) xs p.kids))) ∧ ((tabF (atomsN gg) (F_impl_leads_4 p (leadTs (atomsN gg) xs p.kids))).length ≤ 140737488355328 →
 (tabF (atomsN gg) (F_impl_leads_4 p (leadTs (atomsN gg) xs p.kids))) = (leadT (atomsN gg) xs p)))))))))))))))) := by kernel_rfl
set_option maxRecDepth 4000 in
set_option maxHeartbeats 4000000 in
theorem ok_impl_leads (n : Nat) (hE : AllGood [kn_impl_leads n, k_impl_atomsIn, k_impl_table_bool, k_impl_composed, k_impl_leads_1, k_impl_leads_2, k_impl_leads_3, k_impl_leads_4]) : Ctr.Good (kn_impl_leads (n + 1)) := by
  refine ⟨fnOk_of at_impl_leads rfl (by decide), ?_⟩
  show ∀ (gg : GSig) (xs : List GPremise) (p : GProg), (msz p < n + 1 ∧ okL gg xs p) → OkCall prog n_impl_leads [.val ⟨(.st .sig), gg⟩, .val ⟨(.slice (.st .premise)), xs⟩, .val ⟨(.st .prog), p⟩] (· = [⟨(.slice (.slice .bool)), leadT (atomsN gg) xs p⟩])
  intro gg xs p hp
  refine ok_of_awp (wr := []) (cl := [q_impl_leads_1, q_impl_leads_2, q_impl_leads_3, q_impl_leads_4]) (ro := [3, 4, 5]) hE at_impl_leads body_impl_leads (l_impl_leads gg xs p) ?_
  rewrite [vc_impl_leads n gg xs p]
  have f0 := msz_kidsP p
  have f1 := sigOk_n gg hp.2.sig
  have f2 := leadTs_zero (atomsN gg) xs p.kids
  have f3 := lead3 gg xs p hp.2
  have f5 := lead5 gg xs p hp.2
  have f7 := lead7 gg xs p hp.2
  have fX := leadX gg xs p hp.2
  have fw : tabF (atomsN gg) (F_impl_leads_2 p (leadTs (atomsN gg) xs p.kids)) = way0 gg xs p := rfl
  have f8 := okL_len gg xs p (by have := hp.2.tree; rw [treeP_eq, Bool.and_eq_true] at this; exact this.1)
  have fl := leadTs_len (atomsN gg) xs p.kids
  refine ⟨?_, fun a0 => ⟨fun a1 => fun a2 => ⟨⟨0, ⟨?_, ⟨⟨rfl, ⟨rfl, ⟨rfl, ⟨trivial, ⟨rfl, ⟨trivial, ⟨rfl, ⟨rfl, ⟨?_, trivial⟩⟩⟩⟩⟩⟩⟩⟩⟩, ⟨⟨trivial, trivial⟩, ⟨?_, trivial⟩⟩⟩⟩⟩, fun k1 a3 => have b3x0 := leadTs_take (atomsN gg) xs (GProg.mk (0 : Int) (0 : Int) (GExpr.mk (0 : Int) (0 : Int) []) []) p.kids k1; have b3x1 := leadTs_all (atomsN gg) xs p.kids k1; have b3x2 := msz_getD (GProg.mk (0 : Int) (0 : Int) (GExpr.mk (0 : Int) (0 : Int) []) []) p.kids k1; have b3x3 := okL_kid gg xs p hp.2 (GProg.mk (0 : Int) (0 : Int) (GExpr.mk (0 : Int) (0 : Int) []) []) k1; have b3x4 := leadTs_len (atomsN gg) xs (p.kids.take k1); ⟨fun a4 => ⟨?_, ⟨?_, fun a5 => fun a6 => ⟨?_, ⟨?_, ⟨k1 + 1, ⟨?_, ⟨?_, ⟨⟨rfl, ⟨rfl, ⟨rfl, ⟨trivial, ⟨rfl, ⟨trivial, ⟨rfl, ⟨rfl, ⟨?_, trivial⟩⟩⟩⟩⟩⟩⟩⟩⟩, ⟨⟨trivial, trivial⟩, ⟨?_, trivial⟩⟩⟩⟩⟩⟩⟩⟩⟩⟩, fun a4 => ⟨(), ⟨?_, ⟨⟨rfl, ⟨rfl, ⟨trivial, ⟨rfl, ⟨trivial, trivial⟩⟩⟩⟩⟩, ⟨⟨trivial, trivial⟩, ⟨?_, trivial⟩⟩⟩⟩⟩⟩⟩, fun u1 => fun a1 => fun a2 => ⟨fun a3 => ⟨?_, fun a4 => ?_⟩, fun a3 => ⟨fun a4 => ⟨?_, ⟨?_, fun a5 => fun a6 => ⟨?_, fun a7 => ?_⟩⟩⟩, fun a4 => ⟨fun a5 => ⟨?_, fun a6 => ⟨⟨0, ⟨?_, ⟨⟨rfl, ⟨trivial, ⟨rfl, ⟨trivial, ⟨trivial, ⟨rfl, ⟨?_, trivial⟩⟩⟩⟩⟩⟩⟩, ⟨⟨?_, trivial⟩, ⟨⟨rfl, trivial⟩, trivial⟩⟩⟩⟩⟩, fun k2 a7 => have b7x0 := (fun e => ((lead7 gg xs p hp.2 e).2.1 k2)); ⟨fun a8 => fun a9 => fun a10 => ⟨?_, fun a11 => ⟨?_, ⟨k2 + 1, ⟨?_, ⟨?_, ⟨⟨rfl, ⟨trivial, ⟨rfl, ⟨trivial, ⟨trivial, ⟨rfl, ⟨?_, trivial⟩⟩⟩⟩⟩⟩⟩, ⟨⟨?_, trivial⟩, ⟨⟨rfl, trivial⟩, trivial⟩⟩⟩⟩⟩⟩⟩⟩, fun a8 => ⟨?_, fun a9 => ?_⟩⟩⟩⟩, fun a5 => ⟨?_, fun a6 => ?_⟩⟩⟩⟩⟩⟩
  all_goals try and_intros
  all_goals try simp only [GExpr.eta, GProg.eta, GDerivation.eta, GTriple.eta, GPremise.eta, GClaim.eta, GEquation.eta, GPair.eta, GSpot.eta, e_expr_eq, e_pair_eq, e_equation_eq, e_claim_eq, e_prog_eq, e_spot_eq, e_triple_eq, e_premise_eq, e_derivation_eq] at *
  all_goals first | rfl | trivial | omega | (simp only [decide_eq_true_eq, decide_eq_false_iff_not, idxOk, inI64, roomOk, leadTs_len, List.length_append, List.length_cons, List.length_nil, List.length_take] at *; omega) | (refine ⟨by omega, by omega, ?_⟩; grind) | grind [idxOk, powT]

theorem all_leads  : ∀ n, AllGood [kn_impl_leads n]
  | 0 => ⟨⟨fnOk_of at_impl_leads rfl (by decide), fun _ _ _ h => absurd h.1 (Nat.not_lt_zero _)⟩, trivial⟩
  | n + 1 => by
    have ih := all_leads  n
    exact ⟨ok_impl_leads n ⟨ih.1, good_impl_atomsIn, good_impl_table_bool, good_impl_composed, good_impl_leads_1, good_impl_leads_2, good_impl_leads_3, good_impl_leads_4, trivial⟩, trivial⟩
theorem good_impl_leads  : Ctr.Good k_impl_leads :=
  ⟨fnOk_of at_impl_leads rfl (by decide), fun gg xs p hp => (all_leads  (msz p + 1)).1.2 gg xs p (⟨Nat.lt_succ_self _, hp⟩)⟩

end
end Go.Proofs.Ytcdppmpjplhgkaa

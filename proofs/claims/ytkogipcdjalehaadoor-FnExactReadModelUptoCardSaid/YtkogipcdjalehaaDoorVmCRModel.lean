/- The law FnExactReadModel. Printed by vmk.py. -/
import Derived.Test.YtkogipcdjalehaaDoorVmUse
import Derived.Test.YtkogipcdjalehaaDoorVmLib
import Derived.Test.YtkogipcdjalehaaDoorVmOwnFam2
import Derived.Test.YtkogipcdjalehaaDoorVmHeldB
import Derived.Test.YtkogipcdjalehaaDoorVmMdl2
import Derived.Test.YtkogipcdjalehaaDoorVmMdl5
import Derived.Test.YtkogipcdjalehaaDoorVmMdl6
set_option linter.unusedVariables false
set_option linter.unusedSimpArgs false
set_option linter.unusedSectionVars false
set_option maxRecDepth 4000
set_option maxHeartbeats 4000000
namespace Go.Proofs.YtkogipcdjalehaaDoor
noncomputable section
def heldM (k : Int) (ts : List (List Bool)) (ys : List (List (List Bool))) : Int := bif okL cn1 mk1 k ts then heldL cn2 mk2 (k + (szL cn1 ts : Int)) ys else -1
theorem heldM_eq (k : Int) (ts : List (List Bool)) (ys : List (List (List Bool))) : (okL cn1 mk1 k ts = true → heldM k ts ys = heldL cn2 mk2 (k + (szL cn1 ts : Int)) ys) ∧ (okL cn1 mk1 k ts = false → heldM k ts ys = -1) := by
 refine ⟨fun h => ?_, fun h => ?_⟩ <;> · unfold heldM; rw [h]; rfl
theorem heldM_mk (ts : List (List Bool)) (ys : List (List (List Bool))) : heldM 1 (mkL cn1 mk1 1 ts) (mkL cn2 mk2 (1 + (szL cn1 ts : Int)) ys) = 1 + (szL cn1 ts : Int) + (szL cn2 ys : Int) := by
 obtain ⟨h1, _⟩ := heldL_mk cn1 mk1 mk1_mk cn1_mk 1 ts
 have h2 := cn2_mk 1 ts
 have h2' : szL cn1 (mkL cn1 mk1 1 ts) = szL cn1 ts := h2
 rw [(heldM_eq _ _ _).1 h1, h2', (heldL_mk cn2 mk2 mk2_mk cn2_mk _ ys).2]
theorem szL_bound {α : Type} (f : α → Nat) (M : Nat) : ∀ xs : List α, (∀ x ∈ xs, f x ≤ M) → szL f xs ≤ M * xs.length
 | [], _ => by simp [szL]
 | x :: xs, h => by
  have h1 := szL_bound f M xs fun y hy => h y (by simp [hy])
  have h2 := h x (by simp)
  simp only [szL, List.length_cons, Nat.mul_succ]; omega
theorem cn1_le (r : List Bool) : szL cB r = r.length := by
 induction r with
 | nil => rfl
 | cons x xs ih => simp only [szL, List.length_cons, ih, cB]; omega
structure SmallM (m : GModel) : Prop where
 t : szL cn1 m.tests ≤ 1000
 a : szL cn2 m.acts ≤ 1000
 tl : m.tests.length ≤ 1000
 al : m.acts.length ≤ 1000
 ai : ∀ i, (m.acts.getD i []).length ≤ 1000
theorem mOk_small (m : GModel) (h : mOk m = true) : SmallM m := by
 have q := mOk_len m h
 have h1 := szL_bound cn1 8 m.tests fun r hr => by show szL cB r ≤ 8; rw [cn1_le]; exact q.rt r hr
 have h2 := szL_bound cn2 64 m.acts fun t ht => by
  have := szL_bound cn1 8 t fun r hr => by show szL cB r ≤ 8; rw [cn1_le]; exact (q.ra t ht).2 r hr
  have := (q.ra t ht).1
  show szL cn1 t ≤ 64
  omega
 have := q.lt; have := q.la
 refine ⟨by omega, by omega, by omega, by omega, fun i => ?_⟩
 rcases Nat.lt_or_ge i m.acts.length with k | k
 ·have := (q.ra _ (getD_mem [] m.acts i k)).1; omega
 ·rw [List.getD_eq_getElem?_getD, List.getElem?_eq_none k]; simp
theorem rmV_small (t : List UInt8) : SmallM (rmV t) := by
 rcases Bool.eq_false_or_eq_true (okI t) with h | h
 ·rw [((rm_facts t).1 h).1]
  exact mOk_small _ (okI_parts t h).1
 ·rw [((rm_facts t).2 h).1]
  exact ⟨Nat.zero_le _, Nat.zero_le _, Nat.zero_le _, Nat.zero_le _, fun i => by simp⟩
theorem smallL_of (xs : List (List (List Bool))) (h : xs.length ≤ 1000) (hi : ∀ i, (xs.getD i []).length ≤ 1000) : smallL xs := ⟨by omega, fun i => by have := hi i; omega⟩
theorem smallL_mk (k : Int) (xs : List (List (List Bool))) (h : xs.length ≤ 1000) (hi : ∀ i, (xs.getD i []).length ≤ 1000) : smallL (mkL cn2 mk2 k xs) := by
 refine ⟨by rw [mkL_length]; omega, fun i => ?_⟩
 rcases Nat.lt_or_ge i xs.length with q | q
 ·rw [mkL_getD cn2 mk2 [] k xs i q]
  show (mkL cn1 mk1 _ _).length ≤ _
  rw [mkL_length]
  have := hi i; omega
 ·rw [List.getD_eq_getElem?_getD, List.getElem?_eq_none (by rw [mkL_length]; exact q)]; simp
def mk_laws_markModel : MK := ⟨n_laws_markModel, ⟨(.st .model), fun (m : GModel) (k : Int) => (some (0 ≤ k ∧ k + (szL cn1 m.tests : Int) + (szL cn2 m.acts : Int) ≤ 4611686018427387904 ∧ m.tests.length ≤ 1048576 ∧ smallL m.acts), (GModel.mk m.sig m.points (mkL cn1 mk1 k m.tests) (mkL cn2 mk2 (k + (szL cn1 m.tests : Int)) m.acts)), k + (szL cn1 m.tests : Int) + (szL cn2 m.acts : Int))⟩⟩
def lm_laws_markModel (m : GModel) (k : Int) : Nat → LoopInv := fun _ => .none
theorem vcm_laws_markModel (m : GModel) (k : Int) : awp (envO [] [] [mk_laws_markBoolSS, mk_laws_markBoolSSS] [8, 12] []) (bodyOf f_laws_markModel) (lm_laws_markModel m k) 0 (markPost f_laws_markModel mk_laws_markModel.m m k) (markStart f_laws_markModel ⟨(.st .model), m⟩ k) =
 (((0 ≤ k ∧ k + (szL cn1 m.tests : Int) ≤ 4611686018427387904 ∧ m.tests.length ≤ 1048576) ∧ ((0 ≤ (k + (szL cn1 m.tests : Int)) ∧ (k + (szL cn1 m.tests : Int)) + (szL cn2 m.acts : Int) ≤ 4611686018427387904 ∧ smallL m.acts) ∧ (((k + (szL cn1 m.tests : Int)) + (szL cn2 m.acts : Int)) = (k + (szL cn1 m.tests : Int) + (szL cn2 m.acts : Int)) ∧ (GModel.mk m.sig m.points (mkL cn1 mk1 k m.tests) (mkL cn2 mk2 (k + (szL cn1 m.tests : Int)) m.acts)) = (GModel.mk m.sig m.points (mkL cn1 mk1 k m.tests) (mkL cn2 mk2 (k + (szL cn1 m.tests : Int)) m.acts)))))) := by kernel_rfl
theorem okm_laws_markModel (hE : AllGood []) (hO : AllO []) (hM : AllM [mk_laws_markBoolSS, mk_laws_markBoolSSS]) (hS : AllS []) : MK.Good mk_laws_markModel := by
 refine ⟨fnOk_of at_laws_markModel rfl (by decide), mark_of_awp (own := [8, 12]) (wr := []) (cl := []) (ro := []) hE hO hM hS at_laws_markModel body_laws_markModel (fun m k => lm_laws_markModel m k) (fun x => Nat.le_of_ble_eq_true rfl) (Nat.le_of_ble_eq_true (by kernel_rfl)) ?_⟩
 show ∀ (m : GModel) (k : Int), (0 ≤ k ∧ k + (szL cn1 m.tests : Int) + (szL cn2 m.acts : Int) ≤ 4611686018427387904 ∧ m.tests.length ≤ 1048576 ∧ smallL m.acts) → inI64 k → awp (envO [] [] [mk_laws_markBoolSS, mk_laws_markBoolSSS] [8, 12] []) (bodyOf f_laws_markModel) (lm_laws_markModel m k) 0 (markPost f_laws_markModel mk_laws_markModel.m m k) (markStart f_laws_markModel ⟨(.st .model), m⟩ k)
 intro m k hp hk
 rewrite [vcm_laws_markModel m k]
 refine ⟨?_, ⟨?_, ⟨?_, rfl⟩⟩⟩
 all_goals try and_intros
 all_goals first | rfl | trivial | omega | (simp only [decide_eq_true_eq, decide_eq_false_iff_not, idxOk, inI64, inKind, cutOk, makeOk, roomOk] at *; omega) | (simp [idxOk, inI64] at *; omega) | grind
theorem mgood_laws_markModel : MK.Good mk_laws_markModel := okm_laws_markModel trivial trivial ⟨mgood_laws_markBoolSS, mgood_laws_markBoolSSS, trivial⟩ trivial
def k_laws_heldModel : Ctr := ⟨n_laws_heldModel, [.v (.st .model), .v (.int .i64)], fun (m : GModel) (k : Int) => ⟨(some (0 ≤ k ∧ k + (szL cn1 m.tests : Int) + (szL cn2 m.acts : Int) ≤ 4611686018427387904 ∧ m.tests.length ≤ 1048576 ∧ smallL m.acts), [⟨(.int .i64), heldM k m.tests m.acts⟩])⟩⟩
def l_laws_heldModel (m : GModel) (k : Int) : Nat → LoopInv := fun _ => .none
theorem vc_laws_heldModel (m : GModel) (k : Int) : awp (envOf [k_laws_heldBoolSS, k_laws_heldBoolSSS] [] [] [2]) (bodyOf f_laws_heldModel) (l_laws_heldModel m k) 0 (funPost (envOf [k_laws_heldBoolSS, k_laws_heldBoolSSS] [] [] [2]) f_laws_heldModel fun r => areEq r [⟨(.int .i64), heldM k m.tests m.acts⟩]) (startState f_laws_heldModel [.val ⟨(.st .model), m⟩, .val ⟨(.int .i64), k⟩]) =
 ((m.tests.length ≤ 140737488355328 →
 ((0 ≤ k ∧ k + (szL cn1 m.tests : Int) ≤ 4611686018427387904 ∧ m.tests.length ≤ 1048576) ∧ (inI64 (heldL cn1 mk1 k m.tests) →
 (((decide ((heldL cn1 mk1 k m.tests) < (0 : Int))) = true →
 (-1 : Int) = (heldM k m.tests m.acts)) ∧ ((decide ((heldL cn1 mk1 k m.tests) < (0 : Int))) = false →
 (m.acts.length ≤ 140737488355328 →
 ((0 ≤ (heldL cn1 mk1 k m.tests) ∧ (heldL cn1 mk1 k m.tests) + (szL cn2 m.acts : Int) ≤ 4611686018427387904 ∧ smallL m.acts) ∧ (inI64 (heldL cn2 mk2 (heldL cn1 mk1 k m.tests) m.acts) →
 (((decide ((heldL cn2 mk2 (heldL cn1 mk1 k m.tests) m.acts) < (0 : Int))) = true →
 (-1 : Int) = (heldM k m.tests m.acts)) ∧ ((decide ((heldL cn2 mk2 (heldL cn1 mk1 k m.tests) m.acts) < (0 : Int))) = false →
 (heldL cn2 mk2 (heldL cn1 mk1 k m.tests) m.acts) = (heldM k m.tests m.acts)))))))))))) := by kernel_rfl
theorem ok_laws_heldModel (hE : AllGood [k_laws_heldBoolSS, k_laws_heldBoolSSS]) : Ctr.Good k_laws_heldModel := by
 refine ⟨fnOk_of at_laws_heldModel rfl (by decide), ?_⟩
 show ∀ (m : GModel) (k : Int), (0 ≤ k ∧ k + (szL cn1 m.tests : Int) + (szL cn2 m.acts : Int) ≤ 4611686018427387904 ∧ m.tests.length ≤ 1048576 ∧ smallL m.acts) → OkCall prog n_laws_heldModel [.val ⟨(.st .model), m⟩, .val ⟨(.int .i64), k⟩] (· = [⟨(.int .i64), heldM k m.tests m.acts⟩])
 intro m k hp
 refine ok_of_awp (wr := []) (cl := []) (ro := [2]) hE at_laws_heldModel body_laws_heldModel (l_laws_heldModel m k) ?_
 rewrite [vc_laws_heldModel m k]
 have f2 := heldL_eq cn1 mk1 k m.tests
 have f3 := heldL_eq cn2 mk2 (k + (szL cn1 m.tests : Int)) m.acts
 have f4 := heldM_eq k m.tests m.acts
 refine fun a0 => ⟨?_, fun a1 => ⟨fun a2 => ?_, fun a2 => fun a3 => ⟨?_, fun a4 => ⟨fun a5 => ?_, fun a5 => ?_⟩⟩⟩⟩
 all_goals try and_intros
 all_goals first | rfl | trivial | omega | (simp only [decide_eq_true_eq, decide_eq_false_iff_not, idxOk, inI64, mB_at, cB_at, Bool.not_eq_true', Bool.not_eq_false'] at *; first | omega | grind) | grind
theorem good_laws_heldModel : Ctr.Good k_laws_heldModel := ok_laws_heldModel ⟨good_laws_heldBoolSS, good_laws_heldBoolSSS, trivial⟩
def k_laws_FnExactReadModel : Ctr := ⟨n_laws_FnExactReadModel, [.v .str], fun (t : List UInt8) => ⟨(none, [⟨.bool, true⟩])⟩⟩
def l_laws_FnExactReadModel (t : List UInt8) : Nat → LoopInv := fun _ => .none
abbrev j_laws_FnExactReadModel_0 (t : List UInt8) : Prop := ((decide ((heldM (1 : Int) (GModel.mk (rmV t).sig (rmV t).points ((GModel.mk (rmV t).sig (rmV t).points (mkL cn1 mk1 (1 : Int) (rmV t).tests) (mkL cn2 mk2 ((1 : Int) + (szL cn1 (rmV t).tests : Int)) (rmV t).acts))).tests ((GModel.mk (rmV t).sig (rmV t).points (mkL cn1 mk1 (1 : Int) (rmV t).tests) (mkL cn2 mk2 ((1 : Int) + (szL cn1 (rmV t).tests : Int)) (rmV t).acts))).acts).tests (GModel.mk (rmV t).sig (rmV t).points ((GModel.mk (rmV t).sig (rmV t).points (mkL cn1 mk1 (1 : Int) (rmV t).tests) (mkL cn2 mk2 ((1 : Int) + (szL cn1 (rmV t).tests : Int)) (rmV t).acts))).tests ((GModel.mk (rmV t).sig (rmV t).points (mkL cn1 mk1 (1 : Int) (rmV t).tests) (mkL cn2 mk2 ((1 : Int) + (szL cn1 (rmV t).tests : Int)) (rmV t).acts))).acts).acts) < (0 : Int))) = true →
 false = true)
abbrev j_laws_FnExactReadModel_1 (t : List UInt8) : Prop := ((!(decide ((heldM (1 : Int) (GModel.mk (rmV t).sig (rmV t).points ((GModel.mk (rmV t).sig (rmV t).points (mkL cn1 mk1 (1 : Int) (rmV t).tests) (mkL cn2 mk2 ((1 : Int) + (szL cn1 (rmV t).tests : Int)) (rmV t).acts))).tests ((GModel.mk (rmV t).sig (rmV t).points (mkL cn1 mk1 (1 : Int) (rmV t).tests) (mkL cn2 mk2 ((1 : Int) + (szL cn1 (rmV t).tests : Int)) (rmV t).acts))).acts).tests (GModel.mk (rmV t).sig (rmV t).points ((GModel.mk (rmV t).sig (rmV t).points (mkL cn1 mk1 (1 : Int) (rmV t).tests) (mkL cn2 mk2 ((1 : Int) + (szL cn1 (rmV t).tests : Int)) (rmV t).acts))).tests ((GModel.mk (rmV t).sig (rmV t).points (mkL cn1 mk1 (1 : Int) (rmV t).tests) (mkL cn2 mk2 ((1 : Int) + (szL cn1 (rmV t).tests : Int)) (rmV t).acts))).acts).acts) = ((1 : Int) + (szL cn1 (rmV t).tests : Int) + (szL cn2 (rmV t).acts : Int))))) = true →
 false = true)
abbrev j_laws_FnExactReadModel_2 (t : List UInt8) : Prop := ((0 ≤ (1 : Int) ∧ (1 : Int) + (szL cn1 (GModel.mk (rmV t).sig (rmV t).points ((GModel.mk (rmV t).sig (rmV t).points (mkL cn1 mk1 (1 : Int) (rmV t).tests) (mkL cn2 mk2 ((1 : Int) + (szL cn1 (rmV t).tests : Int)) (rmV t).acts))).tests ((GModel.mk (rmV t).sig (rmV t).points (mkL cn1 mk1 (1 : Int) (rmV t).tests) (mkL cn2 mk2 ((1 : Int) + (szL cn1 (rmV t).tests : Int)) (rmV t).acts))).acts).tests : Int) + (szL cn2 (GModel.mk (rmV t).sig (rmV t).points ((GModel.mk (rmV t).sig (rmV t).points (mkL cn1 mk1 (1 : Int) (rmV t).tests) (mkL cn2 mk2 ((1 : Int) + (szL cn1 (rmV t).tests : Int)) (rmV t).acts))).tests ((GModel.mk (rmV t).sig (rmV t).points (mkL cn1 mk1 (1 : Int) (rmV t).tests) (mkL cn2 mk2 ((1 : Int) + (szL cn1 (rmV t).tests : Int)) (rmV t).acts))).acts).acts : Int) ≤ 4611686018427387904 ∧ (GModel.mk (rmV t).sig (rmV t).points ((GModel.mk (rmV t).sig (rmV t).points (mkL cn1 mk1 (1 : Int) (rmV t).tests) (mkL cn2 mk2 ((1 : Int) + (szL cn1 (rmV t).tests : Int)) (rmV t).acts))).tests ((GModel.mk (rmV t).sig (rmV t).points (mkL cn1 mk1 (1 : Int) (rmV t).tests) (mkL cn2 mk2 ((1 : Int) + (szL cn1 (rmV t).tests : Int)) (rmV t).acts))).acts).tests.length ≤ 1048576 ∧ smallL (GModel.mk (rmV t).sig (rmV t).points ((GModel.mk (rmV t).sig (rmV t).points (mkL cn1 mk1 (1 : Int) (rmV t).tests) (mkL cn2 mk2 ((1 : Int) + (szL cn1 (rmV t).tests : Int)) (rmV t).acts))).tests ((GModel.mk (rmV t).sig (rmV t).points (mkL cn1 mk1 (1 : Int) (rmV t).tests) (mkL cn2 mk2 ((1 : Int) + (szL cn1 (rmV t).tests : Int)) (rmV t).acts))).acts).acts) ∧ (inI64 (heldM (1 : Int) (GModel.mk (rmV t).sig (rmV t).points ((GModel.mk (rmV t).sig (rmV t).points (mkL cn1 mk1 (1 : Int) (rmV t).tests) (mkL cn2 mk2 ((1 : Int) + (szL cn1 (rmV t).tests : Int)) (rmV t).acts))).tests ((GModel.mk (rmV t).sig (rmV t).points (mkL cn1 mk1 (1 : Int) (rmV t).tests) (mkL cn2 mk2 ((1 : Int) + (szL cn1 (rmV t).tests : Int)) (rmV t).acts))).acts).tests (GModel.mk (rmV t).sig (rmV t).points ((GModel.mk (rmV t).sig (rmV t).points (mkL cn1 mk1 (1 : Int) (rmV t).tests) (mkL cn2 mk2 ((1 : Int) + (szL cn1 (rmV t).tests : Int)) (rmV t).acts))).tests ((GModel.mk (rmV t).sig (rmV t).points (mkL cn1 mk1 (1 : Int) (rmV t).tests) (mkL cn2 mk2 ((1 : Int) + (szL cn1 (rmV t).tests : Int)) (rmV t).acts))).acts).acts) →
 ((j_laws_FnExactReadModel_0 t) ∧ ((decide ((heldM (1 : Int) (GModel.mk (rmV t).sig (rmV t).points ((GModel.mk (rmV t).sig (rmV t).points (mkL cn1 mk1 (1 : Int) (rmV t).tests) (mkL cn2 mk2 ((1 : Int) + (szL cn1 (rmV t).tests : Int)) (rmV t).acts))).tests ((GModel.mk (rmV t).sig (rmV t).points (mkL cn1 mk1 (1 : Int) (rmV t).tests) (mkL cn2 mk2 ((1 : Int) + (szL cn1 (rmV t).tests : Int)) (rmV t).acts))).acts).tests (GModel.mk (rmV t).sig (rmV t).points ((GModel.mk (rmV t).sig (rmV t).points (mkL cn1 mk1 (1 : Int) (rmV t).tests) (mkL cn2 mk2 ((1 : Int) + (szL cn1 (rmV t).tests : Int)) (rmV t).acts))).tests ((GModel.mk (rmV t).sig (rmV t).points (mkL cn1 mk1 (1 : Int) (rmV t).tests) (mkL cn2 mk2 ((1 : Int) + (szL cn1 (rmV t).tests : Int)) (rmV t).acts))).acts).acts) < (0 : Int))) = false →
 ((j_laws_FnExactReadModel_1 t) ∧ ((!(decide ((heldM (1 : Int) (GModel.mk (rmV t).sig (rmV t).points ((GModel.mk (rmV t).sig (rmV t).points (mkL cn1 mk1 (1 : Int) (rmV t).tests) (mkL cn2 mk2 ((1 : Int) + (szL cn1 (rmV t).tests : Int)) (rmV t).acts))).tests ((GModel.mk (rmV t).sig (rmV t).points (mkL cn1 mk1 (1 : Int) (rmV t).tests) (mkL cn2 mk2 ((1 : Int) + (szL cn1 (rmV t).tests : Int)) (rmV t).acts))).acts).tests (GModel.mk (rmV t).sig (rmV t).points ((GModel.mk (rmV t).sig (rmV t).points (mkL cn1 mk1 (1 : Int) (rmV t).tests) (mkL cn2 mk2 ((1 : Int) + (szL cn1 (rmV t).tests : Int)) (rmV t).acts))).tests ((GModel.mk (rmV t).sig (rmV t).points (mkL cn1 mk1 (1 : Int) (rmV t).tests) (mkL cn2 mk2 ((1 : Int) + (szL cn1 (rmV t).tests : Int)) (rmV t).acts))).acts).acts) = ((1 : Int) + (szL cn1 (rmV t).tests : Int) + (szL cn2 (rmV t).acts : Int))))) = false →
 true = true))))))
abbrev j_laws_FnExactReadModel_3 (t : List UInt8) : Prop := ((0 ≤ (1 : Int) ∧ (1 : Int) + (szL cn1 (rmV t).tests : Int) + (szL cn2 (rmV t).acts : Int) ≤ 4611686018427387904 ∧ (rmV t).tests.length ≤ 1048576 ∧ smallL (rmV t).acts) ∧ ((0 ≤ (1 : Int) ∧ (1 : Int) + (szL cn1 (GModel.mk (rmV t).sig (rmV t).points ((GModel.mk (rmV t).sig (rmV t).points (mkL cn1 mk1 (1 : Int) (rmV t).tests) (mkL cn2 mk2 ((1 : Int) + (szL cn1 (rmV t).tests : Int)) (rmV t).acts))).tests ((GModel.mk (rmV t).sig (rmV t).points (mkL cn1 mk1 (1 : Int) (rmV t).tests) (mkL cn2 mk2 ((1 : Int) + (szL cn1 (rmV t).tests : Int)) (rmV t).acts))).acts).tests : Int) + (szL cn2 (GModel.mk (rmV t).sig (rmV t).points ((GModel.mk (rmV t).sig (rmV t).points (mkL cn1 mk1 (1 : Int) (rmV t).tests) (mkL cn2 mk2 ((1 : Int) + (szL cn1 (rmV t).tests : Int)) (rmV t).acts))).tests ((GModel.mk (rmV t).sig (rmV t).points (mkL cn1 mk1 (1 : Int) (rmV t).tests) (mkL cn2 mk2 ((1 : Int) + (szL cn1 (rmV t).tests : Int)) (rmV t).acts))).acts).acts : Int) ≤ 4611686018427387904 ∧ (GModel.mk (rmV t).sig (rmV t).points ((GModel.mk (rmV t).sig (rmV t).points (mkL cn1 mk1 (1 : Int) (rmV t).tests) (mkL cn2 mk2 ((1 : Int) + (szL cn1 (rmV t).tests : Int)) (rmV t).acts))).tests ((GModel.mk (rmV t).sig (rmV t).points (mkL cn1 mk1 (1 : Int) (rmV t).tests) (mkL cn2 mk2 ((1 : Int) + (szL cn1 (rmV t).tests : Int)) (rmV t).acts))).acts).tests.length ≤ 1048576 ∧ smallL (GModel.mk (rmV t).sig (rmV t).points ((GModel.mk (rmV t).sig (rmV t).points (mkL cn1 mk1 (1 : Int) (rmV t).tests) (mkL cn2 mk2 ((1 : Int) + (szL cn1 (rmV t).tests : Int)) (rmV t).acts))).tests ((GModel.mk (rmV t).sig (rmV t).points (mkL cn1 mk1 (1 : Int) (rmV t).tests) (mkL cn2 mk2 ((1 : Int) + (szL cn1 (rmV t).tests : Int)) (rmV t).acts))).acts).acts) ∧ (inI64 (heldM (1 : Int) (GModel.mk (rmV t).sig (rmV t).points ((GModel.mk (rmV t).sig (rmV t).points (mkL cn1 mk1 (1 : Int) (rmV t).tests) (mkL cn2 mk2 ((1 : Int) + (szL cn1 (rmV t).tests : Int)) (rmV t).acts))).tests ((GModel.mk (rmV t).sig (rmV t).points (mkL cn1 mk1 (1 : Int) (rmV t).tests) (mkL cn2 mk2 ((1 : Int) + (szL cn1 (rmV t).tests : Int)) (rmV t).acts))).acts).tests (GModel.mk (rmV t).sig (rmV t).points ((GModel.mk (rmV t).sig (rmV t).points (mkL cn1 mk1 (1 : Int) (rmV t).tests) (mkL cn2 mk2 ((1 : Int) + (szL cn1 (rmV t).tests : Int)) (rmV t).acts))).tests ((GModel.mk (rmV t).sig (rmV t).points (mkL cn1 mk1 (1 : Int) (rmV t).tests) (mkL cn2 mk2 ((1 : Int) + (szL cn1 (rmV t).tests : Int)) (rmV t).acts))).acts).acts) →
 ((j_laws_FnExactReadModel_0 t) ∧ ((decide ((heldM (1 : Int) (GModel.mk (rmV t).sig (rmV t).points ((GModel.mk (rmV t).sig (rmV t).points (mkL cn1 mk1 (1 : Int) (rmV t).tests) (mkL cn2 mk2 ((1 : Int) + (szL cn1 (rmV t).tests : Int)) (rmV t).acts))).tests ((GModel.mk (rmV t).sig (rmV t).points (mkL cn1 mk1 (1 : Int) (rmV t).tests) (mkL cn2 mk2 ((1 : Int) + (szL cn1 (rmV t).tests : Int)) (rmV t).acts))).acts).tests (GModel.mk (rmV t).sig (rmV t).points ((GModel.mk (rmV t).sig (rmV t).points (mkL cn1 mk1 (1 : Int) (rmV t).tests) (mkL cn2 mk2 ((1 : Int) + (szL cn1 (rmV t).tests : Int)) (rmV t).acts))).tests ((GModel.mk (rmV t).sig (rmV t).points (mkL cn1 mk1 (1 : Int) (rmV t).tests) (mkL cn2 mk2 ((1 : Int) + (szL cn1 (rmV t).tests : Int)) (rmV t).acts))).acts).acts) < (0 : Int))) = false →
 ((j_laws_FnExactReadModel_1 t) ∧ ((!(decide ((heldM (1 : Int) (GModel.mk (rmV t).sig (rmV t).points ((GModel.mk (rmV t).sig (rmV t).points (mkL cn1 mk1 (1 : Int) (rmV t).tests) (mkL cn2 mk2 ((1 : Int) + (szL cn1 (rmV t).tests : Int)) (rmV t).acts))).tests ((GModel.mk (rmV t).sig (rmV t).points (mkL cn1 mk1 (1 : Int) (rmV t).tests) (mkL cn2 mk2 ((1 : Int) + (szL cn1 (rmV t).tests : Int)) (rmV t).acts))).acts).tests (GModel.mk (rmV t).sig (rmV t).points ((GModel.mk (rmV t).sig (rmV t).points (mkL cn1 mk1 (1 : Int) (rmV t).tests) (mkL cn2 mk2 ((1 : Int) + (szL cn1 (rmV t).tests : Int)) (rmV t).acts))).tests ((GModel.mk (rmV t).sig (rmV t).points (mkL cn1 mk1 (1 : Int) (rmV t).tests) (mkL cn2 mk2 ((1 : Int) + (szL cn1 (rmV t).tests : Int)) (rmV t).acts))).acts).acts) = ((1 : Int) + (szL cn1 (rmV t).tests : Int) + (szL cn2 (rmV t).acts : Int))))) = false →
 (t.length ≤ 1048576 ∧ (inI64 (rmC t) →
 (((!(eqB (rmV t) (rmV t))) = false →
 (((!(decide ((rmC t) = (rmC t)))) = true →
 false = true) ∧ ((!(decide ((rmC t) = (rmC t)))) = false →
 (j_laws_FnExactReadModel_2 t)))) ∧ ((!(eqB (rmV t) (rmV t))) = (!false) →
 ((true = true →
 false = true) ∧ (true = false →
 (j_laws_FnExactReadModel_2 t))))))))))))))
theorem vc_laws_FnExactReadModel (t : List UInt8) : awp (envO [k_laws_eqModel, k_laws_heldModel, k_spec_ReadModel] [ko_impl_ReadModel] [mk_laws_markModel] [21, 35, 46] []) (bodyOf f_laws_FnExactReadModel) (l_laws_FnExactReadModel t) 0 (funPost (envO [k_laws_eqModel, k_laws_heldModel, k_spec_ReadModel] [ko_impl_ReadModel] [mk_laws_markModel] [21, 35, 46] []) f_laws_FnExactReadModel fun r => areEq r [⟨.bool, true⟩]) (startState f_laws_FnExactReadModel [.val ⟨.str, t⟩]) =
 ((inI64 ((t.length : Int)) →
 (((decide ((1048576 : Int) < ((t.length : Int)))) = true →
 true = true) ∧ ((decide ((1048576 : Int) < ((t.length : Int)))) = false →
 (t.length ≤ 1048576 ∧ (inI64 (rmC t) →
 (t.length ≤ 1048576 ∧ (inI64 (rmC t) →
 (((!(eqB (rmV t) (rmV t))) = false →
 (((!(decide ((rmC t) = (rmC t)))) = true →
 false = true) ∧ ((!(decide ((rmC t) = (rmC t)))) = false →
 (j_laws_FnExactReadModel_3 t)))) ∧ ((!(eqB (rmV t) (rmV t))) = (!false) →
 ((true = true →
 false = true) ∧ (true = false →
 (j_laws_FnExactReadModel_3 t))))))))))))) := by kernel_rfl
theorem ok_laws_FnExactReadModel (hE : AllGood [k_laws_eqModel, k_laws_heldModel, k_spec_ReadModel]) (hO : AllO [ko_impl_ReadModel]) (hM : AllM [mk_laws_markModel]) (hS : AllS []) : Ctr.Good k_laws_FnExactReadModel := by
 refine ⟨fnOk_of at_laws_FnExactReadModel rfl (by decide), ?_⟩
 show ∀ (t : List UInt8), True → OkCall prog n_laws_FnExactReadModel [.val ⟨.str, t⟩] (· = [⟨.bool, true⟩])
 intro t _
 refine ok_of_awpO (own := [21, 35, 46]) (wr := []) (cl := []) (ro := []) hE hO hM hS at_laws_FnExactReadModel body_laws_FnExactReadModel (l_laws_FnExactReadModel t) ?_
 rewrite [vc_laws_FnExactReadModel t]
 obtain ⟨f1, f2, f3, f4, f5⟩ := rmV_small t
 have f6 := smallL_of _ f4 f5
 have f7 := smallL_mk (1 + (szL cn1 (rmV t).tests : Int)) _ f4 f5
 have f8 := heldM_mk (rmV t).tests (rmV t).acts
 have f9 : szL cn1 (mkL cn1 mk1 1 (rmV t).tests) = szL cn1 (rmV t).tests := cn2_mk 1 _
 have f10 : szL cn2 (mkL cn2 mk2 (1 + (szL cn1 (rmV t).tests : Int)) (rmV t).acts) = szL cn2 (rmV t).acts := (mkL_mk cn2 mk2 mk2_mk cn2_mk _ _).2
 have f11 : (mkL cn1 mk1 1 (rmV t).tests).length = (rmV t).tests.length := mkL_length _ _ _ _
 refine fun a0 => ⟨fun a1 => rfl, fun a1 => ⟨?_, fun a2 => ⟨?_, fun a3 => ⟨fun a4 => ⟨fun a5 => ?_, fun a5 => ⟨?_, ⟨?_, fun a6 => ⟨fun a7 => ?_, fun a7 => ⟨fun a8 => ?_, fun a8 => ⟨?_, fun a9 => ⟨fun a10 => ⟨fun a11 => ?_, fun a11 => ⟨?_, fun a12 => ⟨fun a13 => ?_, fun a13 => ⟨fun a14 => ?_, fun a14 => rfl⟩⟩⟩⟩, fun a10 => ⟨fun a11 => ?_, fun a11 => ⟨?_, fun a12 => ⟨fun a13 => ?_, fun a13 => ⟨fun a14 => ?_, fun a14 => rfl⟩⟩⟩⟩⟩⟩⟩⟩⟩⟩⟩, fun a4 => ⟨fun a5 => ?_, fun a5 => ⟨?_, ⟨?_, fun a6 => ⟨fun a7 => ?_, fun a7 => ⟨fun a8 => ?_, fun a8 => ⟨?_, fun a9 => ⟨fun a10 => ⟨fun a11 => ?_, fun a11 => ⟨?_, fun a12 => ⟨fun a13 => ?_, fun a13 => ⟨fun a14 => ?_, fun a14 => rfl⟩⟩⟩⟩, fun a10 => ⟨fun a11 => ?_, fun a11 => ⟨?_, fun a12 => ⟨fun a13 => ?_, fun a13 => ⟨fun a14 => ?_, fun a14 => rfl⟩⟩⟩⟩⟩⟩⟩⟩⟩⟩⟩⟩⟩⟩⟩
 all_goals try and_intros
 all_goals first | rfl | trivial | omega | (simp only [decide_eq_true_eq, decide_eq_false_iff_not, idxOk, inI64, inKind, cutOk, makeOk, roomOk] at *; omega) | (simp [idxOk, inI64] at *; omega) | grind | (simp_all; done)
theorem good_laws_FnExactReadModel : Ctr.Good k_laws_FnExactReadModel := ok_laws_FnExactReadModel ⟨good_laws_eqModel, good_laws_heldModel, good_spec_ReadModel, trivial⟩ ⟨ogood_impl_ReadModel, trivial⟩ ⟨mgood_laws_markModel, trivial⟩ trivial
theorem law_FnExactReadModel : ∀ tvs : List TV, tvs.map TV.τ = [.str] → OkCall prog n_laws_FnExactReadModel (tvs.map .val) (· = [⟨.bool, true⟩]) := by
 intro tvs h
 match tvs, h with
 | [⟨t0, a0⟩], h =>
  simp only [List.map_cons, List.map_nil, List.cons.injEq, and_true] at h
  obtain rfl := h
  exact good_laws_FnExactReadModel.2 a0 trivial
end
end Go.Proofs.YtkogipcdjalehaaDoor

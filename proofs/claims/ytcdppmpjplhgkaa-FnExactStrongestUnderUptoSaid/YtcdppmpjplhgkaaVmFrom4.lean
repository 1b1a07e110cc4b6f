/- The reference on what lies behind the allowed words; the program on it. Printed by vmk.py. -/
import Derived.Test.YtcdppmpjplhgkaaVmUse
import Derived.Test.YtcdppmpjplhgkaaVmLib
import Derived.Test.YtcdppmpjplhgkaaVmAllows
import Derived.Test.YtcdppmpjplhgkaaVmProg
import Derived.Test.YtcdppmpjplhgkaaVmLeads
import Derived.Test.YtcdppmpjplhgkaaVmLeads2
import Derived.Test.YtcdppmpjplhgkaaVmLeads3
import Derived.Test.YtcdppmpjplhgkaaVmFrom
import Derived.Test.YtcdppmpjplhgkaaVmFrom2
import Derived.Test.YtcdppmpjplhgkaaVmFrom3
set_option linter.unusedVariables false
set_option linter.unusedSimpArgs false
set_option linter.unusedSectionVars false
namespace Go.Proofs.Ytcdppmpjplhgkaa
noncomputable section

theorem from_kinds (gg : GSig) (xs : List GPremise) (p : GProg) (h : okL gg xs p) (a : List Int) :
    (p.kind = 1 → fromL gg xs p a = a) ∧ (p.kind = 2 → fromL gg xs p a = []) ∧ (p.kind = 3 → fromL gg xs p a = nextAll gg xs p.num a) ∧ (p.kind = 4 → fromL gg xs p a = yesL p.cond a) ∧
    (p.kind = 5 → 2 = p.kids.length ∧ fromL gg xs p a = fromL gg xs (p.kids.getD 1 (GProg.mk (0 : Int) (0 : Int) (GExpr.mk (0 : Int) (0 : Int) []) [])) (fromL gg xs (p.kids.getD 0 (GProg.mk (0 : Int) (0 : Int) (GExpr.mk (0 : Int) (0 : Int) []) [])) a)) ∧
    (p.kind = 6 → 2 = p.kids.length ∧ fromL gg xs p a = unionL (fromL gg xs (p.kids.getD 0 (GProg.mk (0 : Int) (0 : Int) (GExpr.mk (0 : Int) (0 : Int) []) [])) (yesL p.cond a)) (fromL gg xs (p.kids.getD 1 (GProg.mk (0 : Int) (0 : Int) (GExpr.mk (0 : Int) (0 : Int) []) [])) (noL p.cond a))) ∧
    (p.kind = 7 → 1 = p.kids.length ∧ fromL gg xs p a = noL p.cond (wL (fromL gg xs (p.kids.getD 0 (GProg.mk (0 : Int) (0 : Int) (GExpr.mk (0 : Int) (0 : Int) []) []))) p.cond a (atomsN gg).toNat)) ∧
    (p.kind = 1 ∨ p.kind = 2 ∨ p.kind = 3 ∨ p.kind = 4 ∨ p.kind = 5 ∨ p.kind = 6 ∨ p.kind = 7) := by
  have ht := h.tree
  rw [treeP_eq, Bool.and_eq_true] at ht
  have hk := headP_kids gg p ht.1
  rw [fromL_eq]
  refine ⟨fun e => ?_, fun e => ?_, fun e => ?_, fun e => ?_, fun e => ⟨(hk.1 (.inl e)).symm, ?_⟩, fun e => ⟨(hk.1 (.inr e)).symm, ?_⟩, fun e => ⟨(hk.2 e).symm, ?_⟩, kinds7 gg p ht.1⟩
  · rw [fromN, if_pos e]
  · rw [fromN, if_neg (by omega), if_pos e]
  · rw [fromN, if_neg (by omega), if_neg (by omega), if_pos e]
  · rw [fromN, if_neg (by omega), if_neg (by omega), if_neg (by omega), if_neg (by omega), if_pos e]
  · have := hk.1 (.inl e)
    rw [fromN, if_neg (by omega), if_neg (by omega), if_neg (by omega), if_pos e, fromLs_getD _ _ (GProg.mk (0 : Int) (0 : Int) (GExpr.mk (0 : Int) (0 : Int) []) []) _ 0 (by omega), fromLs_getD _ _ (GProg.mk (0 : Int) (0 : Int) (GExpr.mk (0 : Int) (0 : Int) []) []) _ 1 (by omega)]
  · have := hk.1 (.inr e)
    rw [fromN, if_neg (by omega), if_neg (by omega), if_neg (by omega), if_neg (by omega), if_neg (by omega), if_pos e, fromLs_getD _ _ (GProg.mk (0 : Int) (0 : Int) (GExpr.mk (0 : Int) (0 : Int) []) []) _ 0 (by omega), fromLs_getD _ _ (GProg.mk (0 : Int) (0 : Int) (GExpr.mk (0 : Int) (0 : Int) []) []) _ 1 (by omega)]
  · have := hk.2 e
    rw [fromN, if_neg (by omega), if_neg (by omega), if_neg (by omega), if_neg (by omega), if_neg (by omega), if_neg (by omega), fromLs_getD _ _ (GProg.mk (0 : Int) (0 : Int) (GExpr.mk (0 : Int) (0 : Int) []) []) _ 0 (by omega)]
theorem act_in (gg : GSig) (xs : List GPremise) (p : GProg) (h : okL gg xs p) (e : p.kind = 3) (x : Int) (hx : 0 ≤ x ∧ x < atomsN gg) : anIn gg p.num x = true := by
  have ht := h.tree
  rw [treeP_eq, Bool.and_eq_true, headP_eq] at ht
  have h1 := ht.1
  simp only [Bool.and_eq_true, numP, if_pos e, decide_eq_true_eq] at h1
  rw [anIn_eq]
  simp only [Bool.and_eq_true, decide_eq_true_eq]
  omega
theorem good_cond (gg : GSig) (xs : List GPremise) (p : GProg) (h : okL gg xs p) : (p.kind = 4 ∨ p.kind = 6 ∨ p.kind = 7) → goodC p.cond = true := by
  have ht := h.tree
  rw [treeP_eq, Bool.and_eq_true] at ht
  exact headP_cond gg p h.sig ht.1
theorem nextAll_zero (gg : GSig) (xs : List GPremise) (act : Int) (a : List Int) : nextAll gg xs act (a.take 0) = [] := rfl
theorem nextAll_take (gg : GSig) (xs : List GPremise) (act : Int) (a : List Int) (k : Nat) (h : k < a.length) : unionL (nextAll gg xs act (a.take k)) (nextA gg xs act (a.getD k 0)) = nextAll gg xs act (a.take (k + 1)) := by
  rw [take_snoc 0 a k h]; simp [nextAll]
theorem nextAll_all (gg : GSig) (xs : List GPremise) (act : Int) (a : List Int) (k : Nat) (h : a.length ≤ k) : nextAll gg xs act (a.take k) = nextAll gg xs act a := by rw [List.take_of_length_le h]
theorem nextAll_set (gg : GSig) (xs : List GPremise) (act : Int) (a : List Int) : isSet (atomsN gg) (nextAll gg xs act a) := by rw [nextAll_sel]; exact isSet_selN _ _
theorem nextA_set (gg : GSig) (xs : List GPremise) (act x : Int) : isSet (atomsN gg) (nextA gg xs act x) := by rw [nextA_sel]; exact isSet_selN _ _
theorem fewSet (gg : GSig) (hs : sigOk gg = true) (a : List Int) (h : isSet (atomsN gg) a) : a.length ≤ 8 ∧ ∀ i, i < a.length → 0 ≤ a.getD i 0 ∧ a.getD i 0 ≤ 4096 ∧ a.getD i 0 < atomsN gg := by
  have hn := (sigOk_n gg hs).2
  have h1 := isSet_len _ _ h
  refine ⟨by omega, fun i hi => ?_⟩
  have := isSet_in _ _ h i hi
  omega
theorem w_facts (gg : GSig) (xs : List GPremise) (p : GProg) (h : okL gg xs p) (e : p.kind = 7) (a : List Int) (ha : isSet (atomsN gg) a) (k : Nat) :
    isSet (atomsN gg) (wL (fromL gg xs (p.kids.getD 0 (GProg.mk (0 : Int) (0 : Int) (GExpr.mk (0 : Int) (0 : Int) []) []))) p.cond a k) ∧ (wL (fromL gg xs (p.kids.getD 0 (GProg.mk (0 : Int) (0 : Int) (GExpr.mk (0 : Int) (0 : Int) []) []))) p.cond a k).length ≤ (atomsN gg).toNat ∧ (wL (fromL gg xs (p.kids.getD 0 (GProg.mk (0 : Int) (0 : Int) (GExpr.mk (0 : Int) (0 : Int) []) []))) p.cond a (k + 1)).length ≤ (atomsN gg).toNat ∧
    (wL (fromL gg xs (p.kids.getD 0 (GProg.mk (0 : Int) (0 : Int) (GExpr.mk (0 : Int) (0 : Int) []) []))) p.cond a k).length ≤ (wL (fromL gg xs (p.kids.getD 0 (GProg.mk (0 : Int) (0 : Int) (GExpr.mk (0 : Int) (0 : Int) []) []))) p.cond a (k + 1)).length ∧
    ((wL (fromL gg xs (p.kids.getD 0 (GProg.mk (0 : Int) (0 : Int) (GExpr.mk (0 : Int) (0 : Int) []) []))) p.cond a (k + 1)).length = (wL (fromL gg xs (p.kids.getD 0 (GProg.mk (0 : Int) (0 : Int) (GExpr.mk (0 : Int) (0 : Int) []) []))) p.cond a k).length → noL p.cond (wL (fromL gg xs (p.kids.getD 0 (GProg.mk (0 : Int) (0 : Int) (GExpr.mk (0 : Int) (0 : Int) []) []))) p.cond a k) = fromL gg xs p a) := by
  have ht := h.tree
  rw [treeP_eq, Bool.and_eq_true] at ht
  have hk := (headP_kids gg p ht.1).2 e
  have hf := fromL_leads gg xs (sigOk_n gg h.sig).2.1 (p.kids.getD 0 (GProg.mk (0 : Int) (0 : Int) (GExpr.mk (0 : Int) (0 : Int) []) [])) (all_getD _ _ _ _ (by omega) ht.2)
  have hw := wL_sel (atomsN gg) (fromL gg xs (p.kids.getD 0 (GProg.mk (0 : Int) (0 : Int) (GExpr.mk (0 : Int) (0 : Int) []) []))) p.cond _ hf (memP a)
  rw [← ha.eq] at hw
  rw [((from_kinds gg xs p h a).2.2.2.2.2.2.1 e).2, hw, hw, hw]
  generalize stB p.cond (leadT (atomsN gg) xs (p.kids.getD 0 (GProg.mk (0 : Int) (0 : Int) (GExpr.mk (0 : Int) (0 : Int) []) []))) = st
  refine ⟨isSet_selN _ _, selN_len _ _, selN_len _ _, (wpS_grow _ _ _ _).2, fun hl => ?_⟩
  have : wpS (atomsN gg).toNat st (memP a) k = wpS (atomsN gg).toNat st (memP a) (atomsN gg).toNat := selN_congr _ _ _ fun y hy => by
    rcases Nat.le_total k (atomsN gg).toNat with hle | hle
    · exact (wpS_stay _ _ _ k hl _ y hle hy).symm
    · exact wpS_end _ _ _ k y hle hy
  rw [this]
theorem set_in (gg : GSig) (hs : sigOk gg = true) (a : List Int) (h : isSet (atomsN gg) a) : a.length ≤ 8 ∧ ∀ i, i < a.length → 0 ≤ a.getD i 0 ∧ a.getD i 0 ≤ 4096 := by
  obtain ⟨h1, h2⟩ := fewSet gg hs a h
  exact ⟨h1, fun i hi => ⟨(h2 i hi).1, (h2 i hi).2.1⟩⟩
theorem part_small (gg : GSig) (c : GExpr) (hs : sigOk gg = true) (a : List Int) (h : isSet (atomsN gg) a) : isSet (atomsN gg) (yesL c a) ∧ isSet (atomsN gg) (noL c a) := part_set _ c a h
theorem o_kid (gg : GSig) (xs : List GPremise) (p : GProg) (h : okL gg xs p) (i : Nat) (hi : i < p.kids.length) : okL gg xs (p.kids.getD i (GProg.mk (0 : Int) (0 : Int) (GExpr.mk (0 : Int) (0 : Int) []) [])) ∧ msz (p.kids.getD i (GProg.mk (0 : Int) (0 : Int) (GExpr.mk (0 : Int) (0 : Int) []) [])) < msz p := by
  have h1 := msz_getD (GProg.mk (0 : Int) (0 : Int) (GExpr.mk (0 : Int) (0 : Int) []) []) p.kids i hi
  have h2 := msz_kidsP p
  exact ⟨okL_kid gg xs p h _ i hi, by omega⟩
theorem from_small (gg : GSig) (xs : List GPremise) (p : GProg) (h : okL gg xs p) (a : List Int) (ha : isSet (atomsN gg) a) : isSet (atomsN gg) (fromL gg xs p a) ∧ (fromL gg xs p a).length ≤ 8 :=
  ⟨fromL_set gg xs p h a ha, (fewSet gg h.sig _ (fromL_set gg xs p h a ha)).1⟩
theorem k3 (gg : GSig) (xs : List GPremise) (p : GProg) (h : okL gg xs p) (a : List Int) (e : p.kind = 3) : fromL gg xs p a = nextAll gg xs p.num a := (from_kinds gg xs p h a).2.2.1 e
theorem k4 (gg : GSig) (xs : List GPremise) (p : GProg) (h : okL gg xs p) (a : List Int) (ha : isSet (atomsN gg) a) (e : p.kind = 4 ∨ p.kind = 6 ∨ p.kind = 7) : goodC p.cond = true ∧ isSet (atomsN gg) (yesL p.cond a) ∧ isSet (atomsN gg) (noL p.cond a) :=
  ⟨good_cond gg xs p h e, part_set _ _ _ ha⟩
theorem k5 (gg : GSig) (xs : List GPremise) (p : GProg) (h : okL gg xs p) (a : List Int) (ha : isSet (atomsN gg) a) (e : p.kind = 5) : 2 = p.kids.length ∧ (okL gg xs (p.kids.getD 0 (GProg.mk (0 : Int) (0 : Int) (GExpr.mk (0 : Int) (0 : Int) []) [])) ∧ msz (p.kids.getD 0 (GProg.mk (0 : Int) (0 : Int) (GExpr.mk (0 : Int) (0 : Int) []) [])) < msz p) ∧ (okL gg xs (p.kids.getD 1 (GProg.mk (0 : Int) (0 : Int) (GExpr.mk (0 : Int) (0 : Int) []) [])) ∧ msz (p.kids.getD 1 (GProg.mk (0 : Int) (0 : Int) (GExpr.mk (0 : Int) (0 : Int) []) [])) < msz p) ∧ isSet (atomsN gg) (fromL gg xs (p.kids.getD 0 (GProg.mk (0 : Int) (0 : Int) (GExpr.mk (0 : Int) (0 : Int) []) [])) a) ∧
    fromL gg xs p a = fromL gg xs (p.kids.getD 1 (GProg.mk (0 : Int) (0 : Int) (GExpr.mk (0 : Int) (0 : Int) []) [])) (fromL gg xs (p.kids.getD 0 (GProg.mk (0 : Int) (0 : Int) (GExpr.mk (0 : Int) (0 : Int) []) [])) a) := by
  obtain ⟨h1, h2⟩ := (from_kinds gg xs p h a).2.2.2.2.1 e
  have o0 := o_kid gg xs p h 0 (by omega)
  exact ⟨h1, o0, o_kid gg xs p h 1 (by omega), fromL_set gg xs _ o0.1 a ha, h2⟩
theorem k6 (gg : GSig) (xs : List GPremise) (p : GProg) (h : okL gg xs p) (a : List Int) (ha : isSet (atomsN gg) a) (e : p.kind = 6) : 2 = p.kids.length ∧ (okL gg xs (p.kids.getD 0 (GProg.mk (0 : Int) (0 : Int) (GExpr.mk (0 : Int) (0 : Int) []) [])) ∧ msz (p.kids.getD 0 (GProg.mk (0 : Int) (0 : Int) (GExpr.mk (0 : Int) (0 : Int) []) [])) < msz p) ∧ (okL gg xs (p.kids.getD 1 (GProg.mk (0 : Int) (0 : Int) (GExpr.mk (0 : Int) (0 : Int) []) [])) ∧ msz (p.kids.getD 1 (GProg.mk (0 : Int) (0 : Int) (GExpr.mk (0 : Int) (0 : Int) []) [])) < msz p) ∧ (fromL gg xs (p.kids.getD 0 (GProg.mk (0 : Int) (0 : Int) (GExpr.mk (0 : Int) (0 : Int) []) [])) (yesL p.cond a)).length ≤ 8 ∧ (fromL gg xs (p.kids.getD 1 (GProg.mk (0 : Int) (0 : Int) (GExpr.mk (0 : Int) (0 : Int) []) [])) (noL p.cond a)).length ≤ 8 ∧
    fromL gg xs p a = unionL (fromL gg xs (p.kids.getD 0 (GProg.mk (0 : Int) (0 : Int) (GExpr.mk (0 : Int) (0 : Int) []) [])) (yesL p.cond a)) (fromL gg xs (p.kids.getD 1 (GProg.mk (0 : Int) (0 : Int) (GExpr.mk (0 : Int) (0 : Int) []) [])) (noL p.cond a)) := by
  obtain ⟨h1, h2⟩ := (from_kinds gg xs p h a).2.2.2.2.2.1 e
  obtain ⟨_, s1, s2⟩ := k4 gg xs p h a ha (.inr (.inl e))
  have o0 := o_kid gg xs p h 0 (by omega)
  have o1 := o_kid gg xs p h 1 (by omega)
  exact ⟨h1, o0, o1, (from_small gg xs _ o0.1 _ s1).2, (from_small gg xs _ o1.1 _ s2).2, h2⟩
theorem kX (gg : GSig) (xs : List GPremise) (p : GProg) (h : okL gg xs p) : p.kind = 1 ∨ p.kind = 2 ∨ p.kind = 3 ∨ p.kind = 4 ∨ p.kind = 5 ∨ p.kind = 6 ∨ p.kind = 7 := (from_kinds gg xs p h []).2.2.2.2.2.2.2
theorem k7 (gg : GSig) (xs : List GPremise) (p : GProg) (h : okL gg xs p) (a : List Int) (ha : isSet (atomsN gg) a) (e : p.kind = 7) (k : Nat) : 1 = p.kids.length ∧ (okL gg xs (p.kids.getD 0 (GProg.mk (0 : Int) (0 : Int) (GExpr.mk (0 : Int) (0 : Int) []) [])) ∧ msz (p.kids.getD 0 (GProg.mk (0 : Int) (0 : Int) (GExpr.mk (0 : Int) (0 : Int) []) [])) < msz p) ∧
    (goodC p.cond = true ∧ isSet (atomsN gg) (yesL p.cond (wL (fromL gg xs (p.kids.getD 0 (GProg.mk (0 : Int) (0 : Int) (GExpr.mk (0 : Int) (0 : Int) []) []))) p.cond a k)) ∧ isSet (atomsN gg) (noL p.cond (wL (fromL gg xs (p.kids.getD 0 (GProg.mk (0 : Int) (0 : Int) (GExpr.mk (0 : Int) (0 : Int) []) []))) p.cond a k))) ∧ ((fromL gg xs (p.kids.getD 0 (GProg.mk (0 : Int) (0 : Int) (GExpr.mk (0 : Int) (0 : Int) []) [])) (yesL p.cond (wL (fromL gg xs (p.kids.getD 0 (GProg.mk (0 : Int) (0 : Int) (GExpr.mk (0 : Int) (0 : Int) []) []))) p.cond a k))).length ≤ 8) ∧
    (unionL (wL (fromL gg xs (p.kids.getD 0 (GProg.mk (0 : Int) (0 : Int) (GExpr.mk (0 : Int) (0 : Int) []) []))) p.cond a k) (fromL gg xs (p.kids.getD 0 (GProg.mk (0 : Int) (0 : Int) (GExpr.mk (0 : Int) (0 : Int) []) [])) (yesL p.cond (wL (fromL gg xs (p.kids.getD 0 (GProg.mk (0 : Int) (0 : Int) (GExpr.mk (0 : Int) (0 : Int) []) []))) p.cond a k))) = wL (fromL gg xs (p.kids.getD 0 (GProg.mk (0 : Int) (0 : Int) (GExpr.mk (0 : Int) (0 : Int) []) []))) p.cond a (k + 1)) := by
  obtain ⟨h1, h2⟩ := (from_kinds gg xs p h a).2.2.2.2.2.2.1 e
  have o0 := o_kid gg xs p h 0 (by omega)
  have w := (w_facts gg xs p h e a ha k).1
  obtain ⟨s0, s1, s2⟩ := k4 gg xs p h _ w (.inr (.inr e))
  exact ⟨h1, o0, ⟨s0, s1, s2⟩, (from_small gg xs _ o0.1 _ s1).2, rfl⟩

def kn_spec_l07From (n : Nat) : Ctr := ⟨n_spec_l07From, [.v (.st .sig), .v (.slice (.st .premise)), .r (.st .prog), .v (.slice (.int .i64))], fun (gg : GSig) (xs : List GPremise) (p : GProg) (a : List Int) => ⟨(some (msz p < n ∧ okL gg xs p ∧ premsOk gg xs = true ∧ isSet (atomsN gg) a), [⟨(.slice (.int .i64)), fromL gg xs p a⟩])⟩⟩
def k_spec_l07From : Ctr := ⟨n_spec_l07From, [.v (.st .sig), .v (.slice (.st .premise)), .r (.st .prog), .v (.slice (.int .i64))], fun (gg : GSig) (xs : List GPremise) (p : GProg) (a : List Int) => ⟨(some (okL gg xs p ∧ premsOk gg xs = true ∧ isSet (atomsN gg) a), [⟨(.slice (.int .i64)), fromL gg xs p a⟩])⟩⟩
def l_spec_l07From (gg : GSig) (xs : List GPremise) (p : GProg) (a : List Int) : Nat → LoopInv := (fun zb => if Nat.beq zb 1 then .mk (Nat) (fun k => k ≤ a.length ∧ p.kind = 3) (fun k => a.length - k) [17] [0, 5, 6, 7, 17, 18, 19, 20, 21, 22, 23, 24, 25, 26, 27, 28, 29, 30, 61, 62, 63, 64, 65, 66, 67, 68, 69, 70, 71, 72, 73, 74, 75, 76, 77, 78, 79] (fun k => [(10, .imm ⟨(.int .i64), ((k : Int) : Int)⟩), (9, .imm ⟨(.slice (.int .i64)), (nextAll gg xs p.num (a.take k) : List Int)⟩)]) [1, 2, 3, 4, 8, 9, 10, 11, 12, 13, 14, 15, 16, 31, 32, 33, 34, 35, 36, 37, 38, 39, 40, 41, 42, 43, 44, 45, 46, 47, 48, 49, 50, 51, 52, 53, 54, 55, 56, 57, 58, 59, 60, 80, 81, 82, 83, 84, 85, 86, 87, 88, 89, 90, 91, 92, 93, 94, 95, 96, 97, 98, 99, 100, 101, 102, 103, 104, 105, 106, 107, 108, 109, 110, 111, 112, 113, 114, 115, 116, 117, 118, 119, 120, 121, 122, 123, 124, 125, 126, 127, 128, 129, 130, 131, 132, 133, 134, 135, 136, 137, 138, 139, 140, 141, 142, 143, 144] (fun k => []) [] [] (fun k => (fun zb => if Nat.beq zb 3 then .mk (Nat) (fun j => j ≤ (nextA gg xs p.num (a.getD k 0)).length) (fun j => (nextA gg xs p.num (a.getD k 0)).length - j) [] [0, 5, 6, 7, 17, 18, 19, 20, 21, 22, 23, 24, 25, 26, 27, 28, 29, 30, 61, 62, 63, 64, 65, 66, 67, 68, 69, 70, 71, 72, 73, 74, 75, 76, 77, 78, 79] (fun j => [(12, .imm ⟨(.int .i64), ((j : Int) : Int)⟩), (9, .imm ⟨(.slice (.int .i64)), (unionL (nextAll gg xs p.num (a.take k)) ((nextA gg xs p.num (a.getD k 0)).take j) : List Int)⟩)]) [1, 2, 3, 4, 8, 9, 10, 11, 12, 13, 14, 15, 16, 31, 32, 33, 34, 35, 36, 37, 38, 39, 40, 41, 42, 43, 44, 45, 46, 47, 48, 49, 50, 51, 52, 53, 54, 55, 56, 57, 58, 59, 60, 80, 81, 82, 83, 84, 85, 86, 87, 88, 89, 90, 91, 92, 93, 94, 95, 96, 97, 98, 99, 100, 101, 102, 103, 104, 105, 106, 107, 108, 109, 110, 111, 112, 113, 114, 115, 116, 117, 118, 119, 120, 121, 122, 123, 124, 125, 126, 127, 128, 129, 130, 131, 132, 133, 134, 135, 136, 137, 138, 139, 140, 141, 142, 143, 144] (fun j => []) [] [] (fun j => fun _ => .none) else .none)) else if Nat.beq zb 6 then .mk (Nat) (fun k => p.kind = 7) (fun k => (atomsN gg).toNat - (wL (fromL gg xs (p.kids.getD 0 (GProg.mk (0 : Int) (0 : Int) (GExpr.mk (0 : Int) (0 : Int) []) []))) p.cond a k).length) [] [0, 3, 5, 6, 7, 9, 10, 11, 12, 17, 18, 19, 20, 21, 22, 23, 24, 25, 26, 27, 28, 29, 30, 31, 32, 33, 34, 35, 36, 37, 38, 39, 40, 41, 42, 43, 44, 45, 46, 47, 48, 49, 50, 51, 52, 53, 54, 55, 56, 57, 58, 59, 60, 61, 62, 63, 64, 65, 66, 67, 68, 69, 70, 71, 72, 73, 74, 75, 76, 77, 78, 79, 80, 81, 82, 83, 84, 85, 86, 87, 88, 89, 90, 91, 92, 93, 94, 95, 96, 97, 98, 99, 100, 101, 102, 103, 104, 105, 106, 107, 108, 109, 110, 111, 112, 113, 114, 115, 116, 117, 118] (fun k => [(15, .imm ⟨(.slice (.int .i64)), (wL (fromL gg xs (p.kids.getD 0 (GProg.mk (0 : Int) (0 : Int) (GExpr.mk (0 : Int) (0 : Int) []) []))) p.cond a k : List Int)⟩)]) [1, 2, 4, 8, 13, 14, 15, 16, 119, 120, 121, 122, 123, 124, 125, 126, 127, 128, 129, 130, 131, 132, 133, 134, 135, 136, 137, 138, 139, 140, 141, 142, 143, 144] (fun k => []) [] [] (fun k => fun _ => .none) else .none)
abbrev q_spec_l07From_0 (gg : GSig) (xs : List GPremise) (p : GProg) (a : List Int) (k1 : Nat) : Prop := ((k1 : Int) = (k1 : Int) ∧ (a = a ∧ (((a.length : Int)) = ((a.length : Int)) ∧ ((decide ((k1 : Int) < ((a.length : Int)))) = (decide ((k1 : Int) < ((a.length : Int)))) ∧ (gg = gg ∧ (xs = xs ∧ (p = p ∧ (p = p ∧ (p.num = p.num ∧ (p.num = p.num ∧ (a = a ∧ ((k1 : Int) = (k1 : Int) ∧ ((a.getD k1 (0 : Int)) = (a.getD k1 (0 : Int)) ∧ ((a.getD k1 (0 : Int)) = (a.getD k1 (0 : Int)) ∧ ((nextA gg xs p.num (a.getD k1 (0 : Int))) = (nextA gg xs p.num (a.getD k1 (0 : Int))) ∧ True)))))))))))))))
theorem vc_spec_l07From (n : Nat) (gg : GSig) (xs : List GPremise) (p : GProg) (a : List Int) : awp (envOf [kn_spec_l07From n, k_spec_l00Own, k_spec_l07Next, k_spec_l00Put, k_spec_l07Parted, k_spec_l07Union] [] [] [4]) (bodyOf f_spec_l07From) (l_spec_l07From gg xs p a) 0 (funPost (envOf [kn_spec_l07From n, k_spec_l00Own, k_spec_l07Next, k_spec_l00Put, k_spec_l07Parted, k_spec_l07Union] [] [] [4]) f_spec_l07From fun r => areEq r [⟨(.slice (.int .i64)), fromL gg xs p a⟩]) (startState f_spec_l07From [.val ⟨(.st .sig), gg⟩, .val ⟨(.slice (.st .premise)), xs⟩, .ref ⟨(.st .prog), p⟩, .val ⟨(.slice (.int .i64)), a⟩]) =
  ((inI64 p.kind →
 (((decide (p.kind = (1 : Int))) = true →
 (a.length ≤ 1048576 ∧ (a.length ≤ 140737488355328 →
 a = (fromL gg xs p a)))) ∧ ((decide (p.kind = (1 : Int))) = false →
 (((decide (p.kind = (2 : Int))) = true →
 [] = (fromL gg xs p a)) ∧ ((decide (p.kind = (2 : Int))) = false →
 (((decide (p.kind = (3 : Int))) = true →
 ((∃ k1 : Nat, ((k1 ≤ a.length ∧ p.kind = 3) ∧ ((xs = xs ∧ (p = p ∧ (a = a ∧ (gg = gg ∧ (True ∧ ([] = (nextAll gg xs p.num (a.take k1)) ∧ ((0 : Int) = (k1 : Int) ∧ True))))))) ∧ True))) ∧ (∀ k1 : Nat, ((k1 ≤ a.length ∧ p.kind = 3) →
 (inI64 ((a.length : Int)) →
 (((decide ((k1 : Int) < ((a.length : Int)))) = true →
 (idxOk (k1 : Int) a.length ∧ (inI64 p.num →
 (inI64 (a.getD k1 (0 : Int)) →
 ((premsOk gg xs = true ∧ anIn gg p.num (a.getD k1 (0 : Int)) = true) ∧ ((nextA gg xs p.num (a.getD k1 (0 : Int))).length ≤ 140737488355328 →
 ((∃ j2 : Nat, (j2 ≤ (nextA gg xs p.num (a.getD k1 0)).length ∧ ((xs = xs ∧ (p = p ∧ (a = a ∧ (gg = gg ∧ (True ∧ ((nextAll gg xs p.num (a.take k1)) = (unionL (nextAll gg xs p.num (a.take k1)) ((nextA gg xs p.num (a.getD k1 0)).take j2)) ∧ ((k1 : Int) = (k1 : Int) ∧ ((nextA gg xs p.num (a.getD k1 (0 : Int))) = (nextA gg xs p.num (a.getD k1 (0 : Int))) ∧ ((0 : Int) = (j2 : Int) ∧ (q_spec_l07From_0 gg xs p a k1)))))))))) ∧ True))) ∧ (∀ j2 : Nat, (j2 ≤ (nextA gg xs p.num (a.getD k1 0)).length →
 (inI64 (((nextA gg xs p.num (a.getD k1 (0 : Int))).length : Int)) →
 (((decide ((j2 : Int) < (((nextA gg xs p.num (a.getD k1 (0 : Int))).length : Int)))) = true →
 (idxOk (j2 : Int) (nextA gg xs p.num (a.getD k1 (0 : Int))).length ∧ (inI64 ((nextA gg xs p.num (a.getD k1 (0 : Int))).getD j2 (0 : Int)) →
 ((unionL (nextAll gg xs p.num (a.take k1)) ((nextA gg xs p.num (a.getD k1 0)).take j2)).length ≤ 1048576 ∧ ((putL ((nextA gg xs p.num (a.getD k1 (0 : Int))).getD j2 (0 : Int)) (unionL (nextAll gg xs p.num (a.take k1)) ((nextA gg xs p.num (a.getD k1 0)).take j2))).length ≤ 140737488355328 →
 (inI64 ((j2 : Int) + (1 : Int)) ∧ (∃ j3 : Nat, (j3 ≤ (nextA gg xs p.num (a.getD k1 0)).length ∧ ((nextA gg xs p.num (a.getD k1 0)).length - j3 < (nextA gg xs p.num (a.getD k1 0)).length - j2 ∧ ((xs = xs ∧ (p = p ∧ (a = a ∧ (gg = gg ∧ (True ∧ ((putL ((nextA gg xs p.num (a.getD k1 (0 : Int))).getD j2 (0 : Int)) (unionL (nextAll gg xs p.num (a.take k1)) ((nextA gg xs p.num (a.getD k1 0)).take j2))) = (unionL (nextAll gg xs p.num (a.take k1)) ((nextA gg xs p.num (a.getD k1 0)).take j3)) ∧ ((k1 : Int) = (k1 : Int) ∧ ((nextA gg xs p.num (a.getD k1 (0 : Int))) = (nextA gg xs p.num (a.getD k1 (0 : Int))) ∧ (((j2 : Int) + (1 : Int)) = (j3 : Int) ∧ (q_spec_l07From_0 gg xs p a k1)))))))))) ∧ True)))))))))) ∧ ((decide ((j2 : Int) < (((nextA gg xs p.num (a.getD k1 (0 : Int))).length : Int)))) = false →
 (inI64 ((k1 : Int) + (1 : Int)) ∧ (∃ k3 : Nat, ((k3 ≤ a.length ∧ p.kind = 3) ∧ (a.length - k3 < a.length - k1 ∧ ((xs = xs ∧ (p = p ∧ (a = a ∧ (gg = gg ∧ (True ∧ ((unionL (nextAll gg xs p.num (a.take k1)) ((nextA gg xs p.num (a.getD k1 0)).take j2)) = (nextAll gg xs p.num (a.take k3)) ∧ (((k1 : Int) + (1 : Int)) = (k3 : Int) ∧ True))))))) ∧ True))))))))))))))))) ∧ ((decide ((k1 : Int) < ((a.length : Int)))) = false →
 (nextAll gg xs p.num (a.take k1)) = (fromL gg xs p a)))))))) ∧ ((decide (p.kind = (3 : Int))) = false →
 (((decide (p.kind = (5 : Int))) = true →
 (idxOk (1 : Int) p.kids.length ∧ (idxOk (0 : Int) p.kids.length ∧ ((msz (p.kids.getD 0 (GProg.mk (0 : Int) (0 : Int) (GExpr.mk (0 : Int) (0 : Int) []) [])) < n ∧ okL gg xs (p.kids.getD 0 (GProg.mk (0 : Int) (0 : Int) (GExpr.mk (0 : Int) (0 : Int) []) [])) ∧ premsOk gg xs = true ∧ isSet (atomsN gg) a) ∧ (p.kids.length ≤ 140737488355328 →
 (p.kids.length ≤ 140737488355328 →
 ((fromL gg xs (p.kids.getD 0 (GProg.mk (0 : Int) (0 : Int) (GExpr.mk (0 : Int) (0 : Int) []) [])) a).length ≤ 140737488355328 →
 ((msz (p.kids.getD 1 (GProg.mk (0 : Int) (0 : Int) (GExpr.mk (0 : Int) (0 : Int) []) [])) < n ∧ okL gg xs (p.kids.getD 1 (GProg.mk (0 : Int) (0 : Int) (GExpr.mk (0 : Int) (0 : Int) []) [])) ∧ premsOk gg xs = true ∧ isSet (atomsN gg) (fromL gg xs (p.kids.getD 0 (GProg.mk (0 : Int) (0 : Int) (GExpr.mk (0 : Int) (0 : Int) []) [])) a)) ∧ ((fromL gg xs (p.kids.getD 1 (GProg.mk (0 : Int) (0 : Int) (GExpr.mk (0 : Int) (0 : Int) []) [])) (fromL gg xs (p.kids.getD 0 (GProg.mk (0 : Int) (0 : Int) (GExpr.mk (0 : Int) (0 : Int) []) [])) a)).length ≤ 140737488355328 →
 (fromL gg xs (p.kids.getD 1 (GProg.mk (0 : Int) (0 : Int) (GExpr.mk (0 : Int) (0 : Int) []) [])) (fromL gg xs (p.kids.getD 0 (GProg.mk (0 : Int) (0 : Int) (GExpr.mk (0 : Int) (0 : Int) []) [])) a)) = (fromL gg xs p a)))))))))) ∧ ((decide (p.kind = (5 : Int))) = false →
 ((goodC p.cond = true ∧ a.length ≤ 1048576 ∧ ∀ i, i < a.length → 0 ≤ a.getD i 0 ∧ a.getD i 0 ≤ 4096) ∧ ((yesL p.cond a).length ≤ 140737488355328 →
 ((noL p.cond a).length ≤ 140737488355328 →
 (inI64 p.kind →
 (((decide (p.kind = (4 : Int))) = true →
 (yesL p.cond a) = (fromL gg xs p a)) ∧ ((decide (p.kind = (4 : Int))) = false →
 (((decide (p.kind = (6 : Int))) = true →
 (idxOk (0 : Int) p.kids.length ∧ (p.kids.length ≤ 140737488355328 →
 ((msz (p.kids.getD 0 (GProg.mk (0 : Int) (0 : Int) (GExpr.mk (0 : Int) (0 : Int) []) [])) < n ∧ okL gg xs (p.kids.getD 0 (GProg.mk (0 : Int) (0 : Int) (GExpr.mk (0 : Int) (0 : Int) []) [])) ∧ premsOk gg xs = true ∧ isSet (atomsN gg) (yesL p.cond a)) ∧ ((fromL gg xs (p.kids.getD 0 (GProg.mk (0 : Int) (0 : Int) (GExpr.mk (0 : Int) (0 : Int) []) [])) (yesL p.cond a)).length ≤ 140737488355328 →
 (idxOk (1 : Int) p.kids.length ∧ ((msz (p.kids.getD 1 (GProg.mk (0 : Int) (0 : Int) (GExpr.mk (0 : Int) (0 : Int) []) [])) < n ∧ okL gg xs (p.kids.getD 1 (GProg.mk (0 : Int) (0 : Int) (GExpr.mk (0 : Int) (0 : Int) []) [])) ∧ premsOk gg xs = true ∧ isSet (atomsN gg) (noL p.cond a)) ∧ (p.kids.length ≤ 140737488355328 →
 ((fromL gg xs (p.kids.getD 1 (GProg.mk (0 : Int) (0 : Int) (GExpr.mk (0 : Int) (0 : Int) []) [])) (noL p.cond a)).length ≤ 140737488355328 →
 (((fromL gg xs (p.kids.getD 0 (GProg.mk (0 : Int) (0 : Int) (GExpr.mk (0 : Int) (0 : Int) []) [])) (yesL p.cond a)).length ≤ 65536 ∧ (fromL gg xs (p.kids.getD 1 (GProg.mk (0 : Int) (0 : Int) (GExpr.mk (0 : Int) (0 : Int) []) [])) (noL p.cond a)).length ≤ 65536) ∧ ((unionL (fromL gg xs (p.kids.getD 0 (GProg.mk (0 : Int) (0 : Int) (GExpr.mk (0 : Int) (0 : Int) []) [])) (yesL p.cond a)) (fromL gg xs (p.kids.getD 1 (GProg.mk (0 : Int) (0 : Int) (GExpr.mk (0 : Int) (0 : Int) []) [])) (noL p.cond a))).length ≤ 140737488355328 →
 (unionL (fromL gg xs (p.kids.getD 0 (GProg.mk (0 : Int) (0 : Int) (GExpr.mk (0 : Int) (0 : Int) []) [])) (yesL p.cond a)) (fromL gg xs (p.kids.getD 1 (GProg.mk (0 : Int) (0 : Int) (GExpr.mk (0 : Int) (0 : Int) []) [])) (noL p.cond a))) = (fromL gg xs p a)))))))))))) ∧ ((decide (p.kind = (6 : Int))) = false →
 (a.length ≤ 1048576 ∧ (a.length ≤ 140737488355328 →
 ((∃ k1 : Nat, (p.kind = 7 ∧ ((xs = xs ∧ (p = p ∧ (gg = gg ∧ (a = (wL (fromL gg xs (p.kids.getD 0 (GProg.mk (0 : Int) (0 : Int) (GExpr.mk (0 : Int) (0 : Int) []) []))) p.cond a k1) ∧ True)))) ∧ True))) ∧ (∀ k1 : Nat, (p.kind = 7 →
 ((goodC p.cond = true ∧ (wL (fromL gg xs (p.kids.getD 0 (GProg.mk (0 : Int) (0 : Int) (GExpr.mk (0 : Int) (0 : Int) []) []))) p.cond a k1).length ≤ 1048576 ∧ ∀ i, i < (wL (fromL gg xs (p.kids.getD 0 (GProg.mk (0 : Int) (0 : Int) (GExpr.mk (0 : Int) (0 : Int) []) []))) p.cond a k1).length → 0 ≤ (wL (fromL gg xs (p.kids.getD 0 (GProg.mk (0 : Int) (0 : Int) (GExpr.mk (0 : Int) (0 : Int) []) []))) p.cond a k1).getD i 0 ∧ (wL (fromL gg xs (p.kids.getD 0 (GProg.mk (0 : Int) (0 : Int) (GExpr.mk (0 : Int) (0 : Int) []) []))) p.cond a k1).getD i 0 ≤ 4096) ∧ ((yesL p.cond (wL (fromL gg xs (p.kids.getD 0 (GProg.mk (0 : Int) (0 : Int) (GExpr.mk (0 : Int) (0 : Int) []) []))) p.cond a k1)).length ≤ 140737488355328 →
 ((noL p.cond (wL (fromL gg xs (p.kids.getD 0 (GProg.mk (0 : Int) (0 : Int) (GExpr.mk (0 : Int) (0 : Int) []) []))) p.cond a k1)).length ≤ 140737488355328 →
 (idxOk (0 : Int) p.kids.length ∧ ((msz (p.kids.getD 0 (GProg.mk (0 : Int) (0 : Int) (GExpr.mk (0 : Int) (0 : Int) []) [])) < n ∧ okL gg xs (p.kids.getD 0 (GProg.mk (0 : Int) (0 : Int) (GExpr.mk (0 : Int) (0 : Int) []) [])) ∧ premsOk gg xs = true ∧ isSet (atomsN gg) (yesL p.cond (wL (fromL gg xs (p.kids.getD 0 (GProg.mk (0 : Int) (0 : Int) (GExpr.mk (0 : Int) (0 : Int) []) []))) p.cond a k1))) ∧ (p.kids.length ≤ 140737488355328 →
 ((fromL gg xs (p.kids.getD 0 (GProg.mk (0 : Int) (0 : Int) (GExpr.mk (0 : Int) (0 : Int) []) [])) (yesL p.cond (wL (fromL gg xs (p.kids.getD 0 (GProg.mk (0 : Int) (0 : Int) (GExpr.mk (0 : Int) (0 : Int) []) []))) p.cond a k1))).length ≤ 140737488355328 →
 (((wL (fromL gg xs (p.kids.getD 0 (GProg.mk (0 : Int) (0 : Int) (GExpr.mk (0 : Int) (0 : Int) []) []))) p.cond a k1).length ≤ 65536 ∧ (fromL gg xs (p.kids.getD 0 (GProg.mk (0 : Int) (0 : Int) (GExpr.mk (0 : Int) (0 : Int) []) [])) (yesL p.cond (wL (fromL gg xs (p.kids.getD 0 (GProg.mk (0 : Int) (0 : Int) (GExpr.mk (0 : Int) (0 : Int) []) []))) p.cond a k1))).length ≤ 65536) ∧ ((unionL (wL (fromL gg xs (p.kids.getD 0 (GProg.mk (0 : Int) (0 : Int) (GExpr.mk (0 : Int) (0 : Int) []) []))) p.cond a k1) (fromL gg xs (p.kids.getD 0 (GProg.mk (0 : Int) (0 : Int) (GExpr.mk (0 : Int) (0 : Int) []) [])) (yesL p.cond (wL (fromL gg xs (p.kids.getD 0 (GProg.mk (0 : Int) (0 : Int) (GExpr.mk (0 : Int) (0 : Int) []) []))) p.cond a k1)))).length ≤ 140737488355328 →
 (inI64 (((unionL (wL (fromL gg xs (p.kids.getD 0 (GProg.mk (0 : Int) (0 : Int) (GExpr.mk (0 : Int) (0 : Int) []) []))) p.cond a k1) (fromL gg xs (p.kids.getD 0 (GProg.mk (0 : Int) (0 : Int) (GExpr.mk (0 : Int) (0 : Int) []) [])) (yesL p.cond (wL (fromL gg xs (p.kids.getD 0 (GProg.mk (0 : Int) (0 : Int) (GExpr.mk (0 : Int) (0 : Int) []) []))) p.cond a k1)))).length : Int)) →
 (inI64 (((wL (fromL gg xs (p.kids.getD 0 (GProg.mk (0 : Int) (0 : Int) (GExpr.mk (0 : Int) (0 : Int) []) []))) p.cond a k1).length : Int)) →
 (((decide ((((unionL (wL (fromL gg xs (p.kids.getD 0 (GProg.mk (0 : Int) (0 : Int) (GExpr.mk (0 : Int) (0 : Int) []) []))) p.cond a k1) (fromL gg xs (p.kids.getD 0 (GProg.mk (0 : Int) (0 : Int) (GExpr.mk (0 : Int) (0 : Int) []) [])) (yesL p.cond (wL (fromL gg xs (p.kids.getD 0 (GProg.mk (0 : Int) (0 : Int) (GExpr.mk (0 : Int) (0 : Int) []) []))) p.cond a k1)))).length : Int)) = (((wL (fromL gg xs (p.kids.getD 0 (GProg.mk (0 : Int) (0 : Int) (GExpr.mk (0 : Int) (0 : Int) []) []))) p.cond a k1).length : Int)))) = true →
 (noL p.cond (wL (fromL gg xs (p.kids.getD 0 (GProg.mk (0 : Int) (0 : Int) (GExpr.mk (0 : Int) (0 : Int) []) []))) p.cond a k1)) = (fromL gg xs p a)) ∧ ((decide ((((unionL (wL (fromL gg xs (p.kids.getD 0 (GProg.mk (0 : Int) (0 : Int) (GExpr.mk (0 : Int) (0 : Int) []) []))) p.cond a k1) (fromL gg xs (p.kids.getD 0 (GProg.mk (0 : Int) (0 : Int) (GExpr.mk (0 : Int) (0 : Int) []) [])) (yesL p.cond (wL (fromL gg xs (p.kids.getD 0 (GProg.mk (0 : Int) (0 : Int) (GExpr.mk (0 : Int) (0 : Int) []) []))) p.cond a k1)))).length : Int)) = (((wL (fromL gg xs (p.kids.getD 0 (GProg.mk (0 : Int) (0 : Int) (GExpr.mk (0 : Int) (0 : Int) []) []))) p.cond a k1).length : Int)))) = false →
 (∃ k2 : Nat, (p.kind = 7 ∧ ((atomsN gg).toNat - (wL (fromL gg xs (p.kids.getD 0 (GProg.mk (0 : Int) (0 : Int) (GExpr.mk (0 : Int) (0 : Int) []) []))) p.cond a k2).length < (atomsN gg).toNat - (wL (fromL gg xs (p.kids.getD 0 (GProg.mk (0 : Int) (0 : Int) (GExpr.mk (0 : Int) (0 : Int) []) []))) p.cond a k1).length ∧ ((xs = xs ∧ (p = p ∧ (gg = gg ∧ ((unionL (wL (fromL gg xs (p.kids.getD 0 (GProg.mk (0 : Int) (0 : Int) (GExpr.mk (0 : Int) (0 : Int) []) []))) p.cond a k1) (fromL gg xs (p.kids.getD 0 (GProg.mk (0 : Int) (0 : Int) (GExpr.mk (0 : Int) (0 : Int) []) [])) (yesL p.cond (wL (fromL gg xs (p.kids.getD 0 (GProg.mk (0 : Int) (0 : Int) (GExpr.mk (0 : Int) (0 : Int) []) []))) p.cond a k1)))) = (wL (fromL gg xs (p.kids.getD 0 (GProg.mk (0 : Int) (0 : Int) (GExpr.mk (0 : Int) (0 : Int) []) []))) p.cond a k2) ∧ True)))) ∧ True)))))))))))))))))))))))))))))))))))))))) := by kernel_rfl
set_option maxRecDepth 4000 in
set_option maxHeartbeats 8000000 in
theorem ok_spec_l07From (n : Nat) (hE : AllGood [kn_spec_l07From n, k_spec_l00Own, k_spec_l07Next, k_spec_l00Put, k_spec_l07Parted, k_spec_l07Union]) : Ctr.Good (kn_spec_l07From (n + 1)) := by
  refine ⟨fnOk_of at_spec_l07From rfl (by decide), ?_⟩
  show ∀ (gg : GSig) (xs : List GPremise) (p : GProg) (a : List Int), (msz p < n + 1 ∧ okL gg xs p ∧ premsOk gg xs = true ∧ isSet (atomsN gg) a) → OkCall prog n_spec_l07From [.val ⟨(.st .sig), gg⟩, .val ⟨(.slice (.st .premise)), xs⟩, .ref ⟨(.st .prog), p⟩, .val ⟨(.slice (.int .i64)), a⟩] (· = [⟨(.slice (.int .i64)), fromL gg xs p a⟩])
  intro gg xs p a hp
  refine ok_of_awp (wr := []) (cl := []) (ro := [4]) hE at_spec_l07From body_spec_l07From (l_spec_l07From gg xs p a) ?_
  rewrite [vc_spec_l07From n gg xs p a]
  have fg := set_in gg hp.2.1.sig a hp.2.2.2
  have f1 := (from_kinds gg xs p hp.2.1 a).1
  have f2 := (from_kinds gg xs p hp.2.1 a).2.1
  have f3 := k3 gg xs p hp.2.1 a
  have f4 := (from_kinds gg xs p hp.2.1 a).2.2.2.1
  have f5 := k5 gg xs p hp.2.1 a hp.2.2.2
  have f6 := k6 gg xs p hp.2.1 a hp.2.2.2
  have fX := kX gg xs p hp.2.1
  have n0 := nextAll_zero gg xs p.num a
  have n7 : a = wL (fromL gg xs (p.kids.getD 0 (GProg.mk (0 : Int) (0 : Int) (GExpr.mk (0 : Int) (0 : Int) []) []))) p.cond a 0 := rfl
  have fy := fun e => k4 gg xs p hp.2.1 a hp.2.2.2 e
  refine fun a0 => ⟨fun a1 => ⟨?_, fun a2 => ?_⟩, fun a1 => ⟨fun a2 => ?_, fun a2 => ⟨fun a3 => ⟨⟨0, ⟨?_, ⟨⟨rfl, ⟨rfl, ⟨rfl, ⟨rfl, ⟨trivial, ⟨?_, ⟨?_, trivial⟩⟩⟩⟩⟩⟩⟩, trivial⟩⟩⟩, fun k1 a4 => have b4x0 := nextAll_take gg xs p.num a k1; have b4x1 := nextAll_all gg xs p.num a k1; have b4x2 := (fewSet gg hp.2.1.sig a hp.2.2.2).2 k1; have b4x3 := (fewSet gg hp.2.1.sig _ (nextA_set gg xs p.num (a.getD k1 0))).1; have b4x4 := (fun (h : k1 < a.length) => act_in gg xs p hp.2.1 a4.2 (a.getD k1 0) ⟨((fewSet gg hp.2.1.sig a hp.2.2.2).2 k1 h).1, ((fewSet gg hp.2.1.sig a hp.2.2.2).2 k1 h).2.2⟩); have b4x5 := unionL_zero (nextAll gg xs p.num (a.take k1)) (nextA gg xs p.num (a.getD k1 0)); have b4x6 := k3 gg xs p hp.2.1 a a4.2; fun a5 => ⟨fun a6 => ⟨?_, fun a7 => fun a8 => ⟨?_, fun a9 => ⟨⟨0, ⟨?_, ⟨⟨rfl, ⟨rfl, ⟨rfl, ⟨rfl, ⟨trivial, ⟨?_, ⟨rfl, ⟨rfl, ⟨?_, ⟨rfl, ⟨rfl, ⟨rfl, ⟨rfl, ⟨rfl, ⟨rfl, ⟨rfl, ⟨rfl, ⟨rfl, ⟨rfl, ⟨rfl, ⟨rfl, ⟨rfl, ⟨rfl, ⟨rfl, trivial⟩⟩⟩⟩⟩⟩⟩⟩⟩⟩⟩⟩⟩⟩⟩⟩⟩⟩⟩⟩⟩⟩⟩⟩, trivial⟩⟩⟩, fun j2 a10 => have b10x0 := unionL_take (nextAll gg xs p.num (a.take k1)) (nextA gg xs p.num (a.getD k1 0)) j2; have b10x1 := unionL_all (nextAll gg xs p.num (a.take k1)) (nextA gg xs p.num (a.getD k1 0)) j2; have b10x2 := (fewSet gg hp.2.1.sig _ (unionL_take_set _ _ _ (nextAll_set gg xs p.num (a.take k1)) (nextA_set gg xs p.num (a.getD k1 0)) j2)).1; fun a11 => ⟨fun a12 => ⟨?_, fun a13 => ⟨?_, fun a14 => ⟨?_, ⟨j2 + 1, ⟨?_, ⟨?_, ⟨⟨rfl, ⟨rfl, ⟨rfl, ⟨rfl, ⟨trivial, ⟨?_, ⟨rfl, ⟨rfl, ⟨?_, ⟨rfl, ⟨rfl, ⟨rfl, ⟨rfl, ⟨rfl, ⟨rfl, ⟨rfl, ⟨rfl, ⟨rfl, ⟨rfl, ⟨rfl, ⟨rfl, ⟨rfl, ⟨rfl, ⟨rfl, trivial⟩⟩⟩⟩⟩⟩⟩⟩⟩⟩⟩⟩⟩⟩⟩⟩⟩⟩⟩⟩⟩⟩⟩⟩, trivial⟩⟩⟩⟩⟩⟩⟩, fun a12 => ⟨?_, ⟨k1 + 1, ⟨?_, ⟨?_, ⟨⟨rfl, ⟨rfl, ⟨rfl, ⟨rfl, ⟨trivial, ⟨?_, ⟨?_, trivial⟩⟩⟩⟩⟩⟩⟩, trivial⟩⟩⟩⟩⟩⟩⟩⟩⟩, fun a6 => ?_⟩⟩, fun a3 => ⟨fun a4 => ⟨?_, ⟨?_, ⟨?_, fun a5 => fun a6 => fun a7 => ⟨?_, fun a8 => ?_⟩⟩⟩⟩, fun a4 => ⟨?_, fun a5 => fun a6 => fun a7 => ⟨fun a8 => ?_, fun a8 => ⟨fun a9 => ⟨?_, fun a10 => ⟨?_, fun a11 => ⟨?_, ⟨?_, fun a12 => fun a13 => ⟨?_, fun a14 => ?_⟩⟩⟩⟩⟩, fun a9 => ⟨?_, fun a10 => ⟨⟨0, ⟨?_, ⟨⟨rfl, ⟨rfl, ⟨rfl, ⟨?_, trivial⟩⟩⟩⟩, trivial⟩⟩⟩, fun k1 a11 => have b11x0 := (w_facts gg xs p hp.2.1 a11 a hp.2.2.2 k1).2; have b11x1 := k7 gg xs p hp.2.1 a hp.2.2.2 a11 k1; have b11x2 := (set_in gg hp.2.1.sig _ (w_facts gg xs p hp.2.1 a11 a hp.2.2.2 k1).1).1; have b11x3 := (set_in gg hp.2.1.sig _ (w_facts gg xs p hp.2.1 a11 a hp.2.2.2 k1).1).2; ⟨?_, fun a12 => fun a13 => ⟨?_, ⟨?_, fun a14 => fun a15 => ⟨?_, fun a16 => fun a17 => fun a18 => ⟨fun a19 => ?_, fun a19 => ⟨k1 + 1, ⟨?_, ⟨?_, ⟨⟨rfl, ⟨rfl, ⟨rfl, ⟨?_, trivial⟩⟩⟩⟩, trivial⟩⟩⟩⟩⟩⟩⟩⟩⟩⟩⟩⟩⟩⟩⟩⟩⟩⟩
  all_goals try and_intros
  all_goals first | with_reducible rfl | exact hp.2.2.1 | exact hp.2.2.2 | ((simp only [decide_eq_true_eq, decide_eq_false_iff_not, idxOk, inI64] at *) <;> (first | (replace f1 := f1 (by with_reducible assumption)) | clear f1) <;> (first | (replace f2 := f2 (by with_reducible assumption)) | clear f2) <;> (first | (replace f3 := f3 (by with_reducible assumption)) | clear f3) <;> (first | (replace f4 := f4 (by with_reducible assumption)) | clear f4) <;> (first | (replace f5 := f5 (by with_reducible assumption)) | clear f5) <;> (first | (replace f6 := f6 (by with_reducible assumption)) | clear f6) <;> (first | with_reducible assumption | omega | with_reducible rfl | grind))

theorem all_from_s  : ∀ n, AllGood [kn_spec_l07From n]
  | 0 => ⟨⟨fnOk_of at_spec_l07From rfl (by decide), fun _ _ _ _ h => absurd h.1 (Nat.not_lt_zero _)⟩, trivial⟩
  | n + 1 => by
    have ih := all_from_s  n
    exact ⟨ok_spec_l07From n ⟨ih.1, good_spec_l00Own, good_spec_l07Next, good_spec_l00Put, good_spec_l07Parted, good_spec_l07Union, trivial⟩, trivial⟩
theorem good_spec_l07From  : Ctr.Good k_spec_l07From :=
  ⟨fnOk_of at_spec_l07From rfl (by decide), fun gg xs p a hp => (all_from_s  (msz p + 1)).1.2 gg xs p a (⟨Nat.lt_succ_self _, hp⟩)⟩

end
end Go.Proofs.Ytcdppmpjplhgkaa

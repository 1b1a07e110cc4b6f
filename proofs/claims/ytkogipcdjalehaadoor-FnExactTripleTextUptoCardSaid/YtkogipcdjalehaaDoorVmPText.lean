/- Texts of programs and triples. Printed by vmk.py. -/
import Derived.Test.YtkogipcdjalehaaDoorVmUse
import Derived.Test.YtkogipcdjalehaaDoorVmLib
import Derived.Test.YtkogipcdjalehaaDoorVmExpr
import Derived.Test.YtkogipcdjalehaaDoorVmExpr2
import Derived.Test.YtkogipcdjalehaaDoorVmShaped
import Derived.Test.YtkogipcdjalehaaDoorVmTruth
import Derived.Test.YtkogipcdjalehaaDoorVmValid
import Derived.Test.YtkogipcdjalehaaDoorVmPrem
import Derived.Test.YtkogipcdjalehaaDoorVmProg
import Derived.Test.YtkogipcdjalehaaDoorVmText
set_option linter.unusedVariables false
set_option linter.unusedSimpArgs false
set_option linter.unusedSectionVars false
set_option maxRecDepth 4000
set_option maxHeartbeats 4000000
namespace Go.Proofs.YtkogipcdjalehaaDoor
noncomputable section
def tyP (k n : Int) (c p q : List UInt8) : List UInt8 := if k = 1 then [115, 107, 105, 112] else if k = 2 then [102, 97, 105, 108] else if k = 3 then [97] ++ dig n else if k = 4 then [97, 115, 115, 101, 114, 116, 32] ++ c
 else if k = 5 then [123] ++ p ++ [59, 32] ++ q ++ [125] else if k = 6 then [105, 102, 32] ++ c ++ [32, 116, 104, 101, 110, 32] ++ p ++ [32, 101, 108, 115, 101, 32] ++ q ++ [32, 102, 105] else [119, 104, 105, 108, 101, 32] ++ c ++ [32, 100, 111, 32] ++ p ++ [32, 111, 100]
mutual
def txP : GProg → List UInt8
 | ⟨k, n, c, ks⟩ => tyP k n (txE c) ((txPs ks).getD 0 []) ((txPs ks).getD 1 [])
def txPs : List GProg → List (List UInt8)
 | [] => []
 | k :: ks => txP k :: txPs ks
end
theorem txPs_getD (z : GProg) : ∀ (xs : List GProg) (i : Nat), i < xs.length → (txPs xs).getD i [] = txP (xs.getD i z)
 | [], i, h => by simp at h
 | x :: xs, 0, h => by simp [txPs]
 | x :: xs, i + 1, h => by
  have := txPs_getD z xs i (by simpa using h)
  simpa [txPs] using this
theorem txP_eq (x : GProg) : txP x = tyP x.kind x.num (txE x.cond) ((txPs x.kids).getD 0 []) ((txPs x.kids).getD 1 []) := by
 cases x; rfl
def goodP (x : GProg) : Prop := ∃ gg, sigOk gg = true ∧ treeP gg x = true
theorem isC_goodT (gg : GSig) (x : GExpr) (hg : sigOk gg = true) (h : isC gg x = true) : goodT x = true ∧ (txE x).length ≤ 1000 := by
 simp only [isC, Bool.and_eq_true, isE_iff] at h
 rw [sigOk_iff] at hg
 rw [pred64_of _ (by omega), pred64_of _ (by omega)] at h
 have ht := treeE_mono _ _ 9 9 (by omega) (by omega) x h.1.1
 have := txE_len (msz x + 1) x (Nat.lt_succ_self _) ht
 exact ⟨ht, by have := h.1.2.1; omega⟩
theorem goodP_kid (x : GProg) (h : goodP x) (i : Nat) (hi : i < x.kids.length) : goodP (x.kids.getD i zP) ∧ msz (x.kids.getD i zP) < msz x := by
 obtain ⟨gg, hg, ht⟩ := h
 rw [treeP_eq] at ht
 simp only [Bool.and_eq_true] at ht
 refine ⟨⟨gg, hg, all_getD _ _ _ _ hi ht.2⟩, ?_⟩
 have := msz_getD (zP : GProg) x.kids i hi
 have := msz_kidsP x
 omega
theorem goodP_kind (x : GProg) (h : goodP x) : x.kind = 1 ∨ x.kind = 2 ∨ x.kind = 3 ∨ x.kind = 4 ∨ x.kind = 5 ∨ x.kind = 6 ∨ x.kind = 7 := by
 obtain ⟨gg, hg, ht⟩ := h
 rw [treeP_eq, headP_eq] at ht
 simp only [Bool.and_eq_true, decide_eq_true_eq] at ht
 have h1 := ht.1.1.1
 unfold kidsPN at h1
 split at h1
 ·omega
 ·split at h1
  ·omega
  ·split at h1 <;> omega
theorem goodP_kids (x : GProg) (h : goodP x) : ((x.kind = 5 ∨ x.kind = 6) → x.kids.length = 2) ∧ (x.kind = 7 → x.kids.length = 1) := by
 obtain ⟨gg, hg, ht⟩ := h
 rw [treeP_eq, headP_eq] at ht
 simp only [Bool.and_eq_true, decide_eq_true_eq] at ht
 have h1 := ht.1.1.1
 refine ⟨fun e => ?_, fun e => ?_⟩
 ·rcases e with e | e <;> rw [e] at h1 <;> simp [kidsPN] at h1 <;> omega
 ·rw [e] at h1; simp [kidsPN] at h1; omega
theorem goodP_num (x : GProg) (h : goodP x) (e : x.kind = 3) : 0 ≤ x.num ∧ x.num ≤ 9 := by
 obtain ⟨gg, hg, ht⟩ := h
 have ha := (sigOk_iff gg).1 hg
 rw [treeP_eq, headP_eq] at ht
 simp only [Bool.and_eq_true, decide_eq_true_eq, numP, if_pos e] at ht
 omega
theorem goodP_cond (x : GProg) (h : goodP x) (e : x.kind = 4 ∨ x.kind = 6 ∨ x.kind = 7) : goodT x.cond = true ∧ (txE x.cond).length ≤ 1000 := by
 obtain ⟨gg, hg, ht⟩ := h
 rw [treeP_eq, headP_eq] at ht
 simp only [Bool.and_eq_true, decide_eq_true_eq, conP] at ht
 have ha : asksP x.kind = true := by unfold asksP; rcases e with e | e | e <;> simp [e]
 rw [if_pos ha] at ht
 exact isC_goodT gg _ hg ht.1.2
structure PK_ (x : GProg) (i : Nat) : Prop where
 good : goodP (x.kids.getD i zP)
 less : msz (x.kids.getD i zP) < msz x
 len : (txP (x.kids.getD i zP)).length ≤ (txP x).length
structure CK_ (x : GProg) : Prop where
 good : goodT x.cond = true
 len : (txE x.cond).length ≤ (txP x).length
 lim : (txE x.cond).length ≤ 1000
theorem tp_1 (x : GProg) (e : x.kind = 1) : txP x = [115, 107, 105, 112] := by rw [txP_eq]; simp [tyP, e]
theorem tp_2 (x : GProg) (e : x.kind = 2) : txP x = [102, 97, 105, 108] := by rw [txP_eq]; simp [tyP, e]
theorem tp_3 (x : GProg) (h : goodP x) (e : x.kind = 3) : 0 ≤ x.num ∧ x.num ≤ 9 ∧ (dig x.num).length = 1 ∧ txP x = [97] ++ dig x.num := by
 have := goodP_num x h e
 exact ⟨this.1, this.2, dig_len _ this, by rw [txP_eq]; simp [tyP, e]⟩
theorem tp_4 (x : GProg) (h : goodP x) (e : x.kind = 4) : CK_ x ∧ txP x = [97, 115, 115, 101, 114, 116, 32] ++ txE x.cond := by
 have hc := goodP_cond x h (.inl e)
 have ht : txP x = [97, 115, 115, 101, 114, 116, 32] ++ txE x.cond := by rw [txP_eq]; simp [tyP, e]
 exact ⟨⟨hc.1, by rw [ht]; simp; omega, hc.2⟩, ht⟩
theorem tp_5 (x : GProg) (h : goodP x) (e : x.kind = 5) : x.kids.length = 2 ∧ PK_ x 0 ∧ PK_ x 1 ∧ txP x = [123] ++ txP (x.kids.getD 0 zP) ++ [59, 32] ++ txP (x.kids.getD 1 zP) ++ [125] := by
 have hl := (goodP_kids x h).1 (.inl e)
 have h0 := goodP_kid x h 0 (by omega)
 have h1 := goodP_kid x h 1 (by omega)
 have ht : txP x = [123] ++ txP (x.kids.getD 0 zP) ++ [59, 32] ++ txP (x.kids.getD 1 zP) ++ [125] := by
  rw [txP_eq, txPs_getD zP x.kids 0 (by omega), txPs_getD zP x.kids 1 (by omega)]; simp [tyP, e]
 exact ⟨hl, ⟨h0.1, h0.2, by rw [ht]; simp; omega⟩, ⟨h1.1, h1.2, by rw [ht]; simp; omega⟩, ht⟩
theorem tp_6 (x : GProg) (h : goodP x) (e : x.kind = 6) : x.kids.length = 2 ∧ CK_ x ∧ PK_ x 0 ∧ PK_ x 1 ∧
  txP x = [105, 102, 32] ++ txE x.cond ++ [32, 116, 104, 101, 110, 32] ++ txP (x.kids.getD 0 zP) ++ [32, 101, 108, 115, 101, 32] ++ txP (x.kids.getD 1 zP) ++ [32, 102, 105] := by
 have hl := (goodP_kids x h).1 (.inr e)
 have hc := goodP_cond x h (.inr (.inl e))
 have h0 := goodP_kid x h 0 (by omega)
 have h1 := goodP_kid x h 1 (by omega)
 have ht : txP x = [105, 102, 32] ++ txE x.cond ++ [32, 116, 104, 101, 110, 32] ++ txP (x.kids.getD 0 zP) ++ [32, 101, 108, 115, 101, 32] ++ txP (x.kids.getD 1 zP) ++ [32, 102, 105] := by
  rw [txP_eq, txPs_getD zP x.kids 0 (by omega), txPs_getD zP x.kids 1 (by omega)]; simp [tyP, e]
 exact ⟨hl, ⟨hc.1, by rw [ht]; simp; omega, hc.2⟩, ⟨h0.1, h0.2, by rw [ht]; simp; omega⟩, ⟨h1.1, h1.2, by rw [ht]; simp; omega⟩, ht⟩
theorem tp_7 (x : GProg) (h : goodP x) (e1 : ¬ x.kind = 1) (e2 : ¬ x.kind = 2) (e3 : ¬ x.kind = 3) (e4 : ¬ x.kind = 4) (e5 : ¬ x.kind = 5) (e6 : ¬ x.kind = 6) : x.kids.length = 1 ∧ CK_ x ∧ PK_ x 0 ∧
  txP x = [119, 104, 105, 108, 101, 32] ++ txE x.cond ++ [32, 100, 111, 32] ++ txP (x.kids.getD 0 zP) ++ [32, 111, 100] := by
 have e : x.kind = 7 := by have := goodP_kind x h; omega
 have hl := (goodP_kids x h).2 e
 have hc := goodP_cond x h (.inr (.inr e))
 have h0 := goodP_kid x h 0 (by omega)
 have ht : txP x = [119, 104, 105, 108, 101, 32] ++ txE x.cond ++ [32, 100, 111, 32] ++ txP (x.kids.getD 0 zP) ++ [32, 111, 100] := by
  rw [txP_eq, txPs_getD zP x.kids 0 (by omega)]; simp [tyP, e]
 exact ⟨hl, ⟨hc.1, by rw [ht]; simp; omega, hc.2⟩, ⟨h0.1, h0.2, by rw [ht]; simp; omega⟩, ht⟩
theorem szP2 (f : GProg → Nat) (z : GProg) (xs : List GProg) (h : xs.length = 2) : szL f xs = f (xs.getD 0 z) + f (xs.getD 1 z) := by
 match xs, h with
 | [a, b], _ => simp [szL]
theorem szP1 (f : GProg → Nat) (z : GProg) (xs : List GProg) (h : xs.length = 1) : szL f xs = f (xs.getD 0 z) := by
 match xs, h with
 | [a], _ => simp [szL]
theorem txP_len : ∀ (N : Nat) (x : GProg), msz x < N → goodP x → (txP x).length ≤ 1100 * nodesP x
 | 0, x, h, _ => by omega
 | N + 1, x, hN, h => by
  have hn := nodesP_eq x
  rcases goodP_kind x h with e | e | e | e | e | e | e
  ·rw [tp_1 x e]; simp; omega
  ·rw [tp_2 x e]; simp; omega
  ·obtain ⟨_, _, h1, h2⟩ := tp_3 x h e; rw [h2]; simp; omega
  ·obtain ⟨h1, h2⟩ := tp_4 x h e; rw [h2]; have := h1.lim; simp; omega
  ·obtain ⟨hl, h0, h1, h2⟩ := tp_5 x h e
   have i0 := txP_len N _ (by have := h0.less; omega) h0.good
   have i1 := txP_len N _ (by have := h1.less; omega) h1.good
   rw [szP2 _ zP _ hl] at hn
   rw [h2]; simp only [List.length_append, List.length_cons, List.length_nil]; omega
  ·obtain ⟨hl, hc, h0, h1, h2⟩ := tp_6 x h e
   have i0 := txP_len N _ (by have := h0.less; omega) h0.good
   have i1 := txP_len N _ (by have := h1.less; omega) h1.good
   have ic := hc.lim
   rw [szP2 _ zP _ hl] at hn
   rw [h2]; simp only [List.length_append, List.length_cons, List.length_nil]; omega
  ·obtain ⟨hl, hc, h0, h2⟩ := tp_7 x h (by omega) (by omega) (by omega) (by omega) (by omega) (by omega)
   have i0 := txP_len N _ (by have := h0.less; omega) h0.good
   have ic := hc.lim
   rw [szP1 _ zP _ hl] at hn
   rw [h2]; simp only [List.length_append, List.length_cons, List.length_nil]; omega
def kn_spec_l06Text (n : Nat) : Ctr := ⟨n_spec_l06Text, [.r (.st .prog)], fun (x : GProg) => ⟨(some (msz x < n ∧ goodP x ∧ (txP x).length ≤ 1000000), [⟨.str, txP x⟩])⟩⟩
def k_spec_l06Text : Ctr := ⟨n_spec_l06Text, [.r (.st .prog)], fun (x : GProg) => ⟨(some (goodP x ∧ (txP x).length ≤ 1000000), [⟨.str, txP x⟩])⟩⟩
def l_spec_l06Text (x : GProg) : Nat → LoopInv := fun _ => .none
theorem vc_spec_l06Text (n : Nat) (x : GProg) : awp (envOf [kn_spec_l06Text n, k_spec_l01Text, k_spec_Decimal]) (bodyOf f_spec_l06Text) (l_spec_l06Text x) 0 (funPost (envOf [kn_spec_l06Text n, k_spec_l01Text, k_spec_Decimal]) f_spec_l06Text fun r => areEq r [⟨.str, txP x⟩]) (startState f_spec_l06Text [.ref ⟨(.st .prog), x⟩]) =
 ((inI64 x.kind →
 (((decide (x.kind = (1 : Int))) = true →
 ([115, 107, 105, 112]) = (txP x)) ∧ ((decide (x.kind = (1 : Int))) = false →
 (((decide (x.kind = (2 : Int))) = true →
 ([102, 97, 105, 108]) = (txP x)) ∧ ((decide (x.kind = (2 : Int))) = false →
 (((decide (x.kind = (3 : Int))) = true →
 (inI64 x.num →
 ((0 ≤ x.num ∧ x.num ≤ 9) ∧ ((dig x.num).length ≤ 140737488355328 →
 (([97]).length + (dig x.num).length ≤ 140737488355328 ∧ (([97]) ++ (dig x.num)) = (txP x)))))) ∧ ((decide (x.kind = (3 : Int))) = false →
 (((decide (x.kind = (4 : Int))) = true →
 ((goodT x.cond = true ∧ (txE x.cond).length ≤ 1000000) ∧ ((txE x.cond).length ≤ 140737488355328 →
 (([97, 115, 115, 101, 114, 116, 32]).length + (txE x.cond).length ≤ 140737488355328 ∧ (([97, 115, 115, 101, 114, 116, 32]) ++ (txE x.cond)) = (txP x))))) ∧ ((decide (x.kind = (4 : Int))) = false →
 (((decide (x.kind = (5 : Int))) = true →
 (idxOk (0 : Int) x.kids.length ∧ ((msz (x.kids.getD 0 zP) < n ∧ goodP (x.kids.getD 0 zP) ∧ (txP (x.kids.getD 0 zP)).length ≤ 1000000) ∧ (([123]).length + (txP (x.kids.getD 0 zP)).length ≤ 140737488355328 ∧ ((([123]) ++ (txP (x.kids.getD 0 zP))).length + ([59, 32]).length ≤ 140737488355328 ∧ (idxOk (1 : Int) x.kids.length ∧ ((msz (x.kids.getD 1 zP) < n ∧ goodP (x.kids.getD 1 zP) ∧ (txP (x.kids.getD 1 zP)).length ≤ 1000000) ∧ (x.kids.length ≤ 140737488355328 →
 ((txP (x.kids.getD 0 zP)).length ≤ 140737488355328 →
 (x.kids.length ≤ 140737488355328 →
 ((txP (x.kids.getD 1 zP)).length ≤ 140737488355328 →
 (((([123]) ++ (txP (x.kids.getD 0 zP))) ++ ([59, 32])).length + (txP (x.kids.getD 1 zP)).length ≤ 140737488355328 ∧ ((((([123]) ++ (txP (x.kids.getD 0 zP))) ++ ([59, 32])) ++ (txP (x.kids.getD 1 zP))).length + ([125]).length ≤ 140737488355328 ∧ ((((([123]) ++ (txP (x.kids.getD 0 zP))) ++ ([59, 32])) ++ (txP (x.kids.getD 1 zP))) ++ ([125])) = (txP x)))))))))))))) ∧ ((decide (x.kind = (5 : Int))) = false →
 (((decide (x.kind = (6 : Int))) = true →
 ((goodT x.cond = true ∧ (txE x.cond).length ≤ 1000000) ∧ (([105, 102, 32]).length + (txE x.cond).length ≤ 140737488355328 ∧ ((([105, 102, 32]) ++ (txE x.cond)).length + ([32, 116, 104, 101, 110, 32]).length ≤ 140737488355328 ∧ (idxOk (0 : Int) x.kids.length ∧ ((msz (x.kids.getD 0 zP) < n ∧ goodP (x.kids.getD 0 zP) ∧ (txP (x.kids.getD 0 zP)).length ≤ 1000000) ∧ (((([105, 102, 32]) ++ (txE x.cond)) ++ ([32, 116, 104, 101, 110, 32])).length + (txP (x.kids.getD 0 zP)).length ≤ 140737488355328 ∧ ((((([105, 102, 32]) ++ (txE x.cond)) ++ ([32, 116, 104, 101, 110, 32])) ++ (txP (x.kids.getD 0 zP))).length + ([32, 101, 108, 115, 101, 32]).length ≤ 140737488355328 ∧ (idxOk (1 : Int) x.kids.length ∧ ((msz (x.kids.getD 1 zP) < n ∧ goodP (x.kids.getD 1 zP) ∧ (txP (x.kids.getD 1 zP)).length ≤ 1000000) ∧ ((txE x.cond).length ≤ 140737488355328 →
 (x.kids.length ≤ 140737488355328 →
 ((txP (x.kids.getD 0 zP)).length ≤ 140737488355328 →
 (x.kids.length ≤ 140737488355328 →
 ((txP (x.kids.getD 1 zP)).length ≤ 140737488355328 →
 (((((([105, 102, 32]) ++ (txE x.cond)) ++ ([32, 116, 104, 101, 110, 32])) ++ (txP (x.kids.getD 0 zP))) ++ ([32, 101, 108, 115, 101, 32])).length + (txP (x.kids.getD 1 zP)).length ≤ 140737488355328 ∧ ((((((([105, 102, 32]) ++ (txE x.cond)) ++ ([32, 116, 104, 101, 110, 32])) ++ (txP (x.kids.getD 0 zP))) ++ ([32, 101, 108, 115, 101, 32])) ++ (txP (x.kids.getD 1 zP))).length + ([32, 102, 105]).length ≤ 140737488355328 ∧ ((((((([105, 102, 32]) ++ (txE x.cond)) ++ ([32, 116, 104, 101, 110, 32])) ++ (txP (x.kids.getD 0 zP))) ++ ([32, 101, 108, 115, 101, 32])) ++ (txP (x.kids.getD 1 zP))) ++ ([32, 102, 105])) = (txP x)))))))))))))))))) ∧ ((decide (x.kind = (6 : Int))) = false →
 ((goodT x.cond = true ∧ (txE x.cond).length ≤ 1000000) ∧ (([119, 104, 105, 108, 101, 32]).length + (txE x.cond).length ≤ 140737488355328 ∧ ((([119, 104, 105, 108, 101, 32]) ++ (txE x.cond)).length + ([32, 100, 111, 32]).length ≤ 140737488355328 ∧ (idxOk (0 : Int) x.kids.length ∧ ((msz (x.kids.getD 0 zP) < n ∧ goodP (x.kids.getD 0 zP) ∧ (txP (x.kids.getD 0 zP)).length ≤ 1000000) ∧ ((txE x.cond).length ≤ 140737488355328 →
 (x.kids.length ≤ 140737488355328 →
 ((txP (x.kids.getD 0 zP)).length ≤ 140737488355328 →
 (((([119, 104, 105, 108, 101, 32]) ++ (txE x.cond)) ++ ([32, 100, 111, 32])).length + (txP (x.kids.getD 0 zP)).length ≤ 140737488355328 ∧ ((((([119, 104, 105, 108, 101, 32]) ++ (txE x.cond)) ++ ([32, 100, 111, 32])) ++ (txP (x.kids.getD 0 zP))).length + ([32, 111, 100]).length ≤ 140737488355328 ∧ ((((([119, 104, 105, 108, 101, 32]) ++ (txE x.cond)) ++ ([32, 100, 111, 32])) ++ (txP (x.kids.getD 0 zP))) ++ ([32, 111, 100])) = (txP x))))))))))))))))))))))))) := by kernel_rfl
theorem ok_spec_l06Text (n : Nat) (hE : AllGood [kn_spec_l06Text n, k_spec_l01Text, k_spec_Decimal]) : Ctr.Good (kn_spec_l06Text (n + 1)) := by
 refine ⟨fnOk_of at_spec_l06Text rfl (by decide), ?_⟩
 show ∀ (x : GProg), (msz x < n + 1 ∧ goodP x ∧ (txP x).length ≤ 1000000) → OkCall prog n_spec_l06Text [.ref ⟨(.st .prog), x⟩] (· = [⟨.str, txP x⟩])
 intro x hp
 refine ok_of_awp (wr := []) (cl := []) (ro := []) hE at_spec_l06Text body_spec_l06Text (l_spec_l06Text x) ?_
 rewrite [vc_spec_l06Text n x]
 obtain ⟨hm, hg, hl⟩ := hp
 have f1 := tp_1 x
 have f2 := tp_2 x
 have f3 := tp_3 x hg
 have f4 := tp_4 x hg
 have f5 := tp_5 x hg
 have f6 := tp_6 x hg
 have f7 := tp_7 x hg
 refine fun a0 => ⟨fun a1 => ?_, fun a1 => ⟨fun a2 => ?_, fun a2 => ⟨fun a3 => fun a4 => ⟨?_, fun a5 => ⟨?_, ?_⟩⟩, fun a3 => ⟨fun a4 => ⟨?_, fun a5 => ⟨?_, ?_⟩⟩, fun a4 => ⟨fun a5 => ⟨?_, ⟨?_, ⟨?_, ⟨?_, ⟨?_, ⟨?_, fun a6 => fun a7 => fun a8 => fun a9 => ⟨?_, ⟨?_, ?_⟩⟩⟩⟩⟩⟩⟩⟩, fun a5 => ⟨fun a6 => ⟨?_, ⟨?_, ⟨?_, ⟨?_, ⟨?_, ⟨?_, ⟨?_, ⟨?_, ⟨?_, fun a7 => fun a8 => fun a9 => fun a10 => fun a11 => ⟨?_, ⟨?_, ?_⟩⟩⟩⟩⟩⟩⟩⟩⟩⟩⟩, fun a6 => ⟨?_, ⟨?_, ⟨?_, ⟨?_, ⟨?_, fun a7 => fun a8 => fun a9 => ⟨?_, ⟨?_, ?_⟩⟩⟩⟩⟩⟩⟩⟩⟩⟩⟩⟩⟩
 all_goals try and_intros
 all_goals ((try simp only [decide_eq_true_eq, decide_eq_false_iff_not, idxOk] at *); (first | replace f1 := f1 (by with_reducible assumption) | clear f1); (first | replace f2 := f2 (by with_reducible assumption) | clear f2); (first | replace f3 := f3 (by with_reducible assumption) | clear f3); (first | replace f4 := f4 (by with_reducible assumption) | clear f4); (first | replace f5 := f5 (by with_reducible assumption) | clear f5); (first | replace f6 := f6 (by with_reducible assumption) | clear f6); (first | replace f7 := f7 (by with_reducible assumption) (by with_reducible assumption) (by with_reducible assumption) (by with_reducible assumption) (by with_reducible assumption) (by with_reducible assumption) | clear f7); (try obtain ⟨a3, b3, b3b, c3⟩ := f3); (try obtain ⟨a4, c4⟩ := f4); (try obtain ⟨a5, b5, b5b, c5⟩ := f5); (try obtain ⟨a6, b6, b6b, b6c, c6⟩ := f6); (try obtain ⟨a7, b7, b7b, c7⟩ := f7); first | rfl | omega | exact PK_.good (by assumption) | exact CK_.good (by assumption) | exact f1.symm | exact f2.symm | (have t0 := CK_.lim ‹CK_ x›; omega) | (have t0 := PK_.len ‹PK_ x 0›; have t1 := PK_.less ‹PK_ x 0›; omega) | (have t0 := PK_.len ‹PK_ x 1›; have t1 := PK_.less ‹PK_ x 1›; omega) | exact (Eq.symm (by assumption)) | (simp only [List.length_append, List.length_cons, List.length_nil]; (try have s0 := CK_.lim ‹CK_ x›); (try have t0 := PK_.len ‹PK_ x 0›); (try have t1 := PK_.len ‹PK_ x 1›); omega))
theorem all_text_ps  : ∀ n, AllGood [kn_spec_l06Text n]
 | 0 => ⟨⟨fnOk_of at_spec_l06Text rfl (by decide), fun _ h => absurd h.1 (Nat.not_lt_zero _)⟩, trivial⟩
 | n + 1 => by
  have ih := all_text_ps  n
  exact ⟨ok_spec_l06Text n ⟨ih.1, good_spec_l01Text, good_spec_Decimal, trivial⟩, trivial⟩
theorem good_spec_l06Text  : Ctr.Good k_spec_l06Text :=
 ⟨fnOk_of at_spec_l06Text rfl (by decide), fun x hp => (all_text_ps  (msz x + 1)).1.2 x (⟨Nat.lt_succ_self _, hp⟩)⟩
def kn_impl_progText (n : Nat) : Ctr := ⟨n_impl_progText, [.v (.st .prog)], fun (x : GProg) => ⟨(some (msz x < n ∧ goodP x ∧ (txP x).length ≤ 1000000), [⟨.str, txP x⟩])⟩⟩
def k_impl_progText : Ctr := ⟨n_impl_progText, [.v (.st .prog)], fun (x : GProg) => ⟨(some (goodP x ∧ (txP x).length ≤ 1000000), [⟨.str, txP x⟩])⟩⟩
def l_impl_progText (x : GProg) : Nat → LoopInv := fun _ => .none
theorem vc_impl_progText (n : Nat) (x : GProg) : awp (envOf [kn_impl_progText n, k_impl_textOf, k_impl_decimal] [] [] [1]) (bodyOf f_impl_progText) (l_impl_progText x) 0 (funPost (envOf [kn_impl_progText n, k_impl_textOf, k_impl_decimal] [] [] [1]) f_impl_progText fun r => areEq r [⟨.str, txP x⟩]) (startState f_impl_progText [.val ⟨(.st .prog), x⟩]) =
 ((inI64 x.kind →
 (((decide (x.kind = (1 : Int))) = true →
 ([115, 107, 105, 112]) = (txP x)) ∧ ((decide (x.kind = (1 : Int))) = false →
 (((decide (x.kind = (2 : Int))) = true →
 ([102, 97, 105, 108]) = (txP x)) ∧ ((decide (x.kind = (2 : Int))) = false →
 (((decide (x.kind = (3 : Int))) = true →
 (inI64 x.num →
 ((0 ≤ x.num ∧ x.num ≤ 9) ∧ ((dig x.num).length ≤ 140737488355328 →
 (([97]).length + (dig x.num).length ≤ 140737488355328 ∧ (([97]) ++ (dig x.num)) = (txP x)))))) ∧ ((decide (x.kind = (3 : Int))) = false →
 (((decide (x.kind = (4 : Int))) = true →
 ((goodT x.cond = true ∧ (txE x.cond).length ≤ 1000000) ∧ ((txE x.cond).length ≤ 140737488355328 →
 (([97, 115, 115, 101, 114, 116, 32]).length + (txE x.cond).length ≤ 140737488355328 ∧ (([97, 115, 115, 101, 114, 116, 32]) ++ (txE x.cond)) = (txP x))))) ∧ ((decide (x.kind = (4 : Int))) = false →
 (((decide (x.kind = (5 : Int))) = true →
 (idxOk (0 : Int) x.kids.length ∧ ((msz (x.kids.getD 0 zP) < n ∧ goodP (x.kids.getD 0 zP) ∧ (txP (x.kids.getD 0 zP)).length ≤ 1000000) ∧ (([123]).length + (txP (x.kids.getD 0 zP)).length ≤ 140737488355328 ∧ ((([123]) ++ (txP (x.kids.getD 0 zP))).length + ([59, 32]).length ≤ 140737488355328 ∧ (idxOk (1 : Int) x.kids.length ∧ ((msz (x.kids.getD 1 zP) < n ∧ goodP (x.kids.getD 1 zP) ∧ (txP (x.kids.getD 1 zP)).length ≤ 1000000) ∧ (x.kids.length ≤ 140737488355328 →
 ((txP (x.kids.getD 0 zP)).length ≤ 140737488355328 →
 (x.kids.length ≤ 140737488355328 →
 ((txP (x.kids.getD 1 zP)).length ≤ 140737488355328 →
 (((([123]) ++ (txP (x.kids.getD 0 zP))) ++ ([59, 32])).length + (txP (x.kids.getD 1 zP)).length ≤ 140737488355328 ∧ ((((([123]) ++ (txP (x.kids.getD 0 zP))) ++ ([59, 32])) ++ (txP (x.kids.getD 1 zP))).length + ([125]).length ≤ 140737488355328 ∧ ((((([123]) ++ (txP (x.kids.getD 0 zP))) ++ ([59, 32])) ++ (txP (x.kids.getD 1 zP))) ++ ([125])) = (txP x)))))))))))))) ∧ ((decide (x.kind = (5 : Int))) = false →
 (((decide (x.kind = (6 : Int))) = true →
 ((goodT x.cond = true ∧ (txE x.cond).length ≤ 1000000) ∧ (([105, 102, 32]).length + (txE x.cond).length ≤ 140737488355328 ∧ ((([105, 102, 32]) ++ (txE x.cond)).length + ([32, 116, 104, 101, 110, 32]).length ≤ 140737488355328 ∧ (idxOk (0 : Int) x.kids.length ∧ ((msz (x.kids.getD 0 zP) < n ∧ goodP (x.kids.getD 0 zP) ∧ (txP (x.kids.getD 0 zP)).length ≤ 1000000) ∧ (((([105, 102, 32]) ++ (txE x.cond)) ++ ([32, 116, 104, 101, 110, 32])).length + (txP (x.kids.getD 0 zP)).length ≤ 140737488355328 ∧ ((((([105, 102, 32]) ++ (txE x.cond)) ++ ([32, 116, 104, 101, 110, 32])) ++ (txP (x.kids.getD 0 zP))).length + ([32, 101, 108, 115, 101, 32]).length ≤ 140737488355328 ∧ (idxOk (1 : Int) x.kids.length ∧ ((msz (x.kids.getD 1 zP) < n ∧ goodP (x.kids.getD 1 zP) ∧ (txP (x.kids.getD 1 zP)).length ≤ 1000000) ∧ ((txE x.cond).length ≤ 140737488355328 →
 (x.kids.length ≤ 140737488355328 →
 ((txP (x.kids.getD 0 zP)).length ≤ 140737488355328 →
 (x.kids.length ≤ 140737488355328 →
 ((txP (x.kids.getD 1 zP)).length ≤ 140737488355328 →
 (((((([105, 102, 32]) ++ (txE x.cond)) ++ ([32, 116, 104, 101, 110, 32])) ++ (txP (x.kids.getD 0 zP))) ++ ([32, 101, 108, 115, 101, 32])).length + (txP (x.kids.getD 1 zP)).length ≤ 140737488355328 ∧ ((((((([105, 102, 32]) ++ (txE x.cond)) ++ ([32, 116, 104, 101, 110, 32])) ++ (txP (x.kids.getD 0 zP))) ++ ([32, 101, 108, 115, 101, 32])) ++ (txP (x.kids.getD 1 zP))).length + ([32, 102, 105]).length ≤ 140737488355328 ∧ ((((((([105, 102, 32]) ++ (txE x.cond)) ++ ([32, 116, 104, 101, 110, 32])) ++ (txP (x.kids.getD 0 zP))) ++ ([32, 101, 108, 115, 101, 32])) ++ (txP (x.kids.getD 1 zP))) ++ ([32, 102, 105])) = (txP x)))))))))))))))))) ∧ ((decide (x.kind = (6 : Int))) = false →
 ((goodT x.cond = true ∧ (txE x.cond).length ≤ 1000000) ∧ (([119, 104, 105, 108, 101, 32]).length + (txE x.cond).length ≤ 140737488355328 ∧ ((([119, 104, 105, 108, 101, 32]) ++ (txE x.cond)).length + ([32, 100, 111, 32]).length ≤ 140737488355328 ∧ (idxOk (0 : Int) x.kids.length ∧ ((msz (x.kids.getD 0 zP) < n ∧ goodP (x.kids.getD 0 zP) ∧ (txP (x.kids.getD 0 zP)).length ≤ 1000000) ∧ ((txE x.cond).length ≤ 140737488355328 →
 (x.kids.length ≤ 140737488355328 →
 ((txP (x.kids.getD 0 zP)).length ≤ 140737488355328 →
 (((([119, 104, 105, 108, 101, 32]) ++ (txE x.cond)) ++ ([32, 100, 111, 32])).length + (txP (x.kids.getD 0 zP)).length ≤ 140737488355328 ∧ ((((([119, 104, 105, 108, 101, 32]) ++ (txE x.cond)) ++ ([32, 100, 111, 32])) ++ (txP (x.kids.getD 0 zP))).length + ([32, 111, 100]).length ≤ 140737488355328 ∧ ((((([119, 104, 105, 108, 101, 32]) ++ (txE x.cond)) ++ ([32, 100, 111, 32])) ++ (txP (x.kids.getD 0 zP))) ++ ([32, 111, 100])) = (txP x))))))))))))))))))))))))) := by kernel_rfl
theorem ok_impl_progText (n : Nat) (hE : AllGood [kn_impl_progText n, k_impl_textOf, k_impl_decimal]) : Ctr.Good (kn_impl_progText (n + 1)) := by
 refine ⟨fnOk_of at_impl_progText rfl (by decide), ?_⟩
 show ∀ (x : GProg), (msz x < n + 1 ∧ goodP x ∧ (txP x).length ≤ 1000000) → OkCall prog n_impl_progText [.val ⟨(.st .prog), x⟩] (· = [⟨.str, txP x⟩])
 intro x hp
 refine ok_of_awp (wr := []) (cl := []) (ro := [1]) hE at_impl_progText body_impl_progText (l_impl_progText x) ?_
 rewrite [vc_impl_progText n x]
 obtain ⟨hm, hg, hl⟩ := hp
 have f1 := tp_1 x
 have f2 := tp_2 x
 have f3 := tp_3 x hg
 have f4 := tp_4 x hg
 have f5 := tp_5 x hg
 have f6 := tp_6 x hg
 have f7 := tp_7 x hg
 refine fun a0 => ⟨fun a1 => ?_, fun a1 => ⟨fun a2 => ?_, fun a2 => ⟨fun a3 => fun a4 => ⟨?_, fun a5 => ⟨?_, ?_⟩⟩, fun a3 => ⟨fun a4 => ⟨?_, fun a5 => ⟨?_, ?_⟩⟩, fun a4 => ⟨fun a5 => ⟨?_, ⟨?_, ⟨?_, ⟨?_, ⟨?_, ⟨?_, fun a6 => fun a7 => fun a8 => fun a9 => ⟨?_, ⟨?_, ?_⟩⟩⟩⟩⟩⟩⟩⟩, fun a5 => ⟨fun a6 => ⟨?_, ⟨?_, ⟨?_, ⟨?_, ⟨?_, ⟨?_, ⟨?_, ⟨?_, ⟨?_, fun a7 => fun a8 => fun a9 => fun a10 => fun a11 => ⟨?_, ⟨?_, ?_⟩⟩⟩⟩⟩⟩⟩⟩⟩⟩⟩, fun a6 => ⟨?_, ⟨?_, ⟨?_, ⟨?_, ⟨?_, fun a7 => fun a8 => fun a9 => ⟨?_, ⟨?_, ?_⟩⟩⟩⟩⟩⟩⟩⟩⟩⟩⟩⟩⟩
 all_goals try and_intros
 all_goals ((try simp only [decide_eq_true_eq, decide_eq_false_iff_not, idxOk] at *); (first | replace f1 := f1 (by with_reducible assumption) | clear f1); (first | replace f2 := f2 (by with_reducible assumption) | clear f2); (first | replace f3 := f3 (by with_reducible assumption) | clear f3); (first | replace f4 := f4 (by with_reducible assumption) | clear f4); (first | replace f5 := f5 (by with_reducible assumption) | clear f5); (first | replace f6 := f6 (by with_reducible assumption) | clear f6); (first | replace f7 := f7 (by with_reducible assumption) (by with_reducible assumption) (by with_reducible assumption) (by with_reducible assumption) (by with_reducible assumption) (by with_reducible assumption) | clear f7); (try obtain ⟨a3, b3, b3b, c3⟩ := f3); (try obtain ⟨a4, c4⟩ := f4); (try obtain ⟨a5, b5, b5b, c5⟩ := f5); (try obtain ⟨a6, b6, b6b, b6c, c6⟩ := f6); (try obtain ⟨a7, b7, b7b, c7⟩ := f7); first | rfl | omega | exact PK_.good (by assumption) | exact CK_.good (by assumption) | exact f1.symm | exact f2.symm | (have t0 := CK_.lim ‹CK_ x›; omega) | (have t0 := PK_.len ‹PK_ x 0›; have t1 := PK_.less ‹PK_ x 0›; omega) | (have t0 := PK_.len ‹PK_ x 1›; have t1 := PK_.less ‹PK_ x 1›; omega) | exact (Eq.symm (by assumption)) | (simp only [List.length_append, List.length_cons, List.length_nil]; (try have s0 := CK_.lim ‹CK_ x›); (try have t0 := PK_.len ‹PK_ x 0›); (try have t1 := PK_.len ‹PK_ x 1›); omega))
theorem all_text_pi  : ∀ n, AllGood [kn_impl_progText n]
 | 0 => ⟨⟨fnOk_of at_impl_progText rfl (by decide), fun _ h => absurd h.1 (Nat.not_lt_zero _)⟩, trivial⟩
 | n + 1 => by
  have ih := all_text_pi  n
  exact ⟨ok_impl_progText n ⟨ih.1, good_impl_textOf, good_impl_decimal, trivial⟩, trivial⟩
theorem good_impl_progText  : Ctr.Good k_impl_progText :=
 ⟨fnOk_of at_impl_progText rfl (by decide), fun x hp => (all_text_pi  (msz x + 1)).1.2 x (⟨Nat.lt_succ_self _, hp⟩)⟩
end
end Go.Proofs.YtkogipcdjalehaaDoor

/- ReadExpr, on both sides. Printed by vmk.py. -/
import Derived.Test.YtbphjcgkidlabaaDoorVmUse
import Derived.Test.YtbphjcgkidlabaaDoorVmLib
import Derived.Test.YtbphjcgkidlabaaDoorVmRExpr2
import Derived.Test.YtbphjcgkidlabaaDoorVmRds
set_option linter.unusedVariables false
set_option linter.unusedSimpArgs false
set_option linter.unusedSectionVars false
set_option maxRecDepth 4000
set_option maxHeartbeats 4000000
namespace Go.Proofs.YtbphjcgkidlabaaDoor
noncomputable section
def rxV (gg : GSig) (t : List UInt8) : GExpr := bif sigOk gg && decide (t.length ≤ 4000) then rdV gg t else zX
def rxC (gg : GSig) (t : List UInt8) : Int := bif sigOk gg then (bif decide (t.length ≤ 4000) then (bif rdOk gg t then 0 else 5) else 2) else 1
theorem exE_top (t : List UInt8) : exE t 0 0 false = topS t := rfl
def ko_impl_readExpr : Ctr := ⟨n_impl_readExpr, [.v (.st .sig), .v .str], fun (gg : GSig) (t : List UInt8) => ⟨(some (sigOk gg = true ∧ t.length ≤ 8000), [⟨(.st .expr), rdV gg t⟩, ⟨.bool, rdOk gg t⟩])⟩⟩
def lo_impl_readExpr (gg : GSig) (t : List UInt8) : Nat → LoopInv := fun _ => .none
theorem vco_impl_readExpr (gg : GSig) (t : List UInt8) : awp (envO [k_impl_isExpr, k_impl_textOf] [] [] [12] [] [] [2] [ks_impl_reader_expr]) (bodyOf f_impl_readExpr) (lo_impl_readExpr gg t) 0 (ownPost (envO [k_impl_isExpr, k_impl_textOf] [] [] [12] [] [] [2] [ks_impl_reader_expr]) f_impl_readExpr fun r => areEq r [⟨(.st .expr), rdV gg t⟩, ⟨.bool, rdOk gg t⟩]) (startO f_impl_readExpr [.val ⟨(.st .sig), gg⟩, .val ⟨.str, t⟩]) =
 (((0 ≤ (0 : Int) ∧ (0 : Int) ≤ (t.length : Int) ∧ t.length ≤ 10000 ∧ -1 ≤ (40 : Int) ∧ (40 : Int) ≤ 40) ∧ (((!((xE t (40 : Int) (0 : Int)).ok)) = false →
 (inI64 (((xE t (40 : Int) (0 : Int)).a : Int)) →
 (inI64 ((t.length : Int)) →
 (((!(decide ((((xE t (40 : Int) (0 : Int)).a : Int)) = ((t.length : Int))))) = false →
 (((!(isE gg (e_expr ((xE t (40 : Int) (0 : Int)).e)))) = false →
 ((goodT (e_expr ((xE t (40 : Int) (0 : Int)).e)) = true ∧ (txE (e_expr ((xE t (40 : Int) (0 : Int)).e))).length ≤ 1000000) ∧ ((txE (e_expr ((xE t (40 : Int) (0 : Int)).e))).length ≤ 140737488355328 →
 (((!decide ((txE (e_expr ((xE t (40 : Int) (0 : Int)).e))) = t)) = true →
 (zE = (rdV gg t) ∧ false = (rdOk gg t))) ∧ ((!decide ((txE (e_expr ((xE t (40 : Int) (0 : Int)).e))) = t)) = false →
 ((e_expr ((xE t (40 : Int) (0 : Int)).e)) = (rdV gg t) ∧ true = (rdOk gg t))))))) ∧ ((!(isE gg (e_expr ((xE t (40 : Int) (0 : Int)).e)))) = (!false) →
 ((true = true →
 (zE = (rdV gg t) ∧ false = (rdOk gg t))) ∧ (true = false →
 ((e_expr ((xE t (40 : Int) (0 : Int)).e)) = (rdV gg t) ∧ true = (rdOk gg t))))))) ∧ ((!(decide ((((xE t (40 : Int) (0 : Int)).a : Int)) = ((t.length : Int))))) = (!false) →
 ((true = false →
 ((goodT (e_expr ((xE t (40 : Int) (0 : Int)).e)) = true ∧ (txE (e_expr ((xE t (40 : Int) (0 : Int)).e))).length ≤ 1000000) ∧ ((txE (e_expr ((xE t (40 : Int) (0 : Int)).e))).length ≤ 140737488355328 →
 (((!decide ((txE (e_expr ((xE t (40 : Int) (0 : Int)).e))) = t)) = true →
 (zE = (rdV gg t) ∧ false = (rdOk gg t))) ∧ ((!decide ((txE (e_expr ((xE t (40 : Int) (0 : Int)).e))) = t)) = false →
 ((e_expr ((xE t (40 : Int) (0 : Int)).e)) = (rdV gg t) ∧ true = (rdOk gg t))))))) ∧ (true = (!false) →
 ((true = true →
 (zE = (rdV gg t) ∧ false = (rdOk gg t))) ∧ (true = false →
 ((e_expr ((xE t (40 : Int) (0 : Int)).e)) = (rdV gg t) ∧ true = (rdOk gg t))))))))))) ∧ ((!((xE t (40 : Int) (0 : Int)).ok)) = (!false) →
 ((true = false →
 (((!(isE gg (e_expr ((xE t (40 : Int) (0 : Int)).e)))) = false →
 ((goodT (e_expr ((xE t (40 : Int) (0 : Int)).e)) = true ∧ (txE (e_expr ((xE t (40 : Int) (0 : Int)).e))).length ≤ 1000000) ∧ ((txE (e_expr ((xE t (40 : Int) (0 : Int)).e))).length ≤ 140737488355328 →
 (((!decide ((txE (e_expr ((xE t (40 : Int) (0 : Int)).e))) = t)) = true →
 (zE = (rdV gg t) ∧ false = (rdOk gg t))) ∧ ((!decide ((txE (e_expr ((xE t (40 : Int) (0 : Int)).e))) = t)) = false →
 ((e_expr ((xE t (40 : Int) (0 : Int)).e)) = (rdV gg t) ∧ true = (rdOk gg t))))))) ∧ ((!(isE gg (e_expr ((xE t (40 : Int) (0 : Int)).e)))) = (!false) →
 ((true = true →
 (zE = (rdV gg t) ∧ false = (rdOk gg t))) ∧ (true = false →
 ((e_expr ((xE t (40 : Int) (0 : Int)).e)) = (rdV gg t) ∧ true = (rdOk gg t))))))) ∧ (true = (!false) →
 ((true = false →
 ((goodT (e_expr ((xE t (40 : Int) (0 : Int)).e)) = true ∧ (txE (e_expr ((xE t (40 : Int) (0 : Int)).e))).length ≤ 1000000) ∧ ((txE (e_expr ((xE t (40 : Int) (0 : Int)).e))).length ≤ 140737488355328 →
 (((!decide ((txE (e_expr ((xE t (40 : Int) (0 : Int)).e))) = t)) = true →
 (zE = (rdV gg t) ∧ false = (rdOk gg t))) ∧ ((!decide ((txE (e_expr ((xE t (40 : Int) (0 : Int)).e))) = t)) = false →
 ((e_expr ((xE t (40 : Int) (0 : Int)).e)) = (rdV gg t) ∧ true = (rdOk gg t))))))) ∧ (true = (!false) →
 ((true = true →
 (zE = (rdV gg t) ∧ false = (rdOk gg t))) ∧ (true = false →
 ((e_expr ((xE t (40 : Int) (0 : Int)).e)) = (rdV gg t) ∧ true = (rdOk gg t)))))))))))) := by kernel_rfl
theorem oko_impl_readExpr (hE : AllGood [k_impl_isExpr, k_impl_textOf]) (hO : AllO []) (hM : AllM []) (hS : AllS [ks_impl_reader_expr]) : Ctr.OGood ko_impl_readExpr := by
 refine ⟨fnOk_of at_impl_readExpr rfl (by decide), ?_⟩
 show ∀ (gg : GSig) (t : List UInt8), (sigOk gg = true ∧ t.length ≤ 8000) → OkOwn prog n_impl_readExpr [.val ⟨(.st .sig), gg⟩, .val ⟨.str, t⟩] [⟨(.st .expr), rdV gg t⟩, ⟨.bool, rdOk gg t⟩]
 intro gg t hp
 refine own_of_awp (own := [12]) (wr := []) (cl := []) (ro := [2]) hE hO hM hS at_impl_readExpr body_impl_readExpr (lo_impl_readExpr gg t) ?_
 rewrite [vco_impl_readExpr gg t]
 obtain ⟨hg, hl⟩ := hp
 have r1 : rdOk gg t = ((xE t 40 0).ok && decide ((xE t 40 0).a = t.length) && isE gg (xE t 40 0).e && decide (txE (xE t 40 0).e = t)) := rfl
 have r2 : rdV gg t = bif rdOk gg t then (xE t 40 0).e else zX := rfl
 have r3 := isE_goodT gg (xE t 40 0).e hg
 rcases Bool.eq_false_or_eq_true (xE t 40 0).ok with h1 | h1
 ·by_cases h2 : (xE t 40 0).a = t.length
  ·have d2 : decide (((xE t 40 0).a : Int) = (t.length : Int)) = true := decide_eq_true (by omega)
   rcases Bool.eq_false_or_eq_true (isE gg (xE t 40 0).e) with h3 | h3
   ·obtain ⟨g1, g2, g3⟩ := r3 h3
    by_cases h4 : txE (xE t 40 0).e = t
    ·have k1 : rdOk gg t = true := by rw [r1, h1, decide_eq_true h2, h3, decide_eq_true h4]; rfl
     have k2 : rdV gg t = (xE t 40 0).e := by rw [r2, k1]; rfl
     simp only [h1, d2, h3, decide_eq_true h4, g1, k1, k2, decide_true, decide_false, Bool.not_true, Bool.not_false, Bool.true_eq_false, Bool.false_eq_true, not_true_eq_false, not_false_eq_true, false_implies, true_implies, and_true, true_and, Int.toNat_natCast, inI64, e_expr_eq]
     repeat' (first | intro _ | apply And.intro)
     all_goals first | exact True.intro | omega | with_reducible rfl
    ·have k1 : rdOk gg t = false := by rw [r1, decide_eq_false h4]; simp
     have k2 : rdV gg t = zX := by rw [r2, k1]; rfl
     simp only [h1, d2, h3, decide_eq_false h4, g1, k1, k2, decide_true, decide_false, Bool.not_true, Bool.not_false, Bool.true_eq_false, Bool.false_eq_true, not_true_eq_false, not_false_eq_true, false_implies, true_implies, and_true, true_and, Int.toNat_natCast, inI64, e_expr_eq]
     repeat' (first | intro _ | apply And.intro)
     all_goals first | exact True.intro | omega | with_reducible rfl
   ·have k1 : rdOk gg t = false := by rw [r1, h3]; simp
    have k2 : rdV gg t = zX := by rw [r2, k1]; rfl
    simp only [h1, d2, h3, k1, k2, decide_true, decide_false, Bool.not_true, Bool.not_false, Bool.true_eq_false, Bool.false_eq_true, not_true_eq_false, not_false_eq_true, false_implies, true_implies, and_true, true_and, Int.toNat_natCast, inI64, e_expr_eq]
    repeat' (first | intro _ | apply And.intro)
    all_goals first | exact True.intro | omega | with_reducible rfl
  ·have d2 : decide (((xE t 40 0).a : Int) = (t.length : Int)) = false := decide_eq_false (by omega)
   have k1 : rdOk gg t = false := by rw [r1, decide_eq_false h2]; simp
   have k2 : rdV gg t = zX := by rw [r2, k1]; rfl
   simp only [h1, d2, k1, k2, decide_true, decide_false, Bool.not_true, Bool.not_false, Bool.true_eq_false, Bool.false_eq_true, not_true_eq_false, not_false_eq_true, false_implies, true_implies, and_true, true_and, Int.toNat_natCast, inI64, e_expr_eq]
   repeat' (first | intro _ | apply And.intro)
   all_goals first | exact True.intro | omega | with_reducible rfl
 ·have k1 : rdOk gg t = false := by rw [r1, h1]; rfl
  have k2 : rdV gg t = zX := by rw [r2, k1]; rfl
  simp only [h1, k1, k2, decide_true, decide_false, Bool.not_true, Bool.not_false, Bool.true_eq_false, Bool.false_eq_true, not_true_eq_false, not_false_eq_true, false_implies, true_implies, and_true, true_and, Int.toNat_natCast, inI64, e_expr_eq]
  repeat' (first | intro _ | apply And.intro)
  all_goals first | exact True.intro | omega | with_reducible rfl
theorem ogood_impl_readExpr : Ctr.OGood ko_impl_readExpr := oko_impl_readExpr ⟨good_impl_isExpr, good_impl_textOf, trivial⟩ trivial trivial ⟨sgood_impl_reader_expr, trivial⟩
def ko_spec_ReadExpr : Ctr := ⟨n_spec_ReadExpr, [.v (.st .sig), .v .str], fun (gg : GSig) (t : List UInt8) => ⟨(none, [⟨(.st .expr), rxV gg t⟩, ⟨(.int .i64), rxC gg t⟩])⟩⟩
def lo_spec_ReadExpr (gg : GSig) (t : List UInt8) : Nat → LoopInv := fun _ => .none
theorem vco_spec_ReadExpr (gg : GSig) (t : List UInt8) : awp (envO [k_spec_l01Sig, k_spec_l01Ok] [] [] [20] [] [] [2] [ks_spec_l01Reader_expr]) (bodyOf f_spec_ReadExpr) (lo_spec_ReadExpr gg t) 0 (ownPost (envO [k_spec_l01Sig, k_spec_l01Ok] [] [] [20] [] [] [2] [ks_spec_l01Reader_expr]) f_spec_ReadExpr fun r => areEq r [⟨(.st .expr), rxV gg t⟩, ⟨(.int .i64), rxC gg t⟩]) (startO f_spec_ReadExpr [.val ⟨(.st .sig), gg⟩, .val ⟨.str, t⟩]) =
 ((((!(sigOk gg)) = true →
 (zE = (rxV gg t) ∧ (1 : Int) = (rxC gg t))) ∧ ((!(sigOk gg)) = false →
 (inI64 ((t.length : Int)) →
 (((decide ((4000 : Int) < ((t.length : Int)))) = true →
 (zE = (rxV gg t) ∧ (2 : Int) = (rxC gg t))) ∧ ((decide ((4000 : Int) < ((t.length : Int)))) = false →
 ((0 ≤ (0 : Int) ∧ (0 : Int) ≤ (t.length : Int) ∧ t.length ≤ 10000 ∧ 0 ≤ (0 : Int) ∧ (0 : Int) ≤ 1000) ∧ ((((exE t (0 : Int) (0 : Int) false).bad) = false →
 (inI64 (((exE t (0 : Int) (0 : Int) false).a : Int)) →
 (inI64 ((t.length : Int)) →
 (((!(decide ((((exE t (0 : Int) (0 : Int) false).a : Int)) = ((t.length : Int))))) = false →
 (((!(okE gg (e_expr ((exE t (0 : Int) (0 : Int) false).e)))) = true →
 (zE = (rxV gg t) ∧ (5 : Int) = (rxC gg t))) ∧ ((!(okE gg (e_expr ((exE t (0 : Int) (0 : Int) false).e)))) = false →
 ((e_expr ((exE t (0 : Int) (0 : Int) false).e)) = (rxV gg t) ∧ (0 : Int) = (rxC gg t))))) ∧ ((!(decide ((((exE t (0 : Int) (0 : Int) false).a : Int)) = ((t.length : Int))))) = (!false) →
 ((true = true →
 (zE = (rxV gg t) ∧ (5 : Int) = (rxC gg t))) ∧ (true = false →
 ((e_expr ((exE t (0 : Int) (0 : Int) false).e)) = (rxV gg t) ∧ (0 : Int) = (rxC gg t))))))))) ∧ (((exE t (0 : Int) (0 : Int) false).bad) = (!false) →
 ((true = false →
 (((!(okE gg (e_expr ((exE t (0 : Int) (0 : Int) false).e)))) = true →
 (zE = (rxV gg t) ∧ (5 : Int) = (rxC gg t))) ∧ ((!(okE gg (e_expr ((exE t (0 : Int) (0 : Int) false).e)))) = false →
 ((e_expr ((exE t (0 : Int) (0 : Int) false).e)) = (rxV gg t) ∧ (0 : Int) = (rxC gg t))))) ∧ (true = (!false) →
 ((true = true →
 (zE = (rxV gg t) ∧ (5 : Int) = (rxC gg t))) ∧ (true = false →
 ((e_expr ((exE t (0 : Int) (0 : Int) false).e)) = (rxV gg t) ∧ (0 : Int) = (rxC gg t))))))))))))))) := by kernel_rfl
theorem oko_spec_ReadExpr (hE : AllGood [k_spec_l01Sig, k_spec_l01Ok]) (hO : AllO []) (hM : AllM []) (hS : AllS [ks_spec_l01Reader_expr]) : Ctr.OGood ko_spec_ReadExpr := by
 refine ⟨fnOk_of at_spec_ReadExpr rfl (by decide), ?_⟩
 show ∀ (gg : GSig) (t : List UInt8), True → OkOwn prog n_spec_ReadExpr [.val ⟨(.st .sig), gg⟩, .val ⟨.str, t⟩] [⟨(.st .expr), rxV gg t⟩, ⟨(.int .i64), rxC gg t⟩]
 intro gg t _
 refine own_of_awp (own := [20]) (wr := []) (cl := []) (ro := [2]) hE hO hM hS at_spec_ReadExpr body_spec_ReadExpr (lo_spec_ReadExpr gg t) ?_
 rewrite [vco_spec_ReadExpr gg t]
 have r1 : rxV gg t = bif sigOk gg && decide (t.length ≤ 4000) then rdV gg t else zX := rfl
 have r2 : rxC gg t = bif sigOk gg then (bif decide (t.length ≤ 4000) then (bif rdOk gg t then 0 else 5) else 2) else 1 := rfl
 have r3 : rdOk gg t = false → rdV gg t = zX := fun h => by unfold rdV; rw [h]; rfl
 rcases Bool.eq_false_or_eq_true (sigOk gg) with hg | hg
 ·by_cases hl : t.length ≤ 4000
  ·have d1 : decide ((4000 : Int) < ((t.length : Int))) = false := decide_eq_false (by omega)
   have s0 := rd_spec gg t hg
   rw [← exE_top] at s0
   obtain ⟨s1, s2⟩ := s0
   have s3 : okE gg (exE t 0 0 false).e = isE gg (exE t 0 0 false).e := by unfold okE; rw [hg]; rfl
   simp only [r1, r2, hg, d1, decide_eq_true hl, s3, Bool.and_self, cond_true, decide_true, decide_false, Bool.not_true, Bool.not_false, Bool.true_eq_false, Bool.false_eq_true, not_true_eq_false, not_false_eq_true, false_implies, true_implies, and_true, true_and, Int.toNat_natCast, inI64, e_expr_eq]
   rcases Bool.eq_false_or_eq_true (exE t 0 0 false).bad with h1 | h1
   ·have k : rdOk gg t = false := by rw [← s1, h1]; rfl
    simp only [h1, k, r3 k, cond_false, decide_true, decide_false, Bool.not_true, Bool.not_false, Bool.true_eq_false, Bool.false_eq_true, not_true_eq_false, not_false_eq_true, false_implies, true_implies, and_true, true_and, Int.toNat_natCast, inI64, e_expr_eq]
    repeat' (first | intro _ | apply And.intro)
    all_goals first | exact True.intro | omega | with_reducible rfl | with_reducible assumption
   ·by_cases h2 : (exE t 0 0 false).a = t.length
    ·have d2 : decide (((exE t 0 0 false).a : Int) = (t.length : Int)) = true := decide_eq_true (by omega)
     rcases Bool.eq_false_or_eq_true (isE gg (exE t 0 0 false).e) with h3 | h3
     ·have k : rdOk gg t = true := by rw [← s1, h1, decide_eq_true h2, h3]; rfl
      have k2 := s2 k
      simp only [h1, d2, h3, k, cond_true, decide_true, decide_false, Bool.not_true, Bool.not_false, Bool.true_eq_false, Bool.false_eq_true, not_true_eq_false, not_false_eq_true, false_implies, true_implies, and_true, true_and, Int.toNat_natCast, inI64, e_expr_eq]
      repeat' (first | intro _ | apply And.intro)
      all_goals first | exact True.intro | omega | with_reducible rfl | with_reducible assumption
     ·have k : rdOk gg t = false := by rw [← s1, h3]; simp
      simp only [h1, d2, h3, k, r3 k, cond_false, decide_true, decide_false, Bool.not_true, Bool.not_false, Bool.true_eq_false, Bool.false_eq_true, not_true_eq_false, not_false_eq_true, false_implies, true_implies, and_true, true_and, Int.toNat_natCast, inI64, e_expr_eq]
      repeat' (first | intro _ | apply And.intro)
      all_goals first | exact True.intro | omega | with_reducible rfl | with_reducible assumption
    ·have d2 : decide (((exE t 0 0 false).a : Int) = (t.length : Int)) = false := decide_eq_false (by omega)
     have k : rdOk gg t = false := by rw [← s1, decide_eq_false h2]; simp
     simp only [h1, d2, k, r3 k, cond_false, decide_true, decide_false, Bool.not_true, Bool.not_false, Bool.true_eq_false, Bool.false_eq_true, not_true_eq_false, not_false_eq_true, false_implies, true_implies, and_true, true_and, Int.toNat_natCast, inI64, e_expr_eq]
     repeat' (first | intro _ | apply And.intro)
     all_goals first | exact True.intro | omega | with_reducible rfl | with_reducible assumption
  ·have d1 : decide ((4000 : Int) < ((t.length : Int))) = true := decide_eq_true (by omega)
   simp only [r1, r2, hg, d1, decide_eq_false hl, Bool.and_false, cond_true, cond_false, decide_true, decide_false, Bool.not_true, Bool.not_false, Bool.true_eq_false, Bool.false_eq_true, not_true_eq_false, not_false_eq_true, false_implies, true_implies, and_true, true_and, Int.toNat_natCast, inI64, e_expr_eq]
   repeat' (first | intro _ | apply And.intro)
   all_goals first | exact True.intro | omega | with_reducible rfl | with_reducible assumption
 ·simp only [r1, r2, hg, Bool.false_and, cond_false, decide_true, decide_false, Bool.not_true, Bool.not_false, Bool.true_eq_false, Bool.false_eq_true, not_true_eq_false, not_false_eq_true, false_implies, true_implies, and_true, true_and, Int.toNat_natCast, inI64, e_expr_eq]
  repeat' (first | intro _ | apply And.intro)
  all_goals first | exact True.intro | omega | with_reducible rfl | with_reducible assumption
theorem ogood_spec_ReadExpr : Ctr.OGood ko_spec_ReadExpr := oko_spec_ReadExpr ⟨good_spec_l01Sig, good_spec_l01Ok, trivial⟩ trivial trivial ⟨sgood_spec_l01Reader_expr, trivial⟩
end
end Go.Proofs.YtbphjcgkidlabaaDoor

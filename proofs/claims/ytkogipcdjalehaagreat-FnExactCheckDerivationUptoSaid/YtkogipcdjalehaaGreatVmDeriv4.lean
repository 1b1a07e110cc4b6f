/- Derivations: all nodes. Printed by vmk.py. -/
import Derived.Test.YtkogipcdjalehaaGreatVmUse
import Derived.Test.YtkogipcdjalehaaGreatVmLib
import Derived.Test.YtkogipcdjalehaaGreatVmSz
import Derived.Test.YtkogipcdjalehaaGreatVmTruth
import Derived.Test.YtkogipcdjalehaaGreatVmValid
import Derived.Test.YtkogipcdjalehaaGreatVmPrem
import Derived.Test.YtkogipcdjalehaaGreatVmProg
import Derived.Test.YtkogipcdjalehaaGreatVmSame
import Derived.Test.YtkogipcdjalehaaGreatVmDeriv
import Derived.Test.YtkogipcdjalehaaGreatVmDeriv2
import Derived.Test.YtkogipcdjalehaaGreatVmDeriv3
set_option linter.unusedVariables false
set_option linter.unusedSimpArgs false
set_option linter.unusedSectionVars false
set_option maxRecDepth 4000
set_option maxHeartbeats 4000000
namespace Go.Proofs.YtkogipcdjalehaaGreat
noncomputable section
section
variable (gg : GSig) (xs : List GPremise)
mutual
def okD : GDerivation → Bool
 | ⟨r, s, ks⟩ => okDs ks && rightB gg xs ⟨r, s, ks⟩
def okDs : List GDerivation → Bool
 | [] => true
 | k :: ks => okD k && okDs ks
end
mutual
def cntD : GDerivation → Nat
 | ⟨r, s, ks⟩ => bif okDs gg xs ks then dszs ks + (bif rightB gg xs ⟨r, s, ks⟩ then 1 else 0) else cntDs ks
def cntDs : List GDerivation → Nat
 | [] => 0
 | k :: ks => bif okD gg xs k then dsz k + cntDs ks else cntD k
end
theorem okDs_eq : ∀ ks, okDs gg xs ks = allL (okD gg xs) ks
 | [] => rfl
 | k :: ks => by rw [okDs, allL, okDs_eq ks]
theorem okD_eq (d : GDerivation) : okD gg xs d = (allL (okD gg xs) d.kids && rightB gg xs d) := by
 cases d; simp only [okD, okDs_eq]
theorem cntD_eq (d : GDerivation) : cntD gg xs d = bif allL (okD gg xs) d.kids then szL dsz d.kids + (bif rightB gg xs d then 1 else 0) else cntDs gg xs d.kids := by
 cases d; simp only [cntD, okDs_eq, dszs_eq]
mutual
theorem cntD_le : ∀ d : GDerivation, cntD gg xs d ≤ dsz d
 | ⟨r, s, ks⟩ => by
  have := cntDs_le ks
  simp only [cntD, dsz]
  cases okDs gg xs ks <;> cases rightB gg xs ⟨r, s, ks⟩ <;> simp <;> omega
theorem cntDs_le : ∀ ks : List GDerivation, cntDs gg xs ks ≤ dszs ks
 | [] => Nat.le_refl _
 | k :: ks => by
  have h1 := cntD_le k
  have h2 := cntDs_le ks
  simp only [cntDs, dszs]
  cases okD gg xs k <;> simp <;> omega
end
mutual
theorem cntD_ok : ∀ d : GDerivation, okD gg xs d = true → cntD gg xs d = dsz d
 | ⟨r, s, ks⟩, h => by
  simp only [okD, Bool.and_eq_true] at h
  simp only [cntD, dsz, h.1, h.2, cond_true]; omega
end
theorem cntDs_at (z : GDerivation) : ∀ (ks : List GDerivation) (k : Nat), k < ks.length → allL (okD gg xs) (ks.take k) = true → okD gg xs (ks.getD k z) = false → cntDs gg xs ks = szL dsz (ks.take k) + cntD gg xs (ks.getD k z)
 | [], k, h, _, _ => by simp at h
 | x :: ks, 0, _, _, h => by
  simp only [List.getD_cons_zero] at h
  simp [cntDs, h, szL]
 | x :: ks, k + 1, hk, ha, h => by
  simp only [List.take_succ_cons, allL, Bool.and_eq_true] at ha
  have := cntDs_at z ks k (by simpa using hk) ha.2 (by simpa using h)
  simp only [cntDs, ha.1, cond_true, this, List.take_succ_cons, szL, List.getD_cons_succ]; omega
theorem okD_gd (d : GDerivation) (h : okD gg xs d = true) : gdK d = true := by
 rw [okD_eq, rightB_eq] at h
 simp only [Bool.and_eq_true] at h
 exact okT_gd gg d h.2.1
theorem okDs_gd : ∀ ks : List GDerivation, allL (okD gg xs) ks = true → allL gdK ks = true
 | [], _ => rfl
 | k :: ks, h => by
  simp only [allL, Bool.and_eq_true] at h ⊢
  exact ⟨okD_gd gg xs k h.1, okDs_gd ks h.2⟩
def cdN (d : GDerivation) : Int := bif premsOk gg xs then (if 400 < dsz d then 0 else (cntD gg xs d : Int)) else 0
def cdC (d : GDerivation) : Int := bif premsOk gg xs then (if 400 < dsz d then 2 else bif okD gg xs d then 0 else 8) else 1
end
theorem dsz_pos (d : GDerivation) : 1 ≤ dsz d := by rw [dsz_eq]; omega
theorem szL_split (xs : List GDerivation) (k : Nat) (h : k < xs.length) : szL dsz (xs.take k) + dsz (xs.getD k zD) ≤ szL dsz xs := by
 have h1 := szL_take dsz zD xs k h
 have h2 := szL_take_le dsz xs (k + 1)
 omega
theorem dstep (gg : GSig) (xs : List GPremise) (d : GDerivation) (k : Nat) (h : k < d.kids.length) (ha : allL (okD gg xs) (d.kids.take k) = true) :
  szL dsz (d.kids.take k) + dsz (d.kids.getD k zD) ≤ szL dsz d.kids ∧ 1 ≤ dsz (d.kids.getD k zD) ∧ msz (d.kids.getD k zD) < msz d.kids ∧
  ((okD gg xs (d.kids.getD k zD) = true ∧ allL (okD gg xs) (d.kids.take (k + 1)) = true ∧ szL dsz (d.kids.take (k + 1)) = szL dsz (d.kids.take k) + cntD gg xs (d.kids.getD k zD) ∧ cntD gg xs (d.kids.getD k zD) = dsz (d.kids.getD k zD)) ∨
   (okD gg xs (d.kids.getD k zD) = false ∧ okD gg xs d = false ∧ cntD gg xs d = szL dsz (d.kids.take k) + cntD gg xs (d.kids.getD k zD) ∧ cntD gg xs (d.kids.getD k zD) ≤ dsz (d.kids.getD k zD))) := by
 refine ⟨szL_split _ _ h, dsz_pos _, msz_getD _ _ _ h, ?_⟩
 cases hk : okD gg xs (d.kids.getD k zD)
 ·right
  have hb := all_bad (okD gg xs) zD d.kids k h hk
  refine ⟨rfl, by rw [okD_eq, hb]; rfl, ?_, cntD_le gg xs _⟩
  rw [cntD_eq gg xs d, hb, cond_false]
  exact cntDs_at gg xs zD d.kids k h ha hk
 ·left
  have hc := cntD_ok gg xs _ hk
  refine ⟨rfl, by rw [all_take (okD gg xs) zD d.kids k h, ha, hk]; rfl, ?_, hc⟩
  rw [szL_take dsz zD d.kids k h, hc]
theorem ddone (gg : GSig) (xs : List GPremise) (d : GDerivation) (k : Nat) (h : d.kids.length ≤ k) (ha : allL (okD gg xs) (d.kids.take k) = true) :
  allL gdK d.kids = true ∧ szL dsz (d.kids.take k) + 1 = dsz d ∧ ((rightB gg xs d = true ∧ okD gg xs d = true ∧ cntD gg xs d = szL dsz (d.kids.take k) + 1) ∨ (rightB gg xs d = false ∧ okD gg xs d = false ∧ cntD gg xs d = szL dsz (d.kids.take k))) := by
 rw [all_done (okD gg xs) d.kids k h] at ha
 rw [szL_all dsz d.kids k h, dsz_eq d, okD_eq, cntD_eq, ha]
 refine ⟨okDs_gd gg xs _ ha, by omega, ?_⟩
 cases rightB gg xs d <;> simp
def kn_impl_firstWrong (n : Nat) : Ctr := ⟨n_impl_firstWrong, [.v (.st .sig), .v (.slice (.st .premise)), .v (.st .derivation), .v (.int .i64)], fun (gg : GSig) (xs : List GPremise) (d : GDerivation) (n0 : Int) => ⟨(some (msz d < n ∧ 0 ≤ n0 ∧ n0 + (dsz d : Int) ≤ 4611686018427387904), [⟨(.int .i64), n0 + (cntD gg xs d : Int)⟩, ⟨.bool, !okD gg xs d⟩])⟩⟩
def k_impl_firstWrong : Ctr := ⟨n_impl_firstWrong, [.v (.st .sig), .v (.slice (.st .premise)), .v (.st .derivation), .v (.int .i64)], fun (gg : GSig) (xs : List GPremise) (d : GDerivation) (n0 : Int) => ⟨(some (0 ≤ n0 ∧ n0 + (dsz d : Int) ≤ 4611686018427387904), [⟨(.int .i64), n0 + (cntD gg xs d : Int)⟩, ⟨.bool, !okD gg xs d⟩])⟩⟩
def l_impl_firstWrong (gg : GSig) (xs : List GPremise) (d : GDerivation) (n0 : Int) : Nat → LoopInv := (fun zb => if Nat.beq zb 0 then .mk (Nat) (fun k => k ≤ d.kids.length ∧ allL (okD gg xs) (d.kids.take k) = true) (fun k => d.kids.length - k) [] [0, 2, 5, 7, 10, 14] (fun k => [(17, .imm ⟨(.int .i64), ((k : Int) : Int)⟩), (3, .imm ⟨(.int .i64), (n0 + (szL dsz (d.kids.take k) : Int) : Int)⟩)]) [1, 3, 4, 6, 8, 9, 11, 12, 13, 15, 16, 17, 18, 19, 20, 21, 22, 23, 24, 25, 26, 27, 28, 29, 30, 31, 32, 33, 34, 35, 36, 37, 38, 39, 40] (fun k => []) [] [] (fun k => fun _ => .none) else .none)
theorem vc_impl_firstWrong (n : Nat) (gg : GSig) (xs : List GPremise) (d : GDerivation) (n0 : Int) : awp (envOf [kn_impl_firstWrong n, k_impl_isRight] [] [] [4, 6]) (bodyOf f_impl_firstWrong) (l_impl_firstWrong gg xs d n0) 0 (funPost (envOf [kn_impl_firstWrong n, k_impl_isRight] [] [] [4, 6]) f_impl_firstWrong fun r => areEq r [⟨(.int .i64), n0 + (cntD gg xs d : Int)⟩, ⟨.bool, !okD gg xs d⟩]) (startState f_impl_firstWrong [.val ⟨(.st .sig), gg⟩, .val ⟨(.slice (.st .premise)), xs⟩, .val ⟨(.st .derivation), d⟩, .val ⟨(.int .i64), n0⟩]) =
 ((d.kids.length ≤ 140737488355328 →
 (inI64 ((d.kids.length : Int)) →
 ((∃ k1 : Nat, ((k1 ≤ d.kids.length ∧ allL (okD gg xs) (d.kids.take k1) = true) ∧ ((xs = xs ∧ (n0 = (n0 + (szL dsz (d.kids.take k1) : Int)) ∧ (gg = gg ∧ (d = d ∧ (d.kids = d.kids ∧ (((d.kids.length : Int)) = ((d.kids.length : Int)) ∧ ((0 : Int) = (k1 : Int) ∧ True))))))) ∧ True))) ∧ (∀ k1 : Nat, ((k1 ≤ d.kids.length ∧ allL (okD gg xs) (d.kids.take k1) = true) →
 (((decide ((k1 : Int) < ((d.kids.length : Int)))) = true →
 (idxOk (k1 : Int) d.kids.length ∧ ((msz (e_derivation (d.kids.getD k1 zD)) < n ∧ 0 ≤ (n0 + (szL dsz (d.kids.take k1) : Int)) ∧ (n0 + (szL dsz (d.kids.take k1) : Int)) + (dsz (e_derivation (d.kids.getD k1 zD)) : Int) ≤ 4611686018427387904) ∧ (inI64 ((n0 + (szL dsz (d.kids.take k1) : Int)) + (cntD gg xs (e_derivation (d.kids.getD k1 zD)) : Int)) →
 (((!okD gg xs (e_derivation (d.kids.getD k1 zD))) = true →
 (((n0 + (szL dsz (d.kids.take k1) : Int)) + (cntD gg xs (e_derivation (d.kids.getD k1 zD)) : Int)) = (n0 + (cntD gg xs d : Int)) ∧ true = (!okD gg xs d))) ∧ ((!okD gg xs (e_derivation (d.kids.getD k1 zD))) = false →
 (inI64 ((k1 : Int) + (1 : Int)) ∧ (∃ k2 : Nat, ((k2 ≤ d.kids.length ∧ allL (okD gg xs) (d.kids.take k2) = true) ∧ (d.kids.length - k2 < d.kids.length - k1 ∧ ((xs = xs ∧ (((n0 + (szL dsz (d.kids.take k1) : Int)) + (cntD gg xs (e_derivation (d.kids.getD k1 zD)) : Int)) = (n0 + (szL dsz (d.kids.take k2) : Int)) ∧ (gg = gg ∧ (d = d ∧ (d.kids = d.kids ∧ (((d.kids.length : Int)) = ((d.kids.length : Int)) ∧ (((k1 : Int) + (1 : Int)) = (k2 : Int) ∧ True))))))) ∧ True))))))))))) ∧ ((decide ((k1 : Int) < ((d.kids.length : Int)))) = false →
 (allL gdK d.kids = true ∧ (((!(rightB gg xs d)) = true →
 ((n0 + (szL dsz (d.kids.take k1) : Int)) = (n0 + (cntD gg xs d : Int)) ∧ true = (!okD gg xs d))) ∧ ((!(rightB gg xs d)) = false →
 (inI64 ((n0 + (szL dsz (d.kids.take k1) : Int)) + (1 : Int)) ∧ (((n0 + (szL dsz (d.kids.take k1) : Int)) + (1 : Int)) = (n0 + (cntD gg xs d : Int)) ∧ false = (!okD gg xs d)))))))))))))) := by kernel_rfl
theorem ok_impl_firstWrong (n : Nat) (hE : AllGood [kn_impl_firstWrong n, k_impl_isRight]) : Ctr.Good (kn_impl_firstWrong (n + 1)) := by
 refine ⟨fnOk_of at_impl_firstWrong rfl (by decide), ?_⟩
 show ∀ (gg : GSig) (xs : List GPremise) (d : GDerivation) (n0 : Int), (msz d < n + 1 ∧ 0 ≤ n0 ∧ n0 + (dsz d : Int) ≤ 4611686018427387904) → OkCall prog n_impl_firstWrong [.val ⟨(.st .sig), gg⟩, .val ⟨(.slice (.st .premise)), xs⟩, .val ⟨(.st .derivation), d⟩, .val ⟨(.int .i64), n0⟩] (· = [⟨(.int .i64), n0 + (cntD gg xs d : Int)⟩, ⟨.bool, !okD gg xs d⟩])
 intro gg xs d n0 hp
 refine ok_of_awp (wr := []) (cl := []) (ro := [4, 6]) hE at_impl_firstWrong body_impl_firstWrong (l_impl_firstWrong gg xs d n0) ?_
 rewrite [vc_impl_firstWrong n gg xs d n0]
 have fd := dsz_eq d
 have f0 := msz_kidsD d
 have f1 := szL_zero dsz d.kids
 have f2 := all_zero (okD gg xs) d.kids
 refine fun a0 => fun a1 => ⟨⟨0, ⟨?_, ⟨⟨rfl, ⟨?_, ⟨rfl, ⟨rfl, ⟨rfl, ⟨rfl, ⟨?_, trivial⟩⟩⟩⟩⟩⟩⟩, trivial⟩⟩⟩, fun k1 a2 => have b2x0 := dstep gg xs d k1; have b2x1 := ddone gg xs d k1; ⟨fun a3 => ⟨?_, ⟨?_, fun a4 => ⟨fun a5 => ⟨?_, ?_⟩, fun a5 => ⟨?_, ⟨k1 + 1, ⟨?_, ⟨?_, ⟨⟨rfl, ⟨?_, ⟨rfl, ⟨rfl, ⟨rfl, ⟨rfl, ⟨?_, trivial⟩⟩⟩⟩⟩⟩⟩, trivial⟩⟩⟩⟩⟩⟩⟩⟩, fun a3 => ⟨?_, ⟨fun a4 => ⟨?_, ?_⟩, fun a4 => ⟨?_, ⟨?_, ?_⟩⟩⟩⟩⟩⟩
 all_goals try and_intros
 all_goals try simp only [GExpr.eta, GProg.eta, GDerivation.eta, GTriple.eta, GPremise.eta, GClaim.eta, GEquation.eta, GPair.eta, GSpot.eta, e_expr_eq, e_pair_eq, e_equation_eq, e_claim_eq, e_prog_eq, e_spot_eq, e_triple_eq, e_premise_eq, e_derivation_eq] at *
 all_goals first | rfl | trivial | omega | (simp only [decide_eq_true_eq, decide_eq_false_iff_not, Bool.not_eq_true', Bool.not_eq_false', idxOk, inI64] at *; first | omega | (have g1 := b2x0 (by omega) a2.2; clear b2x0 b2x1; rcases g1 with ⟨g1, g2, g3, ⟨g4, g5, g6, g7⟩ | ⟨g4, g5, g6, g7⟩⟩ <;> simp only [g4, cond_true, cond_false] at * <;> first | omega | (simp only [g5, cond_true, cond_false] at *; first | omega | (simp; done) | (simp; omega)) | (simp_all; done) | (simp_all; omega) | grind) | (have g1 := b2x1 (by omega) a2.2; clear b2x0 b2x1; rcases g1 with ⟨g1, g2, ⟨g4, g5, g6⟩ | ⟨g4, g5, g6⟩⟩ <;> (try simp only [g4, g5, cond_true, cond_false] at *) <;> first | omega | (simp; done) | (simp; omega) | (simp_all; done) | (simp_all; omega) | grind) | grind)
theorem all_fw_i  : ∀ n, AllGood [kn_impl_firstWrong n]
 | 0 => ⟨⟨fnOk_of at_impl_firstWrong rfl (by decide), fun _ _ _ _ h => absurd h.1 (Nat.not_lt_zero _)⟩, trivial⟩
 | n + 1 => by
  have ih := all_fw_i  n
  exact ⟨ok_impl_firstWrong n ⟨ih.1, good_impl_isRight, trivial⟩, trivial⟩
theorem good_impl_firstWrong  : Ctr.Good k_impl_firstWrong :=
 ⟨fnOk_of at_impl_firstWrong rfl (by decide), fun gg xs d n0 hp => (all_fw_i  (msz d + 1)).1.2 gg xs d n0 (⟨Nat.lt_succ_self _, hp⟩)⟩
def ksn_spec_l07Check (n : Nat) : SCt := ⟨n_spec_l07Check, [[.d (.int .i64)]], [.v (.st .sig), .v (.slice (.st .premise)), .r (.st .derivation), .b 0], [[(.int .i64)]], fun (gg : GSig) (xs : List GPremise) (d : GDerivation) (c0 : Int) => ⟨(some (msz d < n ∧ 0 ≤ c0 ∧ c0 + (dsz d : Int) ≤ 4611686018427387904), [⟨(.int .i64), (bif okD gg xs d then -1 else c0 + (cntD gg xs d : Int))⟩], [[⟨(.int .i64), c0 + (cntD gg xs d : Int) + (bif okD gg xs d then 0 else 1)⟩]])⟩⟩
def ks_spec_l07Check : SCt := ⟨n_spec_l07Check, [[.d (.int .i64)]], [.v (.st .sig), .v (.slice (.st .premise)), .r (.st .derivation), .b 0], [[(.int .i64)]], fun (gg : GSig) (xs : List GPremise) (d : GDerivation) (c0 : Int) => ⟨(some (0 ≤ c0 ∧ c0 + (dsz d : Int) ≤ 4611686018427387904), [⟨(.int .i64), (bif okD gg xs d then -1 else c0 + (cntD gg xs d : Int))⟩], [[⟨(.int .i64), c0 + (cntD gg xs d : Int) + (bif okD gg xs d then 0 else 1)⟩]])⟩⟩
def ls_spec_l07Check (gg : GSig) (xs : List GPremise) (d : GDerivation) (c0 : Int) : Nat → LoopInv := (fun zb => if Nat.beq zb 0 then .mk (Nat) (fun k => k ≤ d.kids.length ∧ allL (okD gg xs) (d.kids.take k) = true) (fun k => d.kids.length - k) [] [0, 5, 6, 7] (fun k => [(9, .imm ⟨(.int .i64), ((k : Int) : Int)⟩)]) [1, 2, 3, 4, 8, 9, 10, 11, 12, 13, 14, 15, 16, 17, 18, 19, 20, 21, 22, 23, 24, 25, 26, 27, 28, 29, 30, 31, 32, 33, 34, 35, 36, 37, 38, 39, 40, 41, 42, 43, 44, 45, 46, 47] (fun k => [(400000, .box [.imm ⟨(.int .i64), (c0 + (szL dsz (d.kids.take k) : Int) : Int)⟩])]) [] [] (fun k => fun _ => .none) else .none)
theorem vcs_spec_l07Check (n : Nat) (gg : GSig) (xs : List GPremise) (d : GDerivation) (c0 : Int) : awp (envO [k_spec_l07Right] [] [] [30] [] [] [4] [ksn_spec_l07Check n]) (bodyOf f_spec_l07Check) (ls_spec_l07Check gg xs d c0) 0 (stPost (envO [k_spec_l07Right] [] [] [30] [] [] [4] [ksn_spec_l07Check n]) f_spec_l07Check [[.d (.int .i64)]] fun r ds => areEq r [⟨(.int .i64), (bif okD gg xs d then -1 else c0 + (cntD gg xs d : Int))⟩] ∧ areEqs ds [[⟨(.int .i64), c0 + (cntD gg xs d : Int) + (bif okD gg xs d then 0 else 1)⟩]]) (startSt f_spec_l07Check [.val ⟨(.st .sig), gg⟩, .val ⟨(.slice (.st .premise)), xs⟩, .ref ⟨(.st .derivation), d⟩, .box 0] [[.d (.int .i64)]] [[⟨(.int .i64), c0⟩]]) =
 (((∃ k1 : Nat, ((k1 ≤ d.kids.length ∧ allL (okD gg xs) (d.kids.take k1) = true) ∧ ((xs = xs ∧ (d = d ∧ (True ∧ (gg = gg ∧ ((0 : Int) = (k1 : Int) ∧ True))))) ∧ ((c0 = (c0 + (szL dsz (d.kids.take k1) : Int)) ∧ True) ∧ True)))) ∧ (∀ k1 : Nat, ((k1 ≤ d.kids.length ∧ allL (okD gg xs) (d.kids.take k1) = true) →
 (d.kids.length ≤ 140737488355328 →
 (inI64 ((d.kids.length : Int)) →
 (((decide ((k1 : Int) < ((d.kids.length : Int)))) = true →
 (idxOk (k1 : Int) d.kids.length ∧ (d.kids.length ≤ 140737488355328 →
 ((msz (d.kids.getD k1 zD) < n ∧ 0 ≤ (c0 + (szL dsz (d.kids.take k1) : Int)) ∧ (c0 + (szL dsz (d.kids.take k1) : Int)) + (dsz (d.kids.getD k1 zD) : Int) ≤ 4611686018427387904) ∧ (((decide ((0 : Int) ≤ ((bif okD gg xs (d.kids.getD k1 zD) then -1 else (c0 + (szL dsz (d.kids.take k1) : Int)) + (cntD gg xs (d.kids.getD k1 zD) : Int))))) = true →
 (((bif okD gg xs (d.kids.getD k1 zD) then -1 else (c0 + (szL dsz (d.kids.take k1) : Int)) + (cntD gg xs (d.kids.getD k1 zD) : Int))) = (bif okD gg xs d then -1 else c0 + (cntD gg xs d : Int)) ∧ (((c0 + (szL dsz (d.kids.take k1) : Int)) + (cntD gg xs (d.kids.getD k1 zD) : Int) + (bif okD gg xs (d.kids.getD k1 zD) then 0 else 1)) = (c0 + (cntD gg xs d : Int) + (bif okD gg xs d then 0 else 1)) ∧ True))) ∧ ((decide ((0 : Int) ≤ ((bif okD gg xs (d.kids.getD k1 zD) then -1 else (c0 + (szL dsz (d.kids.take k1) : Int)) + (cntD gg xs (d.kids.getD k1 zD) : Int))))) = false →
 (inI64 ((k1 : Int) + (1 : Int)) ∧ (∃ k2 : Nat, ((k2 ≤ d.kids.length ∧ allL (okD gg xs) (d.kids.take k2) = true) ∧ (d.kids.length - k2 < d.kids.length - k1 ∧ ((xs = xs ∧ (d = d ∧ (True ∧ (gg = gg ∧ (((k1 : Int) + (1 : Int)) = (k2 : Int) ∧ True))))) ∧ ((((c0 + (szL dsz (d.kids.take k1) : Int)) + (cntD gg xs (d.kids.getD k1 zD) : Int) + (bif okD gg xs (d.kids.getD k1 zD) then 0 else 1)) = (c0 + (szL dsz (d.kids.take k2) : Int)) ∧ True) ∧ True)))))))))))) ∧ ((decide ((k1 : Int) < ((d.kids.length : Int)))) = false →
 (inI64 (c0 + (szL dsz (d.kids.take k1) : Int)) →
 (inI64 (c0 + (szL dsz (d.kids.take k1) : Int)) →
 (inI64 ((c0 + (szL dsz (d.kids.take k1) : Int)) + (1 : Int)) ∧ (allL gdK d.kids = true ∧ (((!(rightB gg xs d)) = true →
 ((c0 + (szL dsz (d.kids.take k1) : Int)) = (bif okD gg xs d then -1 else c0 + (cntD gg xs d : Int)) ∧ (((c0 + (szL dsz (d.kids.take k1) : Int)) + (1 : Int)) = (c0 + (cntD gg xs d : Int) + (bif okD gg xs d then 0 else 1)) ∧ True))) ∧ ((!(rightB gg xs d)) = false →
 ((-1 : Int) = (bif okD gg xs d then -1 else c0 + (cntD gg xs d : Int)) ∧ (((c0 + (szL dsz (d.kids.take k1) : Int)) + (1 : Int)) = (c0 + (cntD gg xs d : Int) + (bif okD gg xs d then 0 else 1)) ∧ True)))))))))))))))) := by kernel_rfl
theorem oks_spec_l07Check (n : Nat) (hE : AllGood [k_spec_l07Right]) (hO : AllO []) (hM : AllM []) (hS : AllS [ksn_spec_l07Check n]) : SCt.Good (ksn_spec_l07Check (n + 1)) := by
 refine ⟨fnOk_of at_spec_l07Check rfl (by decide), ?_⟩
 show ∀ (gg : GSig) (xs : List GPremise) (d : GDerivation) (c0 : Int), (msz d < n + 1 ∧ 0 ≤ c0 ∧ c0 + (dsz d : Int) ≤ 4611686018427387904) → OkSt prog n_spec_l07Check [[.d (.int .i64)]] [.val ⟨(.st .sig), gg⟩, .val ⟨(.slice (.st .premise)), xs⟩, .ref ⟨(.st .derivation), d⟩, .box 0] [[⟨(.int .i64), c0⟩]] [⟨(.int .i64), (bif okD gg xs d then -1 else c0 + (cntD gg xs d : Int))⟩] [[⟨(.int .i64), c0 + (cntD gg xs d : Int) + (bif okD gg xs d then 0 else 1)⟩]]
 intro gg xs d c0 hp
 refine st_of_awp (own := [30]) (wr := []) (cl := []) (ro := [4]) hE hO hM hS at_spec_l07Check body_spec_l07Check (ls_spec_l07Check gg xs d c0) rfl rfl ?_
 rewrite [vcs_spec_l07Check n gg xs d c0]
 have fd := dsz_eq d
 have f0 := msz_kidsD d
 have f1 := szL_zero dsz d.kids
 have f2 := all_zero (okD gg xs) d.kids
 refine ⟨⟨0, ⟨?_, ⟨⟨rfl, ⟨rfl, ⟨trivial, ⟨rfl, ⟨?_, trivial⟩⟩⟩⟩⟩, ⟨⟨?_, trivial⟩, trivial⟩⟩⟩⟩, fun k1 a0 => have b0x0 := dstep gg xs d k1; have b0x1 := ddone gg xs d k1; fun a1 => fun a2 => ⟨fun a3 => ⟨?_, fun a4 => ⟨?_, ⟨fun a5 => ⟨?_, ⟨?_, trivial⟩⟩, fun a5 => ⟨?_, ⟨k1 + 1, ⟨?_, ⟨?_, ⟨⟨rfl, ⟨rfl, ⟨trivial, ⟨rfl, ⟨?_, trivial⟩⟩⟩⟩⟩, ⟨⟨?_, trivial⟩, trivial⟩⟩⟩⟩⟩⟩⟩⟩⟩, fun a3 => fun a4 => fun a5 => ⟨?_, ⟨?_, ⟨fun a6 => ⟨?_, ⟨?_, trivial⟩⟩, fun a6 => ⟨?_, ⟨?_, trivial⟩⟩⟩⟩⟩⟩⟩
 all_goals try and_intros
 all_goals first | rfl | trivial | omega | (simp only [decide_eq_true_eq, decide_eq_false_iff_not, Bool.not_eq_true', Bool.not_eq_false', idxOk, inI64] at *; first | omega | (have g1 := b2x0 (by omega) a2.2; clear b2x0 b2x1; rcases g1 with ⟨g1, g2, g3, ⟨g4, g5, g6, g7⟩ | ⟨g4, g5, g6, g7⟩⟩ <;> simp only [g4, cond_true, cond_false] at * <;> first | omega | (simp only [g5, cond_true, cond_false] at *; first | omega | (simp; done) | (simp; omega)) | (simp_all; done) | (simp_all; omega) | grind) | (have g1 := b2x1 (by omega) a2.2; clear b2x0 b2x1; rcases g1 with ⟨g1, g2, ⟨g4, g5, g6⟩ | ⟨g4, g5, g6⟩⟩ <;> (try simp only [g4, g5, cond_true, cond_false] at *) <;> first | omega | (simp; done) | (simp; omega) | (simp_all; done) | (simp_all; omega) | grind) | grind)
theorem alls_ck_s : ∀ n, AllS [ksn_spec_l07Check n]
 | 0 => ⟨⟨fnOk_of at_spec_l07Check rfl (by decide), fun _ _ _ _ h => absurd h.1 (Nat.not_lt_zero _)⟩, trivial⟩
 | n + 1 => by
  have ih := alls_ck_s n
  exact ⟨oks_spec_l07Check n ⟨good_spec_l07Right, trivial⟩ trivial trivial ⟨ih.1, trivial⟩, trivial⟩
theorem sgood_spec_l07Check : SCt.Good ks_spec_l07Check :=
 ⟨fnOk_of at_spec_l07Check rfl (by decide), fun gg xs d c0 hp => (alls_ck_s (msz d + 1)).1.2 gg xs d c0 (⟨Nat.lt_succ_self _, hp⟩)⟩
def kn_spec_l07Left (n : Nat) : Ctr := ⟨n_spec_l07Left, [.r (.st .derivation), .v (.int .i64)], fun (x : GDerivation) (left : Int) => ⟨(some (msz x < n ∧ 0 ≤ left ∧ left ≤ 1048576), [⟨(.int .i64), szR (dsz x) left⟩])⟩⟩
def k_spec_l07Left : Ctr := ⟨n_spec_l07Left, [.r (.st .derivation), .v (.int .i64)], fun (x : GDerivation) (left : Int) => ⟨(some (0 ≤ left ∧ left ≤ 1048576), [⟨(.int .i64), szR (dsz x) left⟩])⟩⟩
def l_spec_l07Left (x : GDerivation) (left : Int) : Nat → LoopInv := (fun zb => if Nat.beq zb 0 then .mk (Nat) (fun k => k ≤ x.kids.length) (fun k => x.kids.length - k) [] [2, 3, 6, 7] (fun k => [(5, .imm ⟨(.int .i64), ((k : Int) : Int)⟩), (1, .imm ⟨(.int .i64), (szR (1 + szL dsz (x.kids.take k)) left : Int)⟩)]) [0, 1, 4, 5, 8, 9, 10, 11, 12, 13, 14, 15, 16, 17, 18, 19, 20, 21, 22, 23, 24, 25, 26, 27, 28, 29] (fun k => []) [] [] (fun k => fun _ => .none) else .none)
abbrev j_spec_l07Left_0 (n : Nat) (x : GDerivation) (left : Int) (k1 : Nat) : Prop := (x.kids.length ≤ 140737488355328 →
 (idxOk (k1 : Int) x.kids.length ∧ ((msz (x.kids.getD k1 zD) < n ∧ 0 ≤ (szR (1 + szL dsz (x.kids.take k1)) left) ∧ (szR (1 + szL dsz (x.kids.take k1)) left) ≤ 1048576) ∧ (inI64 (szR (dsz (x.kids.getD k1 zD)) (szR (1 + szL dsz (x.kids.take k1)) left)) →
 (inI64 ((k1 : Int) + (1 : Int)) ∧ (∃ k2 : Nat, (k2 ≤ x.kids.length ∧ (x.kids.length - k2 < x.kids.length - k1 ∧ ((x = x ∧ ((szR (dsz (x.kids.getD k1 zD)) (szR (1 + szL dsz (x.kids.take k1)) left)) = (szR (1 + szL dsz (x.kids.take k2)) left) ∧ ((0 : Int) = (0 : Int) ∧ (((k1 : Int) + (1 : Int)) = (k2 : Int) ∧ True)))) ∧ True)))))))))
theorem vc_spec_l07Left (n : Nat) (x : GDerivation) (left : Int) : awp (envOf [kn_spec_l07Left n]) (bodyOf f_spec_l07Left) (l_spec_l07Left x left) 0 (funPost (envOf [kn_spec_l07Left n]) f_spec_l07Left fun r => areEq r [⟨(.int .i64), szR (dsz x) left⟩]) (startState f_spec_l07Left [.ref ⟨(.st .derivation), x⟩, .val ⟨(.int .i64), left⟩]) =
 ((inI64 (left - (1 : Int)) ∧ ((∃ k1 : Nat, (k1 ≤ x.kids.length ∧ ((x = x ∧ ((left - (1 : Int)) = (szR (1 + szL dsz (x.kids.take k1)) left) ∧ ((0 : Int) = (0 : Int) ∧ ((0 : Int) = (k1 : Int) ∧ True)))) ∧ True))) ∧ (∀ k1 : Nat, (k1 ≤ x.kids.length →
 (x.kids.length ≤ 140737488355328 →
 (inI64 ((x.kids.length : Int)) →
 (((decide ((k1 : Int) < ((x.kids.length : Int)))) = true →
 (((decide ((0 : Int) ≤ (szR (1 + szL dsz (x.kids.take k1)) left))) = true →
 (j_spec_l07Left_0 n x left k1)) ∧ ((decide ((0 : Int) ≤ (szR (1 + szL dsz (x.kids.take k1)) left))) = false →
 (szR (1 + szL dsz (x.kids.take k1)) left) = (szR (dsz x) left)))) ∧ ((decide ((k1 : Int) < ((x.kids.length : Int)))) = (!true) →
 ((false = true →
 (j_spec_l07Left_0 n x left k1)) ∧ (false = false →
 (szR (1 + szL dsz (x.kids.take k1)) left) = (szR (dsz x) left)))))))))))) := by kernel_rfl
theorem ok_spec_l07Left (n : Nat) (hE : AllGood [kn_spec_l07Left n]) : Ctr.Good (kn_spec_l07Left (n + 1)) := by
 refine ⟨fnOk_of at_spec_l07Left rfl (by decide), ?_⟩
 show ∀ (x : GDerivation) (left : Int), (msz x < n + 1 ∧ 0 ≤ left ∧ left ≤ 1048576) → OkCall prog n_spec_l07Left [.ref ⟨(.st .derivation), x⟩, .val ⟨(.int .i64), left⟩] (· = [⟨(.int .i64), szR (dsz x) left⟩])
 intro x left hp
 refine ok_of_awp (wr := []) (cl := []) (ro := []) hE at_spec_l07Left body_spec_l07Left (l_spec_l07Left x left) ?_
 rewrite [vc_spec_l07Left n x left]
 have f0 := msz_kidsD x
 have f1 := szL_zero dsz x.kids
 have f2 := szR_or (1 + szL dsz (x.kids.take 0)) left
 refine ⟨?_, ⟨⟨0, ⟨?_, ⟨⟨rfl, ⟨?_, ⟨rfl, ⟨?_, trivial⟩⟩⟩⟩, trivial⟩⟩⟩, fun k1 a0 => have b0x0 := szL_take dsz zD x.kids k1; have b0x1 := szL_take_le dsz x.kids k1; have b0x2 := szL_take_le dsz x.kids (k1 + 1); have b0x3 := szL_all dsz x.kids k1; have b0x4 := msz_getD zD x.kids k1; have b0x5 := szR_or (1 + szL dsz (x.kids.take k1)) left; have b0x6 := szR_or (1 + szL dsz (x.kids.take (k1 + 1))) left; have b0x7 := szR_or (dsz (x.kids.getD k1 zD)) (szR (1 + szL dsz (x.kids.take k1)) left); have b0x8 := szR_or (1 + szL dsz x.kids) left; fun a1 => fun a2 => ⟨fun a3 => ⟨fun a4 => fun a5 => ⟨?_, ⟨?_, fun a6 => ⟨?_, ⟨k1 + 1, ⟨?_, ⟨?_, ⟨⟨rfl, ⟨?_, ⟨rfl, ⟨?_, trivial⟩⟩⟩⟩, trivial⟩⟩⟩⟩⟩⟩⟩, fun a4 => ?_⟩, fun a3 => ⟨fun a4 => fun a5 => ⟨?_, ⟨?_, fun a6 => ⟨?_, ⟨k1 + 1, ⟨?_, ⟨?_, ⟨⟨rfl, ⟨?_, ⟨rfl, ⟨?_, trivial⟩⟩⟩⟩, trivial⟩⟩⟩⟩⟩⟩⟩, fun a4 => ?_⟩⟩⟩⟩
 all_goals try and_intros
 all_goals try rw [dsz_eq x]
 all_goals first | rfl | trivial | omega | (simp only [decide_eq_true_eq, decide_eq_false_iff_not, idxOk, inI64, inKind, cutOk, makeOk, roomOk] at *; omega) | (simp [idxOk, inI64] at *; omega) | grind
theorem all_left_d  : ∀ n, AllGood [kn_spec_l07Left n]
 | 0 => ⟨⟨fnOk_of at_spec_l07Left rfl (by decide), fun _ _ h => absurd h.1 (Nat.not_lt_zero _)⟩, trivial⟩
 | n + 1 => by
  have ih := all_left_d  n
  exact ⟨ok_spec_l07Left n ⟨ih.1, trivial⟩, trivial⟩
theorem good_spec_l07Left  : Ctr.Good k_spec_l07Left :=
 ⟨fnOk_of at_spec_l07Left rfl (by decide), fun x left hp => (all_left_d  (msz x + 1)).1.2 x left (⟨Nat.lt_succ_self _, hp⟩)⟩
def k_impl_CheckDerivation : Ctr := ⟨n_impl_CheckDerivation, [.v (.st .sig), .v (.slice (.st .premise)), .v (.st .derivation)], fun (gg : GSig) (xs : List GPremise) (d : GDerivation) => ⟨(some (dsz d ≤ 4194304), [⟨(.int .i64), cdN gg xs d⟩, ⟨(.int .i64), cdC gg xs d⟩])⟩⟩
def l_impl_CheckDerivation (gg : GSig) (xs : List GPremise) (d : GDerivation) : Nat → LoopInv := fun _ => .none
theorem vc_impl_CheckDerivation (gg : GSig) (xs : List GPremise) (d : GDerivation) : awp (envOf [k_impl_ValidPremises, k_impl_DerivationSize, k_impl_firstWrong] [] [] [3, 5]) (bodyOf f_impl_CheckDerivation) (l_impl_CheckDerivation gg xs d) 0 (funPost (envOf [k_impl_ValidPremises, k_impl_DerivationSize, k_impl_firstWrong] [] [] [3, 5]) f_impl_CheckDerivation fun r => areEq r [⟨(.int .i64), cdN gg xs d⟩, ⟨(.int .i64), cdC gg xs d⟩]) (startState f_impl_CheckDerivation [.val ⟨(.st .sig), gg⟩, .val ⟨(.slice (.st .premise)), xs⟩, .val ⟨(.st .derivation), d⟩]) =
 ((((!(premsOk gg xs)) = true →
 ((0 : Int) = (cdN gg xs d) ∧ (1 : Int) = (cdC gg xs d))) ∧ ((!(premsOk gg xs)) = false →
 (dsz d ≤ 4611686018427387904 ∧ (inI64 ((dsz d : Int)) →
 (((decide ((400 : Int) < ((dsz d : Int)))) = true →
 ((0 : Int) = (cdN gg xs d) ∧ (2 : Int) = (cdC gg xs d))) ∧ ((decide ((400 : Int) < ((dsz d : Int)))) = false →
 ((0 ≤ (0 : Int) ∧ (0 : Int) + (dsz d : Int) ≤ 4611686018427387904) ∧ (inI64 ((0 : Int) + (cntD gg xs d : Int)) →
 (((!okD gg xs d) = true →
 (((0 : Int) + (cntD gg xs d : Int)) = (cdN gg xs d) ∧ (8 : Int) = (cdC gg xs d))) ∧ ((!okD gg xs d) = false →
 (((0 : Int) + (cntD gg xs d : Int)) = (cdN gg xs d) ∧ (0 : Int) = (cdC gg xs d))))))))))))) := by kernel_rfl
theorem ok_impl_CheckDerivation (hE : AllGood [k_impl_ValidPremises, k_impl_DerivationSize, k_impl_firstWrong]) : Ctr.Good k_impl_CheckDerivation := by
 refine ⟨fnOk_of at_impl_CheckDerivation rfl (by decide), ?_⟩
 show ∀ (gg : GSig) (xs : List GPremise) (d : GDerivation), (dsz d ≤ 4194304) → OkCall prog n_impl_CheckDerivation [.val ⟨(.st .sig), gg⟩, .val ⟨(.slice (.st .premise)), xs⟩, .val ⟨(.st .derivation), d⟩] (· = [⟨(.int .i64), cdN gg xs d⟩, ⟨(.int .i64), cdC gg xs d⟩])
 intro gg xs d hp
 refine ok_of_awp (wr := []) (cl := []) (ro := [3, 5]) hE at_impl_CheckDerivation body_impl_CheckDerivation (l_impl_CheckDerivation gg xs d) ?_
 rewrite [vc_impl_CheckDerivation gg xs d]
 have f1 := szR_or (dsz d) 400
 have f2 := cntD_le gg xs d
 refine ⟨fun a0 => ⟨?_, ?_⟩, fun a0 => ⟨?_, fun a1 => ⟨fun a2 => ⟨?_, ?_⟩, fun a2 => ⟨?_, fun a3 => ⟨fun a4 => ⟨?_, ?_⟩, fun a4 => ⟨?_, ?_⟩⟩⟩⟩⟩⟩
 all_goals try and_intros
 all_goals first | rfl | trivial | omega | (simp only [decide_eq_true_eq, decide_eq_false_iff_not, Bool.not_eq_true', Bool.not_eq_false', inI64] at *; first | omega | grind [cdN, cdC]) | grind [cdN, cdC]
theorem good_impl_CheckDerivation : Ctr.Good k_impl_CheckDerivation := ok_impl_CheckDerivation ⟨good_impl_ValidPremises, good_impl_DerivationSize, good_impl_firstWrong, trivial⟩
def k_spec_CheckDerivation : Ctr := ⟨n_spec_CheckDerivation, [.v (.st .sig), .v (.slice (.st .premise)), .v (.st .derivation)], fun (gg : GSig) (xs : List GPremise) (d : GDerivation) => ⟨(some (dsz d ≤ 4194304), [⟨(.int .i64), cdN gg xs d⟩, ⟨(.int .i64), cdC gg xs d⟩])⟩⟩
def l_spec_CheckDerivation (gg : GSig) (xs : List GPremise) (d : GDerivation) : Nat → LoopInv := fun _ => .none
theorem vc_spec_CheckDerivation (gg : GSig) (xs : List GPremise) (d : GDerivation) : awp (envO [k_spec_l07Premises, k_spec_l07Left] [] [] [18] [] [] [3, 5] [ks_spec_l07Check]) (bodyOf f_spec_CheckDerivation) (l_spec_CheckDerivation gg xs d) 0 (funPost (envO [k_spec_l07Premises, k_spec_l07Left] [] [] [18] [] [] [3, 5] [ks_spec_l07Check]) f_spec_CheckDerivation fun r => areEq r [⟨(.int .i64), cdN gg xs d⟩, ⟨(.int .i64), cdC gg xs d⟩]) (startState f_spec_CheckDerivation [.val ⟨(.st .sig), gg⟩, .val ⟨(.slice (.st .premise)), xs⟩, .val ⟨(.st .derivation), d⟩]) =
 ((((!(premsOk gg xs)) = true →
 ((0 : Int) = (cdN gg xs d) ∧ (1 : Int) = (cdC gg xs d))) ∧ ((!(premsOk gg xs)) = false →
 ((0 ≤ (400 : Int) ∧ (400 : Int) ≤ 1048576) ∧ (inI64 (szR (dsz d) (400 : Int)) →
 (((decide ((szR (dsz d) (400 : Int)) < (0 : Int))) = true →
 ((0 : Int) = (cdN gg xs d) ∧ (2 : Int) = (cdC gg xs d))) ∧ ((decide ((szR (dsz d) (400 : Int)) < (0 : Int))) = false →
 ((0 ≤ (0 : Int) ∧ (0 : Int) + (dsz d : Int) ≤ 4611686018427387904) ∧ (((decide ((0 : Int) ≤ ((bif okD gg xs d then -1 else (0 : Int) + (cntD gg xs d : Int))))) = true →
 (((bif okD gg xs d then -1 else (0 : Int) + (cntD gg xs d : Int))) = (cdN gg xs d) ∧ (8 : Int) = (cdC gg xs d))) ∧ ((decide ((0 : Int) ≤ ((bif okD gg xs d then -1 else (0 : Int) + (cntD gg xs d : Int))))) = false →
 (inI64 ((0 : Int) + (cntD gg xs d : Int) + (bif okD gg xs d then 0 else 1)) →
 (((0 : Int) + (cntD gg xs d : Int) + (bif okD gg xs d then 0 else 1)) = (cdN gg xs d) ∧ (0 : Int) = (cdC gg xs d))))))))))))) := by kernel_rfl
theorem ok_spec_CheckDerivation (hE : AllGood [k_spec_l07Premises, k_spec_l07Left]) (hO : AllO []) (hM : AllM []) (hS : AllS [ks_spec_l07Check]) : Ctr.Good k_spec_CheckDerivation := by
 refine ⟨fnOk_of at_spec_CheckDerivation rfl (by decide), ?_⟩
 show ∀ (gg : GSig) (xs : List GPremise) (d : GDerivation), (dsz d ≤ 4194304) → OkCall prog n_spec_CheckDerivation [.val ⟨(.st .sig), gg⟩, .val ⟨(.slice (.st .premise)), xs⟩, .val ⟨(.st .derivation), d⟩] (· = [⟨(.int .i64), cdN gg xs d⟩, ⟨(.int .i64), cdC gg xs d⟩])
 intro gg xs d hp
 refine ok_of_awpO (own := [18]) (wr := []) (cl := []) (ro := [3, 5]) hE hO hM hS at_spec_CheckDerivation body_spec_CheckDerivation (l_spec_CheckDerivation gg xs d) ?_
 rewrite [vc_spec_CheckDerivation gg xs d]
 have f1 := szR_or (dsz d) 400
 have f2 := cntD_le gg xs d
 refine ⟨fun a0 => ⟨?_, ?_⟩, fun a0 => ⟨?_, fun a1 => ⟨fun a2 => ⟨?_, ?_⟩, fun a2 => ⟨?_, ⟨fun a3 => ⟨?_, ?_⟩, fun a3 => fun a4 => ⟨?_, ?_⟩⟩⟩⟩⟩⟩
 all_goals try and_intros
 all_goals first | rfl | trivial | omega | (simp only [decide_eq_true_eq, decide_eq_false_iff_not, Bool.not_eq_true', Bool.not_eq_false', inI64] at *; first | omega | grind [cdN, cdC]) | grind [cdN, cdC]
theorem good_spec_CheckDerivation : Ctr.Good k_spec_CheckDerivation := ok_spec_CheckDerivation ⟨good_spec_l07Premises, good_spec_l07Left, trivial⟩ trivial trivial ⟨sgood_spec_l07Check, trivial⟩
end
end Go.Proofs.YtkogipcdjalehaaGreat

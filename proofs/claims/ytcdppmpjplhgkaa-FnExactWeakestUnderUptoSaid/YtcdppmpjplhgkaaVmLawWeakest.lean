/- The law FnExactWeakestUnder. Printed by vmk.py. -/
import Derived.Test.YtcdppmpjplhgkaaVmUse
import Derived.Test.YtcdppmpjplhgkaaVmLib
import Derived.Test.YtcdppmpjplhgkaaVmSz
import Derived.Test.YtcdppmpjplhgkaaVmTo
import Derived.Test.YtcdppmpjplhgkaaVmEq
import Derived.Test.YtcdppmpjplhgkaaVmOwnFam
import Derived.Test.YtcdppmpjplhgkaaVmOwnFam2
import Derived.Test.YtcdppmpjplhgkaaVmOwnFam3
import Derived.Test.YtcdppmpjplhgkaaVmUnder
import Derived.Test.YtcdppmpjplhgkaaVmUnder2
set_option linter.unusedVariables false
set_option linter.unusedSimpArgs false
set_option linter.unusedSectionVars false
namespace Go.Proofs.Ytcdppmpjplhgkaa
noncomputable section

theorem heldI_mk (k : Int) (xs : List Int) : heldI k (mkInts k xs) = k + (xs.length : Int) := by
  simp [heldI, okInts_mk, mkInts_length]
mutual
theorem cntX_sz : ∀ x : GExpr, cntX x = 2 + 2 * sz_expr x
  | ⟨k, n, ks⟩ => by
    have := cntXs_sz ks
    simp only [cntX, sz_expr, this, szs_expr_eq]
theorem cntXs_sz : ∀ xs : List GExpr, cntXs xs = 2 * (xs.length + szL sz_expr xs)
  | [] => by simp [cntXs, szL]
  | x :: xs => by
    have h1 := cntX_sz x
    have h2 := cntXs_sz xs
    simp only [cntXs, szL, List.length_cons, h1, h2]; omega
end
theorem cnt_sz (x : GExpr) : szL cntX x.kids = 2 * sz_expr x := by
  have := cntXs_sz x.kids
  rw [cntXs_eq] at this
  rw [this, sz_expr_eq]
theorem cntP_sz : ∀ xs : List GPremise, szL cnt_premise xs ≤ 5 * (xs.length + szL sz_premise xs)
  | [] => by simp [szL]
  | x :: xs => by
    have h1 := cntP_sz xs
    have h2 := cnt_premise_eq x
    have h3 := sz_premise_eq x
    rw [cnt_sz, cnt_sz] at h2
    simp only [szL, List.length_cons]; omega
mutual
theorem cntG_sz : ∀ x : GProg, cnt_prog x ≤ 4 + 4 * sz_prog x
  | ⟨k, n, c, ks⟩ => by
    have h1 := cntGs_sz ks
    have h2 := cnt_sz c
    simp only [cnt_prog, sz_prog, cnt_progs_eq, szs_prog_eq, h2] at h1 ⊢
    omega
theorem cntGs_sz : ∀ xs : List GProg, cnt_progs xs ≤ 4 * (xs.length + szL sz_prog xs)
  | [] => by simp [cnt_progs, szL]
  | x :: xs => by
    have h1 := cntG_sz x
    have h2 := cntGs_sz xs
    simp only [cnt_progs, szL, List.length_cons]; omega
end
theorem cntK_sz (x : GProg) : szL cntX x.cond.kids + szL cnt_prog x.kids ≤ 4 * sz_prog x := by
  have h1 := cntGs_sz x.kids
  rw [cnt_progs_eq] at h1
  rw [cnt_sz, sz_prog_eq]
  omega

def k_laws_FnExactWeakestUnder : Ctr := ⟨n_laws_FnExactWeakestUnder, [.v (.st .sig), .v (.slice (.st .premise)), .v (.st .prog), .v (.st .expr)], fun (gg : GSig) (xs : List GPremise) (p : GProg) (c : GExpr) => ⟨(none, [⟨.bool, true⟩])⟩⟩
def l_laws_FnExactWeakestUnder (gg : GSig) (xs : List GPremise) (p : GProg) (c : GExpr) : Nat → LoopInv := fun _ => .none
abbrev q_laws_FnExactWeakestUnder_0 (gg : GSig) (xs : List GPremise) (p : GProg) (c : GExpr) : Prop := ((!(decide ((heldI (1 : Int) (mkInts (1 : Int) (wuV gg xs (e_prog p) (e_expr c)))) = ((1 : Int) + ((wuV gg xs (e_prog p) (e_expr c)).length : Int))))) = true →
 false = true)
abbrev q_laws_FnExactWeakestUnder_1 (gg : GSig) (xs : List GPremise) (p : GProg) (c : GExpr) : Prop := ((0 ≤ (1 : Int) ∧ (1 : Int) + ((mkInts (1 : Int) (wuV gg xs (e_prog p) (e_expr c))).length : Int) ≤ 4611686018427387904) ∧ (inI64 (heldI (1 : Int) (mkInts (1 : Int) (wuV gg xs (e_prog p) (e_expr c)))) →
 (((decide ((heldI (1 : Int) (mkInts (1 : Int) (wuV gg xs (e_prog p) (e_expr c)))) < (0 : Int))) = true →
 false = true) ∧ ((decide ((heldI (1 : Int) (mkInts (1 : Int) (wuV gg xs (e_prog p) (e_expr c)))) < (0 : Int))) = false →
 ((q_laws_FnExactWeakestUnder_0 gg xs p c) ∧ ((!(decide ((heldI (1 : Int) (mkInts (1 : Int) (wuV gg xs (e_prog p) (e_expr c)))) = ((1 : Int) + ((wuV gg xs (e_prog p) (e_expr c)).length : Int))))) = false →
 true = true))))))
abbrev q_laws_FnExactWeakestUnder_2 (gg : GSig) (xs : List GPremise) (p : GProg) (c : GExpr) : Prop := ((0 ≤ (1 : Int) ∧ (1 : Int) + ((wuV gg xs (e_prog p) (e_expr c)).length : Int) ≤ 4611686018427387904) ∧ ((0 ≤ (1 : Int) ∧ (1 : Int) + ((mkInts (1 : Int) (wuV gg xs (e_prog p) (e_expr c))).length : Int) ≤ 4611686018427387904) ∧ (inI64 (heldI (1 : Int) (mkInts (1 : Int) (wuV gg xs (e_prog p) (e_expr c)))) →
 (((decide ((heldI (1 : Int) (mkInts (1 : Int) (wuV gg xs (e_prog p) (e_expr c)))) < (0 : Int))) = true →
 false = true) ∧ ((decide ((heldI (1 : Int) (mkInts (1 : Int) (wuV gg xs (e_prog p) (e_expr c)))) < (0 : Int))) = false →
 ((q_laws_FnExactWeakestUnder_0 gg xs p c) ∧ ((!(decide ((heldI (1 : Int) (mkInts (1 : Int) (wuV gg xs (e_prog p) (e_expr c)))) = ((1 : Int) + ((wuV gg xs (e_prog p) (e_expr c)).length : Int))))) = false →
 (xs.length + szL sz_premise xs ≤ 1048576 ∧ (sz_prog p ≤ 1048576 ∧ (xs.length ≤ 140737488355328 →
 (sz_expr c ≤ 1048576 ∧ (inI64 (wuC gg xs p c) →
 (((!(eqB (wuV gg xs p c) (wuV gg xs p c))) = false →
 (((!(decide ((wuC gg xs p c) = (wuC gg xs p c)))) = true →
 false = true) ∧ ((!(decide ((wuC gg xs p c) = (wuC gg xs p c)))) = false →
 (q_laws_FnExactWeakestUnder_1 gg xs p c)))) ∧ ((!(eqB (wuV gg xs p c) (wuV gg xs p c))) = (!false) →
 ((true = true →
 false = true) ∧ (true = false →
 (q_laws_FnExactWeakestUnder_1 gg xs p c)))))))))))))))))
abbrev q_laws_FnExactWeakestUnder_3 (gg : GSig) (xs : List GPremise) (p : GProg) (c : GExpr) : Prop := (((!(decide ((wuC gg xs (e_prog p) (e_expr c)) = (wuC gg xs p c)))) = true →
 false = true) ∧ ((!(decide ((wuC gg xs (e_prog p) (e_expr c)) = (wuC gg xs p c)))) = false →
 (q_laws_FnExactWeakestUnder_2 gg xs p c)))
abbrev q_laws_FnExactWeakestUnder_4 (gg : GSig) (xs : List GPremise) (p : GProg) (c : GExpr) : Prop := (xs.length + szL sz_premise xs ≤ 1048576 ∧ (xs.length ≤ 140737488355328 →
 (((!(eqB xs xs)) = true →
 false = true) ∧ ((!(eqB xs xs)) = false →
 (sz_prog p ≤ 1048576 ∧ (((!(eqB (e_prog p) p)) = true →
 false = true) ∧ ((!(eqB (e_prog p) p)) = false →
 (sz_expr c ≤ 1048576 ∧ (((!(eqB (e_expr c) c)) = true →
 false = true) ∧ ((!(eqB (e_expr c) c)) = false →
 ((0 ≤ (1 : Int) ∧ (1 : Int) + (szL cnt_premise xs : Int) ≤ 4611686018427387904) ∧ ((0 ≤ ((1 : Int) + (szL cnt_premise xs : Int)) ∧ ((1 : Int) + (szL cnt_premise xs : Int)) + (szL cntX (e_prog p).cond.kids : Int) + (szL cnt_prog (e_prog p).kids : Int) ≤ 4611686018427387904) ∧ ((0 ≤ (((1 : Int) + (szL cnt_premise xs : Int)) + (szL cntX (e_prog p).cond.kids : Int) + (szL cnt_prog (e_prog p).kids : Int)) ∧ (((1 : Int) + (szL cnt_premise xs : Int)) + (szL cntX (e_prog p).cond.kids : Int) + (szL cnt_prog (e_prog p).kids : Int)) + (szL cntX (e_expr c).kids : Int) ≤ 4611686018427387904) ∧ (((decide (((((1 : Int) + (szL cnt_premise xs : Int)) + (szL cntX (e_prog p).cond.kids : Int) + (szL cnt_prog (e_prog p).kids : Int)) + (szL cntX (e_expr c).kids : Int)) < (0 : Int))) = false →
 (((!(eqB (wuV gg xs (e_prog p) (e_expr c)) (wuV gg xs p c))) = false →
 (q_laws_FnExactWeakestUnder_3 gg xs p c)) ∧ ((!(eqB (wuV gg xs (e_prog p) (e_expr c)) (wuV gg xs p c))) = (!false) →
 ((true = true →
 false = true) ∧ (true = false →
 (q_laws_FnExactWeakestUnder_2 gg xs p c)))))) ∧ ((decide (((((1 : Int) + (szL cnt_premise xs : Int)) + (szL cntX (e_prog p).cond.kids : Int) + (szL cnt_prog (e_prog p).kids : Int)) + (szL cntX (e_expr c).kids : Int)) < (0 : Int))) = (!false) →
 ((true = false →
 (q_laws_FnExactWeakestUnder_3 gg xs p c)) ∧ (true = (!false) →
 ((true = true →
 false = true) ∧ (true = false →
 (q_laws_FnExactWeakestUnder_2 gg xs p c))))))))))))))))))))
theorem vc_laws_FnExactWeakestUnder (gg : GSig) (xs : List GPremise) (p : GProg) (c : GExpr) : awp (envO [k_laws_szPremiseS, k_laws_szProg, k_laws_szExpr, k_laws_toPremiseS, k_laws_toProg, k_laws_toExpr, k_laws_toSig, k_spec_WeakestUnder, k_laws_eqInt64S, k_laws_eqPremiseS, k_laws_eqProg, k_laws_eqExpr, k_laws_heldInt64S] [ko_laws_toPremiseS, ko_laws_toProg, ko_laws_toExpr, ko_impl_WeakestUnder] [mk_laws_markPremiseS, mk_laws_markProg, mk_laws_markExpr, mk_laws_markInt64S] [50, 52, 54, 61, 90, 93, 96, 112, 130] [] [] [4, 6, 7]) (bodyOf f_laws_FnExactWeakestUnder) (l_laws_FnExactWeakestUnder gg xs p c) 0 (funPost (envO [k_laws_szPremiseS, k_laws_szProg, k_laws_szExpr, k_laws_toPremiseS, k_laws_toProg, k_laws_toExpr, k_laws_toSig, k_spec_WeakestUnder, k_laws_eqInt64S, k_laws_eqPremiseS, k_laws_eqProg, k_laws_eqExpr, k_laws_heldInt64S] [ko_laws_toPremiseS, ko_laws_toProg, ko_laws_toExpr, ko_impl_WeakestUnder] [mk_laws_markPremiseS, mk_laws_markProg, mk_laws_markExpr, mk_laws_markInt64S] [50, 52, 54, 61, 90, 93, 96, 112, 130] [] [] [4, 6, 7]) f_laws_FnExactWeakestUnder fun r => areEq r [⟨.bool, true⟩]) (startState f_laws_FnExactWeakestUnder [.val ⟨(.st .sig), gg⟩, .val ⟨(.slice (.st .premise)), xs⟩, .val ⟨(.st .prog), p⟩, .val ⟨(.st .expr), c⟩]) =
  (((0 ≤ (1048576 : Int) ∧ (1048576 : Int) ≤ 1048576) ∧ (inI64 (szR (xs.length + szL sz_premise xs) (1048576 : Int)) →
 (((decide ((szR (xs.length + szL sz_premise xs) (1048576 : Int)) < (0 : Int))) = true →
 true = true) ∧ ((decide ((szR (xs.length + szL sz_premise xs) (1048576 : Int)) < (0 : Int))) = false →
 ((0 ≤ (szR (xs.length + szL sz_premise xs) (1048576 : Int)) ∧ (szR (xs.length + szL sz_premise xs) (1048576 : Int)) ≤ 1048576) ∧ (inI64 (szR (sz_prog p) (szR (xs.length + szL sz_premise xs) (1048576 : Int))) →
 (((decide ((szR (sz_prog p) (szR (xs.length + szL sz_premise xs) (1048576 : Int))) < (0 : Int))) = true →
 true = true) ∧ ((decide ((szR (sz_prog p) (szR (xs.length + szL sz_premise xs) (1048576 : Int))) < (0 : Int))) = false →
 ((0 ≤ (szR (sz_prog p) (szR (xs.length + szL sz_premise xs) (1048576 : Int))) ∧ (szR (sz_prog p) (szR (xs.length + szL sz_premise xs) (1048576 : Int))) ≤ 1048576) ∧ (inI64 (szR (sz_expr c) (szR (sz_prog p) (szR (xs.length + szL sz_premise xs) (1048576 : Int)))) →
 (((decide ((szR (sz_expr c) (szR (sz_prog p) (szR (xs.length + szL sz_premise xs) (1048576 : Int)))) < (0 : Int))) = true →
 true = true) ∧ ((decide ((szR (sz_expr c) (szR (sz_prog p) (szR (xs.length + szL sz_premise xs) (1048576 : Int)))) < (0 : Int))) = false →
 (xs.length + szL sz_premise xs ≤ 1048576 ∧ (sz_prog p ≤ 1048576 ∧ (sz_expr c ≤ 1048576 ∧ (xs.length ≤ 140737488355328 →
 ((wuV gg xs p c).length ≤ 140737488355328 →
 (inI64 (wuC gg xs p c) →
 (xs.length + szL sz_premise xs ≤ 1048576 ∧ (sz_prog p ≤ 1048576 ∧ (sz_expr c ≤ 1048576 ∧ (inI64 (wuC gg xs (e_prog p) (e_expr c)) →
 (((!(eqB (wuV gg xs (e_prog p) (e_expr c)) (wuV gg xs p c))) = false →
 (((!(decide ((wuC gg xs (e_prog p) (e_expr c)) = (wuC gg xs p c)))) = true →
 false = true) ∧ ((!(decide ((wuC gg xs (e_prog p) (e_expr c)) = (wuC gg xs p c)))) = false →
 (q_laws_FnExactWeakestUnder_4 gg xs p c)))) ∧ ((!(eqB (wuV gg xs (e_prog p) (e_expr c)) (wuV gg xs p c))) = (!false) →
 ((true = true →
 false = true) ∧ (true = false →
 (q_laws_FnExactWeakestUnder_4 gg xs p c)))))))))))))))))))))))))))) := by kernel_rfl
set_option maxRecDepth 4000 in
set_option maxHeartbeats 1000000 in
theorem ok_laws_FnExactWeakestUnder (hE : AllGood [k_laws_szPremiseS, k_laws_szProg, k_laws_szExpr, k_laws_toPremiseS, k_laws_toProg, k_laws_toExpr, k_laws_toSig, k_spec_WeakestUnder, k_laws_eqInt64S, k_laws_eqPremiseS, k_laws_eqProg, k_laws_eqExpr, k_laws_heldInt64S]) (hO : AllO [ko_laws_toPremiseS, ko_laws_toProg, ko_laws_toExpr, ko_impl_WeakestUnder]) (hM : AllM [mk_laws_markPremiseS, mk_laws_markProg, mk_laws_markExpr, mk_laws_markInt64S]) : Ctr.Good k_laws_FnExactWeakestUnder := by
  refine ⟨fnOk_of at_laws_FnExactWeakestUnder rfl (by decide), ?_⟩
  show ∀ (gg : GSig) (xs : List GPremise) (p : GProg) (c : GExpr), True → OkCall prog n_laws_FnExactWeakestUnder [.val ⟨(.st .sig), gg⟩, .val ⟨(.slice (.st .premise)), xs⟩, .val ⟨(.st .prog), p⟩, .val ⟨(.st .expr), c⟩] (· = [⟨.bool, true⟩])
  intro gg xs p c _
  refine ok_of_awpO (own := [50, 52, 54, 61, 90, 93, 96, 112, 130]) (wr := []) (cl := []) (ro := [4, 6, 7]) hE hO hM at_laws_FnExactWeakestUnder body_laws_FnExactWeakestUnder (l_laws_FnExactWeakestUnder gg xs p c) ?_
  rewrite [vc_laws_FnExactWeakestUnder gg xs p c]
  have f0 := szR_or (xs.length + szL sz_premise xs) (1048576)
  have f1 := szR_or (sz_prog p) (szR (xs.length + szL sz_premise xs) (1048576))
  have f2 := szR_or (sz_expr c) (szR (sz_prog p) (szR (xs.length + szL sz_premise xs) (1048576)))

  have g1 := cntP_sz xs
  have g2 := cntK_sz p
  have g3 := cnt_sz c
  have g4 := wuV_len gg xs p c
  have g5 := heldI_mk 1 (wuV gg xs p c)
  have g6 := mkInts_length 1 (wuV gg xs p c)
  refine ⟨?_, fun a0 => ⟨fun a1 => rfl, fun a1 => ⟨?_, fun a2 => ⟨fun a3 => rfl, fun a3 => ⟨?_, fun a4 => ⟨fun a5 => rfl, fun a5 => ⟨?_, ⟨?_, ⟨?_, fun a6 => fun a7 => fun a8 => ⟨?_, ⟨?_, ⟨?_, fun a9 => ⟨fun a10 => ⟨fun a11 => ?_, fun a11 => ⟨?_, fun a12 => ⟨fun a13 => ?_, fun a13 => ⟨?_, ⟨fun a14 => ?_, fun a14 => ⟨?_, ⟨fun a15 => ?_, fun a15 => ⟨?_, ⟨?_, ⟨?_, ⟨fun a16 => ⟨fun a17 => ⟨fun a18 => ?_, fun a18 => ⟨?_, ⟨?_, fun a19 => ⟨fun a20 => ?_, fun a20 => ⟨fun a21 => ?_, fun a21 => ⟨?_, ⟨?_, fun a22 => ⟨?_, fun a23 => ⟨fun a24 => ⟨fun a25 => ?_, fun a25 => ⟨?_, fun a26 => ⟨fun a27 => ?_, fun a27 => ⟨fun a28 => ?_, fun a28 => rfl⟩⟩⟩⟩, fun a24 => ⟨fun a25 => ?_, fun a25 => ⟨?_, fun a26 => ⟨fun a27 => ?_, fun a27 => ⟨fun a28 => ?_, fun a28 => rfl⟩⟩⟩⟩⟩⟩⟩⟩⟩⟩⟩⟩⟩, fun a17 => ⟨fun a18 => ?_, fun a18 => ⟨?_, ⟨?_, fun a19 => ⟨fun a20 => ?_, fun a20 => ⟨fun a21 => ?_, fun a21 => ⟨?_, ⟨?_, fun a22 => ⟨?_, fun a23 => ⟨fun a24 => ⟨fun a25 => ?_, fun a25 => ⟨?_, fun a26 => ⟨fun a27 => ?_, fun a27 => ⟨fun a28 => ?_, fun a28 => rfl⟩⟩⟩⟩, fun a24 => ⟨fun a25 => ?_, fun a25 => ⟨?_, fun a26 => ⟨fun a27 => ?_, fun a27 => ⟨fun a28 => ?_, fun a28 => rfl⟩⟩⟩⟩⟩⟩⟩⟩⟩⟩⟩⟩⟩⟩, fun a16 => ⟨fun a17 => ⟨fun a18 => ?_, fun a18 => ⟨?_, ⟨?_, fun a19 => ⟨fun a20 => ?_, fun a20 => ⟨fun a21 => ?_, fun a21 => ⟨?_, ⟨?_, fun a22 => ⟨?_, fun a23 => ⟨fun a24 => ⟨fun a25 => ?_, fun a25 => ⟨?_, fun a26 => ⟨fun a27 => ?_, fun a27 => ⟨fun a28 => ?_, fun a28 => rfl⟩⟩⟩⟩, fun a24 => ⟨fun a25 => ?_, fun a25 => ⟨?_, fun a26 => ⟨fun a27 => ?_, fun a27 => ⟨fun a28 => ?_, fun a28 => rfl⟩⟩⟩⟩⟩⟩⟩⟩⟩⟩⟩⟩⟩, fun a17 => ⟨fun a18 => ?_, fun a18 => ⟨?_, ⟨?_, fun a19 => ⟨fun a20 => ?_, fun a20 => ⟨fun a21 => ?_, fun a21 => ⟨?_, ⟨?_, fun a22 => ⟨?_, fun a23 => ⟨fun a24 => ⟨fun a25 => ?_, fun a25 => ⟨?_, fun a26 => ⟨fun a27 => ?_, fun a27 => ⟨fun a28 => ?_, fun a28 => rfl⟩⟩⟩⟩, fun a24 => ⟨fun a25 => ?_, fun a25 => ⟨?_, fun a26 => ⟨fun a27 => ?_, fun a27 => ⟨fun a28 => ?_, fun a28 => rfl⟩⟩⟩⟩⟩⟩⟩⟩⟩⟩⟩⟩⟩⟩⟩⟩⟩⟩⟩⟩⟩⟩⟩⟩⟩, fun a10 => ⟨fun a11 => ?_, fun a11 => ⟨?_, fun a12 => ⟨fun a13 => ?_, fun a13 => ⟨?_, ⟨fun a14 => ?_, fun a14 => ⟨?_, ⟨fun a15 => ?_, fun a15 => ⟨?_, ⟨?_, ⟨?_, ⟨fun a16 => ⟨fun a17 => ⟨fun a18 => ?_, fun a18 => ⟨?_, ⟨?_, fun a19 => ⟨fun a20 => ?_, fun a20 => ⟨fun a21 => ?_, fun a21 => ⟨?_, ⟨?_, fun a22 => ⟨?_, fun a23 => ⟨fun a24 => ⟨fun a25 => ?_, fun a25 => ⟨?_, fun a26 => ⟨fun a27 => ?_, fun a27 => ⟨fun a28 => ?_, fun a28 => rfl⟩⟩⟩⟩, fun a24 => ⟨fun a25 => ?_, fun a25 => ⟨?_, fun a26 => ⟨fun a27 => ?_, fun a27 => ⟨fun a28 => ?_, fun a28 => rfl⟩⟩⟩⟩⟩⟩⟩⟩⟩⟩⟩⟩⟩, fun a17 => ⟨fun a18 => ?_, fun a18 => ⟨?_, ⟨?_, fun a19 => ⟨fun a20 => ?_, fun a20 => ⟨fun a21 => ?_, fun a21 => ⟨?_, ⟨?_, fun a22 => ⟨?_, fun a23 => ⟨fun a24 => ⟨fun a25 => ?_, fun a25 => ⟨?_, fun a26 => ⟨fun a27 => ?_, fun a27 => ⟨fun a28 => ?_, fun a28 => rfl⟩⟩⟩⟩, fun a24 => ⟨fun a25 => ?_, fun a25 => ⟨?_, fun a26 => ⟨fun a27 => ?_, fun a27 => ⟨fun a28 => ?_, fun a28 => rfl⟩⟩⟩⟩⟩⟩⟩⟩⟩⟩⟩⟩⟩⟩, fun a16 => ⟨fun a17 => ⟨fun a18 => ?_, fun a18 => ⟨?_, ⟨?_, fun a19 => ⟨fun a20 => ?_, fun a20 => ⟨fun a21 => ?_, fun a21 => ⟨?_, ⟨?_, fun a22 => ⟨?_, fun a23 => ⟨fun a24 => ⟨fun a25 => ?_, fun a25 => ⟨?_, fun a26 => ⟨fun a27 => ?_, fun a27 => ⟨fun a28 => ?_, fun a28 => rfl⟩⟩⟩⟩, fun a24 => ⟨fun a25 => ?_, fun a25 => ⟨?_, fun a26 => ⟨fun a27 => ?_, fun a27 => ⟨fun a28 => ?_, fun a28 => rfl⟩⟩⟩⟩⟩⟩⟩⟩⟩⟩⟩⟩⟩, fun a17 => ⟨fun a18 => ?_, fun a18 => ⟨?_, ⟨?_, fun a19 => ⟨fun a20 => ?_, fun a20 => ⟨fun a21 => ?_, fun a21 => ⟨?_, ⟨?_, fun a22 => ⟨?_, fun a23 => ⟨fun a24 => ⟨fun a25 => ?_, fun a25 => ⟨?_, fun a26 => ⟨fun a27 => ?_, fun a27 => ⟨fun a28 => ?_, fun a28 => rfl⟩⟩⟩⟩, fun a24 => ⟨fun a25 => ?_, fun a25 => ⟨?_, fun a26 => ⟨fun a27 => ?_, fun a27 => ⟨fun a28 => ?_, fun a28 => rfl⟩⟩⟩⟩⟩⟩⟩⟩⟩⟩⟩⟩⟩⟩⟩⟩⟩⟩⟩⟩⟩⟩⟩⟩⟩⟩⟩⟩⟩⟩⟩⟩⟩⟩⟩⟩⟩⟩
  all_goals try and_intros
  all_goals try simp only [GExpr.eta, GProg.eta, GDerivation.eta, GTriple.eta, GPremise.eta, GClaim.eta, GEquation.eta, GPair.eta, GSpot.eta, e_expr_eq, e_pair_eq, e_equation_eq, e_claim_eq, e_prog_eq, e_spot_eq, e_triple_eq, e_premise_eq, e_derivation_eq] at *
  all_goals first | rfl | trivial | omega | (simp only [decide_eq_true_eq, decide_eq_false_iff_not, idxOk, inI64, inKind, cutOk, makeOk, roomOk] at *; omega) | (simp [idxOk, inI64] at *; omega) | grind | (simp_all; done)

theorem good_laws_FnExactWeakestUnder : Ctr.Good k_laws_FnExactWeakestUnder := ok_laws_FnExactWeakestUnder ⟨good_laws_szPremiseS, good_laws_szProg, good_laws_szExpr, good_laws_toPremiseS, good_laws_toProg, good_laws_toExpr, good_laws_toSig, good_spec_WeakestUnder, good_laws_eqInt64S, good_laws_eqPremiseS, good_laws_eqProg, good_laws_eqExpr, good_laws_heldInt64S, trivial⟩ ⟨ogood_laws_toPremiseS, ogood_laws_toProg, ogood_laws_toExpr, ogood_impl_WeakestUnder, trivial⟩ ⟨mgood_laws_markPremiseS, mgood_laws_markProg, mgood_laws_markExpr, mgood_laws_markInt64S, trivial⟩

theorem law_FnExactWeakestUnder : ∀ tvs : List TV, tvs.map TV.τ = [(.st .sig), (.slice (.st .premise)), (.st .prog), (.st .expr)] → OkCall prog n_laws_FnExactWeakestUnder (tvs.map .val) (· = [⟨.bool, true⟩]) := by
  intro tvs h
  match tvs, h with
  | [⟨t0, a0⟩, ⟨t1, a1⟩, ⟨t2, a2⟩, ⟨t3, a3⟩], h =>
    simp only [List.map_cons, List.map_nil, List.cons.injEq, and_true] at h
    obtain ⟨rfl, rfl, rfl, rfl⟩ := h
    exact good_laws_FnExactWeakestUnder.2 a0 a1 a2 a3 trivial

end
end Go.Proofs.Ytcdppmpjplhgkaa

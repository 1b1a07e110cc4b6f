/- Derivations: sizes, what a node asks of its rule. Printed by vmk.py. -/
import Derived.Test.YtkogipcdjalehaaGreatVmUse
import Derived.Test.YtkogipcdjalehaaGreatVmLib
import Derived.Test.YtkogipcdjalehaaGreatVmSz
import Derived.Test.YtkogipcdjalehaaGreatVmTruth
import Derived.Test.YtkogipcdjalehaaGreatVmValid
import Derived.Test.YtkogipcdjalehaaGreatVmPrem
import Derived.Test.YtkogipcdjalehaaGreatVmProg
import Derived.Test.YtkogipcdjalehaaGreatVmSame
set_option linter.unusedVariables false
set_option linter.unusedSimpArgs false
set_option linter.unusedSectionVars false
set_option maxRecDepth 4000
set_option maxHeartbeats 4000000
namespace Go.Proofs.YtkogipcdjalehaaGreat
noncomputable section
mutual
def dsz : GDerivation → Nat
 | ⟨_, _, ks⟩ => 1 + dszs ks
def dszs : List GDerivation → Nat
 | [] => 0
 | k :: ks => dsz k + dszs ks
end
theorem dszs_eq : ∀ xs, dszs xs = szL dsz xs
 | [] => rfl
 | x :: xs => by rw [dszs, szL, dszs_eq xs]
theorem dsz_eq (x : GDerivation) : dsz x = 1 + szL dsz x.kids := by
 cases x; simp [dsz, dszs_eq]
mutual
theorem dsz_le : ∀ x : GDerivation, dsz x ≤ 1 + sz_derivation x
 | ⟨r, s, ks⟩ => by
  have := dszs_le ks
  simp only [dsz, sz_derivation]; omega
theorem dszs_le : ∀ xs : List GDerivation, dszs xs ≤ xs.length + szs_derivation xs
 | [] => by simp [dszs]
 | x :: xs => by
  have h1 := dsz_le x
  have h2 := dszs_le xs
  simp only [dszs, szs_derivation, List.length_cons]; omega
end
def kn_impl_DerivationSize (n : Nat) : Ctr := ⟨n_impl_DerivationSize, [.v (.st .derivation)], fun (x : GDerivation) => ⟨(some (msz x < n ∧ dsz x ≤ 4611686018427387904), [⟨(.int .i64), (dsz x : Int)⟩])⟩⟩
def k_impl_DerivationSize : Ctr := ⟨n_impl_DerivationSize, [.v (.st .derivation)], fun (x : GDerivation) => ⟨(some (dsz x ≤ 4611686018427387904), [⟨(.int .i64), (dsz x : Int)⟩])⟩⟩
def l_impl_DerivationSize (x : GDerivation) : Nat → LoopInv := (fun zb => if Nat.beq zb 0 then .mk (Nat) (fun k => k ≤ x.kids.length) (fun k => x.kids.length - k) [] [0, 1, 4, 6] (fun k => [(9, .imm ⟨(.int .i64), ((k : Int) : Int)⟩), (3, .imm ⟨(.int .i64), (1 + (szL dsz (x.kids.take k) : Int) : Int)⟩)]) [2, 3, 5, 7, 8, 9, 10, 11, 12, 13, 14, 15, 16, 17, 18] (fun k => []) [] [] (fun k => fun _ => .none) else .none)
theorem vc_impl_DerivationSize (n : Nat) (x : GDerivation) : awp (envOf [kn_impl_DerivationSize n] [] [] [1]) (bodyOf f_impl_DerivationSize) (l_impl_DerivationSize x) 0 (funPost (envOf [kn_impl_DerivationSize n] [] [] [1]) f_impl_DerivationSize fun r => areEq r [⟨(.int .i64), (dsz x : Int)⟩]) (startState f_impl_DerivationSize [.val ⟨(.st .derivation), x⟩]) =
 ((x.kids.length ≤ 140737488355328 →
 (inI64 ((x.kids.length : Int)) →
 ((∃ k1 : Nat, (k1 ≤ x.kids.length ∧ (((0 : Int) = (0 : Int) ∧ ((1 : Int) = (1 + (szL dsz (x.kids.take k1) : Int)) ∧ (x.kids = x.kids ∧ (((x.kids.length : Int)) = ((x.kids.length : Int)) ∧ ((0 : Int) = (k1 : Int) ∧ True))))) ∧ True))) ∧ (∀ k1 : Nat, (k1 ≤ x.kids.length →
 (((decide ((k1 : Int) < ((x.kids.length : Int)))) = true →
 (idxOk (k1 : Int) x.kids.length ∧ ((msz (e_derivation (x.kids.getD k1 zD)) < n ∧ dsz (e_derivation (x.kids.getD k1 zD)) ≤ 4611686018427387904) ∧ (inI64 ((dsz (e_derivation (x.kids.getD k1 zD)) : Int)) →
 (inI64 ((1 + (szL dsz (x.kids.take k1) : Int)) + ((dsz (e_derivation (x.kids.getD k1 zD)) : Int))) ∧ (inI64 ((k1 : Int) + (1 : Int)) ∧ (∃ k2 : Nat, (k2 ≤ x.kids.length ∧ (x.kids.length - k2 < x.kids.length - k1 ∧ (((0 : Int) = (0 : Int) ∧ (((1 + (szL dsz (x.kids.take k1) : Int)) + ((dsz (e_derivation (x.kids.getD k1 zD)) : Int))) = (1 + (szL dsz (x.kids.take k2) : Int)) ∧ (x.kids = x.kids ∧ (((x.kids.length : Int)) = ((x.kids.length : Int)) ∧ (((k1 : Int) + (1 : Int)) = (k2 : Int) ∧ True))))) ∧ True)))))))))) ∧ ((decide ((k1 : Int) < ((x.kids.length : Int)))) = false →
 (1 + (szL dsz (x.kids.take k1) : Int)) = (dsz x : Int))))))))) := by kernel_rfl
theorem ok_impl_DerivationSize (n : Nat) (hE : AllGood [kn_impl_DerivationSize n]) : Ctr.Good (kn_impl_DerivationSize (n + 1)) := by
 refine ⟨fnOk_of at_impl_DerivationSize rfl (by decide), ?_⟩
 show ∀ (x : GDerivation), (msz x < n + 1 ∧ dsz x ≤ 4611686018427387904) → OkCall prog n_impl_DerivationSize [.val ⟨(.st .derivation), x⟩] (· = [⟨(.int .i64), (dsz x : Int)⟩])
 intro x hp
 refine ok_of_awp (wr := []) (cl := []) (ro := [1]) hE at_impl_DerivationSize body_impl_DerivationSize (l_impl_DerivationSize x) ?_
 rewrite [vc_impl_DerivationSize n x]
 rw [dsz_eq x] at hp
 have f0 := msz_kidsD x
 have f1 := szL_zero dsz x.kids
 refine fun a0 => fun a1 => ⟨⟨0, ⟨?_, ⟨⟨rfl, ⟨?_, ⟨rfl, ⟨rfl, ⟨?_, trivial⟩⟩⟩⟩⟩, trivial⟩⟩⟩, fun k1 a2 => have b2x0 := szL_take dsz zD x.kids k1; have b2x1 := szL_take_le dsz x.kids k1; have b2x2 := szL_take_le dsz x.kids (k1 + 1); have b2x3 := szL_all dsz x.kids k1; have b2x4 := szL_getD dsz zD x.kids k1; have b2x5 := msz_getD zD x.kids k1; ⟨fun a3 => ⟨?_, ⟨?_, fun a4 => ⟨?_, ⟨?_, ⟨k1 + 1, ⟨?_, ⟨?_, ⟨⟨rfl, ⟨?_, ⟨rfl, ⟨rfl, ⟨?_, trivial⟩⟩⟩⟩⟩, trivial⟩⟩⟩⟩⟩⟩⟩⟩, fun a3 => ?_⟩⟩
 all_goals try and_intros
 all_goals try simp only [GExpr.eta, GProg.eta, GDerivation.eta, GTriple.eta, GPremise.eta, GClaim.eta, GEquation.eta, GPair.eta, GSpot.eta, e_expr_eq, e_pair_eq, e_equation_eq, e_claim_eq, e_prog_eq, e_spot_eq, e_triple_eq, e_premise_eq, e_derivation_eq] at *
 all_goals try rw [dsz_eq x]
 all_goals first | rfl | trivial | omega | (simp only [decide_eq_true_eq, decide_eq_false_iff_not, idxOk, inI64, inKind, cutOk, makeOk, roomOk] at *; omega) | (simp [idxOk, inI64] at *; omega) | grind
theorem all_dersize_i  : ∀ n, AllGood [kn_impl_DerivationSize n]
 | 0 => ⟨⟨fnOk_of at_impl_DerivationSize rfl (by decide), fun _ h => absurd h.1 (Nat.not_lt_zero _)⟩, trivial⟩
 | n + 1 => by
  have ih := all_dersize_i  n
  exact ⟨ok_impl_DerivationSize n ⟨ih.1, trivial⟩, trivial⟩
theorem good_impl_DerivationSize  : Ctr.Good k_impl_DerivationSize :=
 ⟨fnOk_of at_impl_DerivationSize rfl (by decide), fun x hp => (all_dersize_i  (msz x + 1)).1.2 x (⟨Nat.lt_succ_self _, hp⟩)⟩
def okT (gg : GSig) (t : GTriple) : Bool := okP gg t.prog && isC gg t.pre && isC gg t.post
theorem okT_eq (gg : GSig) (t : GTriple) : okT gg t = (okC gg t.pre && okC gg t.post && okP gg t.prog) := by
 simp only [okT, okC_eqP, okP]
 cases sigOk gg <;> cases isP gg t.prog <;> cases isC gg t.pre <;> cases isC gg t.post <;> rfl
mutual
theorem sz_nodesX : ∀ x : GExpr, sz_expr x + 1 = nodesE x
 | ⟨_, _, ks⟩ => by
  have := szs_nodesX ks
  simp only [sz_expr, nodesE]; omega
theorem szs_nodesX : ∀ xs : List GExpr, xs.length + szs_expr xs = nodesEs xs
 | [] => rfl
 | x :: xs => by
  have h1 := sz_nodesX x
  have h2 := szs_nodesX xs
  simp only [szs_expr, nodesEs, List.length_cons]; omega
end
theorem isC_szX (gg : GSig) (x : GExpr) (h : isC gg x = true) : sz_expr x ≤ 1048576 := by
 simp only [isC, Bool.and_eq_true, isE_iff] at h
 have := sz_nodesX x
 omega
structure TrF (gg : GSig) (t : GTriple) : Prop where
 sig : sigOk gg = true
 two : t.prog.kind = 5 ∨ t.prog.kind = 6 → t.prog.kids.length = 2
 one : t.prog.kind = 7 → t.prog.kids.length = 1
 cond : t.prog.kind = 4 ∨ t.prog.kind = 6 ∨ t.prog.kind = 7 → sz_expr t.prog.cond ≤ 1048576
 pre : sz_expr t.pre ≤ 1048576 ∧ goodC t.pre = true
 post : sz_expr t.post ≤ 1048576 ∧ goodC t.post = true
theorem okT_trF (gg : GSig) (t : GTriple) (h : okT gg t = true) : TrF gg t := by
 simp only [okT, okP, isP, shPB, Bool.and_eq_true] at h
 obtain ⟨⟨⟨hs, ⟨h1, _⟩, _⟩, h2⟩, h3⟩ := h
 rw [treeP_eq, headP_eq] at h1
 simp only [Bool.and_eq_true, decide_eq_true_eq] at h1
 obtain ⟨⟨⟨h4, _⟩, h5⟩, _⟩ := h1
 refine ⟨hs, fun e => ?_, fun e => ?_, fun e => ?_, ⟨isC_szX gg _ h2, isC_good gg _ hs h2⟩, ⟨isC_szX gg _ h3, isC_good gg _ hs h3⟩⟩
 ·rcases e with e | e <;> rw [e] at h4 <;> simp [kidsPN] at h4 <;> omega
 ·rw [e] at h4; simp [kidsPN] at h4; omega
 ·have ha : asksP t.prog.kind = true := by rcases e with e | e | e <;> simp [asksP, e]
  simp only [conP, ha, if_true] at h5
  exact isC_szX gg _ h5
def kn (r : Int) : Int := if r = 5 ∨ r = 6 then 2 else if r = 7 then 1 else 0
def sayB (t : GTriple) (a : GExpr) (p : GProg) (b : GExpr) : Bool := eqB t.pre a && eqB t.prog p && eqB t.post b
theorem sayB_eq (t : GTriple) (a : GExpr) (p : GProg) (b : GExpr) : sayB t a p b = (eqB t.pre a && eqB t.prog p && eqB t.post b) := rfl
def cntB (r n : Int) : Bool := if r = 1 ∨ r = 2 ∨ r = 3 ∨ r = 4 then decide (n = 0) else if r = 5 ∨ r = 6 then decide (n = 2) else if r = 7 then decide (n = 1) else decide (r = 8)
def givAt (t : GTriple) (x : GPremise) : Bool := decide (x.act = t.prog.num) && eqB x.pre t.pre && eqB x.post t.post
theorem givAt_eq (t : GTriple) (x : GPremise) : givAt t x = (decide (x.act = t.prog.num) && eqB x.pre t.pre && eqB x.post t.post) := rfl
def notG (t : GTriple) (x : GPremise) : Bool := !givAt t x
theorem notG_eq (t : GTriple) (x : GPremise) : notG t x = !givAt t x := rfl
def givB (xs : List GPremise) (t : GTriple) : Bool := xs.any (givAt t)
theorem giv_all (xs : List GPremise) (t : GTriple) : givB xs t = !allL (notG t) xs := by
 unfold givB
 induction xs with
 | nil => rfl
 | cons x xs ih => rw [List.any_cons, ih, allL, notG]; cases givAt t x <;> rfl
def idxA {α : Type} (p : α → Bool) (k : Int) : List α → Int
 | [] => -1
 | x :: xs => bif p x then k else idxA p (k + 1) xs
theorem idxA_any {α : Type} (p : α → Bool) : ∀ (xs : List α) (k : Int), 0 ≤ k → decide (0 ≤ idxA p k xs) = xs.any p
 | [], k, _ => rfl
 | x :: xs, k, hk => by
  rw [idxA, List.any_cons]
  cases h : p x
  ·simpa using idxA_any p xs (k + 1) (by omega)
  ·simpa using hk
def notA {α : Type} (p : α → Bool) (x : α) : Bool := !p x
theorem notA_eq {α : Type} (p : α → Bool) (x : α) : notA p x = !p x := rfl
theorem idxA_none {α : Type} (p : α → Bool) : ∀ (xs : List α) (k : Int), allL (notA p) xs = true → idxA p k xs = -1
 | [], k, _ => rfl
 | x :: xs, k, h => by
  simp only [allL, notA, Bool.and_eq_true, Bool.not_eq_true'] at h
  rw [idxA, h.1, cond_false]
  exact idxA_none p xs (k + 1) h.2
theorem idxA_at {α : Type} (p : α → Bool) (z : α) : ∀ (xs : List α) (k : Int) (i : Nat), i < xs.length → allL (notA p) (xs.take i) = true → p (xs.getD i z) = true → idxA p k xs = k + i
 | [], k, i, h, _, _ => by simp at h
 | x :: xs, k, 0, _, _, h => by
  simp only [List.getD_cons_zero] at h
  simp [idxA, h]
 | x :: xs, k, i + 1, hi, ha, h => by
  simp only [List.take_succ_cons, allL, notA, Bool.and_eq_true, Bool.not_eq_true'] at ha
  have := idxA_at p z xs (k + 1) i (by simpa using hi) ha.2 (by simpa using h)
  rw [idxA, ha.1, cond_false, this]; push_cast; omega
def askA {α : Type} (F : α → Prop × Bool) (z : α) (xs : List α) : Prop := ∀ i, i < xs.length → (F (xs.getD i z)).1
def togK (x y : Int) (k : GDerivation) : Bool := truE x k.says.pre && !truE y k.says.post
theorem togK_eq (x y : Int) (k : GDerivation) : togK x y k = (truE x k.says.pre && !truE y k.says.post) := rfl
def togA (d : GDerivation) (x y : Nat) : Bool := !(truE (x : Int) d.says.pre && !truE (y : Int) d.says.post) || d.kids.any (togK (x : Int) (y : Int))
theorem togA_eq (d : GDerivation) (x y : Nat) : togA d x y = (!(truE (x : Int) d.says.pre && !truE (y : Int) d.says.post) || d.kids.any (togK (x : Int) (y : Int))) := rfl
def sameP (p : GProg) (k : GDerivation) : Bool := eqB k.says.prog p
theorem sameP_eq (p : GProg) (k : GDerivation) : sameP p k = eqB k.says.prog p := rfl
def togR (d : GDerivation) (n x : Nat) : Bool := allN (togA d x) n
theorem togR_eq (d : GDerivation) (n x : Nat) : togR d n x = allN (togA d x) n := rfl
def togB (gg : GSig) (d : GDerivation) : Bool := allL (sameP d.says.prog) d.kids && allN (togR d (atomsN gg).toNat) (atomsN gg).toNat
theorem togB_eq (gg : GSig) (d : GDerivation) : togB gg d = (allL (sameP d.says.prog) d.kids && allN (togR d (atomsN gg).toNat) (atomsN gg).toNat) := rfl
def gdK (k : GDerivation) : Bool := goodC k.says.pre && goodC k.says.post
theorem gdK_eq (k : GDerivation) : gdK k = (goodC k.says.pre && goodC k.says.post) := rfl
def hdB (d : GDerivation) : Bool := decide (1 ≤ d.rule ∧ d.rule ≤ 7 ∧ d.says.prog.kind = d.rule ∧ (d.kids.length : Int) = kn d.rule)
def bothE (x y : GExpr) : GExpr := ⟨7, 0, [x, y]⟩
def notE (x : GExpr) : GExpr := ⟨5, 0, [x]⟩
def kdT (d : GDerivation) (i : Nat) : GTriple := (d.kids.getD i zD).says
def pkP (d : GDerivation) (i : Nat) : GProg := d.says.prog.kids.getD i zP
def ruleB (xs : List GPremise) (d : GDerivation) : Bool :=
 if d.rule = 1 then eqB d.says.pre d.says.post
 else if d.rule = 3 then givB xs d.says
 else if d.rule = 4 then eqB d.says.pre ⟨6, 0, [notE d.says.prog.cond, d.says.post]⟩
 else if d.rule = 5 then sayB (kdT d 0) d.says.pre (pkP d 0) (kdT d 0).post && sayB (kdT d 1) (kdT d 0).post (pkP d 1) d.says.post
 else if d.rule = 6 then sayB (kdT d 0) (bothE d.says.prog.cond d.says.pre) (pkP d 0) d.says.post && sayB (kdT d 1) (bothE (notE d.says.prog.cond) d.says.pre) (pkP d 1) d.says.post
 else if d.rule = 7 then eqB d.says.post (bothE (notE d.says.prog.cond) d.says.pre) && sayB (kdT d 0) (bothE d.says.prog.cond d.says.pre) (pkP d 0) d.says.pre
 else true
theorem rule5 (d : GDerivation) : (sayB (kdT d 0) d.says.pre (pkP d 0) (kdT d 1).pre && sayB (kdT d 1) (kdT d 1).pre (pkP d 1) d.says.post) = (sayB (kdT d 0) d.says.pre (pkP d 0) (kdT d 0).post && sayB (kdT d 1) (kdT d 0).post (pkP d 1) d.says.post) := by
 refine Bool.eq_iff_iff.2 ?_
 simp only [sayB, Bool.and_eq_true, eqB_iff]
 constructor
 ·rintro ⟨⟨⟨h1, h2⟩, h3⟩, ⟨_, h4⟩, h5⟩
  exact ⟨⟨⟨h1, h2⟩, trivial⟩, ⟨h3.symm, h4⟩, h5⟩
 ·rintro ⟨⟨⟨h1, h2⟩, _⟩, ⟨h3, h4⟩, h5⟩
  exact ⟨⟨⟨h1, h2⟩, h3.symm⟩, ⟨trivial, h4⟩, h5⟩
def rightB (gg : GSig) (xs : List GPremise) (d : GDerivation) : Bool := okT gg d.says && (if d.rule = 8 then togB gg d else hdB d && ruleB xs d)
theorem rightB_eq (gg : GSig) (xs : List GPremise) (d : GDerivation) : rightB gg xs d = (okT gg d.says && (if d.rule = 8 then togB gg d else hdB d && ruleB xs d)) := rfl
theorem hdB_eq (d : GDerivation) : hdB d = decide (1 ≤ d.rule ∧ d.rule ≤ 7 ∧ d.says.prog.kind = d.rule ∧ (d.kids.length : Int) = kn d.rule) := rfl
def k_impl_ValidTriple : Ctr := ⟨n_impl_ValidTriple, [.v (.st .sig), .v (.st .triple)], fun (gg : GSig) (x : GTriple) => ⟨(none, [⟨.bool, okT gg x⟩])⟩⟩
def l_impl_ValidTriple (gg : GSig) (x : GTriple) : Nat → LoopInv := fun _ => .none
theorem vc_impl_ValidTriple (gg : GSig) (x : GTriple) : awp (envOf [k_impl_ValidProg, k_impl_isCondition] [] [] [2, 3]) (bodyOf f_impl_ValidTriple) (l_impl_ValidTriple gg x) 0 (funPost (envOf [k_impl_ValidProg, k_impl_isCondition] [] [] [2, 3]) f_impl_ValidTriple fun r => areEq r [⟨.bool, okT gg x⟩]) (startState f_impl_ValidTriple [.val ⟨(.st .sig), gg⟩, .val ⟨(.st .triple), x⟩]) =
 ((((okP gg x.prog) = true →
 (((isC gg x.pre) = true →
 (isC gg x.post) = (okT gg x)) ∧ ((isC gg x.pre) = (!true) →
 false = (okT gg x)))) ∧ ((okP gg x.prog) = (!true) →
 ((false = true →
 (isC gg x.post) = (okT gg x)) ∧ (false = (!true) →
 false = (okT gg x)))))) := by kernel_rfl
theorem ok_impl_ValidTriple (hE : AllGood [k_impl_ValidProg, k_impl_isCondition]) : Ctr.Good k_impl_ValidTriple := by
 refine ⟨fnOk_of at_impl_ValidTriple rfl (by decide), ?_⟩
 show ∀ (gg : GSig) (x : GTriple), True → OkCall prog n_impl_ValidTriple [.val ⟨(.st .sig), gg⟩, .val ⟨(.st .triple), x⟩] (· = [⟨.bool, okT gg x⟩])
 intro gg x _
 refine ok_of_awp (wr := []) (cl := []) (ro := [2, 3]) hE at_impl_ValidTriple body_impl_ValidTriple (l_impl_ValidTriple gg x) ?_
 rewrite [vc_impl_ValidTriple gg x]
 refine ⟨fun a0 => ⟨fun a1 => ?_, fun a1 => ?_⟩, fun a0 => ⟨fun a1 => ?_, fun a1 => ?_⟩⟩
 all_goals try and_intros
 all_goals first | rfl | trivial | grind [okT]
theorem good_impl_ValidTriple : Ctr.Good k_impl_ValidTriple := ok_impl_ValidTriple ⟨good_impl_ValidProg, good_impl_isCondition, trivial⟩
def k_spec_l07Triple : Ctr := ⟨n_spec_l07Triple, [.v (.st .sig), .r (.st .triple)], fun (gg : GSig) (x : GTriple) => ⟨(none, [⟨.bool, okT gg x⟩])⟩⟩
def l_spec_l07Triple (gg : GSig) (x : GTriple) : Nat → LoopInv := fun _ => .none
theorem vc_spec_l07Triple (gg : GSig) (x : GTriple) : awp (envOf [k_spec_l06Cond, k_spec_l06Ok] [] [] [2]) (bodyOf f_spec_l07Triple) (l_spec_l07Triple gg x) 0 (funPost (envOf [k_spec_l06Cond, k_spec_l06Ok] [] [] [2]) f_spec_l07Triple fun r => areEq r [⟨.bool, okT gg x⟩]) (startState f_spec_l07Triple [.val ⟨(.st .sig), gg⟩, .ref ⟨(.st .triple), x⟩]) =
 ((((okC gg x.pre) = true →
 (((okC gg x.post) = true →
 (okP gg x.prog) = (okT gg x)) ∧ ((okC gg x.post) = (!true) →
 false = (okT gg x)))) ∧ ((okC gg x.pre) = (!true) →
 ((false = true →
 (okP gg x.prog) = (okT gg x)) ∧ (false = (!true) →
 false = (okT gg x)))))) := by kernel_rfl
theorem ok_spec_l07Triple (hE : AllGood [k_spec_l06Cond, k_spec_l06Ok]) : Ctr.Good k_spec_l07Triple := by
 refine ⟨fnOk_of at_spec_l07Triple rfl (by decide), ?_⟩
 show ∀ (gg : GSig) (x : GTriple), True → OkCall prog n_spec_l07Triple [.val ⟨(.st .sig), gg⟩, .ref ⟨(.st .triple), x⟩] (· = [⟨.bool, okT gg x⟩])
 intro gg x _
 refine ok_of_awp (wr := []) (cl := []) (ro := [2]) hE at_spec_l07Triple body_spec_l07Triple (l_spec_l07Triple gg x) ?_
 rewrite [vc_spec_l07Triple gg x]
 refine ⟨fun a0 => ⟨fun a1 => ?_, fun a1 => ?_⟩, fun a0 => ⟨fun a1 => ?_, fun a1 => ?_⟩⟩
 all_goals try and_intros
 all_goals try rw [okT_eq]
 all_goals first | rfl | trivial | grind
theorem good_spec_l07Triple : Ctr.Good k_spec_l07Triple := ok_spec_l07Triple ⟨good_spec_l06Cond, good_spec_l06Ok, trivial⟩
def k_spec_l07Counts : Ctr := ⟨n_spec_l07Counts, [.v (.int .i64), .v (.int .i64)], fun (k : Int) (n : Int) => ⟨(none, [⟨.bool, cntB k n⟩])⟩⟩
def l_spec_l07Counts (k : Int) (n : Int) : Nat → LoopInv := fun _ => .none
abbrev j_spec_l07Counts_0 (k : Int) (n : Int) : Prop := (((decide (k = (7 : Int))) = true →
 (decide (n = (1 : Int))) = (cntB k n)) ∧ ((decide (k = (7 : Int))) = false →
 (decide (k = (8 : Int))) = (cntB k n)))
abbrev j_spec_l07Counts_1 (k : Int) (n : Int) : Prop := (((decide (k = (5 : Int))) = true →
 (((decide (k = (5 : Int))) = true →
 (decide (n = (2 : Int))) = (cntB k n)) ∧ ((decide (k = (5 : Int))) = false →
 (j_spec_l07Counts_0 k n)))) ∧ ((decide (k = (5 : Int))) = false →
 (((decide (k = (6 : Int))) = true →
 (decide (n = (2 : Int))) = (cntB k n)) ∧ ((decide (k = (6 : Int))) = false →
 (j_spec_l07Counts_0 k n)))))
theorem vc_spec_l07Counts (k : Int) (n : Int) : awp (envOf []) (bodyOf f_spec_l07Counts) (l_spec_l07Counts k n) 0 (funPost (envOf []) f_spec_l07Counts fun r => areEq r [⟨.bool, cntB k n⟩]) (startState f_spec_l07Counts [.val ⟨(.int .i64), k⟩, .val ⟨(.int .i64), n⟩]) =
 ((((decide (k = (1 : Int))) = true →
 (((decide (k = (1 : Int))) = true →
 (decide (n = (0 : Int))) = (cntB k n)) ∧ ((decide (k = (1 : Int))) = false →
 (j_spec_l07Counts_1 k n)))) ∧ ((decide (k = (1 : Int))) = false →
 (((decide (k = (2 : Int))) = true →
 (((decide (k = (2 : Int))) = true →
 (decide (n = (0 : Int))) = (cntB k n)) ∧ ((decide (k = (2 : Int))) = false →
 (j_spec_l07Counts_1 k n)))) ∧ ((decide (k = (2 : Int))) = false →
 (((decide (k = (3 : Int))) = true →
 (((decide (k = (3 : Int))) = true →
 (decide (n = (0 : Int))) = (cntB k n)) ∧ ((decide (k = (3 : Int))) = false →
 (j_spec_l07Counts_1 k n)))) ∧ ((decide (k = (3 : Int))) = false →
 (((decide (k = (4 : Int))) = true →
 (decide (n = (0 : Int))) = (cntB k n)) ∧ ((decide (k = (4 : Int))) = false →
 (j_spec_l07Counts_1 k n)))))))))) := by kernel_rfl
theorem ok_spec_l07Counts (hE : AllGood []) : Ctr.Good k_spec_l07Counts := by
 refine ⟨fnOk_of at_spec_l07Counts rfl (by decide), ?_⟩
 show ∀ (k : Int) (n : Int), True → OkCall prog n_spec_l07Counts [.val ⟨(.int .i64), k⟩, .val ⟨(.int .i64), n⟩] (· = [⟨.bool, cntB k n⟩])
 intro k n _
 refine ok_of_awp (wr := []) (cl := []) (ro := []) hE at_spec_l07Counts body_spec_l07Counts (l_spec_l07Counts k n) ?_
 rewrite [vc_spec_l07Counts k n]
 refine ⟨fun a0 => ⟨fun a1 => ?_, fun a1 => ⟨fun a2 => ⟨fun a3 => ?_, fun a3 => ⟨fun a4 => ?_, fun a4 => ?_⟩⟩, fun a2 => ⟨fun a3 => ?_, fun a3 => ⟨fun a4 => ?_, fun a4 => ?_⟩⟩⟩⟩, fun a0 => ⟨fun a1 => ⟨fun a2 => ?_, fun a2 => ⟨fun a3 => ⟨fun a4 => ?_, fun a4 => ⟨fun a5 => ?_, fun a5 => ?_⟩⟩, fun a3 => ⟨fun a4 => ?_, fun a4 => ⟨fun a5 => ?_, fun a5 => ?_⟩⟩⟩⟩, fun a1 => ⟨fun a2 => ⟨fun a3 => ?_, fun a3 => ⟨fun a4 => ⟨fun a5 => ?_, fun a5 => ⟨fun a6 => ?_, fun a6 => ?_⟩⟩, fun a4 => ⟨fun a5 => ?_, fun a5 => ⟨fun a6 => ?_, fun a6 => ?_⟩⟩⟩⟩, fun a2 => ⟨fun a3 => ?_, fun a3 => ⟨fun a4 => ⟨fun a5 => ?_, fun a5 => ⟨fun a6 => ?_, fun a6 => ?_⟩⟩, fun a4 => ⟨fun a5 => ?_, fun a5 => ⟨fun a6 => ?_, fun a6 => ?_⟩⟩⟩⟩⟩⟩⟩
 all_goals try and_intros
 all_goals first | rfl | trivial | (simp only [decide_eq_true_eq, decide_eq_false_iff_not] at *; simp [cntB, *]; done) | grind [cntB]
theorem good_spec_l07Counts : Ctr.Good k_spec_l07Counts := ok_spec_l07Counts trivial
def k_spec_l07Given : Ctr := ⟨n_spec_l07Given, [.v (.slice (.st .premise)), .r (.st .triple)], fun (xs : List GPremise) (t : GTriple) => ⟨(none, [⟨.bool, givB xs t⟩])⟩⟩
def l_spec_l07Given (xs : List GPremise) (t : GTriple) : Nat → LoopInv := (fun zb => if Nat.beq zb 0 then .mk (Nat) (fun k => k ≤ xs.length ∧ allL (notG t) (xs.take k) = true) (fun k => xs.length - k) [] [2, 3] (fun k => [(5, .imm ⟨(.int .i64), ((k : Int) : Int)⟩)]) [0, 1, 4, 5, 6, 7, 8, 9, 10, 11, 12, 13, 14, 15, 16, 17, 18, 19, 20, 21, 22, 23, 24, 25, 26, 27, 28, 29, 30, 31, 32, 33, 34, 35, 36, 37, 38, 39, 40, 41, 42] (fun k => []) [] [] (fun k => fun _ => .none) else .none)
abbrev j_spec_l07Given_0 (xs : List GPremise) (t : GTriple) (k1 : Nat) : Prop := (inI64 ((k1 : Int) + (1 : Int)) ∧ (∃ k2 : Nat, ((k2 ≤ xs.length ∧ allL (notG t) (xs.take k2) = true) ∧ (xs.length - k2 < xs.length - k1 ∧ ((xs = xs ∧ (t = t ∧ (((k1 : Int) + (1 : Int)) = (k2 : Int) ∧ True))) ∧ True)))))
abbrev j_spec_l07Given_1 (xs : List GPremise) (t : GTriple) (k1 : Nat) : Prop := (idxOk (k1 : Int) xs.length ∧ (inI64 (xs.getD k1 (GPremise.mk zE (0 : Int) zE)).act →
 (inI64 t.prog.num →
 (((eqB (xs.getD k1 (GPremise.mk zE (0 : Int) zE)).post t.post) = true →
 true = (givB xs t)) ∧ ((eqB (xs.getD k1 (GPremise.mk zE (0 : Int) zE)).post t.post) = false →
 (j_spec_l07Given_0 xs t k1))))))
abbrev j_spec_l07Given_2 (xs : List GPremise) (t : GTriple) (k1 : Nat) : Prop := (inI64 (xs.getD k1 (GPremise.mk zE (0 : Int) zE)).act →
 (inI64 t.prog.num →
 ((false = true →
 true = (givB xs t)) ∧ (false = false →
 (j_spec_l07Given_0 xs t k1)))))
theorem vc_spec_l07Given (xs : List GPremise) (t : GTriple) : awp (envOf [k_spec_l01Same]) (bodyOf f_spec_l07Given) (l_spec_l07Given xs t) 0 (funPost (envOf [k_spec_l01Same]) f_spec_l07Given fun r => areEq r [⟨.bool, givB xs t⟩]) (startState f_spec_l07Given [.val ⟨(.slice (.st .premise)), xs⟩, .ref ⟨(.st .triple), t⟩]) =
 (((∃ k1 : Nat, ((k1 ≤ xs.length ∧ allL (notG t) (xs.take k1) = true) ∧ ((xs = xs ∧ (t = t ∧ ((0 : Int) = (k1 : Int) ∧ True))) ∧ True))) ∧ (∀ k1 : Nat, ((k1 ≤ xs.length ∧ allL (notG t) (xs.take k1) = true) →
 (inI64 ((xs.length : Int)) →
 (((decide ((k1 : Int) < ((xs.length : Int)))) = true →
 (idxOk (k1 : Int) xs.length ∧ (((decide ((xs.getD k1 (GPremise.mk zE (0 : Int) zE)).act = t.prog.num)) = true →
 (idxOk (k1 : Int) xs.length ∧ (((eqB (xs.getD k1 (GPremise.mk zE (0 : Int) zE)).pre t.pre) = true →
 (j_spec_l07Given_1 xs t k1)) ∧ ((eqB (xs.getD k1 (GPremise.mk zE (0 : Int) zE)).pre t.pre) = (!true) →
 (j_spec_l07Given_2 xs t k1))))) ∧ ((decide ((xs.getD k1 (GPremise.mk zE (0 : Int) zE)).act = t.prog.num)) = (!true) →
 ((false = true →
 (j_spec_l07Given_1 xs t k1)) ∧ (false = (!true) →
 (j_spec_l07Given_2 xs t k1))))))) ∧ ((decide ((k1 : Int) < ((xs.length : Int)))) = false →
 false = (givB xs t)))))))) := by kernel_rfl
theorem ok_spec_l07Given (hE : AllGood [k_spec_l01Same]) : Ctr.Good k_spec_l07Given := by
 refine ⟨fnOk_of at_spec_l07Given rfl (by decide), ?_⟩
 show ∀ (xs : List GPremise) (t : GTriple), True → OkCall prog n_spec_l07Given [.val ⟨(.slice (.st .premise)), xs⟩, .ref ⟨(.st .triple), t⟩] (· = [⟨.bool, givB xs t⟩])
 intro xs t _
 refine ok_of_awp (wr := []) (cl := []) (ro := []) hE at_spec_l07Given body_spec_l07Given (l_spec_l07Given xs t) ?_
 rewrite [vc_spec_l07Given xs t]
 have f0 := all_zero (notG t) xs
 refine ⟨⟨0, ⟨?_, ⟨⟨rfl, ⟨rfl, ⟨?_, trivial⟩⟩⟩, trivial⟩⟩⟩, fun k1 a0 => have b0x0 := all_take (notG t) (GPremise.mk zE (0 : Int) zE) xs k1; have b0x1 := all_bad (notG t) (GPremise.mk zE (0 : Int) zE) xs k1; have b0x2 := all_done (notG t) xs k1; have b0x3 := notG_eq t (xs.getD k1 (GPremise.mk zE (0 : Int) zE)); have b0x4 := givAt_eq t (xs.getD k1 (GPremise.mk zE (0 : Int) zE)); fun a1 => ⟨fun a2 => ⟨?_, ⟨fun a3 => ⟨?_, ⟨fun a4 => ⟨?_, fun a5 => fun a6 => ⟨fun a7 => ?_, fun a7 => ⟨?_, ⟨k1 + 1, ⟨?_, ⟨?_, ⟨⟨rfl, ⟨rfl, ⟨?_, trivial⟩⟩⟩, trivial⟩⟩⟩⟩⟩⟩⟩, fun a4 => fun a5 => fun a6 => ⟨fun a7 => ?_, fun a7 => ⟨?_, ⟨k1 + 1, ⟨?_, ⟨?_, ⟨⟨rfl, ⟨rfl, ⟨?_, trivial⟩⟩⟩, trivial⟩⟩⟩⟩⟩⟩⟩⟩, fun a3 => ⟨fun a4 => ⟨?_, fun a5 => fun a6 => ⟨fun a7 => ?_, fun a7 => ⟨?_, ⟨k1 + 1, ⟨?_, ⟨?_, ⟨⟨rfl, ⟨rfl, ⟨?_, trivial⟩⟩⟩, trivial⟩⟩⟩⟩⟩⟩⟩, fun a4 => fun a5 => fun a6 => ⟨fun a7 => ?_, fun a7 => ⟨?_, ⟨k1 + 1, ⟨?_, ⟨?_, ⟨⟨rfl, ⟨rfl, ⟨?_, trivial⟩⟩⟩, trivial⟩⟩⟩⟩⟩⟩⟩⟩⟩, fun a2 => ?_⟩⟩
 all_goals try and_intros
 all_goals try rw [giv_all]
 all_goals first | rfl | trivial | omega | (simp only [decide_eq_true_eq, decide_eq_false_iff_not, idxOk, inI64] at *; first | omega | grind) | grind [idxOk, inI64]
theorem good_spec_l07Given : Ctr.Good k_spec_l07Given := ok_spec_l07Given ⟨good_spec_l01Same, trivial⟩
def k_spec_l07Says : Ctr := ⟨n_spec_l07Says, [.r (.st .derivation), .r (.st .expr), .r (.st .prog), .r (.st .expr)], fun (d : GDerivation) (a : GExpr) (p : GProg) (b : GExpr) => ⟨(none, [⟨.bool, sayB d.says a p b⟩])⟩⟩
def l_spec_l07Says (d : GDerivation) (a : GExpr) (p : GProg) (b : GExpr) : Nat → LoopInv := fun _ => .none
theorem vc_spec_l07Says (d : GDerivation) (a : GExpr) (p : GProg) (b : GExpr) : awp (envOf [k_spec_l01Same, k_spec_l06Same]) (bodyOf f_spec_l07Says) (l_spec_l07Says d a p b) 0 (funPost (envOf [k_spec_l01Same, k_spec_l06Same]) f_spec_l07Says fun r => areEq r [⟨.bool, sayB d.says a p b⟩]) (startState f_spec_l07Says [.ref ⟨(.st .derivation), d⟩, .ref ⟨(.st .expr), a⟩, .ref ⟨(.st .prog), p⟩, .ref ⟨(.st .expr), b⟩]) =
 ((((eqB d.says.pre a) = true →
 (((eqB d.says.prog p) = true →
 (eqB d.says.post b) = (sayB d.says a p b)) ∧ ((eqB d.says.prog p) = (!true) →
 false = (sayB d.says a p b)))) ∧ ((eqB d.says.pre a) = (!true) →
 ((false = true →
 (eqB d.says.post b) = (sayB d.says a p b)) ∧ (false = (!true) →
 false = (sayB d.says a p b)))))) := by kernel_rfl
theorem ok_spec_l07Says (hE : AllGood [k_spec_l01Same, k_spec_l06Same]) : Ctr.Good k_spec_l07Says := by
 refine ⟨fnOk_of at_spec_l07Says rfl (by decide), ?_⟩
 show ∀ (d : GDerivation) (a : GExpr) (p : GProg) (b : GExpr), True → OkCall prog n_spec_l07Says [.ref ⟨(.st .derivation), d⟩, .ref ⟨(.st .expr), a⟩, .ref ⟨(.st .prog), p⟩, .ref ⟨(.st .expr), b⟩] (· = [⟨.bool, sayB d.says a p b⟩])
 intro d a p b _
 refine ok_of_awp (wr := []) (cl := []) (ro := []) hE at_spec_l07Says body_spec_l07Says (l_spec_l07Says d a p b) ?_
 rewrite [vc_spec_l07Says d a p b]
 have f0 := sayB_eq d.says a p b
 refine ⟨fun a0 => ⟨fun a1 => ?_, fun a1 => ?_⟩, fun a0 => ⟨fun a1 => ?_, fun a1 => ?_⟩⟩
 all_goals try and_intros
 all_goals first | rfl | trivial | grind
theorem good_spec_l07Says : Ctr.Good k_spec_l07Says := ok_spec_l07Says ⟨good_spec_l01Same, good_spec_l06Same, trivial⟩
def k_impl_Triple_says : Ctr := ⟨n_impl_Triple_says, [.v (.st .triple), .v (.st .expr), .v (.st .prog), .v (.st .expr)], fun (t : GTriple) (a : GExpr) (p : GProg) (b : GExpr) => ⟨(none, [⟨.bool, sayB t a p b⟩])⟩⟩
def l_impl_Triple_says (t : GTriple) (a : GExpr) (p : GProg) (b : GExpr) : Nat → LoopInv := fun _ => .none
theorem vc_impl_Triple_says (t : GTriple) (a : GExpr) (p : GProg) (b : GExpr) : awp (envOf [k_impl_SameExpr, k_impl_SameProg] [] [] [4, 5, 6, 7]) (bodyOf f_impl_Triple_says) (l_impl_Triple_says t a p b) 0 (funPost (envOf [k_impl_SameExpr, k_impl_SameProg] [] [] [4, 5, 6, 7]) f_impl_Triple_says fun r => areEq r [⟨.bool, sayB t a p b⟩]) (startState f_impl_Triple_says [.val ⟨(.st .triple), t⟩, .val ⟨(.st .expr), a⟩, .val ⟨(.st .prog), p⟩, .val ⟨(.st .expr), b⟩]) =
 ((((eqB t.pre a) = true →
 (((eqB t.prog p) = true →
 (eqB t.post b) = (sayB t a p b)) ∧ ((eqB t.prog p) = (!true) →
 false = (sayB t a p b)))) ∧ ((eqB t.pre a) = (!true) →
 ((false = true →
 (eqB t.post b) = (sayB t a p b)) ∧ (false = (!true) →
 false = (sayB t a p b)))))) := by kernel_rfl
theorem ok_impl_Triple_says (hE : AllGood [k_impl_SameExpr, k_impl_SameProg]) : Ctr.Good k_impl_Triple_says := by
 refine ⟨fnOk_of at_impl_Triple_says rfl (by decide), ?_⟩
 show ∀ (t : GTriple) (a : GExpr) (p : GProg) (b : GExpr), True → OkCall prog n_impl_Triple_says [.val ⟨(.st .triple), t⟩, .val ⟨(.st .expr), a⟩, .val ⟨(.st .prog), p⟩, .val ⟨(.st .expr), b⟩] (· = [⟨.bool, sayB t a p b⟩])
 intro t a p b _
 refine ok_of_awp (wr := []) (cl := []) (ro := [4, 5, 6, 7]) hE at_impl_Triple_says body_impl_Triple_says (l_impl_Triple_says t a p b) ?_
 rewrite [vc_impl_Triple_says t a p b]
 have f0 := sayB_eq t a p b
 refine ⟨fun a0 => ⟨fun a1 => ?_, fun a1 => ?_⟩, fun a0 => ⟨fun a1 => ?_, fun a1 => ?_⟩⟩
 all_goals try and_intros
 all_goals first | rfl | trivial | grind
theorem good_impl_Triple_says : Ctr.Good k_impl_Triple_says := ok_impl_Triple_says ⟨good_impl_SameExpr, good_impl_SameProg, trivial⟩
def k_slices_IndexFunc_Premise : Ctr := ⟨n_slices_IndexFunc_Premise, [.v (.slice (.st .premise)), .c [(.st .premise)] .bool], fun (xs : List GPremise) (F : GPremise → Prop × Bool) => ⟨(some (askA F (GPremise.mk zE (0 : Int) zE) xs), [⟨(.int .i64), idxA (fun x => (F x).2) 0 xs⟩])⟩⟩
def l_slices_IndexFunc_Premise (xs : List GPremise) (F : GPremise → Prop × Bool) : Nat → LoopInv := (fun zb => if Nat.beq zb 0 then .mk (Nat) (fun k => k ≤ xs.length ∧ allL (notA (fun x => (F x).2)) (xs.take k) = true) (fun k => xs.length - k) [] [2, 3, 6] (fun k => [(8, .imm ⟨(.int .i64), ((k : Int) : Int)⟩)]) [0, 1, 4, 5, 7, 8, 9, 10, 11, 12, 13, 14, 15, 16, 17, 18] (fun k => []) [] [] (fun k => fun _ => .none) else .none)
theorem vc_slices_IndexFunc_Premise (xs : List GPremise) (F : GPremise → Prop × Bool) : awp (envOf []) (bodyOf f_slices_IndexFunc_Premise) (l_slices_IndexFunc_Premise xs F) 0 (funPost (envOf []) f_slices_IndexFunc_Premise fun r => areEq r [⟨(.int .i64), idxA (fun x => (F x).2) 0 xs⟩]) (startState f_slices_IndexFunc_Premise [.val ⟨(.slice (.st .premise)), xs⟩, .clo ⟨[(.st .premise)], .bool, F⟩]) =
 ((inI64 ((xs.length : Int)) →
 ((∃ k1 : Nat, ((k1 ≤ xs.length ∧ allL (notA (fun x => (F x).2)) (xs.take k1) = true) ∧ ((xs = xs ∧ (F = F ∧ (((xs.length : Int)) = ((xs.length : Int)) ∧ ((0 : Int) = (k1 : Int) ∧ True)))) ∧ True))) ∧ (∀ k1 : Nat, ((k1 ≤ xs.length ∧ allL (notA (fun x => (F x).2)) (xs.take k1) = true) →
 (((decide ((k1 : Int) < ((xs.length : Int)))) = true →
 (idxOk (k1 : Int) xs.length ∧ ((F (xs.getD k1 (GPremise.mk zE (0 : Int) zE))).1 ∧ ((((F (xs.getD k1 (GPremise.mk zE (0 : Int) zE))).2) = true →
 (k1 : Int) = (idxA (fun x => (F x).2) 0 xs)) ∧ (((F (xs.getD k1 (GPremise.mk zE (0 : Int) zE))).2) = false →
 (inI64 ((k1 : Int) + (1 : Int)) ∧ (∃ k2 : Nat, ((k2 ≤ xs.length ∧ allL (notA (fun x => (F x).2)) (xs.take k2) = true) ∧ (xs.length - k2 < xs.length - k1 ∧ ((xs = xs ∧ (F = F ∧ (((xs.length : Int)) = ((xs.length : Int)) ∧ (((k1 : Int) + (1 : Int)) = (k2 : Int) ∧ True)))) ∧ True)))))))))) ∧ ((decide ((k1 : Int) < ((xs.length : Int)))) = false →
 (-1 : Int) = (idxA (fun x => (F x).2) 0 xs)))))))) := by kernel_rfl
theorem ok_slices_IndexFunc_Premise (hE : AllGood []) : Ctr.Good k_slices_IndexFunc_Premise := by
 refine ⟨fnOk_of at_slices_IndexFunc_Premise rfl (by decide), ?_⟩
 show ∀ (xs : List GPremise) (F : GPremise → Prop × Bool), (askA F (GPremise.mk zE (0 : Int) zE) xs) → OkCall prog n_slices_IndexFunc_Premise [.val ⟨(.slice (.st .premise)), xs⟩, .clo ⟨[(.st .premise)], .bool, F⟩] (· = [⟨(.int .i64), idxA (fun x => (F x).2) 0 xs⟩])
 intro xs F hp
 refine ok_of_awp (wr := []) (cl := []) (ro := []) hE at_slices_IndexFunc_Premise body_slices_IndexFunc_Premise (l_slices_IndexFunc_Premise xs F) ?_
 rewrite [vc_slices_IndexFunc_Premise xs F]
 have f0 := all_zero (notA (fun x => (F x).2)) xs
 have f1 := idxA_none (fun x => (F x).2) xs 0
 refine fun a0 => ⟨⟨0, ⟨?_, ⟨⟨rfl, ⟨rfl, ⟨rfl, ⟨?_, trivial⟩⟩⟩⟩, trivial⟩⟩⟩, fun k1 a1 => have b1x0 := all_take (notA (fun x => (F x).2)) (GPremise.mk zE (0 : Int) zE) xs k1; have b1x1 := all_done (notA (fun x => (F x).2)) xs k1; have b1x2 := idxA_at (fun x => (F x).2) (GPremise.mk zE (0 : Int) zE) xs 0 k1; have b1x3 := notA_eq (fun x => (F x).2) (xs.getD k1 (GPremise.mk zE (0 : Int) zE)); have b1x4 := hp k1; ⟨fun a2 => ⟨?_, ⟨?_, ⟨fun a3 => ?_, fun a3 => ⟨?_, ⟨k1 + 1, ⟨?_, ⟨?_, ⟨⟨rfl, ⟨rfl, ⟨rfl, ⟨?_, trivial⟩⟩⟩⟩, trivial⟩⟩⟩⟩⟩⟩⟩⟩, fun a2 => ?_⟩⟩
 all_goals try and_intros
 all_goals first | rfl | trivial | omega | (simp only [decide_eq_true_eq, decide_eq_false_iff_not, idxOk, inI64] at *; first | omega | grind) | grind [idxOk, inI64]
theorem good_slices_IndexFunc_Premise : Ctr.Good k_slices_IndexFunc_Premise := ok_slices_IndexFunc_Premise trivial
def k_slices_ContainsFunc_Premise : Ctr := ⟨n_slices_ContainsFunc_Premise, [.v (.slice (.st .premise)), .c [(.st .premise)] .bool], fun (xs : List GPremise) (F : GPremise → Prop × Bool) => ⟨(some (askA F (GPremise.mk zE (0 : Int) zE) xs), [⟨.bool, xs.any (fun x => (F x).2)⟩])⟩⟩
def l_slices_ContainsFunc_Premise (xs : List GPremise) (F : GPremise → Prop × Bool) : Nat → LoopInv := fun _ => .none
theorem vc_slices_ContainsFunc_Premise (xs : List GPremise) (F : GPremise → Prop × Bool) : awp (envOf [k_slices_IndexFunc_Premise]) (bodyOf f_slices_ContainsFunc_Premise) (l_slices_ContainsFunc_Premise xs F) 0 (funPost (envOf [k_slices_IndexFunc_Premise]) f_slices_ContainsFunc_Premise fun r => areEq r [⟨.bool, xs.any (fun x => (F x).2)⟩]) (startState f_slices_ContainsFunc_Premise [.val ⟨(.slice (.st .premise)), xs⟩, .clo ⟨[(.st .premise)], .bool, F⟩]) =
 ((askA F (GPremise.mk zE (0 : Int) zE) xs ∧ (inI64 (idxA (fun x => (F x).2) 0 xs) →
 (decide ((0 : Int) ≤ (idxA (fun x => (F x).2) 0 xs))) = (xs.any (fun x => (F x).2))))) := by kernel_rfl
theorem ok_slices_ContainsFunc_Premise (hE : AllGood [k_slices_IndexFunc_Premise]) : Ctr.Good k_slices_ContainsFunc_Premise := by
 refine ⟨fnOk_of at_slices_ContainsFunc_Premise rfl (by decide), ?_⟩
 show ∀ (xs : List GPremise) (F : GPremise → Prop × Bool), (askA F (GPremise.mk zE (0 : Int) zE) xs) → OkCall prog n_slices_ContainsFunc_Premise [.val ⟨(.slice (.st .premise)), xs⟩, .clo ⟨[(.st .premise)], .bool, F⟩] (· = [⟨.bool, xs.any (fun x => (F x).2)⟩])
 intro xs F hp
 refine ok_of_awp (wr := []) (cl := []) (ro := []) hE at_slices_ContainsFunc_Premise body_slices_ContainsFunc_Premise (l_slices_ContainsFunc_Premise xs F) ?_
 rewrite [vc_slices_ContainsFunc_Premise xs F]
 have f0 := idxA_any (fun x => (F x).2) xs 0 (by omega)
 refine ⟨?_, fun a0 => ?_⟩
 all_goals try and_intros
 all_goals first | rfl | trivial | omega | (simp only [decide_eq_true_eq, decide_eq_false_iff_not, idxOk, inI64] at *; first | omega | grind) | grind [idxOk, inI64]
theorem good_slices_ContainsFunc_Premise : Ctr.Good k_slices_ContainsFunc_Premise := ok_slices_ContainsFunc_Premise ⟨good_slices_IndexFunc_Premise, trivial⟩
def k_slices_IndexFunc_Derivation : Ctr := ⟨n_slices_IndexFunc_Derivation, [.v (.slice (.st .derivation)), .c [(.st .derivation)] .bool], fun (xs : List GDerivation) (F : GDerivation → Prop × Bool) => ⟨(some (askA F zD xs), [⟨(.int .i64), idxA (fun x => (F x).2) 0 xs⟩])⟩⟩
def l_slices_IndexFunc_Derivation (xs : List GDerivation) (F : GDerivation → Prop × Bool) : Nat → LoopInv := (fun zb => if Nat.beq zb 0 then .mk (Nat) (fun k => k ≤ xs.length ∧ allL (notA (fun x => (F x).2)) (xs.take k) = true) (fun k => xs.length - k) [] [2, 3, 6] (fun k => [(8, .imm ⟨(.int .i64), ((k : Int) : Int)⟩)]) [0, 1, 4, 5, 7, 8, 9, 10, 11, 12, 13, 14, 15, 16, 17, 18] (fun k => []) [] [] (fun k => fun _ => .none) else .none)
theorem vc_slices_IndexFunc_Derivation (xs : List GDerivation) (F : GDerivation → Prop × Bool) : awp (envOf []) (bodyOf f_slices_IndexFunc_Derivation) (l_slices_IndexFunc_Derivation xs F) 0 (funPost (envOf []) f_slices_IndexFunc_Derivation fun r => areEq r [⟨(.int .i64), idxA (fun x => (F x).2) 0 xs⟩]) (startState f_slices_IndexFunc_Derivation [.val ⟨(.slice (.st .derivation)), xs⟩, .clo ⟨[(.st .derivation)], .bool, F⟩]) =
 ((inI64 ((xs.length : Int)) →
 ((∃ k1 : Nat, ((k1 ≤ xs.length ∧ allL (notA (fun x => (F x).2)) (xs.take k1) = true) ∧ ((xs = xs ∧ (F = F ∧ (((xs.length : Int)) = ((xs.length : Int)) ∧ ((0 : Int) = (k1 : Int) ∧ True)))) ∧ True))) ∧ (∀ k1 : Nat, ((k1 ≤ xs.length ∧ allL (notA (fun x => (F x).2)) (xs.take k1) = true) →
 (((decide ((k1 : Int) < ((xs.length : Int)))) = true →
 (idxOk (k1 : Int) xs.length ∧ ((F (xs.getD k1 zD)).1 ∧ ((((F (xs.getD k1 zD)).2) = true →
 (k1 : Int) = (idxA (fun x => (F x).2) 0 xs)) ∧ (((F (xs.getD k1 zD)).2) = false →
 (inI64 ((k1 : Int) + (1 : Int)) ∧ (∃ k2 : Nat, ((k2 ≤ xs.length ∧ allL (notA (fun x => (F x).2)) (xs.take k2) = true) ∧ (xs.length - k2 < xs.length - k1 ∧ ((xs = xs ∧ (F = F ∧ (((xs.length : Int)) = ((xs.length : Int)) ∧ (((k1 : Int) + (1 : Int)) = (k2 : Int) ∧ True)))) ∧ True)))))))))) ∧ ((decide ((k1 : Int) < ((xs.length : Int)))) = false →
 (-1 : Int) = (idxA (fun x => (F x).2) 0 xs)))))))) := by kernel_rfl
theorem ok_slices_IndexFunc_Derivation (hE : AllGood []) : Ctr.Good k_slices_IndexFunc_Derivation := by
 refine ⟨fnOk_of at_slices_IndexFunc_Derivation rfl (by decide), ?_⟩
 show ∀ (xs : List GDerivation) (F : GDerivation → Prop × Bool), (askA F zD xs) → OkCall prog n_slices_IndexFunc_Derivation [.val ⟨(.slice (.st .derivation)), xs⟩, .clo ⟨[(.st .derivation)], .bool, F⟩] (· = [⟨(.int .i64), idxA (fun x => (F x).2) 0 xs⟩])
 intro xs F hp
 refine ok_of_awp (wr := []) (cl := []) (ro := []) hE at_slices_IndexFunc_Derivation body_slices_IndexFunc_Derivation (l_slices_IndexFunc_Derivation xs F) ?_
 rewrite [vc_slices_IndexFunc_Derivation xs F]
 have f0 := all_zero (notA (fun x => (F x).2)) xs
 have f1 := idxA_none (fun x => (F x).2) xs 0
 refine fun a0 => ⟨⟨0, ⟨?_, ⟨⟨rfl, ⟨rfl, ⟨rfl, ⟨?_, trivial⟩⟩⟩⟩, trivial⟩⟩⟩, fun k1 a1 => have b1x0 := all_take (notA (fun x => (F x).2)) zD xs k1; have b1x1 := all_done (notA (fun x => (F x).2)) xs k1; have b1x2 := idxA_at (fun x => (F x).2) zD xs 0 k1; have b1x3 := notA_eq (fun x => (F x).2) (xs.getD k1 zD); have b1x4 := hp k1; ⟨fun a2 => ⟨?_, ⟨?_, ⟨fun a3 => ?_, fun a3 => ⟨?_, ⟨k1 + 1, ⟨?_, ⟨?_, ⟨⟨rfl, ⟨rfl, ⟨rfl, ⟨?_, trivial⟩⟩⟩⟩, trivial⟩⟩⟩⟩⟩⟩⟩⟩, fun a2 => ?_⟩⟩
 all_goals try and_intros
 all_goals first | rfl | trivial | omega | (simp only [decide_eq_true_eq, decide_eq_false_iff_not, idxOk, inI64] at *; first | omega | grind) | grind [idxOk, inI64]
theorem good_slices_IndexFunc_Derivation : Ctr.Good k_slices_IndexFunc_Derivation := ok_slices_IndexFunc_Derivation trivial
def k_slices_ContainsFunc_Derivation : Ctr := ⟨n_slices_ContainsFunc_Derivation, [.v (.slice (.st .derivation)), .c [(.st .derivation)] .bool], fun (xs : List GDerivation) (F : GDerivation → Prop × Bool) => ⟨(some (askA F zD xs), [⟨.bool, xs.any (fun x => (F x).2)⟩])⟩⟩
def l_slices_ContainsFunc_Derivation (xs : List GDerivation) (F : GDerivation → Prop × Bool) : Nat → LoopInv := fun _ => .none
theorem vc_slices_ContainsFunc_Derivation (xs : List GDerivation) (F : GDerivation → Prop × Bool) : awp (envOf [k_slices_IndexFunc_Derivation]) (bodyOf f_slices_ContainsFunc_Derivation) (l_slices_ContainsFunc_Derivation xs F) 0 (funPost (envOf [k_slices_IndexFunc_Derivation]) f_slices_ContainsFunc_Derivation fun r => areEq r [⟨.bool, xs.any (fun x => (F x).2)⟩]) (startState f_slices_ContainsFunc_Derivation [.val ⟨(.slice (.st .derivation)), xs⟩, .clo ⟨[(.st .derivation)], .bool, F⟩]) =
 ((askA F zD xs ∧ (inI64 (idxA (fun x => (F x).2) 0 xs) →
 (decide ((0 : Int) ≤ (idxA (fun x => (F x).2) 0 xs))) = (xs.any (fun x => (F x).2))))) := by kernel_rfl
theorem ok_slices_ContainsFunc_Derivation (hE : AllGood [k_slices_IndexFunc_Derivation]) : Ctr.Good k_slices_ContainsFunc_Derivation := by
 refine ⟨fnOk_of at_slices_ContainsFunc_Derivation rfl (by decide), ?_⟩
 show ∀ (xs : List GDerivation) (F : GDerivation → Prop × Bool), (askA F zD xs) → OkCall prog n_slices_ContainsFunc_Derivation [.val ⟨(.slice (.st .derivation)), xs⟩, .clo ⟨[(.st .derivation)], .bool, F⟩] (· = [⟨.bool, xs.any (fun x => (F x).2)⟩])
 intro xs F hp
 refine ok_of_awp (wr := []) (cl := []) (ro := []) hE at_slices_ContainsFunc_Derivation body_slices_ContainsFunc_Derivation (l_slices_ContainsFunc_Derivation xs F) ?_
 rewrite [vc_slices_ContainsFunc_Derivation xs F]
 have f0 := idxA_any (fun x => (F x).2) xs 0 (by omega)
 refine ⟨?_, fun a0 => ?_⟩
 all_goals try and_intros
 all_goals first | rfl | trivial | omega | (simp only [decide_eq_true_eq, decide_eq_false_iff_not, idxOk, inI64] at *; first | omega | grind) | grind [idxOk, inI64]
theorem good_slices_ContainsFunc_Derivation : Ctr.Good k_slices_ContainsFunc_Derivation := ok_slices_ContainsFunc_Derivation ⟨good_slices_IndexFunc_Derivation, trivial⟩
def k_impl_tree : Ctr := ⟨n_impl_tree, [.v (.int .i64), .v (.slice (.st .expr))], fun (k : Int) (ks : List GExpr) => ⟨(none, [⟨(.st .expr), GExpr.mk k 0 ks⟩])⟩⟩
def l_impl_tree (k : Int) (ks : List GExpr) : Nat → LoopInv := fun _ => .none
theorem vc_impl_tree (k : Int) (ks : List GExpr) : awp (envOf []) (bodyOf f_impl_tree) (l_impl_tree k ks) 0 (funPost (envOf []) f_impl_tree fun r => areEq r [⟨(.st .expr), GExpr.mk k 0 ks⟩]) (startState f_impl_tree [.val ⟨(.int .i64), k⟩, .val ⟨(.slice (.st .expr)), ks⟩]) =
 ((GExpr.mk k (0 : Int) ks) = (GExpr.mk k 0 ks)) := by kernel_rfl
theorem ok_impl_tree (hE : AllGood []) : Ctr.Good k_impl_tree := by
 refine ⟨fnOk_of at_impl_tree rfl (by decide), ?_⟩
 show ∀ (k : Int) (ks : List GExpr), True → OkCall prog n_impl_tree [.val ⟨(.int .i64), k⟩, .val ⟨(.slice (.st .expr)), ks⟩] (· = [⟨(.st .expr), GExpr.mk k 0 ks⟩])
 intro k ks _
 refine ok_of_awp (wr := []) (cl := []) (ro := []) hE at_impl_tree body_impl_tree (l_impl_tree k ks) ?_
 rewrite [vc_impl_tree k ks]
 refine ?_
 all_goals try and_intros
 all_goals first | rfl | trivial | omega | (simp only [decide_eq_true_eq, decide_eq_false_iff_not, idxOk, inI64, inKind, cutOk, makeOk, roomOk] at *; omega) | (simp [idxOk, inI64] at *; omega) | grind
theorem good_impl_tree : Ctr.Good k_impl_tree := ok_impl_tree trivial
def k_impl_not : Ctr := ⟨n_impl_not, [.v (.st .expr)], fun (x : GExpr) => ⟨(none, [⟨(.st .expr), notE x⟩])⟩⟩
def l_impl_not (x : GExpr) : Nat → LoopInv := fun _ => .none
theorem vc_impl_not (x : GExpr) : awp (envOf [k_impl_tree] [] [] [1]) (bodyOf f_impl_not) (l_impl_not x) 0 (funPost (envOf [k_impl_tree] [] [] [1]) f_impl_not fun r => areEq r [⟨(.st .expr), notE x⟩]) (startState f_impl_not [.val ⟨(.st .expr), x⟩]) =
 ((e_expr (GExpr.mk (5 : Int) 0 ([x]))) = (notE x)) := by kernel_rfl
theorem ok_impl_not (hE : AllGood [k_impl_tree]) : Ctr.Good k_impl_not := by
 refine ⟨fnOk_of at_impl_not rfl (by decide), ?_⟩
 show ∀ (x : GExpr), True → OkCall prog n_impl_not [.val ⟨(.st .expr), x⟩] (· = [⟨(.st .expr), notE x⟩])
 intro x _
 refine ok_of_awp (wr := []) (cl := []) (ro := [1]) hE at_impl_not body_impl_not (l_impl_not x) ?_
 rewrite [vc_impl_not x]
 refine ?_
 all_goals try and_intros
 all_goals try simp only [GExpr.eta, GProg.eta, GDerivation.eta, GTriple.eta, GPremise.eta, GClaim.eta, GEquation.eta, GPair.eta, GSpot.eta, e_expr_eq, e_pair_eq, e_equation_eq, e_claim_eq, e_prog_eq, e_spot_eq, e_triple_eq, e_premise_eq, e_derivation_eq] at *
 all_goals first | rfl | trivial | omega | (simp only [decide_eq_true_eq, decide_eq_false_iff_not, idxOk, inI64, inKind, cutOk, makeOk, roomOk] at *; omega) | (simp [idxOk, inI64] at *; omega) | grind
theorem good_impl_not : Ctr.Good k_impl_not := ok_impl_not ⟨good_impl_tree, trivial⟩
def k_impl_both : Ctr := ⟨n_impl_both, [.v (.st .expr), .v (.st .expr)], fun (x : GExpr) (y : GExpr) => ⟨(none, [⟨(.st .expr), bothE x y⟩])⟩⟩
def l_impl_both (x : GExpr) (y : GExpr) : Nat → LoopInv := fun _ => .none
theorem vc_impl_both (x : GExpr) (y : GExpr) : awp (envOf [k_impl_tree] [] [] [2, 3]) (bodyOf f_impl_both) (l_impl_both x y) 0 (funPost (envOf [k_impl_tree] [] [] [2, 3]) f_impl_both fun r => areEq r [⟨(.st .expr), bothE x y⟩]) (startState f_impl_both [.val ⟨(.st .expr), x⟩, .val ⟨(.st .expr), y⟩]) =
 ((e_expr (GExpr.mk (7 : Int) 0 ([x, y]))) = (bothE x y)) := by kernel_rfl
theorem ok_impl_both (hE : AllGood [k_impl_tree]) : Ctr.Good k_impl_both := by
 refine ⟨fnOk_of at_impl_both rfl (by decide), ?_⟩
 show ∀ (x : GExpr) (y : GExpr), True → OkCall prog n_impl_both [.val ⟨(.st .expr), x⟩, .val ⟨(.st .expr), y⟩] (· = [⟨(.st .expr), bothE x y⟩])
 intro x y _
 refine ok_of_awp (wr := []) (cl := []) (ro := [2, 3]) hE at_impl_both body_impl_both (l_impl_both x y) ?_
 rewrite [vc_impl_both x y]
 refine ?_
 all_goals try and_intros
 all_goals try simp only [GExpr.eta, GProg.eta, GDerivation.eta, GTriple.eta, GPremise.eta, GClaim.eta, GEquation.eta, GPair.eta, GSpot.eta, e_expr_eq, e_pair_eq, e_equation_eq, e_claim_eq, e_prog_eq, e_spot_eq, e_triple_eq, e_premise_eq, e_derivation_eq] at *
 all_goals first | rfl | trivial | omega | (simp only [decide_eq_true_eq, decide_eq_false_iff_not, idxOk, inI64, inKind, cutOk, makeOk, roomOk] at *; omega) | (simp [idxOk, inI64] at *; omega) | grind
theorem good_impl_both : Ctr.Good k_impl_both := ok_impl_both ⟨good_impl_tree, trivial⟩
end
end Go.Proofs.YtkogipcdjalehaaGreat

/- Derivations: one node. Printed by vmk.py. -/
import Derived.Test.YtkogipcdjalehaaGreatVmUse
import Derived.Test.YtkogipcdjalehaaGreatVmLib
import Derived.Test.YtkogipcdjalehaaGreatVmSz
import Derived.Test.YtkogipcdjalehaaGreatVmTruth
import Derived.Test.YtkogipcdjalehaaGreatVmValid
import Derived.Test.YtkogipcdjalehaaGreatVmPrem
import Derived.Test.YtkogipcdjalehaaGreatVmProg
import Derived.Test.YtkogipcdjalehaaGreatVmSame
import Derived.Test.YtkogipcdjalehaaGreatVmDeriv
set_option linter.unusedVariables false
set_option linter.unusedSimpArgs false
set_option linter.unusedSectionVars false
set_option maxRecDepth 4000
set_option maxHeartbeats 4000000
namespace Go.Proofs.YtkogipcdjalehaaGreat
noncomputable section
def F_impl_isTogether_1 (x : Int) (y : Int) : GDerivation → Prop × Bool := fun (k : GDerivation) => ((gdK k = true ∧ (0 ≤ x ∧ x ≤ 4096) ∧ 0 ≤ y ∧ y ≤ 4096), togK x y k)
def q_impl_isTogether_1 : Nat × CloK := (n_impl_isTogether_1, ⟨[(.st .derivation)], .bool, [(true, (.int .i64)), (true, (.int .i64))]⟩)
def k_impl_isTogether_1 : Ctr := ⟨n_impl_isTogether_1, [.v (.st .derivation), .r (.int .i64), .r (.int .i64)], fun (k : GDerivation) (x : Int) (y : Int) => ⟨(some (gdK k = true ∧ (0 ≤ x ∧ x ≤ 4096) ∧ 0 ≤ y ∧ y ≤ 4096), [⟨.bool, togK x y k⟩])⟩⟩
def l_impl_isTogether_1 (k : GDerivation) (x : Int) (y : Int) : Nat → LoopInv := fun _ => .none
theorem vc_impl_isTogether_1 (k : GDerivation) (x : Int) (y : Int) : awp (envOf [k_impl_truth] [] [] [3]) (bodyOf f_impl_isTogether_1) (l_impl_isTogether_1 k x y) 0 (funPost (envOf [k_impl_truth] [] [] [3]) f_impl_isTogether_1 fun r => areEq r [⟨.bool, togK x y k⟩]) (startState f_impl_isTogether_1 [.val ⟨(.st .derivation), k⟩, .ref ⟨(.int .i64), x⟩, .ref ⟨(.int .i64), y⟩]) =
 ((inI64 x →
 ((goodC k.says.pre = true ∧ 0 ≤ x ∧ x ≤ 4096) ∧ (((truE x k.says.pre) = true →
 (inI64 y →
 ((goodC k.says.post = true ∧ 0 ≤ y ∧ y ≤ 4096) ∧ (!(truE y k.says.post)) = (togK x y k)))) ∧ ((truE x k.says.pre) = (!true) →
 false = (togK x y k)))))) := by kernel_rfl
theorem ok_impl_isTogether_1 (hE : AllGood [k_impl_truth]) : Ctr.Good k_impl_isTogether_1 := by
 refine ⟨fnOk_of at_impl_isTogether_1 rfl (by decide), ?_⟩
 show ∀ (k : GDerivation) (x : Int) (y : Int), (gdK k = true ∧ (0 ≤ x ∧ x ≤ 4096) ∧ 0 ≤ y ∧ y ≤ 4096) → OkCall prog n_impl_isTogether_1 [.val ⟨(.st .derivation), k⟩, .ref ⟨(.int .i64), x⟩, .ref ⟨(.int .i64), y⟩] (· = [⟨.bool, togK x y k⟩])
 intro k x y hp
 refine ok_of_awp (wr := []) (cl := []) (ro := [3]) hE at_impl_isTogether_1 body_impl_isTogether_1 (l_impl_isTogether_1 k x y) ?_
 rewrite [vc_impl_isTogether_1 k x y]
 have f0 := hp.1
 rw [gdK_eq] at f0
 have f1 := togK_eq x y k
 refine fun a0 => ⟨?_, ⟨fun a1 => fun a2 => ⟨?_, ?_⟩, fun a1 => ?_⟩⟩
 all_goals try and_intros
 all_goals first | rfl | trivial | grind
theorem good_impl_isTogether_1 : Ctr.Good k_impl_isTogether_1 := ok_impl_isTogether_1 ⟨good_impl_truth, trivial⟩
def F_impl_isRight_1 (p : GProg) (t : GTriple) : GPremise → Prop × Bool := fun (x : GPremise) => ((True), decide (x.act = p.num) && eqB x.pre t.pre && eqB x.post t.post)
def q_impl_isRight_1 : Nat × CloK := (n_impl_isRight_1, ⟨[(.st .premise)], .bool, [(true, (.st .prog)), (true, (.st .triple))]⟩)
def k_impl_isRight_1 : Ctr := ⟨n_impl_isRight_1, [.v (.st .premise), .r (.st .prog), .r (.st .triple)], fun (x : GPremise) (p : GProg) (t : GTriple) => ⟨(none, [⟨.bool, decide (x.act = p.num) && eqB x.pre t.pre && eqB x.post t.post⟩])⟩⟩
def l_impl_isRight_1 (x : GPremise) (p : GProg) (t : GTriple) : Nat → LoopInv := fun _ => .none
theorem vc_impl_isRight_1 (x : GPremise) (p : GProg) (t : GTriple) : awp (envOf [k_impl_SameExpr] [] [] [3]) (bodyOf f_impl_isRight_1) (l_impl_isRight_1 x p t) 0 (funPost (envOf [k_impl_SameExpr] [] [] [3]) f_impl_isRight_1 fun r => areEq r [⟨.bool, decide (x.act = p.num) && eqB x.pre t.pre && eqB x.post t.post⟩]) (startState f_impl_isRight_1 [.val ⟨(.st .premise), x⟩, .ref ⟨(.st .prog), p⟩, .ref ⟨(.st .triple), t⟩]) =
 ((inI64 x.act →
 (inI64 p.num →
 (((decide (x.act = p.num)) = true →
 (((eqB x.pre t.pre) = true →
 (eqB x.post t.post) = (decide (x.act = p.num) && eqB x.pre t.pre && eqB x.post t.post)) ∧ ((eqB x.pre t.pre) = (!true) →
 false = (decide (x.act = p.num) && eqB x.pre t.pre && eqB x.post t.post)))) ∧ ((decide (x.act = p.num)) = (!true) →
 ((false = true →
 (eqB x.post t.post) = (decide (x.act = p.num) && eqB x.pre t.pre && eqB x.post t.post)) ∧ (false = (!true) →
 false = (decide (x.act = p.num) && eqB x.pre t.pre && eqB x.post t.post)))))))) := by kernel_rfl
theorem ok_impl_isRight_1 (hE : AllGood [k_impl_SameExpr]) : Ctr.Good k_impl_isRight_1 := by
 refine ⟨fnOk_of at_impl_isRight_1 rfl (by decide), ?_⟩
 show ∀ (x : GPremise) (p : GProg) (t : GTriple), True → OkCall prog n_impl_isRight_1 [.val ⟨(.st .premise), x⟩, .ref ⟨(.st .prog), p⟩, .ref ⟨(.st .triple), t⟩] (· = [⟨.bool, decide (x.act = p.num) && eqB x.pre t.pre && eqB x.post t.post⟩])
 intro x p t _
 refine ok_of_awp (wr := []) (cl := []) (ro := [3]) hE at_impl_isRight_1 body_impl_isRight_1 (l_impl_isRight_1 x p t) ?_
 rewrite [vc_impl_isRight_1 x p t]
 refine fun a0 => fun a1 => ⟨fun a2 => ⟨fun a3 => ?_, fun a3 => ?_⟩, fun a2 => ⟨fun a3 => ?_, fun a3 => ?_⟩⟩
 all_goals try and_intros
 all_goals first | rfl | trivial | grind
theorem good_impl_isRight_1 : Ctr.Good k_impl_isRight_1 := ok_impl_isRight_1 ⟨good_impl_SameExpr, trivial⟩
theorem tog_any (x y : Int) (ks : List GDerivation) : ks.any (fun k => (F_impl_isTogether_1 x y k).2) = ks.any (togK x y) := rfl
theorem tog_ask (x y : Int) (ks : List GDerivation) (h : allL gdK ks = true) (hx : 0 ≤ x ∧ x ≤ 4096) (hy : 0 ≤ y ∧ y ≤ 4096) : askA (F_impl_isTogether_1 x y) zD ks := fun i hi => ⟨all_getD gdK zD ks i hi h, hx, hy⟩
theorem giv_any (xs : List GPremise) (t : GTriple) : xs.any (fun x => (F_impl_isRight_1 t.prog t x).2) = givB xs t := rfl
theorem giv_ask (xs : List GPremise) (p : GProg) (t : GTriple) : askA (F_impl_isRight_1 p t) (GPremise.mk zE (0 : Int) zE) xs := fun i hi => trivial
theorem map_kn (r : Int) : Option.getD ((mput (mput (mput (mnone Int Int) (5 : Int) (2 : Int)) (6 : Int) (2 : Int)) (7 : Int) (1 : Int)) r) (0 : Int) = kn r := by
 simp only [mput, mnone, kn]
 repeat' split
 all_goals first | rfl | omega
theorem map_some (r : Int) : Option.isSome ((mput (mput (mput (mput (mput (mput (mput (mnone Int Int) (1 : Int) (1 : Int)) (2 : Int) (2 : Int)) (3 : Int) (3 : Int)) (4 : Int) (4 : Int)) (5 : Int) (5 : Int)) (6 : Int) (6 : Int)) (7 : Int) (7 : Int)) r) = decide (1 ≤ r ∧ r ≤ 7) := by
 simp only [mput, mnone]
 repeat' split
 all_goals simp
 all_goals omega
theorem map_at (r : Int) (h : 1 ≤ r ∧ r ≤ 7) : Option.getD ((mput (mput (mput (mput (mput (mput (mput (mnone Int Int) (1 : Int) (1 : Int)) (2 : Int) (2 : Int)) (3 : Int) (3 : Int)) (4 : Int) (4 : Int)) (5 : Int) (5 : Int)) (6 : Int) (6 : Int)) (7 : Int) (7 : Int)) r) (0 : Int) = r := by
 simp only [mput, mnone]
 repeat' split
 all_goals first | (simp; omega) | omega
theorem rule_says (gg : GSig) (d : GDerivation) (h : gdK d = true) : goodC d.says.pre = true ∧ goodC d.says.post = true := by
 rw [gdK_eq, Bool.and_eq_true] at h
 exact h
theorem okT_gd (gg : GSig) (k : GDerivation) (h : okT gg k.says = true) : gdK k = true := by
 have := okT_trF gg k.says h
 rw [gdK_eq, this.pre.2, this.post.2]; rfl
theorem allN_zero (p : Nat → Bool) : allN p 0 = true := rfl
def k_impl_isTogether : Ctr := ⟨n_impl_isTogether, [.v (.st .sig), .v (.st .derivation)], fun (gg : GSig) (d : GDerivation) => ⟨(some (sigOk gg = true ∧ gdK d = true ∧ allL gdK d.kids = true), [⟨.bool, togB gg d⟩])⟩⟩
def l_impl_isTogether (gg : GSig) (d : GDerivation) : Nat → LoopInv := (fun zb => if Nat.beq zb 0 then .mk (Nat) (fun k => k ≤ d.kids.length ∧ allL (sameP d.says.prog) (d.kids.take k) = true) (fun k => d.kids.length - k) [] [0, 1, 5, 9] (fun k => [(12, .imm ⟨(.int .i64), ((k : Int) : Int)⟩)]) [2, 3, 4, 6, 7, 8, 10, 11, 12, 13, 14, 15, 16, 17, 18, 19, 20, 21, 22, 23, 24, 25, 26, 27, 28, 29, 30, 31, 32, 33, 34, 35, 36, 37, 38, 39, 40, 41, 42, 43, 44, 45, 46, 47, 48, 49, 50, 51, 52, 53, 54, 55, 56] (fun k => []) [] [] (fun k => fun _ => .none) else if Nat.beq zb 2 then .mk (Nat) (fun x => x ≤ (atomsN gg).toNat ∧ allN (togR d (atomsN gg).toNat) x = true ∧ allL (sameP d.says.prog) d.kids = true) (fun x => (atomsN gg).toNat - x) [] [0, 1, 5, 6, 9, 10, 11, 12, 13, 14, 15, 16, 17, 18, 19, 20, 21, 22, 23, 24, 25] (fun x => [(27, .imm ⟨(.int .i64), ((x : Int) : Int)⟩)]) [2, 3, 4, 7, 8, 26, 27, 28, 29, 30, 31, 32, 33, 34, 35, 36, 37, 38, 39, 40, 41, 42, 43, 44, 45, 46, 47, 48, 49, 50, 51, 52, 53, 54, 55, 56] (fun x => []) [] [] (fun x => (fun zb => if Nat.beq zb 4 then .mk (Nat) (fun y => y ≤ (atomsN gg).toNat ∧ allN (togA d x) y = true ∧ (x : Int) < atomsN gg) (fun y => (atomsN gg).toNat - y) [] [0, 1, 5, 6, 9, 10, 11, 12, 13, 14, 15, 16, 17, 18, 19, 20, 21, 22, 23, 24, 25] (fun y => [(32, .imm ⟨(.int .i64), ((y : Int) : Int)⟩)]) [2, 3, 4, 7, 8, 26, 27, 28, 29, 30, 31, 32, 33, 34, 35, 36, 37, 38, 39, 40, 41, 42, 43, 44, 45, 46, 47, 48, 49, 50, 51, 52, 53, 54, 55, 56] (fun y => []) [] [] (fun y => fun _ => .none) else .none)) else .none)
abbrev j_impl_isTogether_0 (gg : GSig) (d : GDerivation) (x2 : Nat) (y3 : Nat) : Prop := (inI64 ((y3 : Int) + (1 : Int)) ∧ (∃ y4 : Nat, ((y4 ≤ (atomsN gg).toNat ∧ allN (togA d x2) y4 = true ∧ (x2 : Int) < atomsN gg) ∧ ((atomsN gg).toNat - y4 < (atomsN gg).toNat - y3 ∧ ((gg = gg ∧ (d = d ∧ (True ∧ ((atomsN gg) = (atomsN gg) ∧ ((x2 : Int) = (x2 : Int) ∧ ((decide ((x2 : Int) < (atomsN gg))) = (decide ((x2 : Int) < (atomsN gg))) ∧ ((x2 : Int) = (x2 : Int) ∧ (gg = gg ∧ ((atomsN gg) = (atomsN gg) ∧ (((y3 : Int) + (1 : Int)) = (y4 : Int) ∧ True)))))))))) ∧ (((x2 : Int) = (x2 : Int) ∧ True) ∧ True))))))
abbrev j_impl_isTogether_1 (gg : GSig) (d : GDerivation) (x2 : Nat) (y3 : Nat) : Prop := (d.kids.length ≤ 140737488355328 →
 (askA (F_impl_isTogether_1 (x2 : Int) (y3 : Int)) zD d.kids ∧ (((!(d.kids.any (fun x => ((F_impl_isTogether_1 (x2 : Int) (y3 : Int)) x).2))) = true →
 false = (togB gg d)) ∧ ((!(d.kids.any (fun x => ((F_impl_isTogether_1 (x2 : Int) (y3 : Int)) x).2))) = false →
 (j_impl_isTogether_0 gg d x2 y3)))))
theorem vc_impl_isTogether (gg : GSig) (d : GDerivation) : awp (envOf [k_impl_SameProg, k_impl_atomsIn, k_impl_truth, k_slices_ContainsFunc_Derivation, k_impl_isTogether_1] [] [q_impl_isTogether_1] [2, 3]) (bodyOf f_impl_isTogether) (l_impl_isTogether gg d) 0 (funPost (envOf [k_impl_SameProg, k_impl_atomsIn, k_impl_truth, k_slices_ContainsFunc_Derivation, k_impl_isTogether_1] [] [q_impl_isTogether_1] [2, 3]) f_impl_isTogether fun r => areEq r [⟨.bool, togB gg d⟩]) (startState f_impl_isTogether [.val ⟨(.st .sig), gg⟩, .val ⟨(.st .derivation), d⟩]) =
 ((d.kids.length ≤ 140737488355328 →
 (inI64 ((d.kids.length : Int)) →
 ((∃ k1 : Nat, ((k1 ≤ d.kids.length ∧ allL (sameP d.says.prog) (d.kids.take k1) = true) ∧ ((gg = gg ∧ (d = d ∧ (d.kids = d.kids ∧ (((d.kids.length : Int)) = ((d.kids.length : Int)) ∧ ((0 : Int) = (k1 : Int) ∧ True))))) ∧ True))) ∧ (∀ k1 : Nat, ((k1 ≤ d.kids.length ∧ allL (sameP d.says.prog) (d.kids.take k1) = true) →
 (((decide ((k1 : Int) < ((d.kids.length : Int)))) = true →
 (idxOk (k1 : Int) d.kids.length ∧ (((!(eqB (e_prog (d.kids.getD k1 zD).says.prog) d.says.prog)) = true →
 false = (togB gg d)) ∧ ((!(eqB (e_prog (d.kids.getD k1 zD).says.prog) d.says.prog)) = false →
 (inI64 ((k1 : Int) + (1 : Int)) ∧ (∃ k2 : Nat, ((k2 ≤ d.kids.length ∧ allL (sameP d.says.prog) (d.kids.take k2) = true) ∧ (d.kids.length - k2 < d.kids.length - k1 ∧ ((gg = gg ∧ (d = d ∧ (d.kids = d.kids ∧ (((d.kids.length : Int)) = ((d.kids.length : Int)) ∧ (((k1 : Int) + (1 : Int)) = (k2 : Int) ∧ True))))) ∧ True))))))))) ∧ ((decide ((k1 : Int) < ((d.kids.length : Int)))) = false →
 ((0 ≤ gg.tests ∧ gg.tests ≤ 3) ∧ (inI64 (atomsN gg) →
 ((∃ x2 : Nat, ((x2 ≤ (atomsN gg).toNat ∧ allN (togR d (atomsN gg).toNat) x2 = true ∧ allL (sameP d.says.prog) d.kids = true) ∧ ((gg = gg ∧ (d = d ∧ ((atomsN gg) = (atomsN gg) ∧ ((0 : Int) = (x2 : Int) ∧ True)))) ∧ True))) ∧ (∀ x2 : Nat, ((x2 ≤ (atomsN gg).toNat ∧ allN (togR d (atomsN gg).toNat) x2 = true ∧ allL (sameP d.says.prog) d.kids = true) →
 (((decide ((x2 : Int) < (atomsN gg))) = true →
 ((0 ≤ gg.tests ∧ gg.tests ≤ 3) ∧ (inI64 (atomsN gg) →
 ((∃ y3 : Nat, ((y3 ≤ (atomsN gg).toNat ∧ allN (togA d x2) y3 = true ∧ (x2 : Int) < atomsN gg) ∧ ((gg = gg ∧ (d = d ∧ (True ∧ ((atomsN gg) = (atomsN gg) ∧ ((x2 : Int) = (x2 : Int) ∧ ((decide ((x2 : Int) < (atomsN gg))) = (decide ((x2 : Int) < (atomsN gg))) ∧ ((x2 : Int) = (x2 : Int) ∧ (gg = gg ∧ ((atomsN gg) = (atomsN gg) ∧ ((0 : Int) = (y3 : Int) ∧ True)))))))))) ∧ (((x2 : Int) = (x2 : Int) ∧ True) ∧ True)))) ∧ (∀ y3 : Nat, ((y3 ≤ (atomsN gg).toNat ∧ allN (togA d x2) y3 = true ∧ (x2 : Int) < atomsN gg) →
 (((decide ((y3 : Int) < (atomsN gg))) = true →
 (inI64 (x2 : Int) →
 ((goodC d.says.pre = true ∧ 0 ≤ (x2 : Int) ∧ (x2 : Int) ≤ 4096) ∧ (((truE (x2 : Int) d.says.pre) = true →
 (inI64 (y3 : Int) →
 ((goodC d.says.post = true ∧ 0 ≤ (y3 : Int) ∧ (y3 : Int) ≤ 4096) ∧ (((!(truE (y3 : Int) d.says.post)) = true →
 (j_impl_isTogether_1 gg d x2 y3)) ∧ ((!(truE (y3 : Int) d.says.post)) = (!true) →
 ((false = true →
 false = (togB gg d)) ∧ (false = false →
 (j_impl_isTogether_0 gg d x2 y3)))))))) ∧ ((truE (x2 : Int) d.says.pre) = (!true) →
 ((false = true →
 (j_impl_isTogether_1 gg d x2 y3)) ∧ (false = (!true) →
 ((false = true →
 false = (togB gg d)) ∧ (false = false →
 (j_impl_isTogether_0 gg d x2 y3)))))))))) ∧ ((decide ((y3 : Int) < (atomsN gg))) = false →
 (inI64 ((x2 : Int) + (1 : Int)) ∧ (∃ x4 : Nat, ((x4 ≤ (atomsN gg).toNat ∧ allN (togR d (atomsN gg).toNat) x4 = true ∧ allL (sameP d.says.prog) d.kids = true) ∧ ((atomsN gg).toNat - x4 < (atomsN gg).toNat - x2 ∧ ((gg = gg ∧ (d = d ∧ ((atomsN gg) = (atomsN gg) ∧ (((x2 : Int) + (1 : Int)) = (x4 : Int) ∧ True)))) ∧ True))))))))))))) ∧ ((decide ((x2 : Int) < (atomsN gg))) = false →
 true = (togB gg d)))))))))))))))) := by kernel_rfl
theorem ok_impl_isTogether (hE : AllGood [k_impl_SameProg, k_impl_atomsIn, k_impl_truth, k_slices_ContainsFunc_Derivation, k_impl_isTogether_1]) : Ctr.Good k_impl_isTogether := by
 refine ⟨fnOk_of at_impl_isTogether rfl (by decide), ?_⟩
 show ∀ (gg : GSig) (d : GDerivation), (sigOk gg = true ∧ gdK d = true ∧ allL gdK d.kids = true) → OkCall prog n_impl_isTogether [.val ⟨(.st .sig), gg⟩, .val ⟨(.st .derivation), d⟩] (· = [⟨.bool, togB gg d⟩])
 intro gg d hp
 refine ok_of_awp (wr := []) (cl := [q_impl_isTogether_1]) (ro := [2, 3]) hE at_impl_isTogether body_impl_isTogether (l_impl_isTogether gg d) ?_
 rewrite [vc_impl_isTogether gg d]
 have fs := (sigOk_iff gg).1 hp.1
 have fa := atomsN_le gg fs.1
 have fg := rule_says gg d hp.2.1
 have f0 := all_zero (sameP d.says.prog) d.kids
 have f1 := togB_eq gg d
 have f2 := allN_zero (togR d (atomsN gg).toNat)
 have f3 := hp.2.2
 refine fun a0 => fun a1 => ⟨⟨0, ⟨?_, ⟨⟨rfl, ⟨rfl, ⟨rfl, ⟨rfl, ⟨?_, trivial⟩⟩⟩⟩⟩, trivial⟩⟩⟩, fun k1 a2 => have b2x0 := all_take (sameP d.says.prog) zD d.kids k1; have b2x1 := all_bad (sameP d.says.prog) zD d.kids k1; have b2x2 := all_done (sameP d.says.prog) d.kids k1; have b2x3 := sameP_eq d.says.prog (d.kids.getD k1 zD); ⟨fun a3 => ⟨?_, ⟨fun a4 => ?_, fun a4 => ⟨?_, ⟨k1 + 1, ⟨?_, ⟨?_, ⟨⟨rfl, ⟨rfl, ⟨rfl, ⟨rfl, ⟨?_, trivial⟩⟩⟩⟩⟩, trivial⟩⟩⟩⟩⟩⟩⟩, fun a3 => ⟨?_, fun a4 => ⟨⟨0, ⟨?_, ⟨⟨rfl, ⟨rfl, ⟨rfl, ⟨?_, trivial⟩⟩⟩⟩, trivial⟩⟩⟩, fun x2 a5 => have b5x0 := allN_succ (togR d (atomsN gg).toNat) x2; have b5x1 := allN_bad (togR d (atomsN gg).toNat) (atomsN gg).toNat x2; have b5x2 := togR_eq d (atomsN gg).toNat x2; have b5x3 := allN_zero (togA d x2); ⟨fun a6 => ⟨?_, fun a7 => ⟨⟨0, ⟨?_, ⟨⟨rfl, ⟨rfl, ⟨trivial, ⟨rfl, ⟨rfl, ⟨rfl, ⟨rfl, ⟨rfl, ⟨rfl, ⟨?_, trivial⟩⟩⟩⟩⟩⟩⟩⟩⟩⟩, ⟨⟨rfl, trivial⟩, trivial⟩⟩⟩⟩, fun y3 a8 => have b8x0 := allN_succ (togA d x2) y3; have b8x1 := allN_bad (togA d x2) (atomsN gg).toNat y3; have b8x2 := togA_eq d x2 y3; have b8x3 := tog_any (x2 : Int) (y3 : Int) d.kids; have b8x4 := tog_ask (x2 : Int) (y3 : Int) d.kids; ⟨fun a9 => fun a10 => ⟨?_, ⟨fun a11 => fun a12 => ⟨?_, ⟨fun a13 => fun a14 => ⟨?_, ⟨fun a15 => ?_, fun a15 => ⟨?_, ⟨y3 + 1, ⟨?_, ⟨?_, ⟨⟨rfl, ⟨rfl, ⟨trivial, ⟨rfl, ⟨rfl, ⟨rfl, ⟨rfl, ⟨rfl, ⟨rfl, ⟨?_, trivial⟩⟩⟩⟩⟩⟩⟩⟩⟩⟩, ⟨⟨rfl, trivial⟩, trivial⟩⟩⟩⟩⟩⟩⟩⟩, fun a13 => ⟨fun a14 => ?_, fun a14 => ⟨?_, ⟨y3 + 1, ⟨?_, ⟨?_, ⟨⟨rfl, ⟨rfl, ⟨trivial, ⟨rfl, ⟨rfl, ⟨rfl, ⟨rfl, ⟨rfl, ⟨rfl, ⟨?_, trivial⟩⟩⟩⟩⟩⟩⟩⟩⟩⟩, ⟨⟨rfl, trivial⟩, trivial⟩⟩⟩⟩⟩⟩⟩⟩⟩, fun a11 => ⟨fun a12 => fun a13 => ⟨?_, ⟨fun a14 => ?_, fun a14 => ⟨?_, ⟨y3 + 1, ⟨?_, ⟨?_, ⟨⟨rfl, ⟨rfl, ⟨trivial, ⟨rfl, ⟨rfl, ⟨rfl, ⟨rfl, ⟨rfl, ⟨rfl, ⟨?_, trivial⟩⟩⟩⟩⟩⟩⟩⟩⟩⟩, ⟨⟨rfl, trivial⟩, trivial⟩⟩⟩⟩⟩⟩⟩⟩, fun a12 => ⟨fun a13 => ?_, fun a13 => ⟨?_, ⟨y3 + 1, ⟨?_, ⟨?_, ⟨⟨rfl, ⟨rfl, ⟨trivial, ⟨rfl, ⟨rfl, ⟨rfl, ⟨rfl, ⟨rfl, ⟨rfl, ⟨?_, trivial⟩⟩⟩⟩⟩⟩⟩⟩⟩⟩, ⟨⟨rfl, trivial⟩, trivial⟩⟩⟩⟩⟩⟩⟩⟩⟩⟩, fun a9 => ⟨?_, ⟨x2 + 1, ⟨?_, ⟨?_, ⟨⟨rfl, ⟨rfl, ⟨rfl, ⟨?_, trivial⟩⟩⟩⟩, trivial⟩⟩⟩⟩⟩⟩⟩⟩, fun a6 => ?_⟩⟩⟩⟩⟩
 all_goals try and_intros
 all_goals try simp only [GExpr.eta, GProg.eta, GDerivation.eta, GTriple.eta, GPremise.eta, GClaim.eta, GEquation.eta, GPair.eta, GSpot.eta, e_expr_eq, e_pair_eq, e_equation_eq, e_claim_eq, e_prog_eq, e_spot_eq, e_triple_eq, e_premise_eq, e_derivation_eq] at *
 all_goals first | rfl | trivial | omega | (simp only [decide_eq_true_eq, decide_eq_false_iff_not, Bool.not_eq_false', Bool.not_eq_true', idxOk, inI64] at *; first | omega | grind) | grind [idxOk, inI64]
theorem good_impl_isTogether : Ctr.Good k_impl_isTogether := ok_impl_isTogether ⟨good_impl_SameProg, good_impl_atomsIn, good_impl_truth, good_slices_ContainsFunc_Derivation, good_impl_isTogether_1, trivial⟩
def k_impl_isRight : Ctr := ⟨n_impl_isRight, [.v (.st .sig), .v (.slice (.st .premise)), .v (.st .derivation)], fun (gg : GSig) (xs : List GPremise) (d : GDerivation) => ⟨(some (allL gdK d.kids = true), [⟨.bool, rightB gg xs d⟩])⟩⟩
def l_impl_isRight (gg : GSig) (xs : List GPremise) (d : GDerivation) : Nat → LoopInv := fun _ => .none
abbrev j_impl_isRight_0 (gg : GSig) (xs : List GPremise) (d : GDerivation) : Prop := (inI64 d.rule →
 (((decide (d.rule = (1 : Int))) = true →
 (eqB (e_expr d.says.pre) (e_expr d.says.post)) = (rightB gg xs d)) ∧ ((decide (d.rule = (1 : Int))) = false →
 (((decide (d.rule = (3 : Int))) = true →
 (askA (F_impl_isRight_1 (e_prog d.says.prog) (e_triple d.says)) (GPremise.mk zE (0 : Int) zE) xs ∧ (xs.any (fun x => ((F_impl_isRight_1 (e_prog d.says.prog) (e_triple d.says)) x).2)) = (rightB gg xs d))) ∧ ((decide (d.rule = (3 : Int))) = false →
 (((decide (d.rule = (4 : Int))) = true →
 (((7 : Nat) = 7 ∧ (0 : Nat) = 0) ∧ ((d.says.pre.kind = d.says.pre.kind ∧ (d.says.pre.num = d.says.pre.num ∧ (d.says.pre.kids = d.says.pre.kids ∧ True))) ∧ (((8 : Nat) = 8 ∧ (2 : Nat) = 2) ∧ ((d.says.prog.cond.kind = d.says.prog.cond.kind ∧ (d.says.prog.cond.num = d.says.prog.cond.num ∧ (d.says.prog.cond.kids = d.says.prog.cond.kids ∧ True))) ∧ (((7 : Nat) = 7 ∧ (9 : Nat) = 9) ∧ ((d.says.post.kind = d.says.post.kind ∧ (d.says.post.num = d.says.post.num ∧ (d.says.post.kids = d.says.post.kids ∧ True))) ∧ (((7 : Nat) = 7 ∧ (0 : Nat) = 0) ∧ ((d.says.pre.kind = d.says.pre.kind ∧ (d.says.pre.num = d.says.pre.num ∧ (d.says.pre.kids = d.says.pre.kids ∧ True))) ∧ (((7 : Nat) = 7 ∧ (9 : Nat) = 9) ∧ ((d.says.post.kind = d.says.post.kind ∧ (d.says.post.num = d.says.post.num ∧ (d.says.post.kids = d.says.post.kids ∧ True))) ∧ (((7 : Nat) = 7 ∧ (0 : Nat) = 0) ∧ ((d.says.pre.kind = d.says.pre.kind ∧ (d.says.pre.num = d.says.pre.num ∧ (d.says.pre.kids = d.says.pre.kids ∧ True))) ∧ (((7 : Nat) = 7 ∧ (0 : Nat) = 0) ∧ ((d.says.pre.kind = d.says.pre.kind ∧ (d.says.pre.num = d.says.pre.num ∧ (d.says.pre.kids = d.says.pre.kids ∧ True))) ∧ (eqB (e_expr d.says.pre) (GExpr.mk (6 : Int) 0 ([(notE (e_expr d.says.prog.cond)), (e_expr d.says.post)]))) = (rightB gg xs d)))))))))))))))) ∧ ((decide (d.rule = (4 : Int))) = false →
 (((decide (d.rule = (5 : Int))) = true →
 (d.kids.length ≤ 140737488355328 →
 (idxOk (0 : Int) d.kids.length ∧ (idxOk (0 : Int) d.kids.length ∧ (idxOk (0 : Int) d.says.prog.kids.length ∧ (((sayB (d.kids.getD 0 zD).says (e_expr d.says.pre) (d.says.prog.kids.getD 0 zP) (e_expr (d.kids.getD 0 zD).says.post)) = true →
 (idxOk (1 : Int) d.kids.length ∧ (idxOk (1 : Int) d.says.prog.kids.length ∧ (d.kids.length ≤ 140737488355328 →
 (d.says.prog.kids.length ≤ 140737488355328 →
 (d.kids.length ≤ 140737488355328 →
 (d.says.prog.kids.length ≤ 140737488355328 →
 (sayB (d.kids.getD 1 zD).says (e_expr (d.kids.getD 0 zD).says.post) (d.says.prog.kids.getD 1 zP) (e_expr d.says.post)) = (rightB gg xs d)))))))) ∧ ((sayB (d.kids.getD 0 zD).says (e_expr d.says.pre) (d.says.prog.kids.getD 0 zP) (e_expr (d.kids.getD 0 zD).says.post)) = (!true) →
 (d.kids.length ≤ 140737488355328 →
 (d.says.prog.kids.length ≤ 140737488355328 →
 false = (rightB gg xs d)))))))))) ∧ ((decide (d.rule = (5 : Int))) = false →
 (((decide (d.rule = (6 : Int))) = true →
 (idxOk (0 : Int) d.kids.length ∧ (idxOk (0 : Int) d.says.prog.kids.length ∧ (((sayB (d.kids.getD 0 zD).says (bothE (e_expr d.says.prog.cond) (e_expr d.says.pre)) (d.says.prog.kids.getD 0 zP) (e_expr d.says.post)) = true →
 (idxOk (1 : Int) d.kids.length ∧ (idxOk (1 : Int) d.says.prog.kids.length ∧ (d.kids.length ≤ 140737488355328 →
 (d.says.prog.kids.length ≤ 140737488355328 →
 (d.kids.length ≤ 140737488355328 →
 (d.says.prog.kids.length ≤ 140737488355328 →
 (sayB (d.kids.getD 1 zD).says (bothE (notE (e_expr d.says.prog.cond)) (e_expr d.says.pre)) (d.says.prog.kids.getD 1 zP) (e_expr d.says.post)) = (rightB gg xs d)))))))) ∧ ((sayB (d.kids.getD 0 zD).says (bothE (e_expr d.says.prog.cond) (e_expr d.says.pre)) (d.says.prog.kids.getD 0 zP) (e_expr d.says.post)) = (!true) →
 (d.kids.length ≤ 140737488355328 →
 (d.says.prog.kids.length ≤ 140737488355328 →
 false = (rightB gg xs d)))))))) ∧ ((decide (d.rule = (6 : Int))) = false →
 (((decide (d.rule = (7 : Int))) = true →
 (((eqB (e_expr d.says.post) (bothE (notE (e_expr d.says.prog.cond)) (e_expr d.says.pre))) = true →
 (idxOk (0 : Int) d.kids.length ∧ (idxOk (0 : Int) d.says.prog.kids.length ∧ (d.kids.length ≤ 140737488355328 →
 (d.says.prog.kids.length ≤ 140737488355328 →
 (sayB (d.kids.getD 0 zD).says (bothE (e_expr d.says.prog.cond) (e_expr d.says.pre)) (d.says.prog.kids.getD 0 zP) (e_expr d.says.pre)) = (rightB gg xs d)))))) ∧ ((eqB (e_expr d.says.post) (bothE (notE (e_expr d.says.prog.cond)) (e_expr d.says.pre))) = (!true) →
 false = (rightB gg xs d)))) ∧ ((decide (d.rule = (7 : Int))) = false →
 true = (rightB gg xs d))))))))))))))
abbrev j_impl_isRight_1 (gg : GSig) (xs : List GPremise) (d : GDerivation) : Prop := (d.kids.length ≤ 140737488355328 →
 (inI64 ((d.kids.length : Int)) →
 (((!(decide (((d.kids.length : Int)) = (Option.getD (((mput (mput (mput (mnone Int Int) (5 : Int) (2 : Int)) (6 : Int) (2 : Int)) (7 : Int) (1 : Int)) d.rule)) (0 : Int))))) = true →
 false = (rightB gg xs d)) ∧ ((!(decide (((d.kids.length : Int)) = (Option.getD (((mput (mput (mput (mnone Int Int) (5 : Int) (2 : Int)) (6 : Int) (2 : Int)) (7 : Int) (1 : Int)) d.rule)) (0 : Int))))) = false →
 (j_impl_isRight_0 gg xs d)))))
theorem vc_impl_isRight (gg : GSig) (xs : List GPremise) (d : GDerivation) : awp (envO [k_impl_ValidTriple, k_impl_isTogether, k_impl_SameExpr, k_slices_ContainsFunc_Premise, k_impl_isRight_1, k_impl_tree, k_impl_not, k_impl_both, k_impl_Triple_says] [] [] [82] [] [q_impl_isRight_1] [3, 5]) (bodyOf f_impl_isRight) (l_impl_isRight gg xs d) 0 (funPost (envO [k_impl_ValidTriple, k_impl_isTogether, k_impl_SameExpr, k_slices_ContainsFunc_Premise, k_impl_isRight_1, k_impl_tree, k_impl_not, k_impl_both, k_impl_Triple_says] [] [] [82] [] [q_impl_isRight_1] [3, 5]) f_impl_isRight fun r => areEq r [⟨.bool, rightB gg xs d⟩]) (startState f_impl_isRight [.val ⟨(.st .sig), gg⟩, .val ⟨(.slice (.st .premise)), xs⟩, .val ⟨(.st .derivation), d⟩]) =
 ((((!(okT gg d.says)) = true →
 false = (rightB gg xs d)) ∧ ((!(okT gg d.says)) = false →
 (d.says = d.says ∧ (d.says = d.says ∧ (d.says = d.says ∧ (d.says.prog = d.says.prog ∧ (d.says.prog = d.says.prog ∧ (d.says = d.says ∧ (d.says = d.says ∧ (d.says = d.says ∧ (d.says.prog = d.says.prog ∧ (d.says.prog = d.says.prog ∧ (d.says = d.says ∧ (d.says = d.says ∧ (d.says = d.says ∧ (d.says.prog = d.says.prog ∧ (d.says.prog = d.says.prog ∧ (d.says = d.says ∧ (d.says.prog = d.says.prog ∧ (d.says.prog = d.says.prog ∧ (0 < 1000000000 ∧ ((mlen (((mnone Int Int) (1 : Int))) 0) < 1000000000 ∧ ((mlen (((mput (mnone Int Int) (1 : Int) (1 : Int)) (2 : Int))) (mlen (((mnone Int Int) (1 : Int))) 0)) < 1000000000 ∧ ((mlen (((mput (mput (mnone Int Int) (1 : Int) (1 : Int)) (2 : Int) (2 : Int)) (3 : Int))) (mlen (((mput (mnone Int Int) (1 : Int) (1 : Int)) (2 : Int))) (mlen (((mnone Int Int) (1 : Int))) 0))) < 1000000000 ∧ ((mlen (((mput (mput (mput (mnone Int Int) (1 : Int) (1 : Int)) (2 : Int) (2 : Int)) (3 : Int) (3 : Int)) (4 : Int))) (mlen (((mput (mput (mnone Int Int) (1 : Int) (1 : Int)) (2 : Int) (2 : Int)) (3 : Int))) (mlen (((mput (mnone Int Int) (1 : Int) (1 : Int)) (2 : Int))) (mlen (((mnone Int Int) (1 : Int))) 0)))) < 1000000000 ∧ ((mlen (((mput (mput (mput (mput (mnone Int Int) (1 : Int) (1 : Int)) (2 : Int) (2 : Int)) (3 : Int) (3 : Int)) (4 : Int) (4 : Int)) (5 : Int))) (mlen (((mput (mput (mput (mnone Int Int) (1 : Int) (1 : Int)) (2 : Int) (2 : Int)) (3 : Int) (3 : Int)) (4 : Int))) (mlen (((mput (mput (mnone Int Int) (1 : Int) (1 : Int)) (2 : Int) (2 : Int)) (3 : Int))) (mlen (((mput (mnone Int Int) (1 : Int) (1 : Int)) (2 : Int))) (mlen (((mnone Int Int) (1 : Int))) 0))))) < 1000000000 ∧ ((mlen (((mput (mput (mput (mput (mput (mnone Int Int) (1 : Int) (1 : Int)) (2 : Int) (2 : Int)) (3 : Int) (3 : Int)) (4 : Int) (4 : Int)) (5 : Int) (5 : Int)) (6 : Int))) (mlen (((mput (mput (mput (mput (mnone Int Int) (1 : Int) (1 : Int)) (2 : Int) (2 : Int)) (3 : Int) (3 : Int)) (4 : Int) (4 : Int)) (5 : Int))) (mlen (((mput (mput (mput (mnone Int Int) (1 : Int) (1 : Int)) (2 : Int) (2 : Int)) (3 : Int) (3 : Int)) (4 : Int))) (mlen (((mput (mput (mnone Int Int) (1 : Int) (1 : Int)) (2 : Int) (2 : Int)) (3 : Int))) (mlen (((mput (mnone Int Int) (1 : Int) (1 : Int)) (2 : Int))) (mlen (((mnone Int Int) (1 : Int))) 0)))))) < 1000000000 ∧ (inI64 d.rule →
 (((decide (d.rule = (8 : Int))) = true →
 ((sigOk gg = true ∧ gdK d = true ∧ allL gdK d.kids = true) ∧ (togB gg d) = (rightB gg xs d))) ∧ ((decide (d.rule = (8 : Int))) = false →
 (0 < 1000000000 ∧ ((mlen (((mnone Int Int) (5 : Int))) 0) < 1000000000 ∧ ((mlen (((mput (mnone Int Int) (5 : Int) (2 : Int)) (6 : Int))) (mlen (((mnone Int Int) (5 : Int))) 0)) < 1000000000 ∧ (inI64 d.rule →
 (inI64 d.rule →
 (inI64 (Option.getD (((mput (mput (mput (mput (mput (mput (mput (mnone Int Int) (1 : Int) (1 : Int)) (2 : Int) (2 : Int)) (3 : Int) (3 : Int)) (4 : Int) (4 : Int)) (5 : Int) (5 : Int)) (6 : Int) (6 : Int)) (7 : Int) (7 : Int)) d.rule)) (0 : Int)) →
 (((!(Option.isSome (((mput (mput (mput (mput (mput (mput (mput (mnone Int Int) (1 : Int) (1 : Int)) (2 : Int) (2 : Int)) (3 : Int) (3 : Int)) (4 : Int) (4 : Int)) (5 : Int) (5 : Int)) (6 : Int) (6 : Int)) (7 : Int) (7 : Int)) d.rule)))) = false →
 (inI64 d.says.prog.kind →
 (((!(decide (d.says.prog.kind = (Option.getD (((mput (mput (mput (mput (mput (mput (mput (mnone Int Int) (1 : Int) (1 : Int)) (2 : Int) (2 : Int)) (3 : Int) (3 : Int)) (4 : Int) (4 : Int)) (5 : Int) (5 : Int)) (6 : Int) (6 : Int)) (7 : Int) (7 : Int)) d.rule)) (0 : Int))))) = false →
 (j_impl_isRight_1 gg xs d)) ∧ ((!(decide (d.says.prog.kind = (Option.getD (((mput (mput (mput (mput (mput (mput (mput (mnone Int Int) (1 : Int) (1 : Int)) (2 : Int) (2 : Int)) (3 : Int) (3 : Int)) (4 : Int) (4 : Int)) (5 : Int) (5 : Int)) (6 : Int) (6 : Int)) (7 : Int) (7 : Int)) d.rule)) (0 : Int))))) = (!false) →
 ((true = true →
 false = (rightB gg xs d)) ∧ (true = false →
 (j_impl_isRight_0 gg xs d))))))) ∧ ((!(Option.isSome (((mput (mput (mput (mput (mput (mput (mput (mnone Int Int) (1 : Int) (1 : Int)) (2 : Int) (2 : Int)) (3 : Int) (3 : Int)) (4 : Int) (4 : Int)) (5 : Int) (5 : Int)) (6 : Int) (6 : Int)) (7 : Int) (7 : Int)) d.rule)))) = (!false) →
 ((true = false →
 (j_impl_isRight_1 gg xs d)) ∧ (true = (!false) →
 ((true = true →
 false = (rightB gg xs d)) ∧ (true = false →
 (j_impl_isRight_0 gg xs d)))))))))))))))))))))))))))))))))))))))))))) := by kernel_rfl
theorem ok_impl_isRight (hE : AllGood [k_impl_ValidTriple, k_impl_isTogether, k_impl_SameExpr, k_slices_ContainsFunc_Premise, k_impl_isRight_1, k_impl_tree, k_impl_not, k_impl_both, k_impl_Triple_says]) (hO : AllO []) (hM : AllM []) (hS : AllS []) : Ctr.Good k_impl_isRight := by
 refine ⟨fnOk_of at_impl_isRight rfl (by decide), ?_⟩
 show ∀ (gg : GSig) (xs : List GPremise) (d : GDerivation), (allL gdK d.kids = true) → OkCall prog n_impl_isRight [.val ⟨(.st .sig), gg⟩, .val ⟨(.slice (.st .premise)), xs⟩, .val ⟨(.st .derivation), d⟩] (· = [⟨.bool, rightB gg xs d⟩])
 intro gg xs d hp
 refine ok_of_awpO (own := [82]) (wr := []) (cl := [q_impl_isRight_1]) (ro := [3, 5]) hE hO hM hS at_impl_isRight body_impl_isRight (l_impl_isRight gg xs d) ?_
 rewrite [vc_impl_isRight gg xs d]
 have fr := rightB_eq gg xs d
 have ft := okT_trF gg d.says
 have fh := hdB_eq d
 have fk := map_kn d.rule
 have fs := map_some d.rule
 have fm := map_at d.rule
 have fg := okT_gd gg d
 have f5 := rule5 d
 have f6 := giv_any xs d.says
 have f7 := giv_ask xs d.says.prog d.says
 have f8 : ∀ i, kdT d i = (d.kids.getD i zD).says := fun i => rfl
 have f9 : ∀ i, pkP d i = d.says.prog.kids.getD i zP := fun i => rfl
 refine ⟨fun a0 => ?_, fun a0 => ⟨rfl, ⟨rfl, ⟨rfl, ⟨rfl, ⟨rfl, ⟨rfl, ⟨rfl, ⟨rfl, ⟨rfl, ⟨rfl, ⟨rfl, ⟨rfl, ⟨rfl, ⟨rfl, ⟨rfl, ⟨rfl, ⟨rfl, ⟨rfl, ⟨?_, ⟨?_, ⟨?_, ⟨?_, ⟨?_, ⟨?_, ⟨?_, fun a1 => ⟨fun a2 => ⟨?_, ?_⟩, fun a2 => ⟨?_, ⟨?_, ⟨?_, fun a3 => fun a4 => fun a5 => ⟨fun a6 => fun a7 => ⟨fun a8 => fun a9 => fun a10 => ⟨fun a11 => ?_, fun a11 => fun a12 => ⟨fun a13 => ?_, fun a13 => ⟨fun a14 => ⟨?_, ?_⟩, fun a14 => ⟨fun a15 => ⟨⟨?_, ?_⟩, ⟨⟨rfl, ⟨rfl, ⟨rfl, ?_⟩⟩⟩, ⟨⟨?_, ?_⟩, ⟨⟨rfl, ⟨rfl, ⟨rfl, ?_⟩⟩⟩, ⟨⟨?_, ?_⟩, ⟨⟨rfl, ⟨rfl, ⟨rfl, ?_⟩⟩⟩, ⟨⟨?_, ?_⟩, ⟨⟨rfl, ⟨rfl, ⟨rfl, ?_⟩⟩⟩, ⟨⟨?_, ?_⟩, ⟨⟨rfl, ⟨rfl, ⟨rfl, ?_⟩⟩⟩, ⟨⟨?_, ?_⟩, ⟨⟨rfl, ⟨rfl, ⟨rfl, ?_⟩⟩⟩, ⟨⟨?_, ?_⟩, ⟨⟨rfl, ⟨rfl, ⟨rfl, ?_⟩⟩⟩, ?_⟩⟩⟩⟩⟩⟩⟩⟩⟩⟩⟩⟩⟩⟩, fun a15 => ⟨fun a16 => fun a17 => ⟨?_, ⟨?_, ⟨?_, ⟨fun a18 => ⟨?_, ⟨?_, fun a19 => fun a20 => fun a21 => fun a22 => ?_⟩⟩, fun a18 => fun a19 => fun a20 => ?_⟩⟩⟩⟩, fun a16 => ⟨fun a17 => ⟨?_, ⟨?_, ⟨fun a18 => ⟨?_, ⟨?_, fun a19 => fun a20 => fun a21 => fun a22 => ?_⟩⟩, fun a18 => fun a19 => fun a20 => ?_⟩⟩⟩, fun a17 => ⟨fun a18 => ⟨fun a19 => ⟨?_, ⟨?_, fun a20 => fun a21 => ?_⟩⟩, fun a19 => ?_⟩, fun a18 => ?_⟩⟩⟩⟩⟩⟩⟩, fun a8 => ⟨fun a9 => ?_, fun a9 => fun a10 => ⟨fun a11 => ?_, fun a11 => ⟨fun a12 => ⟨?_, ?_⟩, fun a12 => ⟨fun a13 => ⟨⟨?_, ?_⟩, ⟨⟨rfl, ⟨rfl, ⟨rfl, ?_⟩⟩⟩, ⟨⟨?_, ?_⟩, ⟨⟨rfl, ⟨rfl, ⟨rfl, ?_⟩⟩⟩, ⟨⟨?_, ?_⟩, ⟨⟨rfl, ⟨rfl, ⟨rfl, ?_⟩⟩⟩, ⟨⟨?_, ?_⟩, ⟨⟨rfl, ⟨rfl, ⟨rfl, ?_⟩⟩⟩, ⟨⟨?_, ?_⟩, ⟨⟨rfl, ⟨rfl, ⟨rfl, ?_⟩⟩⟩, ⟨⟨?_, ?_⟩, ⟨⟨rfl, ⟨rfl, ⟨rfl, ?_⟩⟩⟩, ⟨⟨?_, ?_⟩, ⟨⟨rfl, ⟨rfl, ⟨rfl, ?_⟩⟩⟩, ?_⟩⟩⟩⟩⟩⟩⟩⟩⟩⟩⟩⟩⟩⟩, fun a13 => ⟨fun a14 => fun a15 => ⟨?_, ⟨?_, ⟨?_, ⟨fun a16 => ⟨?_, ⟨?_, fun a17 => fun a18 => fun a19 => fun a20 => ?_⟩⟩, fun a16 => fun a17 => fun a18 => ?_⟩⟩⟩⟩, fun a14 => ⟨fun a15 => ⟨?_, ⟨?_, ⟨fun a16 => ⟨?_, ⟨?_, fun a17 => fun a18 => fun a19 => fun a20 => ?_⟩⟩, fun a16 => fun a17 => fun a18 => ?_⟩⟩⟩, fun a15 => ⟨fun a16 => ⟨fun a17 => ⟨?_, ⟨?_, fun a18 => fun a19 => ?_⟩⟩, fun a17 => ?_⟩, fun a16 => ?_⟩⟩⟩⟩⟩⟩⟩⟩, fun a6 => ⟨fun a7 => fun a8 => fun a9 => ⟨fun a10 => ?_, fun a10 => fun a11 => ⟨fun a12 => ?_, fun a12 => ⟨fun a13 => ⟨?_, ?_⟩, fun a13 => ⟨fun a14 => ⟨⟨?_, ?_⟩, ⟨⟨rfl, ⟨rfl, ⟨rfl, ?_⟩⟩⟩, ⟨⟨?_, ?_⟩, ⟨⟨rfl, ⟨rfl, ⟨rfl, ?_⟩⟩⟩, ⟨⟨?_, ?_⟩, ⟨⟨rfl, ⟨rfl, ⟨rfl, ?_⟩⟩⟩, ⟨⟨?_, ?_⟩, ⟨⟨rfl, ⟨rfl, ⟨rfl, ?_⟩⟩⟩, ⟨⟨?_, ?_⟩, ⟨⟨rfl, ⟨rfl, ⟨rfl, ?_⟩⟩⟩, ⟨⟨?_, ?_⟩, ⟨⟨rfl, ⟨rfl, ⟨rfl, ?_⟩⟩⟩, ⟨⟨?_, ?_⟩, ⟨⟨rfl, ⟨rfl, ⟨rfl, ?_⟩⟩⟩, ?_⟩⟩⟩⟩⟩⟩⟩⟩⟩⟩⟩⟩⟩⟩, fun a14 => ⟨fun a15 => fun a16 => ⟨?_, ⟨?_, ⟨?_, ⟨fun a17 => ⟨?_, ⟨?_, fun a18 => fun a19 => fun a20 => fun a21 => ?_⟩⟩, fun a17 => fun a18 => fun a19 => ?_⟩⟩⟩⟩, fun a15 => ⟨fun a16 => ⟨?_, ⟨?_, ⟨fun a17 => ⟨?_, ⟨?_, fun a18 => fun a19 => fun a20 => fun a21 => ?_⟩⟩, fun a17 => fun a18 => fun a19 => ?_⟩⟩⟩, fun a16 => ⟨fun a17 => ⟨fun a18 => ⟨?_, ⟨?_, fun a19 => fun a20 => ?_⟩⟩, fun a18 => ?_⟩, fun a17 => ?_⟩⟩⟩⟩⟩⟩⟩, fun a7 => ⟨fun a8 => ?_, fun a8 => fun a9 => ⟨fun a10 => ?_, fun a10 => ⟨fun a11 => ⟨?_, ?_⟩, fun a11 => ⟨fun a12 => ⟨⟨?_, ?_⟩, ⟨⟨rfl, ⟨rfl, ⟨rfl, ?_⟩⟩⟩, ⟨⟨?_, ?_⟩, ⟨⟨rfl, ⟨rfl, ⟨rfl, ?_⟩⟩⟩, ⟨⟨?_, ?_⟩, ⟨⟨rfl, ⟨rfl, ⟨rfl, ?_⟩⟩⟩, ⟨⟨?_, ?_⟩, ⟨⟨rfl, ⟨rfl, ⟨rfl, ?_⟩⟩⟩, ⟨⟨?_, ?_⟩, ⟨⟨rfl, ⟨rfl, ⟨rfl, ?_⟩⟩⟩, ⟨⟨?_, ?_⟩, ⟨⟨rfl, ⟨rfl, ⟨rfl, ?_⟩⟩⟩, ⟨⟨?_, ?_⟩, ⟨⟨rfl, ⟨rfl, ⟨rfl, ?_⟩⟩⟩, ?_⟩⟩⟩⟩⟩⟩⟩⟩⟩⟩⟩⟩⟩⟩, fun a12 => ⟨fun a13 => fun a14 => ⟨?_, ⟨?_, ⟨?_, ⟨fun a15 => ⟨?_, ⟨?_, fun a16 => fun a17 => fun a18 => fun a19 => ?_⟩⟩, fun a15 => fun a16 => fun a17 => ?_⟩⟩⟩⟩, fun a13 => ⟨fun a14 => ⟨?_, ⟨?_, ⟨fun a15 => ⟨?_, ⟨?_, fun a16 => fun a17 => fun a18 => fun a19 => ?_⟩⟩, fun a15 => fun a16 => fun a17 => ?_⟩⟩⟩, fun a14 => ⟨fun a15 => ⟨fun a16 => ⟨?_, ⟨?_, fun a17 => fun a18 => ?_⟩⟩, fun a16 => ?_⟩, fun a15 => ?_⟩⟩⟩⟩⟩⟩⟩⟩⟩⟩⟩⟩⟩⟩⟩⟩⟩⟩⟩⟩⟩⟩⟩⟩⟩⟩⟩⟩⟩⟩⟩⟩⟩⟩⟩⟩⟩⟩⟩
 all_goals try and_intros
 all_goals try simp only [GExpr.eta, GProg.eta, GDerivation.eta, GTriple.eta, GPremise.eta, GClaim.eta, GEquation.eta, GPair.eta, GSpot.eta, e_expr_eq, e_pair_eq, e_equation_eq, e_claim_eq, e_prog_eq, e_spot_eq, e_triple_eq, e_premise_eq, e_derivation_eq] at *
 all_goals first | rfl | trivial | (simp [mlen, mput, mnone]; done) | (simp only [map_kn, map_some, decide_eq_true_eq, decide_eq_false_iff_not, idxOk, inI64] at *; first | omega | grind [ruleB, kn, TrF]) | grind [ruleB, kn, TrF, idxOk]
theorem good_impl_isRight : Ctr.Good k_impl_isRight := ok_impl_isRight ⟨good_impl_ValidTriple, good_impl_isTogether, good_impl_SameExpr, good_slices_ContainsFunc_Premise, good_impl_isRight_1, good_impl_tree, good_impl_not, good_impl_both, good_impl_Triple_says, trivial⟩ trivial trivial trivial
end
end Go.Proofs.YtkogipcdjalehaaGreat

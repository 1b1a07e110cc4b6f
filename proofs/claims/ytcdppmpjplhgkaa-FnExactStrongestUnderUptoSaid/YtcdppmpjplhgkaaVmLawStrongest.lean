/- The law FnExactStrongestUnder. Printed by vmk.py. -/
import Derived.Test.YtcdppmpjplhgkaaVmUse
import Derived.Test.YtcdppmpjplhgkaaVmLib
import Derived.Test.YtcdppmpjplhgkaaVmSz
import Derived.Test.YtcdppmpjplhgkaaVmTo
import Derived.Test.YtcdppmpjplhgkaaVmEq
import Derived.Test.YtcdppmpjplhgkaaVmOwnFam
import Derived.Test.YtcdppmpjplhgkaaVmOwnFam2
import Derived.Test.YtcdppmpjplhgkaaVmOwnFam3
import Derived.Test.YtcdppmpjplhgkaaVmUnder
import Derived.Test.YtcdppmpjplhgkaaVmUnder2
set_option linter.unusedVariables false
set_option linter.unusedSimpArgs false
set_option linter.unusedSectionVars false
namespace Go.Proofs.Ytcdppmpjplhgkaa
noncomputable section

def F_impl_StrongestUnder_1 (ways : List (List Bool)) (y : Int) : Int → Prop × Bool := fun (x : Int) => ((inT ways x y), gt2 ways x y)
theorem F_impl_StrongestUnder_1_1 (ways : List (List Bool)) (y : Int) (x : Int) : (F_impl_StrongestUnder_1 ways y x).1 = (inT ways x y) := rfl
theorem F_impl_StrongestUnder_1_2 (ways : List (List Bool)) (y : Int) (x : Int) : (F_impl_StrongestUnder_1 ways y x).2 = (gt2 ways x y) := rfl
def q_impl_StrongestUnder_1 : Nat × CloK := (n_impl_StrongestUnder_1, ⟨[(.int .i64)], .bool, [(true, (.slice (.slice .bool))), (true, (.int .i64))]⟩)
def k_impl_StrongestUnder_1 : Ctr := ⟨n_impl_StrongestUnder_1, [.v (.int .i64), .r (.slice (.slice .bool)), .r (.int .i64)], fun (x : Int) (ways : List (List Bool)) (y : Int) => ⟨(some (inT ways x y), [⟨.bool, gt2 ways x y⟩])⟩⟩
def l_impl_StrongestUnder_1 (x : Int) (ways : List (List Bool)) (y : Int) : Nat → LoopInv := fun _ => .none
theorem vc_impl_StrongestUnder_1 (x : Int) (ways : List (List Bool)) (y : Int) : awp (envOf []) (bodyOf f_impl_StrongestUnder_1) (l_impl_StrongestUnder_1 x ways y) 0 (funPost (envOf []) f_impl_StrongestUnder_1 fun r => areEq r [⟨.bool, gt2 ways x y⟩]) (startState f_impl_StrongestUnder_1 [.val ⟨(.int .i64), x⟩, .ref ⟨(.slice (.slice .bool)), ways⟩, .ref ⟨(.int .i64), y⟩]) =
  ((idxOk x ways.length ∧ (ways.length ≤ 140737488355328 →
 ((ways.getD (Int.toNat x) []).length ≤ 140737488355328 →
 (inI64 y →
 (idxOk y (ways.getD (Int.toNat x) []).length ∧ ((ways.getD (Int.toNat x) []).getD (Int.toNat y) false) = (gt2 ways x y))))))) := by kernel_rfl
set_option maxRecDepth 4000 in
set_option maxHeartbeats 1000000 in
theorem ok_impl_StrongestUnder_1 (hE : AllGood []) : Ctr.Good k_impl_StrongestUnder_1 := by
  refine ⟨fnOk_of at_impl_StrongestUnder_1 rfl (by decide), ?_⟩
  show ∀ (x : Int) (ways : List (List Bool)) (y : Int), (inT ways x y) → OkCall prog n_impl_StrongestUnder_1 [.val ⟨(.int .i64), x⟩, .ref ⟨(.slice (.slice .bool)), ways⟩, .ref ⟨(.int .i64), y⟩] (· = [⟨.bool, gt2 ways x y⟩])
  intro x ways y hp
  refine ok_of_awp (wr := []) (cl := []) (ro := []) hE at_impl_StrongestUnder_1 body_impl_StrongestUnder_1 (l_impl_StrongestUnder_1 x ways y) ?_
  rewrite [vc_impl_StrongestUnder_1 x ways y]
  have f0 := hp
  unfold inT at f0
  refine ⟨?_, fun a0 => fun a1 => fun a2 => ⟨?_, ?_⟩⟩
  all_goals try and_intros
  all_goals first | with_reducible rfl | omega | (simp only [idxOk, inI64] at *; omega) | grind [gt2, idxOk, inI64]

theorem good_impl_StrongestUnder_1 : Ctr.Good k_impl_StrongestUnder_1 := ok_impl_StrongestUnder_1 trivial

theorem ask_str (gg : GSig) (xs : List GPremise) (p : GProg) (c : GExpr) (h : okL gg xs p) (k : Nat) (hk : k < (atomsN gg).toNat) : askL (F_impl_StrongestUnder_1 (leadT (atomsN gg) xs p) (k : Int)) (atN gg c) := by
  intro i hi
  have hs := leadT_sq gg (atomsN gg) xs p h.tree
  have hn := (sigOk_n gg h.sig).2
  have h1 := isSet_in _ _ (atN_set gg c) i hi
  rw [F_impl_StrongestUnder_1_1]
  exact inT_of _ _ hs (by omega) _ _ ⟨h1.1, by omega⟩ ⟨by omega, by omega⟩
theorem str_any (gg : GSig) (xs : List GPremise) (p : GProg) (c : GExpr) (k : Nat) : (atN gg c).any (fun x => (F_impl_StrongestUnder_1 (leadT (atomsN gg) xs p) (k : Int) x).2) = strP gg xs c p k := rfl
theorem str_end (gg : GSig) (xs : List GPremise) (c : GExpr) (p : GProg) (k : Nat) (h1 : atomsN gg ≤ (k : Int)) (h2 : k ≤ (atomsN gg).toNat) : selN (strP gg xs c p) k = selN (strP gg xs c p) (atomsN gg).toNat := by
  have : k = (atomsN gg).toNat := by omega
  rw [this]

def ko_impl_StrongestUnder : Ctr := ⟨n_impl_StrongestUnder, [.v (.st .sig), .v (.slice (.st .premise)), .v (.st .expr), .v (.st .prog)], fun (gg : GSig) (xs : List GPremise) (c : GExpr) (p : GProg) => ⟨(none, [⟨(.slice (.int .i64)), suV gg xs c p⟩, ⟨(.int .i64), wuC gg xs p c⟩])⟩⟩
def lo_impl_StrongestUnder (gg : GSig) (xs : List GPremise) (c : GExpr) (p : GProg) : Nat → LoopInv := (fun zb => if Nat.beq zb 0 then .mk (Nat) (fun k => k ≤ (atomsN gg).toNat ∧ okL gg xs p ∧ goodC c = true ∧ suV gg xs c p = selN (strP gg xs c p) (atomsN gg).toNat ∧ wuC gg xs p c = 0) (fun k => (atomsN gg).toNat - k) [] [0, 1, 2, 3, 5, 7, 13, 14, 15, 16, 17, 18, 19, 20, 21, 22, 23, 24, 25, 26, 27, 28, 29, 30, 31, 32, 33, 34] (fun k => [(36, .imm ⟨(.int .i64), ((k : Int) : Int)⟩), (11, .row 33)]) [4, 6, 8, 9, 10, 11, 12, 35, 36, 37, 38, 39, 40, 41, 42, 43, 44, 45, 46, 47, 48, 49] (fun k => [(33, .row T_int64 (.int .i64) (selN (strP gg xs c p) k : List Int))]) [] [] (fun k => fun _ => .none) else .none)
abbrev qo_impl_StrongestUnder_0 (gg : GSig) (c : GExpr) (k1 : Nat) (k2 : Nat) : Prop := (gg = gg ∧ (c = c ∧ (True ∧ ((0 : Int) = (0 : Int) ∧ (True ∧ (True ∧ ((atomsN gg) = (atomsN gg) ∧ (((k1 : Int) + (1 : Int)) = (k2 : Int) ∧ True))))))))
abbrev qo_impl_StrongestUnder_1 (gg : GSig) (xs : List GPremise) (c : GExpr) (p : GProg) : Prop := (okL gg xs p ∧ ((leadT (atomsN gg) xs p).length ≤ 140737488355328 →
 ((0 ≤ gg.tests ∧ gg.tests ≤ 3) ∧ (inI64 (atomsN gg) →
 ((∃ k1 : Nat, ((k1 ≤ (atomsN gg).toNat ∧ okL gg xs p ∧ goodC c = true ∧ suV gg xs c p = selN (strP gg xs c p) (atomsN gg).toNat ∧ wuC gg xs p c = 0) ∧ ((gg = gg ∧ (c = c ∧ (True ∧ ((0 : Int) = (0 : Int) ∧ (True ∧ (True ∧ ((atomsN gg) = (atomsN gg) ∧ ((0 : Int) = (k1 : Int) ∧ True)))))))) ∧ ([] = (selN (strP gg xs c p) k1) ∧ (((leadT (atomsN gg) xs p) = (leadT (atomsN gg) xs p) ∧ True) ∧ True))))) ∧ (∀ k1 : Nat, ((k1 ≤ (atomsN gg).toNat ∧ okL gg xs p ∧ goodC c = true ∧ suV gg xs c p = selN (strP gg xs c p) (atomsN gg).toNat ∧ wuC gg xs p c = 0) →
 (((decide ((k1 : Int) < (atomsN gg))) = true →
 ((sigOk gg = true ∧ goodC c = true) ∧ ((atN gg c).length ≤ 140737488355328 →
 (askL (F_impl_StrongestUnder_1 (leadT (atomsN gg) xs p) (k1 : Int)) (atN gg c) ∧ ((((atN gg c).any (fun x => ((F_impl_StrongestUnder_1 (leadT (atomsN gg) xs p) (k1 : Int)) x).2)) = true →
 (inI64 (k1 : Int) →
 (roomOk ((selN (strP gg xs c p) k1).length + ([(k1 : Int)]).length) 8 ∧ (inI64 ((k1 : Int) + (1 : Int)) ∧ (∃ k2 : Nat, ((k2 ≤ (atomsN gg).toNat ∧ okL gg xs p ∧ goodC c = true ∧ suV gg xs c p = selN (strP gg xs c p) (atomsN gg).toNat ∧ wuC gg xs p c = 0) ∧ ((atomsN gg).toNat - k2 < (atomsN gg).toNat - k1 ∧ ((qo_impl_StrongestUnder_0 gg c k1 k2) ∧ (((selN (strP gg xs c p) k1) ++ ([(k1 : Int)])) = (selN (strP gg xs c p) k2) ∧ (((leadT (atomsN gg) xs p) = (leadT (atomsN gg) xs p) ∧ True) ∧ True)))))))))) ∧ (((atN gg c).any (fun x => ((F_impl_StrongestUnder_1 (leadT (atomsN gg) xs p) (k1 : Int)) x).2)) = false →
 (inI64 ((k1 : Int) + (1 : Int)) ∧ (∃ k2 : Nat, ((k2 ≤ (atomsN gg).toNat ∧ okL gg xs p ∧ goodC c = true ∧ suV gg xs c p = selN (strP gg xs c p) (atomsN gg).toNat ∧ wuC gg xs p c = 0) ∧ ((atomsN gg).toNat - k2 < (atomsN gg).toNat - k1 ∧ ((qo_impl_StrongestUnder_0 gg c k1 k2) ∧ ((selN (strP gg xs c p) k1) = (selN (strP gg xs c p) k2) ∧ (((leadT (atomsN gg) xs p) = (leadT (atomsN gg) xs p) ∧ True) ∧ True))))))))))))) ∧ ((decide ((k1 : Int) < (atomsN gg))) = false →
 ((selN (strP gg xs c p) k1) = (suV gg xs c p) ∧ (0 : Int) = (wuC gg xs p c)))))))))))
abbrev qo_impl_StrongestUnder_2 (gg : GSig) (xs : List GPremise) (c : GExpr) (p : GProg) : Prop := (((!(isC gg c)) = true →
 ([] = (suV gg xs c p) ∧ (1 : Int) = (wuC gg xs p c))) ∧ ((!(isC gg c)) = false →
 (qo_impl_StrongestUnder_1 gg xs c p)))
theorem vco_impl_StrongestUnder (gg : GSig) (xs : List GPremise) (c : GExpr) (p : GProg) : awp (envO [k_impl_ValidPremises, k_impl_isProg, k_impl_isCondition, k_impl_leads, k_impl_atomsIn, k_impl_atomsOf, k_slices_ContainsFunc_int64, k_impl_StrongestUnder_1] [] [] [] [] [q_impl_StrongestUnder_1] [4, 6, 7]) (bodyOf f_impl_StrongestUnder) (lo_impl_StrongestUnder gg xs c p) 0 (ownPost (envO [k_impl_ValidPremises, k_impl_isProg, k_impl_isCondition, k_impl_leads, k_impl_atomsIn, k_impl_atomsOf, k_slices_ContainsFunc_int64, k_impl_StrongestUnder_1] [] [] [] [] [q_impl_StrongestUnder_1] [4, 6, 7]) f_impl_StrongestUnder fun r => areEq r [⟨(.slice (.int .i64)), suV gg xs c p⟩, ⟨(.int .i64), wuC gg xs p c⟩]) (startState f_impl_StrongestUnder [.val ⟨(.st .sig), gg⟩, .val ⟨(.slice (.st .premise)), xs⟩, .val ⟨(.st .expr), c⟩, .val ⟨(.st .prog), p⟩]) =
  ((((!(premsOk gg xs)) = false →
 (sigOk gg = true ∧ (((!(isP gg p)) = false →
 (qo_impl_StrongestUnder_2 gg xs c p)) ∧ ((!(isP gg p)) = (!false) →
 ((true = true →
 ([] = (suV gg xs c p) ∧ (1 : Int) = (wuC gg xs p c))) ∧ (true = false →
 (qo_impl_StrongestUnder_1 gg xs c p))))))) ∧ ((!(premsOk gg xs)) = (!false) →
 ((true = false →
 (qo_impl_StrongestUnder_2 gg xs c p)) ∧ (true = (!false) →
 ((true = true →
 ([] = (suV gg xs c p) ∧ (1 : Int) = (wuC gg xs p c))) ∧ (true = false →
 (qo_impl_StrongestUnder_1 gg xs c p)))))))) := by kernel_rfl
set_option maxRecDepth 4000 in
set_option maxHeartbeats 1000000 in
theorem oko_impl_StrongestUnder (hE : AllGood [k_impl_ValidPremises, k_impl_isProg, k_impl_isCondition, k_impl_leads, k_impl_atomsIn, k_impl_atomsOf, k_slices_ContainsFunc_int64, k_impl_StrongestUnder_1]) (hO : AllO []) (hM : AllM []) : Ctr.OGood ko_impl_StrongestUnder := by
  refine ⟨fnOk_of at_impl_StrongestUnder rfl (by decide), ?_⟩
  show ∀ (gg : GSig) (xs : List GPremise) (c : GExpr) (p : GProg), True → OkOwn prog n_impl_StrongestUnder [.val ⟨(.st .sig), gg⟩, .val ⟨(.slice (.st .premise)), xs⟩, .val ⟨(.st .expr), c⟩, .val ⟨(.st .prog), p⟩] [⟨(.slice (.int .i64)), suV gg xs c p⟩, ⟨(.int .i64), wuC gg xs p c⟩]
  intro gg xs c p _
  refine own_of_awp (own := []) (wr := []) (cl := [q_impl_StrongestUnder_1]) (ro := [4, 6, 7]) hE hO hM at_impl_StrongestUnder body_impl_StrongestUnder (lo_impl_StrongestUnder gg xs c p) ?_
  rewrite [vco_impl_StrongestUnder gg xs c p]
  have f1 := wu_t gg xs p c
  have f2 := wu_f gg xs p c
  have f3 := wu_sig gg xs
  have f6 := sigOk_n gg
  have f7 := selN_zero (strP gg xs c p)
  refine ⟨fun a0 => ⟨?_, ⟨fun a1 => ⟨fun a2 => ⟨?_, ?_⟩, fun a2 => ⟨?_, fun a3 => ⟨?_, fun a4 => ⟨⟨0, ⟨?_, ⟨⟨rfl, ⟨rfl, ⟨trivial, ⟨rfl, ⟨trivial, ⟨trivial, ⟨rfl, ⟨?_, trivial⟩⟩⟩⟩⟩⟩⟩⟩, ⟨?_, ⟨⟨rfl, trivial⟩, trivial⟩⟩⟩⟩⟩, fun k1 a5 => have b5x0 := selN_t (strP gg xs c p) k1; have b5x1 := selN_f (strP gg xs c p) k1; have b5x2 := selN_len (strP gg xs c p) k1; have b5x3 := str_any gg xs p c k1; have b5x4 := str_end gg xs c p k1; have b5x5 := ask_str gg xs p c a5.2.1 k1; have b5x6 := (sigOk_n gg a5.2.1.sig); have b5x7 := a5.2.1.sig; ⟨fun a6 => ⟨?_, fun a7 => ⟨?_, ⟨fun a8 => fun a9 => ⟨?_, ⟨?_, ⟨k1 + 1, ⟨?_, ⟨?_, ⟨⟨rfl, ⟨rfl, ⟨trivial, ⟨rfl, ⟨trivial, ⟨trivial, ⟨rfl, ⟨?_, trivial⟩⟩⟩⟩⟩⟩⟩⟩, ⟨?_, ⟨⟨rfl, trivial⟩, trivial⟩⟩⟩⟩⟩⟩⟩⟩, fun a8 => ⟨?_, ⟨k1 + 1, ⟨?_, ⟨?_, ⟨⟨rfl, ⟨rfl, ⟨trivial, ⟨rfl, ⟨trivial, ⟨trivial, ⟨rfl, ⟨?_, trivial⟩⟩⟩⟩⟩⟩⟩⟩, ⟨?_, ⟨⟨rfl, trivial⟩, trivial⟩⟩⟩⟩⟩⟩⟩⟩⟩⟩, fun a6 => ⟨?_, ?_⟩⟩⟩⟩⟩⟩, fun a1 => ⟨fun a2 => ⟨?_, ?_⟩, fun a2 => ⟨?_, fun a3 => ⟨?_, fun a4 => ⟨⟨0, ⟨?_, ⟨⟨rfl, ⟨rfl, ⟨trivial, ⟨rfl, ⟨trivial, ⟨trivial, ⟨rfl, ⟨?_, trivial⟩⟩⟩⟩⟩⟩⟩⟩, ⟨?_, ⟨⟨rfl, trivial⟩, trivial⟩⟩⟩⟩⟩, fun k1 a5 => have b5x0 := selN_t (strP gg xs c p) k1; have b5x1 := selN_f (strP gg xs c p) k1; have b5x2 := selN_len (strP gg xs c p) k1; have b5x3 := str_any gg xs p c k1; have b5x4 := str_end gg xs c p k1; have b5x5 := ask_str gg xs p c a5.2.1 k1; have b5x6 := (sigOk_n gg a5.2.1.sig); have b5x7 := a5.2.1.sig; ⟨fun a6 => ⟨?_, fun a7 => ⟨?_, ⟨fun a8 => fun a9 => ⟨?_, ⟨?_, ⟨k1 + 1, ⟨?_, ⟨?_, ⟨⟨rfl, ⟨rfl, ⟨trivial, ⟨rfl, ⟨trivial, ⟨trivial, ⟨rfl, ⟨?_, trivial⟩⟩⟩⟩⟩⟩⟩⟩, ⟨?_, ⟨⟨rfl, trivial⟩, trivial⟩⟩⟩⟩⟩⟩⟩⟩, fun a8 => ⟨?_, ⟨k1 + 1, ⟨?_, ⟨?_, ⟨⟨rfl, ⟨rfl, ⟨trivial, ⟨rfl, ⟨trivial, ⟨trivial, ⟨rfl, ⟨?_, trivial⟩⟩⟩⟩⟩⟩⟩⟩, ⟨?_, ⟨⟨rfl, trivial⟩, trivial⟩⟩⟩⟩⟩⟩⟩⟩⟩⟩, fun a6 => ⟨?_, ?_⟩⟩⟩⟩⟩⟩⟩⟩, fun a0 => ⟨fun a1 => ⟨fun a2 => ⟨?_, ?_⟩, fun a2 => ⟨?_, fun a3 => ⟨?_, fun a4 => ⟨⟨0, ⟨?_, ⟨⟨rfl, ⟨rfl, ⟨trivial, ⟨rfl, ⟨trivial, ⟨trivial, ⟨rfl, ⟨?_, trivial⟩⟩⟩⟩⟩⟩⟩⟩, ⟨?_, ⟨⟨rfl, trivial⟩, trivial⟩⟩⟩⟩⟩, fun k1 a5 => have b5x0 := selN_t (strP gg xs c p) k1; have b5x1 := selN_f (strP gg xs c p) k1; have b5x2 := selN_len (strP gg xs c p) k1; have b5x3 := str_any gg xs p c k1; have b5x4 := str_end gg xs c p k1; have b5x5 := ask_str gg xs p c a5.2.1 k1; have b5x6 := (sigOk_n gg a5.2.1.sig); have b5x7 := a5.2.1.sig; ⟨fun a6 => ⟨?_, fun a7 => ⟨?_, ⟨fun a8 => fun a9 => ⟨?_, ⟨?_, ⟨k1 + 1, ⟨?_, ⟨?_, ⟨⟨rfl, ⟨rfl, ⟨trivial, ⟨rfl, ⟨trivial, ⟨trivial, ⟨rfl, ⟨?_, trivial⟩⟩⟩⟩⟩⟩⟩⟩, ⟨?_, ⟨⟨rfl, trivial⟩, trivial⟩⟩⟩⟩⟩⟩⟩⟩, fun a8 => ⟨?_, ⟨k1 + 1, ⟨?_, ⟨?_, ⟨⟨rfl, ⟨rfl, ⟨trivial, ⟨rfl, ⟨trivial, ⟨trivial, ⟨rfl, ⟨?_, trivial⟩⟩⟩⟩⟩⟩⟩⟩, ⟨?_, ⟨⟨rfl, trivial⟩, trivial⟩⟩⟩⟩⟩⟩⟩⟩⟩⟩, fun a6 => ⟨?_, ?_⟩⟩⟩⟩⟩⟩, fun a1 => ⟨fun a2 => ⟨?_, ?_⟩, fun a2 => ⟨?_, fun a3 => ⟨?_, fun a4 => ⟨⟨0, ⟨?_, ⟨⟨rfl, ⟨rfl, ⟨trivial, ⟨rfl, ⟨trivial, ⟨trivial, ⟨rfl, ⟨?_, trivial⟩⟩⟩⟩⟩⟩⟩⟩, ⟨?_, ⟨⟨rfl, trivial⟩, trivial⟩⟩⟩⟩⟩, fun k1 a5 => have b5x0 := selN_t (strP gg xs c p) k1; have b5x1 := selN_f (strP gg xs c p) k1; have b5x2 := selN_len (strP gg xs c p) k1; have b5x3 := str_any gg xs p c k1; have b5x4 := str_end gg xs c p k1; have b5x5 := ask_str gg xs p c a5.2.1 k1; have b5x6 := (sigOk_n gg a5.2.1.sig); have b5x7 := a5.2.1.sig; ⟨fun a6 => ⟨?_, fun a7 => ⟨?_, ⟨fun a8 => fun a9 => ⟨?_, ⟨?_, ⟨k1 + 1, ⟨?_, ⟨?_, ⟨⟨rfl, ⟨rfl, ⟨trivial, ⟨rfl, ⟨trivial, ⟨trivial, ⟨rfl, ⟨?_, trivial⟩⟩⟩⟩⟩⟩⟩⟩, ⟨?_, ⟨⟨rfl, trivial⟩, trivial⟩⟩⟩⟩⟩⟩⟩⟩, fun a8 => ⟨?_, ⟨k1 + 1, ⟨?_, ⟨?_, ⟨⟨rfl, ⟨rfl, ⟨trivial, ⟨rfl, ⟨trivial, ⟨trivial, ⟨rfl, ⟨?_, trivial⟩⟩⟩⟩⟩⟩⟩⟩, ⟨?_, ⟨⟨rfl, trivial⟩, trivial⟩⟩⟩⟩⟩⟩⟩⟩⟩⟩, fun a6 => ⟨?_, ?_⟩⟩⟩⟩⟩⟩⟩⟩
  all_goals try and_intros
  all_goals first | with_reducible rfl | omega | (simp only [decide_eq_true_eq, decide_eq_false_iff_not, idxOk, inI64, roomOk, List.length_append, List.length_cons, List.length_nil] at *; omega) | grind

theorem ogood_impl_StrongestUnder : Ctr.OGood ko_impl_StrongestUnder := oko_impl_StrongestUnder ⟨good_impl_ValidPremises, good_impl_isProg, good_impl_isCondition, good_impl_leads, good_impl_atomsIn, good_impl_atomsOf, good_slices_ContainsFunc_int64, good_impl_StrongestUnder_1, trivial⟩ trivial trivial

theorem heldI_mk (k : Int) (xs : List Int) : heldI k (mkInts k xs) = k + (xs.length : Int) := by
  simp [heldI, okInts_mk, mkInts_length]
mutual
theorem cntX_sz : ∀ x : GExpr, cntX x = 2 + 2 * sz_expr x
  | ⟨k, n, ks⟩ => by
    have := cntXs_sz ks
    simp only [cntX, sz_expr, this, szs_expr_eq]
theorem cntXs_sz : ∀ xs : List GExpr, cntXs xs = 2 * (xs.length + szL sz_expr xs)
  | [] => by simp [cntXs, szL]
  | x :: xs => by
    have h1 := cntX_sz x
    have h2 := cntXs_sz xs
    simp only [cntXs, szL, List.length_cons, h1, h2]; omega
end
theorem cnt_sz (x : GExpr) : szL cntX x.kids = 2 * sz_expr x := by
  have := cntXs_sz x.kids
  rw [cntXs_eq] at this
  rw [this, sz_expr_eq]
theorem cntP_sz : ∀ xs : List GPremise, szL cnt_premise xs ≤ 5 * (xs.length + szL sz_premise xs)
  | [] => by simp [szL]
  | x :: xs => by
    have h1 := cntP_sz xs
    have h2 := cnt_premise_eq x
    have h3 := sz_premise_eq x
    rw [cnt_sz, cnt_sz] at h2
    simp only [szL, List.length_cons]; omega
mutual
theorem cntG_sz : ∀ x : GProg, cnt_prog x ≤ 4 + 4 * sz_prog x
  | ⟨k, n, c, ks⟩ => by
    have h1 := cntGs_sz ks
    have h2 := cnt_sz c
    simp only [cnt_prog, sz_prog, cnt_progs_eq, szs_prog_eq, h2] at h1 ⊢
    omega
theorem cntGs_sz : ∀ xs : List GProg, cnt_progs xs ≤ 4 * (xs.length + szL sz_prog xs)
  | [] => by simp [cnt_progs, szL]
  | x :: xs => by
    have h1 := cntG_sz x
    have h2 := cntGs_sz xs
    simp only [cnt_progs, szL, List.length_cons]; omega
end
theorem cntK_sz (x : GProg) : szL cntX x.cond.kids + szL cnt_prog x.kids ≤ 4 * sz_prog x := by
  have h1 := cntGs_sz x.kids
  rw [cnt_progs_eq] at h1
  rw [cnt_sz, sz_prog_eq]
  omega

def k_laws_FnExactStrongestUnder : Ctr := ⟨n_laws_FnExactStrongestUnder, [.v (.st .sig), .v (.slice (.st .premise)), .v (.st .expr), .v (.st .prog)], fun (gg : GSig) (xs : List GPremise) (c : GExpr) (p : GProg) => ⟨(none, [⟨.bool, true⟩])⟩⟩
def l_laws_FnExactStrongestUnder (gg : GSig) (xs : List GPremise) (c : GExpr) (p : GProg) : Nat → LoopInv := fun _ => .none
abbrev q_laws_FnExactStrongestUnder_0 (gg : GSig) (xs : List GPremise) (c : GExpr) (p : GProg) : Prop := ((!(decide ((heldI (1 : Int) (mkInts (1 : Int) (suV gg xs (e_expr c) (e_prog p)))) = ((1 : Int) + ((suV gg xs (e_expr c) (e_prog p)).length : Int))))) = true →
 false = true)
abbrev q_laws_FnExactStrongestUnder_1 (gg : GSig) (xs : List GPremise) (c : GExpr) (p : GProg) : Prop := ((0 ≤ (1 : Int) ∧ (1 : Int) + ((mkInts (1 : Int) (suV gg xs (e_expr c) (e_prog p))).length : Int) ≤ 4611686018427387904) ∧ (inI64 (heldI (1 : Int) (mkInts (1 : Int) (suV gg xs (e_expr c) (e_prog p)))) →
 (((decide ((heldI (1 : Int) (mkInts (1 : Int) (suV gg xs (e_expr c) (e_prog p)))) < (0 : Int))) = true →
 false = true) ∧ ((decide ((heldI (1 : Int) (mkInts (1 : Int) (suV gg xs (e_expr c) (e_prog p)))) < (0 : Int))) = false →
 ((q_laws_FnExactStrongestUnder_0 gg xs c p) ∧ ((!(decide ((heldI (1 : Int) (mkInts (1 : Int) (suV gg xs (e_expr c) (e_prog p)))) = ((1 : Int) + ((suV gg xs (e_expr c) (e_prog p)).length : Int))))) = false →
 true = true))))))
abbrev q_laws_FnExactStrongestUnder_2 (gg : GSig) (xs : List GPremise) (c : GExpr) (p : GProg) : Prop := ((0 ≤ (1 : Int) ∧ (1 : Int) + ((suV gg xs (e_expr c) (e_prog p)).length : Int) ≤ 4611686018427387904) ∧ ((0 ≤ (1 : Int) ∧ (1 : Int) + ((mkInts (1 : Int) (suV gg xs (e_expr c) (e_prog p))).length : Int) ≤ 4611686018427387904) ∧ (inI64 (heldI (1 : Int) (mkInts (1 : Int) (suV gg xs (e_expr c) (e_prog p)))) →
 (((decide ((heldI (1 : Int) (mkInts (1 : Int) (suV gg xs (e_expr c) (e_prog p)))) < (0 : Int))) = true →
 false = true) ∧ ((decide ((heldI (1 : Int) (mkInts (1 : Int) (suV gg xs (e_expr c) (e_prog p)))) < (0 : Int))) = false →
 ((q_laws_FnExactStrongestUnder_0 gg xs c p) ∧ ((!(decide ((heldI (1 : Int) (mkInts (1 : Int) (suV gg xs (e_expr c) (e_prog p)))) = ((1 : Int) + ((suV gg xs (e_expr c) (e_prog p)).length : Int))))) = false →
 (xs.length + szL sz_premise xs ≤ 1048576 ∧ (sz_expr c ≤ 1048576 ∧ (xs.length ≤ 140737488355328 →
 (sz_prog p ≤ 1048576 ∧ (inI64 (wuC gg xs p c) →
 (((!(eqB (suV gg xs c p) (suV gg xs c p))) = false →
 (((!(decide ((wuC gg xs p c) = (wuC gg xs p c)))) = true →
 false = true) ∧ ((!(decide ((wuC gg xs p c) = (wuC gg xs p c)))) = false →
 (q_laws_FnExactStrongestUnder_1 gg xs c p)))) ∧ ((!(eqB (suV gg xs c p) (suV gg xs c p))) = (!false) →
 ((true = true →
 false = true) ∧ (true = false →
 (q_laws_FnExactStrongestUnder_1 gg xs c p)))))))))))))))))
abbrev q_laws_FnExactStrongestUnder_3 (gg : GSig) (xs : List GPremise) (c : GExpr) (p : GProg) : Prop := (((!(decide ((wuC gg xs (e_prog p) (e_expr c)) = (wuC gg xs p c)))) = true →
 false = true) ∧ ((!(decide ((wuC gg xs (e_prog p) (e_expr c)) = (wuC gg xs p c)))) = false →
 (q_laws_FnExactStrongestUnder_2 gg xs c p)))
abbrev q_laws_FnExactStrongestUnder_4 (gg : GSig) (xs : List GPremise) (c : GExpr) (p : GProg) : Prop := (xs.length + szL sz_premise xs ≤ 1048576 ∧ (xs.length ≤ 140737488355328 →
 (((!(eqB xs xs)) = true →
 false = true) ∧ ((!(eqB xs xs)) = false →
 (sz_expr c ≤ 1048576 ∧ (((!(eqB (e_expr c) c)) = true →
 false = true) ∧ ((!(eqB (e_expr c) c)) = false →
 (sz_prog p ≤ 1048576 ∧ (((!(eqB (e_prog p) p)) = true →
 false = true) ∧ ((!(eqB (e_prog p) p)) = false →
 ((0 ≤ (1 : Int) ∧ (1 : Int) + (szL cnt_premise xs : Int) ≤ 4611686018427387904) ∧ ((0 ≤ ((1 : Int) + (szL cnt_premise xs : Int)) ∧ ((1 : Int) + (szL cnt_premise xs : Int)) + (szL cntX (e_expr c).kids : Int) ≤ 4611686018427387904) ∧ ((0 ≤ (((1 : Int) + (szL cnt_premise xs : Int)) + (szL cntX (e_expr c).kids : Int)) ∧ (((1 : Int) + (szL cnt_premise xs : Int)) + (szL cntX (e_expr c).kids : Int)) + (szL cntX (e_prog p).cond.kids : Int) + (szL cnt_prog (e_prog p).kids : Int) ≤ 4611686018427387904) ∧ (((decide (((((1 : Int) + (szL cnt_premise xs : Int)) + (szL cntX (e_expr c).kids : Int)) + (szL cntX (e_prog p).cond.kids : Int) + (szL cnt_prog (e_prog p).kids : Int)) < (0 : Int))) = false →
 (((!(eqB (suV gg xs (e_expr c) (e_prog p)) (suV gg xs c p))) = false →
 (q_laws_FnExactStrongestUnder_3 gg xs c p)) ∧ ((!(eqB (suV gg xs (e_expr c) (e_prog p)) (suV gg xs c p))) = (!false) →
 ((true = true →
 false = true) ∧ (true = false →
 (q_laws_FnExactStrongestUnder_2 gg xs c p)))))) ∧ ((decide (((((1 : Int) + (szL cnt_premise xs : Int)) + (szL cntX (e_expr c).kids : Int)) + (szL cntX (e_prog p).cond.kids : Int) + (szL cnt_prog (e_prog p).kids : Int)) < (0 : Int))) = (!false) →
 ((true = false →
 (q_laws_FnExactStrongestUnder_3 gg xs c p)) ∧ (true = (!false) →
 ((true = true →
 false = true) ∧ (true = false →
 (q_laws_FnExactStrongestUnder_2 gg xs c p))))))))))))))))))))
theorem vc_laws_FnExactStrongestUnder (gg : GSig) (xs : List GPremise) (c : GExpr) (p : GProg) : awp (envO [k_laws_szPremiseS, k_laws_szProg, k_laws_szExpr, k_laws_toPremiseS, k_laws_toProg, k_laws_toExpr, k_laws_toSig, k_spec_StrongestUnder, k_laws_eqInt64S, k_laws_eqPremiseS, k_laws_eqProg, k_laws_eqExpr, k_laws_heldInt64S] [ko_laws_toPremiseS, ko_laws_toProg, ko_laws_toExpr, ko_impl_StrongestUnder] [mk_laws_markPremiseS, mk_laws_markProg, mk_laws_markExpr, mk_laws_markInt64S] [50, 52, 54, 61, 90, 93, 96, 112, 130] [] [] [4, 6, 7]) (bodyOf f_laws_FnExactStrongestUnder) (l_laws_FnExactStrongestUnder gg xs c p) 0 (funPost (envO [k_laws_szPremiseS, k_laws_szProg, k_laws_szExpr, k_laws_toPremiseS, k_laws_toProg, k_laws_toExpr, k_laws_toSig, k_spec_StrongestUnder, k_laws_eqInt64S, k_laws_eqPremiseS, k_laws_eqProg, k_laws_eqExpr, k_laws_heldInt64S] [ko_laws_toPremiseS, ko_laws_toProg, ko_laws_toExpr, ko_impl_StrongestUnder] [mk_laws_markPremiseS, mk_laws_markProg, mk_laws_markExpr, mk_laws_markInt64S] [50, 52, 54, 61, 90, 93, 96, 112, 130] [] [] [4, 6, 7]) f_laws_FnExactStrongestUnder fun r => areEq r [⟨.bool, true⟩]) (startState f_laws_FnExactStrongestUnder [.val ⟨(.st .sig), gg⟩, .val ⟨(.slice (.st .premise)), xs⟩, .val ⟨(.st .expr), c⟩, .val ⟨(.st .prog), p⟩]) =
  (((0 ≤ (1048576 : Int) ∧ (1048576 : Int) ≤ 1048576) ∧ (inI64 (szR (xs.length + szL sz_premise xs) (1048576 : Int)) →
 (((decide ((szR (xs.length + szL sz_premise xs) (1048576 : Int)) < (0 : Int))) = true →
 true = true) ∧ ((decide ((szR (xs.length + szL sz_premise xs) (1048576 : Int)) < (0 : Int))) = false →
 ((0 ≤ (szR (xs.length + szL sz_premise xs) (1048576 : Int)) ∧ (szR (xs.length + szL sz_premise xs) (1048576 : Int)) ≤ 1048576) ∧ (inI64 (szR (sz_expr c) (szR (xs.length + szL sz_premise xs) (1048576 : Int))) →
 (((decide ((szR (sz_expr c) (szR (xs.length + szL sz_premise xs) (1048576 : Int))) < (0 : Int))) = true →
 true = true) ∧ ((decide ((szR (sz_expr c) (szR (xs.length + szL sz_premise xs) (1048576 : Int))) < (0 : Int))) = false →
 ((0 ≤ (szR (sz_expr c) (szR (xs.length + szL sz_premise xs) (1048576 : Int))) ∧ (szR (sz_expr c) (szR (xs.length + szL sz_premise xs) (1048576 : Int))) ≤ 1048576) ∧ (inI64 (szR (sz_prog p) (szR (sz_expr c) (szR (xs.length + szL sz_premise xs) (1048576 : Int)))) →
 (((decide ((szR (sz_prog p) (szR (sz_expr c) (szR (xs.length + szL sz_premise xs) (1048576 : Int)))) < (0 : Int))) = true →
 true = true) ∧ ((decide ((szR (sz_prog p) (szR (sz_expr c) (szR (xs.length + szL sz_premise xs) (1048576 : Int)))) < (0 : Int))) = false →
 (xs.length + szL sz_premise xs ≤ 1048576 ∧ (sz_expr c ≤ 1048576 ∧ (sz_prog p ≤ 1048576 ∧ (xs.length ≤ 140737488355328 →
 ((suV gg xs c p).length ≤ 140737488355328 →
 (inI64 (wuC gg xs p c) →
 (xs.length + szL sz_premise xs ≤ 1048576 ∧ (sz_expr c ≤ 1048576 ∧ (sz_prog p ≤ 1048576 ∧ (inI64 (wuC gg xs (e_prog p) (e_expr c)) →
 (((!(eqB (suV gg xs (e_expr c) (e_prog p)) (suV gg xs c p))) = false →
 (((!(decide ((wuC gg xs (e_prog p) (e_expr c)) = (wuC gg xs p c)))) = true →
 false = true) ∧ ((!(decide ((wuC gg xs (e_prog p) (e_expr c)) = (wuC gg xs p c)))) = false →
 (q_laws_FnExactStrongestUnder_4 gg xs c p)))) ∧ ((!(eqB (suV gg xs (e_expr c) (e_prog p)) (suV gg xs c p))) = (!false) →
 ((true = true →
 false = true) ∧ (true = false →
 (q_laws_FnExactStrongestUnder_4 gg xs c p)))))))))))))))))))))))))))) := by kernel_rfl
set_option maxRecDepth 4000 in
set_option maxHeartbeats 1000000 in
theorem ok_laws_FnExactStrongestUnder (hE : AllGood [k_laws_szPremiseS, k_laws_szProg, k_laws_szExpr, k_laws_toPremiseS, k_laws_toProg, k_laws_toExpr, k_laws_toSig, k_spec_StrongestUnder, k_laws_eqInt64S, k_laws_eqPremiseS, k_laws_eqProg, k_laws_eqExpr, k_laws_heldInt64S]) (hO : AllO [ko_laws_toPremiseS, ko_laws_toProg, ko_laws_toExpr, ko_impl_StrongestUnder]) (hM : AllM [mk_laws_markPremiseS, mk_laws_markProg, mk_laws_markExpr, mk_laws_markInt64S]) : Ctr.Good k_laws_FnExactStrongestUnder := by
  refine ⟨fnOk_of at_laws_FnExactStrongestUnder rfl (by decide), ?_⟩
  show ∀ (gg : GSig) (xs : List GPremise) (c : GExpr) (p : GProg), True → OkCall prog n_laws_FnExactStrongestUnder [.val ⟨(.st .sig), gg⟩, .val ⟨(.slice (.st .premise)), xs⟩, .val ⟨(.st .expr), c⟩, .val ⟨(.st .prog), p⟩] (· = [⟨.bool, true⟩])
  intro gg xs c p _
  refine ok_of_awpO (own := [50, 52, 54, 61, 90, 93, 96, 112, 130]) (wr := []) (cl := []) (ro := [4, 6, 7]) hE hO hM at_laws_FnExactStrongestUnder body_laws_FnExactStrongestUnder (l_laws_FnExactStrongestUnder gg xs c p) ?_
  rewrite [vc_laws_FnExactStrongestUnder gg xs c p]
  have f0 := szR_or (xs.length + szL sz_premise xs) (1048576)
  have f1 := szR_or (sz_expr c) (szR (xs.length + szL sz_premise xs) (1048576))
  have f2 := szR_or (sz_prog p) (szR (sz_expr c) (szR (xs.length + szL sz_premise xs) (1048576)))

  have g1 := cntP_sz xs
  have g2 := cntK_sz p
  have g3 := cnt_sz c
  have g4 := wuV_len gg xs p c
  have g5 := heldI_mk 1 (suV gg xs c p)
  have g6 := mkInts_length 1 (suV gg xs c p)
  refine ⟨?_, fun a0 => ⟨fun a1 => rfl, fun a1 => ⟨?_, fun a2 => ⟨fun a3 => rfl, fun a3 => ⟨?_, fun a4 => ⟨fun a5 => rfl, fun a5 => ⟨?_, ⟨?_, ⟨?_, fun a6 => fun a7 => fun a8 => ⟨?_, ⟨?_, ⟨?_, fun a9 => ⟨fun a10 => ⟨fun a11 => ?_, fun a11 => ⟨?_, fun a12 => ⟨fun a13 => ?_, fun a13 => ⟨?_, ⟨fun a14 => ?_, fun a14 => ⟨?_, ⟨fun a15 => ?_, fun a15 => ⟨?_, ⟨?_, ⟨?_, ⟨fun a16 => ⟨fun a17 => ⟨fun a18 => ?_, fun a18 => ⟨?_, ⟨?_, fun a19 => ⟨fun a20 => ?_, fun a20 => ⟨fun a21 => ?_, fun a21 => ⟨?_, ⟨?_, fun a22 => ⟨?_, fun a23 => ⟨fun a24 => ⟨fun a25 => ?_, fun a25 => ⟨?_, fun a26 => ⟨fun a27 => ?_, fun a27 => ⟨fun a28 => ?_, fun a28 => rfl⟩⟩⟩⟩, fun a24 => ⟨fun a25 => ?_, fun a25 => ⟨?_, fun a26 => ⟨fun a27 => ?_, fun a27 => ⟨fun a28 => ?_, fun a28 => rfl⟩⟩⟩⟩⟩⟩⟩⟩⟩⟩⟩⟩⟩, fun a17 => ⟨fun a18 => ?_, fun a18 => ⟨?_, ⟨?_, fun a19 => ⟨fun a20 => ?_, fun a20 => ⟨fun a21 => ?_, fun a21 => ⟨?_, ⟨?_, fun a22 => ⟨?_, fun a23 => ⟨fun a24 => ⟨fun a25 => ?_, fun a25 => ⟨?_, fun a26 => ⟨fun a27 => ?_, fun a27 => ⟨fun a28 => ?_, fun a28 => rfl⟩⟩⟩⟩, fun a24 => ⟨fun a25 => ?_, fun a25 => ⟨?_, fun a26 => ⟨fun a27 => ?_, fun a27 => ⟨fun a28 => ?_, fun a28 => rfl⟩⟩⟩⟩⟩⟩⟩⟩⟩⟩⟩⟩⟩⟩, fun a16 => ⟨fun a17 => ⟨fun a18 => ?_, fun a18 => ⟨?_, ⟨?_, fun a19 => ⟨fun a20 => ?_, fun a20 => ⟨fun a21 => ?_, fun a21 => ⟨?_, ⟨?_, fun a22 => ⟨?_, fun a23 => ⟨fun a24 => ⟨fun a25 => ?_, fun a25 => ⟨?_, fun a26 => ⟨fun a27 => ?_, fun a27 => ⟨fun a28 => ?_, fun a28 => rfl⟩⟩⟩⟩, fun a24 => ⟨fun a25 => ?_, fun a25 => ⟨?_, fun a26 => ⟨fun a27 => ?_, fun a27 => ⟨fun a28 => ?_, fun a28 => rfl⟩⟩⟩⟩⟩⟩⟩⟩⟩⟩⟩⟩⟩, fun a17 => ⟨fun a18 => ?_, fun a18 => ⟨?_, ⟨?_, fun a19 => ⟨fun a20 => ?_, fun a20 => ⟨fun a21 => ?_, fun a21 => ⟨?_, ⟨?_, fun a22 => ⟨?_, fun a23 => ⟨fun a24 => ⟨fun a25 => ?_, fun a25 => ⟨?_, fun a26 => ⟨fun a27 => ?_, fun a27 => ⟨fun a28 => ?_, fun a28 => rfl⟩⟩⟩⟩, fun a24 => ⟨fun a25 => ?_, fun a25 => ⟨?_, fun a26 => ⟨fun a27 => ?_, fun a27 => ⟨fun a28 => ?_, fun a28 => rfl⟩⟩⟩⟩⟩⟩⟩⟩⟩⟩⟩⟩⟩⟩⟩⟩⟩⟩⟩⟩⟩⟩⟩⟩⟩, fun a10 => ⟨fun a11 => ?_, fun a11 => ⟨?_, fun a12 => ⟨fun a13 => ?_, fun a13 => ⟨?_, ⟨fun a14 => ?_, fun a14 => ⟨?_, ⟨fun a15 => ?_, fun a15 => ⟨?_, ⟨?_, ⟨?_, ⟨fun a16 => ⟨fun a17 => ⟨fun a18 => ?_, fun a18 => ⟨?_, ⟨?_, fun a19 => ⟨fun a20 => ?_, fun a20 => ⟨fun a21 => ?_, fun a21 => ⟨?_, ⟨?_, fun a22 => ⟨?_, fun a23 => ⟨fun a24 => ⟨fun a25 => ?_, fun a25 => ⟨?_, fun a26 => ⟨fun a27 => ?_, fun a27 => ⟨fun a28 => ?_, fun a28 => rfl⟩⟩⟩⟩, fun a24 => ⟨fun a25 => ?_, fun a25 => ⟨?_, fun a26 => ⟨fun a27 => ?_, fun a27 => ⟨fun a28 => ?_, fun a28 => rfl⟩⟩⟩⟩⟩⟩⟩⟩⟩⟩⟩⟩⟩, fun a17 => ⟨fun a18 => ?_, fun a18 => ⟨?_, ⟨?_, fun a19 => ⟨fun a20 => ?_, fun a20 => ⟨fun a21 => ?_, fun a21 => ⟨?_, ⟨?_, fun a22 => ⟨?_, fun a23 => ⟨fun a24 => ⟨fun a25 => ?_, fun a25 => ⟨?_, fun a26 => ⟨fun a27 => ?_, fun a27 => ⟨fun a28 => ?_, fun a28 => rfl⟩⟩⟩⟩, fun a24 => ⟨fun a25 => ?_, fun a25 => ⟨?_, fun a26 => ⟨fun a27 => ?_, fun a27 => ⟨fun a28 => ?_, fun a28 => rfl⟩⟩⟩⟩⟩⟩⟩⟩⟩⟩⟩⟩⟩⟩, fun a16 => ⟨fun a17 => ⟨fun a18 => ?_, fun a18 => ⟨?_, ⟨?_, fun a19 => ⟨fun a20 => ?_, fun a20 => ⟨fun a21 => ?_, fun a21 => ⟨?_, ⟨?_, fun a22 => ⟨?_, fun a23 => ⟨fun a24 => ⟨fun a25 => ?_, fun a25 => ⟨?_, fun a26 => ⟨fun a27 => ?_, fun a27 => ⟨fun a28 => ?_, fun a28 => rfl⟩⟩⟩⟩, fun a24 => ⟨fun a25 => ?_, fun a25 => ⟨?_, fun a26 => ⟨fun a27 => ?_, fun a27 => ⟨fun a28 => ?_, fun a28 => rfl⟩⟩⟩⟩⟩⟩⟩⟩⟩⟩⟩⟩⟩, fun a17 => ⟨fun a18 => ?_, fun a18 => ⟨?_, ⟨?_, fun a19 => ⟨fun a20 => ?_, fun a20 => ⟨fun a21 => ?_, fun a21 => ⟨?_, ⟨?_, fun a22 => ⟨?_, fun a23 => ⟨fun a24 => ⟨fun a25 => ?_, fun a25 => ⟨?_, fun a26 => ⟨fun a27 => ?_, fun a27 => ⟨fun a28 => ?_, fun a28 => rfl⟩⟩⟩⟩, fun a24 => ⟨fun a25 => ?_, fun a25 => ⟨?_, fun a26 => ⟨fun a27 => ?_, fun a27 => ⟨fun a28 => ?_, fun a28 => rfl⟩⟩⟩⟩⟩⟩⟩⟩⟩⟩⟩⟩⟩⟩⟩⟩⟩⟩⟩⟩⟩⟩⟩⟩⟩⟩⟩⟩⟩⟩⟩⟩⟩⟩⟩⟩⟩⟩
  all_goals try and_intros
  all_goals try simp only [GExpr.eta, GProg.eta, GDerivation.eta, GTriple.eta, GPremise.eta, GClaim.eta, GEquation.eta, GPair.eta, GSpot.eta, e_expr_eq, e_pair_eq, e_equation_eq, e_claim_eq, e_prog_eq, e_spot_eq, e_triple_eq, e_premise_eq, e_derivation_eq] at *
  all_goals first | rfl | trivial | omega | (simp only [decide_eq_true_eq, decide_eq_false_iff_not, idxOk, inI64, inKind, cutOk, makeOk, roomOk] at *; omega) | (simp [idxOk, inI64] at *; omega) | grind | (simp_all; done)

theorem good_laws_FnExactStrongestUnder : Ctr.Good k_laws_FnExactStrongestUnder := ok_laws_FnExactStrongestUnder ⟨good_laws_szPremiseS, good_laws_szProg, good_laws_szExpr, good_laws_toPremiseS, good_laws_toProg, good_laws_toExpr, good_laws_toSig, good_spec_StrongestUnder, good_laws_eqInt64S, good_laws_eqPremiseS, good_laws_eqProg, good_laws_eqExpr, good_laws_heldInt64S, trivial⟩ ⟨ogood_laws_toPremiseS, ogood_laws_toProg, ogood_laws_toExpr, ogood_impl_StrongestUnder, trivial⟩ ⟨mgood_laws_markPremiseS, mgood_laws_markProg, mgood_laws_markExpr, mgood_laws_markInt64S, trivial⟩

theorem law_FnExactStrongestUnder : ∀ tvs : List TV, tvs.map TV.τ = [(.st .sig), (.slice (.st .premise)), (.st .expr), (.st .prog)] → OkCall prog n_laws_FnExactStrongestUnder (tvs.map .val) (· = [⟨.bool, true⟩]) := by
  intro tvs h
  match tvs, h with
  | [⟨t0, a0⟩, ⟨t1, a1⟩, ⟨t2, a2⟩, ⟨t3, a3⟩], h =>
    simp only [List.map_cons, List.map_nil, List.cons.injEq, and_true] at h
    obtain ⟨rfl, rfl, rfl, rfl⟩ := h
    exact good_laws_FnExactStrongestUnder.2 a0 a1 a2 a3 trivial

end
end Go.Proofs.Ytcdppmpjplhgkaa

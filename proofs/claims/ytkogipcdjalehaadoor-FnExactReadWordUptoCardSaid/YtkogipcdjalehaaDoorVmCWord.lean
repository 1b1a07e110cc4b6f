/- The law FnExactReadWord. Printed by vmk.py. -/
import Derived.Test.YtkogipcdjalehaaDoorVmUse
import Derived.Test.YtkogipcdjalehaaDoorVmLib
import Derived.Test.YtkogipcdjalehaaDoorVmSz
import Derived.Test.YtkogipcdjalehaaDoorVmTo
import Derived.Test.YtkogipcdjalehaaDoorVmEq
import Derived.Test.YtkogipcdjalehaaDoorVmOwnFam
import Derived.Test.YtkogipcdjalehaaDoorVmWord2
set_option linter.unusedVariables false
set_option linter.unusedSimpArgs false
set_option linter.unusedSectionVars false
set_option maxRecDepth 4000
set_option maxHeartbeats 4000000
namespace Go.Proofs.YtkogipcdjalehaaDoor
noncomputable section
def heldW (k : Int) (x : GWord) : Int := bif okInts k x.atoms && okInts (k + (x.atoms.length : Int)) x.acts then k + (x.atoms.length : Int) + (x.acts.length : Int) else -1
theorem heldI_or (k : Int) (xs : List Int) : (okInts k xs = true ∧ heldI k xs = k + (xs.length : Int)) ∨ (okInts k xs = false ∧ heldI k xs = -1) := by
 unfold heldI
 cases okInts k xs <;> simp
theorem heldW_or (k : Int) (x : GWord) : heldW k x = bif okInts k x.atoms && okInts (k + (x.atoms.length : Int)) x.acts then k + (x.atoms.length : Int) + (x.acts.length : Int) else -1 := rfl
theorem heldW_mk (k : Int) (a b : List Int) : heldW k ⟨mkInts k a, mkInts (k + (a.length : Int)) b⟩ = k + (a.length : Int) + (b.length : Int) := by
 simp [heldW, okInts_mk, mkInts_length]
theorem rwV_len (gg : GSig) (t : List UInt8) : (rwV gg t).atoms.length + (rwV gg t).acts.length ≤ t.length + 1 := by
 unfold rwV
 have := eo_len (cutL 32 t) (cutL 32 t).length
 have := cut32_len t
 cases sigOk gg && rwI gg t
 ·simp
 ·simp only [cond_true, rwW]; omega
def mk_laws_markWord : MK := ⟨n_laws_markWord, ⟨(.st .word), fun (x : GWord) (k : Int) => (some (0 ≤ k ∧ k + (x.atoms.length : Int) + (x.acts.length : Int) ≤ 4611686018427387904), (GWord.mk (mkInts k x.atoms) (mkInts (k + (x.atoms.length : Int)) x.acts)), k + (x.atoms.length : Int) + (x.acts.length : Int))⟩⟩
def lm_laws_markWord (x : GWord) (k : Int) : Nat → LoopInv := fun _ => .none
theorem vcm_laws_markWord (x : GWord) (k : Int) : awp (envO [] [] [mk_laws_markInt64S] [8, 12] []) (bodyOf f_laws_markWord) (lm_laws_markWord x k) 0 (markPost f_laws_markWord mk_laws_markWord.m x k) (markStart f_laws_markWord ⟨(.st .word), x⟩ k) =
 (((0 ≤ k ∧ k + (x.atoms.length : Int) ≤ 4611686018427387904) ∧ ((0 ≤ (k + (x.atoms.length : Int)) ∧ (k + (x.atoms.length : Int)) + (x.acts.length : Int) ≤ 4611686018427387904) ∧ (((k + (x.atoms.length : Int)) + (x.acts.length : Int)) = (k + (x.atoms.length : Int) + (x.acts.length : Int)) ∧ (GWord.mk (mkInts k x.atoms) (mkInts (k + (x.atoms.length : Int)) x.acts)) = (GWord.mk (mkInts k x.atoms) (mkInts (k + (x.atoms.length : Int)) x.acts)))))) := by kernel_rfl
theorem okm_laws_markWord (hE : AllGood []) (hO : AllO []) (hM : AllM [mk_laws_markInt64S]) (hS : AllS []) : MK.Good mk_laws_markWord := by
 refine ⟨fnOk_of at_laws_markWord rfl (by decide), mark_of_awp (own := [8, 12]) (wr := []) (cl := []) (ro := []) hE hO hM hS at_laws_markWord body_laws_markWord (fun x k => lm_laws_markWord x k) (fun x => Nat.le_of_ble_eq_true rfl) (Nat.le_of_ble_eq_true (by kernel_rfl)) ?_⟩
 show ∀ (x : GWord) (k : Int), (0 ≤ k ∧ k + (x.atoms.length : Int) + (x.acts.length : Int) ≤ 4611686018427387904) → inI64 k → awp (envO [] [] [mk_laws_markInt64S] [8, 12] []) (bodyOf f_laws_markWord) (lm_laws_markWord x k) 0 (markPost f_laws_markWord mk_laws_markWord.m x k) (markStart f_laws_markWord ⟨(.st .word), x⟩ k)
 intro x k hp hk
 rewrite [vcm_laws_markWord x k]
 refine ⟨?_, ⟨?_, ⟨?_, rfl⟩⟩⟩
 all_goals try and_intros
 all_goals first | rfl | trivial | omega | (simp only [decide_eq_true_eq, decide_eq_false_iff_not, idxOk, inI64, inKind, cutOk, makeOk, roomOk] at *; omega) | (simp [idxOk, inI64] at *; omega) | grind
theorem mgood_laws_markWord : MK.Good mk_laws_markWord := okm_laws_markWord trivial trivial ⟨mgood_laws_markInt64S, trivial⟩ trivial
def k_laws_heldWord : Ctr := ⟨n_laws_heldWord, [.v (.st .word), .v (.int .i64)], fun (x : GWord) (k : Int) => ⟨(some (0 ≤ k ∧ k + (x.atoms.length : Int) + (x.acts.length : Int) ≤ 4611686018427387904), [⟨(.int .i64), heldW k x⟩])⟩⟩
def l_laws_heldWord (x : GWord) (k : Int) : Nat → LoopInv := fun _ => .none
theorem vc_laws_heldWord (x : GWord) (k : Int) : awp (envOf [k_laws_heldInt64S] [] [] [2]) (bodyOf f_laws_heldWord) (l_laws_heldWord x k) 0 (funPost (envOf [k_laws_heldInt64S] [] [] [2]) f_laws_heldWord fun r => areEq r [⟨(.int .i64), heldW k x⟩]) (startState f_laws_heldWord [.val ⟨(.st .word), x⟩, .val ⟨(.int .i64), k⟩]) =
 ((x.atoms.length ≤ 140737488355328 →
 ((0 ≤ k ∧ k + (x.atoms.length : Int) ≤ 4611686018427387904) ∧ (inI64 (heldI k x.atoms) →
 (((decide ((heldI k x.atoms) < (0 : Int))) = true →
 (-1 : Int) = (heldW k x)) ∧ ((decide ((heldI k x.atoms) < (0 : Int))) = false →
 (x.acts.length ≤ 140737488355328 →
 ((0 ≤ (heldI k x.atoms) ∧ (heldI k x.atoms) + (x.acts.length : Int) ≤ 4611686018427387904) ∧ (inI64 (heldI (heldI k x.atoms) x.acts) →
 (((decide ((heldI (heldI k x.atoms) x.acts) < (0 : Int))) = true →
 (-1 : Int) = (heldW k x)) ∧ ((decide ((heldI (heldI k x.atoms) x.acts) < (0 : Int))) = false →
 (heldI (heldI k x.atoms) x.acts) = (heldW k x)))))))))))) := by kernel_rfl
theorem ok_laws_heldWord (hE : AllGood [k_laws_heldInt64S]) : Ctr.Good k_laws_heldWord := by
 refine ⟨fnOk_of at_laws_heldWord rfl (by decide), ?_⟩
 show ∀ (x : GWord) (k : Int), (0 ≤ k ∧ k + (x.atoms.length : Int) + (x.acts.length : Int) ≤ 4611686018427387904) → OkCall prog n_laws_heldWord [.val ⟨(.st .word), x⟩, .val ⟨(.int .i64), k⟩] (· = [⟨(.int .i64), heldW k x⟩])
 intro x k hp
 refine ok_of_awp (wr := []) (cl := []) (ro := [2]) hE at_laws_heldWord body_laws_heldWord (l_laws_heldWord x k) ?_
 rewrite [vc_laws_heldWord x k]
 have f1 := heldI_or k x.atoms
 have f2 := heldI_or (k + (x.atoms.length : Int)) x.acts
 have f3 := heldW_or k x
 refine fun a0 => ⟨?_, fun a1 => ⟨fun a2 => ?_, fun a2 => fun a3 => ⟨?_, fun a4 => ⟨fun a5 => ?_, fun a5 => ?_⟩⟩⟩⟩
 all_goals try and_intros
 all_goals first | rfl | trivial | (rcases f1 with ⟨a1, a2⟩ | ⟨a1, a2⟩ <;> simp only [a1, a2, decide_eq_true_eq, decide_eq_false_iff_not] at * <;> first | omega | (rcases f2 with ⟨b1, b2⟩ | ⟨b1, b2⟩ <;> simp only [b1, b2, Bool.and_true, Bool.and_false, Bool.false_and, cond_true, cond_false] at * <;> first | omega | simp_all | grind) | grind)
theorem good_laws_heldWord : Ctr.Good k_laws_heldWord := ok_laws_heldWord ⟨good_laws_heldInt64S, trivial⟩
def k_laws_FnExactReadWord : Ctr := ⟨n_laws_FnExactReadWord, [.v (.st .sig), .v .str], fun (gg : GSig) (t : List UInt8) => ⟨(none, [⟨.bool, true⟩])⟩⟩
def l_laws_FnExactReadWord (gg : GSig) (t : List UInt8) : Nat → LoopInv := fun _ => .none
abbrev j_laws_FnExactReadWord_0 (gg : GSig) (t : List UInt8) : Prop := ((decide ((heldW (1 : Int) ((GWord.mk (mkInts (1 : Int) (rwV gg t).atoms) (mkInts ((1 : Int) + ((rwV gg t).atoms.length : Int)) (rwV gg t).acts)))) < (0 : Int))) = true →
 false = true)
abbrev j_laws_FnExactReadWord_1 (gg : GSig) (t : List UInt8) : Prop := ((!(decide ((heldW (1 : Int) ((GWord.mk (mkInts (1 : Int) (rwV gg t).atoms) (mkInts ((1 : Int) + ((rwV gg t).atoms.length : Int)) (rwV gg t).acts)))) = ((1 : Int) + ((rwV gg t).atoms.length : Int) + ((rwV gg t).acts.length : Int))))) = true →
 false = true)
abbrev j_laws_FnExactReadWord_2 (gg : GSig) (t : List UInt8) : Prop := ((0 ≤ (1 : Int) ∧ (1 : Int) + (((GWord.mk (mkInts (1 : Int) (rwV gg t).atoms) (mkInts ((1 : Int) + ((rwV gg t).atoms.length : Int)) (rwV gg t).acts))).atoms.length : Int) + (((GWord.mk (mkInts (1 : Int) (rwV gg t).atoms) (mkInts ((1 : Int) + ((rwV gg t).atoms.length : Int)) (rwV gg t).acts))).acts.length : Int) ≤ 4611686018427387904) ∧ (inI64 (heldW (1 : Int) ((GWord.mk (mkInts (1 : Int) (rwV gg t).atoms) (mkInts ((1 : Int) + ((rwV gg t).atoms.length : Int)) (rwV gg t).acts)))) →
 ((j_laws_FnExactReadWord_0 gg t) ∧ ((decide ((heldW (1 : Int) ((GWord.mk (mkInts (1 : Int) (rwV gg t).atoms) (mkInts ((1 : Int) + ((rwV gg t).atoms.length : Int)) (rwV gg t).acts)))) < (0 : Int))) = false →
 ((j_laws_FnExactReadWord_1 gg t) ∧ ((!(decide ((heldW (1 : Int) ((GWord.mk (mkInts (1 : Int) (rwV gg t).atoms) (mkInts ((1 : Int) + ((rwV gg t).atoms.length : Int)) (rwV gg t).acts)))) = ((1 : Int) + ((rwV gg t).atoms.length : Int) + ((rwV gg t).acts.length : Int))))) = false →
 true = true))))))
abbrev j_laws_FnExactReadWord_3 (gg : GSig) (t : List UInt8) : Prop := ((0 ≤ (1 : Int) ∧ (1 : Int) + ((rwV gg t).atoms.length : Int) + ((rwV gg t).acts.length : Int) ≤ 4611686018427387904) ∧ ((0 ≤ (1 : Int) ∧ (1 : Int) + (((GWord.mk (mkInts (1 : Int) (rwV gg t).atoms) (mkInts ((1 : Int) + ((rwV gg t).atoms.length : Int)) (rwV gg t).acts))).atoms.length : Int) + (((GWord.mk (mkInts (1 : Int) (rwV gg t).atoms) (mkInts ((1 : Int) + ((rwV gg t).atoms.length : Int)) (rwV gg t).acts))).acts.length : Int) ≤ 4611686018427387904) ∧ (inI64 (heldW (1 : Int) ((GWord.mk (mkInts (1 : Int) (rwV gg t).atoms) (mkInts ((1 : Int) + ((rwV gg t).atoms.length : Int)) (rwV gg t).acts)))) →
 ((j_laws_FnExactReadWord_0 gg t) ∧ ((decide ((heldW (1 : Int) ((GWord.mk (mkInts (1 : Int) (rwV gg t).atoms) (mkInts ((1 : Int) + ((rwV gg t).atoms.length : Int)) (rwV gg t).acts)))) < (0 : Int))) = false →
 ((j_laws_FnExactReadWord_1 gg t) ∧ ((!(decide ((heldW (1 : Int) ((GWord.mk (mkInts (1 : Int) (rwV gg t).atoms) (mkInts ((1 : Int) + ((rwV gg t).atoms.length : Int)) (rwV gg t).acts)))) = ((1 : Int) + ((rwV gg t).atoms.length : Int) + ((rwV gg t).acts.length : Int))))) = false →
 (t.length ≤ 1048576 ∧ (inI64 (rwC gg t) →
 (((!(eqB (rwV gg t) (rwV gg t))) = false →
 (((!(decide ((rwC gg t) = (rwC gg t)))) = true →
 false = true) ∧ ((!(decide ((rwC gg t) = (rwC gg t)))) = false →
 (j_laws_FnExactReadWord_2 gg t)))) ∧ ((!(eqB (rwV gg t) (rwV gg t))) = (!false) →
 ((true = true →
 false = true) ∧ (true = false →
 (j_laws_FnExactReadWord_2 gg t))))))))))))))
theorem vc_laws_FnExactReadWord (gg : GSig) (t : List UInt8) : awp (envO [k_laws_toSig, k_laws_eqWord, k_laws_heldWord] [ko_spec_ReadWord, ko_impl_ReadWord] [mk_laws_markWord] [20, 27, 41, 54] [] [] [2]) (bodyOf f_laws_FnExactReadWord) (l_laws_FnExactReadWord gg t) 0 (funPost (envO [k_laws_toSig, k_laws_eqWord, k_laws_heldWord] [ko_spec_ReadWord, ko_impl_ReadWord] [mk_laws_markWord] [20, 27, 41, 54] [] [] [2]) f_laws_FnExactReadWord fun r => areEq r [⟨.bool, true⟩]) (startState f_laws_FnExactReadWord [.val ⟨(.st .sig), gg⟩, .val ⟨.str, t⟩]) =
 ((inI64 ((t.length : Int)) →
 (((decide ((1048576 : Int) < ((t.length : Int)))) = true →
 true = true) ∧ ((decide ((1048576 : Int) < ((t.length : Int)))) = false →
 (t.length ≤ 1048576 ∧ (inI64 (rwC gg t) →
 (t.length ≤ 1048576 ∧ (inI64 (rwC gg t) →
 (((!(eqB (rwV gg t) (rwV gg t))) = false →
 (((!(decide ((rwC gg t) = (rwC gg t)))) = true →
 false = true) ∧ ((!(decide ((rwC gg t) = (rwC gg t)))) = false →
 (j_laws_FnExactReadWord_3 gg t)))) ∧ ((!(eqB (rwV gg t) (rwV gg t))) = (!false) →
 ((true = true →
 false = true) ∧ (true = false →
 (j_laws_FnExactReadWord_3 gg t))))))))))))) := by kernel_rfl
theorem ok_laws_FnExactReadWord (hE : AllGood [k_laws_toSig, k_laws_eqWord, k_laws_heldWord]) (hO : AllO [ko_spec_ReadWord, ko_impl_ReadWord]) (hM : AllM [mk_laws_markWord]) (hS : AllS []) : Ctr.Good k_laws_FnExactReadWord := by
 refine ⟨fnOk_of at_laws_FnExactReadWord rfl (by decide), ?_⟩
 show ∀ (gg : GSig) (t : List UInt8), True → OkCall prog n_laws_FnExactReadWord [.val ⟨(.st .sig), gg⟩, .val ⟨.str, t⟩] (· = [⟨.bool, true⟩])
 intro gg t _
 refine ok_of_awpO (own := [20, 27, 41, 54]) (wr := []) (cl := []) (ro := [2]) hE hO hM hS at_laws_FnExactReadWord body_laws_FnExactReadWord (l_laws_FnExactReadWord gg t) ?_
 rewrite [vc_laws_FnExactReadWord gg t]
 have f0 := rwV_len gg t
 have f1 := heldW_mk 1 (rwV gg t).atoms (rwV gg t).acts
 have f2 := mkInts_length 1 (rwV gg t).atoms
 have f3 := mkInts_length (1 + ((rwV gg t).atoms.length : Int)) (rwV gg t).acts
 refine fun a0 => ⟨fun a1 => rfl, fun a1 => ⟨?_, fun a2 => ⟨?_, fun a3 => ⟨fun a4 => ⟨fun a5 => ?_, fun a5 => ⟨?_, ⟨?_, fun a6 => ⟨fun a7 => ?_, fun a7 => ⟨fun a8 => ?_, fun a8 => ⟨?_, fun a9 => ⟨fun a10 => ⟨fun a11 => ?_, fun a11 => ⟨?_, fun a12 => ⟨fun a13 => ?_, fun a13 => ⟨fun a14 => ?_, fun a14 => rfl⟩⟩⟩⟩, fun a10 => ⟨fun a11 => ?_, fun a11 => ⟨?_, fun a12 => ⟨fun a13 => ?_, fun a13 => ⟨fun a14 => ?_, fun a14 => rfl⟩⟩⟩⟩⟩⟩⟩⟩⟩⟩⟩, fun a4 => ⟨fun a5 => ?_, fun a5 => ⟨?_, ⟨?_, fun a6 => ⟨fun a7 => ?_, fun a7 => ⟨fun a8 => ?_, fun a8 => ⟨?_, fun a9 => ⟨fun a10 => ⟨fun a11 => ?_, fun a11 => ⟨?_, fun a12 => ⟨fun a13 => ?_, fun a13 => ⟨fun a14 => ?_, fun a14 => rfl⟩⟩⟩⟩, fun a10 => ⟨fun a11 => ?_, fun a11 => ⟨?_, fun a12 => ⟨fun a13 => ?_, fun a13 => ⟨fun a14 => ?_, fun a14 => rfl⟩⟩⟩⟩⟩⟩⟩⟩⟩⟩⟩⟩⟩⟩⟩
 all_goals try and_intros
 all_goals first | rfl | trivial | omega | (simp only [decide_eq_true_eq, decide_eq_false_iff_not, idxOk, inI64, inKind, cutOk, makeOk, roomOk] at *; omega) | (simp [idxOk, inI64] at *; omega) | grind | (simp_all; done)
theorem good_laws_FnExactReadWord : Ctr.Good k_laws_FnExactReadWord := ok_laws_FnExactReadWord ⟨good_laws_toSig, good_laws_eqWord, good_laws_heldWord, trivial⟩ ⟨ogood_spec_ReadWord, ogood_impl_ReadWord, trivial⟩ ⟨mgood_laws_markWord, trivial⟩ trivial
theorem law_FnExactReadWord : ∀ tvs : List TV, tvs.map TV.τ = [(.st .sig), .str] → OkCall prog n_laws_FnExactReadWord (tvs.map .val) (· = [⟨.bool, true⟩]) := by
 intro tvs h
 match tvs, h with
 | [⟨t0, a0⟩, ⟨t1, a1⟩], h =>
  simp only [List.map_cons, List.map_nil, List.cons.injEq, and_true] at h
  obtain ⟨rfl, rfl⟩ := h
  exact good_laws_FnExactReadWord.2 a0 a1 trivial
end
end Go.Proofs.YtkogipcdjalehaaDoor

/- Shelf3, Cut, Eqn. -/
import Derived.Shelf.Strings.Builder1
import Derived.Shelf.Strconv.Itoa0
import Derived.Shelf.Strconv.Itoa1
import Derived.Shelf.LaysM
import Derived.Shelf.Strconv.Itoa2
import Derived.Shelf.Strconv.Itoa3
import Derived.Shelf.Strings.Search1
import Derived.Shelf.Strings.Search2
import Derived.Shelf.Strings.Cut
import Derived.Shelf.Strings.Shaped
import Derived.Test.YtbphjcgkidlabaaDoorProg
import Derived.Test.YtbphjcgkidlabaaDoorVmUse
import Derived.Test.YtbphjcgkidlabaaDoorVmLib
import Derived.Test.YtbphjcgkidlabaaDoorVmValid
import Derived.Test.YtbphjcgkidlabaaDoorVmRdx
namespace Go.Proofs
open Go.Shelf
def Tryd.lays145_ren : Go.Shelf.Ren := ⟨fun | 145 => 19 | 220 => 25 | 219 => 36 | 217 => 48 | 225 => 49 | 224 => 50 | 267 => 51 | 266 => 62 | 314 => 63 | n => n, fun | 9 => 9 | 4 => 4 | 59 => 41 | 3 => 3 | 5 => 5 | 46 => 82 | 146 => 96 | 51 => 95 | n => n, fun | 1 => 0 | n => n⟩
theorem Tryd.lays145 : Go.Proofs.Lays.n145 Tryd.prog Tryd.lays145_ren := {
 mixed := by kernel_rfl
 f145 := Tryd.func19.trans (congrArg some (by kernel_rfl))
 f217 := Tryd.func48.trans (congrArg some (by kernel_rfl))
 f219 := Tryd.func36.trans (congrArg some (by kernel_rfl))
 f220 := Tryd.func25.trans (congrArg some (by kernel_rfl))
 f224 := Tryd.func50.trans (congrArg some (by kernel_rfl))
 f225 := Tryd.func49.trans (congrArg some (by kernel_rfl))
 f266 := Tryd.func62.trans (congrArg some (by kernel_rfl))
 f267 := Tryd.func51.trans (congrArg some (by kernel_rfl))
 f314 := Tryd.func63.trans (congrArg some (by kernel_rfl))
 t3 := Tryd.underlying3
 a3 := Tryd.isAgg3
 z3 := Tryd.sizeOf3
 v3 := Tryd.zeroValue3
 t4 := Tryd.underlying4
 a4 := Tryd.isAgg4
 z4 := Tryd.sizeOf4
 v4 := Tryd.zeroValue4
 t5 := Tryd.underlying5
 a5 := Tryd.isAgg5
 z5 := Tryd.sizeOf5
 v5 := Tryd.zeroValue5
 t9 := Tryd.underlying9
 a9 := Tryd.isAgg9
 z9 := Tryd.sizeOf9
 v9 := Tryd.zeroValue9
 t46 := Tryd.underlying82
 a46 := Tryd.isAgg82
 z46 := Tryd.sizeOf82
 v46 := Tryd.zeroValue82
 t51 := Tryd.underlying95
 a51 := Tryd.isAgg95
 z51 := Tryd.sizeOf95
 v51 := Tryd.zeroValue95
 t59 := Tryd.underlying41
 a59 := Tryd.isAgg41
 z59 := Tryd.sizeOf41
 v59 := Tryd.zeroValue41
 t146 := Tryd.underlying96
 a146 := Tryd.isAgg96
 z146 := Tryd.sizeOf96
 v146 := Tryd.zeroValue96
 g1 := by kernel_rfl }
open Go.RowKit Go.Lib in
theorem Tryd.strings_Cut (s sep : ByteArray) (m : Int) (w : World) (hs : s.size < 4294967281) (hm : w.cell? ⟨0, 0, none⟩ = some (.int .i64 m)) :
  Calls Tryd.prog 19 #[.string s, .string sep] w fun e w' => e = .returned (.tuple #[.string ⟨(Lib.cut s.data.toList sep.data.toList).1.toArray⟩, .string ⟨(Lib.cut s.data.toList sep.data.toList).2.1.toArray⟩, .bool (Lib.cut s.data.toList sep.data.toList).2.2]) ∧ ∃ n, w' = w.drewN n := Any.strings_Cut Tryd.lays145 s sep m w hs hm
end Go.Proofs

set_option linter.unusedVariables false
set_option linter.unusedSimpArgs false
set_option linter.unusedSectionVars false
set_option maxRecDepth 4000
set_option maxHeartbeats 4000000
namespace Go.Proofs.YtbphjcgkidlabaaDoor
noncomputable section
open Go.RowKit Go.Proofs
def cutZ (s p : List UInt8) : List UInt8 := (Lib.cut s p).1
def cutB (s p : List UInt8) : List UInt8 := (Lib.cut s p).2.1
def cutC (s p : List UInt8) : Bool := (Lib.cut s p).2.2
def cutA (s p : List UInt8) : List UInt8 := bif cutC s p then cutZ s p else []
theorem occ_iff (s p : List UInt8) (i : Nat) : Lib.occAt s p i = true ↔ (s.take (i + p.length)).drop i = p := by
 unfold Lib.occAt
 rw [List.isPrefixOf_iff_prefix, List.prefix_iff_eq_take, List.drop_take, Nat.add_sub_cancel_left]
 exact eq_comm
theorem cut_hit (s p : List UInt8) (i : Nat) (h : Lib.NoOcc s p i) (hi : i + p.length ≤ s.length) (e : (s.take (i + p.length)).drop i = p) : cutA s p = s.take i ∧ cutB s p = s.drop (i + p.length) ∧ cutC s p = true := by
 have hx := Lib.index_hit h (by omega) ((occ_iff s p i).2 e)
 have hc : Lib.cut s p = (s.take i, s.drop (i + p.length), true) := by
  unfold Lib.cut
  rw [hx, if_pos (by omega), Int.toNat_natCast]
 simp [cutA, cutB, cutC, cutZ, hc]
theorem cut_go (s p : List UInt8) (i : Nat) (h : Lib.NoOcc s p i) (e : ¬ (s.take (i + p.length)).drop i = p) : Lib.NoOcc s p (i + 1) :=
 h.succ (by
  cases q : Lib.occAt s p i with
  | false => rfl
  | true => exact absurd ((occ_iff s p i).1 q) e)
theorem cut_end (s p : List UInt8) (i : Nat) (h : Lib.NoOcc s p i) (hp : 1 ≤ p.length) (hi : s.length < i + p.length) : cutA s p = [] ∧ cutB s p = [] ∧ cutC s p = false := by
 have hx := Lib.index_past (fun e => by rw [e] at hp; simp at hp) h hi
 have hc : Lib.cut s p = (s, [], false) := by
  unfold Lib.cut
  rw [hx]; rfl
 simp [cutA, cutB, cutC, cutZ, hc]
theorem natAdd (a b : Nat) : ((a : Int) + (b : Int)).toNat = a + b := by omega
theorem cut_lens (s p : List UInt8) : (cutZ s p).length ≤ s.length ∧ (cutB s p).length ≤ s.length := by
 unfold cutZ cutB Lib.cut
 split
 ·simp only [List.length_take, List.length_drop]; omega
 ·simp
def k_spec_l04Cut : Ctr := ⟨n_spec_l04Cut, [.v .str, .v .str], fun (s : List UInt8) (p : List UInt8) => ⟨(some (s.length ≤ 1048576 ∧ 1 ≤ p.length ∧ p.length ≤ 100), [⟨.str, cutA s p⟩, ⟨.str, cutB s p⟩, ⟨.bool, cutC s p⟩])⟩⟩
def l_spec_l04Cut (s : List UInt8) (p : List UInt8) : Nat → LoopInv := (fun zb => if Nat.beq zb 0 then .mk (Nat) (fun i => Lib.NoOcc s p i ∧ i ≤ s.length) (fun i => s.length - i) [] [2, 3] (fun i => [(7, .imm ⟨(.int .i64), ((i : Int) : Int)⟩)]) [0, 1, 4, 5, 6, 7, 8, 9, 10, 11, 12, 13, 14, 15, 16, 17, 18, 19, 20, 21, 22, 23, 24, 25, 26, 27, 28, 29, 30, 31, 32, 33, 34] (fun i => []) [] [] (fun i => fun _ => .none) else .none)
theorem vc_spec_l04Cut (s : List UInt8) (p : List UInt8) : awp (envOf []) (bodyOf f_spec_l04Cut) (l_spec_l04Cut s p) 0 (funPost (envOf []) f_spec_l04Cut fun r => areEq r [⟨.str, cutA s p⟩, ⟨.str, cutB s p⟩, ⟨.bool, cutC s p⟩]) (startState f_spec_l04Cut [.val ⟨.str, s⟩, .val ⟨.str, p⟩]) =
 (((∃ i1 : Nat, ((Lib.NoOcc s p i1 ∧ i1 ≤ s.length) ∧ ((s = s ∧ (p = p ∧ ((0 : Int) = (i1 : Int) ∧ True))) ∧ True))) ∧ (∀ i1 : Nat, ((Lib.NoOcc s p i1 ∧ i1 ≤ s.length) →
 (inI64 ((p.length : Int)) →
 (inI64 ((i1 : Int) + ((p.length : Int))) ∧ (inI64 ((s.length : Int)) →
 (((decide (((i1 : Int) + ((p.length : Int))) ≤ ((s.length : Int)))) = true →
 (inI64 ((p.length : Int)) →
 (inI64 ((i1 : Int) + ((p.length : Int))) ∧ (cutOk (i1 : Int) ((i1 : Int) + ((p.length : Int))) s.length ∧ (((decide (((s.take (Int.toNat ((i1 : Int) + ((p.length : Int))))).drop i1) = p)) = true →
 (cutOk (0 : Int) (i1 : Int) s.length ∧ (inI64 ((i1 : Int) + ((p.length : Int))) ∧ (cutOk ((i1 : Int) + ((p.length : Int))) ((s.length : Int)) s.length ∧ (inI64 ((p.length : Int)) →
 (((s.take i1).drop 0) = (cutA s p) ∧ (((s.take (Int.toNat ((s.length : Int)))).drop (Int.toNat ((i1 : Int) + ((p.length : Int))))) = (cutB s p) ∧ true = (cutC s p)))))))) ∧ ((decide (((s.take (Int.toNat ((i1 : Int) + ((p.length : Int))))).drop i1) = p)) = false →
 (inI64 ((i1 : Int) + (1 : Int)) ∧ (∃ i2 : Nat, ((Lib.NoOcc s p i2 ∧ i2 ≤ s.length) ∧ (s.length - i2 < s.length - i1 ∧ ((s = s ∧ (p = p ∧ (((i1 : Int) + (1 : Int)) = (i2 : Int) ∧ True))) ∧ True))))))))))) ∧ ((decide (((i1 : Int) + ((p.length : Int))) ≤ ((s.length : Int)))) = false →
 ([] = (cutA s p) ∧ ([] = (cutB s p) ∧ false = (cutC s p)))))))))))) := by kernel_rfl
theorem ok_spec_l04Cut (hE : AllGood []) : Ctr.Good k_spec_l04Cut := by
 refine ⟨fnOk_of at_spec_l04Cut rfl (by decide), ?_⟩
 show ∀ (s : List UInt8) (p : List UInt8), (s.length ≤ 1048576 ∧ 1 ≤ p.length ∧ p.length ≤ 100) → OkCall prog n_spec_l04Cut [.val ⟨.str, s⟩, .val ⟨.str, p⟩] (· = [⟨.str, cutA s p⟩, ⟨.str, cutB s p⟩, ⟨.bool, cutC s p⟩])
 intro s p hp
 refine ok_of_awp (wr := []) (cl := []) (ro := []) hE at_spec_l04Cut body_spec_l04Cut (l_spec_l04Cut s p) ?_
 rewrite [vc_spec_l04Cut s p]
 have f0 := Lib.NoOcc.zero s p
 refine ⟨⟨0, ⟨?_, ⟨⟨rfl, ⟨rfl, ⟨?_, trivial⟩⟩⟩, trivial⟩⟩⟩, fun i1 a0 => have b0x0 := cut_hit s p i1; have b0x1 := cut_go s p i1; have b0x2 := cut_end s p i1; fun a1 => ⟨?_, fun a2 => ⟨fun a3 => fun a4 => ⟨?_, ⟨?_, ⟨fun a5 => ⟨?_, ⟨?_, ⟨?_, fun a6 => ⟨?_, ⟨?_, ?_⟩⟩⟩⟩⟩, fun a5 => ⟨?_, ⟨i1 + 1, ⟨?_, ⟨?_, ⟨⟨rfl, ⟨rfl, ⟨?_, trivial⟩⟩⟩, trivial⟩⟩⟩⟩⟩⟩⟩⟩, fun a3 => ⟨?_, ⟨?_, ?_⟩⟩⟩⟩⟩
 all_goals try and_intros
 all_goals first | rfl | trivial | omega | (simp only [decide_eq_true_eq, decide_eq_false_iff_not, idxOk, inI64, cutOk, natAdd, Int.toNat_natCast, List.take_length] at *; first | omega | grind) | grind
theorem good_spec_l04Cut : Ctr.Good k_spec_l04Cut := ok_spec_l04Cut trivial
def k_strings_Cut : Ctr := ⟨n_strings_Cut, [.v .str, .v .str], fun (s : List UInt8) (p : List UInt8) => ⟨(some (s.length ≤ 1048576), [⟨.str, cutZ s p⟩, ⟨.str, cutB s p⟩, ⟨.bool, cutC s p⟩])⟩⟩
theorem good_strings_Cut : Ctr.Good k_strings_Cut := by
 refine ⟨fnOk_of at_strings_Cut rfl (by decide), ?_⟩
 intro (s : List UInt8) (p : List UInt8) hp w S vals hS ha
 match vals, ha with
 | [v, u], ha =>
  obtain ⟨⟨x, hv, hx, hxl⟩, ⟨y, hu, hy, hyl⟩, _⟩ := ha
  simp only [List.cons.injEq, and_true] at hv hu
  subst hv hu
  have hp2 : s.length ≤ 1048576 := hp
  obtain ⟨_, m, hm⟩ := hS.2 0 (List.mem_singleton.2 rfl)
  have hxs : x.size < 4294967281 := by
   have : x.data.toList.length = s.length := congrArg List.length hx
   rw [Lib.size_eq, this]; omega
  have hl := cut_lens s p
  have ex : x.data.toList = s := hx
  have ey : y.data.toList = p := hy
  refine (Tryd.strings_Cut x y m w hxs hm).mono ?_
  rw [ex, ey]
  rintro e w' ⟨rfl, n, rfl⟩
  refine ⟨_, S, _, rfl, rfl, ⟨rfl, rfl, rfl, Nat.le_refl _, fun b _ _ => rfl⟩, fun b _ => Iff.rfl, fun b h => hS.1 b h, [_, _, _], rfl, ?_, ?_, rfl, trivial⟩
  ·refine ⟨_, rfl, rfl, ?_⟩
   have : (⟨(Lib.cut s p).1.toArray⟩ : ByteArray).size = (cutZ s p).length := by rw [Lib.size_eq]; rfl
   rw [this]; omega
  ·refine ⟨_, rfl, rfl, ?_⟩
   have : (⟨(Lib.cut s p).2.1.toArray⟩ : ByteArray).size = (cutB s p).length := by rw [Lib.size_eq]; rfl
   rw [this]; omega
end
end Go.Proofs.YtbphjcgkidlabaaDoor

set_option linter.unusedVariables false
set_option linter.unusedSimpArgs false
set_option linter.unusedSectionVars false
set_option maxRecDepth 4000
set_option maxHeartbeats 4000000
namespace Go.Proofs.YtbphjcgkidlabaaDoor
noncomputable section
def eqL (t : List UInt8) : List UInt8 := cutZ t [32, 61, 32]
def eqR (t : List UInt8) : List UInt8 := cutB t [32, 61, 32]
def eqC (t : List UInt8) : Bool := cutC t [32, 61, 32]
def zQ : GEquation := GEquation.mk zE zE
def rqOk (gg : GSig) (t : List UInt8) : Bool := eqC t && rdOk gg (eqL t) && rdOk gg (eqR t)
def rqV (gg : GSig) (t : List UInt8) : GEquation := bif rqOk gg t then GEquation.mk (rdV gg (eqL t)) (rdV gg (eqR t)) else zQ
def rqS (gg : GSig) (t : List UInt8) : GEquation := bif eqC t then GEquation.mk (rxV gg (eqL t)) (rxV gg (eqR t)) else zQ
theorem rdOk_len (gg : GSig) (t : List UInt8) (hg : sigOk gg = true) (h : rdOk gg t = true) : t.length ≤ 1000 := by
 simp only [rdOk, Bool.and_eq_true, decide_eq_true_eq] at h
 obtain ⟨⟨_, h2⟩, h3⟩ := h
 have := isE_goodT gg _ hg h2
 have e := congrArg List.length h3
 omega
theorem rx_ok (gg : GSig) (t : List UInt8) (hg : sigOk gg = true) : (decide (rxC gg t = 0) = rdOk gg t) ∧ (rdOk gg t = true → rxV gg t = rdV gg t) := by
 unfold rxC rxV
 rw [hg]
 rcases Bool.eq_false_or_eq_true (rdOk gg t) with h | h
 ·have := rdOk_len gg t hg h
  rw [h, decide_eq_true (show t.length ≤ 4000 by omega)]
  exact ⟨rfl, fun _ => rfl⟩
 ·rw [h]
  refine ⟨?_, fun q => by cases q⟩
  cases decide (t.length ≤ 4000) <;> rfl
theorem rqS_ok (gg : GSig) (t : List UInt8) (hg : sigOk gg = true) (h : rqOk gg t = true) : rqS gg t = rqV gg t := by
 unfold rqS rqV
 rw [h]
 simp only [rqOk, Bool.and_eq_true] at h
 rw [h.1.1, (rx_ok gg _ hg).2 h.1.2, (rx_ok gg _ hg).2 h.2]
theorem rq_facts (gg : GSig) (t : List UInt8) : rqOk gg t = (cutC t [32, 61, 32] && rdOk gg (cutZ t [32, 61, 32]) && rdOk gg (cutB t [32, 61, 32])) ∧
  (rqOk gg t = true → rqV gg t = GEquation.mk (rdV gg (cutZ t [32, 61, 32])) (rdV gg (cutB t [32, 61, 32]))) ∧ (rqOk gg t = false → rqV gg t = GEquation.mk zE zE) := by
 refine ⟨rfl, fun h => ?_, fun h => ?_⟩ <;> · unfold rqV; rw [h]; rfl
theorem rqS_facts (gg : GSig) (t : List UInt8) : (cutC t [32, 61, 32] = true → cutA t [32, 61, 32] = cutZ t [32, 61, 32] ∧ rqS gg t = GEquation.mk (rxV gg (cutZ t [32, 61, 32])) (rxV gg (cutB t [32, 61, 32]))) ∧
  (cutC t [32, 61, 32] = false → rqS gg t = GEquation.mk zE zE) := by
 refine ⟨fun h => ⟨?_, ?_⟩, fun h => ?_⟩
 ·unfold cutA; rw [h]; rfl
 ·unfold rqS eqC; rw [h]; rfl
 ·unfold rqS eqC; rw [h]; rfl
def ko_impl_readEquation : Ctr := ⟨n_impl_readEquation, [.v (.st .sig), .v .str], fun (gg : GSig) (t : List UInt8) => ⟨(some (sigOk gg = true ∧ t.length ≤ 8000), [⟨(.st .equation), rqV gg t⟩, ⟨.bool, rqOk gg t⟩])⟩⟩
def lo_impl_readEquation (gg : GSig) (t : List UInt8) : Nat → LoopInv := fun _ => .none
abbrev jo_impl_readEquation_0 (gg : GSig) (t : List UInt8) : Prop := (((!(rdOk gg (cutB t ([32, 61, 32])))) = true →
 ((GEquation.mk zE zE) = (rqV gg t) ∧ false = (rqOk gg t))) ∧ ((!(rdOk gg (cutB t ([32, 61, 32])))) = false →
 ((GEquation.mk (e_expr (rdV gg (cutZ t ([32, 61, 32])))) (e_expr (rdV gg (cutB t ([32, 61, 32]))))) = (rqV gg t) ∧ true = (rqOk gg t))))
abbrev jo_impl_readEquation_1 (gg : GSig) (t : List UInt8) : Prop := ((true = true →
 ((GEquation.mk zE zE) = (rqV gg t) ∧ false = (rqOk gg t))) ∧ (true = false →
 ((GEquation.mk (e_expr (rdV gg (cutZ t ([32, 61, 32])))) (e_expr (rdV gg (cutB t ([32, 61, 32]))))) = (rqV gg t) ∧ true = (rqOk gg t))))
theorem vco_impl_readEquation (gg : GSig) (t : List UInt8) : awp (envO [k_strings_Cut] [ko_impl_readExpr] [] [22, 28] [] [] [2]) (bodyOf f_impl_readEquation) (lo_impl_readEquation gg t) 0 (ownPost (envO [k_strings_Cut] [ko_impl_readExpr] [] [22, 28] [] [] [2]) f_impl_readEquation fun r => areEq r [⟨(.st .equation), rqV gg t⟩, ⟨.bool, rqOk gg t⟩]) (startO f_impl_readEquation [.val ⟨(.st .sig), gg⟩, .val ⟨.str, t⟩]) =
 ((t.length ≤ 1048576 ∧ ((cutZ t ([32, 61, 32])).length ≤ 140737488355328 →
 ((cutB t ([32, 61, 32])).length ≤ 140737488355328 →
 ((sigOk gg = true ∧ (cutZ t ([32, 61, 32])).length ≤ 8000) ∧ ((sigOk gg = true ∧ (cutB t ([32, 61, 32])).length ≤ 8000) ∧ (((!(cutC t ([32, 61, 32]))) = false →
 (((!(rdOk gg (cutZ t ([32, 61, 32])))) = false →
 (jo_impl_readEquation_0 gg t)) ∧ ((!(rdOk gg (cutZ t ([32, 61, 32])))) = (!false) →
 (jo_impl_readEquation_1 gg t)))) ∧ ((!(cutC t ([32, 61, 32]))) = (!false) →
 ((true = false →
 (jo_impl_readEquation_0 gg t)) ∧ (true = (!false) →
 (jo_impl_readEquation_1 gg t))))))))))) := by kernel_rfl
theorem oko_impl_readEquation (hE : AllGood [k_strings_Cut]) (hO : AllO [ko_impl_readExpr]) (hM : AllM []) (hS : AllS []) : Ctr.OGood ko_impl_readEquation := by
 refine ⟨fnOk_of at_impl_readEquation rfl (by decide), ?_⟩
 show ∀ (gg : GSig) (t : List UInt8), (sigOk gg = true ∧ t.length ≤ 8000) → OkOwn prog n_impl_readEquation [.val ⟨(.st .sig), gg⟩, .val ⟨.str, t⟩] [⟨(.st .equation), rqV gg t⟩, ⟨.bool, rqOk gg t⟩]
 intro gg t hp
 refine own_of_awp (own := [22, 28]) (wr := []) (cl := []) (ro := [2]) hE hO hM hS at_impl_readEquation body_impl_readEquation (lo_impl_readEquation gg t) ?_
 rewrite [vco_impl_readEquation gg t]
 obtain ⟨f2, f3, f4⟩ := rq_facts gg t
 have f0 : (cutZ t [32, 61, 32]).length ≤ t.length ∧ (cutB t [32, 61, 32]).length ≤ t.length := cut_lens t _
 refine ⟨?_, fun a0 => fun a1 => ⟨?_, ⟨?_, ⟨fun a2 => ⟨fun a3 => ⟨fun a4 => ⟨?_, ?_⟩, fun a4 => ⟨?_, ?_⟩⟩, fun a3 => ⟨fun a4 => ⟨?_, ?_⟩, fun a4 => ⟨?_, ?_⟩⟩⟩, fun a2 => ⟨fun a3 => ⟨fun a4 => ⟨?_, ?_⟩, fun a4 => ⟨?_, ?_⟩⟩, fun a3 => ⟨fun a4 => ⟨?_, ?_⟩, fun a4 => ⟨?_, ?_⟩⟩⟩⟩⟩⟩⟩
 all_goals try and_intros
 all_goals try simp only [GExpr.eta, GProg.eta, GDerivation.eta, GTriple.eta, GPremise.eta, GClaim.eta, GEquation.eta, GPair.eta, GSpot.eta, e_expr_eq, e_pair_eq, e_equation_eq, e_claim_eq, e_prog_eq, e_spot_eq, e_triple_eq, e_premise_eq, e_derivation_eq] at *
 all_goals first | rfl | trivial | omega | (simp only [decide_eq_true_eq, decide_eq_false_iff_not, Bool.not_eq_true', Bool.not_eq_false', Bool.not_false, Bool.not_true, idxOk, inI64, List.length_cons, List.length_nil] at *; first | omega | grind) | grind
theorem ogood_impl_readEquation : Ctr.OGood ko_impl_readEquation := oko_impl_readEquation ⟨good_strings_Cut, trivial⟩ ⟨ogood_impl_readExpr, trivial⟩ trivial trivial
def ko_spec_l04Read : Ctr := ⟨n_spec_l04Read, [.v (.st .sig), .v .str], fun (gg : GSig) (t : List UInt8) => ⟨(some (sigOk gg = true ∧ t.length ≤ 8000), [⟨(.st .equation), rqS gg t⟩, ⟨.bool, rqOk gg t⟩])⟩⟩
def lo_spec_l04Read (gg : GSig) (t : List UInt8) : Nat → LoopInv := fun _ => .none
theorem vco_spec_l04Read (gg : GSig) (t : List UInt8) : awp (envO [k_spec_l04Cut] [ko_spec_ReadExpr] [] [25, 31] [] [] [2]) (bodyOf f_spec_l04Read) (lo_spec_l04Read gg t) 0 (ownPost (envO [k_spec_l04Cut] [ko_spec_ReadExpr] [] [25, 31] [] [] [2]) f_spec_l04Read fun r => areEq r [⟨(.st .equation), rqS gg t⟩, ⟨.bool, rqOk gg t⟩]) (startO f_spec_l04Read [.val ⟨(.st .sig), gg⟩, .val ⟨.str, t⟩]) =
 (((t.length ≤ 1048576 ∧ 1 ≤ ([32, 61, 32]).length ∧ ([32, 61, 32]).length ≤ 100) ∧ ((cutA t ([32, 61, 32])).length ≤ 140737488355328 →
 ((cutB t ([32, 61, 32])).length ≤ 140737488355328 →
 (((!(cutC t ([32, 61, 32]))) = true →
 ((GEquation.mk zE zE) = (rqS gg t) ∧ false = (rqOk gg t))) ∧ ((!(cutC t ([32, 61, 32]))) = false →
 (inI64 (rxC gg (cutA t ([32, 61, 32]))) →
 (inI64 (rxC gg (cutB t ([32, 61, 32]))) →
 (((decide ((rxC gg (cutA t ([32, 61, 32]))) = (0 : Int))) = true →
 ((GEquation.mk (e_expr (rxV gg (cutA t ([32, 61, 32])))) (e_expr (rxV gg (cutB t ([32, 61, 32]))))) = (rqS gg t) ∧ (decide ((rxC gg (cutB t ([32, 61, 32]))) = (0 : Int))) = (rqOk gg t))) ∧ ((decide ((rxC gg (cutA t ([32, 61, 32]))) = (0 : Int))) = (!true) →
 ((GEquation.mk (e_expr (rxV gg (cutA t ([32, 61, 32])))) (e_expr (rxV gg (cutB t ([32, 61, 32]))))) = (rqS gg t) ∧ false = (rqOk gg t)))))))))))) := by kernel_rfl
theorem oko_spec_l04Read (hE : AllGood [k_spec_l04Cut]) (hO : AllO [ko_spec_ReadExpr]) (hM : AllM []) (hS : AllS []) : Ctr.OGood ko_spec_l04Read := by
 refine ⟨fnOk_of at_spec_l04Read rfl (by decide), ?_⟩
 show ∀ (gg : GSig) (t : List UInt8), (sigOk gg = true ∧ t.length ≤ 8000) → OkOwn prog n_spec_l04Read [.val ⟨(.st .sig), gg⟩, .val ⟨.str, t⟩] [⟨(.st .equation), rqS gg t⟩, ⟨.bool, rqOk gg t⟩]
 intro gg t hp
 refine own_of_awp (own := [25, 31]) (wr := []) (cl := []) (ro := [2]) hE hO hM hS at_spec_l04Read body_spec_l04Read (lo_spec_l04Read gg t) ?_
 rewrite [vco_spec_l04Read gg t]
 obtain ⟨f3, f4⟩ := rqS_facts gg t
 have f5 := (rq_facts gg t).1
 have f1 := (rx_ok gg (cutZ t [32, 61, 32]) hp.1).1
 have f2 := (rx_ok gg (cutB t [32, 61, 32]) hp.1).1
 refine ⟨?_, fun a0 => fun a1 => ⟨fun a2 => ⟨?_, ?_⟩, fun a2 => fun a3 => fun a4 => ⟨fun a5 => ⟨?_, ?_⟩, fun a5 => ⟨?_, ?_⟩⟩⟩⟩
 all_goals try and_intros
 all_goals try simp only [GExpr.eta, GProg.eta, GDerivation.eta, GTriple.eta, GPremise.eta, GClaim.eta, GEquation.eta, GPair.eta, GSpot.eta, e_expr_eq, e_pair_eq, e_equation_eq, e_claim_eq, e_prog_eq, e_spot_eq, e_triple_eq, e_premise_eq, e_derivation_eq] at *
 all_goals first | rfl | trivial | omega | (simp only [decide_eq_true_eq, decide_eq_false_iff_not, Bool.not_eq_true', Bool.not_eq_false', Bool.not_false, Bool.not_true, idxOk, inI64, List.length_cons, List.length_nil] at *; first | omega | grind) | grind
theorem ogood_spec_l04Read : Ctr.OGood ko_spec_l04Read := oko_spec_l04Read ⟨good_spec_l04Cut, trivial⟩ ⟨ogood_spec_ReadExpr, trivial⟩ trivial trivial
end
end Go.Proofs.YtbphjcgkidlabaaDoor

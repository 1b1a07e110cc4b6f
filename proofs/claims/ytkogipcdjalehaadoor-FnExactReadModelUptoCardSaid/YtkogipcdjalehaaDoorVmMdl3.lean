/- Models: validity and texts, at the machine. Printed by vmk.py. -/
import Derived.Test.YtkogipcdjalehaaDoorVmUse
import Derived.Test.YtkogipcdjalehaaDoorVmLib
import Derived.Test.YtkogipcdjalehaaDoorVmMdl2
set_option linter.unusedVariables false
set_option linter.unusedSimpArgs false
set_option linter.unusedSectionVars false
set_option maxRecDepth 4000
set_option maxHeartbeats 4000000
namespace Go.Proofs.YtkogipcdjalehaaDoor
noncomputable section
def frB (gg : GSig) (p : Int) (xs : List (List Bool)) (ys : List (List (List Bool))) : Bool := sigOk gg && ptsB p && tabB xs gg.tests p && decide ((ys.length : Int) = gg.actions) && allL (fun t => tabB t p p) ys
def tsB (gg : GSig) (p : Int) (xs : List (List Bool)) : Bool := sigOk gg && ptsB p && tabB xs gg.tests p
theorem mOk_ts (m : GModel) : mOk m = (tsB m.sig m.points m.tests && decide ((m.acts.length : Int) = m.sig.actions) && allL (fun t => tabB t m.points m.points) m.acts) := rfl
theorem tsB_eq (gg : GSig) (p : Int) (xs : List (List Bool)) : tsB gg p xs = (sigOk gg && ptsB p && decide ((xs.length : Int) = gg.tests) && allL (rowB p) xs) := by
 simp [tsB, tabB, Bool.and_assoc]
theorem rowB_eq (c : Int) (r : List Bool) : rowB c r = decide ((r.length : Int) = c) := rfl
theorem tabB_eq (t : List (List Bool)) (r c : Int) : tabB t r c = (decide ((t.length : Int) = r) && allL (rowB c) t) := rfl
theorem ptsB_eq (n : Int) : ptsB n = decide (1 ≤ n ∧ n ≤ 8) := rfl
def txA (m : GModel) (i : Nat) : List UInt8 := hdrL m ++ [10] ++ catL tstTx (m.tests.take i)
def txB (m : GModel) (j : Nat) : List UInt8 := hdrL m ++ [10] ++ catL tstTx m.tests ++ catL actTx (m.acts.take j)
def txC (m : GModel) (j k : Nat) : List UInt8 := txB m j ++ [97, 99, 116] ++ catL rowTx ((m.acts.getD j []).take k)
theorem txA_zero (m : GModel) : [109, 111, 100, 101, 108, 32] ++ dig m.sig.tests ++ [32] ++ dig m.sig.actions ++ [32] ++ dig m.points ++ [10] = txA m 0 := by
 unfold txA hdrL
 rw [catL_zero, List.append_nil]
theorem txA_step (m : GModel) (i : Nat) (h : i < m.tests.length) : txA m i ++ ([116, 101, 115, 116, 32] ++ bitsB (m.tests.getD i []) ++ [10]) = txA m (i + 1) := by
 unfold txA
 rw [catL_take tstTx [] m.tests i h]; simp [tstTx]
theorem txA_all (m : GModel) (i : Nat) (h : m.tests.length ≤ i) : txA m i = txB m 0 := by
 unfold txA txB
 rw [catL_all tstTx m.tests i h, catL_zero, List.append_nil]
theorem txB_step (m : GModel) (j : Nat) : txB m j ++ [97, 99, 116] = txC m j 0 := by
 unfold txC
 rw [catL_zero, List.append_nil]
theorem txC_step (m : GModel) (j k : Nat) (h : k < (m.acts.getD j []).length) : txC m j k ++ ([32] ++ bitsB ((m.acts.getD j []).getD k [])) = txC m j (k + 1) := by
 unfold txC
 rw [catL_take rowTx [] _ k h]; simp [rowTx]
theorem txC_end (m : GModel) (j k : Nat) (hj : j < m.acts.length) (h : (m.acts.getD j []).length ≤ k) : txC m j k ++ [10] = txB m (j + 1) := by
 unfold txC
 rw [catL_all rowTx _ k h]
 unfold txB
 rw [catL_take actTx [] m.acts j hj]
 simp [actTx]
theorem txB_all (m : GModel) (j : Nat) (h : m.acts.length ≤ j) : txB m j = mtx m := by
 unfold txB mtx
 rw [catL_all actTx m.acts j h]
structure MLen (m : GModel) : Prop where
 rt : ∀ r ∈ m.tests, r.length ≤ 8
 ra : ∀ t ∈ m.acts, t.length ≤ 8 ∧ ∀ r ∈ t, r.length ≤ 8
 n1 : (dig m.sig.tests).length = 1
 n2 : (dig m.sig.actions).length = 1
 n3 : (dig m.points).length = 1
 lt : m.tests.length ≤ 3
 la : m.acts.length ≤ 4
theorem mOk_len (m : GModel) (h : mOk m = true) : MLen m := by
 have hp := mOk_parts m h
 simp only [mOk, tabB, Bool.and_eq_true, decide_eq_true_eq] at h
 obtain ⟨⟨⟨⟨_, _⟩, h3⟩, _⟩, h5⟩ := h
 refine ⟨fun r hr => ?_, fun t ht => ?_, (dig_num m.sig.tests ⟨hp.t.1, by have := hp.t.2; omega⟩).2.2.2.2.1, (dig_num m.sig.actions ⟨hp.a.1, by have := hp.a.2; omega⟩).2.2.2.2.1,
  (dig_num m.points ⟨by have := hp.p.1; omega, by have := hp.p.2; omega⟩).2.2.2.2.1, by have := hp.tl; have := hp.t; omega, by have := hp.al; have := hp.a; omega⟩
 ·have := of_decide_eq_true (allL_mem _ _ h3.2 r hr)
  have := hp.p.2; omega
 ·have q := allL_mem _ _ h5 t ht
  rw [Bool.and_eq_true, decide_eq_true_eq] at q
  refine ⟨by have := hp.p.2; omega, fun r hr => ?_⟩
  have := of_decide_eq_true (allL_mem _ _ q.2 r hr)
  have := hp.p.2; omega
theorem getD_mem {α : Type} (z : α) (xs : List α) (i : Nat) (h : i < xs.length) : xs.getD i z ∈ xs := by
 rw [List.getD_eq_getElem?_getD, List.getElem?_eq_getElem h]
 exact List.getElem_mem _
theorem take_mem {α : Type} (xs : List α) (i : Nat) (x : α) (h : x ∈ xs.take i) : x ∈ xs := List.mem_of_mem_take h
theorem tst_len (r : List Bool) (h : r.length ≤ 8) : (tstTx r).length ≤ 20 := by
 have e := bits_len r
 simp only [tstTx, List.length_append, List.length_cons, List.length_nil, e]; omega
theorem rows_len (t : List (List Bool)) (h : t.length ≤ 8 ∧ ∀ r ∈ t, r.length ≤ 8) (k : Nat) : (catL rowTx (t.take k)).length ≤ 72 := by
 have := flat_len rowTx 9 (t.take k) fun r hr => by
  have := h.2 r (take_mem t k r hr)
  have e := bits_len r
  simp only [rowTx, List.length_append, List.length_cons, List.length_nil, e]; omega
 have := List.length_take_le' k t
 have := h.1
 omega
theorem act_len (t : List (List Bool)) (h : t.length ≤ 8 ∧ ∀ r ∈ t, r.length ≤ 8) : (actTx t).length ≤ 100 := by
 have := rows_len t h t.length
 rw [List.take_length] at this
 simp only [actTx, List.length_append, List.length_cons, List.length_nil]; omega
theorem tx_lens (m : GModel) (h : mOk m = true) : (∀ i, (txA m i).length ≤ 1000) ∧ (∀ j, (txB m j).length ≤ 1000) ∧ (∀ j k, j < m.acts.length → (txC m j k).length ≤ 2000) ∧ (dig m.sig.tests).length = 1 ∧ (dig m.sig.actions).length = 1 ∧ (dig m.points).length = 1 ∧
  (∀ i, i < m.tests.length → (m.tests.getD i []).length ≤ 8 ∧ (bitsB (m.tests.getD i [])).length ≤ 8) ∧ (∀ j k, j < m.acts.length → k < (m.acts.getD j []).length → ((m.acts.getD j []).getD k []).length ≤ 8 ∧ (bitsB ((m.acts.getD j []).getD k [])).length ≤ 8) ∧
  m.tests.length ≤ 3 ∧ m.acts.length ≤ 4 ∧ (∀ j, j < m.acts.length → (m.acts.getD j []).length ≤ 8) ∧ (0 ≤ m.sig.tests ∧ m.sig.tests ≤ 9) ∧ (0 ≤ m.sig.actions ∧ m.sig.actions ≤ 9) ∧ 0 ≤ m.points ∧ m.points ≤ 9 := by
 have q := mOk_len m h
 have hp := mOk_parts m h
 have hT : ∀ i, (catL tstTx (m.tests.take i)).length ≤ 60 := fun i => by
  have := flat_len tstTx 20 (m.tests.take i) fun r hr => tst_len r (q.rt r (take_mem _ i r hr))
  have := List.length_take_le' i m.tests
  have := q.lt
  omega
 have hA : ∀ j, (catL actTx (m.acts.take j)).length ≤ 400 := fun i => by
  have := flat_len actTx 100 (m.acts.take i) fun r hr => act_len r (q.ra r (take_mem _ i r hr))
  have := List.length_take_le' i m.acts
  have := q.la
  omega
 have hH : (hdrL m).length ≤ 20 := by
  simp only [hdrL, List.length_append, List.length_cons, List.length_nil, q.n1, q.n2, q.n3]; omega
 have hTT := hT m.tests.length
 rw [List.take_length] at hTT
 have hB : ∀ j, (txB m j).length ≤ 1000 := fun j => by
  have := hA j
  simp only [txB, List.length_append, List.length_cons, List.length_nil]; omega
 refine ⟨fun i => ?_, hB, fun j k hj => ?_, q.n1, q.n2, q.n3, fun i hi => ?_, fun j k hj hk => ?_, q.lt, q.la, fun j hj => (q.ra _ (getD_mem [] m.acts j hj)).1, ⟨hp.t.1, by have := hp.t.2; omega⟩, ⟨hp.a.1, by have := hp.a.2; omega⟩, by have := hp.p.1; omega, by have := hp.p.2; omega⟩
 ·have := hT i
  simp only [txA, List.length_append, List.length_cons, List.length_nil]; omega
 ·have := hB j
  have := rows_len _ (q.ra _ (getD_mem [] m.acts j hj)) k
  simp only [txC, List.length_append, List.length_cons, List.length_nil]; omega
 ·have := q.rt _ (getD_mem [] m.tests i hi)
  exact ⟨this, by rw [bits_len]; exact this⟩
 ·have := (q.ra _ (getD_mem [] m.acts j hj)).2 _ (getD_mem [] _ k hk)
  exact ⟨this, by rw [bits_len]; exact this⟩
theorem bits_take (xs : List Bool) (k : Nat) (h : k < xs.length) : (xs.getD k false = true → catL bit1 (xs.take (k + 1)) = catL bit1 (xs.take k) ++ [49]) ∧ (xs.getD k false = false → catL bit1 (xs.take (k + 1)) = catL bit1 (xs.take k) ++ [48]) := by
 rw [catL_take bit1 false xs k h]
 exact ⟨fun e => by rw [e]; rfl, fun e => by rw [e]; rfl⟩
theorem bits_tl (xs : List Bool) (k : Nat) (h : k ≤ xs.length) : (catL bit1 (xs.take k)).length = k := by
 have := bits_len (xs.take k)
 rw [show catL bit1 (xs.take k) = bitsB (xs.take k) from rfl, this]; simp; omega
theorem bits_end (xs : List Bool) (k : Nat) (h : xs.length ≤ k) : catL bit1 (xs.take k) = bitsB xs := catL_all bit1 xs k h
def k_impl_digits : Ctr := ⟨n_impl_digits, [.v (.slice .bool)], fun (xs : List Bool) => ⟨(some (xs.length ≤ 100), [⟨.str, bitsB xs⟩])⟩⟩
def l_impl_digits (xs : List Bool) : Nat → LoopInv := (fun zb => if Nat.beq zb 0 then .mk (Nat) (fun k => k ≤ xs.length) (fun k => xs.length - k) [] [0, 1, 4] (fun k => [(8, .imm ⟨(.int .i64), ((k : Int) : Int)⟩), (3, .imm ⟨.str, ((catL bit1 (xs.take k) : List UInt8) : List UInt8)⟩)]) [2, 3, 5, 6, 7, 8, 9, 10, 11, 12, 13, 14, 15, 16, 17, 18] (fun k => []) [] [] (fun k => fun _ => .none) else .none)
theorem vc_impl_digits (xs : List Bool) : awp (envOf []) (bodyOf f_impl_digits) (l_impl_digits xs) 0 (funPost (envOf []) f_impl_digits fun r => areEq r [⟨.str, bitsB xs⟩]) (startState f_impl_digits [.val ⟨(.slice .bool), xs⟩]) =
 ((inI64 ((xs.length : Int)) →
 ((∃ k1 : Nat, (k1 ≤ xs.length ∧ ((([] : List UInt8) = [] ∧ ([] = (catL bit1 (xs.take k1) : List UInt8) ∧ (xs = xs ∧ (((xs.length : Int)) = ((xs.length : Int)) ∧ ((0 : Int) = (k1 : Int) ∧ True))))) ∧ True))) ∧ (∀ k1 : Nat, (k1 ≤ xs.length →
 (((decide ((k1 : Int) < ((xs.length : Int)))) = true →
 (idxOk (k1 : Int) xs.length ∧ (((xs.getD k1 false) = true →
 ((catL bit1 (xs.take k1) : List UInt8).length + ([49]).length ≤ 140737488355328 ∧ (inI64 ((k1 : Int) + (1 : Int)) ∧ (∃ k2 : Nat, (k2 ≤ xs.length ∧ (xs.length - k2 < xs.length - k1 ∧ ((([] : List UInt8) = [] ∧ (((catL bit1 (xs.take k1) : List UInt8) ++ ([49])) = (catL bit1 (xs.take k2) : List UInt8) ∧ (xs = xs ∧ (((xs.length : Int)) = ((xs.length : Int)) ∧ (((k1 : Int) + (1 : Int)) = (k2 : Int) ∧ True))))) ∧ True))))))) ∧ ((xs.getD k1 false) = false →
 ((catL bit1 (xs.take k1) : List UInt8).length + ([48]).length ≤ 140737488355328 ∧ (inI64 ((k1 : Int) + (1 : Int)) ∧ (∃ k2 : Nat, (k2 ≤ xs.length ∧ (xs.length - k2 < xs.length - k1 ∧ ((([] : List UInt8) = [] ∧ (((catL bit1 (xs.take k1) : List UInt8) ++ ([48])) = (catL bit1 (xs.take k2) : List UInt8) ∧ (xs = xs ∧ (((xs.length : Int)) = ((xs.length : Int)) ∧ (((k1 : Int) + (1 : Int)) = (k2 : Int) ∧ True))))) ∧ True)))))))))) ∧ ((decide ((k1 : Int) < ((xs.length : Int)))) = false →
 (catL bit1 (xs.take k1) : List UInt8) = (bitsB xs)))))))) := by kernel_rfl
theorem ok_impl_digits (hE : AllGood []) : Ctr.Good k_impl_digits := by
 refine ⟨fnOk_of at_impl_digits rfl (by decide), ?_⟩
 show ∀ (xs : List Bool), (xs.length ≤ 100) → OkCall prog n_impl_digits [.val ⟨(.slice .bool), xs⟩] (· = [⟨.str, bitsB xs⟩])
 intro xs hp
 refine ok_of_awp (wr := []) (cl := []) (ro := []) hE at_impl_digits body_impl_digits (l_impl_digits xs) ?_
 rewrite [vc_impl_digits xs]
 refine fun a0 => ⟨⟨0, ⟨?_, ⟨⟨rfl, ⟨?_, ⟨rfl, ⟨rfl, ⟨?_, trivial⟩⟩⟩⟩⟩, trivial⟩⟩⟩, fun k1 a1 => have b1x0 := bits_take xs k1; have b1x1 := bits_tl xs k1; have b1x2 := bits_end xs k1; ⟨fun a2 => ⟨?_, ⟨fun a3 => ⟨?_, ⟨?_, ⟨k1 + 1, ⟨?_, ⟨?_, ⟨⟨rfl, ⟨?_, ⟨rfl, ⟨rfl, ⟨?_, trivial⟩⟩⟩⟩⟩, trivial⟩⟩⟩⟩⟩⟩, fun a3 => ⟨?_, ⟨?_, ⟨k1 + 1, ⟨?_, ⟨?_, ⟨⟨rfl, ⟨?_, ⟨rfl, ⟨rfl, ⟨?_, trivial⟩⟩⟩⟩⟩, trivial⟩⟩⟩⟩⟩⟩⟩⟩, fun a2 => ?_⟩⟩
 all_goals try and_intros
 all_goals first | rfl | trivial | omega | (simp only [decide_eq_true_eq, decide_eq_false_iff_not, idxOk, inI64, Bool.not_eq_true', Bool.not_eq_false', Bool.not_true, Bool.not_false, rowB_eq, ptsB_eq] at *; first | omega | grind) | grind
theorem good_impl_digits : Ctr.Good k_impl_digits := ok_impl_digits trivial
def k_spec_l05Bits : Ctr := ⟨n_spec_l05Bits, [.v (.slice .bool)], fun (xs : List Bool) => ⟨(some (xs.length ≤ 100), [⟨.str, bitsB xs⟩])⟩⟩
def l_spec_l05Bits (xs : List Bool) : Nat → LoopInv := (fun zb => if Nat.beq zb 0 then .mk (Nat) (fun k => k ≤ xs.length) (fun k => xs.length - k) [] [1] (fun k => [(4, .imm ⟨(.int .i64), ((k : Int) : Int)⟩), (3, .imm ⟨.str, ((catL bit1 (xs.take k) : List UInt8) : List UInt8)⟩)]) [0, 2, 3, 4, 5, 6, 7, 8, 9, 10, 11, 12, 13, 14, 15, 16, 17, 18, 19] (fun k => []) [] [] (fun k => fun _ => .none) else .none)
theorem vc_spec_l05Bits (xs : List Bool) : awp (envOf []) (bodyOf f_spec_l05Bits) (l_spec_l05Bits xs) 0 (funPost (envOf []) f_spec_l05Bits fun r => areEq r [⟨.str, bitsB xs⟩]) (startState f_spec_l05Bits [.val ⟨(.slice .bool), xs⟩]) =
 (((∃ k1 : Nat, (k1 ≤ xs.length ∧ ((xs = xs ∧ (([] : List UInt8) = [] ∧ ([] = (catL bit1 (xs.take k1) : List UInt8) ∧ ((0 : Int) = (k1 : Int) ∧ True)))) ∧ True))) ∧ (∀ k1 : Nat, (k1 ≤ xs.length →
 (inI64 ((xs.length : Int)) →
 (((decide ((k1 : Int) < ((xs.length : Int)))) = true →
 (idxOk (k1 : Int) xs.length ∧ (((xs.getD k1 false) = true →
 ((catL bit1 (xs.take k1) : List UInt8).length + ([49]).length ≤ 140737488355328 ∧ (inI64 ((k1 : Int) + (1 : Int)) ∧ (∃ k2 : Nat, (k2 ≤ xs.length ∧ (xs.length - k2 < xs.length - k1 ∧ ((xs = xs ∧ (([] : List UInt8) = [] ∧ (((catL bit1 (xs.take k1) : List UInt8) ++ ([49])) = (catL bit1 (xs.take k2) : List UInt8) ∧ (((k1 : Int) + (1 : Int)) = (k2 : Int) ∧ True)))) ∧ True))))))) ∧ ((xs.getD k1 false) = false →
 ((catL bit1 (xs.take k1) : List UInt8).length + ([48]).length ≤ 140737488355328 ∧ (inI64 ((k1 : Int) + (1 : Int)) ∧ (∃ k2 : Nat, (k2 ≤ xs.length ∧ (xs.length - k2 < xs.length - k1 ∧ ((xs = xs ∧ (([] : List UInt8) = [] ∧ (((catL bit1 (xs.take k1) : List UInt8) ++ ([48])) = (catL bit1 (xs.take k2) : List UInt8) ∧ (((k1 : Int) + (1 : Int)) = (k2 : Int) ∧ True)))) ∧ True)))))))))) ∧ ((decide ((k1 : Int) < ((xs.length : Int)))) = false →
 (catL bit1 (xs.take k1) : List UInt8) = (bitsB xs)))))))) := by kernel_rfl
theorem ok_spec_l05Bits (hE : AllGood []) : Ctr.Good k_spec_l05Bits := by
 refine ⟨fnOk_of at_spec_l05Bits rfl (by decide), ?_⟩
 show ∀ (xs : List Bool), (xs.length ≤ 100) → OkCall prog n_spec_l05Bits [.val ⟨(.slice .bool), xs⟩] (· = [⟨.str, bitsB xs⟩])
 intro xs hp
 refine ok_of_awp (wr := []) (cl := []) (ro := []) hE at_spec_l05Bits body_spec_l05Bits (l_spec_l05Bits xs) ?_
 rewrite [vc_spec_l05Bits xs]
 refine ⟨⟨0, ⟨?_, ⟨⟨rfl, ⟨rfl, ⟨?_, ⟨?_, trivial⟩⟩⟩⟩, trivial⟩⟩⟩, fun k1 a0 => have b0x0 := bits_take xs k1; have b0x1 := bits_tl xs k1; have b0x2 := bits_end xs k1; fun a1 => ⟨fun a2 => ⟨?_, ⟨fun a3 => ⟨?_, ⟨?_, ⟨k1 + 1, ⟨?_, ⟨?_, ⟨⟨rfl, ⟨rfl, ⟨?_, ⟨?_, trivial⟩⟩⟩⟩, trivial⟩⟩⟩⟩⟩⟩, fun a3 => ⟨?_, ⟨?_, ⟨k1 + 1, ⟨?_, ⟨?_, ⟨⟨rfl, ⟨rfl, ⟨?_, ⟨?_, trivial⟩⟩⟩⟩, trivial⟩⟩⟩⟩⟩⟩⟩⟩, fun a2 => ?_⟩⟩
 all_goals try and_intros
 all_goals first | rfl | trivial | omega | (simp only [decide_eq_true_eq, decide_eq_false_iff_not, idxOk, inI64, Bool.not_eq_true', Bool.not_eq_false', Bool.not_true, Bool.not_false, rowB_eq, ptsB_eq] at *; first | omega | grind) | grind
theorem good_spec_l05Bits : Ctr.Good k_spec_l05Bits := ok_spec_l05Bits trivial
def k_impl_isTable_bool : Ctr := ⟨n_impl_isTable_bool, [.v (.slice (.slice .bool)), .v (.int .i64), .v (.int .i64)], fun (xs : List (List Bool)) (nr : Int) (nc : Int) => ⟨(none, [⟨.bool, tabB xs nr nc⟩])⟩⟩
def l_impl_isTable_bool (xs : List (List Bool)) (nr : Int) (nc : Int) : Nat → LoopInv := (fun zb => if Nat.beq zb 0 then .mk (Nat) (fun k => k ≤ xs.length ∧ allL (rowB nc) (xs.take k) = true ∧ (xs.length : Int) = nr) (fun k => xs.length - k) [] [0, 1, 3, 4, 5, 7, 9, 10, 11, 12] (fun k => [(15, .imm ⟨(.int .i64), ((k : Int) : Int)⟩)]) [2, 6, 8, 13, 14, 15, 16, 17, 18, 19, 20, 21, 22, 23] (fun k => []) [] [] (fun k => fun _ => .none) else .none)
theorem vc_impl_isTable_bool (xs : List (List Bool)) (nr : Int) (nc : Int) : awp (envOf []) (bodyOf f_impl_isTable_bool) (l_impl_isTable_bool xs nr nc) 0 (funPost (envOf []) f_impl_isTable_bool fun r => areEq r [⟨.bool, tabB xs nr nc⟩]) (startState f_impl_isTable_bool [.val ⟨(.slice (.slice .bool)), xs⟩, .val ⟨(.int .i64), nr⟩, .val ⟨(.int .i64), nc⟩]) =
 ((inI64 ((xs.length : Int)) →
 (((!(decide (((xs.length : Int)) = nr))) = true →
 false = (tabB xs nr nc)) ∧ ((!(decide (((xs.length : Int)) = nr))) = false →
 (inI64 ((xs.length : Int)) →
 ((∃ k1 : Nat, ((k1 ≤ xs.length ∧ allL (rowB nc) (xs.take k1) = true ∧ (xs.length : Int) = nr) ∧ ((nc = nc ∧ (xs = xs ∧ (((xs.length : Int)) = ((xs.length : Int)) ∧ ((0 : Int) = (k1 : Int) ∧ True)))) ∧ True))) ∧ (∀ k1 : Nat, ((k1 ≤ xs.length ∧ allL (rowB nc) (xs.take k1) = true ∧ (xs.length : Int) = nr) →
 (((decide ((k1 : Int) < ((xs.length : Int)))) = true →
 (idxOk (k1 : Int) xs.length ∧ ((xs.getD k1 []).length ≤ 140737488355328 →
 (inI64 (((xs.getD k1 []).length : Int)) →
 (((!(decide ((((xs.getD k1 []).length : Int)) = nc))) = true →
 false = (tabB xs nr nc)) ∧ ((!(decide ((((xs.getD k1 []).length : Int)) = nc))) = false →
 (inI64 ((k1 : Int) + (1 : Int)) ∧ (∃ k2 : Nat, ((k2 ≤ xs.length ∧ allL (rowB nc) (xs.take k2) = true ∧ (xs.length : Int) = nr) ∧ (xs.length - k2 < xs.length - k1 ∧ ((nc = nc ∧ (xs = xs ∧ (((xs.length : Int)) = ((xs.length : Int)) ∧ (((k1 : Int) + (1 : Int)) = (k2 : Int) ∧ True)))) ∧ True))))))))))) ∧ ((decide ((k1 : Int) < ((xs.length : Int)))) = false →
 true = (tabB xs nr nc))))))))))) := by kernel_rfl
theorem ok_impl_isTable_bool (hE : AllGood []) : Ctr.Good k_impl_isTable_bool := by
 refine ⟨fnOk_of at_impl_isTable_bool rfl (by decide), ?_⟩
 show ∀ (xs : List (List Bool)) (nr : Int) (nc : Int), True → OkCall prog n_impl_isTable_bool [.val ⟨(.slice (.slice .bool)), xs⟩, .val ⟨(.int .i64), nr⟩, .val ⟨(.int .i64), nc⟩] (· = [⟨.bool, tabB xs nr nc⟩])
 intro xs nr nc _
 refine ok_of_awp (wr := []) (cl := []) (ro := []) hE at_impl_isTable_bool body_impl_isTable_bool (l_impl_isTable_bool xs nr nc) ?_
 rewrite [vc_impl_isTable_bool xs nr nc]
 have f0 := tabB_eq xs nr nc
 have f1 : allL (rowB nc) (xs.take 0) = true := rfl
 refine fun a0 => ⟨fun a1 => ?_, fun a1 => fun a2 => ⟨⟨0, ⟨?_, ⟨⟨rfl, ⟨rfl, ⟨rfl, ⟨?_, trivial⟩⟩⟩⟩, trivial⟩⟩⟩, fun k1 a3 => have b3x0 := all_take (rowB nc) [] xs k1; have b3x1 := all_bad (rowB nc) [] xs k1; have b3x2 := all_done (rowB nc) xs k1; have b3x3 := rowB_eq nc (xs.getD k1 []); ⟨fun a4 => ⟨?_, fun a5 => fun a6 => ⟨fun a7 => ?_, fun a7 => ⟨?_, ⟨k1 + 1, ⟨?_, ⟨?_, ⟨⟨rfl, ⟨rfl, ⟨rfl, ⟨?_, trivial⟩⟩⟩⟩, trivial⟩⟩⟩⟩⟩⟩⟩, fun a4 => ?_⟩⟩⟩
 all_goals try and_intros
 all_goals first | rfl | trivial | omega | (simp only [decide_eq_true_eq, decide_eq_false_iff_not, idxOk, inI64, Bool.not_eq_true', Bool.not_eq_false', Bool.not_true, Bool.not_false, rowB_eq, ptsB_eq] at *; first | omega | grind) | grind
theorem good_impl_isTable_bool : Ctr.Good k_impl_isTable_bool := ok_impl_isTable_bool trivial
def k_impl_isFrame_bool : Ctr := ⟨n_impl_isFrame_bool, [.v (.st .sig), .v (.int .i64), .v (.slice (.slice .bool)), .v (.slice (.slice (.slice .bool)))], fun (gg : GSig) (np : Int) (xs : List (List Bool)) (ys : List (List (List Bool))) => ⟨(none, [⟨.bool, frB gg np xs ys⟩])⟩⟩
def l_impl_isFrame_bool (gg : GSig) (np : Int) (xs : List (List Bool)) (ys : List (List (List Bool))) : Nat → LoopInv := (fun zb => if Nat.beq zb 0 then .mk (Nat) (fun k => k ≤ ys.length ∧ allL (fun t => tabB t np np) (ys.take k) = true ∧ (sigOk gg && ptsB np && tabB xs gg.tests np && decide ((ys.length : Int) = gg.actions)) = true) (fun k => ys.length - k) [] [0, 2, 3, 4, 5, 6, 7, 9, 11, 12, 13, 14, 15, 16, 17, 18, 19, 20, 21, 22, 23, 24, 25, 26, 27, 28, 29, 30, 31, 32, 33] (fun k => [(36, .imm ⟨(.int .i64), ((k : Int) : Int)⟩)]) [1, 8, 10, 34, 35, 36, 37, 38, 39, 40, 41, 42, 43, 44, 45] (fun k => []) [] [] (fun k => fun _ => .none) else .none)
abbrev j_impl_isFrame_bool_0 (gg : GSig) (np : Int) (xs : List (List Bool)) (ys : List (List (List Bool))) : Prop := (inI64 ((ys.length : Int)) →
 ((∃ k1 : Nat, ((k1 ≤ ys.length ∧ allL (fun t => tabB t np np) (ys.take k1) = true ∧ (sigOk gg && ptsB np && tabB xs gg.tests np && decide ((ys.length : Int) = gg.actions)) = true) ∧ ((np = np ∧ (ys = ys ∧ (((ys.length : Int)) = ((ys.length : Int)) ∧ ((0 : Int) = (k1 : Int) ∧ True)))) ∧ True))) ∧ (∀ k1 : Nat, ((k1 ≤ ys.length ∧ allL (fun t => tabB t np np) (ys.take k1) = true ∧ (sigOk gg && ptsB np && tabB xs gg.tests np && decide ((ys.length : Int) = gg.actions)) = true) →
 (((decide ((k1 : Int) < ((ys.length : Int)))) = true →
 (idxOk (k1 : Int) ys.length ∧ ((ys.getD k1 []).length ≤ 140737488355328 →
 (((!(tabB (ys.getD k1 []) np np)) = true →
 false = (frB gg np xs ys)) ∧ ((!(tabB (ys.getD k1 []) np np)) = false →
 (inI64 ((k1 : Int) + (1 : Int)) ∧ (∃ k2 : Nat, ((k2 ≤ ys.length ∧ allL (fun t => tabB t np np) (ys.take k2) = true ∧ (sigOk gg && ptsB np && tabB xs gg.tests np && decide ((ys.length : Int) = gg.actions)) = true) ∧ (ys.length - k2 < ys.length - k1 ∧ ((np = np ∧ (ys = ys ∧ (((ys.length : Int)) = ((ys.length : Int)) ∧ (((k1 : Int) + (1 : Int)) = (k2 : Int) ∧ True)))) ∧ True)))))))))) ∧ ((decide ((k1 : Int) < ((ys.length : Int)))) = false →
 true = (frB gg np xs ys)))))))
abbrev j_impl_isFrame_bool_1 (gg : GSig) (np : Int) (xs : List (List Bool)) (ys : List (List (List Bool))) : Prop := (inI64 ((ys.length : Int)) →
 (inI64 gg.actions →
 (((!(decide (((ys.length : Int)) = gg.actions))) = true →
 false = (frB gg np xs ys)) ∧ ((!(decide (((ys.length : Int)) = gg.actions))) = false →
 (j_impl_isFrame_bool_0 gg np xs ys)))))
abbrev j_impl_isFrame_bool_2 (gg : GSig) (np : Int) (xs : List (List Bool)) (ys : List (List (List Bool))) : Prop := (inI64 gg.tests →
 (((!(tabB xs gg.tests np)) = false →
 (j_impl_isFrame_bool_1 gg np xs ys)) ∧ ((!(tabB xs gg.tests np)) = (!false) →
 ((true = true →
 false = (frB gg np xs ys)) ∧ (true = false →
 (j_impl_isFrame_bool_0 gg np xs ys))))))
abbrev j_impl_isFrame_bool_3 (gg : GSig) (np : Int) (xs : List (List Bool)) (ys : List (List (List Bool))) : Prop := ((true = false →
 (j_impl_isFrame_bool_1 gg np xs ys)) ∧ (true = (!false) →
 ((true = true →
 false = (frB gg np xs ys)) ∧ (true = false →
 (j_impl_isFrame_bool_0 gg np xs ys)))))
theorem vc_impl_isFrame_bool (gg : GSig) (np : Int) (xs : List (List Bool)) (ys : List (List (List Bool))) : awp (envOf [k_impl_ValidSig, k_impl_within, k_impl_isTable_bool] [] [] [4]) (bodyOf f_impl_isFrame_bool) (l_impl_isFrame_bool gg np xs ys) 0 (funPost (envOf [k_impl_ValidSig, k_impl_within, k_impl_isTable_bool] [] [] [4]) f_impl_isFrame_bool fun r => areEq r [⟨.bool, frB gg np xs ys⟩]) (startState f_impl_isFrame_bool [.val ⟨(.st .sig), gg⟩, .val ⟨(.int .i64), np⟩, .val ⟨(.slice (.slice .bool)), xs⟩, .val ⟨(.slice (.slice (.slice .bool))), ys⟩]) =
 ((((!(sigOk gg)) = false →
 ((((!(decide ((1 : Int) ≤ np ∧ np ≤ (8 : Int)))) = false) →
 (j_impl_isFrame_bool_2 gg np xs ys)) ∧ (((!(decide ((1 : Int) ≤ np ∧ np ≤ (8 : Int)))) = (!false)) →
 (j_impl_isFrame_bool_3 gg np xs ys)))) ∧ ((!(sigOk gg)) = (!false) →
 ((true = false →
 (j_impl_isFrame_bool_2 gg np xs ys)) ∧ (true = (!false) →
 (j_impl_isFrame_bool_3 gg np xs ys)))))) := by kernel_rfl
theorem ok_impl_isFrame_bool (hE : AllGood [k_impl_ValidSig, k_impl_within, k_impl_isTable_bool]) : Ctr.Good k_impl_isFrame_bool := by
 refine ⟨fnOk_of at_impl_isFrame_bool rfl (by decide), ?_⟩
 show ∀ (gg : GSig) (np : Int) (xs : List (List Bool)) (ys : List (List (List Bool))), True → OkCall prog n_impl_isFrame_bool [.val ⟨(.st .sig), gg⟩, .val ⟨(.int .i64), np⟩, .val ⟨(.slice (.slice .bool)), xs⟩, .val ⟨(.slice (.slice (.slice .bool))), ys⟩] (· = [⟨.bool, frB gg np xs ys⟩])
 intro gg np xs ys _
 refine ok_of_awp (wr := []) (cl := []) (ro := [4]) hE at_impl_isFrame_bool body_impl_isFrame_bool (l_impl_isFrame_bool gg np xs ys) ?_
 rewrite [vc_impl_isFrame_bool gg np xs ys]
 have f0 : frB gg np xs ys = (sigOk gg && ptsB np && tabB xs gg.tests np && decide ((ys.length : Int) = gg.actions) && allL (fun t => tabB t np np) ys) := rfl
 have f1 : allL (fun t => tabB t np np) (ys.take 0) = true := rfl
 have f2 := ptsB_eq np
 refine ⟨fun a0 => ⟨fun a1 => fun a2 => ⟨fun a3 => fun a4 => fun a5 => ⟨fun a6 => ?_, fun a6 => fun a7 => ⟨⟨0, ⟨?_, ⟨⟨rfl, ⟨rfl, ⟨rfl, ⟨?_, trivial⟩⟩⟩⟩, trivial⟩⟩⟩, fun k1 a8 => have b8x0 := all_take (fun t => tabB t np np) [] ys k1; have b8x1 := all_bad (fun t => tabB t np np) [] ys k1; have b8x2 := all_done (fun t => tabB t np np) ys k1; ⟨fun a9 => ⟨?_, fun a10 => ⟨fun a11 => ?_, fun a11 => ⟨?_, ⟨k1 + 1, ⟨?_, ⟨?_, ⟨⟨rfl, ⟨rfl, ⟨rfl, ⟨?_, trivial⟩⟩⟩⟩, trivial⟩⟩⟩⟩⟩⟩⟩, fun a9 => ?_⟩⟩⟩, fun a3 => ⟨fun a4 => ?_, fun a4 => fun a5 => ⟨⟨0, ⟨?_, ⟨⟨rfl, ⟨rfl, ⟨rfl, ⟨?_, trivial⟩⟩⟩⟩, trivial⟩⟩⟩, fun k1 a6 => have b6x0 := all_take (fun t => tabB t np np) [] ys k1; have b6x1 := all_bad (fun t => tabB t np np) [] ys k1; have b6x2 := all_done (fun t => tabB t np np) ys k1; ⟨fun a7 => ⟨?_, fun a8 => ⟨fun a9 => ?_, fun a9 => ⟨?_, ⟨k1 + 1, ⟨?_, ⟨?_, ⟨⟨rfl, ⟨rfl, ⟨rfl, ⟨?_, trivial⟩⟩⟩⟩, trivial⟩⟩⟩⟩⟩⟩⟩, fun a7 => ?_⟩⟩⟩⟩, fun a1 => ⟨fun a2 => fun a3 => fun a4 => ⟨fun a5 => ?_, fun a5 => fun a6 => ⟨⟨0, ⟨?_, ⟨⟨rfl, ⟨rfl, ⟨rfl, ⟨?_, trivial⟩⟩⟩⟩, trivial⟩⟩⟩, fun k1 a7 => have b7x0 := all_take (fun t => tabB t np np) [] ys k1; have b7x1 := all_bad (fun t => tabB t np np) [] ys k1; have b7x2 := all_done (fun t => tabB t np np) ys k1; ⟨fun a8 => ⟨?_, fun a9 => ⟨fun a10 => ?_, fun a10 => ⟨?_, ⟨k1 + 1, ⟨?_, ⟨?_, ⟨⟨rfl, ⟨rfl, ⟨rfl, ⟨?_, trivial⟩⟩⟩⟩, trivial⟩⟩⟩⟩⟩⟩⟩, fun a8 => ?_⟩⟩⟩, fun a2 => ⟨fun a3 => ?_, fun a3 => fun a4 => ⟨⟨0, ⟨?_, ⟨⟨rfl, ⟨rfl, ⟨rfl, ⟨?_, trivial⟩⟩⟩⟩, trivial⟩⟩⟩, fun k1 a5 => have b5x0 := all_take (fun t => tabB t np np) [] ys k1; have b5x1 := all_bad (fun t => tabB t np np) [] ys k1; have b5x2 := all_done (fun t => tabB t np np) ys k1; ⟨fun a6 => ⟨?_, fun a7 => ⟨fun a8 => ?_, fun a8 => ⟨?_, ⟨k1 + 1, ⟨?_, ⟨?_, ⟨⟨rfl, ⟨rfl, ⟨rfl, ⟨?_, trivial⟩⟩⟩⟩, trivial⟩⟩⟩⟩⟩⟩⟩, fun a6 => ?_⟩⟩⟩⟩⟩, fun a0 => ⟨fun a1 => fun a2 => ⟨fun a3 => fun a4 => fun a5 => ⟨fun a6 => ?_, fun a6 => fun a7 => ⟨⟨0, ⟨?_, ⟨⟨rfl, ⟨rfl, ⟨rfl, ⟨?_, trivial⟩⟩⟩⟩, trivial⟩⟩⟩, fun k1 a8 => have b8x0 := all_take (fun t => tabB t np np) [] ys k1; have b8x1 := all_bad (fun t => tabB t np np) [] ys k1; have b8x2 := all_done (fun t => tabB t np np) ys k1; ⟨fun a9 => ⟨?_, fun a10 => ⟨fun a11 => ?_, fun a11 => ⟨?_, ⟨k1 + 1, ⟨?_, ⟨?_, ⟨⟨rfl, ⟨rfl, ⟨rfl, ⟨?_, trivial⟩⟩⟩⟩, trivial⟩⟩⟩⟩⟩⟩⟩, fun a9 => ?_⟩⟩⟩, fun a3 => ⟨fun a4 => ?_, fun a4 => fun a5 => ⟨⟨0, ⟨?_, ⟨⟨rfl, ⟨rfl, ⟨rfl, ⟨?_, trivial⟩⟩⟩⟩, trivial⟩⟩⟩, fun k1 a6 => have b6x0 := all_take (fun t => tabB t np np) [] ys k1; have b6x1 := all_bad (fun t => tabB t np np) [] ys k1; have b6x2 := all_done (fun t => tabB t np np) ys k1; ⟨fun a7 => ⟨?_, fun a8 => ⟨fun a9 => ?_, fun a9 => ⟨?_, ⟨k1 + 1, ⟨?_, ⟨?_, ⟨⟨rfl, ⟨rfl, ⟨rfl, ⟨?_, trivial⟩⟩⟩⟩, trivial⟩⟩⟩⟩⟩⟩⟩, fun a7 => ?_⟩⟩⟩⟩, fun a1 => ⟨fun a2 => fun a3 => fun a4 => ⟨fun a5 => ?_, fun a5 => fun a6 => ⟨⟨0, ⟨?_, ⟨⟨rfl, ⟨rfl, ⟨rfl, ⟨?_, trivial⟩⟩⟩⟩, trivial⟩⟩⟩, fun k1 a7 => have b7x0 := all_take (fun t => tabB t np np) [] ys k1; have b7x1 := all_bad (fun t => tabB t np np) [] ys k1; have b7x2 := all_done (fun t => tabB t np np) ys k1; ⟨fun a8 => ⟨?_, fun a9 => ⟨fun a10 => ?_, fun a10 => ⟨?_, ⟨k1 + 1, ⟨?_, ⟨?_, ⟨⟨rfl, ⟨rfl, ⟨rfl, ⟨?_, trivial⟩⟩⟩⟩, trivial⟩⟩⟩⟩⟩⟩⟩, fun a8 => ?_⟩⟩⟩, fun a2 => ⟨fun a3 => ?_, fun a3 => fun a4 => ⟨⟨0, ⟨?_, ⟨⟨rfl, ⟨rfl, ⟨rfl, ⟨?_, trivial⟩⟩⟩⟩, trivial⟩⟩⟩, fun k1 a5 => have b5x0 := all_take (fun t => tabB t np np) [] ys k1; have b5x1 := all_bad (fun t => tabB t np np) [] ys k1; have b5x2 := all_done (fun t => tabB t np np) ys k1; ⟨fun a6 => ⟨?_, fun a7 => ⟨fun a8 => ?_, fun a8 => ⟨?_, ⟨k1 + 1, ⟨?_, ⟨?_, ⟨⟨rfl, ⟨rfl, ⟨rfl, ⟨?_, trivial⟩⟩⟩⟩, trivial⟩⟩⟩⟩⟩⟩⟩, fun a6 => ?_⟩⟩⟩⟩⟩⟩
 all_goals try and_intros
 all_goals first | rfl | trivial | omega | (simp only [decide_eq_true_eq, decide_eq_false_iff_not, idxOk, inI64, Bool.not_eq_true', Bool.not_eq_false', Bool.not_true, Bool.not_false, rowB_eq, ptsB_eq] at *; first | omega | grind) | grind
theorem good_impl_isFrame_bool : Ctr.Good k_impl_isFrame_bool := ok_impl_isFrame_bool ⟨good_impl_ValidSig, good_impl_within, good_impl_isTable_bool, trivial⟩
def k_impl_ValidModel : Ctr := ⟨n_impl_ValidModel, [.v (.st .model)], fun (m : GModel) => ⟨(none, [⟨.bool, mOk m⟩])⟩⟩
def l_impl_ValidModel (m : GModel) : Nat → LoopInv := fun _ => .none
theorem vc_impl_ValidModel (m : GModel) : awp (envOf [k_impl_isFrame_bool] [] [] [1]) (bodyOf f_impl_ValidModel) (l_impl_ValidModel m) 0 (funPost (envOf [k_impl_isFrame_bool] [] [] [1]) f_impl_ValidModel fun r => areEq r [⟨.bool, mOk m⟩]) (startState f_impl_ValidModel [.val ⟨(.st .model), m⟩]) =
 ((inI64 m.points →
 (m.tests.length ≤ 140737488355328 →
 (m.acts.length ≤ 140737488355328 →
 (frB m.sig m.points m.tests m.acts) = (mOk m))))) := by kernel_rfl
theorem ok_impl_ValidModel (hE : AllGood [k_impl_isFrame_bool]) : Ctr.Good k_impl_ValidModel := by
 refine ⟨fnOk_of at_impl_ValidModel rfl (by decide), ?_⟩
 show ∀ (m : GModel), True → OkCall prog n_impl_ValidModel [.val ⟨(.st .model), m⟩] (· = [⟨.bool, mOk m⟩])
 intro m _
 refine ok_of_awp (wr := []) (cl := []) (ro := [1]) hE at_impl_ValidModel body_impl_ValidModel (l_impl_ValidModel m) ?_
 rewrite [vc_impl_ValidModel m]
 refine fun a0 => fun a1 => fun a2 => ?_
 all_goals try and_intros
 all_goals first | rfl | trivial | omega | (simp only [decide_eq_true_eq, decide_eq_false_iff_not, idxOk, inI64, Bool.not_eq_true', Bool.not_eq_false', Bool.not_true, Bool.not_false, rowB_eq, ptsB_eq] at *; first | omega | grind) | grind
theorem good_impl_ValidModel : Ctr.Good k_impl_ValidModel := ok_impl_ValidModel ⟨good_impl_isFrame_bool, trivial⟩
def k_spec_l05Tests : Ctr := ⟨n_spec_l05Tests, [.v (.st .sig), .v (.int .i64), .v (.slice (.slice .bool))], fun (gg : GSig) (np : Int) (xs : List (List Bool)) => ⟨(none, [⟨.bool, tsB gg np xs⟩])⟩⟩
def l_spec_l05Tests (gg : GSig) (np : Int) (xs : List (List Bool)) : Nat → LoopInv := (fun zb => if Nat.beq zb 0 then .mk (Nat) (fun k => k ≤ xs.length ∧ allL (rowB np) (xs.take k) = true ∧ (sigOk gg && ptsB np && decide ((xs.length : Int) = gg.tests)) = true) (fun k => xs.length - k) [] [0, 3, 4, 5, 8, 9, 10, 11, 12, 13, 14, 15, 16, 17, 18, 19, 20, 21, 22] (fun k => [(7, .imm ⟨(.int .i64), ((k : Int) : Int)⟩)]) [1, 2, 6, 7, 23, 24, 25, 26, 27, 28, 29, 30, 31, 32, 33, 34, 35] (fun k => []) [] [] (fun k => fun _ => .none) else .none)
abbrev j_spec_l05Tests_0 (gg : GSig) (np : Int) (xs : List (List Bool)) : Prop := ((∃ k1 : Nat, ((k1 ≤ xs.length ∧ allL (rowB np) (xs.take k1) = true ∧ (sigOk gg && ptsB np && decide ((xs.length : Int) = gg.tests)) = true) ∧ ((np = np ∧ (xs = xs ∧ ((0 : Int) = (k1 : Int) ∧ True))) ∧ True))) ∧ (∀ k1 : Nat, ((k1 ≤ xs.length ∧ allL (rowB np) (xs.take k1) = true ∧ (sigOk gg && ptsB np && decide ((xs.length : Int) = gg.tests)) = true) →
 (inI64 ((xs.length : Int)) →
 (((decide ((k1 : Int) < ((xs.length : Int)))) = true →
 (idxOk (k1 : Int) xs.length ∧ ((xs.getD k1 []).length ≤ 140737488355328 →
 (inI64 (((xs.getD k1 []).length : Int)) →
 (((!(decide ((((xs.getD k1 []).length : Int)) = np))) = true →
 false = (tsB gg np xs)) ∧ ((!(decide ((((xs.getD k1 []).length : Int)) = np))) = false →
 (inI64 ((k1 : Int) + (1 : Int)) ∧ (∃ k2 : Nat, ((k2 ≤ xs.length ∧ allL (rowB np) (xs.take k2) = true ∧ (sigOk gg && ptsB np && decide ((xs.length : Int) = gg.tests)) = true) ∧ (xs.length - k2 < xs.length - k1 ∧ ((np = np ∧ (xs = xs ∧ (((k1 : Int) + (1 : Int)) = (k2 : Int) ∧ True))) ∧ True))))))))))) ∧ ((decide ((k1 : Int) < ((xs.length : Int)))) = false →
 true = (tsB gg np xs)))))))
abbrev j_spec_l05Tests_1 (gg : GSig) (np : Int) (xs : List (List Bool)) : Prop := (inI64 ((xs.length : Int)) →
 (inI64 gg.tests →
 (((!(decide (((xs.length : Int)) = gg.tests))) = true →
 false = (tsB gg np xs)) ∧ ((!(decide (((xs.length : Int)) = gg.tests))) = false →
 (j_spec_l05Tests_0 gg np xs)))))
theorem vc_spec_l05Tests (gg : GSig) (np : Int) (xs : List (List Bool)) : awp (envOf [k_spec_l01Sig, k_spec_l00In] [] [] [3]) (bodyOf f_spec_l05Tests) (l_spec_l05Tests gg np xs) 0 (funPost (envOf [k_spec_l01Sig, k_spec_l00In] [] [] [3]) f_spec_l05Tests fun r => areEq r [⟨.bool, tsB gg np xs⟩]) (startState f_spec_l05Tests [.val ⟨(.st .sig), gg⟩, .val ⟨(.int .i64), np⟩, .val ⟨(.slice (.slice .bool)), xs⟩]) =
 ((((!(sigOk gg)) = false →
 ((((!(decide ((1 : Int) ≤ np ∧ np ≤ (8 : Int)))) = false) →
 (j_spec_l05Tests_1 gg np xs)) ∧ (((!(decide ((1 : Int) ≤ np ∧ np ≤ (8 : Int)))) = (!false)) →
 ((true = true →
 false = (tsB gg np xs)) ∧ (true = false →
 (j_spec_l05Tests_0 gg np xs)))))) ∧ ((!(sigOk gg)) = (!false) →
 ((true = false →
 (j_spec_l05Tests_1 gg np xs)) ∧ (true = (!false) →
 ((true = true →
 false = (tsB gg np xs)) ∧ (true = false →
 (j_spec_l05Tests_0 gg np xs)))))))) := by kernel_rfl
theorem ok_spec_l05Tests (hE : AllGood [k_spec_l01Sig, k_spec_l00In]) : Ctr.Good k_spec_l05Tests := by
 refine ⟨fnOk_of at_spec_l05Tests rfl (by decide), ?_⟩
 show ∀ (gg : GSig) (np : Int) (xs : List (List Bool)), True → OkCall prog n_spec_l05Tests [.val ⟨(.st .sig), gg⟩, .val ⟨(.int .i64), np⟩, .val ⟨(.slice (.slice .bool)), xs⟩] (· = [⟨.bool, tsB gg np xs⟩])
 intro gg np xs _
 refine ok_of_awp (wr := []) (cl := []) (ro := [3]) hE at_spec_l05Tests body_spec_l05Tests (l_spec_l05Tests gg np xs) ?_
 rewrite [vc_spec_l05Tests gg np xs]
 have f0 := tsB_eq gg np xs
 have f1 : allL (rowB np) (xs.take 0) = true := rfl
 have f2 := ptsB_eq np
 refine ⟨fun a0 => ⟨fun a1 => fun a2 => fun a3 => ⟨fun a4 => ?_, fun a4 => ⟨⟨0, ⟨?_, ⟨⟨rfl, ⟨rfl, ⟨?_, trivial⟩⟩⟩, trivial⟩⟩⟩, fun k1 a5 => have b5x0 := all_take (rowB np) [] xs k1; have b5x1 := all_bad (rowB np) [] xs k1; have b5x2 := all_done (rowB np) xs k1; have b5x3 := rowB_eq np (xs.getD k1 []); fun a6 => ⟨fun a7 => ⟨?_, fun a8 => fun a9 => ⟨fun a10 => ?_, fun a10 => ⟨?_, ⟨k1 + 1, ⟨?_, ⟨?_, ⟨⟨rfl, ⟨rfl, ⟨?_, trivial⟩⟩⟩, trivial⟩⟩⟩⟩⟩⟩⟩, fun a7 => ?_⟩⟩⟩, fun a1 => ⟨fun a2 => ?_, fun a2 => ⟨⟨0, ⟨?_, ⟨⟨rfl, ⟨rfl, ⟨?_, trivial⟩⟩⟩, trivial⟩⟩⟩, fun k1 a3 => have b3x0 := all_take (rowB np) [] xs k1; have b3x1 := all_bad (rowB np) [] xs k1; have b3x2 := all_done (rowB np) xs k1; have b3x3 := rowB_eq np (xs.getD k1 []); fun a4 => ⟨fun a5 => ⟨?_, fun a6 => fun a7 => ⟨fun a8 => ?_, fun a8 => ⟨?_, ⟨k1 + 1, ⟨?_, ⟨?_, ⟨⟨rfl, ⟨rfl, ⟨?_, trivial⟩⟩⟩, trivial⟩⟩⟩⟩⟩⟩⟩, fun a5 => ?_⟩⟩⟩⟩, fun a0 => ⟨fun a1 => fun a2 => fun a3 => ⟨fun a4 => ?_, fun a4 => ⟨⟨0, ⟨?_, ⟨⟨rfl, ⟨rfl, ⟨?_, trivial⟩⟩⟩, trivial⟩⟩⟩, fun k1 a5 => have b5x0 := all_take (rowB np) [] xs k1; have b5x1 := all_bad (rowB np) [] xs k1; have b5x2 := all_done (rowB np) xs k1; have b5x3 := rowB_eq np (xs.getD k1 []); fun a6 => ⟨fun a7 => ⟨?_, fun a8 => fun a9 => ⟨fun a10 => ?_, fun a10 => ⟨?_, ⟨k1 + 1, ⟨?_, ⟨?_, ⟨⟨rfl, ⟨rfl, ⟨?_, trivial⟩⟩⟩, trivial⟩⟩⟩⟩⟩⟩⟩, fun a7 => ?_⟩⟩⟩, fun a1 => ⟨fun a2 => ?_, fun a2 => ⟨⟨0, ⟨?_, ⟨⟨rfl, ⟨rfl, ⟨?_, trivial⟩⟩⟩, trivial⟩⟩⟩, fun k1 a3 => have b3x0 := all_take (rowB np) [] xs k1; have b3x1 := all_bad (rowB np) [] xs k1; have b3x2 := all_done (rowB np) xs k1; have b3x3 := rowB_eq np (xs.getD k1 []); fun a4 => ⟨fun a5 => ⟨?_, fun a6 => fun a7 => ⟨fun a8 => ?_, fun a8 => ⟨?_, ⟨k1 + 1, ⟨?_, ⟨?_, ⟨⟨rfl, ⟨rfl, ⟨?_, trivial⟩⟩⟩, trivial⟩⟩⟩⟩⟩⟩⟩, fun a5 => ?_⟩⟩⟩⟩⟩
 all_goals try and_intros
 all_goals first | rfl | trivial | omega | (simp only [decide_eq_true_eq, decide_eq_false_iff_not, idxOk, inI64, Bool.not_eq_true', Bool.not_eq_false', Bool.not_true, Bool.not_false, rowB_eq, ptsB_eq] at *; first | omega | grind) | grind
theorem good_spec_l05Tests : Ctr.Good k_spec_l05Tests := ok_spec_l05Tests ⟨good_spec_l01Sig, good_spec_l00In, trivial⟩
def k_spec_l05Ok : Ctr := ⟨n_spec_l05Ok, [.r (.st .model)], fun (m : GModel) => ⟨(none, [⟨.bool, mOk m⟩])⟩⟩
def l_spec_l05Ok (m : GModel) : Nat → LoopInv := (fun zb => if Nat.beq zb 0 then .mk (Nat) (fun j => j ≤ m.acts.length ∧ allL (fun t => tabB t m.points m.points) (m.acts.take j) = true ∧ (tsB m.sig m.points m.tests && decide ((m.acts.length : Int) = m.sig.actions)) = true) (fun j => m.acts.length - j) [] [1, 5, 6, 7, 8, 9, 10, 11, 12, 13, 14, 15, 16, 17, 18, 19, 20, 21, 22, 23, 24, 25, 26, 27, 28, 29, 30, 31] (fun j => [(3, .imm ⟨(.int .i64), ((j : Int) : Int)⟩)]) [0, 2, 3, 4, 32, 33, 34, 35, 36, 37, 38, 39, 40, 41, 42, 43, 44, 45, 46, 47, 48, 49, 50, 51, 52, 53, 54, 55, 56, 57, 58, 59, 60, 61, 62, 63, 64, 65, 66, 67, 68, 69, 70, 71, 72, 73, 74, 75, 76, 77, 78, 79, 80, 81] (fun j => []) [] [] (fun j => (fun zb => if Nat.beq zb 2 then .mk (Nat) (fun k => k ≤ (m.acts.getD j []).length ∧ allL (rowB m.points) ((m.acts.getD j []).take k) = true ∧ ((m.acts.getD j []).length : Int) = m.points ∧ j < m.acts.length ∧ allL (fun t => tabB t m.points m.points) (m.acts.take j) = true ∧ (tsB m.sig m.points m.tests && decide ((m.acts.length : Int) = m.sig.actions)) = true) (fun k => (m.acts.getD j []).length - k) [] [1, 5, 6, 7, 8, 9, 10, 11, 12, 13, 14, 15, 16, 17, 18, 19, 20, 21, 22, 23, 24, 25, 26, 27, 28, 29, 30, 31] (fun k => [(4, .imm ⟨(.int .i64), ((k : Int) : Int)⟩)]) [0, 2, 3, 4, 32, 33, 34, 35, 36, 37, 38, 39, 40, 41, 42, 43, 44, 45, 46, 47, 48, 49, 50, 51, 52, 53, 54, 55, 56, 57, 58, 59, 60, 61, 62, 63, 64, 65, 66, 67, 68, 69, 70, 71, 72, 73, 74, 75, 76, 77, 78, 79, 80, 81] (fun k => []) [] [] (fun k => fun _ => .none) else .none)) else .none)
abbrev j_spec_l05Ok_0 (m : GModel) (j1 : Nat) : Prop := ((j1 : Int) = (j1 : Int) ∧ (m = m ∧ (m = m ∧ (m.acts = m.acts ∧ (m.acts = m.acts ∧ (((m.acts.length : Int)) = ((m.acts.length : Int)) ∧ ((decide ((j1 : Int) < ((m.acts.length : Int)))) = (decide ((j1 : Int) < ((m.acts.length : Int)))) ∧ (m = m ∧ (m = m ∧ (m.acts = m.acts ∧ (m.acts = m.acts ∧ ((j1 : Int) = (j1 : Int) ∧ ((m.acts.getD j1 []) = (m.acts.getD j1 []) ∧ ((m.acts.getD j1 []) = (m.acts.getD j1 []) ∧ ((((m.acts.getD j1 []).length : Int)) = (((m.acts.getD j1 []).length : Int)) ∧ (m = m ∧ (m = m ∧ (m.points = m.points ∧ (m.points = m.points ∧ ((!(decide ((((m.acts.getD j1 []).length : Int)) = m.points))) = (!(decide ((((m.acts.getD j1 []).length : Int)) = m.points))) ∧ True))))))))))))))))))))
abbrev j_spec_l05Ok_1 (m : GModel) : Prop := ((∃ j1 : Nat, ((j1 ≤ m.acts.length ∧ allL (fun t => tabB t m.points m.points) (m.acts.take j1) = true ∧ (tsB m.sig m.points m.tests && decide ((m.acts.length : Int) = m.sig.actions)) = true) ∧ ((m = m ∧ ((0 : Int) = (j1 : Int) ∧ True)) ∧ True))) ∧ (∀ j1 : Nat, ((j1 ≤ m.acts.length ∧ allL (fun t => tabB t m.points m.points) (m.acts.take j1) = true ∧ (tsB m.sig m.points m.tests && decide ((m.acts.length : Int) = m.sig.actions)) = true) →
 (m.acts.length ≤ 140737488355328 →
 (inI64 ((m.acts.length : Int)) →
 (((decide ((j1 : Int) < ((m.acts.length : Int)))) = true →
 (idxOk (j1 : Int) m.acts.length ∧ (m.acts.length ≤ 140737488355328 →
 ((m.acts.getD j1 []).length ≤ 140737488355328 →
 (inI64 (((m.acts.getD j1 []).length : Int)) →
 (inI64 m.points →
 (((!(decide ((((m.acts.getD j1 []).length : Int)) = m.points))) = true →
 false = (mOk m)) ∧ ((!(decide ((((m.acts.getD j1 []).length : Int)) = m.points))) = false →
 ((∃ k2 : Nat, ((k2 ≤ (m.acts.getD j1 []).length ∧ allL (rowB m.points) ((m.acts.getD j1 []).take k2) = true ∧ ((m.acts.getD j1 []).length : Int) = m.points ∧ j1 < m.acts.length ∧ allL (fun t => tabB t m.points m.points) (m.acts.take j1) = true ∧ (tsB m.sig m.points m.tests && decide ((m.acts.length : Int) = m.sig.actions)) = true) ∧ ((m = m ∧ ((j1 : Int) = (j1 : Int) ∧ ((0 : Int) = (k2 : Int) ∧ (j_spec_l05Ok_0 m j1)))) ∧ True))) ∧ (∀ k2 : Nat, ((k2 ≤ (m.acts.getD j1 []).length ∧ allL (rowB m.points) ((m.acts.getD j1 []).take k2) = true ∧ ((m.acts.getD j1 []).length : Int) = m.points ∧ j1 < m.acts.length ∧ allL (fun t => tabB t m.points m.points) (m.acts.take j1) = true ∧ (tsB m.sig m.points m.tests && decide ((m.acts.length : Int) = m.sig.actions)) = true) →
 (m.acts.length ≤ 140737488355328 →
 (idxOk (j1 : Int) m.acts.length ∧ ((m.acts.getD j1 []).length ≤ 140737488355328 →
 (inI64 (((m.acts.getD j1 []).length : Int)) →
 (((decide ((k2 : Int) < (((m.acts.getD j1 []).length : Int)))) = true →
 (idxOk (j1 : Int) m.acts.length ∧ (idxOk (k2 : Int) (m.acts.getD j1 []).length ∧ (m.acts.length ≤ 140737488355328 →
 ((m.acts.getD j1 []).length ≤ 140737488355328 →
 (((m.acts.getD j1 []).getD k2 []).length ≤ 140737488355328 →
 (inI64 ((((m.acts.getD j1 []).getD k2 []).length : Int)) →
 (inI64 m.points →
 (((!(decide (((((m.acts.getD j1 []).getD k2 []).length : Int)) = m.points))) = true →
 false = (mOk m)) ∧ ((!(decide (((((m.acts.getD j1 []).getD k2 []).length : Int)) = m.points))) = false →
 (inI64 ((k2 : Int) + (1 : Int)) ∧ (∃ k3 : Nat, ((k3 ≤ (m.acts.getD j1 []).length ∧ allL (rowB m.points) ((m.acts.getD j1 []).take k3) = true ∧ ((m.acts.getD j1 []).length : Int) = m.points ∧ j1 < m.acts.length ∧ allL (fun t => tabB t m.points m.points) (m.acts.take j1) = true ∧ (tsB m.sig m.points m.tests && decide ((m.acts.length : Int) = m.sig.actions)) = true) ∧ ((m.acts.getD j1 []).length - k3 < (m.acts.getD j1 []).length - k2 ∧ ((m = m ∧ ((j1 : Int) = (j1 : Int) ∧ (((k2 : Int) + (1 : Int)) = (k3 : Int) ∧ (j_spec_l05Ok_0 m j1)))) ∧ True))))))))))))))) ∧ ((decide ((k2 : Int) < (((m.acts.getD j1 []).length : Int)))) = false →
 (inI64 ((j1 : Int) + (1 : Int)) ∧ (∃ j3 : Nat, ((j3 ≤ m.acts.length ∧ allL (fun t => tabB t m.points m.points) (m.acts.take j3) = true ∧ (tsB m.sig m.points m.tests && decide ((m.acts.length : Int) = m.sig.actions)) = true) ∧ (m.acts.length - j3 < m.acts.length - j1 ∧ ((m = m ∧ (((j1 : Int) + (1 : Int)) = (j3 : Int) ∧ True)) ∧ True)))))))))))))))))))))) ∧ ((decide ((j1 : Int) < ((m.acts.length : Int)))) = false →
 true = (mOk m))))))))
theorem vc_spec_l05Ok (m : GModel) : awp (envOf [k_spec_l05Tests]) (bodyOf f_spec_l05Ok) (l_spec_l05Ok m) 0 (funPost (envOf [k_spec_l05Tests]) f_spec_l05Ok fun r => areEq r [⟨.bool, mOk m⟩]) (startState f_spec_l05Ok [.ref ⟨(.st .model), m⟩]) =
 ((((!(tsB m.sig m.points m.tests)) = false →
 (inI64 m.points →
 (m.tests.length ≤ 140737488355328 →
 (m.acts.length ≤ 140737488355328 →
 (inI64 ((m.acts.length : Int)) →
 (inI64 m.sig.actions →
 (((!(decide (((m.acts.length : Int)) = m.sig.actions))) = true →
 false = (mOk m)) ∧ ((!(decide (((m.acts.length : Int)) = m.sig.actions))) = false →
 (j_spec_l05Ok_1 m))))))))) ∧ ((!(tsB m.sig m.points m.tests)) = (!false) →
 (inI64 m.points →
 (m.tests.length ≤ 140737488355328 →
 ((true = true →
 false = (mOk m)) ∧ (true = false →
 (j_spec_l05Ok_1 m)))))))) := by kernel_rfl
theorem ok_spec_l05Ok (hE : AllGood [k_spec_l05Tests]) : Ctr.Good k_spec_l05Ok := by
 refine ⟨fnOk_of at_spec_l05Ok rfl (by decide), ?_⟩
 show ∀ (m : GModel), True → OkCall prog n_spec_l05Ok [.ref ⟨(.st .model), m⟩] (· = [⟨.bool, mOk m⟩])
 intro m _
 refine ok_of_awp (wr := []) (cl := []) (ro := []) hE at_spec_l05Ok body_spec_l05Ok (l_spec_l05Ok m) ?_
 rewrite [vc_spec_l05Ok m]
 have f0 := mOk_ts m
 have f1 : allL (fun t => tabB t m.points m.points) (m.acts.take 0) = true := rfl
 have f2 : ∀ t : List (List Bool), allL (rowB m.points) (t.take 0) = true := fun _ => rfl
 refine ⟨fun a0 => fun a1 => fun a2 => fun a3 => fun a4 => fun a5 => ⟨fun a6 => ?_, fun a6 => ⟨⟨0, ⟨?_, ⟨⟨rfl, ⟨?_, trivial⟩⟩, trivial⟩⟩⟩, fun j1 a7 => have b7x0 := all_take (fun t => tabB t m.points m.points) [] m.acts j1; have b7x1 := all_bad (fun t => tabB t m.points m.points) [] m.acts j1; have b7x2 := all_done (fun t => tabB t m.points m.points) m.acts j1; have b7x3 := tabB_eq (m.acts.getD j1 []) m.points m.points; fun a8 => fun a9 => ⟨fun a10 => ⟨?_, fun a11 => fun a12 => fun a13 => fun a14 => ⟨fun a15 => ?_, fun a15 => ⟨⟨0, ⟨?_, ⟨⟨rfl, ⟨rfl, ⟨?_, ⟨rfl, ⟨rfl, ⟨rfl, ⟨rfl, ⟨rfl, ⟨rfl, ⟨rfl, ⟨rfl, ⟨rfl, ⟨rfl, ⟨rfl, ⟨rfl, ⟨rfl, ⟨rfl, ⟨rfl, ⟨rfl, ⟨rfl, ⟨rfl, ⟨rfl, ⟨?_, trivial⟩⟩⟩⟩⟩⟩⟩⟩⟩⟩⟩⟩⟩⟩⟩⟩⟩⟩⟩⟩⟩⟩⟩, trivial⟩⟩⟩, fun k2 a16 => have b16x0 := all_take (rowB m.points) [] (m.acts.getD j1 []) k2; have b16x1 := all_bad (rowB m.points) [] (m.acts.getD j1 []) k2; have b16x2 := all_done (rowB m.points) (m.acts.getD j1 []) k2; have b16x3 := rowB_eq m.points ((m.acts.getD j1 []).getD k2 []); fun a17 => ⟨?_, fun a18 => fun a19 => ⟨fun a20 => ⟨?_, ⟨?_, fun a21 => fun a22 => fun a23 => fun a24 => fun a25 => ⟨fun a26 => ?_, fun a26 => ⟨?_, ⟨k2 + 1, ⟨?_, ⟨?_, ⟨⟨rfl, ⟨rfl, ⟨?_, ⟨rfl, ⟨rfl, ⟨rfl, ⟨rfl, ⟨rfl, ⟨rfl, ⟨rfl, ⟨rfl, ⟨rfl, ⟨rfl, ⟨rfl, ⟨rfl, ⟨rfl, ⟨rfl, ⟨rfl, ⟨rfl, ⟨rfl, ⟨rfl, ⟨rfl, ⟨?_, trivial⟩⟩⟩⟩⟩⟩⟩⟩⟩⟩⟩⟩⟩⟩⟩⟩⟩⟩⟩⟩⟩⟩⟩, trivial⟩⟩⟩⟩⟩⟩⟩⟩, fun a20 => ⟨?_, ⟨j1 + 1, ⟨?_, ⟨?_, ⟨⟨rfl, ⟨?_, trivial⟩⟩, trivial⟩⟩⟩⟩⟩⟩⟩⟩⟩⟩, fun a10 => ?_⟩⟩⟩, fun a0 => fun a1 => fun a2 => ⟨fun a3 => ?_, fun a3 => ⟨⟨0, ⟨?_, ⟨⟨rfl, ⟨?_, trivial⟩⟩, trivial⟩⟩⟩, fun j1 a4 => have b4x0 := all_take (fun t => tabB t m.points m.points) [] m.acts j1; have b4x1 := all_bad (fun t => tabB t m.points m.points) [] m.acts j1; have b4x2 := all_done (fun t => tabB t m.points m.points) m.acts j1; have b4x3 := tabB_eq (m.acts.getD j1 []) m.points m.points; fun a5 => fun a6 => ⟨fun a7 => ⟨?_, fun a8 => fun a9 => fun a10 => fun a11 => ⟨fun a12 => ?_, fun a12 => ⟨⟨0, ⟨?_, ⟨⟨rfl, ⟨rfl, ⟨?_, ⟨rfl, ⟨rfl, ⟨rfl, ⟨rfl, ⟨rfl, ⟨rfl, ⟨rfl, ⟨rfl, ⟨rfl, ⟨rfl, ⟨rfl, ⟨rfl, ⟨rfl, ⟨rfl, ⟨rfl, ⟨rfl, ⟨rfl, ⟨rfl, ⟨rfl, ⟨?_, trivial⟩⟩⟩⟩⟩⟩⟩⟩⟩⟩⟩⟩⟩⟩⟩⟩⟩⟩⟩⟩⟩⟩⟩, trivial⟩⟩⟩, fun k2 a13 => have b13x0 := all_take (rowB m.points) [] (m.acts.getD j1 []) k2; have b13x1 := all_bad (rowB m.points) [] (m.acts.getD j1 []) k2; have b13x2 := all_done (rowB m.points) (m.acts.getD j1 []) k2; have b13x3 := rowB_eq m.points ((m.acts.getD j1 []).getD k2 []); fun a14 => ⟨?_, fun a15 => fun a16 => ⟨fun a17 => ⟨?_, ⟨?_, fun a18 => fun a19 => fun a20 => fun a21 => fun a22 => ⟨fun a23 => ?_, fun a23 => ⟨?_, ⟨k2 + 1, ⟨?_, ⟨?_, ⟨⟨rfl, ⟨rfl, ⟨?_, ⟨rfl, ⟨rfl, ⟨rfl, ⟨rfl, ⟨rfl, ⟨rfl, ⟨rfl, ⟨rfl, ⟨rfl, ⟨rfl, ⟨rfl, ⟨rfl, ⟨rfl, ⟨rfl, ⟨rfl, ⟨rfl, ⟨rfl, ⟨rfl, ⟨rfl, ⟨?_, trivial⟩⟩⟩⟩⟩⟩⟩⟩⟩⟩⟩⟩⟩⟩⟩⟩⟩⟩⟩⟩⟩⟩⟩, trivial⟩⟩⟩⟩⟩⟩⟩⟩, fun a17 => ⟨?_, ⟨j1 + 1, ⟨?_, ⟨?_, ⟨⟨rfl, ⟨?_, trivial⟩⟩, trivial⟩⟩⟩⟩⟩⟩⟩⟩⟩⟩, fun a7 => ?_⟩⟩⟩⟩
 all_goals try and_intros
 all_goals first | rfl | trivial | omega | (simp only [decide_eq_true_eq, decide_eq_false_iff_not, idxOk, inI64, Bool.not_eq_true', Bool.not_eq_false', Bool.not_true, Bool.not_false, rowB_eq, ptsB_eq] at *; first | omega | grind) | grind
theorem good_spec_l05Ok : Ctr.Good k_spec_l05Ok := ok_spec_l05Ok ⟨good_spec_l05Tests, trivial⟩
def k_impl_modelText : Ctr := ⟨n_impl_modelText, [.v (.st .model)], fun (m : GModel) => ⟨(some (mOk m = true), [⟨.str, mtx m⟩])⟩⟩
def l_impl_modelText (m : GModel) : Nat → LoopInv := (fun zb => if Nat.beq zb 0 then .mk (Nat) (fun i => i ≤ m.tests.length) (fun i => m.tests.length - i) [] [0, 4, 6, 8, 10, 11, 12, 13, 14, 15, 16, 17, 18, 19, 20, 21, 22, 23, 24, 25, 26, 27] (fun i => [(30, .imm ⟨(.int .i64), ((i : Int) : Int)⟩), (3, .imm ⟨.str, (txA m i : List UInt8)⟩)]) [1, 2, 3, 5, 7, 9, 28, 29, 30, 31, 32, 33, 34, 35, 36, 37, 38, 39, 40, 41, 42, 43, 44, 45, 46, 47, 48, 49, 50, 51, 52, 53, 54, 55, 56, 57, 58, 59, 60, 61, 62, 63, 64, 65] (fun i => []) [] [] (fun i => fun _ => .none) else if Nat.beq zb 2 then .mk (Nat) (fun j => j ≤ m.acts.length) (fun j => m.acts.length - j) [] [0, 1, 4, 5, 6, 8, 10, 11, 12, 13, 14, 15, 16, 17, 18, 19, 20, 21, 22, 23, 24, 25, 26, 27, 28, 29, 30, 31, 32, 33, 34, 35, 36, 37, 38, 39, 40, 41] (fun j => [(44, .imm ⟨(.int .i64), ((j : Int) : Int)⟩), (3, .imm ⟨.str, (txB m j : List UInt8)⟩)]) [2, 3, 7, 9, 42, 43, 44, 45, 46, 47, 48, 49, 50, 51, 52, 53, 54, 55, 56, 57, 58, 59, 60, 61, 62, 63, 64, 65] (fun j => []) [] [] (fun j => (fun zb => if Nat.beq zb 4 then .mk (Nat) (fun k => k ≤ (m.acts.getD j []).length ∧ j < m.acts.length) (fun k => (m.acts.getD j []).length - k) [] [0, 1, 4, 5, 6, 8, 10, 11, 12, 13, 14, 15, 16, 17, 18, 19, 20, 21, 22, 23, 24, 25, 26, 27, 28, 29, 30, 31, 32, 33, 34, 35, 36, 37, 38, 39, 40, 41] (fun k => [(52, .imm ⟨(.int .i64), ((k : Int) : Int)⟩), (3, .imm ⟨.str, (txC m j k : List UInt8)⟩)]) [2, 3, 7, 9, 42, 43, 44, 45, 46, 47, 48, 49, 50, 51, 52, 53, 54, 55, 56, 57, 58, 59, 60, 61, 62, 63, 64, 65] (fun k => []) [] [] (fun k => fun _ => .none) else .none)) else .none)
theorem vc_impl_modelText (m : GModel) : awp (envOf [k_impl_decimal, k_impl_digits] [] [] [1]) (bodyOf f_impl_modelText) (l_impl_modelText m) 0 (funPost (envOf [k_impl_decimal, k_impl_digits] [] [] [1]) f_impl_modelText fun r => areEq r [⟨.str, mtx m⟩]) (startState f_impl_modelText [.val ⟨(.st .model), m⟩]) =
 (((0 ≤ m.sig.tests ∧ m.sig.tests ≤ 9) ∧ (([109, 111, 100, 101, 108, 32]).length + (dig m.sig.tests).length ≤ 140737488355328 ∧ ((([109, 111, 100, 101, 108, 32]) ++ (dig m.sig.tests)).length + ([32]).length ≤ 140737488355328 ∧ ((0 ≤ m.sig.actions ∧ m.sig.actions ≤ 9) ∧ (((([109, 111, 100, 101, 108, 32]) ++ (dig m.sig.tests)) ++ ([32])).length + (dig m.sig.actions).length ≤ 140737488355328 ∧ ((((([109, 111, 100, 101, 108, 32]) ++ (dig m.sig.tests)) ++ ([32])) ++ (dig m.sig.actions)).length + ([32]).length ≤ 140737488355328 ∧ ((0 ≤ m.points ∧ m.points ≤ 9) ∧ (inI64 m.sig.tests →
 ((dig m.sig.tests).length ≤ 140737488355328 →
 (inI64 m.sig.actions →
 ((dig m.sig.actions).length ≤ 140737488355328 →
 (inI64 m.points →
 ((dig m.points).length ≤ 140737488355328 →
 (((((([109, 111, 100, 101, 108, 32]) ++ (dig m.sig.tests)) ++ ([32])) ++ (dig m.sig.actions)) ++ ([32])).length + (dig m.points).length ≤ 140737488355328 ∧ ((((((([109, 111, 100, 101, 108, 32]) ++ (dig m.sig.tests)) ++ ([32])) ++ (dig m.sig.actions)) ++ ([32])) ++ (dig m.points)).length + ([10]).length ≤ 140737488355328 ∧ (m.tests.length ≤ 140737488355328 →
 (inI64 ((m.tests.length : Int)) →
 ((∃ i1 : Nat, (i1 ≤ m.tests.length ∧ ((m = m ∧ (([] : List UInt8) = [] ∧ (((((((([109, 111, 100, 101, 108, 32]) ++ (dig m.sig.tests)) ++ ([32])) ++ (dig m.sig.actions)) ++ ([32])) ++ (dig m.points)) ++ ([10])) = (txA m i1) ∧ (m.tests = m.tests ∧ (((m.tests.length : Int)) = ((m.tests.length : Int)) ∧ ((0 : Int) = (i1 : Int) ∧ True)))))) ∧ True))) ∧ (∀ i1 : Nat, (i1 ≤ m.tests.length →
 (((decide ((i1 : Int) < ((m.tests.length : Int)))) = true →
 (idxOk (i1 : Int) m.tests.length ∧ ((m.tests.getD i1 []).length ≤ 140737488355328 →
 ((m.tests.getD i1 []).length ≤ 100 ∧ ((bitsB (m.tests.getD i1 [])).length ≤ 140737488355328 →
 (([116, 101, 115, 116, 32]).length + (bitsB (m.tests.getD i1 [])).length ≤ 140737488355328 ∧ ((([116, 101, 115, 116, 32]) ++ (bitsB (m.tests.getD i1 []))).length + ([10]).length ≤ 140737488355328 ∧ ((txA m i1).length + ((([116, 101, 115, 116, 32]) ++ (bitsB (m.tests.getD i1 []))) ++ ([10])).length ≤ 140737488355328 ∧ (inI64 ((i1 : Int) + (1 : Int)) ∧ (∃ i2 : Nat, (i2 ≤ m.tests.length ∧ (m.tests.length - i2 < m.tests.length - i1 ∧ ((m = m ∧ (([] : List UInt8) = [] ∧ (((txA m i1) ++ ((([116, 101, 115, 116, 32]) ++ (bitsB (m.tests.getD i1 []))) ++ ([10]))) = (txA m i2) ∧ (m.tests = m.tests ∧ (((m.tests.length : Int)) = ((m.tests.length : Int)) ∧ (((i1 : Int) + (1 : Int)) = (i2 : Int) ∧ True)))))) ∧ True))))))))))))) ∧ ((decide ((i1 : Int) < ((m.tests.length : Int)))) = false →
 (m.acts.length ≤ 140737488355328 →
 (inI64 ((m.acts.length : Int)) →
 ((∃ j2 : Nat, (j2 ≤ m.acts.length ∧ ((([] : List UInt8) = [] ∧ ((txA m i1) = (txB m j2) ∧ (m.acts = m.acts ∧ (((m.acts.length : Int)) = ((m.acts.length : Int)) ∧ ((0 : Int) = (j2 : Int) ∧ True))))) ∧ True))) ∧ (∀ j2 : Nat, (j2 ≤ m.acts.length →
 (((decide ((j2 : Int) < ((m.acts.length : Int)))) = true →
 (idxOk (j2 : Int) m.acts.length ∧ ((m.acts.getD j2 []).length ≤ 140737488355328 →
 ((txB m j2).length + ([97, 99, 116]).length ≤ 140737488355328 ∧ (inI64 (((m.acts.getD j2 []).length : Int)) →
 ((∃ k3 : Nat, ((k3 ≤ (m.acts.getD j2 []).length ∧ j2 < m.acts.length) ∧ ((([] : List UInt8) = [] ∧ (((txB m j2) ++ ([97, 99, 116])) = (txC m j2 k3) ∧ ((m.acts.getD j2 []) = (m.acts.getD j2 []) ∧ (m.acts = m.acts ∧ (((m.acts.length : Int)) = ((m.acts.length : Int)) ∧ ((j2 : Int) = (j2 : Int) ∧ ((decide ((j2 : Int) < ((m.acts.length : Int)))) = (decide ((j2 : Int) < ((m.acts.length : Int)))) ∧ ((m.acts.getD j2 []) = (m.acts.getD j2 []) ∧ ((m.acts.getD j2 []) = (m.acts.getD j2 []) ∧ ((txB m j2) = (txB m j2) ∧ (((txB m j2) ++ ([97, 99, 116])) = ((txB m j2) ++ ([97, 99, 116])) ∧ ((m.acts.getD j2 []) = (m.acts.getD j2 []) ∧ ((((m.acts.getD j2 []).length : Int)) = (((m.acts.getD j2 []).length : Int)) ∧ ((0 : Int) = (k3 : Int) ∧ True)))))))))))))) ∧ True))) ∧ (∀ k3 : Nat, ((k3 ≤ (m.acts.getD j2 []).length ∧ j2 < m.acts.length) →
 (((decide ((k3 : Int) < (((m.acts.getD j2 []).length : Int)))) = true →
 (idxOk (k3 : Int) (m.acts.getD j2 []).length ∧ (((m.acts.getD j2 []).getD k3 []).length ≤ 140737488355328 →
 (((m.acts.getD j2 []).getD k3 []).length ≤ 100 ∧ ((bitsB ((m.acts.getD j2 []).getD k3 [])).length ≤ 140737488355328 →
 (([32]).length + (bitsB ((m.acts.getD j2 []).getD k3 [])).length ≤ 140737488355328 ∧ ((txC m j2 k3).length + (([32]) ++ (bitsB ((m.acts.getD j2 []).getD k3 []))).length ≤ 140737488355328 ∧ (inI64 ((k3 : Int) + (1 : Int)) ∧ (∃ k4 : Nat, ((k4 ≤ (m.acts.getD j2 []).length ∧ j2 < m.acts.length) ∧ ((m.acts.getD j2 []).length - k4 < (m.acts.getD j2 []).length - k3 ∧ ((([] : List UInt8) = [] ∧ (((txC m j2 k3) ++ (([32]) ++ (bitsB ((m.acts.getD j2 []).getD k3 [])))) = (txC m j2 k4) ∧ ((m.acts.getD j2 []) = (m.acts.getD j2 []) ∧ (m.acts = m.acts ∧ (((m.acts.length : Int)) = ((m.acts.length : Int)) ∧ ((j2 : Int) = (j2 : Int) ∧ ((decide ((j2 : Int) < ((m.acts.length : Int)))) = (decide ((j2 : Int) < ((m.acts.length : Int)))) ∧ ((m.acts.getD j2 []) = (m.acts.getD j2 []) ∧ ((m.acts.getD j2 []) = (m.acts.getD j2 []) ∧ ((txB m j2) = (txB m j2) ∧ (((txB m j2) ++ ([97, 99, 116])) = ((txB m j2) ++ ([97, 99, 116])) ∧ ((m.acts.getD j2 []) = (m.acts.getD j2 []) ∧ ((((m.acts.getD j2 []).length : Int)) = (((m.acts.getD j2 []).length : Int)) ∧ (((k3 : Int) + (1 : Int)) = (k4 : Int) ∧ True)))))))))))))) ∧ True)))))))))))) ∧ ((decide ((k3 : Int) < (((m.acts.getD j2 []).length : Int)))) = false →
 ((txC m j2 k3).length + ([10]).length ≤ 140737488355328 ∧ (inI64 ((j2 : Int) + (1 : Int)) ∧ (∃ j4 : Nat, (j4 ≤ m.acts.length ∧ (m.acts.length - j4 < m.acts.length - j2 ∧ ((([] : List UInt8) = [] ∧ (((txC m j2 k3) ++ ([10])) = (txB m j4) ∧ (m.acts = m.acts ∧ (((m.acts.length : Int)) = ((m.acts.length : Int)) ∧ (((j2 : Int) + (1 : Int)) = (j4 : Int) ∧ True))))) ∧ True)))))))))))))))) ∧ ((decide ((j2 : Int) < ((m.acts.length : Int)))) = false →
 (txB m j2) = (mtx m))))))))))))))))))))))))))))))) := by kernel_rfl
theorem ok_impl_modelText (hE : AllGood [k_impl_decimal, k_impl_digits]) : Ctr.Good k_impl_modelText := by
 refine ⟨fnOk_of at_impl_modelText rfl (by decide), ?_⟩
 show ∀ (m : GModel), (mOk m = true) → OkCall prog n_impl_modelText [.val ⟨(.st .model), m⟩] (· = [⟨.str, mtx m⟩])
 intro m hp
 refine ok_of_awp (wr := []) (cl := []) (ro := [1]) hE at_impl_modelText body_impl_modelText (l_impl_modelText m) ?_
 rewrite [vc_impl_modelText m]
 have f0 := txA_zero m
 obtain ⟨g1, g2, g3, g4, g5, g6, g7, g8, g9, g10, g11, g12, g13, g14⟩ := tx_lens m hp
 refine ⟨?_, ⟨?_, ⟨?_, ⟨?_, ⟨?_, ⟨?_, ⟨?_, fun a0 => fun a1 => fun a2 => fun a3 => fun a4 => fun a5 => ⟨?_, ⟨?_, fun a6 => fun a7 => ⟨⟨0, ⟨?_, ⟨⟨rfl, ⟨rfl, ⟨?_, ⟨rfl, ⟨rfl, ⟨?_, trivial⟩⟩⟩⟩⟩⟩, trivial⟩⟩⟩, fun i1 a8 => have b8x0 := txA_step m i1; have b8x1 := txA_all m i1; ⟨fun a9 => ⟨?_, fun a10 => ⟨?_, fun a11 => ⟨?_, ⟨?_, ⟨?_, ⟨?_, ⟨i1 + 1, ⟨?_, ⟨?_, ⟨⟨rfl, ⟨rfl, ⟨?_, ⟨rfl, ⟨rfl, ⟨?_, trivial⟩⟩⟩⟩⟩⟩, trivial⟩⟩⟩⟩⟩⟩⟩⟩⟩⟩, fun a9 => fun a10 => fun a11 => ⟨⟨0, ⟨?_, ⟨⟨rfl, ⟨?_, ⟨rfl, ⟨rfl, ⟨?_, trivial⟩⟩⟩⟩⟩, trivial⟩⟩⟩, fun j2 a12 => have b12x0 := txB_step m j2; have b12x1 := txB_all m j2; ⟨fun a13 => ⟨?_, fun a14 => ⟨?_, fun a15 => ⟨⟨0, ⟨?_, ⟨⟨rfl, ⟨?_, ⟨rfl, ⟨rfl, ⟨rfl, ⟨rfl, ⟨rfl, ⟨rfl, ⟨rfl, ⟨rfl, ⟨rfl, ⟨rfl, ⟨rfl, ⟨?_, trivial⟩⟩⟩⟩⟩⟩⟩⟩⟩⟩⟩⟩⟩⟩, trivial⟩⟩⟩, fun k3 a16 => have b16x0 := txC_step m j2 k3; have b16x1 := txC_end m j2 k3; ⟨fun a17 => ⟨?_, fun a18 => ⟨?_, fun a19 => ⟨?_, ⟨?_, ⟨?_, ⟨k3 + 1, ⟨?_, ⟨?_, ⟨⟨rfl, ⟨?_, ⟨rfl, ⟨rfl, ⟨rfl, ⟨rfl, ⟨rfl, ⟨rfl, ⟨rfl, ⟨rfl, ⟨rfl, ⟨rfl, ⟨rfl, ⟨?_, trivial⟩⟩⟩⟩⟩⟩⟩⟩⟩⟩⟩⟩⟩⟩, trivial⟩⟩⟩⟩⟩⟩⟩⟩⟩, fun a17 => ⟨?_, ⟨?_, ⟨j2 + 1, ⟨?_, ⟨?_, ⟨⟨rfl, ⟨?_, ⟨rfl, ⟨rfl, ⟨?_, trivial⟩⟩⟩⟩⟩, trivial⟩⟩⟩⟩⟩⟩⟩⟩⟩⟩, fun a13 => ?_⟩⟩⟩⟩⟩⟩⟩⟩⟩⟩⟩⟩⟩
 all_goals try and_intros
 all_goals first | rfl | trivial | omega | (simp only [decide_eq_true_eq, decide_eq_false_iff_not, idxOk, inI64, Bool.not_eq_true', Bool.not_eq_false', Bool.not_true, Bool.not_false, rowB_eq, ptsB_eq] at *; first | omega | grind) | grind
theorem good_impl_modelText : Ctr.Good k_impl_modelText := ok_impl_modelText ⟨good_impl_decimal, good_impl_digits, trivial⟩
def k_spec_l05Text : Ctr := ⟨n_spec_l05Text, [.r (.st .model)], fun (m : GModel) => ⟨(some (mOk m = true), [⟨.str, mtx m⟩])⟩⟩
def l_spec_l05Text (m : GModel) : Nat → LoopInv := (fun zb => if Nat.beq zb 0 then .mk (Nat) (fun i => i ≤ m.tests.length) (fun i => m.tests.length - i) [] [1, 7, 8, 9, 10, 11, 12, 13, 14, 15, 16, 17, 18, 19, 20, 21, 22, 23, 24, 25, 26, 27, 28, 29] (fun i => [(4, .imm ⟨(.int .i64), ((i : Int) : Int)⟩), (3, .imm ⟨.str, (txA m i : List UInt8)⟩)]) [0, 2, 3, 4, 5, 6, 30, 31, 32, 33, 34, 35, 36, 37, 38, 39, 40, 41, 42, 43, 44, 45, 46, 47, 48, 49, 50, 51, 52, 53, 54, 55, 56, 57, 58, 59, 60, 61, 62, 63, 64, 65, 66, 67, 68, 69, 70, 71, 72, 73, 74, 75, 76, 77, 78, 79, 80, 81, 82, 83, 84, 85, 86, 87, 88, 89, 90] (fun i => []) [] [] (fun i => fun _ => .none) else if Nat.beq zb 2 then .mk (Nat) (fun j => j ≤ m.acts.length) (fun j => m.acts.length - j) [] [1, 4, 7, 8, 9, 10, 11, 12, 13, 14, 15, 16, 17, 18, 19, 20, 21, 22, 23, 24, 25, 26, 27, 28, 29, 30, 31, 32, 33, 34, 35, 36, 37, 38, 39, 40, 41, 42, 43, 44, 45, 46, 47, 48, 49, 50] (fun j => [(5, .imm ⟨(.int .i64), ((j : Int) : Int)⟩), (3, .imm ⟨.str, (txB m j : List UInt8)⟩)]) [0, 2, 3, 5, 6, 51, 52, 53, 54, 55, 56, 57, 58, 59, 60, 61, 62, 63, 64, 65, 66, 67, 68, 69, 70, 71, 72, 73, 74, 75, 76, 77, 78, 79, 80, 81, 82, 83, 84, 85, 86, 87, 88, 89, 90] (fun j => []) [] [] (fun j => (fun zb => if Nat.beq zb 4 then .mk (Nat) (fun k => k ≤ (m.acts.getD j []).length ∧ j < m.acts.length) (fun k => (m.acts.getD j []).length - k) [] [1, 4, 7, 8, 9, 10, 11, 12, 13, 14, 15, 16, 17, 18, 19, 20, 21, 22, 23, 24, 25, 26, 27, 28, 29, 30, 31, 32, 33, 34, 35, 36, 37, 38, 39, 40, 41, 42, 43, 44, 45, 46, 47, 48, 49, 50] (fun k => [(6, .imm ⟨(.int .i64), ((k : Int) : Int)⟩), (3, .imm ⟨.str, (txC m j k : List UInt8)⟩)]) [0, 2, 3, 5, 6, 51, 52, 53, 54, 55, 56, 57, 58, 59, 60, 61, 62, 63, 64, 65, 66, 67, 68, 69, 70, 71, 72, 73, 74, 75, 76, 77, 78, 79, 80, 81, 82, 83, 84, 85, 86, 87, 88, 89, 90] (fun k => []) [] [] (fun k => fun _ => .none) else .none)) else .none)
abbrev j_spec_l05Text_0 (m : GModel) (j2 : Nat) : Prop := ((j2 : Int) = (j2 : Int) ∧ (m = m ∧ (m = m ∧ (m.acts = m.acts ∧ (m.acts = m.acts ∧ (((m.acts.length : Int)) = ((m.acts.length : Int)) ∧ ((decide ((j2 : Int) < ((m.acts.length : Int)))) = (decide ((j2 : Int) < ((m.acts.length : Int)))) ∧ ((txB m j2) = (txB m j2) ∧ (((txB m j2) ++ ([97, 99, 116])) = ((txB m j2) ++ ([97, 99, 116])) ∧ True)))))))))
theorem vc_spec_l05Text (m : GModel) : awp (envOf [k_spec_Decimal, k_spec_l05Bits]) (bodyOf f_spec_l05Text) (l_spec_l05Text m) 0 (funPost (envOf [k_spec_Decimal, k_spec_l05Bits]) f_spec_l05Text fun r => areEq r [⟨.str, mtx m⟩]) (startState f_spec_l05Text [.ref ⟨(.st .model), m⟩]) =
 (((0 ≤ m.sig.tests ∧ m.sig.tests ≤ 9) ∧ (([109, 111, 100, 101, 108, 32]).length + (dig m.sig.tests).length ≤ 140737488355328 ∧ ((([109, 111, 100, 101, 108, 32]) ++ (dig m.sig.tests)).length + ([32]).length ≤ 140737488355328 ∧ ((0 ≤ m.sig.actions ∧ m.sig.actions ≤ 9) ∧ (((([109, 111, 100, 101, 108, 32]) ++ (dig m.sig.tests)) ++ ([32])).length + (dig m.sig.actions).length ≤ 140737488355328 ∧ ((((([109, 111, 100, 101, 108, 32]) ++ (dig m.sig.tests)) ++ ([32])) ++ (dig m.sig.actions)).length + ([32]).length ≤ 140737488355328 ∧ ((0 ≤ m.points ∧ m.points ≤ 9) ∧ (inI64 m.sig.tests →
 ((dig m.sig.tests).length ≤ 140737488355328 →
 (inI64 m.sig.actions →
 ((dig m.sig.actions).length ≤ 140737488355328 →
 (inI64 m.points →
 ((dig m.points).length ≤ 140737488355328 →
 (((((([109, 111, 100, 101, 108, 32]) ++ (dig m.sig.tests)) ++ ([32])) ++ (dig m.sig.actions)) ++ ([32])).length + (dig m.points).length ≤ 140737488355328 ∧ ((((((([109, 111, 100, 101, 108, 32]) ++ (dig m.sig.tests)) ++ ([32])) ++ (dig m.sig.actions)) ++ ([32])) ++ (dig m.points)).length + ([10]).length ≤ 140737488355328 ∧ ((∃ i1 : Nat, (i1 ≤ m.tests.length ∧ ((m = m ∧ (([] : List UInt8) = [] ∧ (((((((([109, 111, 100, 101, 108, 32]) ++ (dig m.sig.tests)) ++ ([32])) ++ (dig m.sig.actions)) ++ ([32])) ++ (dig m.points)) ++ ([10])) = (txA m i1) ∧ ((0 : Int) = (i1 : Int) ∧ True)))) ∧ True))) ∧ (∀ i1 : Nat, (i1 ≤ m.tests.length →
 (m.tests.length ≤ 140737488355328 →
 (inI64 ((m.tests.length : Int)) →
 (((decide ((i1 : Int) < ((m.tests.length : Int)))) = true →
 (m.tests.length ≤ 140737488355328 →
 (idxOk (i1 : Int) m.tests.length ∧ ((m.tests.getD i1 []).length ≤ 140737488355328 →
 ((m.tests.getD i1 []).length ≤ 100 ∧ ((bitsB (m.tests.getD i1 [])).length ≤ 140737488355328 →
 (([116, 101, 115, 116, 32]).length + (bitsB (m.tests.getD i1 [])).length ≤ 140737488355328 ∧ ((([116, 101, 115, 116, 32]) ++ (bitsB (m.tests.getD i1 []))).length + ([10]).length ≤ 140737488355328 ∧ ((txA m i1).length + ((([116, 101, 115, 116, 32]) ++ (bitsB (m.tests.getD i1 []))) ++ ([10])).length ≤ 140737488355328 ∧ (inI64 ((i1 : Int) + (1 : Int)) ∧ (∃ i2 : Nat, (i2 ≤ m.tests.length ∧ (m.tests.length - i2 < m.tests.length - i1 ∧ ((m = m ∧ (([] : List UInt8) = [] ∧ (((txA m i1) ++ ((([116, 101, 115, 116, 32]) ++ (bitsB (m.tests.getD i1 []))) ++ ([10]))) = (txA m i2) ∧ (((i1 : Int) + (1 : Int)) = (i2 : Int) ∧ True)))) ∧ True)))))))))))))) ∧ ((decide ((i1 : Int) < ((m.tests.length : Int)))) = false →
 ((∃ j2 : Nat, (j2 ≤ m.acts.length ∧ ((m = m ∧ (([] : List UInt8) = [] ∧ ((txA m i1) = (txB m j2) ∧ ((0 : Int) = (j2 : Int) ∧ True)))) ∧ True))) ∧ (∀ j2 : Nat, (j2 ≤ m.acts.length →
 (m.acts.length ≤ 140737488355328 →
 (inI64 ((m.acts.length : Int)) →
 (((decide ((j2 : Int) < ((m.acts.length : Int)))) = true →
 ((txB m j2).length + ([97, 99, 116]).length ≤ 140737488355328 ∧ ((∃ k3 : Nat, ((k3 ≤ (m.acts.getD j2 []).length ∧ j2 < m.acts.length) ∧ ((m = m ∧ (([] : List UInt8) = [] ∧ (((txB m j2) ++ ([97, 99, 116])) = (txC m j2 k3) ∧ ((j2 : Int) = (j2 : Int) ∧ ((0 : Int) = (k3 : Int) ∧ (j_spec_l05Text_0 m j2)))))) ∧ True))) ∧ (∀ k3 : Nat, ((k3 ≤ (m.acts.getD j2 []).length ∧ j2 < m.acts.length) →
 (m.acts.length ≤ 140737488355328 →
 (idxOk (j2 : Int) m.acts.length ∧ ((m.acts.getD j2 []).length ≤ 140737488355328 →
 (inI64 (((m.acts.getD j2 []).length : Int)) →
 (((decide ((k3 : Int) < (((m.acts.getD j2 []).length : Int)))) = true →
 (m.acts.length ≤ 140737488355328 →
 (idxOk (j2 : Int) m.acts.length ∧ ((m.acts.getD j2 []).length ≤ 140737488355328 →
 (idxOk (k3 : Int) (m.acts.getD j2 []).length ∧ (((m.acts.getD j2 []).getD k3 []).length ≤ 140737488355328 →
 (((m.acts.getD j2 []).getD k3 []).length ≤ 100 ∧ ((bitsB ((m.acts.getD j2 []).getD k3 [])).length ≤ 140737488355328 →
 (([32]).length + (bitsB ((m.acts.getD j2 []).getD k3 [])).length ≤ 140737488355328 ∧ ((txC m j2 k3).length + (([32]) ++ (bitsB ((m.acts.getD j2 []).getD k3 []))).length ≤ 140737488355328 ∧ (inI64 ((k3 : Int) + (1 : Int)) ∧ (∃ k4 : Nat, ((k4 ≤ (m.acts.getD j2 []).length ∧ j2 < m.acts.length) ∧ ((m.acts.getD j2 []).length - k4 < (m.acts.getD j2 []).length - k3 ∧ ((m = m ∧ (([] : List UInt8) = [] ∧ (((txC m j2 k3) ++ (([32]) ++ (bitsB ((m.acts.getD j2 []).getD k3 [])))) = (txC m j2 k4) ∧ ((j2 : Int) = (j2 : Int) ∧ (((k3 : Int) + (1 : Int)) = (k4 : Int) ∧ (j_spec_l05Text_0 m j2)))))) ∧ True))))))))))))))) ∧ ((decide ((k3 : Int) < (((m.acts.getD j2 []).length : Int)))) = false →
 ((txC m j2 k3).length + ([10]).length ≤ 140737488355328 ∧ (inI64 ((j2 : Int) + (1 : Int)) ∧ (∃ j4 : Nat, (j4 ≤ m.acts.length ∧ (m.acts.length - j4 < m.acts.length - j2 ∧ ((m = m ∧ (([] : List UInt8) = [] ∧ (((txC m j2 k3) ++ ([10])) = (txB m j4) ∧ (((j2 : Int) + (1 : Int)) = (j4 : Int) ∧ True)))) ∧ True))))))))))))))))) ∧ ((decide ((j2 : Int) < ((m.acts.length : Int)))) = false →
 (txB m j2) = (mtx m))))))))))))))))))))))))))))))) := by kernel_rfl
theorem ok_spec_l05Text (hE : AllGood [k_spec_Decimal, k_spec_l05Bits]) : Ctr.Good k_spec_l05Text := by
 refine ⟨fnOk_of at_spec_l05Text rfl (by decide), ?_⟩
 show ∀ (m : GModel), (mOk m = true) → OkCall prog n_spec_l05Text [.ref ⟨(.st .model), m⟩] (· = [⟨.str, mtx m⟩])
 intro m hp
 refine ok_of_awp (wr := []) (cl := []) (ro := []) hE at_spec_l05Text body_spec_l05Text (l_spec_l05Text m) ?_
 rewrite [vc_spec_l05Text m]
 have f0 := txA_zero m
 obtain ⟨g1, g2, g3, g4, g5, g6, g7, g8, g9, g10, g11, g12, g13, g14⟩ := tx_lens m hp
 refine ⟨?_, ⟨?_, ⟨?_, ⟨?_, ⟨?_, ⟨?_, ⟨?_, fun a0 => fun a1 => fun a2 => fun a3 => fun a4 => fun a5 => ⟨?_, ⟨?_, ⟨⟨0, ⟨?_, ⟨⟨rfl, ⟨rfl, ⟨?_, ⟨?_, trivial⟩⟩⟩⟩, trivial⟩⟩⟩, fun i1 a6 => have b6x0 := txA_step m i1; have b6x1 := txA_all m i1; fun a7 => fun a8 => ⟨fun a9 => fun a10 => ⟨?_, fun a11 => ⟨?_, fun a12 => ⟨?_, ⟨?_, ⟨?_, ⟨?_, ⟨i1 + 1, ⟨?_, ⟨?_, ⟨⟨rfl, ⟨rfl, ⟨?_, ⟨?_, trivial⟩⟩⟩⟩, trivial⟩⟩⟩⟩⟩⟩⟩⟩⟩⟩, fun a9 => ⟨⟨0, ⟨?_, ⟨⟨rfl, ⟨rfl, ⟨?_, ⟨?_, trivial⟩⟩⟩⟩, trivial⟩⟩⟩, fun j2 a10 => have b10x0 := txB_step m j2; have b10x1 := txB_all m j2; fun a11 => fun a12 => ⟨fun a13 => ⟨?_, ⟨⟨0, ⟨?_, ⟨⟨rfl, ⟨rfl, ⟨?_, ⟨rfl, ⟨?_, ⟨rfl, ⟨rfl, ⟨rfl, ⟨rfl, ⟨rfl, ⟨rfl, ⟨rfl, ⟨rfl, ⟨rfl, trivial⟩⟩⟩⟩⟩⟩⟩⟩⟩⟩⟩⟩⟩⟩, trivial⟩⟩⟩, fun k3 a14 => have b14x0 := txC_step m j2 k3; have b14x1 := txC_end m j2 k3; fun a15 => ⟨?_, fun a16 => fun a17 => ⟨fun a18 => fun a19 => ⟨?_, fun a20 => ⟨?_, fun a21 => ⟨?_, fun a22 => ⟨?_, ⟨?_, ⟨?_, ⟨k3 + 1, ⟨?_, ⟨?_, ⟨⟨rfl, ⟨rfl, ⟨?_, ⟨rfl, ⟨?_, ⟨rfl, ⟨rfl, ⟨rfl, ⟨rfl, ⟨rfl, ⟨rfl, ⟨rfl, ⟨rfl, ⟨rfl, trivial⟩⟩⟩⟩⟩⟩⟩⟩⟩⟩⟩⟩⟩⟩, trivial⟩⟩⟩⟩⟩⟩⟩⟩⟩⟩, fun a18 => ⟨?_, ⟨?_, ⟨j2 + 1, ⟨?_, ⟨?_, ⟨⟨rfl, ⟨rfl, ⟨?_, ⟨?_, trivial⟩⟩⟩⟩, trivial⟩⟩⟩⟩⟩⟩⟩⟩⟩⟩, fun a13 => ?_⟩⟩⟩⟩⟩⟩⟩⟩⟩⟩⟩⟩⟩
 all_goals try and_intros
 all_goals first | rfl | trivial | omega | (simp only [decide_eq_true_eq, decide_eq_false_iff_not, idxOk, inI64, Bool.not_eq_true', Bool.not_eq_false', Bool.not_true, Bool.not_false, rowB_eq, ptsB_eq] at *; first | omega | grind) | grind
theorem good_spec_l05Text : Ctr.Good k_spec_l05Text := ok_spec_l05Text ⟨good_spec_Decimal, good_spec_l05Bits, trivial⟩
end
end Go.Proofs.YtkogipcdjalehaaDoor

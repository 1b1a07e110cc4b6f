/- Models are read, at the machine. Printed by vmk.py. -/
import Derived.Test.YtkogipcdjalehaaDoorVmUse
import Derived.Test.YtkogipcdjalehaaDoorVmLib
import Derived.Test.YtkogipcdjalehaaDoorVmMdl2
import Derived.Test.YtkogipcdjalehaaDoorVmMdl3
import Derived.Test.YtkogipcdjalehaaDoorVmBld
set_option linter.unusedVariables false
set_option linter.unusedSimpArgs false
set_option linter.unusedSectionVars false
set_option maxRecDepth 4000
set_option maxHeartbeats 4000000
namespace Go.Proofs.YtkogipcdjalehaaDoor
noncomputable section
theorem cutL_pos (c : UInt8) (l : List UInt8) : 1 ≤ (cutL c l).length := by
 unfold cutL; simp
theorem rdB_take (s : List UInt8) (k : Nat) (h : k < s.length) : rdB (s.take (k + 1)) = rdB (s.take k) ++ [decide (((s.getD k 0).toNat : Int) = 49)] := by
 rw [take_snoc 0 s k h]; simp [rdB]
theorem rdB_tl (s : List UInt8) (k : Nat) (h : k ≤ s.length) : (rdB (s.take k)).length = k := by simp [rdB]; omega
theorem rdB_end (s : List UInt8) (k : Nat) (h : s.length ≤ k) : rdB (s.take k) = rdB s := by rw [List.take_of_length_le h]
theorem rows_take (xs : List (List UInt8)) (i : Nat) (h : i < xs.length) : (xs.take (i + 1)).map rdB = (xs.take i).map rdB ++ [rdB (xs.getD i [])] := by
 rw [take_snoc [] xs i h]; simp
theorem rows_tl (xs : List (List UInt8)) (i : Nat) (h : i ≤ xs.length) : ((xs.take i).map rdB).length = i := by simp; omega
theorem rows_end (xs : List (List UInt8)) (i : Nat) (h : xs.length ≤ i) : (xs.take i).map rdB = xs.map rdB := by rw [List.take_of_length_le h]
def shortL (N : Nat) (xs : List (List UInt8)) : Prop := ∀ x ∈ xs, x.length ≤ N
theorem short_get (N : Nat) (xs : List (List UInt8)) (h : shortL N xs) (i : Nat) : (xs.getD i []).length ≤ N := by
 rcases Nat.lt_or_ge i xs.length with q | q
 ·exact h _ (getD_mem [] xs i q)
 ·rw [List.getD_eq_getElem?_getD, List.getElem?_eq_none q]; simp
theorem cut_short (c : UInt8) (l : List UInt8) : shortL l.length (cutL c l) := fun x hx => by
 have key : ∀ (l : List UInt8) (d : List (List UInt8)) (y : List UInt8) (N : Nat), (∀ z ∈ d, z.length ≤ N) → y.length + l.length ≤ N → (∀ z ∈ (l.foldl (cutStep c) (d, y)).1, z.length ≤ N) ∧ (l.foldl (cutStep c) (d, y)).2.length ≤ N := by
  intro l
  induction l with
  | nil => intro d y N hd hy; exact ⟨hd, by simpa using hy⟩
  | cons b l ih =>
   intro d y N hd hy
   simp only [List.foldl_cons, cutStep]
   simp only [List.length_cons] at hy
   cases b == c
   ·simp only [cond_false]
    exact ih d (y ++ [b]) N hd (by simp; omega)
   ·simp only [cond_true]
    refine ih (d ++ [y]) [] N (fun z hz => ?_) (by simp; omega)
    rcases List.mem_append.1 hz with hz | hz
    ·exact hd z hz
    ·have : z = y := by simpa using hz
     subst this; omega
 obtain ⟨k1, k2⟩ := key l [] [] l.length (fun z hz => by cases hz) (by simp)
 unfold cutL at hx
 rcases List.mem_append.1 hx with hx | hx
 ·exact k1 x hx
 ·have : x = (cutS c l).2 := by simpa using hx
  subst this; exact k2
theorem short_sub {N : Nat} {xs ys : List (List UInt8)} (h : shortL N xs) (hs : ∀ y ∈ ys, y ∈ xs) : shortL N ys := fun y hy => h y (hs y hy)
def k_impl_linesOf : Ctr := ⟨n_impl_linesOf, [.v .str], fun (t : List UInt8) => ⟨(some (t.length ≤ 1048576), [⟨(.slice .str), lnI t⟩, ⟨.bool, lnB t⟩])⟩⟩
def l_impl_linesOf (t : List UInt8) : Nat → LoopInv := fun _ => .none
theorem vc_impl_linesOf (t : List UInt8) : awp (envOf [k_strings_Split]) (bodyOf f_impl_linesOf) (l_impl_linesOf t) 0 (funPost (envOf [k_strings_Split]) f_impl_linesOf fun r => areEq r [⟨(.slice .str), lnI t⟩, ⟨.bool, lnB t⟩]) (startState f_impl_linesOf [.val ⟨.str, t⟩]) =
 (((([10]).length = 1 ∧ t.length ≤ 1048576) ∧ ((cutL (([10]).getD 0 0) t).length ≤ 140737488355328 →
 (inI64 (((cutL (([10]).getD 0 0) t).length : Int)) →
 (inI64 ((((cutL (([10]).getD 0 0) t).length : Int)) - (1 : Int)) ∧ (cutOk (0 : Int) ((((cutL (([10]).getD 0 0) t).length : Int)) - (1 : Int)) (cutL (([10]).getD 0 0) t).length ∧ (idxOk ((((cutL (([10]).getD 0 0) t).length : Int)) - (1 : Int)) (cutL (([10]).getD 0 0) t).length ∧ (((cutL (([10]).getD 0 0) t).getD (Int.toNat ((((cutL (([10]).getD 0 0) t).length : Int)) - (1 : Int))) []).length ≤ 140737488355328 →
 ((((cutL (([10]).getD 0 0) t).take (Int.toNat ((((cutL (([10]).getD 0 0) t).length : Int)) - (1 : Int)))).drop 0) = (lnI t) ∧ (decide (((cutL (([10]).getD 0 0) t).getD (Int.toNat ((((cutL (([10]).getD 0 0) t).length : Int)) - (1 : Int))) []) = [])) = (lnB t)))))))))) := by kernel_rfl
theorem ok_impl_linesOf (hE : AllGood [k_strings_Split]) : Ctr.Good k_impl_linesOf := by
 refine ⟨fnOk_of at_impl_linesOf rfl (by decide), ?_⟩
 show ∀ (t : List UInt8), (t.length ≤ 1048576) → OkCall prog n_impl_linesOf [.val ⟨.str, t⟩] (· = [⟨(.slice .str), lnI t⟩, ⟨.bool, lnB t⟩])
 intro t hp
 refine ok_of_awp (wr := []) (cl := []) (ro := []) hE at_impl_linesOf body_impl_linesOf (l_impl_linesOf t) ?_
 rewrite [vc_impl_linesOf t]
 have f0 : 1 ≤ (cutL (([10] : List UInt8).getD 0 0) t).length := cutL_pos 10 t
 have f1 : (cutL (([10] : List UInt8).getD 0 0) t).length ≤ t.length + 1 := cutL_len 10 t
 have f4 : (((cutL (([10] : List UInt8).getD 0 0) t).length : Int) - 1).toNat = (cutL (([10] : List UInt8).getD 0 0) t).length - 1 := by omega
 have f2 : List.drop 0 (List.take ((cutL (([10] : List UInt8).getD 0 0) t).length - 1) (cutL (([10] : List UInt8).getD 0 0) t)) = lnI t := rfl
 have f3 : decide ((cutL (([10] : List UInt8).getD 0 0) t).getD ((cutL (([10] : List UInt8).getD 0 0) t).length - 1) [] = []) = lnB t := rfl
 refine ⟨?_, fun a0 => fun a1 => ⟨?_, ⟨?_, ⟨?_, fun a2 => ⟨?_, ?_⟩⟩⟩⟩⟩
 all_goals try and_intros
 all_goals (try rw [f4]); first | rfl | trivial | omega | (simp only [decide_eq_true_eq, decide_eq_false_iff_not, idxOk, inI64, cutOk, roomOk, List.length_append, List.length_cons, List.length_nil, Bool.not_eq_true', Bool.not_eq_false', Bool.not_true, Bool.not_false] at *; first | omega | grind) | grind | (rw [f4, f2]) | (simp only [f4, f2, f3]; done)
theorem good_impl_linesOf : Ctr.Good k_impl_linesOf := ok_impl_linesOf ⟨good_strings_Split, trivial⟩
def k_spec_l05ReadBits : Ctr := ⟨n_spec_l05ReadBits, [.v .str], fun (s : List UInt8) => ⟨(some (s.length ≤ 1048576), [⟨(.slice .bool), rdB s⟩])⟩⟩
def l_spec_l05ReadBits (s : List UInt8) : Nat → LoopInv := (fun zb => if Nat.beq zb 0 then .mk (Nat) (fun k => k ≤ s.length) (fun k => s.length - k) [] [1, 5] (fun k => [(4, .imm ⟨(.int .i64), ((k : Int) : Int)⟩), (3, .row 5)]) [0, 2, 3, 4, 6, 7, 8, 9, 10, 11, 12, 13, 14, 15, 16, 17, 18, 19] (fun k => [(5, .row T_bool .bool (rdB (s.take k) : List Bool))]) [] [] (fun k => fun _ => .none) else .none)
theorem vc_spec_l05ReadBits (s : List UInt8) : awp (envOf []) (bodyOf f_spec_l05ReadBits) (l_spec_l05ReadBits s) 0 (funPost (envOf []) f_spec_l05ReadBits fun r => areEq r [⟨(.slice .bool), rdB s⟩]) (startState f_spec_l05ReadBits [.val ⟨.str, s⟩]) =
 (((∃ k1 : Nat, (k1 ≤ s.length ∧ ((s = s ∧ (True ∧ (True ∧ ((0 : Int) = (k1 : Int) ∧ True)))) ∧ ([] = (rdB (s.take k1)) ∧ True)))) ∧ (∀ k1 : Nat, (k1 ≤ s.length →
 (inI64 ((s.length : Int)) →
 (((decide ((k1 : Int) < ((s.length : Int)))) = true →
 (idxOk (k1 : Int) s.length ∧ (roomOk ((rdB (s.take k1)).length + ([(decide ((((s.getD k1 0).toNat : Int)) = (49 : Int)))]).length) 1 ∧ (inI64 ((k1 : Int) + (1 : Int)) ∧ (∃ k2 : Nat, (k2 ≤ s.length ∧ (s.length - k2 < s.length - k1 ∧ ((s = s ∧ (True ∧ (True ∧ (((k1 : Int) + (1 : Int)) = (k2 : Int) ∧ True)))) ∧ (((rdB (s.take k1)) ++ ([(decide ((((s.getD k1 0).toNat : Int)) = (49 : Int)))])) = (rdB (s.take k2)) ∧ True))))))))) ∧ ((decide ((k1 : Int) < ((s.length : Int)))) = false →
 (rdB (s.take k1)) = (rdB s)))))))) := by kernel_rfl
theorem ok_spec_l05ReadBits (hE : AllGood []) : Ctr.Good k_spec_l05ReadBits := by
 refine ⟨fnOk_of at_spec_l05ReadBits rfl (by decide), ?_⟩
 show ∀ (s : List UInt8), (s.length ≤ 1048576) → OkCall prog n_spec_l05ReadBits [.val ⟨.str, s⟩] (· = [⟨(.slice .bool), rdB s⟩])
 intro s hp
 refine ok_of_awp (wr := []) (cl := []) (ro := []) hE at_spec_l05ReadBits body_spec_l05ReadBits (l_spec_l05ReadBits s) ?_
 rewrite [vc_spec_l05ReadBits s]
 refine ⟨⟨0, ⟨?_, ⟨⟨rfl, ⟨trivial, ⟨trivial, ⟨?_, trivial⟩⟩⟩⟩, ⟨?_, trivial⟩⟩⟩⟩, fun k1 a0 => have b0x0 := rdB_take s k1; have b0x1 := rdB_tl s k1; have b0x2 := rdB_end s k1; fun a1 => ⟨fun a2 => ⟨?_, ⟨?_, ⟨?_, ⟨k1 + 1, ⟨?_, ⟨?_, ⟨⟨rfl, ⟨trivial, ⟨trivial, ⟨?_, trivial⟩⟩⟩⟩, ⟨?_, trivial⟩⟩⟩⟩⟩⟩⟩⟩, fun a2 => ?_⟩⟩
 all_goals try and_intros
 all_goals first | rfl | trivial | omega | (simp only [decide_eq_true_eq, decide_eq_false_iff_not, idxOk, inI64, cutOk, roomOk, List.length_append, List.length_cons, List.length_nil, Bool.not_eq_true', Bool.not_eq_false', Bool.not_true, Bool.not_false] at *; first | omega | grind) | grind
theorem good_spec_l05ReadBits : Ctr.Good k_spec_l05ReadBits := ok_spec_l05ReadBits trivial
def ko_impl_rowsOf : Ctr := ⟨n_impl_rowsOf, [.v (.slice .str)], fun (xs : List (List UInt8)) => ⟨(some (shortL 1048576 xs ∧ xs.length ≤ 1048577), [⟨(.slice (.slice .bool)), xs.map rdB⟩])⟩⟩
def lo_impl_rowsOf (xs : List (List UInt8)) : Nat → LoopInv := (fun zb => if Nat.beq zb 0 then .mk (Nat) (fun i => i ≤ xs.length) (fun i => xs.length - i) [] [0, 1, 4, 8] (fun i => [(11, .imm ⟨(.int .i64), ((i : Int) : Int)⟩), (3, .tree 3300)]) [2, 3, 5, 6, 7, 9, 10, 11, 12, 13, 14, 15, 16, 17, 18, 19, 20, 21, 22, 23, 24, 25, 26, 27, 28, 29, 30, 31, 32, 33, 34] (fun i => [(3300, .tree (.slice .bool) ((xs.take i).map rdB : List (List Bool)))]) [] [] (fun i => (fun zb => if Nat.beq zb 2 then .mk (Nat) (fun k => k ≤ (xs.getD i []).length ∧ i < xs.length) (fun k => (xs.getD i []).length - k) [] [0, 1, 4, 8, 15] (fun k => [(18, .imm ⟨(.int .i64), ((k : Int) : Int)⟩), (6, .tree 2800)]) [2, 3, 5, 6, 7, 9, 10, 11, 12, 13, 14, 15, 16, 17, 18, 19, 20, 21, 22, 23, 24, 25, 26, 27, 28, 29, 30, 31, 32, 33, 34, 3300] (fun k => [(2800, .tree .bool (rdB ((xs.getD i []).take k) : List Bool))]) [] [] (fun k => fun _ => .none) else .none)) else .none)
theorem vco_impl_rowsOf (xs : List (List UInt8)) : awp (envO [] [] [] [8, 15, 26, 27, 31, 32] []) (bodyOf f_impl_rowsOf) (lo_impl_rowsOf xs) 0 (ownPost (envO [] [] [] [8, 15, 26, 27, 31, 32] []) f_impl_rowsOf fun r => areEq r [⟨(.slice (.slice .bool)), xs.map rdB⟩]) (startO f_impl_rowsOf [.val ⟨(.slice .str), xs⟩]) =
 ((inI64 ((xs.length : Int)) →
 ((∃ i1 : Nat, (i1 ≤ xs.length ∧ ((True ∧ (True ∧ (xs = xs ∧ (((xs.length : Int)) = ((xs.length : Int)) ∧ ((0 : Int) = (i1 : Int) ∧ True))))) ∧ ([] = ((xs.take i1).map rdB) ∧ True)))) ∧ (∀ i1 : Nat, (i1 ≤ xs.length →
 (((decide ((i1 : Int) < ((xs.length : Int)))) = true →
 (idxOk (i1 : Int) xs.length ∧ ((xs.getD i1 []).length ≤ 140737488355328 →
 (inI64 (((xs.getD i1 []).length : Int)) →
 ((∃ k2 : Nat, ((k2 ≤ (xs.getD i1 []).length ∧ i1 < xs.length) ∧ ((True ∧ (True ∧ ((xs.getD i1 []) = (xs.getD i1 []) ∧ (True ∧ (xs = xs ∧ (((xs.length : Int)) = ((xs.length : Int)) ∧ ((i1 : Int) = (i1 : Int) ∧ ((decide ((i1 : Int) < ((xs.length : Int)))) = (decide ((i1 : Int) < ((xs.length : Int)))) ∧ ((xs.getD i1 []) = (xs.getD i1 []) ∧ ((xs.getD i1 []) = (xs.getD i1 []) ∧ ((xs.getD i1 []) = (xs.getD i1 []) ∧ ((((xs.getD i1 []).length : Int)) = (((xs.getD i1 []).length : Int)) ∧ ((0 : Int) = (k2 : Int) ∧ True))))))))))))) ∧ ([] = (rdB ((xs.getD i1 []).take k2)) ∧ (((xs.take i1).map rdB) = ((xs.take i1).map rdB) ∧ True))))) ∧ (∀ k2 : Nat, ((k2 ≤ (xs.getD i1 []).length ∧ i1 < xs.length) →
 (((decide ((k2 : Int) < (((xs.getD i1 []).length : Int)))) = true →
 (idxOk (k2 : Int) (xs.getD i1 []).length ∧ (roomOk ((rdB ((xs.getD i1 []).take k2)).length + ([(decide (((((xs.getD i1 []).getD k2 0).toNat : Int)) = (49 : Int)))]).length) 1 ∧ (inI64 ((k2 : Int) + (1 : Int)) ∧ (∃ k3 : Nat, ((k3 ≤ (xs.getD i1 []).length ∧ i1 < xs.length) ∧ ((xs.getD i1 []).length - k3 < (xs.getD i1 []).length - k2 ∧ ((True ∧ (True ∧ ((xs.getD i1 []) = (xs.getD i1 []) ∧ (True ∧ (xs = xs ∧ (((xs.length : Int)) = ((xs.length : Int)) ∧ ((i1 : Int) = (i1 : Int) ∧ ((decide ((i1 : Int) < ((xs.length : Int)))) = (decide ((i1 : Int) < ((xs.length : Int)))) ∧ ((xs.getD i1 []) = (xs.getD i1 []) ∧ ((xs.getD i1 []) = (xs.getD i1 []) ∧ ((xs.getD i1 []) = (xs.getD i1 []) ∧ ((((xs.getD i1 []).length : Int)) = (((xs.getD i1 []).length : Int)) ∧ (((k2 : Int) + (1 : Int)) = (k3 : Int) ∧ True))))))))))))) ∧ (((rdB ((xs.getD i1 []).take k2)) ++ ([(decide (((((xs.getD i1 []).getD k2 0).toNat : Int)) = (49 : Int)))])) = (rdB ((xs.getD i1 []).take k3)) ∧ (((xs.take i1).map rdB) = ((xs.take i1).map rdB) ∧ True)))))))))) ∧ ((decide ((k2 : Int) < (((xs.getD i1 []).length : Int)))) = false →
 (roomOk (((xs.take i1).map rdB).length + ([(rdB ((xs.getD i1 []).take k2))]).length) 24 ∧ (inI64 ((i1 : Int) + (1 : Int)) ∧ (∃ i3 : Nat, (i3 ≤ xs.length ∧ (xs.length - i3 < xs.length - i1 ∧ ((True ∧ (True ∧ (xs = xs ∧ (((xs.length : Int)) = ((xs.length : Int)) ∧ (((i1 : Int) + (1 : Int)) = (i3 : Int) ∧ True))))) ∧ ((((xs.take i1).map rdB) ++ ([(rdB ((xs.getD i1 []).take k2))])) = ((xs.take i3).map rdB) ∧ True)))))))))))))))) ∧ ((decide ((i1 : Int) < ((xs.length : Int)))) = false →
 ((xs.take i1).map rdB) = (xs.map rdB)))))))) := by kernel_rfl
theorem oko_impl_rowsOf (hE : AllGood []) (hO : AllO []) (hM : AllM []) (hS : AllS []) : Ctr.OGood ko_impl_rowsOf := by
 refine ⟨fnOk_of at_impl_rowsOf rfl (by decide), ?_⟩
 show ∀ (xs : List (List UInt8)), (shortL 1048576 xs ∧ xs.length ≤ 1048577) → OkOwn prog n_impl_rowsOf [.val ⟨(.slice .str), xs⟩] [⟨(.slice (.slice .bool)), xs.map rdB⟩]
 intro xs hp
 refine own_of_awp (own := [8, 15, 26, 27, 31, 32]) (wr := []) (cl := []) (ro := []) hE hO hM hS at_impl_rowsOf body_impl_rowsOf (lo_impl_rowsOf xs) ?_
 rewrite [vco_impl_rowsOf xs]
 refine fun a0 => ⟨⟨0, ⟨?_, ⟨⟨trivial, ⟨trivial, ⟨rfl, ⟨rfl, ⟨?_, trivial⟩⟩⟩⟩⟩, ⟨?_, trivial⟩⟩⟩⟩, fun i1 a1 => have b1x0 := rows_take xs i1; have b1x1 := rows_tl xs i1; have b1x2 := rows_end xs i1; have b1x3 := short_get 1048576 xs hp.1 i1; ⟨fun a2 => ⟨?_, fun a3 => fun a4 => ⟨⟨0, ⟨?_, ⟨⟨trivial, ⟨trivial, ⟨rfl, ⟨trivial, ⟨rfl, ⟨rfl, ⟨rfl, ⟨rfl, ⟨rfl, ⟨rfl, ⟨rfl, ⟨rfl, ⟨?_, trivial⟩⟩⟩⟩⟩⟩⟩⟩⟩⟩⟩⟩⟩, ⟨?_, ⟨rfl, trivial⟩⟩⟩⟩⟩, fun k2 a5 => have b5x0 := rdB_take (xs.getD i1 []) k2; have b5x1 := rdB_tl (xs.getD i1 []) k2; have b5x2 := rdB_end (xs.getD i1 []) k2; ⟨fun a6 => ⟨?_, ⟨?_, ⟨?_, ⟨k2 + 1, ⟨?_, ⟨?_, ⟨⟨trivial, ⟨trivial, ⟨rfl, ⟨trivial, ⟨rfl, ⟨rfl, ⟨rfl, ⟨rfl, ⟨rfl, ⟨rfl, ⟨rfl, ⟨rfl, ⟨?_, trivial⟩⟩⟩⟩⟩⟩⟩⟩⟩⟩⟩⟩⟩, ⟨?_, ⟨rfl, trivial⟩⟩⟩⟩⟩⟩⟩⟩⟩, fun a6 => ⟨?_, ⟨?_, ⟨i1 + 1, ⟨?_, ⟨?_, ⟨⟨trivial, ⟨trivial, ⟨rfl, ⟨rfl, ⟨?_, trivial⟩⟩⟩⟩⟩, ⟨?_, trivial⟩⟩⟩⟩⟩⟩⟩⟩⟩⟩, fun a2 => ?_⟩⟩
 all_goals try and_intros
 all_goals first | rfl | trivial | omega | (simp only [decide_eq_true_eq, decide_eq_false_iff_not, idxOk, inI64, cutOk, roomOk, List.length_append, List.length_cons, List.length_nil, Bool.not_eq_true', Bool.not_eq_false', Bool.not_true, Bool.not_false] at *; first | omega | grind) | grind
theorem ogood_impl_rowsOf : Ctr.OGood ko_impl_rowsOf := oko_impl_rowsOf trivial trivial trivial trivial
end
end Go.Proofs.YtkogipcdjalehaaDoor

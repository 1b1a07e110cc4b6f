/- Texts of expressions. Printed by vmk.py. -/
import Derived.Test.YtkogipcdjalehaaDoorVmUse
import Derived.Test.YtkogipcdjalehaaDoorVmLib
import Derived.Test.YtkogipcdjalehaaDoorVmExpr
import Derived.Test.YtkogipcdjalehaaDoorVmExpr2
import Derived.Test.YtkogipcdjalehaaDoorVmShaped
import Derived.Test.YtkogipcdjalehaaDoorVmTruth
import Derived.Test.YtkogipcdjalehaaDoorVmValid
import Derived.Test.YtkogipcdjalehaaDoorVmWe
set_option linter.unusedVariables false
set_option linter.unusedSimpArgs false
set_option linter.unusedSectionVars false
set_option maxRecDepth 4000
set_option maxHeartbeats 4000000
namespace Go.Proofs.YtkogipcdjalehaaDoor
noncomputable section
open Go.RowKit Go.Proofs
def dig (n : Int) : List UInt8 := Lib.decDigits n.toNat
def tyE (k n : Int) (p q : List UInt8) : List UInt8 := if k = 1 then [48] else if k = 2 then [49] else if k = 3 then 116 :: dig n else if k = 4 then 97 :: dig n else if k = 5 then 126 :: p
 else if k = 6 then [40] ++ (p ++ ([32, 43, 32] ++ (q ++ [41]))) else if k = 7 then [40] ++ (p ++ ([32] ++ (q ++ [41]))) else p ++ [42]
mutual
def txE : GExpr → List UInt8
 | ⟨k, n, ks⟩ => tyE k n ((txEs ks).getD 0 []) ((txEs ks).getD 1 [])
def txEs : List GExpr → List (List UInt8)
 | [] => []
 | k :: ks => txE k :: txEs ks
end
theorem txEs_getD (z : GExpr) : ∀ (xs : List GExpr) (i : Nat), i < xs.length → (txEs xs).getD i [] = txE (xs.getD i z)
 | [], i, h => by simp at h
 | x :: xs, 0, h => by simp [txEs]
 | x :: xs, i + 1, h => by
  have := txEs_getD z xs i (by simpa using h)
  simpa [txEs] using this
theorem txE_eq (x : GExpr) : txE x = tyE x.kind x.num ((txEs x.kids).getD 0 []) ((txEs x.kids).getD 1 []) := by
 cases x; rfl
def goodT (x : GExpr) : Bool := treeE 9 9 x
def goodTK (x : GExpr) (i : Nat) : Prop := goodT (x.kids.getD i zE) = true ∧ msz (x.kids.getD i zE) < msz x
theorem goodT_kid (x : GExpr) (h : goodT x = true) (i : Nat) (hi : i < x.kids.length) : goodTK x i := by
 unfold goodTK
 simp only [goodT] at h ⊢
 rw [treeE_eq] at h
 simp only [Bool.and_eq_true] at h
 refine ⟨all_getD _ _ _ _ hi h.2, ?_⟩
 have := msz_getD (zE : GExpr) x.kids i hi
 have := msz_kids x
 omega
theorem goodT_facts (x : GExpr) (h : goodT x = true) : ((x.kind = 3 ∨ x.kind = 4) → 0 ≤ x.num ∧ x.num ≤ 9) ∧
  ((x.kind = 5 ∨ x.kind = 8) → x.kids.length = 1 ∧ goodTK x 0) ∧ ((x.kind = 6 ∨ x.kind = 7) → x.kids.length = 2 ∧ goodTK x 0 ∧ goodTK x 1) ∧
  (x.kind = 1 ∨ x.kind = 2 ∨ x.kind = 3 ∨ x.kind = 4 ∨ x.kind = 5 ∨ x.kind = 6 ∨ x.kind = 7 ∨ x.kind = 8) := by
 have hk := goodT_kid x h
 simp only [goodT] at h
 rw [treeE_eq, headE_eq] at h
 simp only [Bool.and_eq_true, decide_eq_true_eq] at h
 obtain ⟨⟨⟨h1, h2⟩, _⟩, _⟩ := h
 refine ⟨fun e => ?_, fun e => ?_, fun e => ?_, ?_⟩
 ·rcases e with e | e <;> simpa [numOk, e] using h2
 ·have h1' : x.kids.length = 1 := by
   rcases e with e | e <;> rw [e] at h1 <;> simp [kidsN] at h1 <;> omega
  exact ⟨h1', hk 0 (by omega)⟩
 ·have h1' : x.kids.length = 2 := by
   rcases e with e | e <;> rw [e] at h1 <;> simp [kidsN] at h1 <;> omega
  exact ⟨h1', hk 0 (by omega), hk 1 (by omega)⟩
 ·unfold kidsN at h1
  split at h1
  ·omega
  ·split at h1
   ·omega
   ·split at h1 <;> omega
theorem txE_facts (x : GExpr) (h : goodT x = true) : (x.kind = 1 → txE x = [48]) ∧ (x.kind = 2 → txE x = [49]) ∧ (x.kind = 3 → txE x = 116 :: dig x.num) ∧ (x.kind = 4 → txE x = 97 :: dig x.num) ∧
  (x.kind = 5 → txE x = 126 :: txE (x.kids.getD 0 zE)) ∧
  (x.kind = 6 → txE x = [40] ++ (txE (x.kids.getD 0 zE) ++ ([32, 43, 32] ++ (txE (x.kids.getD 1 zE) ++ [41])))) ∧
  (x.kind = 7 → txE x = [40] ++ (txE (x.kids.getD 0 zE) ++ ([32] ++ (txE (x.kids.getD 1 zE) ++ [41])))) ∧
  (x.kind = 8 → txE x = txE (x.kids.getD 0 zE) ++ [42]) := by
 have hf := goodT_facts x h
 rw [txE_eq]
 refine ⟨fun e => ?_, fun e => ?_, fun e => ?_, fun e => ?_, fun e => ?_, fun e => ?_, fun e => ?_, fun e => ?_⟩
 ·simp [tyE, e]
 ·simp [tyE, e]
 ·simp [tyE, e]
 ·simp [tyE, e]
 ·have := (hf.2.1 (.inl e)).1
  rw [txEs_getD zE x.kids 0 (by omega)]; simp [tyE, e]
 ·have := (hf.2.2.1 (.inl e)).1
  rw [txEs_getD zE x.kids 0 (by omega), txEs_getD zE x.kids 1 (by omega)]; simp [tyE, e]
 ·have := (hf.2.2.1 (.inr e)).1
  rw [txEs_getD zE x.kids 0 (by omega), txEs_getD zE x.kids 1 (by omega)]; simp [tyE, e]
 ·have := (hf.2.1 (.inr e)).1
  rw [txEs_getD zE x.kids 0 (by omega)]; simp [tyE, e]
theorem dig_len (n : Int) (h : 0 ≤ n ∧ n ≤ 9) : (dig n).length = 1 := by
 unfold dig
 rw [Lib.decDigits_one (by omega)]; rfl
theorem szL2 (f : GExpr → Nat) (z : GExpr) (xs : List GExpr) (h : xs.length = 2) : szL f xs = f (xs.getD 0 z) + f (xs.getD 1 z) := by
 match xs, h with
 | [a, b], _ => simp [szL]
theorem szL1 (f : GExpr → Nat) (z : GExpr) (xs : List GExpr) (h : xs.length = 1) : szL f xs = f (xs.getD 0 z) := by
 match xs, h with
 | [a], _ => simp [szL]
theorem txE_len : ∀ (N : Nat) (x : GExpr), msz x < N → goodT x = true → (txE x).length ≤ 5 * nodesE x
 | 0, x, h, _ => by omega
 | N + 1, x, hN, h => by
  have hf := goodT_facts x h
  have ht := txE_facts x h
  have hn := nodesE_eq x
  rcases hf.2.2.2 with e | e | e | e | e | e | e | e
  ·rw [ht.1 e]; simp; omega
  ·rw [ht.2.1 e]; simp; omega
  ·rw [ht.2.2.1 e]; have := dig_len _ (hf.1 (.inl e)); simp; omega
  ·rw [ht.2.2.2.1 e]; have := dig_len _ (hf.1 (.inr e)); simp; omega
  ·rw [ht.2.2.2.2.1 e]
   obtain ⟨hl, h0⟩ := hf.2.1 (.inl e)
   have i0 := txE_len N _ (by have := h0.2; omega) h0.1
   rw [szL1 _ zE _ hl] at hn
   simp only [List.length_cons]; omega
  ·rw [ht.2.2.2.2.2.1 e]
   obtain ⟨hl, h0, h1⟩ := hf.2.2.1 (.inl e)
   have i0 := txE_len N _ (by have := h0.2; omega) h0.1
   have i1 := txE_len N _ (by have := h1.2; omega) h1.1
   rw [szL2 _ zE _ hl] at hn
   simp only [List.length_append, List.length_cons, List.length_nil]; omega
  ·rw [ht.2.2.2.2.2.2.1 e]
   obtain ⟨hl, h0, h1⟩ := hf.2.2.1 (.inr e)
   have i0 := txE_len N _ (by have := h0.2; omega) h0.1
   have i1 := txE_len N _ (by have := h1.2; omega) h1.1
   rw [szL2 _ zE _ hl] at hn
   simp only [List.length_append, List.length_cons, List.length_nil]; omega
  ·rw [ht.2.2.2.2.2.2.2 e]
   obtain ⟨hl, h0⟩ := hf.2.1 (.inr e)
   have i0 := txE_len N _ (by have := h0.2; omega) h0.1
   rw [szL1 _ zE _ hl] at hn
   simp only [List.length_append, List.length_cons, List.length_nil]; omega
theorem rd_expr {w : World} {S : Nat → Prop} {x : GExpr} {cs : List Value} (h : Rd w S x.toD cs) : ∃ a cap, cs = [.int .i64 x.kind, .int .i64 x.num, .slice a x.kids.length cap] ∧
  (x.kids = [] ∨ ∃ b o, a = some ⟨b, o, none⟩ ∧ S b ∧ RdRow w S (x.kids.map GExpr.toD) b o) := by
 cases x with
 | mk k n ks =>
  simp only [GExpr.toD, Rd, RdAgg] at h
  obtain ⟨v0, r0, rfl, ⟨h0, _⟩, v1, r1, rfl, ⟨h1, _⟩, v2, r2, rfl, ⟨a, cap, h2, _, _, _, h3⟩, rfl⟩ := h
  simp only [List.cons.injEq, and_true] at h0 h1 h2
  subst h0 h1 h2
  rw [GExpr.toDs_eq] at *
  refine ⟨a, cap, by simp, h3.imp (fun h => by simpa using h) id⟩
theorem rd_kid {w : World} {S : Nat → Prop} {x : GExpr} {b o : Nat} (h : RdRow w S (x.kids.map GExpr.toD) b o) (i : Nat) (hi : i < x.kids.length) :
  ∃ c0 c1 c2, Rd w S (x.kids.getD i zE).toD [c0, c1, c2] ∧ CellsAt w b (o + 3 * i) [c0, c1, c2] := by
 obtain ⟨cs, h1, h2, h3⟩ := RdRow.at_ (n := 3) _ b o h (fun d hd => by
  obtain ⟨y, _, rfl⟩ := List.mem_map.1 hd
  cases y; rfl) i (x.kids.getD i zE).toD (by simp [List.getElem?_map, List.getD_eq_getElem?_getD, List.getElem?_eq_getElem hi])
 match cs, h1 with
 | [c0, c1, c2], _ => exact ⟨c0, c1, c2, h2, by rw [Nat.mul_comm]; exact h3⟩
theorem writeExpr_ok (B b : Nat) (S : Nat → Prop) (hS : ∀ k, S k → k < B) : ∀ (N : Nat) (x : GExpr), msz x < N → goodT x = true → ∀ (l : List UInt8) (w : World) (cs : List Value), IsB B b l w → B ≤ w.heap.size →
  l.length + (txE x).length ≤ 140737488355328 → Rd w S x.toD cs → WrC B b (.agg cs.toArray) l (txE x) w
 | 0, x, h, _ => by omega
 | N + 1, x, hN, h => by
  intro l w cs hI hB hl hr
  have hf := goodT_facts x h
  have ht := txE_facts x h
  obtain ⟨a, cap, rfl, hk⟩ := rd_expr hr
  have kid : ∀ i, i < x.kids.length → goodTK x i → ∃ kb ko c0 c1 c2, a = some ⟨kb, ko, none⟩ ∧ (∀ j, j ≠ i → True) ∧ (∀ w1, Below B w w1 → ∀ j v, [c0, c1, c2][j]? = some v → w1.cell? ⟨kb, ko + 3 * i + j, none⟩ = some v) ∧
    (∀ w1 l1, Below B w w1 → IsB B b l1 w1 → B ≤ w1.heap.size → l1.length + (txE (x.kids.getD i zE)).length ≤ 140737488355328 → WrC B b (.agg #[c0, c1, c2]) l1 (txE (x.kids.getD i zE)) w1) := by
   intro i hi hg
   rcases hk with hk | ⟨kb, ko, rfl, hSk, hrow⟩
   ·rw [hk] at hi; simp at hi
   ·obtain ⟨c0, c1, c2, h1, h2⟩ := rd_kid hrow i hi
    refine ⟨kb, ko, c0, c1, c2, rfl, fun _ _ => trivial, fun w1 hw j v hj => ?_, fun w1 l1 hw hI1 hB1 hl1 => ?_⟩
    ·exact h2.keep (hw.block kb (hS kb hSk)) j v hj
    ·exact writeExpr_ok B b S hS N _ (by have := hg.2; omega) hg.1 l1 w1 [c0, c1, c2] hI1 hB1 hl1 (h1.keep (fun _ h => h) (fun k hk => hw.block k (hS k hk)))
  rcases hf.2.2.2 with e | e | e | e | e | e | e | e
  ·rw [ht.1 e] at hl ⊢; rw [e]; exact we1 B b l _ _ w hI hl hB
  ·rw [ht.2.1 e] at hl ⊢; rw [e]; exact we2 B b l _ _ w hI hl hB
  ·have hn := hf.1 (.inl e)
   rw [ht.2.2.1 e] at hl ⊢; rw [e, show x.num = ((x.num.toNat : Nat) : Int) by omega]; exact we3 B b l _ (by omega) _ w hI (by simpa [dig] using hl) hB
  ·have hn := hf.1 (.inr e)
   rw [ht.2.2.2.1 e] at hl ⊢; rw [e, show x.num = ((x.num.toNat : Nat) : Int) by omega]; exact we4 B b l _ (by omega) _ w hI (by simpa [dig] using hl) hB
  ·obtain ⟨hn, h0⟩ := hf.2.1 (.inl e)
   obtain ⟨kb, ko, c0, c1, c2, rfl, _, q1, q2⟩ := kid 0 (by omega) h0
   rw [ht.2.2.2.2.1 e] at hl ⊢; rw [e, hn]; exact we5 B b l _ _ kb ko cap c0 c1 c2 w hI (by simpa using hl) hB q1 q2
  ·obtain ⟨hn, h0, h1⟩ := hf.2.2.1 (.inl e)
   obtain ⟨kb, ko, c0, c1, c2, rfl, _, q1, q2⟩ := kid 0 (by omega) h0
   obtain ⟨kb', ko', d0, d1, d2, eq, _, p1, p2⟩ := kid 1 (by omega) h1
   cases eq
   rw [ht.2.2.2.2.2.1 e] at hl ⊢; rw [e, hn]; exact we6 B b l _ _ _ kb ko cap c0 c1 c2 d0 d1 d2 w hI (by simp at hl ⊢; omega) hB q1 q2 p1 p2
  ·obtain ⟨hn, h0, h1⟩ := hf.2.2.1 (.inr e)
   obtain ⟨kb, ko, c0, c1, c2, rfl, _, q1, q2⟩ := kid 0 (by omega) h0
   obtain ⟨kb', ko', d0, d1, d2, eq, _, p1, p2⟩ := kid 1 (by omega) h1
   cases eq
   rw [ht.2.2.2.2.2.2.1 e] at hl ⊢; rw [e, hn]; exact we7 B b l _ _ _ kb ko cap c0 c1 c2 d0 d1 d2 w hI (by simp at hl ⊢; omega) hB q1 q2 p1 p2
  ·obtain ⟨hn, h0⟩ := hf.2.1 (.inr e)
   obtain ⟨kb, ko, c0, c1, c2, rfl, _, q1, q2⟩ := kid 0 (by omega) h0
   rw [ht.2.2.2.2.2.2.2 e] at hl ⊢; rw [e, hn]; exact we8 B b l _ _ kb ko cap c0 c1 c2 w hI (by simpa using hl) hB q1 q2
def k_impl_textOf : Ctr := ⟨n_impl_textOf, [.v (.st .expr)], fun (x : GExpr) => ⟨(some (goodT x = true ∧ (txE x).length ≤ 1000000), [⟨.str, txE x⟩])⟩⟩
set_option maxRecDepth 100000 in
theorem textOf_walk (x : GExpr) (w : World) (S : Nat → Prop) (hS : ∀ b, S b → b < w.heap.size) (hg : goodT x = true) (hl : (txE x).length ≤ 1000000) (cs : List Value) (hr : Rd w S x.toD cs) :
  Calls Tryd.prog 60 #[.agg cs.toArray] w fun e w' => e = .returned (.string ⟨(txE x).toArray⟩) ∧ Below w.heap.size w w' := by
 obtain ⟨a, cap, rfl, hk⟩ := rd_expr hr
 have hI : ∀ o : Obj, IsB (w.heap.size + 1) (w.heap.size + 1) [] ((w.alloc o).alloc (.cells #[.pointer none, .slice none 0 0] 147)) := fun o => by
  have := Lib.fresh_isBuilder 147 5 (w.alloc o)
  rw [show (w.alloc o).heap.size = w.heap.size + 1 by simp] at this
  exact this
 have hB : ∀ o p : Obj, w.heap.size + 1 ≤ ((w.alloc o).alloc p).heap.size := fun o p => by simp
 have hw : ∀ o p : Obj, Below w.heap.size w ((w.alloc o).alloc p) := fun o p => ((Below.refl _ w).alloc (Nat.le_refl _) o).alloc (by simp) p
 go_enter Tryd.func60, Tryd.ntmps60
 go_wp2_with (go_at_call 101; refine (writeExpr_ok (w.heap.size + 1) (w.heap.size + 1) S (fun k hk => Nat.lt_succ_of_lt (hS k hk)) (msz x + 1) x (Nat.lt_succ_self _) hg [] _ _ (hI _) (hB _ _) (by simp; omega) (hr.keep (fun _ h => h) (fun k hk => (hw _ _).block k (hS k hk)))).mono ?_)
 rintro e w1 ⟨he, h1⟩; subst he
 have b1 : Below w.heap.size w w1 := (hw _ _).trans (h1.bel.mono (Nat.le_succ _))
 have g1 : IsB (w.heap.size + 1) (w.heap.size + 1) (txE x) w1 := by simpa using h1.isb
 have z1 : w.heap.size + 1 ≤ w1.heap.size := Nat.le_trans (hB _ _) h1.bel.size
 clear h1
 go_wp2_with (go_at_call 102; refine (Tryd.Builder_String_any (w.heap.size + 1) (w.heap.size + 1) (txE x) w1 g1 z1).mono ?_)
 rintro e w2 ⟨he, h2⟩; subst he
 go_wp2
 go_ret
 exact ⟨rfl, b1.trans (h2.mono (Nat.le_succ _))⟩
theorem below_keeps {w w' : World} (h : Below w.heap.size w w') : Keeps (fun _ => False) w w' := ⟨h.os, h.tape, h.output, h.size, fun b hb _ => h.block b hb⟩
theorem rd_str {w : World} {S : Nat → Prop} (l : List UInt8) (h : l.length ≤ 140737488355328) : RdV w S ⟨.str, l⟩ (.string ⟨l.toArray⟩) :=
 ⟨⟨l.toArray⟩, rfl, by simp, by simpa [ByteArray.size] using h⟩
theorem good_impl_textOf : Ctr.Good k_impl_textOf := by
 refine ⟨fnOk_of at_impl_textOf rfl (by decide), ?_⟩
 intro x hp w S vals hS ha
 match vals, ha with
 | [v], ha =>
  obtain ⟨⟨cs, rfl, hr⟩, _⟩ := ha
  refine (textOf_walk x w S hS hp.1 hp.2 cs hr).mono ?_
  rintro e w' ⟨rfl, hb⟩
  exact ⟨_, S, _, rfl, rfl, below_keeps hb, fun _ _ => Iff.rfl, fun b h => Nat.lt_of_lt_of_le (hS b h) hb.size, rd_str (w := w') (S := S) _ (by have := hp.2; omega)⟩
def k_spec_Decimal : Ctr := ⟨n_spec_Decimal, [.v (.int .i64)], fun (n : Int) => ⟨(some (0 ≤ n ∧ n ≤ 9), [⟨.str, dig n⟩])⟩⟩
set_option maxRecDepth 100000 in
theorem Decimal_walk (n : Nat) (h : n < 10) (w : World) :
  Calls Tryd.prog 96 #[.int .i64 n] w fun e w' => e = .returned (.string ⟨(Lib.decDigits n).toArray⟩) ∧ Below w.heap.size w w' := by
 rw [Lib.decDigits_one h]
 have hn : ¬ (10 : Int) ≤ (n : Int) := by omega
 go_enter Tryd.func96, Tryd.ntmps96
 go_wp2
 rw [show (convert 145 9 (.slice (some ⟨w.heap.size, 0, none⟩) 1 1)).run Tryd.prog (w.alloc (.cells #[.int .u8 (48 + (n : Int))] 5)) = _ from run_convert_bytes_back _ 145 9 5 ⟨w.heap.size, 0, none⟩ 1 [UInt8.ofNat (48 + n)] Tryd.underlying145 Tryd.underlying5 Tryd.underlying9 (by
  intro j hj
  have hj0 : j = 0 := by simpa using hj
  subst hj0
  show World.cell? _ ⟨w.heap.size, 0, none⟩ = _
  rw [Lib.cell_of_heap (heap_alloc_new w _)]
  have e : (UInt8.ofNat (48 + n)).toNat = 48 + n := by rw [UInt8.toNat_ofNat']; omega
  simp [e]
  omega)]
 simp only [Result.andThen]
 rw [Oper.upon_value]
 go_wp2
 go_ret
 exact ⟨by first | rfl | (simp; done) | (show Ending.returned (.string ⟨#[48 + UInt8.ofNat n]⟩) = _; rw [UInt8.ofNat_add]; rfl), (Below.refl _ w).alloc (Nat.le_refl _) _⟩
theorem good_spec_Decimal : Ctr.Good k_spec_Decimal := by
 refine ⟨fnOk_of at_spec_Decimal rfl (by decide), ?_⟩
 intro (n : Int) hp w S vals hS ha
 match vals, ha with
 | [v], ha =>
  obtain ⟨⟨hv, _⟩, _⟩ := ha
  simp only [List.cons.injEq, and_true] at hv
  have hp : 0 ≤ n ∧ n ≤ 9 := hp
  subst hv
  have := Decimal_walk n.toNat (by omega) w
  rw [show ((n.toNat : Nat) : Int) = n by omega] at this
  refine this.mono ?_
  rintro e w' ⟨rfl, hb⟩
  exact ⟨_, S, _, rfl, rfl, below_keeps hb, fun _ _ => Iff.rfl, fun b h => Nat.lt_of_lt_of_le (hS b h) hb.size, rd_str (w := w') (S := S) (dig n) (by rw [dig_len n hp]; decide)⟩
def k_impl_decimal : Ctr := ⟨n_impl_decimal, [.v (.int .i64)], fun (n : Int) => ⟨(some (0 ≤ n ∧ n ≤ 9), [⟨.str, dig n⟩])⟩⟩
theorem good_impl_decimal : Ctr.Good k_impl_decimal := by
 refine ⟨fnOk_of at_impl_decimal rfl (by decide), ?_⟩
 intro (n : Int) hp w S vals hS ha
 match vals, ha with
 | [v], ha =>
  obtain ⟨⟨hv, _⟩, _⟩ := ha
  simp only [List.cons.injEq, and_true] at hv
  have hp : 0 ≤ n ∧ n ≤ 9 := hp
  subst hv
  have := decimal_small n.toNat (by omega) w
  rw [show ((n.toNat : Nat) : Int) = n by omega] at this
  refine this.mono ?_
  rintro e w' ⟨rfl, rfl⟩
  exact ⟨_, S, _, rfl, rfl, Keeps.refl _ _, fun _ _ => Iff.rfl, hS, rd_str (w := w') (S := S) (dig n) (by rw [dig_len n hp]; decide)⟩
def tk (x : GExpr) (i : Nat) : GExpr := x.kids.getD i zE
structure TK (x : GExpr) (i : Nat) : Prop where
 good : goodT (x.kids.getD i zE) = true
 less : msz (x.kids.getD i zE) < msz x
 len : (txE (x.kids.getD i zE)).length ≤ (txE x).length
theorem tx_3 (x : GExpr) (h : goodT x = true) (e : x.kind = 3) : 0 ≤ x.num ∧ x.num ≤ 9 ∧ (dig x.num).length = 1 ∧ txE x = [116] ++ dig x.num := by
 have := (goodT_facts x h).1 (.inl e)
 exact ⟨this.1, this.2, dig_len _ this, (txE_facts x h).2.2.1 e⟩
theorem tx_4 (x : GExpr) (h : goodT x = true) (e : x.kind = 4) : 0 ≤ x.num ∧ x.num ≤ 9 ∧ (dig x.num).length = 1 ∧ txE x = [97] ++ dig x.num := by
 have := (goodT_facts x h).1 (.inr e)
 exact ⟨this.1, this.2, dig_len _ this, (txE_facts x h).2.2.2.1 e⟩
theorem tx_5 (x : GExpr) (h : goodT x = true) (e : x.kind = 5) : x.kids.length = 1 ∧ TK x 0 ∧ txE x = [126] ++ txE (x.kids.getD 0 zE) := by
 have hk := (goodT_facts x h).2.1 (.inl e)
 have ht := (txE_facts x h).2.2.2.2.1 e
 exact ⟨hk.1, ⟨hk.2.1, hk.2.2, by rw [ht]; simp⟩, ht⟩
theorem tx_6 (x : GExpr) (h : goodT x = true) (e : x.kind = 6) : x.kids.length = 2 ∧ TK x 0 ∧ TK x 1 ∧ txE x = [40] ++ txE (x.kids.getD 0 zE) ++ [32, 43, 32] ++ txE (x.kids.getD 1 zE) ++ [41] := by
 have hk := (goodT_facts x h).2.2.1 (.inl e)
 have ht := (txE_facts x h).2.2.2.2.2.1 e
 exact ⟨hk.1, ⟨hk.2.1.1, hk.2.1.2, by rw [ht]; simp; omega⟩, ⟨hk.2.2.1, hk.2.2.2, by rw [ht]; simp; omega⟩, by rw [ht]; simp⟩
theorem tx_7 (x : GExpr) (h : goodT x = true) (e : x.kind = 7) : x.kids.length = 2 ∧ TK x 0 ∧ TK x 1 ∧ txE x = [40] ++ txE (x.kids.getD 0 zE) ++ [32] ++ txE (x.kids.getD 1 zE) ++ [41] := by
 have hk := (goodT_facts x h).2.2.1 (.inr e)
 have ht := (txE_facts x h).2.2.2.2.2.2.1 e
 exact ⟨hk.1, ⟨hk.2.1.1, hk.2.1.2, by rw [ht]; simp; omega⟩, ⟨hk.2.2.1, hk.2.2.2, by rw [ht]; simp; omega⟩, by rw [ht]; simp⟩
theorem tx_8 (x : GExpr) (h : goodT x = true) (e1 : ¬ x.kind = 1) (e2 : ¬ x.kind = 2) (e3 : ¬ x.kind = 3) (e4 : ¬ x.kind = 4) (e5 : ¬ x.kind = 5) (e6 : ¬ x.kind = 6) (e7 : ¬ x.kind = 7) : x.kids.length = 1 ∧ TK x 0 ∧ txE x = txE (x.kids.getD 0 zE) ++ [42] := by
 have e : x.kind = 8 := by have := (goodT_facts x h).2.2.2; omega
 have hk := (goodT_facts x h).2.1 (.inr e)
 have ht := (txE_facts x h).2.2.2.2.2.2.2 e
 exact ⟨hk.1, ⟨hk.2.1, hk.2.2, by rw [ht]; simp⟩, ht⟩
def kn_spec_l01Text (n : Nat) : Ctr := ⟨n_spec_l01Text, [.r (.st .expr)], fun (x : GExpr) => ⟨(some (msz x < n ∧ goodT x = true ∧ (txE x).length ≤ 1000000), [⟨.str, txE x⟩])⟩⟩
def k_spec_l01Text : Ctr := ⟨n_spec_l01Text, [.r (.st .expr)], fun (x : GExpr) => ⟨(some (goodT x = true ∧ (txE x).length ≤ 1000000), [⟨.str, txE x⟩])⟩⟩
def l_spec_l01Text (x : GExpr) : Nat → LoopInv := fun _ => .none
theorem vc_spec_l01Text (n : Nat) (x : GExpr) : awp (envOf [kn_spec_l01Text n, k_spec_Decimal]) (bodyOf f_spec_l01Text) (l_spec_l01Text x) 0 (funPost (envOf [kn_spec_l01Text n, k_spec_Decimal]) f_spec_l01Text fun r => areEq r [⟨.str, txE x⟩]) (startState f_spec_l01Text [.ref ⟨(.st .expr), x⟩]) =
 ((inI64 x.kind →
 (((decide (x.kind = (1 : Int))) = true →
 ([48]) = (txE x)) ∧ ((decide (x.kind = (1 : Int))) = false →
 (((decide (x.kind = (2 : Int))) = true →
 ([49]) = (txE x)) ∧ ((decide (x.kind = (2 : Int))) = false →
 (((decide (x.kind = (3 : Int))) = true →
 (inI64 x.num →
 ((0 ≤ x.num ∧ x.num ≤ 9) ∧ ((dig x.num).length ≤ 140737488355328 →
 (([116]).length + (dig x.num).length ≤ 140737488355328 ∧ (([116]) ++ (dig x.num)) = (txE x)))))) ∧ ((decide (x.kind = (3 : Int))) = false →
 (((decide (x.kind = (4 : Int))) = true →
 (inI64 x.num →
 ((0 ≤ x.num ∧ x.num ≤ 9) ∧ ((dig x.num).length ≤ 140737488355328 →
 (([97]).length + (dig x.num).length ≤ 140737488355328 ∧ (([97]) ++ (dig x.num)) = (txE x)))))) ∧ ((decide (x.kind = (4 : Int))) = false →
 (((decide (x.kind = (5 : Int))) = true →
 (x.kids.length ≤ 140737488355328 →
 (idxOk (0 : Int) x.kids.length ∧ ((msz (x.kids.getD 0 zE) < n ∧ goodT (x.kids.getD 0 zE) = true ∧ (txE (x.kids.getD 0 zE)).length ≤ 1000000) ∧ ((txE (x.kids.getD 0 zE)).length ≤ 140737488355328 →
 (([126]).length + (txE (x.kids.getD 0 zE)).length ≤ 140737488355328 ∧ (([126]) ++ (txE (x.kids.getD 0 zE))) = (txE x))))))) ∧ ((decide (x.kind = (5 : Int))) = false →
 (((decide (x.kind = (6 : Int))) = true →
 (idxOk (0 : Int) x.kids.length ∧ ((msz (x.kids.getD 0 zE) < n ∧ goodT (x.kids.getD 0 zE) = true ∧ (txE (x.kids.getD 0 zE)).length ≤ 1000000) ∧ (([40]).length + (txE (x.kids.getD 0 zE)).length ≤ 140737488355328 ∧ ((([40]) ++ (txE (x.kids.getD 0 zE))).length + ([32, 43, 32]).length ≤ 140737488355328 ∧ (idxOk (1 : Int) x.kids.length ∧ ((msz (x.kids.getD 1 zE) < n ∧ goodT (x.kids.getD 1 zE) = true ∧ (txE (x.kids.getD 1 zE)).length ≤ 1000000) ∧ (x.kids.length ≤ 140737488355328 →
 ((txE (x.kids.getD 0 zE)).length ≤ 140737488355328 →
 (x.kids.length ≤ 140737488355328 →
 ((txE (x.kids.getD 1 zE)).length ≤ 140737488355328 →
 (((([40]) ++ (txE (x.kids.getD 0 zE))) ++ ([32, 43, 32])).length + (txE (x.kids.getD 1 zE)).length ≤ 140737488355328 ∧ ((((([40]) ++ (txE (x.kids.getD 0 zE))) ++ ([32, 43, 32])) ++ (txE (x.kids.getD 1 zE))).length + ([41]).length ≤ 140737488355328 ∧ ((((([40]) ++ (txE (x.kids.getD 0 zE))) ++ ([32, 43, 32])) ++ (txE (x.kids.getD 1 zE))) ++ ([41])) = (txE x)))))))))))))) ∧ ((decide (x.kind = (6 : Int))) = false →
 (((decide (x.kind = (7 : Int))) = true →
 (idxOk (0 : Int) x.kids.length ∧ ((msz (x.kids.getD 0 zE) < n ∧ goodT (x.kids.getD 0 zE) = true ∧ (txE (x.kids.getD 0 zE)).length ≤ 1000000) ∧ (([40]).length + (txE (x.kids.getD 0 zE)).length ≤ 140737488355328 ∧ ((([40]) ++ (txE (x.kids.getD 0 zE))).length + ([32]).length ≤ 140737488355328 ∧ (idxOk (1 : Int) x.kids.length ∧ ((msz (x.kids.getD 1 zE) < n ∧ goodT (x.kids.getD 1 zE) = true ∧ (txE (x.kids.getD 1 zE)).length ≤ 1000000) ∧ (x.kids.length ≤ 140737488355328 →
 ((txE (x.kids.getD 0 zE)).length ≤ 140737488355328 →
 (x.kids.length ≤ 140737488355328 →
 ((txE (x.kids.getD 1 zE)).length ≤ 140737488355328 →
 (((([40]) ++ (txE (x.kids.getD 0 zE))) ++ ([32])).length + (txE (x.kids.getD 1 zE)).length ≤ 140737488355328 ∧ ((((([40]) ++ (txE (x.kids.getD 0 zE))) ++ ([32])) ++ (txE (x.kids.getD 1 zE))).length + ([41]).length ≤ 140737488355328 ∧ ((((([40]) ++ (txE (x.kids.getD 0 zE))) ++ ([32])) ++ (txE (x.kids.getD 1 zE))) ++ ([41])) = (txE x)))))))))))))) ∧ ((decide (x.kind = (7 : Int))) = false →
 (x.kids.length ≤ 140737488355328 →
 (idxOk (0 : Int) x.kids.length ∧ ((msz (x.kids.getD 0 zE) < n ∧ goodT (x.kids.getD 0 zE) = true ∧ (txE (x.kids.getD 0 zE)).length ≤ 1000000) ∧ ((txE (x.kids.getD 0 zE)).length ≤ 140737488355328 →
 ((txE (x.kids.getD 0 zE)).length + ([42]).length ≤ 140737488355328 ∧ ((txE (x.kids.getD 0 zE)) ++ ([42])) = (txE x)))))))))))))))))))))) := by kernel_rfl
theorem ok_spec_l01Text (n : Nat) (hE : AllGood [kn_spec_l01Text n, k_spec_Decimal]) : Ctr.Good (kn_spec_l01Text (n + 1)) := by
 refine ⟨fnOk_of at_spec_l01Text rfl (by decide), ?_⟩
 show ∀ (x : GExpr), (msz x < n + 1 ∧ goodT x = true ∧ (txE x).length ≤ 1000000) → OkCall prog n_spec_l01Text [.ref ⟨(.st .expr), x⟩] (· = [⟨.str, txE x⟩])
 intro x hp
 refine ok_of_awp (wr := []) (cl := []) (ro := []) hE at_spec_l01Text body_spec_l01Text (l_spec_l01Text x) ?_
 rewrite [vc_spec_l01Text n x]
 obtain ⟨hm, hg, hl⟩ := hp
 have f1 := (txE_facts x hg).1
 have f2 := (txE_facts x hg).2.1
 have f3 := tx_3 x hg
 have f4 := tx_4 x hg
 have f5 := tx_5 x hg
 have f6 := tx_6 x hg
 have f7 := tx_7 x hg
 have f8 := tx_8 x hg
 refine fun a0 => ⟨fun a1 => ?_, fun a1 => ⟨fun a2 => ?_, fun a2 => ⟨fun a3 => fun a4 => ⟨?_, fun a5 => ⟨?_, ?_⟩⟩, fun a3 => ⟨fun a4 => fun a5 => ⟨?_, fun a6 => ⟨?_, ?_⟩⟩, fun a4 => ⟨fun a5 => fun a6 => ⟨?_, ⟨?_, fun a7 => ⟨?_, ?_⟩⟩⟩, fun a5 => ⟨fun a6 => ⟨?_, ⟨?_, ⟨?_, ⟨?_, ⟨?_, ⟨?_, fun a7 => fun a8 => fun a9 => fun a10 => ⟨?_, ⟨?_, ?_⟩⟩⟩⟩⟩⟩⟩⟩, fun a6 => ⟨fun a7 => ⟨?_, ⟨?_, ⟨?_, ⟨?_, ⟨?_, ⟨?_, fun a8 => fun a9 => fun a10 => fun a11 => ⟨?_, ⟨?_, ?_⟩⟩⟩⟩⟩⟩⟩⟩, fun a7 => fun a8 => ⟨?_, ⟨?_, fun a9 => ⟨?_, ?_⟩⟩⟩⟩⟩⟩⟩⟩⟩⟩
 all_goals try and_intros
 all_goals ((try simp only [decide_eq_true_eq, decide_eq_false_iff_not, idxOk] at *); (first | replace f1 := f1 (by with_reducible assumption) | clear f1); (first | replace f2 := f2 (by with_reducible assumption) | clear f2); (first | replace f3 := f3 (by with_reducible assumption) | clear f3); (first | replace f4 := f4 (by with_reducible assumption) | clear f4); (first | replace f5 := f5 (by with_reducible assumption) | clear f5); (first | replace f6 := f6 (by with_reducible assumption) | clear f6); (first | replace f7 := f7 (by with_reducible assumption) | clear f7); (first | replace f8 := f8 (by with_reducible assumption) (by with_reducible assumption) (by with_reducible assumption) (by with_reducible assumption) (by with_reducible assumption) (by with_reducible assumption) (by with_reducible assumption) | clear f8); (try obtain ⟨a5, b5, c5⟩ := f5); (try obtain ⟨a8, b8, c8⟩ := f8); (try obtain ⟨a3, b3, b3b, c3⟩ := f3); (try obtain ⟨a4, b4, b4b, c4⟩ := f4); (try obtain ⟨a6, b6, b6b, c6⟩ := f6); (try obtain ⟨a7, b7, b7b, c7⟩ := f7);  first | rfl | omega | exact TK.good (by assumption) | exact f1.symm | exact f2.symm | (have t0 := TK.len ‹TK x 0›; have t1 := TK.less ‹TK x 0›; omega) | (have t0 := TK.len ‹TK x 1›; have t1 := TK.less ‹TK x 1›; omega) | exact (Eq.symm (by assumption)) | (simp only [List.length_append, List.length_cons, List.length_nil]; have t0 := TK.len ‹TK x 0›; first | omega | (have t1 := TK.len ‹TK x 1›; omega)) | (simp only [List.length_append, List.length_cons, List.length_nil]; omega))
theorem all_text_s  : ∀ n, AllGood [kn_spec_l01Text n]
 | 0 => ⟨⟨fnOk_of at_spec_l01Text rfl (by decide), fun _ h => absurd h.1 (Nat.not_lt_zero _)⟩, trivial⟩
 | n + 1 => by
  have ih := all_text_s  n
  exact ⟨ok_spec_l01Text n ⟨ih.1, good_spec_Decimal, trivial⟩, trivial⟩
theorem good_spec_l01Text  : Ctr.Good k_spec_l01Text :=
 ⟨fnOk_of at_spec_l01Text rfl (by decide), fun x hp => (all_text_s  (msz x + 1)).1.2 x (⟨Nat.lt_succ_self _, hp⟩)⟩
end
end Go.Proofs.YtkogipcdjalehaaDoor

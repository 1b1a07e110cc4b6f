/- Text, RExpr, RExpr2. -/
import Derived.Test.YtbphjcgkidlabaaDoorVmUse
import Derived.Test.YtbphjcgkidlabaaDoorVmLib
import Derived.Test.YtbphjcgkidlabaaDoorVmShaped
import Derived.Test.YtbphjcgkidlabaaDoorVmValid
import Derived.Test.YtbphjcgkidlabaaDoorVmWe
import Derived.Test.YtbphjcgkidlabaaDoorVmWord2
set_option linter.unusedVariables false
set_option linter.unusedSimpArgs false
set_option linter.unusedSectionVars false
set_option maxRecDepth 4000
set_option maxHeartbeats 4000000
namespace Go.Proofs.YtbphjcgkidlabaaDoor
noncomputable section
open Go.RowKit Go.Proofs
def dig (n : Int) : List UInt8 := Lib.decDigits n.toNat
def tyE (k n : Int) (p q : List UInt8) : List UInt8 := if k = 1 then [48] else if k = 2 then [49] else if k = 3 then 116 :: dig n else if k = 4 then 97 :: dig n else if k = 5 then 126 :: p
 else if k = 6 then [40] ++ (p ++ ([32, 43, 32] ++ (q ++ [41]))) else if k = 7 then [40] ++ (p ++ ([32] ++ (q ++ [41]))) else p ++ [42]
mutual
def txE : GExpr → List UInt8
 | ⟨k, n, ks⟩ => tyE k n ((txEs ks).getD 0 []) ((txEs ks).getD 1 [])
def txEs : List GExpr → List (List UInt8)
 | [] => []
 | k :: ks => txE k :: txEs ks
end
theorem txEs_getD (z : GExpr) : ∀ (xs : List GExpr) (i : Nat), i < xs.length → (txEs xs).getD i [] = txE (xs.getD i z)
 | [], i, h => by simp at h
 | x :: xs, 0, h => by simp [txEs]
 | x :: xs, i + 1, h => by
  have := txEs_getD z xs i (by simpa using h)
  simpa [txEs] using this
theorem txE_eq (x : GExpr) : txE x = tyE x.kind x.num ((txEs x.kids).getD 0 []) ((txEs x.kids).getD 1 []) := by
 cases x; rfl
def goodT (x : GExpr) : Bool := treeE 9 9 x
def goodTK (x : GExpr) (i : Nat) : Prop := goodT (x.kids.getD i zE) = true ∧ msz (x.kids.getD i zE) < msz x
theorem goodT_kid (x : GExpr) (h : goodT x = true) (i : Nat) (hi : i < x.kids.length) : goodTK x i := by
 unfold goodTK
 simp only [goodT] at h ⊢
 rw [treeE_eq] at h
 simp only [Bool.and_eq_true] at h
 refine ⟨all_getD _ _ _ _ hi h.2, ?_⟩
 have := msz_getD (zE : GExpr) x.kids i hi
 have := msz_kids x
 omega
theorem goodT_facts (x : GExpr) (h : goodT x = true) : ((x.kind = 3 ∨ x.kind = 4) → 0 ≤ x.num ∧ x.num ≤ 9) ∧
  ((x.kind = 5 ∨ x.kind = 8) → x.kids.length = 1 ∧ goodTK x 0) ∧ ((x.kind = 6 ∨ x.kind = 7) → x.kids.length = 2 ∧ goodTK x 0 ∧ goodTK x 1) ∧
  (x.kind = 1 ∨ x.kind = 2 ∨ x.kind = 3 ∨ x.kind = 4 ∨ x.kind = 5 ∨ x.kind = 6 ∨ x.kind = 7 ∨ x.kind = 8) := by
 have hk := goodT_kid x h
 simp only [goodT] at h
 rw [treeE_eq, headE_eq] at h
 simp only [Bool.and_eq_true, decide_eq_true_eq] at h
 obtain ⟨⟨⟨h1, h2⟩, _⟩, _⟩ := h
 refine ⟨fun e => ?_, fun e => ?_, fun e => ?_, ?_⟩
 ·rcases e with e | e <;> simpa [numOk, e] using h2
 ·have h1' : x.kids.length = 1 := by
   rcases e with e | e <;> rw [e] at h1 <;> simp [kidsN] at h1 <;> omega
  exact ⟨h1', hk 0 (by omega)⟩
 ·have h1' : x.kids.length = 2 := by
   rcases e with e | e <;> rw [e] at h1 <;> simp [kidsN] at h1 <;> omega
  exact ⟨h1', hk 0 (by omega), hk 1 (by omega)⟩
 ·unfold kidsN at h1
  split at h1
  ·omega
  ·split at h1
   ·omega
   ·split at h1 <;> omega
theorem txE_facts (x : GExpr) (h : goodT x = true) : (x.kind = 1 → txE x = [48]) ∧ (x.kind = 2 → txE x = [49]) ∧ (x.kind = 3 → txE x = 116 :: dig x.num) ∧ (x.kind = 4 → txE x = 97 :: dig x.num) ∧
  (x.kind = 5 → txE x = 126 :: txE (x.kids.getD 0 zE)) ∧
  (x.kind = 6 → txE x = [40] ++ (txE (x.kids.getD 0 zE) ++ ([32, 43, 32] ++ (txE (x.kids.getD 1 zE) ++ [41])))) ∧
  (x.kind = 7 → txE x = [40] ++ (txE (x.kids.getD 0 zE) ++ ([32] ++ (txE (x.kids.getD 1 zE) ++ [41])))) ∧
  (x.kind = 8 → txE x = txE (x.kids.getD 0 zE) ++ [42]) := by
 have hf := goodT_facts x h
 rw [txE_eq]
 refine ⟨fun e => ?_, fun e => ?_, fun e => ?_, fun e => ?_, fun e => ?_, fun e => ?_, fun e => ?_, fun e => ?_⟩
 ·simp [tyE, e]
 ·simp [tyE, e]
 ·simp [tyE, e]
 ·simp [tyE, e]
 ·have := (hf.2.1 (.inl e)).1
  rw [txEs_getD zE x.kids 0 (by omega)]; simp [tyE, e]
 ·have := (hf.2.2.1 (.inl e)).1
  rw [txEs_getD zE x.kids 0 (by omega), txEs_getD zE x.kids 1 (by omega)]; simp [tyE, e]
 ·have := (hf.2.2.1 (.inr e)).1
  rw [txEs_getD zE x.kids 0 (by omega), txEs_getD zE x.kids 1 (by omega)]; simp [tyE, e]
 ·have := (hf.2.1 (.inr e)).1
  rw [txEs_getD zE x.kids 0 (by omega)]; simp [tyE, e]
theorem dig_len (n : Int) (h : 0 ≤ n ∧ n ≤ 9) : (dig n).length = 1 := by
 unfold dig
 rw [Lib.decDigits_one (by omega)]; rfl
theorem szL2 (f : GExpr → Nat) (z : GExpr) (xs : List GExpr) (h : xs.length = 2) : szL f xs = f (xs.getD 0 z) + f (xs.getD 1 z) := by
 match xs, h with
 | [a, b], _ => simp [szL]
theorem szL1 (f : GExpr → Nat) (z : GExpr) (xs : List GExpr) (h : xs.length = 1) : szL f xs = f (xs.getD 0 z) := by
 match xs, h with
 | [a], _ => simp [szL]
theorem txE_len : ∀ (N : Nat) (x : GExpr), msz x < N → goodT x = true → (txE x).length ≤ 5 * nodesE x
 | 0, x, h, _ => by omega
 | N + 1, x, hN, h => by
  have hf := goodT_facts x h
  have ht := txE_facts x h
  have hn := nodesE_eq x
  rcases hf.2.2.2 with e | e | e | e | e | e | e | e
  ·rw [ht.1 e]; simp; omega
  ·rw [ht.2.1 e]; simp; omega
  ·rw [ht.2.2.1 e]; have := dig_len _ (hf.1 (.inl e)); simp; omega
  ·rw [ht.2.2.2.1 e]; have := dig_len _ (hf.1 (.inr e)); simp; omega
  ·rw [ht.2.2.2.2.1 e]
   obtain ⟨hl, h0⟩ := hf.2.1 (.inl e)
   have i0 := txE_len N _ (by have := h0.2; omega) h0.1
   rw [szL1 _ zE _ hl] at hn
   simp only [List.length_cons]; omega
  ·rw [ht.2.2.2.2.2.1 e]
   obtain ⟨hl, h0, h1⟩ := hf.2.2.1 (.inl e)
   have i0 := txE_len N _ (by have := h0.2; omega) h0.1
   have i1 := txE_len N _ (by have := h1.2; omega) h1.1
   rw [szL2 _ zE _ hl] at hn
   simp only [List.length_append, List.length_cons, List.length_nil]; omega
  ·rw [ht.2.2.2.2.2.2.1 e]
   obtain ⟨hl, h0, h1⟩ := hf.2.2.1 (.inr e)
   have i0 := txE_len N _ (by have := h0.2; omega) h0.1
   have i1 := txE_len N _ (by have := h1.2; omega) h1.1
   rw [szL2 _ zE _ hl] at hn
   simp only [List.length_append, List.length_cons, List.length_nil]; omega
  ·rw [ht.2.2.2.2.2.2.2 e]
   obtain ⟨hl, h0⟩ := hf.2.1 (.inr e)
   have i0 := txE_len N _ (by have := h0.2; omega) h0.1
   rw [szL1 _ zE _ hl] at hn
   simp only [List.length_append, List.length_cons, List.length_nil]; omega
theorem rd_expr {w : World} {S : Nat → Prop} {x : GExpr} {cs : List Value} (h : Rd w S x.toD cs) : ∃ a cap, cs = [.int .i64 x.kind, .int .i64 x.num, .slice a x.kids.length cap] ∧
  (x.kids = [] ∨ ∃ b o, a = some ⟨b, o, none⟩ ∧ S b ∧ RdRow w S (x.kids.map GExpr.toD) b o) := by
 cases x with
 | mk k n ks =>
  simp only [GExpr.toD, Rd, RdAgg] at h
  obtain ⟨v0, r0, rfl, ⟨h0, _⟩, v1, r1, rfl, ⟨h1, _⟩, v2, r2, rfl, ⟨a, cap, h2, _, _, _, h3⟩, rfl⟩ := h
  simp only [List.cons.injEq, and_true] at h0 h1 h2
  subst h0 h1 h2
  rw [GExpr.toDs_eq] at *
  refine ⟨a, cap, by simp, h3.imp (fun h => by simpa using h) id⟩
theorem rd_kid {w : World} {S : Nat → Prop} {x : GExpr} {b o : Nat} (h : RdRow w S (x.kids.map GExpr.toD) b o) (i : Nat) (hi : i < x.kids.length) :
  ∃ c0 c1 c2, Rd w S (x.kids.getD i zE).toD [c0, c1, c2] ∧ CellsAt w b (o + 3 * i) [c0, c1, c2] := by
 obtain ⟨cs, h1, h2, h3⟩ := RdRow.at_ (n := 3) _ b o h (fun d hd => by
  obtain ⟨y, _, rfl⟩ := List.mem_map.1 hd
  cases y; rfl) i (x.kids.getD i zE).toD (by simp [List.getElem?_map, List.getD_eq_getElem?_getD, List.getElem?_eq_getElem hi])
 match cs, h1 with
 | [c0, c1, c2], _ => exact ⟨c0, c1, c2, h2, by rw [Nat.mul_comm]; exact h3⟩
theorem writeExpr_ok (B b : Nat) (S : Nat → Prop) (hS : ∀ k, S k → k < B) : ∀ (N : Nat) (x : GExpr), msz x < N → goodT x = true → ∀ (l : List UInt8) (w : World) (cs : List Value), IsB B b l w → B ≤ w.heap.size →
  l.length + (txE x).length ≤ 140737488355328 → Rd w S x.toD cs → WrC B b (.agg cs.toArray) l (txE x) w
 | 0, x, h, _ => by omega
 | N + 1, x, hN, h => by
  intro l w cs hI hB hl hr
  have hf := goodT_facts x h
  have ht := txE_facts x h
  obtain ⟨a, cap, rfl, hk⟩ := rd_expr hr
  have kid : ∀ i, i < x.kids.length → goodTK x i → ∃ kb ko c0 c1 c2, a = some ⟨kb, ko, none⟩ ∧ (∀ j, j ≠ i → True) ∧ (∀ w1, Below B w w1 → ∀ j v, [c0, c1, c2][j]? = some v → w1.cell? ⟨kb, ko + 3 * i + j, none⟩ = some v) ∧
    (∀ w1 l1, Below B w w1 → IsB B b l1 w1 → B ≤ w1.heap.size → l1.length + (txE (x.kids.getD i zE)).length ≤ 140737488355328 → WrC B b (.agg #[c0, c1, c2]) l1 (txE (x.kids.getD i zE)) w1) := by
   intro i hi hg
   rcases hk with hk | ⟨kb, ko, rfl, hSk, hrow⟩
   ·rw [hk] at hi; simp at hi
   ·obtain ⟨c0, c1, c2, h1, h2⟩ := rd_kid hrow i hi
    refine ⟨kb, ko, c0, c1, c2, rfl, fun _ _ => trivial, fun w1 hw j v hj => ?_, fun w1 l1 hw hI1 hB1 hl1 => ?_⟩
    ·exact h2.keep (hw.block kb (hS kb hSk)) j v hj
    ·exact writeExpr_ok B b S hS N _ (by have := hg.2; omega) hg.1 l1 w1 [c0, c1, c2] hI1 hB1 hl1 (h1.keep (fun _ h => h) (fun k hk => hw.block k (hS k hk)))
  rcases hf.2.2.2 with e | e | e | e | e | e | e | e
  ·rw [ht.1 e] at hl ⊢; rw [e]; exact we1 B b l _ _ w hI hl hB
  ·rw [ht.2.1 e] at hl ⊢; rw [e]; exact we2 B b l _ _ w hI hl hB
  ·have hn := hf.1 (.inl e)
   rw [ht.2.2.1 e] at hl ⊢; rw [e, show x.num = ((x.num.toNat : Nat) : Int) by omega]; exact we3 B b l _ (by omega) _ w hI (by simpa [dig] using hl) hB
  ·have hn := hf.1 (.inr e)
   rw [ht.2.2.2.1 e] at hl ⊢; rw [e, show x.num = ((x.num.toNat : Nat) : Int) by omega]; exact we4 B b l _ (by omega) _ w hI (by simpa [dig] using hl) hB
  ·obtain ⟨hn, h0⟩ := hf.2.1 (.inl e)
   obtain ⟨kb, ko, c0, c1, c2, rfl, _, q1, q2⟩ := kid 0 (by omega) h0
   rw [ht.2.2.2.2.1 e] at hl ⊢; rw [e, hn]; exact we5 B b l _ _ kb ko cap c0 c1 c2 w hI (by simpa using hl) hB q1 q2
  ·obtain ⟨hn, h0, h1⟩ := hf.2.2.1 (.inl e)
   obtain ⟨kb, ko, c0, c1, c2, rfl, _, q1, q2⟩ := kid 0 (by omega) h0
   obtain ⟨kb', ko', d0, d1, d2, eq, _, p1, p2⟩ := kid 1 (by omega) h1
   cases eq
   rw [ht.2.2.2.2.2.1 e] at hl ⊢; rw [e, hn]; exact we6 B b l _ _ _ kb ko cap c0 c1 c2 d0 d1 d2 w hI (by simp at hl ⊢; omega) hB q1 q2 p1 p2
  ·obtain ⟨hn, h0, h1⟩ := hf.2.2.1 (.inr e)
   obtain ⟨kb, ko, c0, c1, c2, rfl, _, q1, q2⟩ := kid 0 (by omega) h0
   obtain ⟨kb', ko', d0, d1, d2, eq, _, p1, p2⟩ := kid 1 (by omega) h1
   cases eq
   rw [ht.2.2.2.2.2.2.1 e] at hl ⊢; rw [e, hn]; exact we7 B b l _ _ _ kb ko cap c0 c1 c2 d0 d1 d2 w hI (by simp at hl ⊢; omega) hB q1 q2 p1 p2
  ·obtain ⟨hn, h0⟩ := hf.2.1 (.inr e)
   obtain ⟨kb, ko, c0, c1, c2, rfl, _, q1, q2⟩ := kid 0 (by omega) h0
   rw [ht.2.2.2.2.2.2.2 e] at hl ⊢; rw [e, hn]; exact we8 B b l _ _ kb ko cap c0 c1 c2 w hI (by simpa using hl) hB q1 q2
def k_impl_textOf : Ctr := ⟨n_impl_textOf, [.v (.st .expr)], fun (x : GExpr) => ⟨(some (goodT x = true ∧ (txE x).length ≤ 1000000), [⟨.str, txE x⟩])⟩⟩
set_option maxRecDepth 100000 in
theorem textOf_walk (x : GExpr) (w : World) (S : Nat → Prop) (hS : ∀ b, S b → b < w.heap.size) (hg : goodT x = true) (hl : (txE x).length ≤ 1000000) (cs : List Value) (hr : Rd w S x.toD cs) :
  Calls Tryd.prog 28 #[.agg cs.toArray] w fun e w' => e = .returned (.string ⟨(txE x).toArray⟩) ∧ Below w.heap.size w w' := by
 obtain ⟨a, cap, rfl, hk⟩ := rd_expr hr
 have hI : ∀ o : Obj, IsB (w.heap.size + 1) (w.heap.size + 1) [] ((w.alloc o).alloc (.cells #[.pointer none, .slice none 0 0] 74)) := fun o => by
  have := Lib.fresh_isBuilder 74 5 (w.alloc o)
  rw [show (w.alloc o).heap.size = w.heap.size + 1 by simp] at this
  exact this
 have hB : ∀ o p : Obj, w.heap.size + 1 ≤ ((w.alloc o).alloc p).heap.size := fun o p => by simp
 have hw : ∀ o p : Obj, Below w.heap.size w ((w.alloc o).alloc p) := fun o p => ((Below.refl _ w).alloc (Nat.le_refl _) o).alloc (by simp) p
 go_enter Tryd.func28, Tryd.ntmps28
 go_wp2_with (go_at_call 41; refine (writeExpr_ok (w.heap.size + 1) (w.heap.size + 1) S (fun k hk => Nat.lt_succ_of_lt (hS k hk)) (msz x + 1) x (Nat.lt_succ_self _) hg [] _ _ (hI _) (hB _ _) (by simp; omega) (hr.keep (fun _ h => h) (fun k hk => (hw _ _).block k (hS k hk)))).mono ?_)
 rintro e w1 ⟨he, h1⟩; subst he
 have b1 : Below w.heap.size w w1 := (hw _ _).trans (h1.bel.mono (Nat.le_succ _))
 have g1 : IsB (w.heap.size + 1) (w.heap.size + 1) (txE x) w1 := by simpa using h1.isb
 have z1 : w.heap.size + 1 ≤ w1.heap.size := Nat.le_trans (hB _ _) h1.bel.size
 clear h1
 go_wp2_with (go_at_call 42; refine (Tryd.Builder_String_any (w.heap.size + 1) (w.heap.size + 1) (txE x) w1 g1 z1).mono ?_)
 rintro e w2 ⟨he, h2⟩; subst he
 go_wp2
 go_ret
 exact ⟨rfl, b1.trans (h2.mono (Nat.le_succ _))⟩
theorem below_keeps {w w' : World} (h : Below w.heap.size w w') : Keeps (fun _ => False) w w' := ⟨h.os, h.tape, h.output, h.size, fun b hb _ => h.block b hb⟩
theorem rd_str {w : World} {S : Nat → Prop} (l : List UInt8) (h : l.length ≤ 140737488355328) : RdV w S ⟨.str, l⟩ (.string ⟨l.toArray⟩) :=
 ⟨⟨l.toArray⟩, rfl, by simp, by simpa [ByteArray.size] using h⟩
theorem good_impl_textOf : Ctr.Good k_impl_textOf := by
 refine ⟨fnOk_of at_impl_textOf rfl (by decide), ?_⟩
 intro x hp w S vals ⟨hS, _⟩ ha
 match vals, ha with
 | [v], ha =>
  obtain ⟨⟨cs, rfl, hr⟩, _⟩ := ha
  refine (textOf_walk x w S hS hp.1 hp.2 cs hr).mono ?_
  rintro e w' ⟨rfl, hb⟩
  exact ⟨_, S, _, rfl, rfl, below_keeps hb, fun _ _ => Iff.rfl, fun b h => Nat.lt_of_lt_of_le (hS b h) hb.size, rd_str (w := w') (S := S) _ (by have := hp.2; omega)⟩
def tk (x : GExpr) (i : Nat) : GExpr := x.kids.getD i zE
structure TK (x : GExpr) (i : Nat) : Prop where
 good : goodT (x.kids.getD i zE) = true
 less : msz (x.kids.getD i zE) < msz x
 len : (txE (x.kids.getD i zE)).length ≤ (txE x).length
end
end Go.Proofs.YtbphjcgkidlabaaDoor

set_option linter.unusedVariables false
set_option linter.unusedSimpArgs false
set_option linter.unusedSectionVars false
namespace Go.Proofs.YtbphjcgkidlabaaDoor
noncomputable section
abbrev zX : GExpr := GExpr.mk (0 : Int) (0 : Int) []
def tkB (t : List UInt8) (a : Nat) (s : List UInt8) : Bool := decide (s.length ≤ (t.drop a).length) && decide ((t.drop a).take s.length = s)
theorem tkB_yes {t : List UInt8} {a : Nat} {s r : List UInt8} (h : t.drop a = s ++ r) : tkB t a s = true := by
 unfold tkB; rw [h]; simp
theorem tkB_iff (t : List UInt8) (a : Nat) (s : List UInt8) : tkB t a s = true ↔ ∃ r, t.drop a = s ++ r := by
 constructor
 ·intro h
  simp only [tkB, Bool.and_eq_true, decide_eq_true_eq] at h
  refine ⟨(t.drop a).drop s.length, ?_⟩
  conv => rhs; lhs; rw [← h.2]
  rw [List.take_append_drop]
 ·rintro ⟨r, h⟩; exact tkB_yes h
theorem tkB_ne {t : List UInt8} {a : Nat} {b c : UInt8} {r : List UInt8} (h : t.drop a = b :: r) (hn : b ≠ c) (s : List UInt8) : tkB t a (c :: s) = false := by
 cases e : tkB t a (c :: s) with
 | false => rfl
 | true =>
  obtain ⟨r', h'⟩ := (tkB_iff _ _ _).1 e
  rw [h] at h'
  simp only [List.cons_append, List.cons.injEq] at h'
  exact absurd h'.1 hn
def cnt (c : UInt8) : List UInt8 → Nat
 | [] => 0
 | b :: l => if b = c then cnt c l + 1 else 0
def noB (c : UInt8) (r : List UInt8) : Prop := ∀ b l, r = b :: l → b ≠ c
theorem cnt_rep (c : UInt8) (r : List UInt8) (h : noB c r) : ∀ n, cnt c (List.replicate n c ++ r) = n
 | 0 => by
  cases r with
  | nil => rfl
  | cons b l => simp [cnt, h b l rfl]
 | n + 1 => by simp [List.replicate_succ, cnt, cnt_rep c r h n]
theorem drop_app {t w r : List UInt8} {a : Nat} (h : t.drop a = w ++ r) : t.drop (a + w.length) = r := by
 rw [← List.drop_drop, h]; simp
structure RI where
 e : GExpr
 ok : Bool
 a : Nat
def wrapN (k : Int) : Nat → GExpr → GExpr
 | 0, e => e
 | n + 1, e => wrapN k n (GExpr.mk k 0 [e])
theorem wrapN_succ (k : Int) : ∀ (n : Nat) (e : GExpr), wrapN k (n + 1) e = GExpr.mk k 0 [wrapN k n e]
 | 0, e => rfl
 | n + 1, e => by
  show wrapN k (n + 1) (GExpr.mk k 0 [e]) = _
  rw [wrapN_succ k n (GExpr.mk k 0 [e])]; rfl
def exprI (core : Nat → RI) (t : List UInt8) (a : Nat) : RI :=
 if 40 < cnt 126 (t.drop a) then ⟨zX, false, a + cnt 126 (t.drop a)⟩ else
 if 41 < cnt 42 (t.drop (core (a + cnt 126 (t.drop a))).a) then ⟨zX, false, (core (a + cnt 126 (t.drop a))).a + 42⟩ else
 ⟨wrapN 8 (cnt 42 (t.drop (core (a + cnt 126 (t.drop a))).a)) (wrapN 5 (cnt 126 (t.drop a)) (core (a + cnt 126 (t.drop a))).e), (core (a + cnt 126 (t.drop a))).ok, (core (a + cnt 126 (t.drop a))).a + cnt 42 (t.drop (core (a + cnt 126 (t.drop a))).a)⟩
def digB (t : List UInt8) (a : Nat) : Bool := decide (a < t.length) && decide (48 ≤ (t.getD a 0).toNat) && decide ((t.getD a 0).toNat ≤ 57)
def leafI (k : Int) (t : List UInt8) (a : Nat) : RI := bif digB t a then ⟨GExpr.mk k (((t.getD a 0).toNat : Int) - 48) [], true, a + 1⟩ else ⟨GExpr.mk k 0 [], false, a⟩
def pairI (k : Int) (t : List UInt8) (x y : RI) : RI := bif x.ok && y.ok && tkB t y.a [41] then ⟨GExpr.mk k 0 [x.e, y.e], true, y.a + 1⟩ else ⟨GExpr.mk k 0 [x.e, y.e], false, y.a⟩
def coreI (t : List UInt8) : Nat → Nat → RI
 | 0, a => ⟨zX, false, a⟩
 | d + 1, a => if tkB t a [48] = true then ⟨GExpr.mk 1 0 [], true, a + 1⟩ else if tkB t a [49] = true then ⟨GExpr.mk 2 0 [], true, a + 1⟩ else
  if tkB t a [116] = true then leafI 3 t (a + 1) else if tkB t a [97] = true then leafI 4 t (a + 1) else if tkB t a [40] = false then ⟨zX, false, a⟩ else
  if tkB t (exprI (coreI t d) t (a + 1)).a [32, 43, 32] = true then pairI 6 t (exprI (coreI t d) t (a + 1)) (exprI (coreI t d) t ((exprI (coreI t d) t (a + 1)).a + 3)) else
  if tkB t (exprI (coreI t d) t (a + 1)).a [32] = true then pairI 7 t (exprI (coreI t d) t (a + 1)) (exprI (coreI t d) t ((exprI (coreI t d) t (a + 1)).a + 1)) else
  ⟨zX, false, (exprI (coreI t d) t (a + 1)).a⟩
def coreK (k : Int) : Prop := k = 1 ∨ k = 2 ∨ k = 3 ∨ k = 4 ∨ k = 6 ∨ k = 7
theorem good_num (x : GExpr) (h : goodT x = true) (e : ¬ x.kind = 3) (e' : ¬ x.kind = 4) : x.num = 0 := by
 simp only [goodT] at h
 rw [treeE_eq, headE_eq] at h
 simp only [Bool.and_eq_true, decide_eq_true_eq] at h
 have := h.1.1.2
 rw [numOk, if_neg e, if_neg e'] at this
 simpa using this
theorem good_leaf (x : GExpr) (h : goodT x = true) (e : x.kind = 1 ∨ x.kind = 2 ∨ x.kind = 3 ∨ x.kind = 4) : x.kids = [] := by
 simp only [goodT] at h
 rw [treeE_eq, headE_eq] at h
 simp only [Bool.and_eq_true, decide_eq_true_eq] at h
 have h1 := h.1.1.1
 have : x.kids.length = 0 := by rcases e with e | e | e | e <;> rw [e] at h1 <;> simp [kidsN] at h1 <;> omega
 exact List.eq_nil_of_length_eq_zero this
theorem good_not (x : GExpr) (h : goodT x = true) (e : x.kind = 5) : condE (x.kids.getD 0 zE) = true := by
 simp only [goodT] at h
 rw [treeE_eq, headE_eq] at h
 simp only [Bool.and_eq_true, decide_eq_true_eq] at h
 have := h.1.2
 simpa [e] using this
theorem one_kid (x : GExpr) (h : x.kids.length = 1) : x.kids = [x.kids.getD 0 zE] := by
 cases x with
 | mk k n ks =>
  match ks, h with
  | [a], _ => rfl
theorem two_kids (x : GExpr) (h : x.kids.length = 2) : x.kids = [x.kids.getD 0 zE, x.kids.getD 1 zE] := by
 cases x with
 | mk k n ks =>
  match ks, h with
  | [a, b], _ => rfl
theorem expr_eta (x : GExpr) (k n : Int) (ks : List GExpr) (h1 : x.kind = k) (h2 : x.num = n) (h3 : x.kids = ks) : x = GExpr.mk k n ks := by
 cases x; simp at h1 h2 h3; simp [h1, h2, h3]
theorem peel : ∀ (N : Nat) (x : GExpr), msz x < N → goodT x = true → ∃ m n c, x = wrapN 8 m (wrapN 5 n c) ∧ goodT c = true ∧ coreK c.kind ∧ msz c ≤ msz x ∧ depthE c + m + n = depthE x ∧
  txE x = List.replicate n 126 ++ (txE c ++ List.replicate m 42)
 | 0, x, h, _ => by omega
 | N + 1, x, hN, h => by
  have hf := goodT_facts x h
  have ht := txE_facts x h
  by_cases h8 : x.kind = 8
  ·obtain ⟨hl, hk⟩ := hf.2.1 (.inr h8)
   obtain ⟨m, n, c, e1, e2, e3, e4, e5, e6⟩ := peel N _ (by have := hk.2; omega) hk.1
   have hx : x = GExpr.mk 8 0 [x.kids.getD 0 zE] := expr_eta x 8 0 _ h8 (good_num x h (by omega) (by omega)) (one_kid x hl)
   refine ⟨m + 1, n, c, ?_, e2, e3, by have := hk.2; omega, ?_, ?_⟩
   ·rw [wrapN_succ, ← e1]; exact hx
   ·rw [depthE_eq x, one_kid x hl]; simp only [maxL]; omega
   ·rw [ht.2.2.2.2.2.2.2 h8, e6, List.replicate_succ']; simp
  ·by_cases h5 : x.kind = 5
   ·obtain ⟨hl, hk⟩ := hf.2.1 (.inl h5)
    obtain ⟨m, n, c, e1, e2, e3, e4, e5, e6⟩ := peel N _ (by have := hk.2; omega) hk.1
    have hx : x = GExpr.mk 5 0 [x.kids.getD 0 zE] := expr_eta x 5 0 _ h5 (good_num x h (by omega) (by omega)) (one_kid x hl)
    have hm : m = 0 := by
     cases m with
     | zero => rfl
     | succ m =>
      have hc := good_not x h h5
      rw [e1, wrapN_succ, condE_eq] at hc
      simp [condK] at hc
    subst hm
    refine ⟨0, n + 1, c, ?_, e2, e3, by have := hk.2; omega, ?_, ?_⟩
    ·show x = wrapN 5 (n + 1) c
     rw [wrapN_succ]
     have e1' : x.kids.getD 0 zE = wrapN 5 n c := e1
     rw [← e1']; exact hx
    ·rw [depthE_eq x, one_kid x hl]; simp only [maxL]; omega
    ·rw [ht.2.2.2.2.1 h5, e6, List.replicate_succ]; simp
   ·exact ⟨0, 0, x, rfl, h, by have := hf.2.2.2; unfold coreK; omega, Nat.le_refl _, by omega, by simp⟩
theorem drop_getD {t : List UInt8} {a : Nat} {b : UInt8} {r : List UInt8} (h : t.drop a = b :: r) : a < t.length ∧ t.getD a 0 = b := by
 have hl : a < t.length := by
  rcases Nat.lt_or_ge a t.length with g | g
  ·exact g
  ·rw [List.drop_eq_nil_of_le g] at h; cases h
 refine ⟨hl, ?_⟩
 rw [List.drop_eq_getElem_cons hl] at h
 simp only [List.cons.injEq] at h
 rw [List.getD_eq_getElem?_getD, List.getElem?_eq_getElem hl, ← h.1]; rfl
theorem first_core (c : GExpr) (h : goodT c = true) (hk : coreK c.kind) : ∃ b l, txE c = b :: l ∧ b ≠ 126 ∧ b ≠ 43 := by
 have ht := txE_facts c h
 rcases hk with e | e | e | e | e | e
 ·exact ⟨_, _, ht.1 e, by decide, by decide⟩
 ·exact ⟨_, _, ht.2.1 e, by decide, by decide⟩
 ·exact ⟨_, _, ht.2.2.1 e, by decide, by decide⟩
 ·exact ⟨_, _, ht.2.2.2.1 e, by decide, by decide⟩
 ·exact ⟨_, _, ht.2.2.2.2.2.1 e, by decide, by decide⟩
 ·exact ⟨_, _, ht.2.2.2.2.2.2.1 e, by decide, by decide⟩
theorem first_any (x : GExpr) (h : goodT x = true) : ∃ b l, txE x = b :: l ∧ b ≠ 43 := by
 obtain ⟨m, n, c, _, h2, h3, _, _, h6⟩ := peel (msz x + 1) x (Nat.lt_succ_self _) h
 obtain ⟨b, l, g1, _, g3⟩ := first_core c h2 h3
 cases n with
 | zero => exact ⟨b, _, by rw [h6, g1]; rfl, g3⟩
 | succ n => exact ⟨126, _, by rw [h6, List.replicate_succ]; rfl, by decide⟩
theorem exprI_of (core : Nat → RI) (t : List UInt8) (a : Nat) (r : List UInt8) (x c : GExpr) (m n : Nat) (hx : x = wrapN 8 m (wrapN 5 n c)) (hc : goodT c = true) (hk : coreK c.kind)
  (htx : txE x = List.replicate n 126 ++ (txE c ++ List.replicate m 42)) (hm : m ≤ 40) (hn : n ≤ 40) (hr : noB 42 r) (hd : t.drop a = txE x ++ r)
  (hcore : ∀ r', t.drop (a + n) = txE c ++ r' → core (a + n) = ⟨c, true, a + n + (txE c).length⟩) : exprI core t a = ⟨x, true, a + (txE x).length⟩ := by
 obtain ⟨b, l, g1, g2, _⟩ := first_core c hc hk
 have hd1 : t.drop a = List.replicate n 126 ++ (txE c ++ (List.replicate m 42 ++ r)) := by rw [hd, htx]; simp
 have hd2 : t.drop (a + n) = txE c ++ (List.replicate m 42 ++ r) := by
  have := drop_app hd1
  simpa using this
 have hd3 := drop_app hd2
 have hn1 : cnt 126 (t.drop a) = n := by
  rw [hd1]
  refine cnt_rep 126 _ ?_ n
  intro b' l' e
  rw [g1] at e
  simp only [List.cons_append, List.cons.injEq] at e
  rw [← e.1]; exact g2
 have hm1 : cnt 42 (t.drop (a + n + (txE c).length)) = m := by rw [hd3]; exact cnt_rep 42 r hr m
 have hcr := hcore _ hd2
 unfold exprI
 rw [hn1, hcr]
 simp only [hm1]
 rw [if_neg (by omega), if_neg (by omega), ← hx]
 have : (txE x).length = n + ((txE c).length + m) := by rw [htx]; simp
 simp only [RI.mk.injEq, true_and]
 omega
theorem coreI_ok : ∀ (N : Nat) (c : GExpr), msz c < N → goodT c = true → coreK c.kind → ∀ (t : List UInt8) (d a : Nat) (r : List UInt8), depthE c ≤ d → depthE c ≤ 40 → t.drop a = txE c ++ r → coreI t d a = ⟨c, true, a + (txE c).length⟩
 | 0, c, h, _, _ => by omega
 | N + 1, c, hN, h, hk => by
  intro t d a r hd h40 ht
  have hf := goodT_facts c h
  have hx := txE_facts c h
  have hdp := depthE_eq c
  obtain ⟨d, rfl⟩ : ∃ d', d = d' + 1 := ⟨d - 1, by omega⟩
  have kid : ∀ i, i < c.kids.length → goodTK c i → ∀ (a : Nat) (r : List UInt8), noB 42 r → t.drop a = txE (c.kids.getD i zE) ++ r →
    exprI (coreI t d) t a = ⟨c.kids.getD i zE, true, a + (txE (c.kids.getD i zE)).length⟩ := by
   intro i hi hg a r hr hda
   obtain ⟨m, n, c', e1, e2, e3, e4, e5, e6⟩ := peel _ _ (Nat.lt_succ_self _) hg.1
   have hdk := maxL_getD depthE zE c.kids i hi
   exact exprI_of (coreI t d) t a r _ c' m n e1 e2 e3 e6 (by omega) (by omega) hr hda (fun r' hr' => coreI_ok N c' (by have := hg.2; omega) e2 e3 t d (a + n) r' (by omega) (by omega) hr')
  rcases hk with e | e | e | e | e | e
  ·rw [hx.1 e] at ht ⊢
   have hc := expr_eta c 1 0 [] e (good_num c h (by omega) (by omega)) (good_leaf c h (by omega))
   rw [coreI, if_pos (tkB_yes (s := [48]) ht), ← hc]; rfl
  ·rw [hx.2.1 e] at ht ⊢
   have hc := expr_eta c 2 0 [] e (good_num c h (by omega) (by omega)) (good_leaf c h (by omega))
   rw [coreI, if_neg (by rw [tkB_ne (b := 49) ht (by decide)]; decide), if_pos (tkB_yes (s := [49]) ht), ← hc]; rfl
  ·have hn := hf.1 (.inl e)
   have hg : dig c.num = [UInt8.ofNat (48 + c.num.toNat)] := by unfold dig; rw [Lib.decDigits_one (by omega)]
   rw [hx.2.2.1 e, hg] at ht ⊢
   have h2 : t.drop (a + 1) = UInt8.ofNat (48 + c.num.toNat) :: r := drop_app (w := [116]) ht
   obtain ⟨g1, g2⟩ := drop_getD h2
   have hb : (UInt8.ofNat (48 + c.num.toNat)).toNat = 48 + c.num.toNat := by rw [UInt8.toNat_ofNat']; omega
   rw [coreI, if_neg (by rw [tkB_ne (b := 116) ht (by decide)]; decide), if_neg (by rw [tkB_ne (b := 116) ht (by decide)]; decide), if_pos (tkB_yes (s := [116]) ht)]
   have hdb : digB t (a + 1) = true := by unfold digB; rw [g2, hb, decide_eq_true g1, decide_eq_true (by omega), decide_eq_true (by omega)]; rfl
   unfold leafI
   rw [hdb, g2, hb]
   have hc := expr_eta c 3 c.num [] e rfl (good_leaf c h (by omega))
   rw [show (((48 + c.num.toNat : Nat) : Int) - 48) = c.num by omega, ← hc]; rfl
  ·have hn := hf.1 (.inr e)
   have hg : dig c.num = [UInt8.ofNat (48 + c.num.toNat)] := by unfold dig; rw [Lib.decDigits_one (by omega)]
   rw [hx.2.2.2.1 e, hg] at ht ⊢
   have h2 : t.drop (a + 1) = UInt8.ofNat (48 + c.num.toNat) :: r := drop_app (w := [97]) ht
   obtain ⟨g1, g2⟩ := drop_getD h2
   have hb : (UInt8.ofNat (48 + c.num.toNat)).toNat = 48 + c.num.toNat := by rw [UInt8.toNat_ofNat']; omega
   rw [coreI, if_neg (by rw [tkB_ne (b := 97) ht (by decide)]; decide), if_neg (by rw [tkB_ne (b := 97) ht (by decide)]; decide), if_neg (by rw [tkB_ne (b := 97) ht (by decide)]; decide), if_pos (tkB_yes (s := [97]) ht)]
   have hdb : digB t (a + 1) = true := by unfold digB; rw [g2, hb, decide_eq_true g1, decide_eq_true (by omega), decide_eq_true (by omega)]; rfl
   unfold leafI
   rw [hdb, g2, hb]
   have hc := expr_eta c 4 c.num [] e rfl (good_leaf c h (by omega))
   rw [show (((48 + c.num.toNat : Nat) : Int) - 48) = c.num by omega, ← hc]; rfl
  ·obtain ⟨hl, k0, k1⟩ := hf.2.2.1 (.inl e)
   have hc := expr_eta c 6 0 _ e (good_num c h (by omega) (by omega)) (two_kids c hl)
   rw [hx.2.2.2.2.2.1 e] at ht ⊢
   have p0 : t.drop a = 40 :: (txE (c.kids.getD 0 zE) ++ ([32, 43, 32] ++ (txE (c.kids.getD 1 zE) ++ ([41] ++ r)))) := by rw [ht]; simp
   have p1 : t.drop (a + 1) = txE (c.kids.getD 0 zE) ++ ([32, 43, 32] ++ (txE (c.kids.getD 1 zE) ++ ([41] ++ r))) := drop_app (w := [40]) p0
   have q1 := kid 0 (by omega) k0 (a + 1) _ (fun b l g => by simp at g; rw [← g.1]; decide) p1
   have p2 := drop_app p1
   have p3 := drop_app p2
   have q2 := kid 1 (by omega) k1 _ _ (fun b l g => by simp at g; rw [← g.1]; decide) p3
   have p4 := drop_app p3
   rw [coreI, if_neg (by rw [tkB_ne p0 (by decide)]; decide), if_neg (by rw [tkB_ne p0 (by decide)]; decide), if_neg (by rw [tkB_ne p0 (by decide)]; decide), if_neg (by rw [tkB_ne p0 (by decide)]; decide),
    if_neg (by rw [tkB_yes (s := [40]) p0]; decide)]
   rw [q1]
   simp only
   rw [if_pos (tkB_yes p2)]
   have q2' : exprI (coreI t d) t (a + 1 + (txE (c.kids.getD 0 zE)).length + 3) = _ := q2
   rw [q2']
   unfold pairI
   simp only
   rw [show tkB t _ [41] = true from tkB_yes (s := [41]) p4]
   simp only [Bool.and_self, cond_true, RI.mk.injEq, true_and, ← hc]
   simp only [List.length_append, List.length_cons, List.length_nil]; omega
  ·obtain ⟨hl, k0, k1⟩ := hf.2.2.1 (.inr e)
   have hc := expr_eta c 7 0 _ e (good_num c h (by omega) (by omega)) (two_kids c hl)
   rw [hx.2.2.2.2.2.2.1 e] at ht ⊢
   have p0 : t.drop a = 40 :: (txE (c.kids.getD 0 zE) ++ ([32] ++ (txE (c.kids.getD 1 zE) ++ ([41] ++ r)))) := by rw [ht]; simp
   have p1 : t.drop (a + 1) = txE (c.kids.getD 0 zE) ++ ([32] ++ (txE (c.kids.getD 1 zE) ++ ([41] ++ r))) := drop_app (w := [40]) p0
   have q1 := kid 0 (by omega) k0 (a + 1) _ (fun b l g => by simp at g; rw [← g.1]; decide) p1
   have p2 := drop_app p1
   have p3 := drop_app p2
   have q2 := kid 1 (by omega) k1 _ _ (fun b l g => by simp at g; rw [← g.1]; decide) p3
   have p4 := drop_app p3
   have hno : tkB t (a + [40].length + (txE (c.kids.getD 0 zE)).length) [32, 43, 32] = false := by
    cases hb : tkB t (a + [40].length + (txE (c.kids.getD 0 zE)).length) [32, 43, 32] with
    | false => rfl
    | true =>
     obtain ⟨r', h'⟩ := (tkB_iff _ _ _).1 hb
     obtain ⟨b, l, f1, f2⟩ := first_any _ k1.1
     have p2' := p2
     rw [f1] at p2'
     have h3 := p2'.symm.trans h'
     simp only [List.cons_append, List.nil_append, List.cons.injEq, true_and] at h3
     exact absurd h3.1 f2
   rw [coreI, if_neg (by rw [tkB_ne p0 (by decide)]; decide), if_neg (by rw [tkB_ne p0 (by decide)]; decide), if_neg (by rw [tkB_ne p0 (by decide)]; decide), if_neg (by rw [tkB_ne p0 (by decide)]; decide),
    if_neg (by rw [tkB_yes (s := [40]) p0]; decide)]
   rw [q1]
   simp only
   rw [if_neg (by rw [show tkB t (a + 1 + (txE (c.kids.getD 0 zE)).length) [32, 43, 32] = false from hno]; decide), if_pos (tkB_yes p2)]
   have q2' : exprI (coreI t d) t (a + 1 + (txE (c.kids.getD 0 zE)).length + 1) = _ := q2
   rw [q2']
   unfold pairI
   simp only
   rw [show tkB t _ [41] = true from tkB_yes (s := [41]) p4]
   simp only [Bool.and_self, cond_true, RI.mk.injEq, true_and, ← hc]
   simp only [List.length_append, List.length_cons, List.length_nil]; omega
theorem exprI_ok (x : GExpr) (h : goodT x = true) (h40 : depthE x ≤ 40) : exprI (coreI (txE x) 41) (txE x) 0 = ⟨x, true, (txE x).length⟩ := by
 obtain ⟨m, n, c, e1, e2, e3, e4, e5, e6⟩ := peel _ _ (Nat.lt_succ_self _) h
 have := exprI_of (coreI (txE x) 41) (txE x) 0 [] x c m n e1 e2 e3 e6 (by omega) (by omega) (fun b l g => by cases g) (by simp) (fun r' hr' => coreI_ok _ c (Nat.lt_succ_self _) e2 e3 (txE x) 41 (0 + n) r' (by omega) (by omega) hr')
 simpa using this
end
end Go.Proofs.YtbphjcgkidlabaaDoor

set_option linter.unusedVariables false
set_option linter.unusedSimpArgs false
set_option linter.unusedSectionVars false
namespace Go.Proofs.YtbphjcgkidlabaaDoor
noncomputable section
def pkS (t : List UInt8) (a : Nat) : Int := if a < t.length then ((t.getD a 0).toNat : Int) else 0
structure RS where
 e : GExpr
 a : Nat
 dp : Nat
 bad : Bool
def cntD : List UInt8 → Nat
 | [] => 0
 | b :: l => if isDig b = true then cntD l + 1 else 0
def nmS (t : List UInt8) (a : Nat) : List UInt8 := (t.drop (a + 1)).take (cntD (t.drop (a + 1)))
def nameS (t : List UInt8) (a dp : Nat) : RS := ⟨GExpr.mk (if pkS t a = 97 then 4 else 3) (numV 9 (nmS t a)) [], a + 1 + cntD (t.drop (a + 1)), dp, !numB 9 (nmS t a)⟩
def tkA (t : List UInt8) (a : Nat) (c : Int) : Nat := if pkS t a = c then a + 1 else a
def tkX (t : List UInt8) (a : Nat) (c : Int) (bad : Bool) : Bool := if pkS t a = c then bad else true
def starS (t : List UInt8) (r : RS) : RS := if r.bad = true then ⟨r.e, r.a, r.dp - 1, true⟩ else ⟨wrapN 8 (cnt 42 (t.drop r.a)) r.e, r.a + cnt 42 (t.drop r.a), r.dp - 1, false⟩
def exprS (inner : Nat → Nat → RS) (t : List UInt8) (a dp : Nat) (bad : Bool) : RS := if bad = true ∨ 100 < dp + 1 then ⟨zX, a, dp + 1, true⟩ else starS t (inner a (dp + 1))
def pair2 (inner : Nat → Nat → RS) (t : List UInt8) (x : RS) (k : Int) (a : Nat) (bad : Bool) : RS :=
 ⟨GExpr.mk k 0 [x.e, (exprS inner t a x.dp bad).e], tkA t (exprS inner t a x.dp bad).a 41, (exprS inner t a x.dp bad).dp, tkX t (exprS inner t a x.dp bad).a 41 (exprS inner t a x.dp bad).bad⟩
def pairS (inner : Nat → Nat → RS) (t : List UInt8) (x : RS) : RS :=
 if pkS t (tkA t x.a 32) = 43 then pair2 inner t x 6 (tkA t (tkA t x.a 32 + 1) 32) (tkX t (tkA t x.a 32 + 1) 32 (tkX t x.a 32 x.bad)) else pair2 inner t x 7 (tkA t x.a 32) (tkX t x.a 32 x.bad)
def innerS (t : List UInt8) : Nat → Nat → Nat → RS
 | g, a, dp => if pkS t a = 48 then ⟨GExpr.mk 1 0 [], a + 1, dp, false⟩ else if pkS t a = 49 then ⟨GExpr.mk 2 0 [], a + 1, dp, false⟩ else
  if pkS t a = 116 ∨ pkS t a = 97 then nameS t a dp else
  if pkS t a = 126 then (match g with
   | 0 => ⟨zX, a + 1, dp + 1, true⟩
   | g + 1 => ⟨GExpr.mk 5 0 [(innerS t g (a + 1) (dp + 1)).e], (innerS t g (a + 1) (dp + 1)).a, (innerS t g (a + 1) (dp + 1)).dp - 1, (innerS t g (a + 1) (dp + 1)).bad⟩) else
  if pkS t a = 40 then (match g with
   | 0 => pairS (fun _ _ => ⟨zX, 0, 0, true⟩) t (exprS (fun _ _ => ⟨zX, 0, 0, true⟩) t (a + 1) dp false)
   | g + 1 => pairS (innerS t g) t (exprS (innerS t g) t (a + 1) dp false)) else ⟨zX, a, dp, true⟩
theorem pkS_cons {t : List UInt8} {a : Nat} {b : UInt8} {r : List UInt8} (h : t.drop a = b :: r) : pkS t a = (b.toNat : Int) := by
 obtain ⟨h1, h2⟩ := drop_getD h
 unfold pkS; rw [if_pos h1, h2]
theorem pkS_iff (t : List UInt8) (a : Nat) (c : UInt8) (hc : c ≠ 0) (h : pkS t a = (c.toNat : Int)) : ∃ r, t.drop a = c :: r := by
 unfold pkS at h
 split at h
 ·rename_i hl
  refine ⟨t.drop (a + 1), ?_⟩
  rw [List.drop_eq_getElem_cons hl]
  rw [List.getD_eq_getElem?_getD, List.getElem?_eq_getElem hl] at h
  have : t[a] = c := UInt8.toNat_inj.1 (by simpa using Int.ofNat_inj.1 h)
  rw [this]
 ·exfalso
  have : c.toNat = 0 := by omega
  exact hc (UInt8.toNat_inj.1 this)
theorem tk_ok (t : List UInt8) (a : Nat) (c : UInt8) (hc : c ≠ 0) (bad : Bool) (h : tkX t a (c.toNat : Int) bad = false) : bad = false ∧ tkA t a (c.toNat : Int) = a + 1 ∧ ∃ r, t.drop a = c :: r := by
 unfold tkX at h
 unfold tkA
 split at h
 ·rename_i e
  rw [if_pos e]
  exact ⟨h, rfl, pkS_iff t a c hc e⟩
 ·cases h
theorem tk_yes {t : List UInt8} {a : Nat} {c : UInt8} {r : List UInt8} (h : t.drop a = c :: r) (bad : Bool) : tkA t a (c.toNat : Int) = a + 1 ∧ tkX t a (c.toNat : Int) bad = bad := by
 unfold tkA tkX; rw [if_pos (pkS_cons h), if_pos (pkS_cons h)]; exact ⟨rfl, rfl⟩
theorem cnt_take (c : UInt8) : ∀ l : List UInt8, l = List.replicate (cnt c l) c ++ l.drop (cnt c l)
 | [] => rfl
 | b :: l => by
  unfold cnt
  split
  ·rename_i e
   subst e
   rw [List.replicate_succ, List.drop_succ_cons, List.cons_append, ← cnt_take b l]
  ·rfl
structure Snd (t : List UInt8) (a dp : Nat) (r : RS) : Prop where
 ex : r.bad = false → r.dp = dp ∧ ∃ W, t.drop a = W ++ t.drop r.a ∧ (goodT r.e = true → W = txE r.e)
theorem goodT_wrap : ∀ (m : Nat) (e : GExpr), goodT (wrapN 8 m e) = true → goodT e = true ∧ txE (wrapN 8 m e) = txE e ++ List.replicate m 42
 | 0, e, h => ⟨h, by simp [wrapN]⟩
 | m + 1, e, h => by
  rw [wrapN_succ] at h ⊢
  have hk := goodT_kid _ h 0 (by simp)
  have hx := (txE_facts _ h).2.2.2.2.2.2.2 rfl
  obtain ⟨h1, h2⟩ := goodT_wrap m e hk.1
  refine ⟨h1, ?_⟩
  rw [hx]
  show txE (wrapN 8 m e) ++ [42] = _
  rw [h2, List.replicate_succ', List.append_assoc]
theorem star_snd (t : List UInt8) (a dp : Nat) (r : RS) (h : Snd t a (dp + 1) r) : Snd t a dp (starS t r) := by
 refine ⟨fun hb => ?_⟩
 unfold starS at hb ⊢
 cases e : r.bad
 ·rw [e] at hb
  simp only [Bool.false_eq_true, if_false] at hb ⊢
  obtain ⟨h0, W, h1, h2⟩ := h.ex e
  refine ⟨by omega, W ++ List.replicate (cnt 42 (t.drop r.a)) 42, ?_, fun hg => ?_⟩
  ·rw [h1, List.append_assoc]
   congr 1
   rw [← List.drop_drop]; exact cnt_take 42 _
  ·obtain ⟨g1, g2⟩ := goodT_wrap _ _ hg
   rw [g2, h2 g1]
 ·rw [e] at hb; simp at hb
theorem expr_snd (inner : Nat → Nat → RS) (t : List UInt8) (a dp : Nat) (bad : Bool) (h : dp + 1 ≤ 100 → Snd t a (dp + 1) (inner a (dp + 1))) : Snd t a dp (exprS inner t a dp bad) := by
 unfold exprS
 split
 ·exact ⟨fun hb => by cases hb⟩
 ·rename_i hn
  exact star_snd t a dp _ (h (by omega))
theorem expr_bad (inner : Nat → Nat → RS) (t : List UInt8) (a dp : Nat) (bad : Bool) (h : (exprS inner t a dp bad).bad = false) : bad = false := by
 unfold exprS at h
 split at h
 ·cases h
 ·rename_i hn; cases bad <;> simp_all
theorem pair2_snd (inner : Nat → Nat → RS) (t : List UInt8) (a0 dp : Nat) (x : RS) (k : Int) (sep : List UInt8) (hk : (k = 6 ∧ sep = [32, 43, 32]) ∨ (k = 7 ∧ sep = [32])) (a : Nat) (bad : Bool) (hx : Snd t (a0 + 1) dp x)
  (h0 : ∃ r, t.drop a0 = 40 :: r) (hsep : bad = false → x.bad = false ∧ t.drop x.a = sep ++ t.drop a) (hi : dp + 1 ≤ 100 → Snd t a (dp + 1) (inner a (dp + 1))) : Snd t a0 dp (pair2 inner t x k a bad) := by
 refine ⟨fun hb => ?_⟩
 unfold pair2 at hb ⊢
 simp only at hb ⊢
 obtain ⟨h1, h2, r, h3⟩ := tk_ok t _ 41 (by decide) _ hb
 have hb2 := expr_bad inner t a x.dp bad h1
 obtain ⟨hx1, hx2⟩ := hsep hb2
 obtain ⟨wx0, Wx, wx1, wx2⟩ := hx.ex hx1
 rw [wx0] at h1 h2 h3 ⊢
 obtain ⟨wy0, Wy, wy1, wy2⟩ := (expr_snd inner t a dp bad hi).ex h1
 obtain ⟨r0, hr0⟩ := h0
 have hr1 : t.drop (a0 + 1) = r0 := drop_app (w := [40]) hr0
 have h4 : t.drop ((exprS inner t a dp bad).a + 1) = r := drop_app (w := [41]) h3
 have e41 : tkA t (exprS inner t a dp bad).a 41 = (exprS inner t a dp bad).a + 1 := h2
 refine ⟨wy0, [40] ++ (Wx ++ (sep ++ (Wy ++ [41]))), ?_, fun hg => ?_⟩
 ·rw [e41, hr0, h4, ← hr1, wx1, hx2, wy1, h3]; simp
 ·have k0 := goodT_kid _ hg 0 (by simp)
  have k1 := goodT_kid _ hg 1 (by simp)
  rw [wx2 k0.1, wy2 k1.1]
  rcases hk with ⟨rfl, rfl⟩ | ⟨rfl, rfl⟩
  ·exact ((txE_facts _ hg).2.2.2.2.2.1 rfl).symm
  ·exact ((txE_facts _ hg).2.2.2.2.2.2.1 rfl).symm
theorem dig_one (s : List UInt8) (h : numB 9 s = true) (h9 : decV s ≤ 9) : dig (decV s) = s := by
 have h1 := numB_one s h h9
 rw [numB_eq] at h1
 simp only [Bool.and_eq_true, decide_eq_true_eq] at h1
 match s, h1 with
 | [b], h1 =>
  have hd : isDig b = true := by have := h1.2; simpa [allL] using this
  simp only [isDig, Bool.and_eq_true, decide_eq_true_eq] at hd
  have hv : decV [b] = (b.toNat : Int) - 48 := by simp [decV]
  rw [hv] at h9 ⊢
  unfold dig
  rw [Lib.decDigits_one (by omega)]
  congr 1
  apply UInt8.toNat_inj.1
  rw [UInt8.toNat_ofNat']; omega
 | [], h1 => simp at h1
 | _ :: _ :: _, h1 => simp at h1; omega
theorem name_snd (t : List UInt8) (a dp : Nat) (h : pkS t a = 116 ∨ pkS t a = 97) : Snd t a dp (nameS t a dp) := by
 refine ⟨fun hb => ⟨rfl, ?_⟩⟩
 unfold nameS at hb ⊢
 simp only [Bool.not_eq_false'] at hb ⊢
 have hsplit : ∀ c : UInt8, (∃ r, t.drop a = c :: r) → t.drop a = (c :: nmS t a) ++ t.drop (a + 1 + cntD (t.drop (a + 1))) := by
  rintro c ⟨r, hr⟩
  have h1 : t.drop (a + 1) = r := drop_app (w := [c]) hr
  have e : t.drop (a + 1 + cntD (t.drop (a + 1))) = (t.drop (a + 1)).drop (cntD (t.drop (a + 1))) := by rw [List.drop_drop]
  rw [e, hr, h1, List.cons_append]
  unfold nmS
  rw [h1, List.take_append_drop]
 have hv : numV 9 (nmS t a) = decV (nmS t a) := by unfold numV; rw [hb]; rfl
 rcases h with h | h
 ·refine ⟨_, hsplit 116 (pkS_iff t a 116 (by decide) h), fun hg => ?_⟩
  have e : (if pkS t a = 97 then (4 : Int) else 3) = 3 := if_neg (by rw [h]; decide)
  rw [e, hv] at hg ⊢
  have hn := (goodT_facts _ hg).1 (.inl rfl)
  rw [(txE_facts _ hg).2.2.1 rfl]
  show _ = 116 :: dig (decV (nmS t a))
  rw [dig_one _ hb hn.2]
 ·refine ⟨_, hsplit 97 (pkS_iff t a 97 (by decide) h), fun hg => ?_⟩
  have e : (if pkS t a = 97 then (4 : Int) else 3) = 4 := if_pos h
  rw [e, hv] at hg ⊢
  have hn := (goodT_facts _ hg).1 (.inr rfl)
  rw [(txE_facts _ hg).2.2.2.1 rfl]
  show _ = 97 :: dig (decV (nmS t a))
  rw [dig_one _ hb hn.2]
theorem pair_snd (inner : Nat → Nat → RS) (t : List UInt8) (a0 dp : Nat) (x : RS) (hx : Snd t (a0 + 1) dp x) (h0 : ∃ r, t.drop a0 = 40 :: r) (hi : ∀ a, dp + 1 ≤ 100 → Snd t a (dp + 1) (inner a (dp + 1))) : Snd t a0 dp (pairS inner t x) := by
 unfold pairS
 split
 ·rename_i hp
  refine pair2_snd inner t a0 dp x 6 [32, 43, 32] (.inl ⟨rfl, rfl⟩) _ _ hx h0 (fun hb => ?_) (hi _)
  obtain ⟨b1, b2, r1, b3⟩ := tk_ok t _ 32 (by decide) _ hb
  obtain ⟨c1, c2, r2, c3⟩ := tk_ok t _ 32 (by decide) _ b1
  have c2' : tkA t x.a 32 = x.a + 1 := c2
  rw [c2'] at hp b2 b3 ⊢
  have b2' : tkA t (x.a + 1 + 1) 32 = x.a + 1 + 1 + 1 := b2
  obtain ⟨r3, d3⟩ := pkS_iff t (x.a + 1) 43 (by decide) hp
  have e1 : t.drop (x.a + 1) = r2 := drop_app (w := [32]) c3
  have e2 : t.drop (x.a + 1 + 1) = r3 := drop_app (w := [43]) d3
  have e3 : t.drop (x.a + 1 + 1 + 1) = r1 := drop_app (w := [32]) b3
  refine ⟨c1, ?_⟩
  rw [b2', e3, c3, ← e1, d3, ← e2, b3]; rfl
 ·refine pair2_snd inner t a0 dp x 7 [32] (.inr ⟨rfl, rfl⟩) _ _ hx h0 (fun hb => ?_) (hi _)
  obtain ⟨c1, c2, r2, c3⟩ := tk_ok t _ 32 (by decide) _ hb
  have c2' : tkA t x.a 32 = x.a + 1 := c2
  have e1 : t.drop (x.a + 1) = r2 := drop_app (w := [32]) c3
  exact ⟨c1, by rw [c2', e1, c3]; rfl⟩
theorem lit_snd (t : List UInt8) (a dp : Nat) (k : Int) (c : UInt8) (hc : c ≠ 0) (h : pkS t a = (c.toNat : Int)) (he : goodT (GExpr.mk k 0 []) = true → txE (GExpr.mk k 0 []) = [c]) : Snd t a dp ⟨GExpr.mk k 0 [], a + 1, dp, false⟩ := by
 obtain ⟨r, hr⟩ := pkS_iff t a c hc h
 have h1 : t.drop (a + 1) = r := drop_app (w := [c]) hr
 exact ⟨fun _ => ⟨rfl, [c], by rw [h1, hr]; rfl, fun hg => (he hg).symm⟩⟩
theorem inner_snd (t : List UInt8) : ∀ (g a dp : Nat), g + dp = 100 → Snd t a dp (innerS t g a dp)
 | g, a, dp, hgd => by
  have step : ∀ g', g = g' + 1 → ∀ a', Snd t a' (dp + 1) (innerS t g' a' (dp + 1)) := fun g' e a' => inner_snd t g' a' (dp + 1) (by omega)
  unfold innerS
  split
  ·rename_i h; exact lit_snd t a dp 1 48 (by decide) h (fun hg => (txE_facts _ hg).1 rfl)
  ·split
   ·rename_i h; exact lit_snd t a dp 2 49 (by decide) h (fun hg => (txE_facts _ hg).2.1 rfl)
   ·split
    ·rename_i h; exact name_snd t a dp h
    ·split
     ·rename_i h
      obtain ⟨r, hr⟩ := pkS_iff t a 126 (by decide) h
      have h1 : t.drop (a + 1) = r := drop_app (w := [126]) hr
      cases g with
      | zero => exact ⟨fun hb => by cases hb⟩
      | succ g =>
       refine ⟨fun hb => ?_⟩
       obtain ⟨e1, W, e2, e3⟩ := (step g rfl (a + 1)).ex hb
       refine ⟨by show _ - 1 = dp; omega, 126 :: W, ?_, fun hg => ?_⟩
       ·show t.drop a = 126 :: W ++ t.drop (innerS t g (a + 1) (dp + 1)).a
        rw [hr, ← h1, e2]; rfl
       ·have hk := goodT_kid _ hg 0 (by simp)
        rw [(txE_facts _ hg).2.2.2.2.1 rfl]
        show _ = 126 :: txE (innerS t g (a + 1) (dp + 1)).e
        rw [e3 hk.1]
     ·split
      ·rename_i h
       have h0 := pkS_iff t a 40 (by decide) h
       cases g with
       | zero =>
        refine pair_snd _ t a dp _ (expr_snd _ t (a + 1) dp false (fun h => by omega)) h0 (fun a' h => by omega)
       | succ g => exact pair_snd _ t a dp _ (expr_snd _ t (a + 1) dp false (fun _ => step g rfl _)) h0 (fun a' _ => step g rfl a')
      ·exact ⟨fun hb => by cases hb⟩
 termination_by g => g
def okR (r : List UInt8) : Prop := ∀ b l, r = b :: l → b ≠ 42 ∧ isDig b = false
def noD (r : List UInt8) : Prop := ∀ b l, r = b :: l → isDig b = false
theorem cntD_one (b : UInt8) (r : List UInt8) (hb : isDig b = true) (hr : noD r) : cntD (b :: r) = 1 := by
 unfold cntD
 rw [if_pos hb]
 cases r with
 | nil => rfl
 | cons c l => unfold cntD; rw [if_neg (by rw [hr c l rfl]; decide)]
theorem name_ok (t : List UInt8) (a dp : Nat) (c : GExpr) (h : goodT c = true) (e : c.kind = 3 ∨ c.kind = 4) (r : List UInt8) (hr : noD r) (ht : t.drop a = txE c ++ r) : nameS t a dp = ⟨c, a + (txE c).length, dp, false⟩ := by
 have hn := (goodT_facts c h).1 e
 have hx := txE_facts c h
 have hg : dig c.num = [UInt8.ofNat (48 + c.num.toNat)] := by unfold dig; rw [Lib.decDigits_one (by omega)]
 have hb : (UInt8.ofNat (48 + c.num.toNat)).toNat = 48 + c.num.toNat := by rw [UInt8.toNat_ofNat']; omega
 have hd : isDig (UInt8.ofNat (48 + c.num.toNat)) = true := by unfold isDig; rw [hb, decide_eq_true (by omega), decide_eq_true (by omega)]; rfl
 have key : ∀ (w : UInt8), txE c = w :: dig c.num → t.drop (a + 1) = UInt8.ofNat (48 + c.num.toNat) :: r ∧ pkS t a = (w.toNat : Int) ∧ (txE c).length = 2 := by
  intro w e'
  rw [e', hg] at ht
  exact ⟨drop_app (w := [w]) ht, pkS_cons ht, by rw [e', hg]; rfl⟩
 have fin : ∀ (w : UInt8), txE c = w :: dig c.num → (if pkS t a = 97 then (4 : Int) else 3) = c.kind → nameS t a dp = ⟨c, a + (txE c).length, dp, false⟩ := by
  intro w e' ek
  obtain ⟨k1, k2, k3⟩ := key w e'
  have hcn : cntD (t.drop (a + 1)) = 1 := by rw [k1]; exact cntD_one _ _ hd hr
  have hnm : nmS t a = [UInt8.ofNat (48 + c.num.toNat)] := by unfold nmS; rw [hcn, k1]; rfl
  have hv : decV [UInt8.ofNat (48 + c.num.toNat)] = c.num := by simp only [decV, List.foldl_cons, List.foldl_nil, hb]; omega
  have hN : numB 9 [UInt8.ofNat (48 + c.num.toNat)] = true := by rw [numB_eq]; simp only [List.length_cons, List.length_nil, allL, hd]; rfl
  unfold nameS
  rw [hcn, hnm, ek, hN, k3]
  have hnv : numV 9 [UInt8.ofNat (48 + c.num.toNat)] = c.num := by unfold numV; rw [hN, hv]; rfl
  rw [hnv]
  have hc := expr_eta c c.kind c.num [] rfl rfl (good_leaf c h (by omega))
  rw [← hc]; rfl
 rcases e with e | e
 ·exact fin 116 (hx.2.2.1 e) (by rw [(key 116 (hx.2.2.1 e)).2.1, e]; decide)
 ·exact fin 97 (hx.2.2.2.1 e) (by rw [(key 97 (hx.2.2.2.1 e)).2.1, e]; decide)
theorem exprS_of (inner : Nat → Nat → RS) (t : List UInt8) (a dp : Nat) (r : List UInt8) (x c : GExpr) (m n : Nat) (hx : x = wrapN 8 m (wrapN 5 n c))
  (htx : txE x = List.replicate n 126 ++ (txE c ++ List.replicate m 42)) (hdp : dp + 1 ≤ 100) (hr : okR r) (hd : t.drop a = txE x ++ r)
  (hin : ∀ r', noD r' → t.drop a = List.replicate n 126 ++ txE c ++ r' → inner a (dp + 1) = ⟨wrapN 5 n c, a + (n + (txE c).length), dp + 1, false⟩) : exprS inner t a dp false = ⟨x, a + (txE x).length, dp, false⟩ := by
 have hd1 : t.drop a = (List.replicate n 126 ++ txE c) ++ (List.replicate m 42 ++ r) := by rw [hd, htx]; simp
 have hno : noD (List.replicate m 42 ++ r) := by
  intro b l e
  cases m with
  | zero => exact (hr b l e).2
  | succ m =>
   rw [List.replicate_succ, List.cons_append] at e
   simp only [List.cons.injEq] at e
   rw [← e.1]; decide
 have h1 := hin _ hno hd1
 have hd2 := drop_app hd1
 have hl : (List.replicate n 126 ++ txE c).length = n + (txE c).length := by simp
 rw [hl] at hd2
 have hm : cnt 42 (t.drop (a + (n + (txE c).length))) = m := by rw [hd2]; exact cnt_rep 42 r (fun b l e => (hr b l e).1) m
 unfold exprS
 rw [if_neg (by simp; omega), h1]
 unfold starS
 simp only [Bool.false_eq_true, if_false]
 rw [hm, ← hx]
 have : (txE x).length = n + ((txE c).length + m) := by rw [htx]; simp
 simp only [RS.mk.injEq, true_and, and_true]
 omega
theorem innerS_ok : ∀ (N : Nat) (n : Nat) (c : GExpr), msz c + n < N → goodT c = true → coreK c.kind → ∀ (t : List UInt8) (g a dp : Nat) (r : List UInt8), g + dp = 100 → dp + n + 2 * depthE c ≤ 101 → noD r →
  t.drop a = List.replicate n 126 ++ txE c ++ r → innerS t g a dp = ⟨wrapN 5 n c, a + (n + (txE c).length), dp, false⟩
 | 0, n, c, h, _, _ => by omega
 | N + 1, n + 1, c, hN, h, hk => by
  intro t g a dp r hg hd hr ht
  have hdp := depthE_eq c
  obtain ⟨g, rfl⟩ : ∃ g', g = g' + 1 := ⟨g - 1, by omega⟩
  have ht' : t.drop a = 126 :: (List.replicate n 126 ++ txE c ++ r) := by rw [ht, List.replicate_succ]; rfl
  have h1 : t.drop (a + 1) = List.replicate n 126 ++ txE c ++ r := drop_app (w := [126]) ht'
  have ih := innerS_ok N n c (by omega) h hk t g (a + 1) (dp + 1) r (by omega) (by omega) hr h1
  have hp := pkS_cons ht'
  rw [innerS.eq_def]; dsimp only; rw [if_neg (by rw [hp]; decide), if_neg (by rw [hp]; decide), if_neg (by rw [hp]; decide), if_pos (by rw [hp]; decide)]
  simp only [ih, wrapN_succ]
  simp only [RS.mk.injEq, true_and, and_true]
  omega
 | N + 1, 0, c, hN, h, hk => by
  intro t g a dp r hg hd hr ht
  have ht : t.drop a = txE c ++ r := by rw [ht]; rfl
  have hf := goodT_facts c h
  have hx := txE_facts c h
  have hdp := depthE_eq c
  show innerS t g a dp = ⟨c, a + (0 + (txE c).length), dp, false⟩
  rw [Nat.zero_add]
  have kid : ∀ i, i < c.kids.length → goodTK c i → ∀ g', g = g' + 1 → ∀ (a : Nat) (r : List UInt8), okR r → t.drop a = txE (c.kids.getD i zE) ++ r →
    exprS (innerS t g') t a dp false = ⟨c.kids.getD i zE, a + (txE (c.kids.getD i zE)).length, dp, false⟩ := by
   intro i hi hgk g' eg a r hr hda
   obtain ⟨m, n, c', e1, e2, e3, e4, e5, e6⟩ := peel _ _ (Nat.lt_succ_self _) hgk.1
   have hdk := maxL_getD depthE zE c.kids i hi
   have hdc := depthE_eq c'
   have hms : msz c' + n ≤ msz (c.kids.getD i zE) := by
    have w : ∀ (k : Int) (n : Nat) (e : GExpr), msz (wrapN k n e) ≥ msz e + n := by
     intro k n
     induction n with
     | zero => intro e; exact Nat.le_refl _
     | succ n ih =>
      intro e
      have h1 := ih (GExpr.mk k 0 [e])
      have h2 : msz [e] < msz (GExpr.mk k 0 [e]) := msz_kids (GExpr.mk k 0 [e])
      have h3 : msz e < msz [e] := msz_getD e [e] 0 (by simp)
      show msz (wrapN k n (GExpr.mk k 0 [e])) ≥ _
      omega
    have h1 := w 8 m (wrapN 5 n c')
    have h2 := w 5 n c'
    rw [← e1] at h1; omega
   exact exprS_of (innerS t g') t a dp r _ c' m n e1 e6 (by omega) hr hda (fun r' hr' hd' => innerS_ok N n c' (by have := hgk.2; omega) e2 e3 t g' a (dp + 1) r' (by omega) (by omega) hr' hd')
  rcases hk with e | e | e | e | e | e
  ·rw [hx.1 e] at ht ⊢
   have hp := pkS_cons (show t.drop a = 48 :: r from ht)
   have hc := expr_eta c 1 0 [] e (good_num c h (by omega) (by omega)) (good_leaf c h (by omega))
   rw [innerS.eq_def]; dsimp only; rw [if_pos (by rw [hp]; decide), ← hc]; rfl
  ·rw [hx.2.1 e] at ht ⊢
   have hp := pkS_cons (show t.drop a = 49 :: r from ht)
   have hc := expr_eta c 2 0 [] e (good_num c h (by omega) (by omega)) (good_leaf c h (by omega))
   rw [innerS.eq_def]; dsimp only; rw [if_neg (by rw [hp]; decide), if_pos (by rw [hp]; decide), ← hc]; rfl
  ·have hp := pkS_cons (show t.drop a = 116 :: (dig c.num ++ r) by rw [ht, hx.2.2.1 e]; rfl)
   rw [innerS.eq_def]; dsimp only; rw [if_neg (by rw [hp]; decide), if_neg (by rw [hp]; decide), if_pos (by rw [hp]; decide)]
   exact name_ok t a dp c h (.inl e) r hr ht
  ·have hp := pkS_cons (show t.drop a = 97 :: (dig c.num ++ r) by rw [ht, hx.2.2.2.1 e]; rfl)
   rw [innerS.eq_def]; dsimp only; rw [if_neg (by rw [hp]; decide), if_neg (by rw [hp]; decide), if_pos (by rw [hp]; decide)]
   exact name_ok t a dp c h (.inr e) r hr ht
  ·obtain ⟨hl, k0, k1⟩ := hf.2.2.1 (.inl e)
   have hc := expr_eta c 6 0 _ e (good_num c h (by omega) (by omega)) (two_kids c hl)
   have hd0 := maxL_getD depthE zE c.kids 0 (by omega)
   have hd1 := depthE_eq (c.kids.getD 0 zE)
   obtain ⟨g, rfl⟩ : ∃ g', g = g' + 1 := ⟨g - 1, by omega⟩
   rw [hx.2.2.2.2.2.1 e] at ht ⊢
   have p0 : t.drop a = 40 :: (txE (c.kids.getD 0 zE) ++ ([32, 43, 32] ++ (txE (c.kids.getD 1 zE) ++ ([41] ++ r)))) := by rw [ht]; simp
   have p1 : t.drop (a + 1) = txE (c.kids.getD 0 zE) ++ ([32, 43, 32] ++ (txE (c.kids.getD 1 zE) ++ ([41] ++ r))) := drop_app (w := [40]) p0
   have q1 := kid 0 (by omega) k0 g rfl (a + 1) _ (fun b l g => by simp at g; rw [← g.1]; decide) p1
   have p2 := drop_app p1
   have p2a : t.drop (a + 1 + (txE (c.kids.getD 0 zE)).length + 1) = 43 :: (32 :: (txE (c.kids.getD 1 zE) ++ ([41] ++ r))) := drop_app (w := [32]) p2
   have p2b : t.drop (a + 1 + (txE (c.kids.getD 0 zE)).length + 1 + 1) = 32 :: (txE (c.kids.getD 1 zE) ++ ([41] ++ r)) := drop_app (w := [43]) p2a
   have p3 : t.drop (a + 1 + (txE (c.kids.getD 0 zE)).length + 1 + 1 + 1) = txE (c.kids.getD 1 zE) ++ ([41] ++ r) := drop_app (w := [32]) p2b
   have q2 := kid 1 (by omega) k1 g rfl _ _ (fun b l g => by simp at g; rw [← g.1]; decide) p3
   have p4 := drop_app p3
   have hp := pkS_cons p0
   rw [innerS.eq_def]; dsimp only; rw [if_neg (by rw [hp]; decide), if_neg (by rw [hp]; decide), if_neg (by rw [hp]; decide), if_neg (by rw [hp]; decide), if_pos (by rw [hp]; decide)]
   simp only [q1]
   unfold pairS
   have y1 : tkA t (a + 1 + (txE (c.kids.getD 0 zE)).length) 32 = _ := (tk_yes (c := 32) p2 false).1
   have y2 : tkX t (a + 1 + (txE (c.kids.getD 0 zE)).length) 32 false = false := (tk_yes (c := 32) p2 false).2
   have y3 : tkA t (a + 1 + (txE (c.kids.getD 0 zE)).length + 1 + 1) 32 = _ := (tk_yes (c := 32) p2b false).1
   have y4 : tkX t (a + 1 + (txE (c.kids.getD 0 zE)).length + 1 + 1) 32 false = false := (tk_yes (c := 32) p2b false).2
   simp only [y1, y2, y3, y4]
   rw [if_pos (by rw [pkS_cons p2a]; decide)]
   unfold pair2
   simp only [q2]
   have y5 : tkA t _ 41 = _ := (tk_yes (c := 41) p4 false).1
   have y6 : tkX t _ 41 false = false := (tk_yes (c := 41) p4 false).2
   rw [y5, y6, ← hc]
   simp only [RS.mk.injEq, true_and, and_true, List.length_append, List.length_cons, List.length_nil]; omega
  ·obtain ⟨hl, k0, k1⟩ := hf.2.2.1 (.inr e)
   have hc := expr_eta c 7 0 _ e (good_num c h (by omega) (by omega)) (two_kids c hl)
   have hd0 := maxL_getD depthE zE c.kids 0 (by omega)
   have hd1 := depthE_eq (c.kids.getD 0 zE)
   obtain ⟨g, rfl⟩ : ∃ g', g = g' + 1 := ⟨g - 1, by omega⟩
   rw [hx.2.2.2.2.2.2.1 e] at ht ⊢
   have p0 : t.drop a = 40 :: (txE (c.kids.getD 0 zE) ++ ([32] ++ (txE (c.kids.getD 1 zE) ++ ([41] ++ r)))) := by rw [ht]; simp
   have p1 : t.drop (a + 1) = txE (c.kids.getD 0 zE) ++ ([32] ++ (txE (c.kids.getD 1 zE) ++ ([41] ++ r))) := drop_app (w := [40]) p0
   have q1 := kid 0 (by omega) k0 g rfl (a + 1) _ (fun b l g => by simp at g; rw [← g.1]; decide) p1
   have p2 := drop_app p1
   have p3 : t.drop (a + 1 + (txE (c.kids.getD 0 zE)).length + 1) = txE (c.kids.getD 1 zE) ++ ([41] ++ r) := drop_app (w := [32]) p2
   have q2 := kid 1 (by omega) k1 g rfl _ _ (fun b l g => by simp at g; rw [← g.1]; decide) p3
   have p4 := drop_app p3
   obtain ⟨b1, l1, f1, f2⟩ := first_any _ k1.1
   have hp := pkS_cons p0
   rw [innerS.eq_def]; dsimp only; rw [if_neg (by rw [hp]; decide), if_neg (by rw [hp]; decide), if_neg (by rw [hp]; decide), if_neg (by rw [hp]; decide), if_pos (by rw [hp]; decide)]
   simp only [q1]
   unfold pairS
   have y1 : tkA t (a + 1 + (txE (c.kids.getD 0 zE)).length) 32 = _ := (tk_yes (c := 32) p2 false).1
   have y2 : tkX t (a + 1 + (txE (c.kids.getD 0 zE)).length) 32 false = false := (tk_yes (c := 32) p2 false).2
   simp only [y1, y2]
   have hn43 : ¬ pkS t (a + 1 + (txE (c.kids.getD 0 zE)).length + 1) = 43 := by
    have p3' := p3
    rw [f1] at p3'
    rw [pkS_cons p3']
    intro hh
    exact f2 (UInt8.toNat_inj.1 (by simpa using Int.ofNat_inj.1 hh))
   rw [if_neg hn43]
   unfold pair2
   simp only [q2]
   have y5 : tkA t _ 41 = _ := (tk_yes (c := 41) p4 false).1
   have y6 : tkX t _ 41 false = false := (tk_yes (c := 41) p4 false).2
   rw [y5, y6, ← hc]
   simp only [RS.mk.injEq, true_and, and_true, List.length_append, List.length_cons, List.length_nil]; omega
theorem exprS_ok (x : GExpr) (h : goodT x = true) (h40 : depthE x ≤ 40) : exprS (innerS (txE x) 99) (txE x) 0 0 false = ⟨x, (txE x).length, 0, false⟩ := by
 obtain ⟨m, n, c, e1, e2, e3, e4, e5, e6⟩ := peel _ _ (Nat.lt_succ_self _) h
 have := exprS_of (innerS (txE x) 99) (txE x) 0 0 [] x c m n e1 e6 (by omega) (fun b l g => by cases g) (by simp) (fun r' hr' hd' => innerS_ok _ n c (Nat.lt_succ_self _) e2 e3 (txE x) 99 0 (0 + 1) r' (by omega) (by omega) hr' hd')
 simpa using this
theorem isE_goodT (gg : GSig) (x : GExpr) (hg : sigOk gg = true) (h : isE gg x = true) : goodT x = true ∧ depthE x ≤ 40 ∧ (txE x).length ≤ 1000 := by
 rw [isE_iff] at h
 rw [sigOk_iff] at hg
 rw [pred64_of _ (by omega), pred64_of _ (by omega)] at h
 have ht := treeE_mono _ _ 9 9 (by omega) (by omega) x h.1
 have := txE_len (msz x + 1) x (Nat.lt_succ_self _) ht
 exact ⟨ht, h.2.2, by have := h.2.1; omega⟩
def topI (t : List UInt8) : RI := exprI (coreI t 41) t 0
def topS (t : List UInt8) : RS := exprS (innerS t 99) t 0 0 false
def rdOk (gg : GSig) (t : List UInt8) : Bool := (topI t).ok && decide ((topI t).a = t.length) && isE gg (topI t).e && decide (txE (topI t).e = t)
def rdV (gg : GSig) (t : List UInt8) : GExpr := bif rdOk gg t then (topI t).e else zX
theorem rd_spec (gg : GSig) (t : List UInt8) (hg : sigOk gg = true) : (!(topS t).bad && decide ((topS t).a = t.length) && isE gg (topS t).e) = rdOk gg t ∧ (rdOk gg t = true → (topS t).e = rdV gg t) := by
 have up : rdOk gg t = true → topS t = ⟨(topI t).e, t.length, 0, false⟩ := by
  intro h
  simp only [rdOk, Bool.and_eq_true, decide_eq_true_eq] at h
  obtain ⟨h1, h2, _⟩ := isE_goodT gg _ hg h.1.2
  have := exprS_ok _ h1 h2
  rw [h.2] at this
  exact this
 have down : (!(topS t).bad && decide ((topS t).a = t.length) && isE gg (topS t).e) = true → rdOk gg t = true := by
  intro h
  simp only [Bool.and_eq_true, decide_eq_true_eq, Bool.not_eq_true'] at h
  obtain ⟨⟨h1, h2⟩, h3⟩ := h
  obtain ⟨g1, g2, _⟩ := isE_goodT gg _ hg h3
  obtain ⟨_, W, w1, w2⟩ := (expr_snd (innerS t 99) t 0 0 false (fun _ => inner_snd t 99 0 1 rfl)).ex h1
  have w1' : t = W ++ t.drop (topS t).a := w1
  rw [h2, List.drop_length, List.append_nil] at w1'
  have w3 : t = txE (topS t).e := w1'.trans (w2 g1)
  have hi := exprI_ok _ g1 g2
  rw [← w3] at hi
  have hi' : topI t = ⟨(topS t).e, true, t.length⟩ := hi
  unfold rdOk
  rw [hi']
  simp only [h3, ← w3, decide_true, Bool.and_self]
 refine ⟨?_, fun h => ?_⟩
 ·cases hb : rdOk gg t
  ·cases hc : (!(topS t).bad && decide ((topS t).a = t.length) && isE gg (topS t).e)
   ·rfl
   ·rw [down hc] at hb; cases hb
  ·have hu := up hb
   have h3 := hb
   simp only [rdOk, Bool.and_eq_true] at h3
   rw [hu]
   simp only [h3.1.2, decide_true, Bool.and_self, Bool.not_false]
 ·rw [up h]
  unfold rdV
  rw [h]; rfl
end
end Go.Proofs.YtbphjcgkidlabaaDoor

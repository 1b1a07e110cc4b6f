/- Sets of atoms: plain facts. What lies behind the allowed words, as sets. Printed by vmk.py. -/
import Derived.Test.YtcdppmpjplhgkaaVmUse
import Derived.Test.YtcdppmpjplhgkaaVmLib
import Derived.Test.YtcdppmpjplhgkaaVmAllows
import Derived.Test.YtcdppmpjplhgkaaVmProg
import Derived.Test.YtcdppmpjplhgkaaVmLeads
import Derived.Test.YtcdppmpjplhgkaaVmLeads2
import Derived.Test.YtcdppmpjplhgkaaVmLeads3
import Derived.Test.YtcdppmpjplhgkaaVmFrom
set_option linter.unusedVariables false
set_option linter.unusedSimpArgs false
set_option linter.unusedSectionVars false
namespace Go.Proofs.Ytcdppmpjplhgkaa
noncomputable section

/-- A number is in a list. -/
def memP (xs : List Int) (k : Nat) : Bool := decide ((k : Int) ∈ xs)
theorem mem_selN (p : Nat → Bool) (v : Int) : ∀ n, v ∈ selN p n ↔ ∃ k, k < n ∧ v = (k : Int) ∧ p k = true
  | 0 => by simp [selN]
  | n + 1 => by
    rw [selN, List.mem_append, mem_selN p v n]
    constructor
    · rintro (⟨k, h1, h2, h3⟩ | h)
      · exact ⟨k, by omega, h2, h3⟩
      · cases e : p n
        · rw [e] at h; simp at h
        · rw [e] at h; simp at h; exact ⟨n, by omega, h, e⟩
    · rintro ⟨k, h1, h2, h3⟩
      rcases Nat.lt_or_ge k n with h' | h'
      · exact .inl ⟨k, h', h2, h3⟩
      · have : k = n := by omega
        subst this
        exact .inr (by rw [h3]; simp [h2])
theorem memP_selN (p : Nat → Bool) (n k : Nat) (h : k < n) : memP (selN p n) k = p k := by
  unfold memP
  cases e : p k
  · rw [decide_eq_false_iff_not, mem_selN]
    rintro ⟨j, h1, h2, h3⟩
    have : k = j := by omega
    subst this
    rw [e] at h3; cases h3
  · rw [decide_eq_true_eq, mem_selN]
    exact ⟨k, h, rfl, e⟩
/-- A set of the first numbers, as a rising list. -/
structure isSet (n : Int) (xs : List Int) : Prop where
  eq : xs = selN (memP xs) n.toNat
theorem isSet_selN (n : Int) (p : Nat → Bool) : isSet n (selN p n.toNat) := ⟨selN_congr _ _ _ fun k hk => (memP_selN p _ k hk).symm⟩
theorem isSet_len (n : Int) (xs : List Int) (h : isSet n xs) : xs.length ≤ n.toNat := by rw [h.eq]; exact selN_len _ _
theorem isSet_in (n : Int) (xs : List Int) (h : isSet n xs) (i : Nat) (hi : i < xs.length) : 0 ≤ xs.getD i 0 ∧ xs.getD i 0 < n := by
  have hm : xs.getD i 0 ∈ xs := by simp [List.getD, hi]
  have h2 : xs.getD i 0 ∈ selN (memP xs) n.toNat := h.eq ▸ hm
  rw [mem_selN] at h2
  obtain ⟨k, h1, h3, _⟩ := h2
  omega
theorem isSet_nil (n : Int) : isSet n [] := ⟨by
  have : ∀ m, selN (memP []) m = [] := by
    intro m
    induction m with
    | zero => rfl
    | succ m ih => simp [selN, ih, memP]
  exact (this _).symm⟩
theorem selN_all (p : Nat → Bool) (n : Nat) : allL (ltP (n : Int)) (selN p n) = true := by
  have : ∀ xs : List Int, (∀ x ∈ xs, x < (n : Int)) → allL (ltP (n : Int)) xs = true := by
    intro xs
    induction xs with
    | nil => intro _; rfl
    | cons x xs ih => intro h; simp only [allL, ltP, Bool.and_eq_true, decide_eq_true_eq]; exact ⟨h x (by simp), ih fun y hy => h y (by simp [hy])⟩
  refine this _ fun x hx => ?_
  rw [mem_selN] at hx
  obtain ⟨k, h1, h2, _⟩ := hx
  omega
theorem putL_sel (p : Nat → Bool) (v : Nat) : ∀ n, v < n → putL (v : Int) (selN p n) = selN (fun k => p k || decide (v = k)) n
  | n + 1, h => by
    rcases Nat.lt_or_ge v n with h' | h'
    · have ih := putL_sel p v n h'
      have e : (p n || decide (v = n)) = p n := by simp [Nat.ne_of_lt h']
      rw [selN, selN, e, ← ih]
      cases p n
      · simp
      · simp only [cond_true]; exact putL_lt _ _ _ (by omega)
    · have : v = n := by omega
      subst this
      have ha := selN_all p v
      have e : selN (fun k => p k || decide (v = k)) v = selN p v := selN_congr _ _ _ fun k hk => by simp [Nat.ne_of_gt hk]
      rw [selN, selN, e]
      cases p v
      · simpa using (putL_all _ _ ha).1
      · have := (putL_all _ _ ha).2 (v : Int) (Int.le_refl _)
        simpa using this
def unionL (a b : List Int) : List Int := b.foldl (fun o v => putL v o) a
theorem unionL_zero (a b : List Int) : a = unionL a (b.take 0) := by simp [unionL]
theorem unionL_take (a b : List Int) (k : Nat) (h : k < b.length) : putL (b.getD k 0) (unionL a (b.take k)) = unionL a (b.take (k + 1)) := by
  rw [take_snoc 0 b k h]; simp [unionL]
theorem unionL_all (a b : List Int) (k : Nat) (h : b.length ≤ k) : unionL a (b.take k) = unionL a b := by rw [List.take_of_length_le h]
theorem unionL_len (b : List Int) : ∀ a, (unionL a b).length ≤ a.length + b.length := by
  induction b with
  | nil => intro a; simp [unionL]
  | cons x b ih =>
    intro a
    have h1 := ih (putL x a)
    have h2 := putL_len x a
    simp only [unionL, List.foldl_cons, List.length_cons] at h1 ⊢
    omega
theorem unionL_sel (p : Nat → Bool) (n : Nat) : ∀ (b : List Int) (p : Nat → Bool), (∀ x ∈ b, 0 ≤ x ∧ x < (n : Int)) → unionL (selN p n) b = selN (fun k => p k || memP b k) n
  | [], p, _ => by
    refine selN_congr _ _ _ fun k _ => ?_
    simp [memP]
  | x :: b, p, h => by
    have hx := h x (by simp)
    have e : x = ((x.toNat : Nat) : Int) := by omega
    show unionL (putL x (selN p n)) b = _
    rw [e, putL_sel p x.toNat n (by omega), unionL_sel p n b _ fun y hy => h y (by simp [hy])]
    refine selN_congr _ _ _ fun k hk => ?_
    have : decide (x.toNat = k) = decide ((k : Int) = x) := by rw [decide_eq_decide]; omega
    simp only [memP, List.mem_cons, this, Bool.or_assoc, Bool.decide_or]
    congr 3
    rw [eq_iff_iff]; omega
theorem union_set (n : Int) (p q : Nat → Bool) : unionL (selN p n.toNat) (selN q n.toNat) = selN (fun k => p k || q k) n.toNat := by
  rw [unionL_sel p _ _ p fun x hx => by
    rw [mem_selN] at hx
    obtain ⟨k, h1, h2, _⟩ := hx
    omega]
  exact selN_congr _ _ _ fun k hk => by rw [memP_selN _ _ _ hk]
/-- The wanted ones of a list; the others. -/
def yesL (c : GExpr) : List Int → List Int
  | [] => []
  | x :: xs => bif truE x c then x :: yesL c xs else yesL c xs
def noL (c : GExpr) : List Int → List Int
  | [] => []
  | x :: xs => bif truE x c then noL c xs else x :: noL c xs
theorem yesL_app (c : GExpr) (ys : List Int) : ∀ xs, yesL c (xs ++ ys) = yesL c xs ++ yesL c ys
  | [] => rfl
  | x :: xs => by
    simp only [List.cons_append, yesL, yesL_app c ys xs]
    cases truE x c <;> rfl
theorem noL_app (c : GExpr) (ys : List Int) : ∀ xs, noL c (xs ++ ys) = noL c xs ++ noL c ys
  | [] => rfl
  | x :: xs => by
    simp only [List.cons_append, noL, noL_app c ys xs]
    cases truE x c <;> rfl
theorem part_t (c : GExpr) (xs : List Int) (k : Nat) (h : k < xs.length) (e : truE (xs.getD k 0) c = true) : yesL c (xs.take k) ++ [xs.getD k 0] = yesL c (xs.take (k + 1)) ∧ noL c (xs.take k) = noL c (xs.take (k + 1)) := by
  rw [take_snoc 0 xs k h, yesL_app, noL_app]; generalize xs.getD k 0 = y at *; simp [yesL, noL, e]
theorem part_f (c : GExpr) (xs : List Int) (k : Nat) (h : k < xs.length) (e : truE (xs.getD k 0) c = false) : yesL c (xs.take k) = yesL c (xs.take (k + 1)) ∧ noL c (xs.take k) ++ [xs.getD k 0] = noL c (xs.take (k + 1)) := by
  rw [take_snoc 0 xs k h, yesL_app, noL_app]; generalize xs.getD k 0 = y at *; simp [yesL, noL, e]
theorem part_len (c : GExpr) : ∀ xs : List Int, (yesL c xs).length ≤ xs.length ∧ (noL c xs).length ≤ xs.length
  | [] => ⟨Nat.le_refl _, Nat.le_refl _⟩
  | x :: xs => by
    obtain ⟨h1, h2⟩ := part_len c xs
    simp only [yesL, noL]
    cases truE x c <;> simp <;> omega
theorem yes_sel (c : GExpr) (p : Nat → Bool) : ∀ n, yesL c (selN p n) = selN (fun k => p k && truE (k : Int) c) n
  | 0 => rfl
  | n + 1 => by
    rw [selN, selN, yesL_app, yes_sel c p n]
    cases e : p n
    · simp [yesL]
    · cases e2 : truE (n : Int) c <;> simp [yesL, e2]
theorem no_sel (c : GExpr) (p : Nat → Bool) : ∀ n, noL c (selN p n) = selN (fun k => p k && !truE (k : Int) c) n
  | 0 => rfl
  | n + 1 => by
    rw [selN, selN, noL_app, no_sel c p n]
    cases e : p n
    · simp [noL]
    · cases e2 : truE (n : Int) c <;> simp [noL, e2]
theorem part_set (n : Int) (c : GExpr) (xs : List Int) (h : isSet n xs) : isSet n (yesL c xs) ∧ isSet n (noL c xs) := by
  rw [h.eq, yes_sel, no_sel]
  exact ⟨isSet_selN _ _, isSet_selN _ _⟩
theorem putL_set (n : Int) (v : Int) (xs : List Int) (h : isSet n xs) (hv : 0 ≤ v ∧ v < n) : isSet n (putL v xs) := by
  have e : v = ((v.toNat : Nat) : Int) := by omega
  rw [h.eq, e, putL_sel _ _ _ (by omega)]
  exact isSet_selN _ _
theorem unionL_set (n : Int) (a b : List Int) (ha : isSet n a) (hb : isSet n b) : isSet n (unionL a b) := by
  rw [ha.eq, hb.eq, union_set]
  exact isSet_selN _ _
theorem take_in (n : Int) (xs : List Int) (h : isSet n xs) (k : Nat) : ∀ x ∈ xs.take k, 0 ≤ x ∧ x < n := by
  intro x hx
  have hm := List.mem_of_mem_take hx
  rw [h.eq, mem_selN] at hm
  obtain ⟨j, h1, h2, _⟩ := hm
  omega
theorem unionL_take_set (n : Int) (a b : List Int) (ha : isSet n a) (hb : isSet n b) (k : Nat) : isSet n (unionL a (b.take k)) := by
  have h := take_in n b hb k
  rcases Int.lt_or_le n 0 with hn | hn
  · have h0 : n.toNat = 0 := by omega
    have e : b = [] := by have := isSet_len n b hb; rw [h0] at this; exact List.eq_nil_of_length_eq_zero (by omega)
    rw [e]; simpa [unionL] using ha
  · rw [ha.eq, unionL_sel (memP a) n.toNat _ _ fun x hx => by have := h x hx; omega]
    exact isSet_selN _ _

def k_spec_l07Parted : Ctr := ⟨n_spec_l07Parted, [.r (.st .expr), .v (.slice (.int .i64))], fun (c : GExpr) (xs : List Int) => ⟨(some (goodC c = true ∧ xs.length ≤ 1048576 ∧ ∀ i, i < xs.length → 0 ≤ xs.getD i 0 ∧ xs.getD i 0 ≤ 4096), [⟨(.slice (.int .i64)), yesL c xs⟩, ⟨(.slice (.int .i64)), noL c xs⟩])⟩⟩
def l_spec_l07Parted (c : GExpr) (xs : List Int) : Nat → LoopInv := (fun zb => if Nat.beq zb 0 then .mk (Nat) (fun k => k ≤ xs.length) (fun k => xs.length - k) [] [2, 3, 9, 10] (fun k => [(8, .imm ⟨(.int .i64), ((k : Int) : Int)⟩), (6, .row 9), (7, .row 10)]) [0, 1, 4, 5, 6, 7, 8, 11, 12, 13, 14, 15, 16, 17, 18, 19, 20, 21, 22, 23, 24, 25, 26, 27, 28, 29, 30, 31, 32, 33, 34, 35, 36, 37, 38] (fun k => [(9, .row T_int64 (.int .i64) (yesL c (xs.take k) : List Int)), (10, .row T_int64 (.int .i64) (noL c (xs.take k) : List Int))]) [] [] (fun k => fun _ => .none) else .none)
theorem vc_spec_l07Parted (c : GExpr) (xs : List Int) : awp (envOf [k_spec_l01True]) (bodyOf f_spec_l07Parted) (l_spec_l07Parted c xs) 0 (funPost (envOf [k_spec_l01True]) f_spec_l07Parted fun r => areEq r [⟨(.slice (.int .i64)), yesL c xs⟩, ⟨(.slice (.int .i64)), noL c xs⟩]) (startState f_spec_l07Parted [.ref ⟨(.st .expr), c⟩, .val ⟨(.slice (.int .i64)), xs⟩]) =
  (((∃ k1 : Nat, (k1 ≤ xs.length ∧ ((c = c ∧ (xs = xs ∧ (True ∧ (True ∧ (True ∧ (True ∧ ((0 : Int) = (k1 : Int) ∧ True))))))) ∧ ([] = (yesL c (xs.take k1)) ∧ ([] = (noL c (xs.take k1)) ∧ True))))) ∧ (∀ k1 : Nat, (k1 ≤ xs.length →
 (inI64 ((xs.length : Int)) →
 (((decide ((k1 : Int) < ((xs.length : Int)))) = true →
 (idxOk (k1 : Int) xs.length ∧ (inI64 (xs.getD k1 (0 : Int)) →
 ((goodC c = true ∧ 0 ≤ (xs.getD k1 (0 : Int)) ∧ (xs.getD k1 (0 : Int)) ≤ 4096) ∧ (((truE (xs.getD k1 (0 : Int)) c) = true →
 (idxOk (k1 : Int) xs.length ∧ (inI64 (xs.getD k1 (0 : Int)) →
 (roomOk ((yesL c (xs.take k1)).length + ([(xs.getD k1 (0 : Int))]).length) 8 ∧ (inI64 ((k1 : Int) + (1 : Int)) ∧ (∃ k2 : Nat, (k2 ≤ xs.length ∧ (xs.length - k2 < xs.length - k1 ∧ ((c = c ∧ (xs = xs ∧ (True ∧ (True ∧ (True ∧ (True ∧ (((k1 : Int) + (1 : Int)) = (k2 : Int) ∧ True))))))) ∧ (((yesL c (xs.take k1)) ++ ([(xs.getD k1 (0 : Int))])) = (yesL c (xs.take k2)) ∧ ((noL c (xs.take k1)) = (noL c (xs.take k2)) ∧ True))))))))))) ∧ ((truE (xs.getD k1 (0 : Int)) c) = false →
 (idxOk (k1 : Int) xs.length ∧ (inI64 (xs.getD k1 (0 : Int)) →
 (roomOk ((noL c (xs.take k1)).length + ([(xs.getD k1 (0 : Int))]).length) 8 ∧ (inI64 ((k1 : Int) + (1 : Int)) ∧ (∃ k2 : Nat, (k2 ≤ xs.length ∧ (xs.length - k2 < xs.length - k1 ∧ ((c = c ∧ (xs = xs ∧ (True ∧ (True ∧ (True ∧ (True ∧ (((k1 : Int) + (1 : Int)) = (k2 : Int) ∧ True))))))) ∧ ((yesL c (xs.take k1)) = (yesL c (xs.take k2)) ∧ (((noL c (xs.take k1)) ++ ([(xs.getD k1 (0 : Int))])) = (noL c (xs.take k2)) ∧ True)))))))))))))))) ∧ ((decide ((k1 : Int) < ((xs.length : Int)))) = false →
 ((yesL c (xs.take k1)) = (yesL c xs) ∧ (noL c (xs.take k1)) = (noL c xs))))))))) := by kernel_rfl
set_option maxRecDepth 4000 in
set_option maxHeartbeats 1000000 in
theorem ok_spec_l07Parted (hE : AllGood [k_spec_l01True]) : Ctr.Good k_spec_l07Parted := by
  refine ⟨fnOk_of at_spec_l07Parted rfl (by decide), ?_⟩
  show ∀ (c : GExpr) (xs : List Int), (goodC c = true ∧ xs.length ≤ 1048576 ∧ ∀ i, i < xs.length → 0 ≤ xs.getD i 0 ∧ xs.getD i 0 ≤ 4096) → OkCall prog n_spec_l07Parted [.ref ⟨(.st .expr), c⟩, .val ⟨(.slice (.int .i64)), xs⟩] (· = [⟨(.slice (.int .i64)), yesL c xs⟩, ⟨(.slice (.int .i64)), noL c xs⟩])
  intro c xs hp
  refine ok_of_awp (wr := []) (cl := []) (ro := []) hE at_spec_l07Parted body_spec_l07Parted (l_spec_l07Parted c xs) ?_
  rewrite [vc_spec_l07Parted c xs]
  have f0 : [] = yesL c (xs.take 0) := by simp [yesL]
  have f1 : [] = noL c (xs.take 0) := by simp [noL]
  refine ⟨⟨0, ⟨?_, ⟨⟨rfl, ⟨rfl, ⟨trivial, ⟨trivial, ⟨trivial, ⟨trivial, ⟨?_, trivial⟩⟩⟩⟩⟩⟩⟩, ⟨?_, ⟨?_, trivial⟩⟩⟩⟩⟩, fun k1 a0 => have b0x0 := part_t c xs k1; have b0x1 := part_f c xs k1; have b0x2 := part_len c (xs.take k1); have b0x3 := hp.2.2 k1; have b0x4 := (fun (h : xs.length ≤ k1) => List.take_of_length_le h); have b0x5 := (List.length_take : (xs.take k1).length = min k1 xs.length); fun a1 => ⟨fun a2 => ⟨?_, fun a3 => ⟨?_, ⟨fun a4 => ⟨?_, fun a5 => ⟨?_, ⟨?_, ⟨k1 + 1, ⟨?_, ⟨?_, ⟨⟨rfl, ⟨rfl, ⟨trivial, ⟨trivial, ⟨trivial, ⟨trivial, ⟨?_, trivial⟩⟩⟩⟩⟩⟩⟩, ⟨?_, ⟨?_, trivial⟩⟩⟩⟩⟩⟩⟩⟩⟩, fun a4 => ⟨?_, fun a5 => ⟨?_, ⟨?_, ⟨k1 + 1, ⟨?_, ⟨?_, ⟨⟨rfl, ⟨rfl, ⟨trivial, ⟨trivial, ⟨trivial, ⟨trivial, ⟨?_, trivial⟩⟩⟩⟩⟩⟩⟩, ⟨?_, ⟨?_, trivial⟩⟩⟩⟩⟩⟩⟩⟩⟩⟩⟩⟩, fun a2 => ⟨?_, ?_⟩⟩⟩
  all_goals try and_intros
  all_goals first | rfl | trivial | omega | (simp only [decide_eq_true_eq, decide_eq_false_iff_not, idxOk, inI64, roomOk, List.length_append, List.length_cons, List.length_nil] at *; omega) | grind [idxOk, inI64, roomOk]

theorem good_spec_l07Parted : Ctr.Good k_spec_l07Parted := ok_spec_l07Parted ⟨good_spec_l01True, trivial⟩

def k_spec_l07Union : Ctr := ⟨n_spec_l07Union, [.v (.slice (.int .i64)), .v (.slice (.int .i64))], fun (a : List Int) (b : List Int) => ⟨(some (a.length ≤ 65536 ∧ b.length ≤ 65536), [⟨(.slice (.int .i64)), unionL a b⟩])⟩⟩
def l_spec_l07Union (a : List Int) (b : List Int) : Nat → LoopInv := (fun zb => if Nat.beq zb 0 then .mk (Nat) (fun k => k ≤ b.length) (fun k => b.length - k) [] [0, 2, 3, 7, 8] (fun k => [(6, .imm ⟨(.int .i64), ((k : Int) : Int)⟩), (5, .imm ⟨(.slice (.int .i64)), (unionL a (b.take k) : List Int)⟩)]) [1, 4, 5, 6, 9, 10, 11, 12, 13, 14, 15, 16, 17, 18, 19, 20, 21] (fun k => []) [] [] (fun k => fun _ => .none) else .none)
theorem vc_spec_l07Union (a : List Int) (b : List Int) : awp (envOf [k_spec_l00Own, k_spec_l00Put]) (bodyOf f_spec_l07Union) (l_spec_l07Union a b) 0 (funPost (envOf [k_spec_l00Own, k_spec_l00Put]) f_spec_l07Union fun r => areEq r [⟨(.slice (.int .i64)), unionL a b⟩]) (startState f_spec_l07Union [.val ⟨(.slice (.int .i64)), a⟩, .val ⟨(.slice (.int .i64)), b⟩]) =
  ((a.length ≤ 1048576 ∧ (a.length ≤ 140737488355328 →
 ((∃ k1 : Nat, (k1 ≤ b.length ∧ ((b = b ∧ (True ∧ (a = (unionL a (b.take k1)) ∧ ((0 : Int) = (k1 : Int) ∧ True)))) ∧ True))) ∧ (∀ k1 : Nat, (k1 ≤ b.length →
 (inI64 ((b.length : Int)) →
 (((decide ((k1 : Int) < ((b.length : Int)))) = true →
 (idxOk (k1 : Int) b.length ∧ (inI64 (b.getD k1 (0 : Int)) →
 ((unionL a (b.take k1)).length ≤ 1048576 ∧ ((putL (b.getD k1 (0 : Int)) (unionL a (b.take k1))).length ≤ 140737488355328 →
 (inI64 ((k1 : Int) + (1 : Int)) ∧ (∃ k2 : Nat, (k2 ≤ b.length ∧ (b.length - k2 < b.length - k1 ∧ ((b = b ∧ (True ∧ ((putL (b.getD k1 (0 : Int)) (unionL a (b.take k1))) = (unionL a (b.take k2)) ∧ (((k1 : Int) + (1 : Int)) = (k2 : Int) ∧ True)))) ∧ True)))))))))) ∧ ((decide ((k1 : Int) < ((b.length : Int)))) = false →
 (unionL a (b.take k1)) = (unionL a b)))))))))) := by kernel_rfl
set_option maxRecDepth 4000 in
set_option maxHeartbeats 1000000 in
theorem ok_spec_l07Union (hE : AllGood [k_spec_l00Own, k_spec_l00Put]) : Ctr.Good k_spec_l07Union := by
  refine ⟨fnOk_of at_spec_l07Union rfl (by decide), ?_⟩
  show ∀ (a : List Int) (b : List Int), (a.length ≤ 65536 ∧ b.length ≤ 65536) → OkCall prog n_spec_l07Union [.val ⟨(.slice (.int .i64)), a⟩, .val ⟨(.slice (.int .i64)), b⟩] (· = [⟨(.slice (.int .i64)), unionL a b⟩])
  intro a b hp
  refine ok_of_awp (wr := []) (cl := []) (ro := []) hE at_spec_l07Union body_spec_l07Union (l_spec_l07Union a b) ?_
  rewrite [vc_spec_l07Union a b]
  have f0 := unionL_zero a b
  refine ⟨?_, fun a0 => ⟨⟨0, ⟨?_, ⟨⟨rfl, ⟨trivial, ⟨?_, ⟨?_, trivial⟩⟩⟩⟩, trivial⟩⟩⟩, fun k1 a1 => have b1x0 := unionL_take a b k1; have b1x1 := unionL_all a b k1; have b1x2 := unionL_len (b.take k1) a; have b1x3 := (List.length_take : (b.take k1).length = min k1 b.length); fun a2 => ⟨fun a3 => ⟨?_, fun a4 => ⟨?_, fun a5 => ⟨?_, ⟨k1 + 1, ⟨?_, ⟨?_, ⟨⟨rfl, ⟨trivial, ⟨?_, ⟨?_, trivial⟩⟩⟩⟩, trivial⟩⟩⟩⟩⟩⟩⟩, fun a3 => ?_⟩⟩⟩
  all_goals try and_intros
  all_goals first | rfl | trivial | omega | (simp only [decide_eq_true_eq, decide_eq_false_iff_not, idxOk, inI64, roomOk, List.length_append, List.length_cons, List.length_nil] at *; omega) | grind [idxOk, inI64, roomOk]

theorem good_spec_l07Union : Ctr.Good k_spec_l07Union := ok_spec_l07Union ⟨good_spec_l00Own, good_spec_l00Put, trivial⟩

end
end Go.Proofs.Ytcdppmpjplhgkaa

/- Tables, relations, the allowed words of programs: the program. Printed by vmk.py. -/
import Derived.Test.YtcdppmpjplhgkaaVmUse
import Derived.Test.YtcdppmpjplhgkaaVmLib
import Derived.Test.YtcdppmpjplhgkaaVmAllows
import Derived.Test.YtcdppmpjplhgkaaVmProg
set_option linter.unusedVariables false
set_option linter.unusedSimpArgs false
set_option linter.unusedSectionVars false
namespace Go.Proofs.Ytcdppmpjplhgkaa
noncomputable section

/-- The first values of a function. -/
def mapN {α : Type} (f : Nat → α) : Nat → List α
  | 0 => []
  | n + 1 => mapN f n ++ [f n]
theorem mapN_zero {α : Type} (f : Nat → α) : mapN f 0 = [] := rfl
theorem mapN_succ {α : Type} (f : Nat → α) (n : Nat) : mapN f n ++ [f n] = mapN f (n + 1) := rfl
theorem mapN_len {α : Type} (f : Nat → α) : ∀ n, (mapN f n).length = n
  | 0 => rfl
  | n + 1 => by simp [mapN, mapN_len f n]
theorem mapN_getD {α : Type} (f : Nat → α) (d : α) : ∀ (n k : Nat), k < n → (mapN f n).getD k d = f k
  | n + 1, k, h => by
    rcases Nat.lt_or_ge k n with h' | h'
    · have := mapN_getD f d n k h'
      simp only [mapN, List.getD_eq_getElem?_getD] at this ⊢
      rw [List.getElem?_append_left (by rw [mapN_len]; exact h')]
      exact this
    · have : k = n := by omega
      subst this
      simp only [mapN, List.getD_eq_getElem?_getD]
      rw [List.getElem?_append_right (by rw [mapN_len]; omega), mapN_len]
      simp
theorem mapN_congr {α : Type} (f g : Nat → α) : ∀ n, (∀ k, k < n → f k = g k) → mapN f n = mapN g n
  | 0, _ => rfl
  | n + 1, h => by rw [mapN, mapN, mapN_congr f g n fun k hk => h k (by omega), h n (by omega)]
/-- Those of the first numbers that are wanted. -/
def selN (p : Nat → Bool) : Nat → List Int
  | 0 => []
  | n + 1 => selN p n ++ (bif p n then [(n : Int)] else [])
theorem selN_zero (p : Nat → Bool) : selN p 0 = [] := rfl
theorem selN_t (p : Nat → Bool) (n : Nat) (h : p n = true) : selN p n ++ [(n : Int)] = selN p (n + 1) := by simp [selN, h]
theorem selN_f (p : Nat → Bool) (n : Nat) (h : p n = false) : selN p n = selN p (n + 1) := by simp [selN, h]
theorem selN_len (p : Nat → Bool) : ∀ n, (selN p n).length ≤ n
  | 0 => Nat.le_refl _
  | n + 1 => by
    have := selN_len p n
    simp only [selN, List.length_append]
    cases p n <;> simp <;> omega
theorem selN_congr (p q : Nat → Bool) : ∀ n, (∀ k, k < n → p k = q k) → selN p n = selN q n
  | 0, _ => rfl
  | n + 1, h => by rw [selN, selN, selN_congr p q n fun k hk => h k (by omega), h n (by omega)]
/-- One of the first numbers. -/
def anyN (p : Nat → Bool) : Nat → Bool
  | 0 => false
  | n + 1 => anyN p n || p n
theorem anyN_zero (p : Nat → Bool) : anyN p 0 = false := rfl
theorem anyN_succ (p : Nat → Bool) (n : Nat) : anyN p (n + 1) = (anyN p n || p n) := rfl
theorem anyN_true (p : Nat → Bool) : ∀ (n k : Nat), k < n → p k = true → anyN p n = true
  | n + 1, k, h, e => by
    rcases Nat.lt_or_ge k n with h' | h'
    · simp [anyN, anyN_true p n k h' e]
    · have : k = n := by omega
      subst this; simp [anyN, e]
theorem anyN_iff (p : Nat → Bool) : ∀ n, anyN p n = true ↔ ∃ k, k < n ∧ p k = true
  | 0 => by simp [anyN]
  | n + 1 => by
    simp only [anyN, Bool.or_eq_true, anyN_iff p n]
    constructor
    · rintro (⟨k, h, e⟩ | e)
      · exact ⟨k, by omega, e⟩
      · exact ⟨n, by omega, e⟩
    · rintro ⟨k, h, e⟩
      rcases Nat.lt_or_ge k n with h' | h'
      · exact .inl ⟨k, h', e⟩
      · have : k = n := by omega
        subst this; exact .inr e
theorem anyN_congr (p q : Nat → Bool) : ∀ n, (∀ k, k < n → p k = q k) → anyN p n = anyN q n
  | 0, _ => rfl
  | n + 1, h => by rw [anyN, anyN, anyN_congr p q n fun k hk => h k (by omega), h n (by omega)]
/-- An entry of a table. -/
def gt2 (t : List (List Bool)) (x y : Int) : Bool := (t.getD x.toNat []).getD y.toNat false
theorem gt2_eq (t : List (List Bool)) (x y : Int) : gt2 t x y = (t.getD x.toNat []).getD y.toNat false := rfl
/-- A table of so many rows and columns. -/
structure sqT (n : Nat) (t : List (List Bool)) : Prop where
  len : t.length = n
  row : ∀ i, i < n → (t.getD i []).length = n
/-- It may be asked at all places of a table. -/
def askF (n : Int) (F : Int → Int → Prop × Bool) : Prop := ∀ x y : Int, 0 ≤ x → x < n → 0 ≤ y → y < n → (F x y).1
def rowF (F : Int → Int → Prop × Bool) (x : Int) (k : Nat) : List Bool := mapN (fun y => (F x (y : Int)).2) k
def tabK (n : Int) (F : Int → Int → Prop × Bool) (k : Nat) : List (List Bool) := mapN (fun x => rowF F (x : Int) n.toNat) k
def tabF (n : Int) (F : Int → Int → Prop × Bool) : List (List Bool) := tabK n F n.toNat
theorem rowF_zero (F : Int → Int → Prop × Bool) (x : Int) : [] = rowF F x 0 := rfl
theorem rowF_succ (F : Int → Int → Prop × Bool) (x : Int) (k : Nat) : rowF F x k ++ [(F x (k : Int)).2] = rowF F x (k + 1) := rfl
theorem rowF_len (F : Int → Int → Prop × Bool) (x : Int) (k : Nat) : (rowF F x k).length = k := mapN_len _ k
theorem tabK_zero (n : Int) (F : Int → Int → Prop × Bool) : [] = tabK n F 0 := rfl
theorem tabK_succ (n : Int) (F : Int → Int → Prop × Bool) (k : Nat) : tabK n F k ++ [rowF F (k : Int) n.toNat] = tabK n F (k + 1) := rfl
theorem tabK_len (n : Int) (F : Int → Int → Prop × Bool) (k : Nat) : (tabK n F k).length = k := mapN_len _ k
theorem tabF_eq (n : Int) (F : Int → Int → Prop × Bool) (k : Nat) (h1 : n ≤ (k : Int)) (h2 : k ≤ n.toNat) : tabK n F k = tabF n F := by
  have : k = n.toNat := by omega
  rw [this]; rfl
theorem tabF_sq (n : Int) (F : Int → Int → Prop × Bool) : sqT n.toNat (tabF n F) := by
  refine ⟨tabK_len n F _, fun i hi => ?_⟩
  unfold tabF tabK
  rw [mapN_getD _ _ _ _ hi]
  exact rowF_len F _ _
theorem gt2_tabF (n : Int) (F : Int → Int → Prop × Bool) (x y : Int) (hx : 0 ≤ x ∧ x < n) (hy : 0 ≤ y ∧ y < n) : gt2 (tabF n F) x y = (F x y).2 := by
  unfold gt2 tabF tabK
  rw [mapN_getD _ _ _ _ (by omega)]
  unfold rowF
  rw [mapN_getD _ _ _ _ (by omega), Int.toNat_of_nonneg hx.1, Int.toNat_of_nonneg hy.1]

def k_impl_table_bool : Ctr := ⟨n_impl_table_bool, [.v (.int .i64), .c [(.int .i64), (.int .i64)] .bool], fun (n : Int) (F : Int → Int → Prop × Bool) => ⟨(some (0 ≤ n ∧ n ≤ 4096 ∧ askF n F), [⟨(.slice (.slice .bool)), tabF n F⟩])⟩⟩
def l_impl_table_bool (n : Int) (F : Int → Int → Prop × Bool) : Nat → LoopInv := (fun zb => if Nat.beq zb 0 then .mk (Nat) (fun k => k ≤ n.toNat) (fun k => n.toNat - k) [] [2, 3, 9] (fun k => [(11, .imm ⟨(.int .i64), ((k : Int) : Int)⟩), (5, .row 9)]) [0, 1, 4, 5, 6, 7, 8, 10, 11, 12, 13, 14, 15, 16, 17, 18, 19, 20, 21, 22, 23, 24, 25, 26, 27, 28, 29, 30, 31, 32] (fun k => [(9, .row T_s_bool (.slice .bool) (tabK n F k : List (List Bool)))]) [] [] (fun k => (fun zb => if Nat.beq zb 2 then .mk (Nat) (fun j => j ≤ n.toNat) (fun j => n.toNat - j) [] [2, 3, 9, 14] (fun j => [(16, .imm ⟨(.int .i64), ((j : Int) : Int)⟩), (7, .row 14)]) [0, 1, 4, 5, 6, 7, 8, 9, 10, 11, 12, 13, 15, 16, 17, 18, 19, 20, 21, 22, 23, 24, 25, 26, 27, 28, 29, 30, 31, 32] (fun j => [(14, .row T_bool .bool (rowF F (k : Int) j : List Bool))]) [] [] (fun j => fun _ => .none) else .none)) else .none)
theorem vc_impl_table_bool (n : Int) (F : Int → Int → Prop × Bool) : awp (envOf []) (bodyOf f_impl_table_bool) (l_impl_table_bool n F) 0 (funPost (envOf []) f_impl_table_bool fun r => areEq r [⟨(.slice (.slice .bool)), tabF n F⟩]) (startState f_impl_table_bool [.val ⟨(.int .i64), n⟩, .clo ⟨[(.int .i64), (.int .i64)], .bool, F⟩]) =
  (((∃ k1 : Nat, (k1 ≤ n.toNat ∧ ((n = n ∧ (F = F ∧ (True ∧ (True ∧ (n = n ∧ ((0 : Int) = (k1 : Int) ∧ True)))))) ∧ ([] = (tabK n F k1) ∧ True)))) ∧ (∀ k1 : Nat, (k1 ≤ n.toNat →
 (((decide ((k1 : Int) < n)) = true →
 ((∃ j2 : Nat, (j2 ≤ n.toNat ∧ ((n = n ∧ (F = F ∧ (True ∧ (True ∧ ((k1 : Int) = (k1 : Int) ∧ (True ∧ (n = n ∧ ((k1 : Int) = (k1 : Int) ∧ ((decide ((k1 : Int) < n)) = (decide ((k1 : Int) < n)) ∧ ((k1 : Int) = (k1 : Int) ∧ (n = n ∧ ((0 : Int) = (j2 : Int) ∧ True)))))))))))) ∧ ([] = (rowF F (k1 : Int) j2) ∧ ((tabK n F k1) = (tabK n F k1) ∧ True))))) ∧ (∀ j2 : Nat, (j2 ≤ n.toNat →
 (((decide ((j2 : Int) < n)) = true →
 ((F (k1 : Int) (j2 : Int)).1 ∧ (roomOk ((rowF F (k1 : Int) j2).length + ([((F (k1 : Int) (j2 : Int)).2)]).length) 1 ∧ (inI64 ((j2 : Int) + (1 : Int)) ∧ (∃ j3 : Nat, (j3 ≤ n.toNat ∧ (n.toNat - j3 < n.toNat - j2 ∧ ((n = n ∧ (F = F ∧ (True ∧ (True ∧ ((k1 : Int) = (k1 : Int) ∧ (True ∧ (n = n ∧ ((k1 : Int) = (k1 : Int) ∧ ((decide ((k1 : Int) < n)) = (decide ((k1 : Int) < n)) ∧ ((k1 : Int) = (k1 : Int) ∧ (n = n ∧ (((j2 : Int) + (1 : Int)) = (j3 : Int) ∧ True)))))))))))) ∧ (((rowF F (k1 : Int) j2) ++ ([((F (k1 : Int) (j2 : Int)).2)])) = (rowF F (k1 : Int) j3) ∧ ((tabK n F k1) = (tabK n F k1) ∧ True)))))))))) ∧ ((decide ((j2 : Int) < n)) = false →
 (roomOk ((tabK n F k1).length + ([(rowF F (k1 : Int) j2)]).length) 24 ∧ (inI64 ((k1 : Int) + (1 : Int)) ∧ (∃ k3 : Nat, (k3 ≤ n.toNat ∧ (n.toNat - k3 < n.toNat - k1 ∧ ((n = n ∧ (F = F ∧ (True ∧ (True ∧ (n = n ∧ (((k1 : Int) + (1 : Int)) = (k3 : Int) ∧ True)))))) ∧ (((tabK n F k1) ++ ([(rowF F (k1 : Int) j2)])) = (tabK n F k3) ∧ True))))))))))))) ∧ ((decide ((k1 : Int) < n)) = false →
 (tabK n F k1) = (tabF n F))))))) := by kernel_rfl
set_option maxRecDepth 4000 in
set_option maxHeartbeats 1000000 in
theorem ok_impl_table_bool (hE : AllGood []) : Ctr.Good k_impl_table_bool := by
  refine ⟨fnOk_of at_impl_table_bool rfl (by decide), ?_⟩
  show ∀ (n : Int) (F : Int → Int → Prop × Bool), (0 ≤ n ∧ n ≤ 4096 ∧ askF n F) → OkCall prog n_impl_table_bool [.val ⟨(.int .i64), n⟩, .clo ⟨[(.int .i64), (.int .i64)], .bool, F⟩] (· = [⟨(.slice (.slice .bool)), tabF n F⟩])
  intro n F hp
  refine ok_of_awp (wr := []) (cl := []) (ro := []) hE at_impl_table_bool body_impl_table_bool (l_impl_table_bool n F) ?_
  rewrite [vc_impl_table_bool n F]
  refine ⟨⟨0, ⟨?_, ⟨⟨rfl, ⟨rfl, ⟨trivial, ⟨trivial, ⟨rfl, ⟨?_, trivial⟩⟩⟩⟩⟩⟩, ⟨?_, trivial⟩⟩⟩⟩, fun k1 => fun a0 => ⟨fun a1 => ⟨⟨0, ⟨?_, ⟨⟨rfl, ⟨rfl, ⟨trivial, ⟨trivial, ⟨rfl, ⟨trivial, ⟨rfl, ⟨rfl, ⟨rfl, ⟨rfl, ⟨rfl, ⟨?_, trivial⟩⟩⟩⟩⟩⟩⟩⟩⟩⟩⟩⟩, ⟨?_, ⟨rfl, trivial⟩⟩⟩⟩⟩, fun j2 a2 => have b2x0 := hp.2.2 (k1 : Int) (j2 : Int); ⟨fun a3 => ⟨?_, ⟨?_, ⟨?_, ⟨j2 + 1, ⟨?_, ⟨?_, ⟨⟨rfl, ⟨rfl, ⟨trivial, ⟨trivial, ⟨rfl, ⟨trivial, ⟨rfl, ⟨rfl, ⟨rfl, ⟨rfl, ⟨rfl, ⟨?_, trivial⟩⟩⟩⟩⟩⟩⟩⟩⟩⟩⟩⟩, ⟨?_, ⟨rfl, trivial⟩⟩⟩⟩⟩⟩⟩⟩⟩, fun a3 => ⟨?_, ⟨?_, ⟨k1 + 1, ⟨?_, ⟨?_, ⟨⟨rfl, ⟨rfl, ⟨trivial, ⟨trivial, ⟨rfl, ⟨?_, trivial⟩⟩⟩⟩⟩⟩, ⟨?_, trivial⟩⟩⟩⟩⟩⟩⟩⟩⟩, fun a1 => ?_⟩⟩
  all_goals try and_intros
  all_goals first | rfl | trivial | omega | (simp only [decide_eq_true_eq, decide_eq_false_iff_not, idxOk, inI64, roomOk, tabK_len, rowF_len, List.length_cons, List.length_nil] at *; first | omega | exact hp.2.2 _ _ (by omega) (by omega) (by omega) (by omega)) | grind [tabK_zero, rowF_zero, rowF_succ, tabK_succ, tabF_eq]

theorem good_impl_table_bool : Ctr.Good k_impl_table_bool := ok_impl_table_bool trivial

/-- One relation behind another one. -/
def andZ (a b : List (List Bool)) (x y : Int) (z : Nat) : Bool := gt2 a x (z : Int) && gt2 b (z : Int) y
theorem andZ_eq (a b : List (List Bool)) (x y : Int) (z : Nat) : andZ a b x y z = ((a.getD x.toNat []).getD z false && (b.getD z []).getD y.toNat false) := by
  simp [andZ, gt2]

def F_impl_composed_1 (b : List (List Bool)) (a : List (List Bool)) : Int → Int → Prop × Bool := fun (x : Int) (y : Int) => ((0 ≤ x ∧ x < (a.length : Int) ∧ 0 ≤ y ∧ y < (b.length : Int) ∧ sqT a.length a ∧ sqT a.length b), anyN (andZ a b x y) b.length)
theorem F_impl_composed_1_1 (b : List (List Bool)) (a : List (List Bool)) (x : Int) (y : Int) : (F_impl_composed_1 b a x y).1 = (0 ≤ x ∧ x < (a.length : Int) ∧ 0 ≤ y ∧ y < (b.length : Int) ∧ sqT a.length a ∧ sqT a.length b) := rfl
theorem F_impl_composed_1_2 (b : List (List Bool)) (a : List (List Bool)) (x : Int) (y : Int) : (F_impl_composed_1 b a x y).2 = (anyN (andZ a b x y) b.length) := rfl
def q_impl_composed_1 : Nat × CloK := (n_impl_composed_1, ⟨[(.int .i64), (.int .i64)], .bool, [(true, (.slice (.slice .bool))), (true, (.slice (.slice .bool)))]⟩)
def k_impl_composed_1 : Ctr := ⟨n_impl_composed_1, [.v (.int .i64), .v (.int .i64), .r (.slice (.slice .bool)), .r (.slice (.slice .bool))], fun (x : Int) (y : Int) (b : List (List Bool)) (a : List (List Bool)) => ⟨(some (0 ≤ x ∧ x < (a.length : Int) ∧ 0 ≤ y ∧ y < (b.length : Int) ∧ sqT a.length a ∧ sqT a.length b), [⟨.bool, anyN (andZ a b x y) b.length⟩])⟩⟩
def l_impl_composed_1 (x : Int) (y : Int) (b : List (List Bool)) (a : List (List Bool)) : Nat → LoopInv := (fun zb => if Nat.beq zb 0 then .mk (Nat) (fun k => k ≤ b.length ∧ anyN (andZ a b x y) k = false) (fun k => b.length - k) [] [4, 5, 8] (fun k => [(10, .imm ⟨(.int .i64), ((k : Int) : Int)⟩)]) [0, 1, 2, 3, 6, 7, 9, 10, 11, 12, 13, 14, 15, 16, 17, 18, 19, 20, 21, 22, 23, 24, 25, 26, 27, 28, 29] (fun k => []) [] [] (fun k => fun _ => .none) else .none)
abbrev q_impl_composed_1_0 (x : Int) (y : Int) (b : List (List Bool)) (a : List (List Bool)) (k1 : Nat) : Prop := (inI64 ((k1 : Int) + (1 : Int)) ∧ (∃ k2 : Nat, ((k2 ≤ b.length ∧ anyN (andZ a b x y) k2 = false) ∧ (b.length - k2 < b.length - k1 ∧ ((x = x ∧ (y = y ∧ (b = b ∧ (a = a ∧ (((b.length : Int)) = ((b.length : Int)) ∧ (((k1 : Int) + (1 : Int)) = (k2 : Int) ∧ True)))))) ∧ True)))))
theorem vc_impl_composed_1 (x : Int) (y : Int) (b : List (List Bool)) (a : List (List Bool)) : awp (envOf []) (bodyOf f_impl_composed_1) (l_impl_composed_1 x y b a) 0 (funPost (envOf []) f_impl_composed_1 fun r => areEq r [⟨.bool, anyN (andZ a b x y) b.length⟩]) (startState f_impl_composed_1 [.val ⟨(.int .i64), x⟩, .val ⟨(.int .i64), y⟩, .ref ⟨(.slice (.slice .bool)), b⟩, .ref ⟨(.slice (.slice .bool)), a⟩]) =
  ((b.length ≤ 140737488355328 →
 (inI64 ((b.length : Int)) →
 ((∃ k1 : Nat, ((k1 ≤ b.length ∧ anyN (andZ a b x y) k1 = false) ∧ ((x = x ∧ (y = y ∧ (b = b ∧ (a = a ∧ (((b.length : Int)) = ((b.length : Int)) ∧ ((0 : Int) = (k1 : Int) ∧ True)))))) ∧ True))) ∧ (∀ k1 : Nat, ((k1 ≤ b.length ∧ anyN (andZ a b x y) k1 = false) →
 (((decide ((k1 : Int) < ((b.length : Int)))) = true →
 (a.length ≤ 140737488355328 →
 (idxOk x a.length ∧ ((a.getD (Int.toNat x) []).length ≤ 140737488355328 →
 (idxOk (k1 : Int) (a.getD (Int.toNat x) []).length ∧ ((((a.getD (Int.toNat x) []).getD k1 false) = true →
 (b.length ≤ 140737488355328 →
 (idxOk (k1 : Int) b.length ∧ ((b.getD k1 []).length ≤ 140737488355328 →
 (idxOk y (b.getD k1 []).length ∧ ((((b.getD k1 []).getD (Int.toNat y) false) = true →
 true = (anyN (andZ a b x y) b.length)) ∧ (((b.getD k1 []).getD (Int.toNat y) false) = false →
 (q_impl_composed_1_0 x y b a k1)))))))) ∧ (((a.getD (Int.toNat x) []).getD k1 false) = (!true) →
 ((false = true →
 true = (anyN (andZ a b x y) b.length)) ∧ (false = false →
 (q_impl_composed_1_0 x y b a k1)))))))))) ∧ ((decide ((k1 : Int) < ((b.length : Int)))) = false →
 false = (anyN (andZ a b x y) b.length))))))))) := by kernel_rfl
set_option maxRecDepth 4000 in
set_option maxHeartbeats 1000000 in
theorem ok_impl_composed_1 (hE : AllGood []) : Ctr.Good k_impl_composed_1 := by
  refine ⟨fnOk_of at_impl_composed_1 rfl (by decide), ?_⟩
  show ∀ (x : Int) (y : Int) (b : List (List Bool)) (a : List (List Bool)), (0 ≤ x ∧ x < (a.length : Int) ∧ 0 ≤ y ∧ y < (b.length : Int) ∧ sqT a.length a ∧ sqT a.length b) → OkCall prog n_impl_composed_1 [.val ⟨(.int .i64), x⟩, .val ⟨(.int .i64), y⟩, .ref ⟨(.slice (.slice .bool)), b⟩, .ref ⟨(.slice (.slice .bool)), a⟩] (· = [⟨.bool, anyN (andZ a b x y) b.length⟩])
  intro x y b a hp
  refine ok_of_awp (wr := []) (cl := []) (ro := []) hE at_impl_composed_1 body_impl_composed_1 (l_impl_composed_1 x y b a) ?_
  rewrite [vc_impl_composed_1 x y b a]
  have f0 := anyN_zero (andZ a b x y)
  have f1 := hp.2.2.2.2.1.1
  have f2 := hp.2.2.2.2.2.1
  refine fun a0 => fun a1 => ⟨⟨0, ⟨?_, ⟨⟨rfl, ⟨rfl, ⟨rfl, ⟨rfl, ⟨rfl, ⟨?_, trivial⟩⟩⟩⟩⟩⟩, trivial⟩⟩⟩, fun k1 a2 => have b2x0 := anyN_succ (andZ a b x y) k1; have b2x1 := anyN_true (andZ a b x y) b.length k1; have b2x2 := andZ_eq a b x y k1; have b2x3 := hp.2.2.2.2.1.2 x.toNat; have b2x4 := hp.2.2.2.2.2.2 k1; ⟨fun a3 => fun a4 => ⟨?_, fun a5 => ⟨?_, ⟨fun a6 => fun a7 => ⟨?_, fun a8 => ⟨?_, ⟨fun a9 => ?_, fun a9 => ⟨?_, ⟨k1 + 1, ⟨?_, ⟨?_, ⟨⟨rfl, ⟨rfl, ⟨rfl, ⟨rfl, ⟨rfl, ⟨?_, trivial⟩⟩⟩⟩⟩⟩, trivial⟩⟩⟩⟩⟩⟩⟩⟩, fun a6 => ⟨fun a7 => ?_, fun a7 => ⟨?_, ⟨k1 + 1, ⟨?_, ⟨?_, ⟨⟨rfl, ⟨rfl, ⟨rfl, ⟨rfl, ⟨rfl, ⟨?_, trivial⟩⟩⟩⟩⟩⟩, trivial⟩⟩⟩⟩⟩⟩⟩⟩⟩, fun a3 => ?_⟩⟩
  all_goals try and_intros
  all_goals first | rfl | trivial | omega | (simp only [decide_eq_true_eq, decide_eq_false_iff_not, idxOk, inI64] at *; omega) | grind [idxOk, inI64]

theorem good_impl_composed_1 : Ctr.Good k_impl_composed_1 := ok_impl_composed_1 trivial

def compT (a b : List (List Bool)) : List (List Bool) := tabF (a.length : Int) (F_impl_composed_1 b a)
theorem compT_eq (a b : List (List Bool)) : compT a b = tabF (a.length : Int) (F_impl_composed_1 b a) := rfl
theorem compT_sq (n : Nat) (a b : List (List Bool)) (ha : sqT n a) : sqT n (compT a b) := by
  have := tabF_sq (a.length : Int) (F_impl_composed_1 b a)
  rw [ha.1] at this
  rw [compT_eq, ha.1]
  simpa using this
theorem compT_at (n : Nat) (a b : List (List Bool)) (ha : sqT n a) (hb : sqT n b) (x y : Int) (hx : 0 ≤ x ∧ x < n) (hy : 0 ≤ y ∧ y < n) : gt2 (compT a b) x y = anyN (andZ a b x y) n := by
  have h1 := ha.1
  have h2 := hb.1
  rw [compT_eq, gt2_tabF _ _ _ _ (by omega) (by omega), F_impl_composed_1_2, h2]
theorem comp_ask (n : Nat) (a b : List (List Bool)) (ha : sqT n a) (hb : sqT n b) : askF (a.length : Int) (F_impl_composed_1 b a) := by
  have h1 := ha.1
  have h2 := hb.1
  intro x y h3 h4 h5 h6
  rw [F_impl_composed_1_1]
  rw [h1]
  exact ⟨h3, by omega, h5, by omega, ha, hb⟩

def k_impl_composed : Ctr := ⟨n_impl_composed, [.v (.slice (.slice .bool)), .v (.slice (.slice .bool))], fun (a : List (List Bool)) (b : List (List Bool)) => ⟨(some (a.length ≤ 4096 ∧ sqT a.length a ∧ sqT a.length b), [⟨(.slice (.slice .bool)), compT a b⟩])⟩⟩
def l_impl_composed (a : List (List Bool)) (b : List (List Bool)) : Nat → LoopInv := fun _ => .none
theorem vc_impl_composed (a : List (List Bool)) (b : List (List Bool)) : awp (envOf [k_impl_composed_1, k_impl_table_bool] [] [q_impl_composed_1] [2, 3]) (bodyOf f_impl_composed) (l_impl_composed a b) 0 (funPost (envOf [k_impl_composed_1, k_impl_table_bool] [] [q_impl_composed_1] [2, 3]) f_impl_composed fun r => areEq r [⟨(.slice (.slice .bool)), compT a b⟩]) (startState f_impl_composed [.val ⟨(.slice (.slice .bool)), a⟩, .val ⟨(.slice (.slice .bool)), b⟩]) =
  ((a.length ≤ 140737488355328 →
 (inI64 ((a.length : Int)) →
 ((0 ≤ ((a.length : Int)) ∧ ((a.length : Int)) ≤ 4096 ∧ askF ((a.length : Int)) (F_impl_composed_1 b a)) ∧ ((tabF ((a.length : Int)) (F_impl_composed_1 b a)).length ≤ 140737488355328 →
 (tabF ((a.length : Int)) (F_impl_composed_1 b a)) = (compT a b)))))) := by kernel_rfl
set_option maxRecDepth 4000 in
set_option maxHeartbeats 1000000 in
theorem ok_impl_composed (hE : AllGood [k_impl_composed_1, k_impl_table_bool]) : Ctr.Good k_impl_composed := by
  refine ⟨fnOk_of at_impl_composed rfl (by decide), ?_⟩
  show ∀ (a : List (List Bool)) (b : List (List Bool)), (a.length ≤ 4096 ∧ sqT a.length a ∧ sqT a.length b) → OkCall prog n_impl_composed [.val ⟨(.slice (.slice .bool)), a⟩, .val ⟨(.slice (.slice .bool)), b⟩] (· = [⟨(.slice (.slice .bool)), compT a b⟩])
  intro a b hp
  refine ok_of_awp (wr := []) (cl := [q_impl_composed_1]) (ro := [2, 3]) hE at_impl_composed body_impl_composed (l_impl_composed a b) ?_
  rewrite [vc_impl_composed a b]
  have f0 := comp_ask a.length a b hp.2.1 hp.2.2
  have f1 := compT_eq a b
  refine fun a0 => fun a1 => ⟨?_, fun a2 => ?_⟩
  all_goals try and_intros
  all_goals first | rfl | trivial | exact ⟨by omega, by omega, f0⟩ | omega | exact f1.symm | grind

theorem good_impl_composed : Ctr.Good k_impl_composed := ok_impl_composed ⟨good_impl_composed_1, good_impl_table_bool, trivial⟩

end
end Go.Proofs.Ytcdppmpjplhgkaa

/- Triples under premises; weakest and strongest conditions. Printed by vmk.py. -/
import Derived.Test.YtcdppmpjplhgkaaVmUse
import Derived.Test.YtcdppmpjplhgkaaVmLib
import Derived.Test.YtcdppmpjplhgkaaVmAllows
import Derived.Test.YtcdppmpjplhgkaaVmProg
import Derived.Test.YtcdppmpjplhgkaaVmLeads
import Derived.Test.YtcdppmpjplhgkaaVmLeads2
import Derived.Test.YtcdppmpjplhgkaaVmLeads3
import Derived.Test.YtcdppmpjplhgkaaVmFrom
import Derived.Test.YtcdppmpjplhgkaaVmFrom2
import Derived.Test.YtcdppmpjplhgkaaVmFrom3
import Derived.Test.YtcdppmpjplhgkaaVmFrom4
set_option linter.unusedVariables false
set_option linter.unusedSimpArgs false
set_option linter.unusedSectionVars false
namespace Go.Proofs.Ytcdppmpjplhgkaa
noncomputable section

/-- The atoms at which a condition holds. -/
def truP (c : GExpr) (k : Nat) : Bool := truE (k : Int) c
theorem truP_eq (c : GExpr) (k : Nat) : truP c k = truE (k : Int) c := rfl
def atN (gg : GSig) (c : GExpr) : List Int := selN (truP c) (atomsN gg).toNat
theorem atN_set (gg : GSig) (c : GExpr) : isSet (atomsN gg) (atN gg c) := isSet_selN _ _
theorem atN_eq (gg : GSig) (c : GExpr) (k : Nat) (h1 : atomsN gg ≤ (k : Int)) (h2 : k ≤ (atomsN gg).toNat) : selN (truP c) k = atN gg c := by
  have : k = (atomsN gg).toNat := by omega
  rw [this]; rfl
theorem isSet_one (gg : GSig) (k : Nat) (h : (k : Int) < atomsN gg) : isSet (atomsN gg) [(k : Int)] := by
  have : ∀ n, k < n → selN (fun j => decide (k = j)) n = [(k : Int)] := by
    intro n
    induction n with
    | zero => intro h; omega
    | succ n ih =>
      intro hk
      rw [selN]
      rcases Nat.lt_or_ge k n with h' | h'
      · rw [ih h']; simp [Nat.ne_of_lt h']
      · have e : k = n := by omega
        subst e
        have : selN (fun j => decide (k = j)) k = [] := by
          rw [selN_congr _ (fun _ => false) k fun j hj => by simp; omega, selN_false]
        rw [this]; simp
  rw [← this (atomsN gg).toNat (by omega)]
  exact isSet_selN _ _
theorem one_from (gg : GSig) (xs : List GPremise) (p : GProg) (c : GExpr) (h : okL gg xs p) (k : Nat) (hk : (k : Int) < atomsN gg) :
    ((noL c (fromL gg xs p [(k : Int)])).length = 0 ↔ wkAt (leadT (atomsN gg) xs p) c k = true) := by
  rw [fromL_sel gg xs p h _ (isSet_one gg k hk), no_sel, List.length_eq_zero_iff, wkAt]
  have hs := leadT_sq gg (atomsN gg) xs p h.tree
  rw [hs.row k (by omega)]
  have hb : ∀ y, y < (atomsN gg).toNat → (anyN (fun x => memP [(k : Int)] x && gt2 (leadT (atomsN gg) xs p) (x : Int) (y : Int)) (atomsN gg).toNat && !truE (y : Int) c) = !sfAt (leadT (atomsN gg) xs p) c k y := fun y hy => by
    have e : anyN (fun x => memP [(k : Int)] x && gt2 (leadT (atomsN gg) xs p) (x : Int) (y : Int)) (atomsN gg).toNat = gt2 (leadT (atomsN gg) xs p) (k : Int) (y : Int) := by
      refine boolIff ?_
      simp only [anyN_iff, memP, List.mem_singleton, Bool.and_eq_true, decide_eq_true_eq]
      constructor
      · rintro ⟨x, _, h1, h2⟩
        rw [← h1]; exact h2
      · intro h1; exact ⟨k, by omega, rfl, h1⟩
    rw [e, sfAt]
    cases gt2 (leadT (atomsN gg) xs p) (k : Int) (y : Int) <;> cases truE (y : Int) c <;> rfl
  rw [selN_congr _ _ _ hb]
  have gen : ∀ (q : Nat → Bool) n, selN (fun y => !q y) n = [] ↔ allN q n = true := by
    intro q n
    induction n with
    | zero => simp [selN, allN]
    | succ n ih =>
      rw [selN, allN, List.append_eq_nil_iff, ih, Bool.and_eq_true]
      cases q n <;> simp
  exact gen _ _
/-- A triple holds under premises. -/
def hoB (gg : GSig) (xs : List GPremise) (t : GTriple) : Bool := allL (fun x => decide (x ∈ wkL (leadT (atomsN gg) xs t.prog) t.post)) (atN gg t.pre)
theorem hold_from (gg : GSig) (xs : List GPremise) (t : GTriple) (h : okL gg xs t.prog) : decide (((noL t.post (fromL gg xs t.prog (atN gg t.pre))).length : Int) = 0) = hoB gg xs t := by
  rw [fromL_sel gg xs t.prog h _ (atN_set gg t.pre), no_sel, hoB, atN, all_selN]
  have hs := leadT_sq gg (atomsN gg) xs t.prog h.tree
  have gen : ∀ (q : Nat → Bool) n, ((selN q n).length : Int) = 0 ↔ ∀ k, k < n → q k = false := by
    intro q n
    induction n with
    | zero => simp [selN]
    | succ n ih =>
      rw [selN, List.length_append]
      constructor
      · intro he k hk
        have h0 : ((selN q n).length : Int) = 0 := by omega
        rcases Nat.lt_or_ge k n with h' | h'
        · exact ih.1 h0 k h'
        · have : k = n := by omega
          subst this
          cases hq : q k
          · rfl
          · rw [hq] at he; simp at he; omega
      · intro he
        have h0 := ih.2 fun k hk => he k (by omega)
        have hq := he n (by omega)
        rw [hq]; simpa using h0
  have genA : ∀ (q : Nat → Bool) n, allN q n = true ↔ ∀ k, k < n → q k = true := by
    intro q n
    induction n with
    | zero => simp [allN]
    | succ n ih =>
      rw [allN, Bool.and_eq_true, ih]
      constructor
      · rintro ⟨h1, h2⟩ k hk
        rcases Nat.lt_or_ge k n with h' | h'
        · exact h1 k h'
        · have : k = n := by omega
          subst this; exact h2
      · intro h1; exact ⟨fun k hk => h1 k (by omega), h1 n (by omega)⟩
  refine boolIff ?_
  rw [decide_eq_true_eq, gen, genA]
  have mem : ∀ x, x < (atomsN gg).toNat → (decide ((x : Int) ∈ wkL (leadT (atomsN gg) xs t.prog) t.post) = true ↔ ∀ y, y < (atomsN gg).toNat → sfAt (leadT (atomsN gg) xs t.prog) t.post x y = true) := fun x hx => by
    rw [decide_eq_true_eq, wkL, mem_selN, hs.len]
    constructor
    · rintro ⟨k, hk, h1, h2⟩ y hy
      have : x = k := by omega
      subst this
      rw [wkAt, hs.row x hx, genA] at h2
      exact h2 y hy
    · intro h1
      exact ⟨x, hx, rfl, by rw [wkAt, hs.row x hx, genA]; exact h1⟩
  constructor
  · intro h1 x hx
    rw [Bool.or_eq_true]
    cases e : truP t.pre x
    · exact .inl rfl
    · refine .inr ((mem x hx).2 fun y hy => ?_)
      have h2 := h1 y hy
      rw [sfAt, Bool.or_eq_true, Bool.not_eq_true']
      cases e2 : gt2 (leadT (atomsN gg) xs t.prog) (x : Int) (y : Int)
      · exact .inl rfl
      · refine .inr ?_
        rw [Bool.and_eq_false_iff] at h2
        rcases h2 with h2 | h2
        · have : anyN (fun x => memP (atN gg t.pre) x && gt2 (leadT (atomsN gg) xs t.prog) (x : Int) (y : Int)) (atomsN gg).toNat = true := by
            rw [anyN_iff]
            exact ⟨x, hx, by rw [atN, memP_selN _ _ _ hx, e, e2]; rfl⟩
          have h2' : anyN (fun x => memP (atN gg t.pre) x && gt2 (leadT (atomsN gg) xs t.prog) (x : Int) (y : Int)) (atomsN gg).toNat = false := h2
          rw [this] at h2'; cases h2'
        · simpa using h2
  · intro h1 y hy
    rw [Bool.and_eq_false_iff]
    cases e : anyN (fun x => memP (atN gg t.pre) x && gt2 (leadT (atomsN gg) xs t.prog) (x : Int) (y : Int)) (atomsN gg).toNat
    · exact .inl e
    · refine .inr ?_
      rw [anyN_iff] at e
      obtain ⟨x, hx, h2⟩ := e
      rw [Bool.and_eq_true, atN, memP_selN _ _ _ hx] at h2
      have h3 := h1 x hx
      rw [h2.1] at h3
      have h4 := (mem x hx).1 (by simpa using h3) y hy
      rw [sfAt, h2.2] at h4
      simpa using h4
/-- The strongest condition behind a program. -/
def strL (gg : GSig) (xs : List GPremise) (c : GExpr) (p : GProg) : List Int := fromL gg xs p (atN gg c)
def strP (gg : GSig) (xs : List GPremise) (c : GExpr) (p : GProg) (y : Nat) : Bool := (atN gg c).any fun x => gt2 (leadT (atomsN gg) xs p) x (y : Int)
theorem strL_eq (gg : GSig) (xs : List GPremise) (c : GExpr) (p : GProg) (h : okL gg xs p) : strL gg xs c p = selN (strP gg xs c p) (atomsN gg).toNat := by
  rw [strL, fromL_sel gg xs p h _ (atN_set gg c)]
  refine selN_congr _ _ _ fun y hy => ?_
  rw [strP, atN, any_selN]
  exact anyN_congr _ _ _ fun x hx => by rw [memP_selN _ _ _ hx]
theorem okP_sig (gg : GSig) (p : GProg) (h : okP gg p = true) : sigOk gg = true := by
  simp only [okP, Bool.and_eq_true] at h; exact h.1
theorem okP_tree (gg : GSig) (p : GProg) (h : isP gg p = true) : treeP gg p = true := by
  simp only [isP, shPB, Bool.and_eq_true] at h; exact h.1.1
theorem okL_of (gg : GSig) (xs : List GPremise) (p : GProg) (h1 : premsOk gg xs = true) (h2 : isP gg p = true) : okL gg xs p := ⟨premsOk_sig gg xs h1, premsOk_gd gg xs h1, okP_tree gg p h2⟩
theorem okL_okP (gg : GSig) (xs : List GPremise) (p : GProg) (h1 : premsOk gg xs = true) (h2 : okP gg p = true) : okL gg xs p := by
  simp only [okP, Bool.and_eq_true] at h2
  exact okL_of gg xs p h1 h2.2
theorem premsOk_nil (gg : GSig) (h : sigOk gg = true) : premsOk gg [] = true := by simp [premsOk, h, allL]
theorem premsOk_nil' (gg : GSig) : premsOk gg [] = sigOk gg := by simp [premsOk, allL]
theorem okC_isC (gg : GSig) (c : GExpr) (h : okC gg c = true) : isC gg c = true := by rw [okC_eqP, Bool.and_eq_true] at h; exact h.2

def k_impl_atomsOf : Ctr := ⟨n_impl_atomsOf, [.v (.st .sig), .v (.st .expr)], fun (gg : GSig) (c : GExpr) => ⟨(some (sigOk gg = true ∧ goodC c = true), [⟨(.slice (.int .i64)), atN gg c⟩])⟩⟩
def l_impl_atomsOf (gg : GSig) (c : GExpr) : Nat → LoopInv := (fun zb => if Nat.beq zb 0 then .mk (Nat) (fun k => k ≤ (atomsN gg).toNat) (fun k => (atomsN gg).toNat - k) [] [0, 1, 2, 7, 8] (fun k => [(10, .imm ⟨(.int .i64), ((k : Int) : Int)⟩), (5, .row 7)]) [3, 4, 5, 6, 9, 10, 11, 12, 13, 14, 15, 16, 17, 18, 19, 20, 21] (fun k => [(7, .row T_int64 (.int .i64) (selN (truP c) k : List Int))]) [] [] (fun k => fun _ => .none) else .none)
theorem vc_impl_atomsOf (gg : GSig) (c : GExpr) : awp (envOf [k_impl_atomsIn, k_impl_truth] [] [] [2, 3]) (bodyOf f_impl_atomsOf) (l_impl_atomsOf gg c) 0 (funPost (envOf [k_impl_atomsIn, k_impl_truth] [] [] [2, 3]) f_impl_atomsOf fun r => areEq r [⟨(.slice (.int .i64)), atN gg c⟩]) (startState f_impl_atomsOf [.val ⟨(.st .sig), gg⟩, .val ⟨(.st .expr), c⟩]) =
  (((0 ≤ gg.tests ∧ gg.tests ≤ 3) ∧ (inI64 (atomsN gg) →
 ((∃ k1 : Nat, (k1 ≤ (atomsN gg).toNat ∧ ((c = c ∧ (True ∧ (True ∧ ((atomsN gg) = (atomsN gg) ∧ ((0 : Int) = (k1 : Int) ∧ True))))) ∧ ([] = (selN (truP c) k1) ∧ True)))) ∧ (∀ k1 : Nat, (k1 ≤ (atomsN gg).toNat →
 (((decide ((k1 : Int) < (atomsN gg))) = true →
 ((goodC c = true ∧ 0 ≤ (k1 : Int) ∧ (k1 : Int) ≤ 4096) ∧ (((truE (k1 : Int) c) = true →
 (roomOk ((selN (truP c) k1).length + ([(k1 : Int)]).length) 8 ∧ (inI64 ((k1 : Int) + (1 : Int)) ∧ (∃ k2 : Nat, (k2 ≤ (atomsN gg).toNat ∧ ((atomsN gg).toNat - k2 < (atomsN gg).toNat - k1 ∧ ((c = c ∧ (True ∧ (True ∧ ((atomsN gg) = (atomsN gg) ∧ (((k1 : Int) + (1 : Int)) = (k2 : Int) ∧ True))))) ∧ (((selN (truP c) k1) ++ ([(k1 : Int)])) = (selN (truP c) k2) ∧ True)))))))) ∧ ((truE (k1 : Int) c) = false →
 (inI64 ((k1 : Int) + (1 : Int)) ∧ (∃ k2 : Nat, (k2 ≤ (atomsN gg).toNat ∧ ((atomsN gg).toNat - k2 < (atomsN gg).toNat - k1 ∧ ((c = c ∧ (True ∧ (True ∧ ((atomsN gg) = (atomsN gg) ∧ (((k1 : Int) + (1 : Int)) = (k2 : Int) ∧ True))))) ∧ ((selN (truP c) k1) = (selN (truP c) k2) ∧ True)))))))))) ∧ ((decide ((k1 : Int) < (atomsN gg))) = false →
 (selN (truP c) k1) = (atN gg c))))))))) := by kernel_rfl
set_option maxRecDepth 4000 in
set_option maxHeartbeats 1000000 in
theorem ok_impl_atomsOf (hE : AllGood [k_impl_atomsIn, k_impl_truth]) : Ctr.Good k_impl_atomsOf := by
  refine ⟨fnOk_of at_impl_atomsOf rfl (by decide), ?_⟩
  show ∀ (gg : GSig) (c : GExpr), (sigOk gg = true ∧ goodC c = true) → OkCall prog n_impl_atomsOf [.val ⟨(.st .sig), gg⟩, .val ⟨(.st .expr), c⟩] (· = [⟨(.slice (.int .i64)), atN gg c⟩])
  intro gg c hp
  refine ok_of_awp (wr := []) (cl := []) (ro := [2, 3]) hE at_impl_atomsOf body_impl_atomsOf (l_impl_atomsOf gg c) ?_
  rewrite [vc_impl_atomsOf gg c]
  have f1 := (sigOk_n gg hp.1)
  have f3 : ([] : List Int) = selN (truP c) 0 := rfl
  refine ⟨?_, fun a0 => ⟨⟨0, ⟨?_, ⟨⟨rfl, ⟨trivial, ⟨trivial, ⟨rfl, ⟨?_, trivial⟩⟩⟩⟩⟩, ⟨?_, trivial⟩⟩⟩⟩, fun k1 a1 => have b1x0 := selN_t (truP c) k1; have b1x1 := selN_f (truP c) k1; have b1x2 := selN_len (truP c) k1; have b1x3 := atN_eq gg c k1; have b1x4 := truP_eq c k1; ⟨fun a2 => ⟨?_, ⟨fun a3 => ⟨?_, ⟨?_, ⟨k1 + 1, ⟨?_, ⟨?_, ⟨⟨rfl, ⟨trivial, ⟨trivial, ⟨rfl, ⟨?_, trivial⟩⟩⟩⟩⟩, ⟨?_, trivial⟩⟩⟩⟩⟩⟩⟩, fun a3 => ⟨?_, ⟨k1 + 1, ⟨?_, ⟨?_, ⟨⟨rfl, ⟨trivial, ⟨trivial, ⟨rfl, ⟨?_, trivial⟩⟩⟩⟩⟩, ⟨?_, trivial⟩⟩⟩⟩⟩⟩⟩⟩, fun a2 => ?_⟩⟩⟩
  all_goals try and_intros
  all_goals first | with_reducible rfl | omega | (simp only [decide_eq_true_eq, decide_eq_false_iff_not, idxOk, inI64, inKind_u64, inKind_i64, u64_min, u64_max, roomOk, List.length_append, List.length_cons, List.length_nil] at *; omega) | grind

theorem good_impl_atomsOf : Ctr.Good k_impl_atomsOf := ok_impl_atomsOf ⟨good_impl_atomsIn, good_impl_truth, trivial⟩

def k_spec_l07Atoms : Ctr := ⟨n_spec_l07Atoms, [.v (.st .sig), .r (.st .expr)], fun (gg : GSig) (c : GExpr) => ⟨(some (sigOk gg = true ∧ goodC c = true), [⟨(.slice (.int .i64)), atN gg c⟩])⟩⟩
def l_spec_l07Atoms (gg : GSig) (c : GExpr) : Nat → LoopInv := (fun zb => if Nat.beq zb 0 then .mk (Nat) (fun k => k ≤ (atomsN gg).toNat) (fun k => (atomsN gg).toNat - k) [] [0, 3, 7] (fun k => [(6, .imm ⟨(.int .i64), ((k : Int) : Int)⟩), (5, .row 7)]) [1, 2, 4, 5, 6, 8, 9, 10, 11, 12, 13, 14, 15, 16, 17, 18, 19, 20, 21] (fun k => [(7, .row T_int64 (.int .i64) (selN (truP c) k : List Int))]) [] [] (fun k => fun _ => .none) else .none)
theorem vc_spec_l07Atoms (gg : GSig) (c : GExpr) : awp (envOf [k_spec_l01Atoms, k_spec_l01True] [] [] [2]) (bodyOf f_spec_l07Atoms) (l_spec_l07Atoms gg c) 0 (funPost (envOf [k_spec_l01Atoms, k_spec_l01True] [] [] [2]) f_spec_l07Atoms fun r => areEq r [⟨(.slice (.int .i64)), atN gg c⟩]) (startState f_spec_l07Atoms [.val ⟨(.st .sig), gg⟩, .ref ⟨(.st .expr), c⟩]) =
  (((∃ k1 : Nat, (k1 ≤ (atomsN gg).toNat ∧ ((c = c ∧ (gg = gg ∧ (True ∧ (True ∧ ((0 : Int) = (k1 : Int) ∧ True))))) ∧ ([] = (selN (truP c) k1) ∧ True)))) ∧ (∀ k1 : Nat, (k1 ≤ (atomsN gg).toNat →
 ((0 ≤ gg.tests ∧ gg.tests ≤ 3) ∧ (inI64 (atomsN gg) →
 (((decide ((k1 : Int) < (atomsN gg))) = true →
 ((goodC c = true ∧ 0 ≤ (k1 : Int) ∧ (k1 : Int) ≤ 4096) ∧ (((truE (k1 : Int) c) = true →
 (roomOk ((selN (truP c) k1).length + ([(k1 : Int)]).length) 8 ∧ (inI64 ((k1 : Int) + (1 : Int)) ∧ (∃ k2 : Nat, (k2 ≤ (atomsN gg).toNat ∧ ((atomsN gg).toNat - k2 < (atomsN gg).toNat - k1 ∧ ((c = c ∧ (gg = gg ∧ (True ∧ (True ∧ (((k1 : Int) + (1 : Int)) = (k2 : Int) ∧ True))))) ∧ (((selN (truP c) k1) ++ ([(k1 : Int)])) = (selN (truP c) k2) ∧ True)))))))) ∧ ((truE (k1 : Int) c) = false →
 (inI64 ((k1 : Int) + (1 : Int)) ∧ (∃ k2 : Nat, (k2 ≤ (atomsN gg).toNat ∧ ((atomsN gg).toNat - k2 < (atomsN gg).toNat - k1 ∧ ((c = c ∧ (gg = gg ∧ (True ∧ (True ∧ (((k1 : Int) + (1 : Int)) = (k2 : Int) ∧ True))))) ∧ ((selN (truP c) k1) = (selN (truP c) k2) ∧ True)))))))))) ∧ ((decide ((k1 : Int) < (atomsN gg))) = false →
 (selN (truP c) k1) = (atN gg c))))))))) := by kernel_rfl
set_option maxRecDepth 4000 in
set_option maxHeartbeats 1000000 in
theorem ok_spec_l07Atoms (hE : AllGood [k_spec_l01Atoms, k_spec_l01True]) : Ctr.Good k_spec_l07Atoms := by
  refine ⟨fnOk_of at_spec_l07Atoms rfl (by decide), ?_⟩
  show ∀ (gg : GSig) (c : GExpr), (sigOk gg = true ∧ goodC c = true) → OkCall prog n_spec_l07Atoms [.val ⟨(.st .sig), gg⟩, .ref ⟨(.st .expr), c⟩] (· = [⟨(.slice (.int .i64)), atN gg c⟩])
  intro gg c hp
  refine ok_of_awp (wr := []) (cl := []) (ro := [2]) hE at_spec_l07Atoms body_spec_l07Atoms (l_spec_l07Atoms gg c) ?_
  rewrite [vc_spec_l07Atoms gg c]
  have f1 := (sigOk_n gg hp.1)
  have f3 : ([] : List Int) = selN (truP c) 0 := rfl
  refine ⟨⟨0, ⟨?_, ⟨⟨rfl, ⟨rfl, ⟨trivial, ⟨trivial, ⟨?_, trivial⟩⟩⟩⟩⟩, ⟨?_, trivial⟩⟩⟩⟩, fun k1 a0 => have b0x0 := selN_t (truP c) k1; have b0x1 := selN_f (truP c) k1; have b0x2 := selN_len (truP c) k1; have b0x3 := atN_eq gg c k1; have b0x4 := truP_eq c k1; ⟨?_, fun a1 => ⟨fun a2 => ⟨?_, ⟨fun a3 => ⟨?_, ⟨?_, ⟨k1 + 1, ⟨?_, ⟨?_, ⟨⟨rfl, ⟨rfl, ⟨trivial, ⟨trivial, ⟨?_, trivial⟩⟩⟩⟩⟩, ⟨?_, trivial⟩⟩⟩⟩⟩⟩⟩, fun a3 => ⟨?_, ⟨k1 + 1, ⟨?_, ⟨?_, ⟨⟨rfl, ⟨rfl, ⟨trivial, ⟨trivial, ⟨?_, trivial⟩⟩⟩⟩⟩, ⟨?_, trivial⟩⟩⟩⟩⟩⟩⟩⟩, fun a2 => ?_⟩⟩⟩
  all_goals try and_intros
  all_goals first | with_reducible rfl | omega | (simp only [decide_eq_true_eq, decide_eq_false_iff_not, idxOk, inI64, inKind_u64, inKind_i64, u64_min, u64_max, roomOk, List.length_append, List.length_cons, List.length_nil] at *; omega) | grind

theorem good_spec_l07Atoms : Ctr.Good k_spec_l07Atoms := ok_spec_l07Atoms ⟨good_spec_l01Atoms, good_spec_l01True, trivial⟩

def k_spec_l07Sure : Ctr := ⟨n_spec_l07Sure, [.v (.st .sig), .v (.slice (.st .premise)), .r (.st .prog), .r (.st .expr)], fun (gg : GSig) (xs : List GPremise) (p : GProg) (c : GExpr) => ⟨(some (okL gg xs p ∧ premsOk gg xs = true ∧ goodC c = true), [⟨(.slice (.int .i64)), wkL (leadT (atomsN gg) xs p) c⟩])⟩⟩
def l_spec_l07Sure (gg : GSig) (xs : List GPremise) (p : GProg) (c : GExpr) : Nat → LoopInv := (fun zb => if Nat.beq zb 0 then .mk (Nat) (fun k => k ≤ (atomsN gg).toNat) (fun k => (atomsN gg).toNat - k) [] [0, 5, 6, 7, 11, 13] (fun k => [(10, .imm ⟨(.int .i64), ((k : Int) : Int)⟩), (9, .row 13)]) [1, 2, 3, 4, 8, 9, 10, 12, 14, 15, 16, 17, 18, 19, 20, 21, 22, 23, 24, 25, 26, 27, 28, 29, 30, 31, 32, 33, 34, 35, 36, 37, 38] (fun k => [(13, .row T_int64 (.int .i64) (selN (wkAt (leadT (atomsN gg) xs p) c) k : List Int))]) [] [] (fun k => fun _ => .none) else .none)
theorem vc_spec_l07Sure (gg : GSig) (xs : List GPremise) (p : GProg) (c : GExpr) : awp (envOf [k_spec_l01Atoms, k_spec_l07From, k_spec_l07Parted] [] [] [4]) (bodyOf f_spec_l07Sure) (l_spec_l07Sure gg xs p c) 0 (funPost (envOf [k_spec_l01Atoms, k_spec_l07From, k_spec_l07Parted] [] [] [4]) f_spec_l07Sure fun r => areEq r [⟨(.slice (.int .i64)), wkL (leadT (atomsN gg) xs p) c⟩]) (startState f_spec_l07Sure [.val ⟨(.st .sig), gg⟩, .val ⟨(.slice (.st .premise)), xs⟩, .ref ⟨(.st .prog), p⟩, .ref ⟨(.st .expr), c⟩]) =
  (((∃ k1 : Nat, (k1 ≤ (atomsN gg).toNat ∧ ((xs = xs ∧ (p = p ∧ (c = c ∧ (gg = gg ∧ (True ∧ (True ∧ ((0 : Int) = (k1 : Int) ∧ True))))))) ∧ ([] = (selN (wkAt (leadT (atomsN gg) xs p) c) k1) ∧ True)))) ∧ (∀ k1 : Nat, (k1 ≤ (atomsN gg).toNat →
 ((0 ≤ gg.tests ∧ gg.tests ≤ 3) ∧ (inI64 (atomsN gg) →
 (((decide ((k1 : Int) < (atomsN gg))) = true →
 ((okL gg xs p ∧ premsOk gg xs = true ∧ isSet (atomsN gg) ([(k1 : Int)])) ∧ ((fromL gg xs p ([(k1 : Int)])).length ≤ 140737488355328 →
 ((goodC c = true ∧ (fromL gg xs p ([(k1 : Int)])).length ≤ 1048576 ∧ ∀ i, i < (fromL gg xs p ([(k1 : Int)])).length → 0 ≤ (fromL gg xs p ([(k1 : Int)])).getD i 0 ∧ (fromL gg xs p ([(k1 : Int)])).getD i 0 ≤ 4096) ∧ ((yesL c (fromL gg xs p ([(k1 : Int)]))).length ≤ 140737488355328 →
 ((noL c (fromL gg xs p ([(k1 : Int)]))).length ≤ 140737488355328 →
 (inI64 (((noL c (fromL gg xs p ([(k1 : Int)]))).length : Int)) →
 (((decide ((((noL c (fromL gg xs p ([(k1 : Int)]))).length : Int)) = (0 : Int))) = true →
 (roomOk ((selN (wkAt (leadT (atomsN gg) xs p) c) k1).length + ([(k1 : Int)]).length) 8 ∧ (inI64 ((k1 : Int) + (1 : Int)) ∧ (∃ k2 : Nat, (k2 ≤ (atomsN gg).toNat ∧ ((atomsN gg).toNat - k2 < (atomsN gg).toNat - k1 ∧ ((xs = xs ∧ (p = p ∧ (c = c ∧ (gg = gg ∧ (True ∧ (True ∧ (((k1 : Int) + (1 : Int)) = (k2 : Int) ∧ True))))))) ∧ (((selN (wkAt (leadT (atomsN gg) xs p) c) k1) ++ ([(k1 : Int)])) = (selN (wkAt (leadT (atomsN gg) xs p) c) k2) ∧ True)))))))) ∧ ((decide ((((noL c (fromL gg xs p ([(k1 : Int)]))).length : Int)) = (0 : Int))) = false →
 (inI64 ((k1 : Int) + (1 : Int)) ∧ (∃ k2 : Nat, (k2 ≤ (atomsN gg).toNat ∧ ((atomsN gg).toNat - k2 < (atomsN gg).toNat - k1 ∧ ((xs = xs ∧ (p = p ∧ (c = c ∧ (gg = gg ∧ (True ∧ (True ∧ (((k1 : Int) + (1 : Int)) = (k2 : Int) ∧ True))))))) ∧ ((selN (wkAt (leadT (atomsN gg) xs p) c) k1) = (selN (wkAt (leadT (atomsN gg) xs p) c) k2) ∧ True))))))))))))))) ∧ ((decide ((k1 : Int) < (atomsN gg))) = false →
 (selN (wkAt (leadT (atomsN gg) xs p) c) k1) = (wkL (leadT (atomsN gg) xs p) c))))))))) := by kernel_rfl
set_option maxRecDepth 4000 in
set_option maxHeartbeats 1000000 in
theorem ok_spec_l07Sure (hE : AllGood [k_spec_l01Atoms, k_spec_l07From, k_spec_l07Parted]) : Ctr.Good k_spec_l07Sure := by
  refine ⟨fnOk_of at_spec_l07Sure rfl (by decide), ?_⟩
  show ∀ (gg : GSig) (xs : List GPremise) (p : GProg) (c : GExpr), (okL gg xs p ∧ premsOk gg xs = true ∧ goodC c = true) → OkCall prog n_spec_l07Sure [.val ⟨(.st .sig), gg⟩, .val ⟨(.slice (.st .premise)), xs⟩, .ref ⟨(.st .prog), p⟩, .ref ⟨(.st .expr), c⟩] (· = [⟨(.slice (.int .i64)), wkL (leadT (atomsN gg) xs p) c⟩])
  intro gg xs p c hp
  refine ok_of_awp (wr := []) (cl := []) (ro := [4]) hE at_spec_l07Sure body_spec_l07Sure (l_spec_l07Sure gg xs p c) ?_
  rewrite [vc_spec_l07Sure gg xs p c]
  have f1 := (sigOk_n gg hp.1.sig)
  have f2 := (leadT_sq gg (atomsN gg) xs p hp.1.tree).len
  have f3 : ([] : List Int) = selN (wkAt (leadT (atomsN gg) xs p) c) 0 := rfl
  refine ⟨⟨0, ⟨?_, ⟨⟨rfl, ⟨rfl, ⟨rfl, ⟨rfl, ⟨trivial, ⟨trivial, ⟨?_, trivial⟩⟩⟩⟩⟩⟩⟩, ⟨?_, trivial⟩⟩⟩⟩, fun k1 a0 => have b0x0 := selN_t (wkAt (leadT (atomsN gg) xs p) c) k1; have b0x1 := selN_f (wkAt (leadT (atomsN gg) xs p) c) k1; have b0x2 := selN_len (wkAt (leadT (atomsN gg) xs p) c) k1; have b0x3 := wkL_eq (leadT (atomsN gg) xs p) c k1; have b0x4 := one_from gg xs p c hp.1 k1; have b0x5 := isSet_one gg k1; have b0x6 := (fun h => set_in gg hp.1.sig _ (fromL_set gg xs p hp.1 _ (isSet_one gg k1 h))); ⟨?_, fun a1 => ⟨fun a2 => ⟨?_, fun a3 => ⟨?_, fun a4 => fun a5 => fun a6 => ⟨fun a7 => ⟨?_, ⟨?_, ⟨k1 + 1, ⟨?_, ⟨?_, ⟨⟨rfl, ⟨rfl, ⟨rfl, ⟨rfl, ⟨trivial, ⟨trivial, ⟨?_, trivial⟩⟩⟩⟩⟩⟩⟩, ⟨?_, trivial⟩⟩⟩⟩⟩⟩⟩, fun a7 => ⟨?_, ⟨k1 + 1, ⟨?_, ⟨?_, ⟨⟨rfl, ⟨rfl, ⟨rfl, ⟨rfl, ⟨trivial, ⟨trivial, ⟨?_, trivial⟩⟩⟩⟩⟩⟩⟩, ⟨?_, trivial⟩⟩⟩⟩⟩⟩⟩⟩⟩, fun a2 => ?_⟩⟩⟩
  all_goals try and_intros
  all_goals first | with_reducible rfl | omega | (simp only [decide_eq_true_eq, decide_eq_false_iff_not, idxOk, inI64, inKind_u64, inKind_i64, u64_min, u64_max, roomOk, List.length_append, List.length_cons, List.length_nil] at *; omega) | grind

theorem good_spec_l07Sure : Ctr.Good k_spec_l07Sure := ok_spec_l07Sure ⟨good_spec_l01Atoms, good_spec_l07From, good_spec_l07Parted, trivial⟩

def k_spec_l07Holds : Ctr := ⟨n_spec_l07Holds, [.v (.st .sig), .v (.slice (.st .premise)), .r (.st .triple)], fun (gg : GSig) (xs : List GPremise) (t : GTriple) => ⟨(some (okL gg xs t.prog ∧ premsOk gg xs = true ∧ goodC t.pre = true ∧ goodC t.post = true), [⟨.bool, hoB gg xs t⟩])⟩⟩
def l_spec_l07Holds (gg : GSig) (xs : List GPremise) (t : GTriple) : Nat → LoopInv := fun _ => .none
theorem vc_spec_l07Holds (gg : GSig) (xs : List GPremise) (t : GTriple) : awp (envOf [k_spec_l07Atoms, k_spec_l07From, k_spec_l07Parted] [] [] [3]) (bodyOf f_spec_l07Holds) (l_spec_l07Holds gg xs t) 0 (funPost (envOf [k_spec_l07Atoms, k_spec_l07From, k_spec_l07Parted] [] [] [3]) f_spec_l07Holds fun r => areEq r [⟨.bool, hoB gg xs t⟩]) (startState f_spec_l07Holds [.val ⟨(.st .sig), gg⟩, .val ⟨(.slice (.st .premise)), xs⟩, .ref ⟨(.st .triple), t⟩]) =
  (((sigOk gg = true ∧ goodC t.pre = true) ∧ ((okL gg xs t.prog ∧ premsOk gg xs = true ∧ isSet (atomsN gg) (atN gg t.pre)) ∧ ((goodC t.post = true ∧ (fromL gg xs t.prog (atN gg t.pre)).length ≤ 1048576 ∧ ∀ i, i < (fromL gg xs t.prog (atN gg t.pre)).length → 0 ≤ (fromL gg xs t.prog (atN gg t.pre)).getD i 0 ∧ (fromL gg xs t.prog (atN gg t.pre)).getD i 0 ≤ 4096) ∧ ((atN gg t.pre).length ≤ 140737488355328 →
 ((fromL gg xs t.prog (atN gg t.pre)).length ≤ 140737488355328 →
 ((yesL t.post (fromL gg xs t.prog (atN gg t.pre))).length ≤ 140737488355328 →
 ((noL t.post (fromL gg xs t.prog (atN gg t.pre))).length ≤ 140737488355328 →
 (inI64 (((noL t.post (fromL gg xs t.prog (atN gg t.pre))).length : Int)) →
 (decide ((((noL t.post (fromL gg xs t.prog (atN gg t.pre))).length : Int)) = (0 : Int))) = (hoB gg xs t)))))))))) := by kernel_rfl
set_option maxRecDepth 4000 in
set_option maxHeartbeats 1000000 in
theorem ok_spec_l07Holds (hE : AllGood [k_spec_l07Atoms, k_spec_l07From, k_spec_l07Parted]) : Ctr.Good k_spec_l07Holds := by
  refine ⟨fnOk_of at_spec_l07Holds rfl (by decide), ?_⟩
  show ∀ (gg : GSig) (xs : List GPremise) (t : GTriple), (okL gg xs t.prog ∧ premsOk gg xs = true ∧ goodC t.pre = true ∧ goodC t.post = true) → OkCall prog n_spec_l07Holds [.val ⟨(.st .sig), gg⟩, .val ⟨(.slice (.st .premise)), xs⟩, .ref ⟨(.st .triple), t⟩] (· = [⟨.bool, hoB gg xs t⟩])
  intro gg xs t hp
  refine ok_of_awp (wr := []) (cl := []) (ro := [3]) hE at_spec_l07Holds body_spec_l07Holds (l_spec_l07Holds gg xs t) ?_
  rewrite [vc_spec_l07Holds gg xs t]
  have f1 := hold_from gg xs t hp.1
  have f2 := atN_set gg t.pre
  have f3 := hp.1.sig
  have f4 := set_in gg hp.1.sig _ (fromL_set gg xs t.prog hp.1 _ (atN_set gg t.pre))
  refine ⟨?_, ⟨?_, ⟨?_, fun a0 => fun a1 => fun a2 => fun a3 => fun a4 => ?_⟩⟩⟩
  all_goals try and_intros
  all_goals first | with_reducible rfl | omega | (simp only [decide_eq_true_eq, decide_eq_false_iff_not, idxOk, inI64, inKind_u64, inKind_i64, u64_min, u64_max, roomOk, List.length_append, List.length_cons, List.length_nil] at *; omega) | grind

theorem good_spec_l07Holds : Ctr.Good k_spec_l07Holds := ok_spec_l07Holds ⟨good_spec_l07Atoms, good_spec_l07From, good_spec_l07Parted, trivial⟩

def k_impl_holdsUnder : Ctr := ⟨n_impl_holdsUnder, [.v (.st .sig), .v (.slice (.st .premise)), .v (.st .triple)], fun (gg : GSig) (xs : List GPremise) (t : GTriple) => ⟨(some (okL gg xs t.prog ∧ goodC t.pre = true ∧ goodC t.post = true), [⟨.bool, hoB gg xs t⟩])⟩⟩
def l_impl_holdsUnder (gg : GSig) (xs : List GPremise) (t : GTriple) : Nat → LoopInv := (fun zb => if Nat.beq zb 0 then .mk (Nat) (fun k => k ≤ (atN gg t.pre).length ∧ allL (fun x => decide (x ∈ wkL (leadT (atomsN gg) xs t.prog) t.post)) ((atN gg t.pre).take k) = true) (fun k => (atN gg t.pre).length - k) [] [0, 1, 2, 3, 4, 5, 8, 10, 11, 12, 13, 14, 15, 16, 17, 18, 19] (fun k => [(22, .imm ⟨(.int .i64), ((k : Int) : Int)⟩)]) [6, 7, 9, 20, 21, 22, 23, 24, 25, 26, 27, 28, 29, 30] (fun k => []) [] [] (fun k => fun _ => .none) else .none)
theorem vc_impl_holdsUnder (gg : GSig) (xs : List GPremise) (t : GTriple) : awp (envOf [k_impl_weakest, k_impl_atomsOf, k_slices_Contains_int64] [] [] [3, 5]) (bodyOf f_impl_holdsUnder) (l_impl_holdsUnder gg xs t) 0 (funPost (envOf [k_impl_weakest, k_impl_atomsOf, k_slices_Contains_int64] [] [] [3, 5]) f_impl_holdsUnder fun r => areEq r [⟨.bool, hoB gg xs t⟩]) (startState f_impl_holdsUnder [.val ⟨(.st .sig), gg⟩, .val ⟨(.slice (.st .premise)), xs⟩, .val ⟨(.st .triple), t⟩]) =
  (((okL gg xs t.prog ∧ goodC t.post = true) ∧ ((wkL (leadT (atomsN gg) xs t.prog) t.post).length ≤ 140737488355328 →
 ((sigOk gg = true ∧ goodC t.pre = true) ∧ ((atN gg t.pre).length ≤ 140737488355328 →
 (inI64 (((atN gg t.pre).length : Int)) →
 ((∃ k1 : Nat, ((k1 ≤ (atN gg t.pre).length ∧ allL (fun x => decide (x ∈ wkL (leadT (atomsN gg) xs t.prog) t.post)) ((atN gg t.pre).take k1) = true) ∧ (((wkL (leadT (atomsN gg) xs t.prog) t.post) = (wkL (leadT (atomsN gg) xs t.prog) t.post) ∧ ((atN gg t.pre) = (atN gg t.pre) ∧ ((((atN gg t.pre).length : Int)) = (((atN gg t.pre).length : Int)) ∧ ((0 : Int) = (k1 : Int) ∧ True)))) ∧ True))) ∧ (∀ k1 : Nat, ((k1 ≤ (atN gg t.pre).length ∧ allL (fun x => decide (x ∈ wkL (leadT (atomsN gg) xs t.prog) t.post)) ((atN gg t.pre).take k1) = true) →
 (((decide ((k1 : Int) < (((atN gg t.pre).length : Int)))) = true →
 (idxOk (k1 : Int) (atN gg t.pre).length ∧ (inI64 ((atN gg t.pre).getD k1 (0 : Int)) →
 (((!(decide (((atN gg t.pre).getD k1 (0 : Int)) ∈ (wkL (leadT (atomsN gg) xs t.prog) t.post)))) = true →
 false = (hoB gg xs t)) ∧ ((!(decide (((atN gg t.pre).getD k1 (0 : Int)) ∈ (wkL (leadT (atomsN gg) xs t.prog) t.post)))) = false →
 (inI64 ((k1 : Int) + (1 : Int)) ∧ (∃ k2 : Nat, ((k2 ≤ (atN gg t.pre).length ∧ allL (fun x => decide (x ∈ wkL (leadT (atomsN gg) xs t.prog) t.post)) ((atN gg t.pre).take k2) = true) ∧ ((atN gg t.pre).length - k2 < (atN gg t.pre).length - k1 ∧ (((wkL (leadT (atomsN gg) xs t.prog) t.post) = (wkL (leadT (atomsN gg) xs t.prog) t.post) ∧ ((atN gg t.pre) = (atN gg t.pre) ∧ ((((atN gg t.pre).length : Int)) = (((atN gg t.pre).length : Int)) ∧ (((k1 : Int) + (1 : Int)) = (k2 : Int) ∧ True)))) ∧ True)))))))))) ∧ ((decide ((k1 : Int) < (((atN gg t.pre).length : Int)))) = false →
 true = (hoB gg xs t)))))))))))) := by kernel_rfl
set_option maxRecDepth 4000 in
set_option maxHeartbeats 1000000 in
theorem ok_impl_holdsUnder (hE : AllGood [k_impl_weakest, k_impl_atomsOf, k_slices_Contains_int64]) : Ctr.Good k_impl_holdsUnder := by
  refine ⟨fnOk_of at_impl_holdsUnder rfl (by decide), ?_⟩
  show ∀ (gg : GSig) (xs : List GPremise) (t : GTriple), (okL gg xs t.prog ∧ goodC t.pre = true ∧ goodC t.post = true) → OkCall prog n_impl_holdsUnder [.val ⟨(.st .sig), gg⟩, .val ⟨(.slice (.st .premise)), xs⟩, .val ⟨(.st .triple), t⟩] (· = [⟨.bool, hoB gg xs t⟩])
  intro gg xs t hp
  refine ok_of_awp (wr := []) (cl := []) (ro := [3, 5]) hE at_impl_holdsUnder body_impl_holdsUnder (l_impl_holdsUnder gg xs t) ?_
  rewrite [vc_impl_holdsUnder gg xs t]
  have f0 := all_zero (fun x => decide (x ∈ wkL (leadT (atomsN gg) xs t.prog) t.post)) (atN gg t.pre)
  have f1 : hoB gg xs t = allL (fun x => decide (x ∈ wkL (leadT (atomsN gg) xs t.prog) t.post)) (atN gg t.pre) := rfl
  have f3 := hp.1.sig
  refine ⟨?_, fun a0 => ⟨?_, fun a1 => fun a2 => ⟨⟨0, ⟨?_, ⟨⟨rfl, ⟨rfl, ⟨rfl, ⟨?_, trivial⟩⟩⟩⟩, trivial⟩⟩⟩, fun k1 a3 => have b3x0 := all_take (fun x => decide (x ∈ wkL (leadT (atomsN gg) xs t.prog) t.post)) 0 (atN gg t.pre) k1; have b3x1 := all_bad (fun x => decide (x ∈ wkL (leadT (atomsN gg) xs t.prog) t.post)) 0 (atN gg t.pre) k1; have b3x2 := all_done (fun x => decide (x ∈ wkL (leadT (atomsN gg) xs t.prog) t.post)) (atN gg t.pre) k1; ⟨fun a4 => ⟨?_, fun a5 => ⟨fun a6 => ?_, fun a6 => ⟨?_, ⟨k1 + 1, ⟨?_, ⟨?_, ⟨⟨rfl, ⟨rfl, ⟨rfl, ⟨?_, trivial⟩⟩⟩⟩, trivial⟩⟩⟩⟩⟩⟩⟩, fun a4 => ?_⟩⟩⟩⟩
  all_goals try and_intros
  all_goals try rw [f1]
  all_goals first | with_reducible rfl | omega | (simp only [decide_eq_true_eq, decide_eq_false_iff_not, idxOk, inI64, inKind_u64, inKind_i64, u64_min, u64_max, roomOk, List.length_append, List.length_cons, List.length_nil] at *; omega) | grind

theorem good_impl_holdsUnder : Ctr.Good k_impl_holdsUnder := ok_impl_holdsUnder ⟨good_impl_weakest, good_impl_atomsOf, good_slices_Contains_int64, trivial⟩

end
end Go.Proofs.Ytcdppmpjplhgkaa

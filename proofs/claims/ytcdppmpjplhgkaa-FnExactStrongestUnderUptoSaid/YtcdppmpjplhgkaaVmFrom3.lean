/- What lies behind the allowed words: the reference walks the same relation. Printed by vmk.py. -/
import Derived.Test.YtcdppmpjplhgkaaVmUse
import Derived.Test.YtcdppmpjplhgkaaVmLib
import Derived.Test.YtcdppmpjplhgkaaVmAllows
import Derived.Test.YtcdppmpjplhgkaaVmProg
import Derived.Test.YtcdppmpjplhgkaaVmLeads
import Derived.Test.YtcdppmpjplhgkaaVmLeads2
import Derived.Test.YtcdppmpjplhgkaaVmLeads3
import Derived.Test.YtcdppmpjplhgkaaVmFrom
import Derived.Test.YtcdppmpjplhgkaaVmFrom2
set_option linter.unusedVariables false
set_option linter.unusedSimpArgs false
set_option linter.unusedSectionVars false
namespace Go.Proofs.Ytcdppmpjplhgkaa
noncomputable section

theorem selN_le (p q : Nat → Bool) : ∀ n, (∀ k, k < n → p k = true → q k = true) → (selN p n).length ≤ (selN q n).length ∧ ((selN p n).length = (selN q n).length → ∀ k, k < n → p k = q k)
  | 0, _ => ⟨Nat.le_refl _, fun _ k h => by omega⟩
  | n + 1, h => by
    obtain ⟨h1, h2⟩ := selN_le p q n fun k hk => h k (by omega)
    have h3 := h n (by omega)
    simp only [selN, List.length_append]
    cases e1 : p n <;> cases e2 : q n
    · refine ⟨by simpa using h1, fun he k hk => ?_⟩
      rcases Nat.lt_or_ge k n with hk' | hk'
      · exact h2 (by simpa using he) k hk'
      · have : k = n := by omega
        subst this; rw [e1, e2]
    · refine ⟨by simp; omega, fun he => ?_⟩
      simp at he; omega
    · rw [e1, e2] at h3; simp at h3
    · refine ⟨by simpa using h1, fun he k hk => ?_⟩
      rcases Nat.lt_or_ge k n with hk' | hk'
      · exact h2 (by simpa using he) k hk'
      · have : k = n := by omega
        subst this; rw [e1, e2]
theorem any_selN (p : Nat → Bool) (q : Int → Bool) : ∀ n, (selN p n).any q = anyN (fun k => p k && q (k : Int)) n
  | 0 => rfl
  | n + 1 => by
    rw [selN, List.any_append, any_selN p q n, anyN]
    cases p n <;> simp
theorem all_selN (p : Nat → Bool) (q : Int → Bool) : ∀ n, allL q (selN p n) = allN (fun k => !p k || q (k : Int)) n
  | 0 => rfl
  | n + 1 => by
    rw [selN, allL_append, all_selN p q n, allN]
    cases p n <;> simp [allL]
theorem boolIff {a b : Bool} (h : a = true ↔ b = true) : a = b := by
  cases a <;> cases b <;> simp at h ⊢
/-- So many steps of a relation, or fewer. -/
def relR (n : Nat) (st : Nat → Nat → Bool) : Nat → Nat → Nat → Bool
  | 0, x, y => decide (x = y)
  | j + 1, x, y => relR n st j x y || anyN (fun z => relR n st j x z && st z y) n
def wpR (n : Nat) (st : Nat → Nat → Bool) (s : Nat → Bool) (k y : Nat) : Bool := anyN (fun x => s x && relR n st k x y) n
section
variable (n : Nat) (st : Nat → Nat → Bool) (s : Nat → Bool)
theorem wpR_zero (y : Nat) (hy : y < n) : wpR n st s 0 y = s y := by
  apply boolIff
  simp only [wpR, relR, anyN_iff, Bool.and_eq_true, decide_eq_true_eq]
  constructor
  · rintro ⟨x, _, h, rfl⟩; exact h
  · intro h; exact ⟨y, hy, h, rfl⟩
theorem wpR_succ (k y : Nat) : wpR n st s (k + 1) y = (wpR n st s k y || anyN (fun z => wpR n st s k z && st z y) n) := by
  apply boolIff
  simp only [wpR, relR, anyN_iff, Bool.and_eq_true, Bool.or_eq_true]
  constructor
  · rintro ⟨x, hx, h1, h2 | ⟨z, hz, h2, h3⟩⟩
    · exact .inl ⟨x, hx, h1, h2⟩
    · exact .inr ⟨z, hz, ⟨x, hx, h1, h2⟩, h3⟩
  · rintro (⟨x, hx, h1, h2⟩ | ⟨z, hz, ⟨x, hx, h1, h2⟩, h3⟩)
    · exact ⟨x, hx, h1, .inl h2⟩
    · exact ⟨x, hx, h1, .inr ⟨z, hz, h2, h3⟩⟩
theorem wpR_up (k y : Nat) (h : wpR n st s k y = true) : wpR n st s (k + 1) y = true := by rw [wpR_succ, h]; rfl
theorem wpR_stay (k : Nat) (h : ∀ y, y < n → wpR n st s (k + 1) y = wpR n st s k y) : ∀ m y, y < n → wpR n st s (k + m) y = wpR n st s k y
  | 0, y, _ => rfl
  | m + 1, y, hy => by
    have e : anyN (fun z => wpR n st s (k + m) z && st z y) n = anyN (fun z => wpR n st s k z && st z y) n := anyN_congr _ _ _ fun z hz => by rw [wpR_stay k h m z hz]
    rw [Nat.add_succ, wpR_succ, wpR_stay k h m y hy, e, ← wpR_succ]
    exact h y hy
def wpS (k : Nat) : List Int := selN (wpR n st s k) n
theorem wpS_stay (k : Nat) (h : (wpS n st s (k + 1)).length = (wpS n st s k).length) (m y : Nat) (hm : k ≤ m) (hy : y < n) : wpR n st s m y = wpR n st s k y := by
  have := wpR_stay n st s k (fun y hy => ((selN_le _ _ n fun z _ hz => wpR_up n st s k z hz).2 h.symm y hy).symm) (m - k) y hy
  rwa [show k + (m - k) = m by omega] at this
theorem wpS_grow (k : Nat) : (wpS n st s k).length ≤ n ∧ (wpS n st s k).length ≤ (wpS n st s (k + 1)).length :=
  ⟨selN_len _ _, (selN_le _ _ n fun z _ hz => wpR_up n st s k z hz).1⟩
theorem wpS_some : ∀ k, (∃ j, j < k ∧ (wpS n st s (j + 1)).length = (wpS n st s j).length) ∨ k ≤ (wpS n st s k).length
  | 0 => .inr (Nat.zero_le _)
  | k + 1 => by
    rcases wpS_some k with ⟨j, h1, h2⟩ | h
    · exact .inl ⟨j, by omega, h2⟩
    · have := (wpS_grow n st s k).2
      by_cases e : (wpS n st s (k + 1)).length = (wpS n st s k).length
      · exact .inl ⟨k, by omega, e⟩
      · exact .inr (by omega)
theorem wpS_end (m y : Nat) (hm : n ≤ m) (hy : y < n) : wpR n st s m y = wpR n st s n y := by
  rcases wpS_some n st s (n + 1) with ⟨j, h1, h2⟩ | h
  · rw [wpS_stay n st s j h2 m y (by omega) hy, wpS_stay n st s j h2 n y (by omega) hy]
  · have := (wpS_grow n st s (n + 1)).1
    omega
theorem relR_add (i j x y : Nat) (hx : x < n) (hy : y < n) : relR n st (i + j) x y = anyN (fun z => relR n st i x z && relR n st j z y) n := by
  induction j generalizing y with
  | zero =>
    apply boolIff
    simp only [Nat.add_zero, relR, anyN_iff, Bool.and_eq_true, decide_eq_true_eq]
    constructor
    · intro h; exact ⟨y, hy, h, rfl⟩
    · rintro ⟨z, _, h, rfl⟩; exact h
  | succ j ih =>
    apply boolIff
    rw [← Nat.add_assoc, relR, ih y hy]
    simp only [relR, anyN_iff, Bool.and_eq_true, Bool.or_eq_true]
    constructor
    · rintro (⟨z, hz, h1, h2⟩ | ⟨z, hz, h1, h2⟩)
      · exact ⟨z, hz, h1, .inl h2⟩
      · rw [ih z hz, anyN_iff] at h1
        obtain ⟨v, hv, h3⟩ := h1
        simp only [Bool.and_eq_true] at h3
        exact ⟨v, hv, h3.1, .inr ⟨z, hz, h3.2, h2⟩⟩
    · rintro ⟨v, hv, h1, h2 | ⟨z, hz, h2, h3⟩⟩
      · exact .inl ⟨v, hv, h1, h2⟩
      · refine .inr ⟨z, hz, ?_, h3⟩
        rw [ih z hz, anyN_iff]
        exact ⟨v, hv, by simp [h1, h2]⟩
end
/-- What the reference walks. -/
def nextAll (gg : GSig) (xs : List GPremise) (act : Int) (al : List Int) : List Int := al.foldl (fun o x => unionL o (nextA gg xs act x)) []
def wL (f : List Int → List Int) (c : GExpr) (a : List Int) : Nat → List Int
  | 0 => a
  | k + 1 => unionL (wL f c a k) (f (yesL c (wL f c a k)))
def fromN (gg : GSig) (xs : List GPremise) (p : GProg) (fs : List (List Int → List Int)) (a : List Int) : List Int :=
  if p.kind = 1 then a else if p.kind = 2 then [] else if p.kind = 3 then nextAll gg xs p.num a
  else if p.kind = 5 then (fs.getD 1 id) ((fs.getD 0 id) a) else if p.kind = 4 then yesL p.cond a
  else if p.kind = 6 then unionL ((fs.getD 0 id) (yesL p.cond a)) ((fs.getD 1 id) (noL p.cond a))
  else noL p.cond (wL (fs.getD 0 id) p.cond a (atomsN gg).toNat)
mutual
def fromL (gg : GSig) (xs : List GPremise) : GProg → List Int → List Int
  | ⟨k, m, c, ks⟩ => fromN gg xs ⟨k, m, c, ks⟩ (fromLs gg xs ks)
def fromLs (gg : GSig) (xs : List GPremise) : List GProg → List (List Int → List Int)
  | [] => []
  | p :: ps => fromL gg xs p :: fromLs gg xs ps
end
theorem fromL_eq (gg : GSig) (xs : List GPremise) (p : GProg) : fromL gg xs p = fromN gg xs p (fromLs gg xs p.kids) := by cases p; rfl
theorem fromLs_getD (gg : GSig) (xs : List GPremise) (z : GProg) : ∀ (ps : List GProg) (i : Nat), i < ps.length → (fromLs gg xs ps).getD i id = fromL gg xs (ps.getD i z)
  | [], i, h => by simp at h
  | p :: ps, 0, h => rfl
  | p :: ps, i + 1, h => by
    have := fromLs_getD gg xs z ps i (by simpa using h)
    simpa [fromLs] using this
theorem nextA_sel (gg : GSig) (xs : List GPremise) (act x : Int) : nextA gg xs act x = selN (fun y => alwB xs act x (y : Int)) (atomsN gg).toNat := by
  unfold nextA
  generalize (atomsN gg).toNat = n
  induction n with
  | zero => rfl
  | succ n ih => rw [nextL, selN, ih]
theorem foldU (n : Int) (q : Int → Nat → Bool) : ∀ (al : List Int) (p : Nat → Bool), al.foldl (fun o x => unionL o (selN (q x) n.toNat)) (selN p n.toNat) = selN (fun y => p y || al.any fun x => q x y) n.toNat
  | [], p => selN_congr _ _ _ fun k _ => by simp
  | x :: al, p => by
    rw [List.foldl_cons, union_set, foldU n q al]
    exact selN_congr _ _ _ fun k _ => by simp [Bool.or_assoc]
theorem nextAll_sel (gg : GSig) (xs : List GPremise) (act : Int) (al : List Int) : nextAll gg xs act al = selN (fun y => al.any fun x => alwB xs act x (y : Int)) (atomsN gg).toNat := by
  unfold nextAll
  simp only [nextA_sel]
  have h := foldU (atomsN gg) (fun x y => alwB xs act x (y : Int)) al (fun _ => false)
  have e : selN (fun _ => false) (atomsN gg).toNat = [] := by
    generalize (atomsN gg).toNat = n
    induction n with
    | zero => rfl
    | succ n ih => simp [selN, ih]
  rw [e] at h
  rw [h]
  exact selN_congr _ _ _ fun k _ => by simp
theorem selN_false (n : Nat) : selN (fun _ => false) n = [] := by
  induction n with
  | zero => rfl
  | succ n ih => simp [selN, ih]
/-- The step of a loop's body. -/
def stB (c : GExpr) (t : List (List Bool)) (x y : Nat) : Bool := truE (x : Int) c && gt2 t (x : Int) (y : Int)
theorem wL_sel (n : Int) (f : List Int → List Int) (c : GExpr) (t : List (List Bool)) (hf : ∀ s, f (selN s n.toNat) = selN (fun y => anyN (fun x => s x && gt2 t (x : Int) (y : Int)) n.toNat) n.toNat) (s : Nat → Bool) :
    ∀ k, wL f c (selN s n.toNat) k = wpS n.toNat (stB c t) s k
  | 0 => selN_congr _ _ _ fun y hy => (wpR_zero _ _ _ y hy).symm
  | k + 1 => by
    rw [wL, wL_sel n f c t hf s k, wpS, yes_sel, hf, union_set]
    exact selN_congr _ _ _ fun y _ => by
      rw [wpR_succ]
      congr 1
      exact anyN_congr _ _ _ fun z _ => by simp [stB, Bool.and_assoc]
theorem pow_rel (N : Nat) (st : Nat → Nat → Bool) (t : List (List Bool)) (hs : sqT N t) (h : ∀ x y : Nat, x < N → y < N → gt2 t (x : Int) (y : Int) = relR N st 1 x y) : ∀ k x y, x < N → y < N → gt2 (powT t k) (x : Int) (y : Int) = relR N st (2 ^ k) x y
  | 0, x, y, hx, hy => h x y hx hy
  | k + 1, x, y, hx, hy => by
    have h1 := powT_sq N t hs k
    rw [powT, compT_at N _ _ h1 h1 _ _ (by omega) (by omega), Nat.pow_succ, Nat.mul_two, relR_add N st _ _ x y hx hy]
    exact anyN_congr _ _ _ fun z hz => by rw [andZ, pow_rel N st t hs h k x z hx hz, pow_rel N st t hs h k z y hz hy]
theorem kinds7 (gg : GSig) (p : GProg) (h : headP gg p = true) : p.kind = 1 ∨ p.kind = 2 ∨ p.kind = 3 ∨ p.kind = 4 ∨ p.kind = 5 ∨ p.kind = 6 ∨ p.kind = 7 := by
  rw [headP_eq] at h
  simp only [Bool.and_eq_true, decide_eq_true_eq] at h
  have h1 := h.1.1
  unfold kidsPN at h1
  repeat' split at h1
  all_goals omega
/-- The reference leads where the program's tables lead. -/
def Leads (gg : GSig) (xs : List GPremise) (f : List Int → List Int) (t : List (List Bool)) : Prop := ∀ s : Nat → Bool, f (selN s (atomsN gg).toNat) = selN (fun y => anyN (fun x => s x && gt2 t (x : Int) (y : Int)) (atomsN gg).toNat) (atomsN gg).toNat
theorem fromN_leads (gg : GSig) (xs : List GPremise) (p : GProg) (fs : List (List Int → List Int)) (ts : List (List (List Bool))) (hn : 1 ≤ atomsN gg) (hp : headP gg p = true)
    (hk : ∀ i, i < p.kids.length → Leads gg xs (fs.getD i id) (ts.getD i []) ∧ sqT (atomsN gg).toNat (ts.getD i [])) : Leads gg xs (fromN gg xs p fs) (leadN (atomsN gg) xs p ts) := by
  intro s
  have hN : ∀ x : Nat, x < (atomsN gg).toNat → (0 : Int) ≤ (x : Int) ∧ (x : Int) < atomsN gg := fun x hx => by omega
  have hkids := headP_kids gg p hp
  rcases kinds7 gg p hp with e | e | e | e | e | e | e
  · rw [fromN, if_pos e]
    refine selN_congr _ _ _ fun y hy => boolIff ?_
    rw [anyN_iff]
    constructor
    · intro h
      refine ⟨y, hy, ?_⟩
      rw [leadN, if_neg (by omega), if_neg (by omega), if_neg (by omega), gt2_tabF _ _ _ _ (hN y hy) (hN y hy), F_impl_leads_4_2, if_pos e]
      simp [h]
    · rintro ⟨x, hx, h⟩
      rw [leadN, if_neg (by omega), if_neg (by omega), if_neg (by omega), gt2_tabF _ _ _ _ (hN x hx) (hN y hy), F_impl_leads_4_2, if_pos e] at h
      simp only [Bool.and_eq_true, decide_eq_true_eq] at h
      have : x = y := by omega
      rw [← this]; exact h.1
  · rw [fromN, if_neg (by omega), if_pos e, ← selN_false (atomsN gg).toNat]
    refine selN_congr _ _ _ fun y hy => boolIff ?_
    rw [anyN_iff]
    constructor
    · intro h; cases h
    · rintro ⟨x, hx, h⟩
      rw [leadN, if_neg (by omega), if_neg (by omega), if_neg (by omega), gt2_tabF _ _ _ _ (hN x hx) (hN y hy), F_impl_leads_4_2, if_neg (by omega), if_neg (by omega), if_neg (by omega)] at h
      simp at h
  · rw [fromN, if_neg (by omega), if_neg (by omega), if_pos e, nextAll_sel]
    refine selN_congr _ _ _ fun y hy => ?_
    rw [any_selN]
    refine anyN_congr _ _ _ fun x hx => ?_
    rw [leadN, if_pos e, gt2_tabF _ _ _ _ (hN x hx) (hN y hy), F_impl_leads_1_2]
  · rw [fromN, if_neg (by omega), if_neg (by omega), if_neg (by omega), if_neg (by omega), if_pos e, yes_sel]
    refine selN_congr _ _ _ fun y hy => boolIff ?_
    rw [anyN_iff]
    constructor
    · intro h
      simp only [Bool.and_eq_true] at h
      refine ⟨y, hy, ?_⟩
      rw [leadN, if_neg (by omega), if_neg (by omega), if_neg (by omega), gt2_tabF _ _ _ _ (hN y hy) (hN y hy), F_impl_leads_4_2, if_neg (by omega), if_pos e]
      simp [h]
    · rintro ⟨x, hx, h⟩
      rw [leadN, if_neg (by omega), if_neg (by omega), if_neg (by omega), gt2_tabF _ _ _ _ (hN x hx) (hN y hy), F_impl_leads_4_2, if_neg (by omega), if_pos e] at h
      simp only [Bool.and_eq_true, decide_eq_true_eq] at h ⊢
      have : x = y := by omega
      rw [← this]; exact ⟨h.1, h.2.2⟩
  · have h2 := hkids.1 (.inl e)
    obtain ⟨h3, s0⟩ := hk 0 (by omega)
    obtain ⟨h4, s1⟩ := hk 1 (by omega)
    rw [fromN, if_neg (by omega), if_neg (by omega), if_neg (by omega), if_pos e, h3 s, h4]
    refine selN_congr _ _ _ fun y hy => boolIff ?_
    simp only [anyN_iff, Bool.and_eq_true]
    constructor
    · rintro ⟨z, hz, ⟨x, hx, h5, h6⟩, h7⟩
      refine ⟨x, hx, h5, ?_⟩
      rw [leadN, if_neg (by omega), if_pos e, compT_at _ _ _ s0 s1 _ _ (by omega) (by omega), anyN_iff]
      exact ⟨z, hz, by rw [andZ, h6, h7]; rfl⟩
    · rintro ⟨x, hx, h5, h6⟩
      rw [leadN, if_neg (by omega), if_pos e, compT_at _ _ _ s0 s1 _ _ (by omega) (by omega), anyN_iff] at h6
      obtain ⟨z, hz, h7⟩ := h6
      rw [andZ, Bool.and_eq_true] at h7
      exact ⟨z, hz, ⟨x, hx, h5, h7.1⟩, h7.2⟩
  · have h2 := hkids.1 (.inr e)
    obtain ⟨h3, s0⟩ := hk 0 (by omega)
    obtain ⟨h4, s1⟩ := hk 1 (by omega)
    rw [fromN, if_neg (by omega), if_neg (by omega), if_neg (by omega), if_neg (by omega), if_neg (by omega), if_pos e, yes_sel, no_sel, h3, h4, union_set]
    refine selN_congr _ _ _ fun y hy => boolIff ?_
    simp only [anyN_iff, Bool.and_eq_true, Bool.or_eq_true]
    have key : ∀ x, x < (atomsN gg).toNat → gt2 (leadN (atomsN gg) xs p ts) (x : Int) (y : Int) = if truE (x : Int) p.cond = true then gt2 (ts.getD 0 []) (x : Int) (y : Int) else gt2 (ts.getD 1 []) (x : Int) (y : Int) := fun x hx => by
      rw [leadN, if_neg (by omega), if_neg (by omega), if_neg (by omega), gt2_tabF _ _ _ _ (hN x hx) (hN y hy), F_impl_leads_4_2, if_neg (by omega), if_neg (by omega), if_pos e]
    constructor
    · rintro (⟨x, hx, ⟨h5, h6⟩, h7⟩ | ⟨x, hx, ⟨h5, h6⟩, h7⟩)
      · exact ⟨x, hx, h5, by rw [key x hx, if_pos h6]; exact h7⟩
      · exact ⟨x, hx, h5, by rw [key x hx, if_neg (by simpa using h6)]; exact h7⟩
    · rintro ⟨x, hx, h5, h6⟩
      rw [key x hx] at h6
      by_cases hc : truE (x : Int) p.cond = true
      · rw [if_pos hc] at h6; exact .inl ⟨x, hx, ⟨h5, hc⟩, h6⟩
      · rw [if_neg hc] at h6; exact .inr ⟨x, hx, ⟨h5, by simpa using hc⟩, h6⟩
  · have h2 := hkids.2 e
    obtain ⟨h3, s0⟩ := hk 0 (by omega)
    rw [fromN, if_neg (by omega), if_neg (by omega), if_neg (by omega), if_neg (by omega), if_neg (by omega), if_neg (by omega), wL_sel (atomsN gg) _ p.cond (ts.getD 0 []) h3 s, wpS, no_sel]
    refine selN_congr _ _ _ fun y hy => ?_
    have hw : ∀ x y : Nat, x < (atomsN gg).toNat → y < (atomsN gg).toNat → gt2 (tabF (atomsN gg) (F_impl_leads_2 p ts)) (x : Int) (y : Int) = relR (atomsN gg).toNat (stB p.cond (ts.getD 0 [])) 1 x y := fun x y hx hy => by
      rw [gt2_tabF _ _ _ _ (hN x hx) (hN y hy), F_impl_leads_2_2]
      refine boolIff ?_
      simp only [relR, anyN_iff, Bool.or_eq_true, Bool.and_eq_true, decide_eq_true_eq]
      constructor
      · rintro (h | h)
        · exact .inl (by omega)
        · exact .inr ⟨x, hx, rfl, by rw [stB, h.1, h.2]; rfl⟩
      · rintro (h | ⟨z, _, rfl, h⟩)
        · exact .inl (by omega)
        · rw [stB, Bool.and_eq_true] at h; exact .inr h
    have hp2 := pow_rel _ _ _ (tabF_sq (atomsN gg) (F_impl_leads_2 p ts)) hw (atomsN gg).toNat
    rw [← wpS_end _ _ _ (2 ^ (atomsN gg).toNat) y (Nat.le_of_lt Nat.lt_two_pow_self) hy]
    refine boolIff ?_
    simp only [wpR, anyN_iff, Bool.and_eq_true]
    constructor
    · rintro ⟨⟨x, hx, h5, h6⟩, h7⟩
      refine ⟨x, hx, h5, ?_⟩
      rw [leadN, if_neg (by omega), if_neg (by omega), if_pos e, gt2_tabF _ _ _ _ (hN x hx) (hN y hy), F_impl_leads_3_2, hp2 x y hx hy, h6, h7]; rfl
    · rintro ⟨x, hx, h5, h6⟩
      rw [leadN, if_neg (by omega), if_neg (by omega), if_pos e, gt2_tabF _ _ _ _ (hN x hx) (hN y hy), F_impl_leads_3_2, hp2 x y hx hy, Bool.and_eq_true] at h6
      exact ⟨⟨x, hx, h5, h6.1⟩, h6.2⟩
mutual
theorem fromL_leads (gg : GSig) (xs : List GPremise) (hn : 1 ≤ atomsN gg) : ∀ p : GProg, treeP gg p = true → Leads gg xs (fromL gg xs p) (leadT (atomsN gg) xs p)
  | ⟨k, m, c, ks⟩ => fun h => by
    rw [treeP_eq, Bool.and_eq_true] at h
    rw [fromL, leadT]
    exact fromN_leads gg xs ⟨k, m, c, ks⟩ _ _ hn h.1 fun i hi => ⟨fromLs_leads gg xs hn ks h.2 i hi, leadTs_sq gg (atomsN gg) xs ks h.2 i hi⟩
theorem fromLs_leads (gg : GSig) (xs : List GPremise) (hn : 1 ≤ atomsN gg) : ∀ ps : List GProg, allL (treeP gg) ps = true → ∀ i, i < ps.length → Leads gg xs ((fromLs gg xs ps).getD i id) ((leadTs (atomsN gg) xs ps).getD i [])
  | [] => fun _ i h => by simp at h
  | p :: ps => fun h i hi => by
    simp only [allL, Bool.and_eq_true] at h
    cases i with
    | zero => exact fromL_leads gg xs hn p h.1
    | succ i =>
      have := fromLs_leads gg xs hn ps h.2 i (by simpa using hi)
      simpa [fromLs, leadTs] using this
end
theorem fromL_sel (gg : GSig) (xs : List GPremise) (p : GProg) (h : okL gg xs p) (a : List Int) (ha : isSet (atomsN gg) a) :
    fromL gg xs p a = selN (fun y => anyN (fun x => memP a x && gt2 (leadT (atomsN gg) xs p) (x : Int) (y : Int)) (atomsN gg).toNat) (atomsN gg).toNat := by
  have := fromL_leads gg xs (sigOk_n gg h.sig).2.1 p h.tree (memP a)
  rwa [← ha.eq] at this
theorem fromL_set (gg : GSig) (xs : List GPremise) (p : GProg) (h : okL gg xs p) (a : List Int) (ha : isSet (atomsN gg) a) : isSet (atomsN gg) (fromL gg xs p a) := by
  rw [fromL_sel gg xs p h a ha]
  exact isSet_selN _ _

end
end Go.Proofs.Ytcdppmpjplhgkaa

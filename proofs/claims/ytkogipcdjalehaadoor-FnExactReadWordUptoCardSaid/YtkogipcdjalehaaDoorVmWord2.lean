/- Words are read: the pieces. Printed by vmk.py. -/
import Derived.Test.YtkogipcdjalehaaDoorVmUse
import Derived.Test.YtkogipcdjalehaaDoorVmLib
import Derived.Test.YtkogipcdjalehaaDoorVmValid
import Derived.Test.YtkogipcdjalehaaDoorVmSplit
import Derived.Test.YtkogipcdjalehaaDoorVmWord
set_option linter.unusedVariables false
set_option linter.unusedSimpArgs false
set_option linter.unusedSectionVars false
set_option maxRecDepth 4000
set_option maxHeartbeats 4000000
namespace Go.Proofs.YtkogipcdjalehaaDoor
noncomputable section
def pcS (k : Nat) (s : List UInt8) : List UInt8 := if k % 2 = 1 then s.drop 1 else s
def hasA (s : List UInt8) : Bool := decide (1 ≤ s.length) && decide ((s.getD 0 0).toNat = 97)
def pcB (m : Int) (ps : List (List UInt8)) (k : Nat) : Bool := (decide (k % 2 = 0) || hasA (ps.getD k [])) && numB m (pcS k (ps.getD k []))
def evs (ps : List (List UInt8)) : Nat → List Int
 | 0 => []
 | k + 1 => if k % 2 = 1 then evs ps k else evs ps k ++ [decV (pcS k (ps.getD k []))]
def ods (ps : List (List UInt8)) : Nat → List Int
 | 0 => []
 | k + 1 => if k % 2 = 1 then ods ps k ++ [decV (pcS k (ps.getD k []))] else ods ps k
theorem eo_len (ps : List (List UInt8)) : ∀ k, (evs ps k).length + (ods ps k).length = k
 | 0 => rfl
 | k + 1 => by
  have := eo_len ps k
  simp only [evs, ods]
  split <;> simp <;> omega
theorem eo_odd (ps : List (List UInt8)) (k : Nat) (h : k % 2 = 1) : evs ps (k + 1) = evs ps k ∧ ods ps (k + 1) = ods ps k ++ [decV ((ps.getD k []).drop 1)] := by
 simp [evs, ods, h, pcS]
theorem eo_even (ps : List (List UInt8)) (k : Nat) (h : ¬ k % 2 = 1) : evs ps (k + 1) = evs ps k ++ [decV (ps.getD k [])] ∧ ods ps (k + 1) = ods ps k := by
 simp [evs, ods, h, pcS]
theorem pcB_odd (m : Int) (ps : List (List UInt8)) (k : Nat) (h : k % 2 = 1) : pcB m ps k = (hasA (ps.getD k []) && numB m ((ps.getD k []).drop 1)) := by
 have : ¬ k % 2 = 0 := by omega
 simp [pcB, pcS, h]
theorem pcB_even (m : Int) (ps : List (List UInt8)) (k : Nat) (h : ¬ k % 2 = 1) : pcB m ps k = numB m (ps.getD k []) := by
 have : k % 2 = 0 := by omega
 simp [pcB, pcS, h, this]
theorem hasA_i (s : List UInt8) : (decide (([97] : List UInt8).length ≤ s.length) && decide (s.take ([97] : List UInt8).length = [97])) = hasA s := by
 unfold hasA
 cases s with
 | nil => rfl
 | cons b s =>
  have e : (b = 97) ↔ b.toNat = 97 := ⟨fun h => by rw [h]; rfl, fun h => UInt8.toNat_inj.1 h⟩
  simp [e]
def rwW (ps : List (List UInt8)) : GWord := ⟨evs ps ps.length, ods ps ps.length⟩
def rwB (gg : GSig) (m : Int) (ps : List (List UInt8)) : Bool := allN (pcB m ps) ps.length && wdB gg (rwW ps)
def rwI (gg : GSig) (t : List UInt8) : Bool := decide (t.length ≤ 100) && rwB gg 1 (cutL 32 t)
def rwV (gg : GSig) (t : List UInt8) : GWord := bif sigOk gg && rwI gg t then rwW (cutL 32 t) else ⟨[], []⟩
def rwC (gg : GSig) (t : List UInt8) : Int := bif sigOk gg then (bif rwI gg t then 0 else 5) else 1
theorem allN_at (p : Nat → Bool) : ∀ (n : Nat), allN p n = true → ∀ k, k < n → p k = true
 | n + 1, h, k, hk => by
  simp only [allN, Bool.and_eq_true] at h
  rcases Nat.lt_or_ge k n with h' | h'
  ·exact allN_at p n h.1 k h'
  ·have : k = n := by omega
   subst this; exact h.2
theorem allN_of (p : Nat → Bool) : ∀ (n : Nat), (∀ k, k < n → p k = true) → allN p n = true
 | 0, _ => rfl
 | n + 1, h => by simp only [allN, Bool.and_eq_true]; exact ⟨allN_of p n fun k hk => h k (by omega), h n (by omega)⟩
theorem numB_one (s : List UInt8) (h : numB 9 s = true) (h9 : decV s ≤ 9) : numB 1 s = true := by
 rw [numB_eq] at h ⊢
 simp only [Bool.and_eq_true, decide_eq_true_eq, Bool.not_eq_true', Bool.and_eq_false_iff, decide_eq_false_iff_not] at h ⊢
 obtain ⟨⟨⟨h1, h2⟩, h3⟩, h4⟩ := h
 refine ⟨⟨⟨h1, ?_⟩, h3⟩, h4⟩
 rcases Nat.lt_or_ge 1 s.length with hl | hl
 ·exfalso
  match s, hl, h3, h4, h9 with
  | a :: b :: r, _, h3, h4, h9 =>
   have ha : isDig a = true := by simp [allL] at h4; exact h4.1
   have ha' := ha
   simp only [isDig, Bool.and_eq_true, decide_eq_true_eq] at ha
   have h3' : a.toNat ≠ 48 := by rcases h3 with h3 | h3 <;> simp at h3 <;> omega
   have key : ∀ (r : List UInt8) (n : Int), 1 ≤ n → allL isDig r = true → n ≤ r.foldl (fun n b => n * 10 + ((b.toNat : Int) - 48)) n := by
    intro r
    induction r with
    | nil => intro n _ _; exact Int.le_refl _
    | cons c r ih =>
     intro n hn hr
     simp only [allL, Bool.and_eq_true] at hr
     have hc := hr.1
     simp only [isDig, Bool.and_eq_true, decide_eq_true_eq] at hc
     have := ih (n * 10 + ((c.toNat : Int) - 48)) (by omega) hr.2
     simp only [List.foldl_cons]; omega
   simp only [allL, Bool.and_eq_true] at h4
   have hb := h4.2.1
   simp only [isDig, Bool.and_eq_true, decide_eq_true_eq] at hb
   have := key r (((0 * 10 + ((a.toNat : Int) - 48)) * 10) + ((b.toNat : Int) - 48)) (by omega) h4.2.2
   simp only [decV, List.foldl_cons] at h9
   omega
 ·omega
theorem numB_more (s : List UInt8) (h : numB 1 s = true) : numB 9 s = true := by
 rw [numB_eq] at h ⊢
 simp only [Bool.and_eq_true, decide_eq_true_eq] at h ⊢
 exact ⟨⟨⟨h.1.1.1, by omega⟩, h.1.2⟩, h.2⟩
theorem szL_app {α : Type} (f : α → Nat) : ∀ (xs ys : List α), szL f (xs ++ ys) = szL f xs + szL f ys
 | [], ys => by simp [szL]
 | x :: xs, ys => by simp only [List.cons_append, szL, szL_app f xs ys]; omega
theorem cut_total (c : UInt8) : ∀ (n : Nat) (l : List UInt8), l.length = n → szL (fun p : List UInt8 => p.length + 1) (cutS c l).1 + (cutS c l).2.length = l.length
 | 0, l, h => by
  have : l = [] := List.eq_nil_of_length_eq_zero h
  subst this; simp [cutS, szL]
 | n + 1, l, h => by
  rcases List.eq_nil_or_concat l with e | ⟨L, b, e⟩
  ·subst e; simp at h
  ·rw [List.concat_eq_append] at e
   subst e
   have ih := cut_total c n L (by simpa using h)
   rw [cutS_snoc]
   unfold cutStep
   cases b == c
   ·simp only [cond_false, List.length_append, List.length_cons, List.length_nil]; omega
   ·simp only [cond_true, szL_app, szL, List.length_append, List.length_cons, List.length_nil]; omega
theorem cutL_total (c : UInt8) (l : List UInt8) : szL (fun p : List UInt8 => p.length + 1) (cutL c l) = l.length + 1 := by
 have := cut_total c _ l rfl
 simp only [cutL, szL_app, szL]; omega
theorem szL_bnd {α : Type} (f : α → Nat) (b : Nat) : ∀ (xs : List α), (∀ x ∈ xs, f x ≤ b) → szL f xs ≤ b * xs.length
 | [], _ => by simp [szL]
 | x :: xs, h => by
  have h1 := szL_bnd f b xs fun y hy => h y (by simp [hy])
  have h2 := h x (by simp)
  simp only [szL, List.length_cons, Nat.mul_succ]; omega
theorem allL_mem {α : Type} (f : α → Bool) : ∀ (xs : List α), allL f xs = true → ∀ x ∈ xs, f x = true
 | x :: xs, h, y, hy => by
  simp only [allL, Bool.and_eq_true] at h
  rcases List.mem_cons.1 hy with e | e
  ·rw [e]; exact h.1
  ·exact allL_mem f xs h.2 y e
theorem eo_mem (ps : List (List UInt8)) : ∀ (n k : Nat), k < n → decV (pcS k (ps.getD k [])) ∈ evs ps n ∨ decV (pcS k (ps.getD k [])) ∈ ods ps n
 | n + 1, k, h => by
  rcases Nat.lt_or_ge k n with h' | h'
  ·have ih := eo_mem ps n k h'
   by_cases hn : n % 2 = 1
   ·rw [show evs ps (n + 1) = evs ps n by simp [evs, hn], show ods ps (n + 1) = ods ps n ++ [decV (pcS n (ps.getD n []))] by simp [ods, hn]]
    exact ih.imp id (fun h => List.mem_append_left _ h)
   ·rw [show ods ps (n + 1) = ods ps n by simp [ods, hn], show evs ps (n + 1) = evs ps n ++ [decV (pcS n (ps.getD n []))] by simp [evs, hn]]
    exact ih.imp (fun h => List.mem_append_left _ h) id
  ·have : k = n := by omega
   subst this
   by_cases hn : k % 2 = 1
   ·exact .inr (by simp [ods, hn])
   ·exact .inl (by simp [evs, hn])
theorem rw_1_9 (gg : GSig) (ps : List (List UInt8)) (h : rwB gg 1 ps = true) : rwB gg 9 ps = true := by
 simp only [rwB, Bool.and_eq_true] at h ⊢
 refine ⟨allN_of _ _ fun k hk => ?_, h.2⟩
 have := allN_at _ _ h.1 k hk
 simp only [pcB, Bool.and_eq_true] at this ⊢
 exact ⟨this.1, numB_more _ this.2⟩
theorem rw_9_1 (gg : GSig) (t : List UInt8) (hg : sigOk gg = true) (h : rwB gg 9 (cutL 32 t) = true) : rwB gg 1 (cutL 32 t) = true ∧ t.length ≤ 100 := by
 have hs := sigOk_w gg hg
 simp only [rwB, Bool.and_eq_true] at h
 obtain ⟨h1, h2⟩ := h
 have h2' := h2
 simp only [wdB, trB, rwW, Bool.and_eq_true, decide_eq_true_eq] at h2'
 obtain ⟨ha, ⟨hb, hc⟩, hd⟩ := h2'
 have hl := eo_len (cutL 32 t) (cutL 32 t).length
 have ha' : (ods (cutL 32 t) (cutL 32 t).length).length ≤ 10 := of_decide_eq_true ha
 have hb' : (evs (cutL 32 t) (cutL 32 t).length).length = (ods (cutL 32 t) (cutL 32 t).length).length + 1 := of_decide_eq_true hb
 have small : ∀ k, k < (cutL 32 t).length → decV (pcS k ((cutL 32 t).getD k [])) ≤ 9 := by
  intro k hk
  rcases eo_mem _ _ k hk with hm | hm
  ·have := allL_mem _ _ hc _ hm
   simp only [inB0, decide_eq_true_eq] at this; omega
  ·have := allL_mem _ _ hd _ hm
   simp only [inB0, decide_eq_true_eq] at this; omega
 have one : ∀ k, k < (cutL 32 t).length → pcB 1 (cutL 32 t) k = true := by
  intro k hk
  have := allN_at _ _ h1 k hk
  simp only [pcB, Bool.and_eq_true] at this ⊢
  exact ⟨this.1, numB_one _ this.2 (small k hk)⟩
 refine ⟨?_, ?_⟩
 ·simp only [rwB, Bool.and_eq_true]
  exact ⟨allN_of _ _ one, h2⟩
 ·have ht := cutL_total 32 t
  have hz := szL_bnd (fun p : List UInt8 => p.length + 1) 3 (cutL 32 t) (fun p hp => by
   obtain ⟨k, hk, e⟩ := List.getElem_of_mem hp
   have := one k hk
   have eg : (cutL 32 t).getD k [] = p := by rw [List.getD_eq_getElem?_getD, List.getElem?_eq_getElem hk, ← e]; rfl
   simp only [pcB, eg, Bool.and_eq_true] at this
   have hn := this.2
   rw [numB_eq] at hn
   simp only [Bool.and_eq_true, decide_eq_true_eq] at hn
   have hn1 := hn.1.1
   unfold pcS at hn1
   split at hn1 <;> simp at hn1 ⊢ <;> omega)
  omega
theorem rw_eq (gg : GSig) (t : List UInt8) (hg : sigOk gg = true) : rwB gg 9 (cutL 32 t) = rwI gg t := by
 unfold rwI
 cases h : rwB gg 9 (cutL 32 t)
 ·cases h' : rwB gg 1 (cutL 32 t)
  ·simp
  ·rw [rw_1_9 gg _ h'] at h; cases h
 ·obtain ⟨a, b⟩ := rw_9_1 gg t hg h
  simp [a, b]
theorem cut32_len (t : List UInt8) : (cutL 32 t).length ≤ t.length + 1 := cutL_len 32 t
theorem bt32 : bt 32 = 32 := rfl
theorem tm2 (k : Nat) : (k : Int).tmod 2 = ((k % 2 : Nat) : Int) := by
 rw [Int.tmod_eq_emod_of_nonneg (by omega)]; rfl
theorem hasA_j (s : List UInt8) : (decide (1 ≤ s.length) && decide (s.take 1 = [97])) = hasA s := hasA_i s
theorem hasA_len (s : List UInt8) (h : hasA s = true) : 1 ≤ s.length := by
 simp only [hasA, Bool.and_eq_true, decide_eq_true_eq] at h; exact h.1
theorem hasA_t (s : List UInt8) (h : 1 ≤ s.length) (h2 : (s.getD 0 0).toNat = 97) : hasA s = true := by
 unfold hasA; rw [decide_eq_true h, decide_eq_true h2]; rfl
theorem hasA_f (s : List UInt8) (h : s.length < 1 ∨ ¬ (s.getD 0 0).toNat = 97) : hasA s = false := by
 unfold hasA
 rw [Bool.and_eq_false_iff, decide_eq_false_iff_not, decide_eq_false_iff_not]; omega
theorem rs_no (gg : GSig) (t : List UInt8) (h : sigOk gg = false) : rwV gg t = ⟨[], []⟩ ∧ rwC gg t = 1 := by simp [rwV, rwC, h]
theorem rs_five (gg : GSig) (t : List UInt8) (h : sigOk gg = true) (hb : rwI gg t = false) : rwV gg t = ⟨[], []⟩ ∧ rwC gg t = 5 := by simp [rwV, rwC, h, hb]
theorem rs_long (gg : GSig) (t : List UInt8) (h : sigOk gg = true) (hl : 100 < t.length) : rwV gg t = ⟨[], []⟩ ∧ rwC gg t = 5 :=
 rs_five gg t h (by unfold rwI; rw [decide_eq_false (by omega)]; rfl)
theorem rs_short (gg : GSig) (t : List UInt8) (hl : t.length ≤ 100) : rwI gg t = rwB gg 1 (cutL 32 t) := by
 unfold rwI; rw [decide_eq_true hl]; rfl
structure rwQ (gg : GSig) (m : Int) (t : List UInt8) (k : Nat) : Prop where
 sig : sigOk gg = true
 eq : rwI gg t = rwB gg m (cutL 32 t)
 le : k ≤ (cutL 32 t).length
 all : allN (pcB m (cutL 32 t)) k = true
theorem rq_zero (gg : GSig) (m : Int) (t : List UInt8) (h : sigOk gg = true) (e : rwI gg t = rwB gg m (cutL 32 t)) : rwQ gg m t 0 := ⟨h, e, Nat.zero_le _, rfl⟩
theorem rq_bad (gg : GSig) (m : Int) (t : List UInt8) (k : Nat) (h : rwQ gg m t k) (hk : k < (cutL 32 t).length) (hb : pcB m (cutL 32 t) k = false) : rwV gg t = ⟨[], []⟩ ∧ rwC gg t = 5 :=
 rs_five gg t h.sig (by rw [h.eq]; unfold rwB; rw [allN_bad _ _ k hk hb]; rfl)
theorem rq_good (gg : GSig) (m : Int) (t : List UInt8) (k : Nat) (h : rwQ gg m t k) (hk : k < (cutL 32 t).length) (hb : pcB m (cutL 32 t) k = true) : rwQ gg m t (k + 1) :=
 ⟨h.sig, h.eq, hk, by rw [allN_succ, h.all, hb]; rfl⟩
theorem rq_no (gg : GSig) (m : Int) (t : List UInt8) (k : Nat) (h : rwQ gg m t k) (hk : (cutL 32 t).length ≤ k) (hb : wdB gg ⟨evs (cutL 32 t) k, ods (cutL 32 t) k⟩ = false) : rwV gg t = ⟨[], []⟩ ∧ rwC gg t = 5 := by
 have e : k = (cutL 32 t).length := Nat.le_antisymm h.le hk
 subst e
 exact rs_five gg t h.sig (by rw [h.eq]; unfold rwB rwW; rw [hb, Bool.and_false])
theorem rq_end (gg : GSig) (m : Int) (t : List UInt8) (k : Nat) (h : rwQ gg m t k) (hk : (cutL 32 t).length ≤ k) (hb : wdB gg ⟨evs (cutL 32 t) k, ods (cutL 32 t) k⟩ = true) : rwV gg t = ⟨evs (cutL 32 t) k, ods (cutL 32 t) k⟩ ∧ rwC gg t = 0 := by
 have e : k = (cutL 32 t).length := Nat.le_antisymm h.le hk
 subst e
 have hi : rwI gg t = true := by rw [h.eq]; unfold rwB rwW; rw [hb, h.all]; rfl
 simp [rwV, rwC, h.sig, hi, rwW]
theorem rq_no2 (gg : GSig) (m : Int) (t : List UInt8) (k : Nat) (h : rwQ gg m t k) (hk : (cutL 32 t).length ≤ k) (hb : (sigOk gg && wdB gg ⟨evs (cutL 32 t) k, ods (cutL 32 t) k⟩) = false) : rwV gg t = ⟨[], []⟩ ∧ rwC gg t = 5 :=
 rq_no gg m t k h hk (by rw [h.sig] at hb; exact hb)
theorem rq_end2 (gg : GSig) (m : Int) (t : List UInt8) (k : Nat) (h : rwQ gg m t k) (hk : (cutL 32 t).length ≤ k) (hb : (sigOk gg && wdB gg ⟨evs (cutL 32 t) k, ods (cutL 32 t) k⟩) = true) : rwV gg t = ⟨evs (cutL 32 t) k, ods (cutL 32 t) k⟩ ∧ rwC gg t = 0 :=
 rq_end gg m t k h hk (by rw [h.sig] at hb; exact hb)
theorem pc_o1 (m : Int) (ps : List (List UInt8)) (k : Nat) (ho : k % 2 = 1) (h : hasA (ps.getD k []) = false) : pcB m ps k = false := by rw [pcB_odd m ps k ho, h]; rfl
theorem pc_o2 (m : Int) (ps : List (List UInt8)) (k : Nat) (ho : k % 2 = 1) (h : numB m ((ps.getD k []).drop 1) = false) : pcB m ps k = false := by rw [pcB_odd m ps k ho, h, Bool.and_false]
theorem pc_o3 (m : Int) (ps : List (List UInt8)) (k : Nat) (ho : k % 2 = 1) (h0 : hasA (ps.getD k []) = true) (h : numB m ((ps.getD k []).drop 1) = true) : pcB m ps k = true := by rw [pcB_odd m ps k ho, h0, h]; rfl
theorem pc_e1 (m : Int) (ps : List (List UInt8)) (k : Nat) (ho : ¬ k % 2 = 1) (h : numB m (ps.getD k []) = false) : pcB m ps k = false := by rw [pcB_even m ps k ho, h]
theorem pc_e2 (m : Int) (ps : List (List UInt8)) (k : Nat) (ho : ¬ k % 2 = 1) (h : numB m (ps.getD k []) = true) : pcB m ps k = true := by rw [pcB_even m ps k ho, h]
theorem sn_o (m : Int) (ps : List (List UInt8)) (k : Nat) (ho : k % 2 = 1) (h : numB m ((ps.getD k []).drop 1) = true) : ods ps k ++ [numV m ((ps.getD k []).drop 1)] = ods ps (k + 1) := by
 rw [(eo_odd ps k ho).2]
 unfold numV
 rw [h]; rfl
theorem sn_e (m : Int) (ps : List (List UInt8)) (k : Nat) (ho : ¬ k % 2 = 1) (h : numB m (ps.getD k []) = true) : evs ps k ++ [numV m (ps.getD k [])] = evs ps (k + 1) := by
 rw [(eo_even ps k ho).1]
 unfold numV
 rw [h]; rfl
def ko_impl_ReadWord : Ctr := ⟨n_impl_ReadWord, [.v (.st .sig), .v .str], fun (gg : GSig) (t : List UInt8) => ⟨(some (t.length ≤ 1048576), [⟨(.st .word), rwV gg t⟩, ⟨(.int .i64), rwC gg t⟩])⟩⟩
def lo_impl_ReadWord (gg : GSig) (t : List UInt8) : Nat → LoopInv := (fun zb => if Nat.beq zb 0 then .mk (Nat) (fun k => rwQ gg 1 t k) (fun k => (cutL 32 t).length - k) [] [0, 1, 3, 11, 12, 13, 14, 15, 16, 17, 18, 19, 20] (fun k => [(23, .imm ⟨(.int .i64), ((k : Int) : Int)⟩)]) [2, 4, 5, 7, 8, 9, 10, 21, 22, 23, 24, 25, 26, 27, 28, 29, 30, 31, 32, 33, 34, 35, 36, 37, 38, 39, 40, 41, 42, 43, 44, 45, 46, 47, 48, 49, 50, 51, 52, 53, 54, 55, 56, 57, 58, 59, 60, 61, 62, 63, 64, 65, 66] (fun k => [(6, .box [.tree 5800, .tree 5200]), (5800, .tree (.int .i64) (evs (cutL 32 t) k : List Int)), (5200, .tree (.int .i64) (ods (cutL 32 t) k : List Int))]) [] [] (fun k => fun _ => .none) else .none)
abbrev jo_impl_ReadWord_0 (gg : GSig) (t : List UInt8) (k1 : Nat) (k2 : Nat) : Prop := (gg = gg ∧ (True ∧ (True ∧ ((cutL (([32]).getD 0 0) t) = (cutL (([32]).getD 0 0) t) ∧ ((((cutL (([32]).getD 0 0) t).length : Int)) = (((cutL (([32]).getD 0 0) t).length : Int)) ∧ (((k1 : Int) + (1 : Int)) = (k2 : Int) ∧ True))))))
theorem vco_impl_ReadWord (gg : GSig) (t : List UInt8) : awp (envO [k_impl_ValidSig, k_strings_Split, k_strings_HasPrefix, k_impl_number, k_impl_isWord] [] [] [51, 52, 57, 58] [] [] [2]) (bodyOf f_impl_ReadWord) (lo_impl_ReadWord gg t) 0 (ownPost (envO [k_impl_ValidSig, k_strings_Split, k_strings_HasPrefix, k_impl_number, k_impl_isWord] [] [] [51, 52, 57, 58] [] [] [2]) f_impl_ReadWord fun r => areEq r [⟨(.st .word), rwV gg t⟩, ⟨(.int .i64), rwC gg t⟩]) (startO f_impl_ReadWord [.val ⟨(.st .sig), gg⟩, .val ⟨.str, t⟩]) =
 ((((!(sigOk gg)) = true →
 ((GWord.mk [] []) = (rwV gg t) ∧ (1 : Int) = (rwC gg t))) ∧ ((!(sigOk gg)) = false →
 (inI64 ((t.length : Int)) →
 (((decide ((100 : Int) < ((t.length : Int)))) = true →
 ((GWord.mk [] []) = (rwV gg t) ∧ (5 : Int) = (rwC gg t))) ∧ ((decide ((100 : Int) < ((t.length : Int)))) = false →
 ((([32]).length = 1 ∧ t.length ≤ 1048576) ∧ ((cutL (([32]).getD 0 0) t).length ≤ 140737488355328 →
 (inI64 (((cutL (([32]).getD 0 0) t).length : Int)) →
 ((∃ k1 : Nat, (rwQ gg 1 t k1 ∧ ((gg = gg ∧ (True ∧ (True ∧ ((cutL (([32]).getD 0 0) t) = (cutL (([32]).getD 0 0) t) ∧ ((((cutL (([32]).getD 0 0) t).length : Int)) = (((cutL (([32]).getD 0 0) t).length : Int)) ∧ ((0 : Int) = (k1 : Int) ∧ True)))))) ∧ ((True ∧ (True ∧ True)) ∧ ((evs (cutL 32 t) k1) = [] ∧ ((ods (cutL 32 t) k1) = [] ∧ ((True ∧ (True ∧ True)) ∧ True))))))) ∧ (∀ k1 : Nat, (rwQ gg 1 t k1 →
 (((decide ((k1 : Int) < (((cutL (([32]).getD 0 0) t).length : Int)))) = true →
 (idxOk (k1 : Int) (cutL (([32]).getD 0 0) t).length ∧ (((cutL (([32]).getD 0 0) t).getD k1 []).length ≤ 140737488355328 →
 (((2 : Int) ≠ (0 : Int) ∧ inI64 ((k1 : Int).tmod (2 : Int))) ∧ (((decide (((k1 : Int).tmod (2 : Int)) = (1 : Int))) = true →
 (((!(decide (([97]).length ≤ ((cutL (([32]).getD 0 0) t).getD k1 []).length) && decide (((cutL (([32]).getD 0 0) t).getD k1 []).take ([97]).length = ([97])))) = true →
 ((GWord.mk [] []) = (rwV gg t) ∧ (5 : Int) = (rwC gg t))) ∧ ((!(decide (([97]).length ≤ ((cutL (([32]).getD 0 0) t).getD k1 []).length) && decide (((cutL (([32]).getD 0 0) t).getD k1 []).take ([97]).length = ([97])))) = false →
 (cutOk (1 : Int) ((((cutL (([32]).getD 0 0) t).getD k1 []).length : Int)) ((cutL (([32]).getD 0 0) t).getD k1 []).length ∧ ((0 ≤ (1 : Int) ∧ (1 : Int) ≤ 9) ∧ (inI64 (numV (1 : Int) ((((cutL (([32]).getD 0 0) t).getD k1 []).take (Int.toNat ((((cutL (([32]).getD 0 0) t).getD k1 []).length : Int)))).drop 1)) →
 (((!(numB (1 : Int) ((((cutL (([32]).getD 0 0) t).getD k1 []).take (Int.toNat ((((cutL (([32]).getD 0 0) t).getD k1 []).length : Int)))).drop 1))) = true →
 ((GWord.mk [] []) = (rwV gg t) ∧ (5 : Int) = (rwC gg t))) ∧ ((!(numB (1 : Int) ((((cutL (([32]).getD 0 0) t).getD k1 []).take (Int.toNat ((((cutL (([32]).getD 0 0) t).getD k1 []).length : Int)))).drop 1))) = false →
 (((2 : Int) ≠ (0 : Int) ∧ inI64 ((k1 : Int).tmod (2 : Int))) ∧ (((decide (((k1 : Int).tmod (2 : Int)) = (1 : Int))) = true →
 (roomOk ((ods (cutL 32 t) k1).length + ([(numV (1 : Int) ((((cutL (([32]).getD 0 0) t).getD k1 []).take (Int.toNat ((((cutL (([32]).getD 0 0) t).getD k1 []).length : Int)))).drop 1))]).length) 8 ∧ (inI64 ((k1 : Int) + (1 : Int)) ∧ (∃ k2 : Nat, (rwQ gg 1 t k2 ∧ ((cutL 32 t).length - k2 < (cutL 32 t).length - k1 ∧ ((jo_impl_ReadWord_0 gg t k1 k2) ∧ ((True ∧ (True ∧ True)) ∧ ((evs (cutL 32 t) k1) = (evs (cutL 32 t) k2) ∧ (((ods (cutL 32 t) k1) ++ ([(numV (1 : Int) ((((cutL (([32]).getD 0 0) t).getD k1 []).take (Int.toNat ((((cutL (([32]).getD 0 0) t).getD k1 []).length : Int)))).drop 1))])) = (ods (cutL 32 t) k2) ∧ ((True ∧ (True ∧ True)) ∧ True))))))))))) ∧ ((decide (((k1 : Int).tmod (2 : Int)) = (1 : Int))) = false →
 (roomOk ((evs (cutL 32 t) k1).length + ([(numV (1 : Int) ((((cutL (([32]).getD 0 0) t).getD k1 []).take (Int.toNat ((((cutL (([32]).getD 0 0) t).getD k1 []).length : Int)))).drop 1))]).length) 8 ∧ (inI64 ((k1 : Int) + (1 : Int)) ∧ (∃ k2 : Nat, (rwQ gg 1 t k2 ∧ ((cutL 32 t).length - k2 < (cutL 32 t).length - k1 ∧ ((jo_impl_ReadWord_0 gg t k1 k2) ∧ ((True ∧ (True ∧ True)) ∧ (((evs (cutL 32 t) k1) ++ ([(numV (1 : Int) ((((cutL (([32]).getD 0 0) t).getD k1 []).take (Int.toNat ((((cutL (([32]).getD 0 0) t).getD k1 []).length : Int)))).drop 1))])) = (evs (cutL 32 t) k2) ∧ ((ods (cutL 32 t) k1) = (ods (cutL 32 t) k2) ∧ ((True ∧ (True ∧ True)) ∧ True))))))))))))))))))))) ∧ ((decide (((k1 : Int).tmod (2 : Int)) = (1 : Int))) = false →
 ((0 ≤ (1 : Int) ∧ (1 : Int) ≤ 9) ∧ (inI64 (numV (1 : Int) ((cutL (([32]).getD 0 0) t).getD k1 [])) →
 (((!(numB (1 : Int) ((cutL (([32]).getD 0 0) t).getD k1 []))) = true →
 ((GWord.mk [] []) = (rwV gg t) ∧ (5 : Int) = (rwC gg t))) ∧ ((!(numB (1 : Int) ((cutL (([32]).getD 0 0) t).getD k1 []))) = false →
 (((2 : Int) ≠ (0 : Int) ∧ inI64 ((k1 : Int).tmod (2 : Int))) ∧ (((decide (((k1 : Int).tmod (2 : Int)) = (1 : Int))) = true →
 (roomOk ((ods (cutL 32 t) k1).length + ([(numV (1 : Int) ((cutL (([32]).getD 0 0) t).getD k1 []))]).length) 8 ∧ (inI64 ((k1 : Int) + (1 : Int)) ∧ (∃ k2 : Nat, (rwQ gg 1 t k2 ∧ ((cutL 32 t).length - k2 < (cutL 32 t).length - k1 ∧ ((jo_impl_ReadWord_0 gg t k1 k2) ∧ ((True ∧ (True ∧ True)) ∧ ((evs (cutL 32 t) k1) = (evs (cutL 32 t) k2) ∧ (((ods (cutL 32 t) k1) ++ ([(numV (1 : Int) ((cutL (([32]).getD 0 0) t).getD k1 []))])) = (ods (cutL 32 t) k2) ∧ ((True ∧ (True ∧ True)) ∧ True))))))))))) ∧ ((decide (((k1 : Int).tmod (2 : Int)) = (1 : Int))) = false →
 (roomOk ((evs (cutL 32 t) k1).length + ([(numV (1 : Int) ((cutL (([32]).getD 0 0) t).getD k1 []))]).length) 8 ∧ (inI64 ((k1 : Int) + (1 : Int)) ∧ (∃ k2 : Nat, (rwQ gg 1 t k2 ∧ ((cutL 32 t).length - k2 < (cutL 32 t).length - k1 ∧ ((jo_impl_ReadWord_0 gg t k1 k2) ∧ ((True ∧ (True ∧ True)) ∧ (((evs (cutL 32 t) k1) ++ ([(numV (1 : Int) ((cutL (([32]).getD 0 0) t).getD k1 []))])) = (evs (cutL 32 t) k2) ∧ ((ods (cutL 32 t) k1) = (ods (cutL 32 t) k2) ∧ ((True ∧ (True ∧ True)) ∧ True))))))))))))))))))))))) ∧ ((decide ((k1 : Int) < (((cutL (([32]).getD 0 0) t).length : Int)))) = false →
 (sigOk gg = true ∧ (((!(wdB gg (GWord.mk (evs (cutL 32 t) k1) (ods (cutL 32 t) k1)))) = true →
 ((GWord.mk [] []) = (rwV gg t) ∧ (5 : Int) = (rwC gg t))) ∧ ((!(wdB gg (GWord.mk (evs (cutL 32 t) k1) (ods (cutL 32 t) k1)))) = false →
 ((GWord.mk (evs (cutL 32 t) k1) (ods (cutL 32 t) k1)) = (rwV gg t) ∧ (0 : Int) = (rwC gg t))))))))))))))))))) := by kernel_rfl
theorem oko_impl_ReadWord (hE : AllGood [k_impl_ValidSig, k_strings_Split, k_strings_HasPrefix, k_impl_number, k_impl_isWord]) (hO : AllO []) (hM : AllM []) (hS : AllS []) : Ctr.OGood ko_impl_ReadWord := by
 refine ⟨fnOk_of at_impl_ReadWord rfl (by decide), ?_⟩
 show ∀ (gg : GSig) (t : List UInt8), (t.length ≤ 1048576) → OkOwn prog n_impl_ReadWord [.val ⟨(.st .sig), gg⟩, .val ⟨.str, t⟩] [⟨(.st .word), rwV gg t⟩, ⟨(.int .i64), rwC gg t⟩]
 intro gg t hp
 refine own_of_awp (own := [51, 52, 57, 58]) (wr := []) (cl := []) (ro := [2]) hE hO hM hS at_impl_ReadWord body_impl_ReadWord (lo_impl_ReadWord gg t) ?_
 rewrite [vco_impl_ReadWord gg t]
 have f0 := cut32_len t
 refine ⟨fun a0 => ⟨?_, ?_⟩, fun a0 => fun a1 => ⟨fun a2 => ⟨?_, ?_⟩, fun a2 => ⟨?_, fun a3 => fun a4 => ⟨⟨0, ⟨?_, ⟨⟨rfl, ⟨trivial, ⟨trivial, ⟨rfl, ⟨rfl, ⟨?_, trivial⟩⟩⟩⟩⟩⟩, ⟨⟨trivial, ⟨trivial, trivial⟩⟩, ⟨?_, ⟨?_, ⟨⟨trivial, ⟨trivial, trivial⟩⟩, trivial⟩⟩⟩⟩⟩⟩⟩, fun k1 => fun a5 => ⟨fun a6 => ⟨?_, fun a7 => ⟨⟨?_, ?_⟩, ⟨fun a8 => ⟨fun a9 => ⟨?_, ?_⟩, fun a9 => ⟨?_, ⟨?_, fun a10 => ⟨fun a11 => ⟨?_, ?_⟩, fun a11 => ⟨⟨?_, ?_⟩, ⟨fun a12 => ⟨?_, ⟨?_, ⟨k1 + 1, ⟨?_, ⟨?_, ⟨⟨rfl, ⟨trivial, ⟨trivial, ⟨rfl, ⟨rfl, ⟨?_, trivial⟩⟩⟩⟩⟩⟩, ⟨⟨trivial, ⟨trivial, trivial⟩⟩, ⟨?_, ⟨?_, ⟨⟨trivial, ⟨trivial, trivial⟩⟩, trivial⟩⟩⟩⟩⟩⟩⟩⟩⟩⟩, fun a12 => ⟨?_, ⟨?_, ⟨k1 + 1, ⟨?_, ⟨?_, ⟨⟨rfl, ⟨trivial, ⟨trivial, ⟨rfl, ⟨rfl, ⟨?_, trivial⟩⟩⟩⟩⟩⟩, ⟨⟨trivial, ⟨trivial, trivial⟩⟩, ⟨?_, ⟨?_, ⟨⟨trivial, ⟨trivial, trivial⟩⟩, trivial⟩⟩⟩⟩⟩⟩⟩⟩⟩⟩⟩⟩⟩⟩⟩⟩, fun a8 => ⟨?_, fun a9 => ⟨fun a10 => ⟨?_, ?_⟩, fun a10 => ⟨⟨?_, ?_⟩, ⟨fun a11 => ⟨?_, ⟨?_, ⟨k1 + 1, ⟨?_, ⟨?_, ⟨⟨rfl, ⟨trivial, ⟨trivial, ⟨rfl, ⟨rfl, ⟨?_, trivial⟩⟩⟩⟩⟩⟩, ⟨⟨trivial, ⟨trivial, trivial⟩⟩, ⟨?_, ⟨?_, ⟨⟨trivial, ⟨trivial, trivial⟩⟩, trivial⟩⟩⟩⟩⟩⟩⟩⟩⟩⟩, fun a11 => ⟨?_, ⟨?_, ⟨k1 + 1, ⟨?_, ⟨?_, ⟨⟨rfl, ⟨trivial, ⟨trivial, ⟨rfl, ⟨rfl, ⟨?_, trivial⟩⟩⟩⟩⟩⟩, ⟨⟨trivial, ⟨trivial, trivial⟩⟩, ⟨?_, ⟨?_, ⟨⟨trivial, ⟨trivial, trivial⟩⟩, trivial⟩⟩⟩⟩⟩⟩⟩⟩⟩⟩⟩⟩⟩⟩⟩⟩⟩, fun a6 => ⟨?_, ⟨fun a7 => ⟨?_, ?_⟩, fun a7 => ⟨?_, ?_⟩⟩⟩⟩⟩⟩⟩⟩
 all_goals try and_intros
 all_goals (try simp only [Bool.not_true, Bool.not_false, Bool.not_eq_true', Bool.not_eq_false', decide_eq_true_eq, decide_eq_false_iff_not] at *) <;> (try simp only [Bool.not_true, Bool.not_false, Bool.not_eq_true', Bool.not_eq_false', List.getD_cons_zero, Int.toNat_natCast, List.take_length, List.length_append, List.length_cons, List.length_nil, Nat.zero_add, decide_eq_true_eq, decide_eq_false_iff_not, idxOk, cutOk, roomOk, inI64, bt32, tm2, hasA_j] at *) <;> first | with_reducible rfl | omega | exact (rs_no gg t (by with_reducible assumption)).1.symm | exact (rs_no gg t (by with_reducible assumption)).2.symm | exact (rs_long gg t (by with_reducible assumption) (by omega)).1.symm | exact (rs_long gg t (by with_reducible assumption) (by omega)).2.symm | exact rq_zero gg 1 t (by with_reducible assumption) (rs_short gg t (by omega)) | (have hq : rwQ gg 1 t k1 := (by with_reducible assumption); have hl := hq.le; have hn := eo_len (cutL 32 t) k1; first | omega | exact hq.sig | exact (rq_bad gg 1 t k1 hq (by omega) (by first | exact pc_o1 1 (cutL 32 t) k1 (by omega) (by with_reducible assumption) | exact pc_o1 1 (cutL 32 t) k1 (by omega) (hasA_f _ (by omega)) | exact pc_o2 1 (cutL 32 t) k1 (by omega) (by with_reducible assumption) | exact pc_e1 1 (cutL 32 t) k1 (by omega) (by with_reducible assumption))).1.symm | exact (rq_bad gg 1 t k1 hq (by omega) (by first | exact pc_o1 1 (cutL 32 t) k1 (by omega) (by with_reducible assumption) | exact pc_o1 1 (cutL 32 t) k1 (by omega) (hasA_f _ (by omega)) | exact pc_o2 1 (cutL 32 t) k1 (by omega) (by with_reducible assumption) | exact pc_e1 1 (cutL 32 t) k1 (by omega) (by with_reducible assumption))).2.symm | exact rq_good gg 1 t k1 hq (by omega) (by first | exact pc_o3 1 (cutL 32 t) k1 (by omega) (by with_reducible assumption) (by with_reducible assumption) | exact pc_o3 1 (cutL 32 t) k1 (by omega) (hasA_t _ (by omega) (by omega)) (by with_reducible assumption) | exact pc_e2 1 (cutL 32 t) k1 (by omega) (by with_reducible assumption)) | exact (rq_no gg 1 t k1 hq (by omega) (by with_reducible assumption)).1.symm | exact (rq_no gg 1 t k1 hq (by omega) (by with_reducible assumption)).2.symm | exact (rq_end gg 1 t k1 hq (by omega) (by with_reducible assumption)).1.symm | exact (rq_end gg 1 t k1 hq (by omega) (by with_reducible assumption)).2.symm | exact (rq_no2 gg 1 t k1 hq (by omega) (by with_reducible assumption)).1.symm | exact (rq_no2 gg 1 t k1 hq (by omega) (by with_reducible assumption)).2.symm | exact (rq_end2 gg 1 t k1 hq (by omega) (by with_reducible assumption)).1.symm | exact (rq_end2 gg 1 t k1 hq (by omega) (by with_reducible assumption)).2.symm | exact (eo_odd (cutL 32 t) k1 (by omega)).1.symm | exact (eo_even (cutL 32 t) k1 (by omega)).2.symm | exact sn_o 1 (cutL 32 t) k1 (by omega) (by with_reducible assumption) | exact sn_e 1 (cutL 32 t) k1 (by omega) (by with_reducible assumption) | (have h1 := hasA_len _ (by with_reducible assumption); omega) | exact absurd (by assumption : (true = false)) (by decide) | exact absurd (by assumption : (false = true)) (by decide)) | exact Eq.refl _
theorem ogood_impl_ReadWord : Ctr.OGood ko_impl_ReadWord := oko_impl_ReadWord ⟨good_impl_ValidSig, good_strings_Split, good_strings_HasPrefix, good_impl_number, good_impl_isWord, trivial⟩ trivial trivial trivial
def ko_spec_ReadWord : Ctr := ⟨n_spec_ReadWord, [.v (.st .sig), .v .str], fun (gg : GSig) (t : List UInt8) => ⟨(some (t.length ≤ 1048576), [⟨(.st .word), rwV gg t⟩, ⟨(.int .i64), rwC gg t⟩])⟩⟩
def lo_spec_ReadWord (gg : GSig) (t : List UInt8) : Nat → LoopInv := (fun zb => if Nat.beq zb 0 then .mk (Nat) (fun k => rwQ gg 9 t k) (fun k => (cutL 32 t).length - k) [] [0, 1, 3, 12, 13, 14, 15, 16, 17, 18] (fun k => [(8, .imm ⟨(.int .i64), ((k : Int) : Int)⟩)]) [2, 4, 5, 6, 8, 9, 10, 11, 19, 20, 21, 22, 23, 24, 25, 26, 27, 28, 29, 30, 31, 32, 33, 34, 35, 36, 37, 38, 39, 40, 41, 42, 43, 44, 45, 46, 47, 48, 49, 50, 51, 52, 53, 54, 55, 56, 57, 58, 59, 60, 61, 62, 63, 64, 65, 66, 67, 68, 69, 70, 71, 72, 73, 74, 75] (fun k => [(7, .box [.tree 6900, .tree 6300]), (6900, .tree (.int .i64) (evs (cutL 32 t) k : List Int)), (6300, .tree (.int .i64) (ods (cutL 32 t) k : List Int))]) [] [] (fun k => fun _ => .none) else .none)
abbrev jo_spec_ReadWord_0 (gg : GSig) (t : List UInt8) (k1 : Nat) : Prop := (((2 : Int) ≠ (0 : Int) ∧ inI64 ((k1 : Int).tmod (2 : Int))) ∧ (((decide (((k1 : Int).tmod (2 : Int)) = (1 : Int))) = true →
 (cutOk (1 : Int) ((((cutL (bt (32 : Int)) t).getD k1 []).length : Int)) ((cutL (bt (32 : Int)) t).getD k1 []).length ∧ (inI64 (numV 9 ((((cutL (bt (32 : Int)) t).getD k1 []).take (Int.toNat ((((cutL (bt (32 : Int)) t).getD k1 []).length : Int)))).drop 1)) →
 (((!(numB 9 ((((cutL (bt (32 : Int)) t).getD k1 []).take (Int.toNat ((((cutL (bt (32 : Int)) t).getD k1 []).length : Int)))).drop 1))) = true →
 ((GWord.mk [] []) = (rwV gg t) ∧ (5 : Int) = (rwC gg t))) ∧ ((!(numB 9 ((((cutL (bt (32 : Int)) t).getD k1 []).take (Int.toNat ((((cutL (bt (32 : Int)) t).getD k1 []).length : Int)))).drop 1))) = false →
 (((2 : Int) ≠ (0 : Int) ∧ inI64 ((k1 : Int).tmod (2 : Int))) ∧ (((decide (((k1 : Int).tmod (2 : Int)) = (1 : Int))) = true →
 (roomOk ((ods (cutL 32 t) k1).length + ([(numV 9 ((((cutL (bt (32 : Int)) t).getD k1 []).take (Int.toNat ((((cutL (bt (32 : Int)) t).getD k1 []).length : Int)))).drop 1))]).length) 8 ∧ (inI64 ((k1 : Int) + (1 : Int)) ∧ (∃ k2 : Nat, (rwQ gg 9 t k2 ∧ ((cutL 32 t).length - k2 < (cutL 32 t).length - k1 ∧ ((gg = gg ∧ (True ∧ ((cutL (bt (32 : Int)) t) = (cutL (bt (32 : Int)) t) ∧ (True ∧ (((k1 : Int) + (1 : Int)) = (k2 : Int) ∧ True))))) ∧ ((True ∧ (True ∧ True)) ∧ ((evs (cutL 32 t) k1) = (evs (cutL 32 t) k2) ∧ (((ods (cutL 32 t) k1) ++ ([(numV 9 ((((cutL (bt (32 : Int)) t).getD k1 []).take (Int.toNat ((((cutL (bt (32 : Int)) t).getD k1 []).length : Int)))).drop 1))])) = (ods (cutL 32 t) k2) ∧ ((True ∧ (True ∧ True)) ∧ True))))))))))) ∧ ((decide (((k1 : Int).tmod (2 : Int)) = (1 : Int))) = false →
 (roomOk ((evs (cutL 32 t) k1).length + ([(numV 9 ((((cutL (bt (32 : Int)) t).getD k1 []).take (Int.toNat ((((cutL (bt (32 : Int)) t).getD k1 []).length : Int)))).drop 1))]).length) 8 ∧ (inI64 ((k1 : Int) + (1 : Int)) ∧ (∃ k2 : Nat, (rwQ gg 9 t k2 ∧ ((cutL 32 t).length - k2 < (cutL 32 t).length - k1 ∧ ((gg = gg ∧ (True ∧ ((cutL (bt (32 : Int)) t) = (cutL (bt (32 : Int)) t) ∧ (True ∧ (((k1 : Int) + (1 : Int)) = (k2 : Int) ∧ True))))) ∧ ((True ∧ (True ∧ True)) ∧ (((evs (cutL 32 t) k1) ++ ([(numV 9 ((((cutL (bt (32 : Int)) t).getD k1 []).take (Int.toNat ((((cutL (bt (32 : Int)) t).getD k1 []).length : Int)))).drop 1))])) = (evs (cutL 32 t) k2) ∧ ((ods (cutL 32 t) k1) = (ods (cutL 32 t) k2) ∧ ((True ∧ (True ∧ True)) ∧ True)))))))))))))))))) ∧ ((decide (((k1 : Int).tmod (2 : Int)) = (1 : Int))) = false →
 (inI64 (numV 9 ((cutL (bt (32 : Int)) t).getD k1 [])) →
 (((!(numB 9 ((cutL (bt (32 : Int)) t).getD k1 []))) = true →
 ((GWord.mk [] []) = (rwV gg t) ∧ (5 : Int) = (rwC gg t))) ∧ ((!(numB 9 ((cutL (bt (32 : Int)) t).getD k1 []))) = false →
 (((2 : Int) ≠ (0 : Int) ∧ inI64 ((k1 : Int).tmod (2 : Int))) ∧ (((decide (((k1 : Int).tmod (2 : Int)) = (1 : Int))) = true →
 (roomOk ((ods (cutL 32 t) k1).length + ([(numV 9 ((cutL (bt (32 : Int)) t).getD k1 []))]).length) 8 ∧ (inI64 ((k1 : Int) + (1 : Int)) ∧ (∃ k2 : Nat, (rwQ gg 9 t k2 ∧ ((cutL 32 t).length - k2 < (cutL 32 t).length - k1 ∧ ((gg = gg ∧ (True ∧ ((cutL (bt (32 : Int)) t) = (cutL (bt (32 : Int)) t) ∧ (True ∧ (((k1 : Int) + (1 : Int)) = (k2 : Int) ∧ True))))) ∧ ((True ∧ (True ∧ True)) ∧ ((evs (cutL 32 t) k1) = (evs (cutL 32 t) k2) ∧ (((ods (cutL 32 t) k1) ++ ([(numV 9 ((cutL (bt (32 : Int)) t).getD k1 []))])) = (ods (cutL 32 t) k2) ∧ ((True ∧ (True ∧ True)) ∧ True))))))))))) ∧ ((decide (((k1 : Int).tmod (2 : Int)) = (1 : Int))) = false →
 (roomOk ((evs (cutL 32 t) k1).length + ([(numV 9 ((cutL (bt (32 : Int)) t).getD k1 []))]).length) 8 ∧ (inI64 ((k1 : Int) + (1 : Int)) ∧ (∃ k2 : Nat, (rwQ gg 9 t k2 ∧ ((cutL 32 t).length - k2 < (cutL 32 t).length - k1 ∧ ((gg = gg ∧ (True ∧ ((cutL (bt (32 : Int)) t) = (cutL (bt (32 : Int)) t) ∧ (True ∧ (((k1 : Int) + (1 : Int)) = (k2 : Int) ∧ True))))) ∧ ((True ∧ (True ∧ True)) ∧ (((evs (cutL 32 t) k1) ++ ([(numV 9 ((cutL (bt (32 : Int)) t).getD k1 []))])) = (evs (cutL 32 t) k2) ∧ ((ods (cutL 32 t) k1) = (ods (cutL 32 t) k2) ∧ ((True ∧ (True ∧ True)) ∧ True)))))))))))))))))))
theorem vco_spec_ReadWord (gg : GSig) (t : List UInt8) : awp (envO [k_spec_l01Sig, k_spec_l01Split, k_spec_l01Number, k_spec_l01Word] [] [] [62, 63, 68, 69] [] [] [2]) (bodyOf f_spec_ReadWord) (lo_spec_ReadWord gg t) 0 (ownPost (envO [k_spec_l01Sig, k_spec_l01Split, k_spec_l01Number, k_spec_l01Word] [] [] [62, 63, 68, 69] [] [] [2]) f_spec_ReadWord fun r => areEq r [⟨(.st .word), rwV gg t⟩, ⟨(.int .i64), rwC gg t⟩]) (startO f_spec_ReadWord [.val ⟨(.st .sig), gg⟩, .val ⟨.str, t⟩]) =
 ((((!(sigOk gg)) = true →
 ((GWord.mk [] []) = (rwV gg t) ∧ (1 : Int) = (rwC gg t))) ∧ ((!(sigOk gg)) = false →
 ((t.length ≤ 1048576 ∧ 0 ≤ (32 : Int) ∧ (32 : Int) ≤ 255) ∧ ((cutL (bt (32 : Int)) t).length ≤ 140737488355328 →
 ((∃ k1 : Nat, (rwQ gg 9 t k1 ∧ ((gg = gg ∧ (True ∧ ((cutL (bt (32 : Int)) t) = (cutL (bt (32 : Int)) t) ∧ (True ∧ ((0 : Int) = (k1 : Int) ∧ True))))) ∧ ((True ∧ (True ∧ True)) ∧ ((evs (cutL 32 t) k1) = [] ∧ ((ods (cutL 32 t) k1) = [] ∧ ((True ∧ (True ∧ True)) ∧ True))))))) ∧ (∀ k1 : Nat, (rwQ gg 9 t k1 →
 (inI64 (((cutL (bt (32 : Int)) t).length : Int)) →
 (((decide ((k1 : Int) < (((cutL (bt (32 : Int)) t).length : Int)))) = true →
 (idxOk (k1 : Int) (cutL (bt (32 : Int)) t).length ∧ (((cutL (bt (32 : Int)) t).getD k1 []).length ≤ 140737488355328 →
 (((2 : Int) ≠ (0 : Int) ∧ inI64 ((k1 : Int).tmod (2 : Int))) ∧ (((decide (((k1 : Int).tmod (2 : Int)) = (1 : Int))) = true →
 (inI64 ((((cutL (bt (32 : Int)) t).getD k1 []).length : Int)) →
 (((decide (((((cutL (bt (32 : Int)) t).getD k1 []).length : Int)) < (1 : Int))) = false →
 (idxOk (0 : Int) ((cutL (bt (32 : Int)) t).getD k1 []).length ∧ (((!(decide ((((((cutL (bt (32 : Int)) t).getD k1 []).getD 0 0).toNat : Int)) = (97 : Int)))) = true →
 ((GWord.mk [] []) = (rwV gg t) ∧ (5 : Int) = (rwC gg t))) ∧ ((!(decide ((((((cutL (bt (32 : Int)) t).getD k1 []).getD 0 0).toNat : Int)) = (97 : Int)))) = false →
 (jo_spec_ReadWord_0 gg t k1))))) ∧ ((decide (((((cutL (bt (32 : Int)) t).getD k1 []).length : Int)) < (1 : Int))) = (!false) →
 ((true = true →
 ((GWord.mk [] []) = (rwV gg t) ∧ (5 : Int) = (rwC gg t))) ∧ (true = false →
 (jo_spec_ReadWord_0 gg t k1))))))) ∧ ((decide (((k1 : Int).tmod (2 : Int)) = (1 : Int))) = (!true) →
 ((false = true →
 ((GWord.mk [] []) = (rwV gg t) ∧ (5 : Int) = (rwC gg t))) ∧ (false = false →
 (jo_spec_ReadWord_0 gg t k1))))))))) ∧ ((decide ((k1 : Int) < (((cutL (bt (32 : Int)) t).length : Int)))) = false →
 (((!(sigOk gg && wdB gg (GWord.mk (evs (cutL 32 t) k1) (ods (cutL 32 t) k1)))) = true →
 ((GWord.mk [] []) = (rwV gg t) ∧ (5 : Int) = (rwC gg t))) ∧ ((!(sigOk gg && wdB gg (GWord.mk (evs (cutL 32 t) k1) (ods (cutL 32 t) k1)))) = false →
 ((GWord.mk (evs (cutL 32 t) k1) (ods (cutL 32 t) k1)) = (rwV gg t) ∧ (0 : Int) = (rwC gg t))))))))))))))) := by kernel_rfl
theorem oko_spec_ReadWord (hE : AllGood [k_spec_l01Sig, k_spec_l01Split, k_spec_l01Number, k_spec_l01Word]) (hO : AllO []) (hM : AllM []) (hS : AllS []) : Ctr.OGood ko_spec_ReadWord := by
 refine ⟨fnOk_of at_spec_ReadWord rfl (by decide), ?_⟩
 show ∀ (gg : GSig) (t : List UInt8), (t.length ≤ 1048576) → OkOwn prog n_spec_ReadWord [.val ⟨(.st .sig), gg⟩, .val ⟨.str, t⟩] [⟨(.st .word), rwV gg t⟩, ⟨(.int .i64), rwC gg t⟩]
 intro gg t hp
 refine own_of_awp (own := [62, 63, 68, 69]) (wr := []) (cl := []) (ro := [2]) hE hO hM hS at_spec_ReadWord body_spec_ReadWord (lo_spec_ReadWord gg t) ?_
 rewrite [vco_spec_ReadWord gg t]
 have f0 := cut32_len t
 refine ⟨fun a0 => ⟨?_, ?_⟩, fun a0 => ⟨?_, fun a1 => ⟨⟨0, ⟨?_, ⟨⟨rfl, ⟨trivial, ⟨rfl, ⟨trivial, ⟨?_, trivial⟩⟩⟩⟩⟩, ⟨⟨trivial, ⟨trivial, trivial⟩⟩, ⟨?_, ⟨?_, ⟨⟨trivial, ⟨trivial, trivial⟩⟩, trivial⟩⟩⟩⟩⟩⟩⟩, fun k1 => fun a2 => fun a3 => ⟨fun a4 => ⟨?_, fun a5 => ⟨⟨?_, ?_⟩, ⟨fun a6 => fun a7 => ⟨fun a8 => ⟨?_, ⟨fun a9 => ⟨?_, ?_⟩, fun a9 => ⟨⟨?_, ?_⟩, ⟨fun a10 => ⟨?_, fun a11 => ⟨fun a12 => ⟨?_, ?_⟩, fun a12 => ⟨⟨?_, ?_⟩, ⟨fun a13 => ⟨?_, ⟨?_, ⟨k1 + 1, ⟨?_, ⟨?_, ⟨⟨rfl, ⟨trivial, ⟨rfl, ⟨trivial, ⟨?_, trivial⟩⟩⟩⟩⟩, ⟨⟨trivial, ⟨trivial, trivial⟩⟩, ⟨?_, ⟨?_, ⟨⟨trivial, ⟨trivial, trivial⟩⟩, trivial⟩⟩⟩⟩⟩⟩⟩⟩⟩⟩, fun a13 => ⟨?_, ⟨?_, ⟨k1 + 1, ⟨?_, ⟨?_, ⟨⟨rfl, ⟨trivial, ⟨rfl, ⟨trivial, ⟨?_, trivial⟩⟩⟩⟩⟩, ⟨⟨trivial, ⟨trivial, trivial⟩⟩, ⟨?_, ⟨?_, ⟨⟨trivial, ⟨trivial, trivial⟩⟩, trivial⟩⟩⟩⟩⟩⟩⟩⟩⟩⟩⟩⟩⟩⟩, fun a10 => fun a11 => ⟨fun a12 => ⟨?_, ?_⟩, fun a12 => ⟨⟨?_, ?_⟩, ⟨fun a13 => ⟨?_, ⟨?_, ⟨k1 + 1, ⟨?_, ⟨?_, ⟨⟨rfl, ⟨trivial, ⟨rfl, ⟨trivial, ⟨?_, trivial⟩⟩⟩⟩⟩, ⟨⟨trivial, ⟨trivial, trivial⟩⟩, ⟨?_, ⟨?_, ⟨⟨trivial, ⟨trivial, trivial⟩⟩, trivial⟩⟩⟩⟩⟩⟩⟩⟩⟩⟩, fun a13 => ⟨?_, ⟨?_, ⟨k1 + 1, ⟨?_, ⟨?_, ⟨⟨rfl, ⟨trivial, ⟨rfl, ⟨trivial, ⟨?_, trivial⟩⟩⟩⟩⟩, ⟨⟨trivial, ⟨trivial, trivial⟩⟩, ⟨?_, ⟨?_, ⟨⟨trivial, ⟨trivial, trivial⟩⟩, trivial⟩⟩⟩⟩⟩⟩⟩⟩⟩⟩⟩⟩⟩⟩⟩⟩⟩, fun a8 => ⟨fun a9 => ⟨?_, ?_⟩, fun a9 => ⟨⟨?_, ?_⟩, ⟨fun a10 => ⟨?_, fun a11 => ⟨fun a12 => ⟨?_, ?_⟩, fun a12 => ⟨⟨?_, ?_⟩, ⟨fun a13 => ⟨?_, ⟨?_, ⟨k1 + 1, ⟨?_, ⟨?_, ⟨⟨rfl, ⟨trivial, ⟨rfl, ⟨trivial, ⟨?_, trivial⟩⟩⟩⟩⟩, ⟨⟨trivial, ⟨trivial, trivial⟩⟩, ⟨?_, ⟨?_, ⟨⟨trivial, ⟨trivial, trivial⟩⟩, trivial⟩⟩⟩⟩⟩⟩⟩⟩⟩⟩, fun a13 => ⟨?_, ⟨?_, ⟨k1 + 1, ⟨?_, ⟨?_, ⟨⟨rfl, ⟨trivial, ⟨rfl, ⟨trivial, ⟨?_, trivial⟩⟩⟩⟩⟩, ⟨⟨trivial, ⟨trivial, trivial⟩⟩, ⟨?_, ⟨?_, ⟨⟨trivial, ⟨trivial, trivial⟩⟩, trivial⟩⟩⟩⟩⟩⟩⟩⟩⟩⟩⟩⟩⟩⟩, fun a10 => fun a11 => ⟨fun a12 => ⟨?_, ?_⟩, fun a12 => ⟨⟨?_, ?_⟩, ⟨fun a13 => ⟨?_, ⟨?_, ⟨k1 + 1, ⟨?_, ⟨?_, ⟨⟨rfl, ⟨trivial, ⟨rfl, ⟨trivial, ⟨?_, trivial⟩⟩⟩⟩⟩, ⟨⟨trivial, ⟨trivial, trivial⟩⟩, ⟨?_, ⟨?_, ⟨⟨trivial, ⟨trivial, trivial⟩⟩, trivial⟩⟩⟩⟩⟩⟩⟩⟩⟩⟩, fun a13 => ⟨?_, ⟨?_, ⟨k1 + 1, ⟨?_, ⟨?_, ⟨⟨rfl, ⟨trivial, ⟨rfl, ⟨trivial, ⟨?_, trivial⟩⟩⟩⟩⟩, ⟨⟨trivial, ⟨trivial, trivial⟩⟩, ⟨?_, ⟨?_, ⟨⟨trivial, ⟨trivial, trivial⟩⟩, trivial⟩⟩⟩⟩⟩⟩⟩⟩⟩⟩⟩⟩⟩⟩⟩⟩⟩, fun a6 => ⟨fun a7 => ⟨?_, ?_⟩, fun a7 => ⟨⟨?_, ?_⟩, ⟨fun a8 => ⟨?_, fun a9 => ⟨fun a10 => ⟨?_, ?_⟩, fun a10 => ⟨⟨?_, ?_⟩, ⟨fun a11 => ⟨?_, ⟨?_, ⟨k1 + 1, ⟨?_, ⟨?_, ⟨⟨rfl, ⟨trivial, ⟨rfl, ⟨trivial, ⟨?_, trivial⟩⟩⟩⟩⟩, ⟨⟨trivial, ⟨trivial, trivial⟩⟩, ⟨?_, ⟨?_, ⟨⟨trivial, ⟨trivial, trivial⟩⟩, trivial⟩⟩⟩⟩⟩⟩⟩⟩⟩⟩, fun a11 => ⟨?_, ⟨?_, ⟨k1 + 1, ⟨?_, ⟨?_, ⟨⟨rfl, ⟨trivial, ⟨rfl, ⟨trivial, ⟨?_, trivial⟩⟩⟩⟩⟩, ⟨⟨trivial, ⟨trivial, trivial⟩⟩, ⟨?_, ⟨?_, ⟨⟨trivial, ⟨trivial, trivial⟩⟩, trivial⟩⟩⟩⟩⟩⟩⟩⟩⟩⟩⟩⟩⟩⟩, fun a8 => fun a9 => ⟨fun a10 => ⟨?_, ?_⟩, fun a10 => ⟨⟨?_, ?_⟩, ⟨fun a11 => ⟨?_, ⟨?_, ⟨k1 + 1, ⟨?_, ⟨?_, ⟨⟨rfl, ⟨trivial, ⟨rfl, ⟨trivial, ⟨?_, trivial⟩⟩⟩⟩⟩, ⟨⟨trivial, ⟨trivial, trivial⟩⟩, ⟨?_, ⟨?_, ⟨⟨trivial, ⟨trivial, trivial⟩⟩, trivial⟩⟩⟩⟩⟩⟩⟩⟩⟩⟩, fun a11 => ⟨?_, ⟨?_, ⟨k1 + 1, ⟨?_, ⟨?_, ⟨⟨rfl, ⟨trivial, ⟨rfl, ⟨trivial, ⟨?_, trivial⟩⟩⟩⟩⟩, ⟨⟨trivial, ⟨trivial, trivial⟩⟩, ⟨?_, ⟨?_, ⟨⟨trivial, ⟨trivial, trivial⟩⟩, trivial⟩⟩⟩⟩⟩⟩⟩⟩⟩⟩⟩⟩⟩⟩⟩⟩⟩⟩⟩, fun a4 => ⟨fun a5 => ⟨?_, ?_⟩, fun a5 => ⟨?_, ?_⟩⟩⟩⟩⟩⟩
 all_goals try and_intros
 all_goals (try simp only [Bool.not_true, Bool.not_false, Bool.not_eq_true', Bool.not_eq_false', decide_eq_true_eq, decide_eq_false_iff_not] at *) <;> (try simp only [Bool.not_true, Bool.not_false, Bool.not_eq_true', Bool.not_eq_false', List.getD_cons_zero, Int.toNat_natCast, List.take_length, List.length_append, List.length_cons, List.length_nil, Nat.zero_add, decide_eq_true_eq, decide_eq_false_iff_not, idxOk, cutOk, roomOk, inI64, bt32, tm2, hasA_j] at *) <;> first | with_reducible rfl | omega | exact (rs_no gg t (by with_reducible assumption)).1.symm | exact (rs_no gg t (by with_reducible assumption)).2.symm | exact (rs_long gg t (by with_reducible assumption) (by omega)).1.symm | exact (rs_long gg t (by with_reducible assumption) (by omega)).2.symm | exact rq_zero gg 9 t (by with_reducible assumption) ((rw_eq gg t (by with_reducible assumption)).symm) | (have hq : rwQ gg 9 t k1 := (by with_reducible assumption); have hl := hq.le; have hn := eo_len (cutL 32 t) k1; first | omega | exact hq.sig | exact (rq_bad gg 9 t k1 hq (by omega) (by first | exact pc_o1 9 (cutL 32 t) k1 (by omega) (by with_reducible assumption) | exact pc_o1 9 (cutL 32 t) k1 (by omega) (hasA_f _ (by omega)) | exact pc_o2 9 (cutL 32 t) k1 (by omega) (by with_reducible assumption) | exact pc_e1 9 (cutL 32 t) k1 (by omega) (by with_reducible assumption))).1.symm | exact (rq_bad gg 9 t k1 hq (by omega) (by first | exact pc_o1 9 (cutL 32 t) k1 (by omega) (by with_reducible assumption) | exact pc_o1 9 (cutL 32 t) k1 (by omega) (hasA_f _ (by omega)) | exact pc_o2 9 (cutL 32 t) k1 (by omega) (by with_reducible assumption) | exact pc_e1 9 (cutL 32 t) k1 (by omega) (by with_reducible assumption))).2.symm | exact rq_good gg 9 t k1 hq (by omega) (by first | exact pc_o3 9 (cutL 32 t) k1 (by omega) (by with_reducible assumption) (by with_reducible assumption) | exact pc_o3 9 (cutL 32 t) k1 (by omega) (hasA_t _ (by omega) (by omega)) (by with_reducible assumption) | exact pc_e2 9 (cutL 32 t) k1 (by omega) (by with_reducible assumption)) | exact (rq_no gg 9 t k1 hq (by omega) (by with_reducible assumption)).1.symm | exact (rq_no gg 9 t k1 hq (by omega) (by with_reducible assumption)).2.symm | exact (rq_end gg 9 t k1 hq (by omega) (by with_reducible assumption)).1.symm | exact (rq_end gg 9 t k1 hq (by omega) (by with_reducible assumption)).2.symm | exact (rq_no2 gg 9 t k1 hq (by omega) (by with_reducible assumption)).1.symm | exact (rq_no2 gg 9 t k1 hq (by omega) (by with_reducible assumption)).2.symm | exact (rq_end2 gg 9 t k1 hq (by omega) (by with_reducible assumption)).1.symm | exact (rq_end2 gg 9 t k1 hq (by omega) (by with_reducible assumption)).2.symm | exact (eo_odd (cutL 32 t) k1 (by omega)).1.symm | exact (eo_even (cutL 32 t) k1 (by omega)).2.symm | exact sn_o 9 (cutL 32 t) k1 (by omega) (by with_reducible assumption) | exact sn_e 9 (cutL 32 t) k1 (by omega) (by with_reducible assumption) | (have h1 := hasA_len _ (by with_reducible assumption); omega) | exact absurd (by assumption : (true = false)) (by decide) | exact absurd (by assumption : (false = true)) (by decide)) | exact Eq.refl _
theorem ogood_spec_ReadWord : Ctr.OGood ko_spec_ReadWord := oko_spec_ReadWord ⟨good_spec_l01Sig, good_spec_l01Split, good_spec_l01Number, good_spec_l01Word, trivial⟩ trivial trivial trivial
end
end Go.Proofs.YtkogipcdjalehaaDoor

/- Mdl, Mdl2. -/
import Derived.Test.YtkogipcdjalehaaDoorVmUse
import Derived.Test.YtkogipcdjalehaaDoorVmLib
import Derived.Test.YtkogipcdjalehaaDoorVmValid
import Derived.Test.YtkogipcdjalehaaDoorVmWord
import Derived.Test.YtkogipcdjalehaaDoorVmText
set_option linter.unusedVariables false
set_option linter.unusedSimpArgs false
set_option linter.unusedSectionVars false
namespace Go.Proofs.YtkogipcdjalehaaDoor
noncomputable section
def catL {α β : Type} (f : α → List β) (xs : List α) : List β := (xs.map f).flatten
theorem catL_cons {α β : Type} (f : α → List β) (x : α) (xs : List α) : catL f (x :: xs) = f x ++ catL f xs := rfl
theorem catL_nil {α β : Type} (f : α → List β) : catL f [] = [] := rfl
theorem catL_append {α β : Type} (f : α → List β) (xs ys : List α) : catL f (xs ++ ys) = catL f xs ++ catL f ys := by simp [catL]
theorem catL_take {α β : Type} (f : α → List β) (z : α) (xs : List α) (i : Nat) (h : i < xs.length) : catL f (xs.take (i + 1)) = catL f (xs.take i) ++ f (xs.getD i z) := by
 rw [take_snoc z xs i h, catL_append, catL_cons, catL_nil, List.append_nil]
theorem catL_all {α β : Type} (f : α → List β) (xs : List α) (i : Nat) (h : xs.length ≤ i) : catL f (xs.take i) = catL f xs := by rw [List.take_of_length_le h]
theorem catL_zero {α β : Type} (f : α → List β) (xs : List α) : catL f (xs.take 0) = [] := rfl
def bit1 (b : Bool) : List UInt8 := bif b then [49] else [48]
def bitsB (l : List Bool) : List UInt8 := catL bit1 l
def rdB (s : List UInt8) : List Bool := s.map fun c => decide ((c.toNat : Int) = 49)
def tstL (r : List Bool) : List UInt8 := [116, 101, 115, 116, 32] ++ bitsB r
def tstTx (r : List Bool) : List UInt8 := [116, 101, 115, 116, 32] ++ bitsB r ++ [10]
def rowTx (r : List Bool) : List UInt8 := [32] ++ bitsB r
def actL (t : List (List Bool)) : List UInt8 := [97, 99, 116] ++ catL rowTx t
def actTx (t : List (List Bool)) : List UInt8 := [97, 99, 116] ++ catL rowTx t ++ [10]
def hdrL (m : GModel) : List UInt8 := [109, 111, 100, 101, 108, 32] ++ dig m.sig.tests ++ [32] ++ dig m.sig.actions ++ [32] ++ dig m.points
def mtx (m : GModel) : List UInt8 := hdrL m ++ [10] ++ catL tstTx m.tests ++ catL actTx m.acts
def rowB (c : Int) (r : List Bool) : Bool := decide ((r.length : Int) = c)
def tabB (t : List (List Bool)) (r c : Int) : Bool := decide ((t.length : Int) = r) && allL (rowB c) t
def ptsB (n : Int) : Bool := decide (1 ≤ n ∧ n ≤ 8)
def mOk (m : GModel) : Bool := sigOk m.sig && ptsB m.points && tabB m.tests m.sig.tests m.points && decide ((m.acts.length : Int) = m.sig.actions) && allL (fun t => tabB t m.points m.points) m.acts
theorem bits_mem (l : List Bool) : ∀ b ∈ bitsB l, b = 49 ∨ b = 48 := by
 induction l with
 | nil => intro b h; cases h
 | cons x xs ih =>
  intro b h
  rw [bitsB, catL_cons, List.mem_append] at h
  rcases h with h | h
  ·cases x
   ·right; simpa [bit1] using h
   ·left; simpa [bit1] using h
  ·exact ih b h
theorem bits_no (c : UInt8) (h1 : (49 == c) = false) (h2 : (48 == c) = false) (l : List Bool) : ∀ b ∈ bitsB l, (b == c) = false := fun b hb => by
 rcases bits_mem l b hb with rfl | rfl
 ·exact h1
 ·exact h2
theorem bits_rd (l : List Bool) : rdB (bitsB l) = l := by
 induction l with
 | nil => rfl
 | cons x xs ih =>
  rw [bitsB, catL_cons]
  have : rdB (bit1 x ++ catL bit1 xs) = rdB (bit1 x) ++ rdB (catL bit1 xs) := by simp [rdB]
  rw [this]
  have e : rdB (bit1 x) = [x] := by cases x <;> rfl
  rw [e]
  show x :: rdB (bitsB xs) = _
  rw [ih]
theorem bits_len (l : List Bool) : (bitsB l).length = l.length := by
 induction l with
 | nil => rfl
 | cons x xs ih =>
  rw [bitsB, catL_cons, List.length_append]
  have e : (bit1 x).length = 1 := by cases x <;> rfl
  rw [e, ← show bitsB xs = catL bit1 xs from rfl, ih, List.length_cons]; omega
theorem cut_words : ∀ (t : List (List Bool)) (a : List UInt8), (∀ b ∈ a, (b == 32) = false) → cutL 32 (a ++ catL rowTx t) = a :: t.map bitsB
 | [], a, h => by rw [catL_nil, List.append_nil, cutL_none 32 a h]; rfl
 | r :: t, a, h => by
  rw [catL_cons]
  show cutL 32 (a ++ (([32] ++ bitsB r) ++ catL rowTx t)) = _
  rw [List.append_assoc]
  show cutL 32 (a ++ 32 :: (bitsB r ++ catL rowTx t)) = _
  rw [cutL_hit 32 a _ h, cut_words t (bitsB r) (bits_no 32 (by decide) (by decide) r)]
  rfl
theorem cut_lines {α : Type} (f : α → List UInt8) (hf : ∀ x, ∀ b ∈ f x, (b == 10) = false) : ∀ (xs : List α) (r : List UInt8), cutL 10 (catL (fun x => f x ++ [10]) xs ++ r) = xs.map f ++ cutL 10 r
 | [], r => rfl
 | x :: xs, r => by
  rw [catL_cons, List.append_assoc, List.append_assoc]
  show cutL 10 (f x ++ 10 :: (catL _ xs ++ r)) = _
  rw [cutL_hit 10 _ _ (hf x), cut_lines f hf xs r]
  rfl
theorem no_app (c : UInt8) (a b : List UInt8) (h1 : ∀ x ∈ a, (x == c) = false) (h2 : ∀ x ∈ b, (x == c) = false) : ∀ x ∈ a ++ b, (x == c) = false := fun x hx => (List.mem_append.1 hx).elim (h1 x) (h2 x)
theorem no_cat {α : Type} (c : UInt8) (f : α → List UInt8) (h : ∀ x, ∀ b ∈ f x, (b == c) = false) : ∀ xs : List α, ∀ b ∈ catL f xs, (b == c) = false
 | [], b, hb => by cases hb
 | x :: xs, b, hb => by
  rw [catL_cons] at hb
  exact (List.mem_append.1 hb).elim (h x b) (no_cat c f h xs b)
theorem tst_no (r : List Bool) : ∀ b ∈ tstL r, (b == 10) = false := no_app 10 _ _ (by decide) (bits_no 10 (by decide) (by decide) r)
theorem row_no (r : List Bool) : ∀ b ∈ rowTx r, (b == 10) = false := no_app 10 _ _ (by decide) (bits_no 10 (by decide) (by decide) r)
theorem act_no (t : List (List Bool)) : ∀ b ∈ actL t, (b == 10) = false := no_app 10 _ _ (by decide) (no_cat 10 rowTx row_no t)
theorem dig_dec : ∀ n : Fin 10, numB 1 (dig (n.val : Int)) = true ∧ numV 1 (dig (n.val : Int)) = (n.val : Int) ∧ numB 9 (dig (n.val : Int)) = true ∧ numV 9 (dig (n.val : Int)) = (n.val : Int) ∧ (dig (n.val : Int)).length = 1 ∧ (dig (n.val : Int)).all (fun b => !(b == 10) && !(b == 32)) = true := by decide +kernel
theorem dig_num (n : Int) (h : 0 ≤ n ∧ n ≤ 9) : numB 1 (dig n) = true ∧ numV 1 (dig n) = n ∧ numB 9 (dig n) = true ∧ numV 9 (dig n) = n ∧ (dig n).length = 1 ∧ (∀ b ∈ dig n, (b == 10) = false) ∧ ∀ b ∈ dig n, (b == 32) = false := by
 obtain ⟨k, rfl⟩ : ∃ k : Nat, n = k := ⟨n.toNat, by omega⟩
 obtain ⟨h1, h2, h3, h4, h5, h6⟩ := dig_dec ⟨k, by omega⟩
 refine ⟨h1, h2, h3, h4, h5, fun b hb => ?_, fun b hb => ?_⟩
 ·have := List.all_eq_true.1 h6 b hb
  simp only [Bool.and_eq_true, Bool.not_eq_true'] at this
  exact this.1
 ·have := List.all_eq_true.1 h6 b hb
  simp only [Bool.and_eq_true, Bool.not_eq_true'] at this
  exact this.2
def isT (l : List UInt8) : Bool := decide ((cutL 32 l).getD 0 [] = [116, 101, 115, 116])
def tabOf (l : List UInt8) : List (List Bool) := ((cutL 32 l).drop 1).map rdB
def rT1 (l : List UInt8) : List (List Bool) := bif isT l then tabOf l else []
def rA1 (l : List UInt8) : List (List (List Bool)) := bif isT l then [] else [tabOf l]
theorem map_rd (t : List (List Bool)) : (t.map bitsB).map rdB = t := by
 induction t with
 | nil => rfl
 | cons r t ih => simp only [List.map_cons, bits_rd, ih]
theorem tst_read (r : List Bool) : isT (tstL r) = true ∧ tabOf (tstL r) = [r] := by
 have e : cutL 32 (tstL r) = [116, 101, 115, 116] :: [r].map bitsB := by
  rw [← cut_words [r] [116, 101, 115, 116] (by decide)]
  simp [tstL, catL, rowTx]
 unfold isT tabOf
 rw [e]
 exact ⟨rfl, map_rd [r]⟩
theorem act_read (t : List (List Bool)) : isT (actL t) = false ∧ tabOf (actL t) = t := by
 have e : cutL 32 (actL t) = [97, 99, 116] :: t.map bitsB := cut_words t [97, 99, 116] (by decide)
 unfold isT tabOf
 rw [e]
 exact ⟨rfl, map_rd t⟩
def rTs (ls : List (List UInt8)) : List (List Bool) := catL rT1 ls
def rAs (ls : List (List UInt8)) : List (List (List Bool)) := catL rA1 ls
theorem rTs_lines (a : List (List Bool)) (b : List (List (List Bool))) : rTs (a.map tstL ++ b.map actL) = a ∧ rAs (a.map tstL ++ b.map actL) = b := by
 unfold rTs rAs
 rw [catL_append, catL_append]
 have h1 : ∀ a : List (List Bool), catL rT1 (a.map tstL) = a ∧ catL rA1 (a.map tstL) = [] := by
  intro a
  induction a with
  | nil => exact ⟨rfl, rfl⟩
  | cons r a ih =>
   obtain ⟨k1, k2⟩ := tst_read r
   rw [List.map_cons, catL_cons, catL_cons, ih.1, ih.2]
   unfold rT1 rA1
   rw [k1, k2]; exact ⟨rfl, rfl⟩
 have h2 : ∀ b : List (List (List Bool)), catL rT1 (b.map actL) = [] ∧ catL rA1 (b.map actL) = b := by
  intro b
  induction b with
  | nil => exact ⟨rfl, rfl⟩
  | cons t b ih =>
   obtain ⟨k1, k2⟩ := act_read t
   rw [List.map_cons, catL_cons, catL_cons, ih.1, ih.2]
   unfold rT1 rA1
   rw [k1, k2]; exact ⟨rfl, rfl⟩
 rw [(h1 a).1, (h1 a).2, (h2 b).1, (h2 b).2]
 exact ⟨by simp, by simp⟩
structure MOk (m : GModel) : Prop where
 sig : sigOk m.sig = true
 t : 0 ≤ m.sig.tests ∧ m.sig.tests ≤ 3
 a : 0 ≤ m.sig.actions ∧ m.sig.actions ≤ 4
 p : 1 ≤ m.points ∧ m.points ≤ 8
 tl : (m.tests.length : Int) = m.sig.tests
 al : (m.acts.length : Int) = m.sig.actions
theorem mOk_parts (m : GModel) (h : mOk m = true) : MOk m := by
 simp only [mOk, tabB, ptsB, Bool.and_eq_true, decide_eq_true_eq] at h
 obtain ⟨⟨⟨⟨h1, h2⟩, h3⟩, h4⟩, _⟩ := h
 have h0 := (sigOk_iff m.sig).1 h1
 exact ⟨h1, h0.1, h0.2, h2, h3.1, h4⟩
theorem hdr_no (m : GModel) (h : MOk m) : ∀ b ∈ hdrL m, (b == 10) = false := by
 have d1 := (dig_num m.sig.tests ⟨h.t.1, by have := h.t.2; omega⟩).2.2.2.2.2.1
 have d2 := (dig_num m.sig.actions ⟨h.a.1, by have := h.a.2; omega⟩).2.2.2.2.2.1
 have d3 := (dig_num m.points ⟨by have := h.p.1; omega, by have := h.p.2; omega⟩).2.2.2.2.2.1
 exact no_app 10 _ _ (no_app 10 _ _ (no_app 10 _ _ (no_app 10 _ _ (no_app 10 _ _ (by decide) d1) (by decide)) d2) (by decide)) d3
theorem hdr_words (m : GModel) (h : MOk m) : cutL 32 (hdrL m) = [[109, 111, 100, 101, 108], dig m.sig.tests, dig m.sig.actions, dig m.points] := by
 have d1 := (dig_num m.sig.tests ⟨h.t.1, by have := h.t.2; omega⟩).2.2.2.2.2.2
 have d2 := (dig_num m.sig.actions ⟨h.a.1, by have := h.a.2; omega⟩).2.2.2.2.2.2
 have d3 := (dig_num m.points ⟨by have := h.p.1; omega, by have := h.p.2; omega⟩).2.2.2.2.2.2
 have e : hdrL m = [109, 111, 100, 101, 108] ++ 32 :: (dig m.sig.tests ++ 32 :: (dig m.sig.actions ++ 32 :: dig m.points)) := by simp [hdrL]
 rw [e, cutL_hit 32 _ _ (by decide), cutL_hit 32 _ _ d1, cutL_hit 32 _ _ d2, cutL_none 32 _ d3]
theorem mtx_lines (m : GModel) (h : MOk m) : cutL 10 (mtx m) = hdrL m :: (m.tests.map tstL ++ m.acts.map actL) ++ [[]] := by
 have e : mtx m = hdrL m ++ 10 :: (catL (fun x => tstL x ++ [10]) m.tests ++ (catL (fun x => actL x ++ [10]) m.acts ++ [])) := by
  simp [mtx]; rfl
 rw [e, cutL_hit 10 _ _ (hdr_no m h), cut_lines tstL tst_no, cut_lines actL act_no]
 have : cutL 10 [] = [[]] := rfl
 rw [this]; simp
theorem flat_len {α : Type} (f : α → List UInt8) (M : Nat) : ∀ xs : List α, (∀ x ∈ xs, (f x).length ≤ M) → (catL f xs).length ≤ M * xs.length
 | [], _ => by simp [catL]
 | x :: xs, h => by
  have h1 := flat_len f M xs fun y hy => h y (by simp [hy])
  have h2 := h x (by simp)
  rw [catL_cons, List.length_append, List.length_cons, Nat.mul_succ]; omega
theorem allL_mem {α : Type} (p : α → Bool) (xs : List α) (h : allL p xs = true) : ∀ x ∈ xs, p x = true := by
 induction xs with
 | nil => intro x hx; cases hx
 | cons y ys ih =>
  simp only [allL, Bool.and_eq_true] at h
  intro x hx
  rcases List.mem_cons.1 hx with rfl | hx
  ·exact h.1
  ·exact ih h.2 x hx
theorem mtx_len (m : GModel) (h : mOk m = true) : (mtx m).length ≤ 2000 := by
 have hp := mOk_parts m h
 simp only [mOk, tabB, Bool.and_eq_true, decide_eq_true_eq] at h
 obtain ⟨⟨⟨⟨_, _⟩, h3⟩, _⟩, h5⟩ := h
 have d1 := (dig_num m.sig.tests ⟨hp.t.1, by have := hp.t.2; omega⟩).2.2.2.2.1
 have d2 := (dig_num m.sig.actions ⟨hp.a.1, by have := hp.a.2; omega⟩).2.2.2.2.1
 have d3 := (dig_num m.points ⟨by have := hp.p.1; omega, by have := hp.p.2; omega⟩).2.2.2.2.1
 have k1 := flat_len tstTx 20 m.tests fun r hr => by
  have := of_decide_eq_true (allL_mem _ _ h3.2 r hr)
  have e := bits_len r
  simp only [tstTx, List.length_append, List.length_cons, List.length_nil, e]
  have := hp.p.2; omega
 have k2 := flat_len actTx 100 m.acts fun t ht => by
  have q := allL_mem _ _ h5 t ht
  rw [Bool.and_eq_true, decide_eq_true_eq] at q
  have q2 := flat_len rowTx 9 t fun r hr => by
   have := of_decide_eq_true (allL_mem _ _ q.2 r hr)
   have e := bits_len r
   simp only [rowTx, List.length_append, List.length_cons, List.length_nil, e]
   have := hp.p.2; omega
  simp only [actTx, List.length_append, List.length_cons, List.length_nil]
  have := hp.p.2; omega
 simp only [mtx, hdrL, List.length_append, List.length_cons, List.length_nil, d1, d2, d3]
 have := hp.tl; have := hp.al; have := hp.t; have := hp.a
 omega
end
end Go.Proofs.YtkogipcdjalehaaDoor

set_option linter.unusedVariables false
set_option linter.unusedSimpArgs false
set_option linter.unusedSectionVars false
namespace Go.Proofs.YtkogipcdjalehaaDoor
noncomputable section
def zM : GModel := GModel.mk (GSig.mk (0 : Int) (0 : Int)) (0 : Int) [] []
def lnI (t : List UInt8) : List (List UInt8) := (cutL 10 t).take ((cutL 10 t).length - 1)
def lnB (t : List UInt8) : Bool := decide ((cutL 10 t).getD ((cutL 10 t).length - 1) [] = [])
def hdW (t : List UInt8) : List (List UInt8) := cutL 32 ((cutL 10 t).getD 0 [])
def mI (t : List UInt8) : GModel := GModel.mk (GSig.mk (numV 1 ((hdW t).getD 1 [])) (numV 1 ((hdW t).getD 2 []))) (numV 1 ((hdW t).getD 3 [])) (rTs ((lnI t).drop 1)) (rAs ((lnI t).drop 1))
def okH (t : List UInt8) : Bool := lnB t && decide (1 < (cutL 10 t).length) && decide (t.length ≤ 2000)
def okN (k : Int) (t : List UInt8) : Bool := numB k ((hdW t).getD 1 []) && numB k ((hdW t).getD 2 []) && numB k ((hdW t).getD 3 [])
def okI (t : List UInt8) : Bool := okH t && decide ((hdW t).length = 4) && okN 1 t && mOk (mI t) && decide (mtx (mI t) = t)
def rmV (t : List UInt8) : GModel := bif okI t then mI t else zM
def rmC (t : List UInt8) : Int := bif okI t then 0 else 5
def fst1 (l : List UInt8) : List Bool := (tabOf l).getD 0 []
def one1 (l : List UInt8) : Bool := decide ((tabOf l).length = 1)
def bdy (t : List UInt8) : List (List UInt8) := (cutL 10 t).drop 1
def nT (t : List UInt8) : Nat := (numV 9 ((hdW t).getD 1 [])).toNat
def nA (t : List UInt8) : Nat := (numV 9 ((hdW t).getD 2 [])).toNat
def sTs (t : List UInt8) (i : Nat) : List (List Bool) := (((bdy t).take i).take (nT t)).map fst1
def sAs (t : List UInt8) (i : Nat) : List (List (List Bool)) := (((bdy t).take i).drop (nT t)).map tabOf
def mS (t : List UInt8) : GModel := GModel.mk (GSig.mk (numV 9 ((hdW t).getD 1 [])) (numV 9 ((hdW t).getD 2 []))) (numV 9 ((hdW t).getD 3 [])) (sTs t (nT t + nA t)) (sAs t (nT t + nA t))
def okG (t : List UInt8) : Bool := decide ((hdW t).length = 4) && decide ((hdW t).getD 0 [] = [109, 111, 100, 101, 108]) && okN 9 t && sigOk (mS t).sig && ptsB (mS t).points && decide ((cutL 10 t).length = nT t + nA t + 2)
def okO (t : List UInt8) (i : Nat) : Bool := allL one1 (((bdy t).take i).take (nT t))
def okS (t : List UInt8) : Bool := okG t && okO t (nT t + nA t) && mOk (mS t) && decide (mtx (mS t) = t)
theorem allL_map {α β : Type} (p : β → Bool) (f : α → β) : ∀ xs : List α, (∀ x, p (f x) = true) → allL p (xs.map f) = true
 | [], _ => rfl
 | x :: xs, h => by simp only [List.map_cons, allL, h x, allL_map p f xs h, Bool.and_self]
theorem map_fst (a : List (List Bool)) : (a.map tstL).map fst1 = a ∧ allL one1 (a.map tstL) = true := by
 refine ⟨?_, allL_map _ _ a fun r => ?_⟩
 ·induction a with
  | nil => rfl
  | cons r a ih =>
   rw [List.map_cons, List.map_cons, ih]
   unfold fst1
   rw [(tst_read r).2]; rfl
 ·unfold one1; rw [(tst_read r).2]; rfl
theorem map_act (b : List (List (List Bool))) : (b.map actL).map tabOf = b := by
 induction b with
 | nil => rfl
 | cons r b ih => rw [List.map_cons, List.map_cons, ih, (act_read r).2]
structure Hd (m : GModel) (t : List UInt8) : Prop where
 ln : cutL 10 t = hdrL m :: (m.tests.map tstL ++ m.acts.map actL) ++ [[]]
 hw : hdW t = [[109, 111, 100, 101, 108], dig m.sig.tests, dig m.sig.actions, dig m.points]
theorem hd_of (m : GModel) (h : MOk m) : Hd m (mtx m) := by
 have hl := mtx_lines m h
 refine ⟨hl, ?_⟩
 unfold hdW
 rw [hl]
 exact hdr_words m h
theorem rt_I (m : GModel) (h : mOk m = true) : okI (mtx m) = true ∧ mI (mtx m) = m := by
 have hp := mOk_parts m h
 obtain ⟨hl, hw⟩ := hd_of m hp
 obtain ⟨a1, a2, _, _, _, _, _⟩ := dig_num m.sig.tests ⟨hp.t.1, by have := hp.t.2; omega⟩
 obtain ⟨b1, b2, _, _, _, _, _⟩ := dig_num m.sig.actions ⟨hp.a.1, by have := hp.a.2; omega⟩
 obtain ⟨c1, c2, _, _, _, _, _⟩ := dig_num m.points ⟨by have := hp.p.1; omega, by have := hp.p.2; omega⟩
 have hlen : (cutL 10 (mtx m)).length = (m.tests.map tstL ++ m.acts.map actL).length + 2 := by rw [hl]; simp; omega
 have hln : lnI (mtx m) = hdrL m :: (m.tests.map tstL ++ m.acts.map actL) := by
  unfold lnI
  rw [hlen, hl]
  rw [List.take_append_of_le_length (by simp), List.take_of_length_le (by simp)]
 have hm : mI (mtx m) = m := by
  unfold mI
  rw [hw, hln]
  obtain ⟨r1, r2⟩ := rTs_lines m.tests m.acts
  simp only [List.getD_cons_succ, List.getD_cons_zero, List.drop_succ_cons, List.drop_zero, a2, b2, c2, r1, r2]
 refine ⟨?_, hm⟩
 have hB : lnB (mtx m) = true := by
  unfold lnB
  rw [hlen, hl]
  refine decide_eq_true ?_
  rw [List.getD_eq_getElem?_getD, List.getElem?_append_right (by simp)]
  simp
 have hk := mtx_len m h
 unfold okI okH okN
 rw [hB, hm, h, hw, hlen]
 simp only [List.getD_cons_succ, List.getD_cons_zero, a1, b1, c1, decide_eq_true hk, List.length_cons, List.length_nil]
 simp
theorem rt_S (m : GModel) (h : mOk m = true) : okS (mtx m) = true ∧ mS (mtx m) = m := by
 have hp := mOk_parts m h
 obtain ⟨hl, hw⟩ := hd_of m hp
 obtain ⟨_, _, a1, a2, _, _, _⟩ := dig_num m.sig.tests ⟨hp.t.1, by have := hp.t.2; omega⟩
 obtain ⟨_, _, b1, b2, _, _, _⟩ := dig_num m.sig.actions ⟨hp.a.1, by have := hp.a.2; omega⟩
 obtain ⟨_, _, c1, c2, _, _, _⟩ := dig_num m.points ⟨by have := hp.p.1; omega, by have := hp.p.2; omega⟩
 have hlen : (cutL 10 (mtx m)).length = m.tests.length + m.acts.length + 2 := by rw [hl]; simp; omega
 have hT : nT (mtx m) = m.tests.length := by
  unfold nT; rw [hw]; simp only [List.getD_cons_succ, List.getD_cons_zero, a2]; have := hp.tl; omega
 have hA : nA (mtx m) = m.acts.length := by
  unfold nA; rw [hw]; simp only [List.getD_cons_succ, List.getD_cons_zero, b2]; have := hp.al; omega
 have hb : (bdy (mtx m)).take (m.tests.length + m.acts.length) = m.tests.map tstL ++ m.acts.map actL := by
  unfold bdy
  rw [hl]
  show ((m.tests.map tstL ++ m.acts.map actL) ++ [[]]).take _ = _
  rw [List.take_append_of_le_length (by simp), List.take_of_length_le (by simp)]
 have hs : sTs (mtx m) (m.tests.length + m.acts.length) = m.tests := by
  unfold sTs
  rw [hb, hT, List.take_append_of_le_length (by simp), List.take_of_length_le (by simp), (map_fst m.tests).1]
 have ha : sAs (mtx m) (m.tests.length + m.acts.length) = m.acts := by
  unfold sAs
  rw [hb, hT]
  have : m.tests.length = (m.tests.map tstL).length := by simp
  rw [this, List.drop_left, map_act]
 have ho : okO (mtx m) (m.tests.length + m.acts.length) = true := by
  unfold okO
  rw [hb, hT, List.take_append_of_le_length (by simp), List.take_of_length_le (by simp), (map_fst m.tests).2]
 have hm : mS (mtx m) = m := by
  unfold mS
  rw [hT, hA, hs, ha, hw]
  simp only [List.getD_cons_succ, List.getD_cons_zero, a2, b2, c2]
 refine ⟨?_, hm⟩
 unfold okS okG okN
 rw [hT, hA, ho, hm, h, hw, hlen, hp.sig]
 have hq : ptsB m.points = true := decide_eq_true hp.p
 simp only [List.getD_cons_succ, List.getD_cons_zero, a1, b1, c1, hq, List.length_cons, List.length_nil]
 simp
theorem okI_parts (t : List UInt8) (h : okI t = true) : mOk (mI t) = true ∧ mtx (mI t) = t := by
 simp only [okI, Bool.and_eq_true, decide_eq_true_eq] at h
 exact ⟨h.1.2, h.2⟩
theorem okS_parts (t : List UInt8) (h : okS t = true) : mOk (mS t) = true ∧ mtx (mS t) = t := by
 simp only [okS, Bool.and_eq_true, decide_eq_true_eq] at h
 exact ⟨h.1.2, h.2⟩
theorem read_same (t : List UInt8) : okS t = okI t ∧ (okI t = true → mS t = mI t) := by
 have h1 : okI t = true → okS t = true ∧ mS t = mI t := fun h => by
  obtain ⟨k1, k2⟩ := okI_parts t h
  have := rt_S _ k1
  rw [k2] at this
  exact this
 have h2 : okS t = true → okI t = true := fun h => by
  obtain ⟨k1, k2⟩ := okS_parts t h
  have := (rt_I _ k1).1
  rw [k2] at this
  exact this
 refine ⟨?_, fun h => (h1 h).2⟩
 rw [Bool.eq_iff_iff]
 exact ⟨h2, fun h => (h1 h).1⟩
theorem rm_facts (t : List UInt8) : (okI t = true → rmV t = mI t ∧ rmC t = 0) ∧ (okI t = false → rmV t = GModel.mk (GSig.mk (0 : Int) (0 : Int)) (0 : Int) [] [] ∧ rmC t = 5) := by
 refine ⟨fun h => ?_, fun h => ?_⟩ <;> · unfold rmV rmC; rw [h]; exact ⟨rfl, rfl⟩
theorem rs_facts (t : List UInt8) : (okS t = true → rmV t = mS t ∧ rmC t = 0) ∧ (okS t = false → rmV t = GModel.mk (GSig.mk (0 : Int) (0 : Int)) (0 : Int) [] [] ∧ rmC t = 5) := by
 obtain ⟨h1, h2⟩ := read_same t
 obtain ⟨h3, h4⟩ := rm_facts t
 rw [h1]
 exact ⟨fun h => by rw [h2 h]; exact h3 h, h4⟩
theorem sT_step (t : List UInt8) (i : Nat) (h : i < (bdy t).length) :
  (i < nT t → sTs t (i + 1) = sTs t i ++ [fst1 ((bdy t).getD i [])] ∧ sAs t (i + 1) = sAs t i ∧ okO t (i + 1) = (okO t i && one1 ((bdy t).getD i []))) ∧
  (nT t ≤ i → sTs t (i + 1) = sTs t i ∧ sAs t (i + 1) = sAs t i ++ [tabOf ((bdy t).getD i [])] ∧ okO t (i + 1) = okO t i) := by
 have hs := take_snoc [] (bdy t) i h
 have hl : ((bdy t).take i).length = i := by simp; omega
 have hl1 : ((bdy t).take (i + 1)).length = i + 1 := by simp; omega
 refine ⟨fun k => ?_, fun k => ?_⟩
 ·have e1 : ((bdy t).take (i + 1)).take (nT t) = (bdy t).take (i + 1) := List.take_of_length_le (by omega)
  have e2 : ((bdy t).take i).take (nT t) = (bdy t).take i := List.take_of_length_le (by omega)
  have e3 : ((bdy t).take (i + 1)).drop (nT t) = [] := List.drop_eq_nil_of_le (by omega)
  have e4 : ((bdy t).take i).drop (nT t) = [] := List.drop_eq_nil_of_le (by omega)
  refine ⟨?_, ?_, ?_⟩
  ·unfold sTs; rw [e1, e2, hs, List.map_append]; rfl
  ·unfold sAs; rw [e3, e4]
  ·unfold okO; rw [e1, e2, all_take one1 [] (bdy t) i h]
 ·have e1 : ((bdy t).take (i + 1)).take (nT t) = ((bdy t).take i).take (nT t) := by rw [List.take_take, List.take_take]; congr 1; omega
  refine ⟨?_, ?_, ?_⟩
  ·unfold sTs; rw [e1]
  ·unfold sAs; rw [hs, List.drop_append_of_le_length (by omega), List.map_append]; rfl
  ·unfold okO; rw [e1]
end
end Go.Proofs.YtkogipcdjalehaaDoor

/- Operations that make memory: a variable, a struct, a slice. -/
import Derived.Test.YtkogipcdjalehaaDoorVmRuns
set_option linter.unusedVariables false
set_option linter.unusedSimpArgs false
namespace Go.Proofs.YtkogipcdjalehaaDoor
section
variable {c : Ctx} {G : Gh} {lk : Nat → Option AObj} {w : World}
theorem zero_kind (k : IntKind) : k.min ≤ 0 ∧ 0 ≤ k.max := by cases k <;> decide
theorem zeroCell_spec {τ : Ty} {v : Value} (h : zeroOk1 τ v = true) : C1 c G lk w (zeroCell τ) v := by
 unfold zeroOk1 at h
 split at h
 ·simp only [Bool.and_eq_true] at h
  have h1 := of_decide_eq_true h.1
  have h2 := of_decide_eq_true h.2
  subst h1 h2
  exact ⟨rfl, rfl, zero_kind _⟩
 ·rename_i b
  cases b
  ·exact ⟨rfl, rfl⟩
  ·cases h
 ·rename_i s
  exact ⟨rfl, s, rfl, List.isEmpty_iff.1 h, by simp [List.isEmpty_iff] at h; simp [ByteArray.size, h]⟩
 ·rfl
 ·cases h
theorem zeroCells_spec {τ : Ty} {z : Value} (h : zeroOk τ z = true) : All2 (C1 c G lk w) (zeroCells τ) z.cells.toList := by
 have key : ∀ (ts : List Ty) (vs : List Value), zeroOkL ts vs = true → All2 (C1 c G lk w) (ts.map zeroCell) vs := by
  intro ts
  induction ts with
  | nil => intro vs h; cases vs <;> first | trivial | cases h
  | cons t ts ih =>
   intro vs h
   cases vs with
   | nil => cases h
   | cons v vs =>
    simp only [zeroOkL, Bool.and_eq_true] at h
    exact ⟨zeroCell_spec h.1, ih vs h.2⟩
 have one : ∀ v, zeroOk1 τ v = true → v.cells = #[v] := by
  intro v hv
  unfold zeroOk1 at hv
  split at hv <;> first | rfl | cases hv
 unfold zeroOk at h
 split at h
 ·rename_i s cs
  exact key _ _ h
 ·cases h
 ·rename_i τ' v h1 h2
  rw [one _ h]
  have : zeroCells τ = [zeroCell τ] := by
   cases τ <;> first | rfl | (rename_i s; cases v <;> first | exact absurd rfl (h2 s rfl) | cases h)
  rw [this]
  exact ⟨zeroCell_spec h, trivial⟩
theorem zero_rd {S : Nat → Prop} {τ : Ty} {z : Value} (h : zeroOk τ z = true) : Rd w S (τ.toD τ.zero) z.cells.toList := by
 have h1 := zeroCells_spec (c := ⟨{ funcs := #[], goVersion := "", platform := "", initOrder := "", godebug := "", types := #[], rt := default, cutTypes := #[], globals := #[], inits := #[], main := 0 }, { ty := [], pty := [], ctr := fun _ _ => none }, w, fun _ => True, S, fun _ => none, fun _ => False, fun _ => none⟩) (G := ⟨S, fun _ => undef, fun _ => []⟩) (lk := fun _ => none) (w := w) h
 have cell : ∀ t x, C1 ⟨{ funcs := #[], goVersion := "", platform := "", initOrder := "", godebug := "", types := #[], rt := default, cutTypes := #[], globals := #[], inits := #[], main := 0 }, { ty := [], pty := [], ctr := fun _ _ => none }, w, fun _ => True, S, fun _ => none, fun _ => False, fun _ => none⟩ ⟨S, fun _ => undef, fun _ => []⟩ (fun _ => none) w (zeroCell t) x → Rd w S (t.toD t.zero) [x] := by
  intro t x hx
  cases t with
  | slice t' => exact asTrd0 (τ := .slice t') (v := .nil) rfl hx
  | _ => exact hx.2
 cases τ with
 | st s =>
  simp only [zeroCells] at h1
  show Rd w S (s.toD s.zero) _
  rw [SName.toD_cells]
  have hz : (s.cells s.zero).map TV.toD = s.ctys.map fun t => t.toD t.zero := by cases s <;> rfl
  rw [hz]
  have h2 := All2.of_map _ h1
  have : ∀ (ts : List Ty) (vs : List Value), All2 (fun t x => Rd w S (t.toD t.zero) [x]) ts vs → RdAgg w S (ts.map fun t => t.toD t.zero) vs := by
   intro ts
   induction ts with
   | nil => intro vs h; cases vs <;> first | rfl | cases h
   | cons t ts ih =>
    intro vs h
    cases vs with
    | nil => cases h
    | cons v vs => exact ⟨v, vs, rfl, h.1, ih vs h.2⟩
  exact this _ _ (h2.imp fun t x _ hx => cell t x hx)
 | _ =>
  simp only [zeroCells] at h1
  match hc : z.cells.toList, h1 with
  | [x], h1 => exact cell _ _ h1.1
theorem foldl_set (off : Nat) : ∀ (xs : List Value) (k : Nat) (l : List Value), off + k + xs.length ≤ l.length →
  (xs.zipIdx k).foldl (fun cs p => cs.setIfInBounds (off + p.2) p.1) l.toArray = (l.take (off + k) ++ xs ++ l.drop (off + k + xs.length)).toArray
 | [], k, l, _ => by simp
 | x :: xs, k, l, h => by
  simp only [List.length_cons] at h
  simp only [List.zipIdx_cons, List.foldl_cons]
  have := foldl_set off xs (k + 1) (l.set (off + k) x) (by simp; omega)
  rw [List.setIfInBounds_toArray, this]
  congr 1
  have e := list_seg_step l (off + k) x xs (by omega)
  simpa [Nat.add_assoc] using e
theorem fill_one (place : Nat → Option (Nat × Nat)) (i off size : Nat) (v : Value) (rest : List (Nat × Value)) (l : List Value) (hp : place i = some (off, size)) (hs : v.cells.size = size) (hl : off + size ≤ l.length) :
  Instr.fill place l.toArray ((i, v) :: rest) = Instr.fill place (l.take off ++ v.cells.toList ++ l.drop (off + size)).toArray rest := by
 have hn : (decide (v.cells.size ≠ size) || decide (off + v.cells.size > l.toArray.size)) = false := by
  simp [hs]; omega
 simp only [Instr.fill, hp, hn, Bool.false_eq_true, if_false]
 congr 1
 rw [← Array.foldl_toList, Array.toList_zipIdx]
 have := foldl_set off v.cells.toList 0 l (by simp [hs]; omega)
 simp only [Nat.add_zero, Array.length_toList, hs] at this
 exact this
theorem partsOf_spec {E : Env} {s : SName} {place : Nat → Option (Nat × Nat)} (hp : ∀ i t, s.ftys[i]? = some t → place i = some (s.offs i, t.size)) :
  ∀ {ps : List (Nat × AV)} {vs : List (Nat × Value)} {cs cs' : List AV} {l : List Value}, partsOf E s cs ps = some cs' → All2 (fun p q => p.1 = q.1 ∧ VR c G lk w p.2 q.2) ps vs → All2 (C1 c G lk w) cs l →
   ∃ l', Instr.fill place l.toArray vs = some l'.toArray ∧ All2 (C1 c G lk w) cs' l'
 | [], [], cs, cs', l, h, _, hl => by
  simp only [partsOf, Option.some.injEq] at h
  subst h
  exact ⟨l, rfl, hl⟩
 | (i, v) :: ps, (j, x) :: vs, cs, cs', l, h, hv, hl => by
  obtain ⟨⟨hij, hx⟩, hrest⟩ := hv
  have hij : i = j := hij
  subst hij
  simp only [partsOf] at h
  split at h
  ·rename_i τ hτ
   split at h
   ·rename_i new hnew
    split at h
    ·rename_i cs1 hput
     obtain ⟨h1, _, h3⟩ := cellsOf_spec hnew hx
     have hlen := h1.length
     have hll := hl.length
     unfold putCells at hput
     split at hput
     ·rename_i hb
      have hb := Nat.le_of_ble_eq_true hb
      simp only [Option.some.injEq] at hput
      subst hput
      have hsz : x.cells.size = τ.size := by rw [← h3, hlen]; simp
      have hfit : s.offs i + τ.size ≤ l.length := by omega
      rw [fill_one place i _ _ x vs l (hp i τ hτ) hsz hfit]
      refine partsOf_spec hp h hrest ?_
      rw [List.append_assoc, ← h3]
      exact (hl.take _).append (h1.append (hl.drop _))
     ·cases hput
    ·cases h
   ·cases h
  ·cases h
 | [], _ :: _, _, _, _, _, hv, _ => hv.elim
 | _ :: _, [], _, _, _, _, hv, _ => hv.elim
theorem elemsOf_spec {τ : Ty} {place : Nat → Option (Nat × Nat)} (hp : ∀ i, place i = some (i * τ.size, τ.size)) :
  ∀ {ps : List (Nat × AV)} {vs : List (Nat × Value)} {n : Nat} {xs : List τ.den} {l : List Value}, elemsOf τ n ps = some xs → All2 (fun p q => p.1 = q.1 ∧ VR c G lk w p.2 q.2) ps vs →
   (n + ps.length) * τ.size = l.length → ∃ r, Instr.fill place l.toArray vs = some (l.take (n * τ.size) ++ r).toArray ∧ RdL w G.S (xs.map τ.toD) r
 | [], [], n, xs, l, h, _, hl => by
  simp only [elemsOf, Option.some.injEq] at h
  subst h
  refine ⟨[], ?_, rfl⟩
  simp only [List.length_nil, Nat.add_zero] at hl
  rw [hl, List.take_length, List.append_nil]
  rfl
 | (i, v) :: ps, (j, x) :: vs, n, xs, l, h, hv, hl => by
  obtain ⟨⟨hij, hx⟩, hrest⟩ := hv
  have hij : i = j := hij
  subst hij
  simp only [elemsOf] at h
  split at h
  ·rename_i hin
   have hin := Nat.eq_of_beq_eq_true hin
   subst hin
   split at h
   ·rename_i y hy
    split at h
    ·rename_i ys hys
     simp only [Option.some.injEq] at h
     subst h
     have hr := (asT_rd0 hy hx).cells
     have hsz : x.cells.size = τ.size := by
      have := Rd.length _ hr
      rw [show TV.toD ⟨τ, y⟩ = τ.toD y from rfl, Ty.size_toD] at this
      simpa using this
     simp only [List.length_cons] at hl
     have hpos := τ.size_pos
     have e1 : (i + (ps.length + 1)) * τ.size = i * τ.size + τ.size + ps.length * τ.size := by
      rw [Nat.add_mul, Nat.add_mul]; omega
     rw [fill_one place i _ _ x vs l (hp i) hsz (by omega)]
     obtain ⟨r, h1, h2⟩ := elemsOf_spec hp (l := l.take (i * τ.size) ++ x.cells.toList ++ l.drop (i * τ.size + τ.size)) hys hrest (by
      simp [hsz]
      rw [show (i + 1 + ps.length) * τ.size = i * τ.size + τ.size + ps.length * τ.size by rw [Nat.add_mul, Nat.add_mul]; omega]
      omega)
     refine ⟨x.cells.toList ++ r, ?_, _, _, rfl, hr, h2⟩
     rw [h1]
     congr 2
     rw [show (i + 1) * τ.size = i * τ.size + τ.size by rw [Nat.add_mul]; omega]
     have ht : (l.take (i * τ.size) ++ x.cells.toList).length = i * τ.size + τ.size := by simp [hsz]; omega
     rw [← ht, List.take_left, List.append_assoc]
    ·cases h
   ·cases h
  ·cases h
 | [], _ :: _, _, _, _, _, hv, _ => hv.elim
 | _ :: _, [], _, _, _, _, hv, _ => hv.elim
theorem elemsOf_length {τ : Ty} : ∀ {ps : List (Nat × AV)} {n : Nat} {xs : List τ.den}, elemsOf τ n ps = some xs → xs.length = ps.length
 | [], n, xs, h => by
  simp only [elemsOf, Option.some.injEq] at h
  subst h; rfl
 | (i, v) :: ps, n, xs, h => by
  simp only [elemsOf] at h
  split at h
  ·split at h
   ·split at h
    ·rename_i ys hys
     simp only [Option.some.injEq] at h
     subst h
     simp [elemsOf_length hys]
    ·cases h
   ·cases h
  ·cases h
theorem madeCells_succ (z : Array Value) (k : Nat) : (madeCells z ((k + 1) * z.size)).toList = (madeCells z (k * z.size)).toList ++ z.toList := by
 apply List.ext_getElem?
 intro j
 have e : (k + 1) * z.size = k * z.size + z.size := by rw [Nat.add_mul]; omega
 by_cases h1 : j < k * z.size
 ·rw [List.getElem?_append_left (by simp [madeCells]; exact h1)]
  have h2 : j < (k + 1) * z.size := by omega
  simp [madeCells, h1, h2]
 ·by_cases h2 : j < (k + 1) * z.size
  ·rw [List.getElem?_append_right (by simp [madeCells]; omega)]
   have h3 : j - k * z.size < z.size := by omega
   have hm : j % z.size = j - k * z.size := by
    have h4 : (j - k * z.size + z.size * k) % z.size = j - k * z.size := by rw [Nat.add_mul_mod_self_left, Nat.mod_eq_of_lt h3]
    rwa [Nat.mul_comm z.size k, Nat.sub_add_cancel (Nat.le_of_not_lt h1)] at h4
   simp [madeCells, h2, hm, h3]
  ·rw [List.getElem?_append_right (by simp [madeCells]; omega)]
   have h3 : ¬ j - k * z.size < z.size := by omega
   simp [madeCells, h2]
   omega
theorem madeCells_rd {S : Nat → Prop} {d : D} {z : Array Value} (h : Rd w S d z.toList) : ∀ k : Nat, RdL w S (List.replicate k d) (madeCells z (k * z.size)).toList
 | 0 => by simp [madeCells, RdL, Array.range_zero']
 | k + 1 => by
  rw [madeCells_succ, List.replicate_succ']
  exact RdL.append _ _ (madeCells_rd h k) ⟨z.toList, [], by simp, h, rfl⟩
theorem madeCells_take (z : Array Value) (n m : Nat) (h : n ≤ m) : (madeCells z m).toList.take n = (madeCells z n).toList := by
 apply List.ext_getElem?
 intro j
 rw [List.getElem?_take]
 by_cases hj : j < n
 ·have : j < m := by omega
  simp [madeCells, hj, this]
 ·simp [madeCells, hj]
end
end Go.Proofs.YtkogipcdjalehaaDoor

/- Memory of one's own: what cells read as, with the list of the blocks behind them. -/
import Derived.Test.YtkogipcdjalehaaDoorVmRead
set_option linter.unusedVariables false
set_option linter.unusedSimpArgs false
namespace Go.Proofs.YtkogipcdjalehaaDoor
mutual
def Ow (w : World) : D → List Value → List Nat → Prop
 | .int k n, cs, fp => (cs = [.int k n] ∧ k.min ≤ n ∧ n ≤ k.max) ∧ fp = []
 | .bool b, cs, fp => cs = [.bool b] ∧ fp = []
 | .str s, cs, fp => (∃ x : ByteArray, cs = [.string x] ∧ x.data.toList = s ∧ x.size ≤ 140737488355328) ∧ fp = []
 | .slice n xs, cs, fp => ∃ a cap, cs = [.slice a xs.length cap] ∧ xs.length ≤ cap ∧ cap ≤ maxLen ∧ xs.length ≤ 140737488355328 ∧
   ((xs = [] ∧ (a = none ∧ cap = 0) ∧ fp = []) ∨ ∃ b f l t, a = some ⟨b, 0, none⟩ ∧ fp = b :: f ∧ w.heap[b]? = some (.cells l.toArray t (0, 0)) ∧ l.length = cap * n ∧ OwRow w xs l f)
 | .agg ds, cs, fp => OwAgg w ds cs fp
 | .hole, cs, fp => (∃ a n m, cs = [.slice a n m]) ∧ fp = []
def OwAgg (w : World) : List D → List Value → List Nat → Prop
 | [], cs, fp => cs = [] ∧ fp = []
 | d :: ds, cs, fp => ∃ v r f1 f2, cs = v :: r ∧ fp = f1 ++ f2 ∧ Ow w d [v] f1 ∧ OwAgg w ds r f2
def OwRow (w : World) : List D → List Value → List Nat → Prop
 | [], _, fp => fp = []
 | d :: ds, l, fp => ∃ c r f1 f2, l = c ++ r ∧ fp = f1 ++ f2 ∧ Ow w d c f1 ∧ OwRow w ds r f2
end
theorem OwAgg.length {w : World} : ∀ (ds : List D) {cs : List Value} {fp : List Nat}, OwAgg w ds cs fp → cs.length = ds.length
 | [], _, _, h => by rw [h.1]; rfl
 | d :: ds, _, _, h => by
  obtain ⟨v, r, f1, f2, rfl, _, _, h4⟩ := h
  simp [OwAgg.length ds h4]
theorem Ow.length {w : World} (d : D) {cs : List Value} {fp : List Nat} (h : Ow w d cs fp) : cs.length = d.size := by
 cases d with
 | int k n => rw [h.1.1]; rfl
 | bool b => rw [h.1]; rfl
 | str s => obtain ⟨⟨x, h, _⟩, _⟩ := h; rw [h]; rfl
 | slice n xs => obtain ⟨a, cap, h, _⟩ := h; rw [h]; rfl
 | agg ds => exact OwAgg.length ds h
 | hole => obtain ⟨⟨a, n, m, h⟩, _⟩ := h; rw [h]; rfl
theorem cellsAt_of {w : World} {b : Nat} {p c r : List Value} {t : TypeId} (h : w.heap[b]? = some (.cells (p ++ (c ++ r)).toArray t (0, 0))) : CellsAt w b p.length c := by
 intro j v hj
 have hl : j < c.length := (List.getElem?_eq_some_iff.1 hj).1
 have h2 : (p ++ (c ++ r))[p.length + j]? = some v := by
  rw [List.getElem?_append_right (by omega), Nat.add_sub_cancel_left, List.getElem?_append_left hl]; exact hj
 simp [World.cell?, h, h2]
mutual
theorem Ow.rd {w : World} {S : Nat → Prop} : ∀ (d : D) {cs : List Value} {fp : List Nat}, Ow w d cs fp → (∀ b ∈ fp, S b) → Rd w S d cs
 | .int _ _, _, _, h, _ => h.1
 | .bool _, _, _, h, _ => h.1
 | .str _, _, _, h, _ => h.1
 | .slice n xs, _, _, h, hS => by
  obtain ⟨a, cap, h1, h2, h3, h4, h5⟩ := h
  refine ⟨a, cap, h1, h2, h3, h4, h5.imp And.left ?_⟩
  rintro ⟨b, f, l, t, rfl, rfl, hb, _, hr⟩
  exact ⟨b, 0, rfl, hS b (by simp), OwRow.rd xs (p := []) (by simpa using hb) hr (fun b hb => hS b (by simp [hb]))⟩
 | .agg ds, _, _, h, hS => OwAgg.rd ds h hS
 | .hole, _, _, h, _ => h.1
theorem OwAgg.rd {w : World} {S : Nat → Prop} : ∀ (ds : List D) {cs : List Value} {fp : List Nat}, OwAgg w ds cs fp → (∀ b ∈ fp, S b) → RdAgg w S ds cs
 | [], _, _, h, _ => h.1
 | d :: ds, _, _, h, hS => by
  obtain ⟨v, r, f1, f2, h1, rfl, h3, h4⟩ := h
  exact ⟨v, r, h1, Ow.rd d h3 fun b hb => hS b (by simp [hb]), OwAgg.rd ds h4 fun b hb => hS b (by simp [hb])⟩
theorem OwRow.rd {w : World} {S : Nat → Prop} {b : Nat} {t : TypeId} : ∀ (ds : List D) {p l : List Value} {fp : List Nat}, w.heap[b]? = some (.cells (p ++ l).toArray t (0, 0)) → OwRow w ds l fp → (∀ b ∈ fp, S b) → RdRow w S ds b p.length
 | [], _, _, _, _, _, _ => trivial
 | d :: ds, p, _, _, hb, h, hS => by
  obtain ⟨c, r, f1, f2, rfl, rfl, h3, h4⟩ := h
  have hl := Ow.length d h3
  refine ⟨⟨c, hl, Ow.rd d h3 fun b hb => hS b (by simp [hb]), cellsAt_of hb⟩, ?_⟩
  have := OwRow.rd ds (p := p ++ c) (l := r) (by simpa using hb) h4 (fun b hb => hS b (by simp [hb]))
  rw [← hl]
  simpa using this
end
mutual
theorem Ow.keep {w w' : World} : ∀ (d : D) {cs : List Value} {fp : List Nat}, Ow w d cs fp → (∀ b ∈ fp, w'.heap[b]? = w.heap[b]?) → Ow w' d cs fp
 | .int _ _, _, _, h, _ => h
 | .bool _, _, _, h, _ => h
 | .str _, _, _, h, _ => h
 | .slice n xs, _, _, h, hw => by
  obtain ⟨a, cap, h1, h2, h3, h4, h5⟩ := h
  refine ⟨a, cap, h1, h2, h3, h4, h5.imp id ?_⟩
  rintro ⟨b, f, l, t, rfl, rfl, hb, hc, hr⟩
  exact ⟨b, f, l, t, rfl, rfl, by rw [hw b (by simp)]; exact hb, hc, OwRow.keep xs hr fun b hb => hw b (by simp [hb])⟩
 | .agg ds, _, _, h, hw => OwAgg.keep ds h hw
 | .hole, _, _, h, _ => h
theorem OwAgg.keep {w w' : World} : ∀ (ds : List D) {cs : List Value} {fp : List Nat}, OwAgg w ds cs fp → (∀ b ∈ fp, w'.heap[b]? = w.heap[b]?) → OwAgg w' ds cs fp
 | [], _, _, h, _ => h
 | d :: ds, _, _, h, hw => by
  obtain ⟨v, r, f1, f2, h1, rfl, h3, h4⟩ := h
  exact ⟨v, r, f1, f2, h1, rfl, Ow.keep d h3 fun b hb => hw b (by simp [hb]), OwAgg.keep ds h4 fun b hb => hw b (by simp [hb])⟩
theorem OwRow.keep {w w' : World} : ∀ (ds : List D) {l : List Value} {fp : List Nat}, OwRow w ds l fp → (∀ b ∈ fp, w'.heap[b]? = w.heap[b]?) → OwRow w' ds l fp
 | [], _, _, h, _ => h
 | d :: ds, _, _, h, hw => by
  obtain ⟨c, r, f1, f2, h1, rfl, h3, h4⟩ := h
  exact ⟨c, r, f1, f2, h1, rfl, Ow.keep d h3 fun b hb => hw b (by simp [hb]), OwRow.keep ds h4 fun b hb => hw b (by simp [hb])⟩
end
mutual
def D.light : D → Bool
 | .slice .. => false
 | .agg ds => D.lights ds
 | _ => true
def D.lights : List D → Bool
 | [] => true
 | d :: ds => d.light && D.lights ds
end
mutual
theorem Ow.of_light {w : World} {S : Nat → Prop} : ∀ (d : D) {cs : List Value}, d.light = true → Rd w S d cs → Ow w d cs []
 | .int _ _, _, _, h => ⟨h, rfl⟩
 | .bool _, _, _, h => ⟨h, rfl⟩
 | .str _, _, _, h => ⟨h, rfl⟩
 | .slice n xs, _, hl, h => by
  obtain ⟨a, cap, h1, h2, h3, h4, h5⟩ := h
  cases hl
 | .agg ds, _, hl, h => OwAgg.of_light ds hl h
 | .hole, _, _, h => ⟨h, rfl⟩
theorem OwAgg.of_light {w : World} {S : Nat → Prop} : ∀ (ds : List D) {cs : List Value}, D.lights ds = true → RdAgg w S ds cs → OwAgg w ds cs []
 | [], _, _, h => ⟨h, rfl⟩
 | d :: ds, _, hl, h => by
  obtain ⟨v, r, h1, h2, h3⟩ := h
  simp only [D.lights, Bool.and_eq_true] at hl
  exact ⟨v, r, [], [], h1, rfl, Ow.of_light d hl.1 h2, OwAgg.of_light ds hl.2 h3⟩
end
theorem OwRow.of_light {w : World} {S : Nat → Prop} : ∀ (ds : List D) {l m : List Value}, (∀ d ∈ ds, d.light = true) → RdL w S ds l → OwRow w ds (l ++ m) []
 | [], _, _, _, _ => rfl
 | d :: ds, _, m, hl, h => by
  obtain ⟨c, r, rfl, h2, h3⟩ := h
  exact ⟨c, r ++ m, [], [], by simp, rfl, Ow.of_light d (hl d (by simp)) h2, OwRow.of_light ds (fun d hd => hl d (by simp [hd])) h3⟩
theorem drop_len_add {α : Type} (c r : List α) (k : Nat) : (c ++ r).drop (c.length + k) = r.drop k := by
 rw [← List.drop_drop, List.drop_left]
theorem take_len_add {α : Type} (c r : List α) (k : Nat) : (c ++ r).take (c.length + k) = c ++ r.take k := by
 rw [List.take_append, List.take_of_length_le (by omega), Nat.add_sub_cancel_left]
theorem OwRow.split {w : World} {n : Nat} : ∀ (ds : List D) {l : List Value} {fp : List Nat} (i : Nat) (d : D), OwRow w ds l fp → (∀ d ∈ ds, d.size = n) → ds[i]? = some d →
  ∃ f0 f1 f2, fp = f0 ++ f1 ++ f2 ∧ i * n + n ≤ l.length ∧ Ow w d ((l.drop (i * n)).take n) f1 ∧
   ∀ (w' : World) (d' : D) (c' : List Value) (f1' : List Nat), (∀ b ∈ f0 ++ f2, w'.heap[b]? = w.heap[b]?) → c'.length = n → Ow w' d' c' f1' → OwRow w' (ds.set i d') (l.take (i * n) ++ c' ++ l.drop (i * n + n)) (f0 ++ f1' ++ f2)
 | [], _, _, _, _, _, _, h => by simp at h
 | e :: ds, l, fp, 0, d, h, hn, hi => by
  obtain ⟨c, r, f1, f2, rfl, rfl, h3, h4⟩ := h
  simp at hi
  subst hi
  have hc : c.length = n := by rw [Ow.length _ h3]; exact hn _ (by simp)
  refine ⟨[], f1, f2, by simp, by simp; omega, ?_, fun w' d' c' f1' hw hc' hd' => ?_⟩
  ·simp only [Nat.zero_mul, List.drop_zero]; rw [← hc, List.take_left]; exact h3
  ·simp only [Nat.zero_mul, List.take_zero, List.nil_append, Nat.zero_add, List.set_cons_zero]
   rw [← hc, List.drop_left]
   exact ⟨c', r, f1', f2, rfl, rfl, hd', OwRow.keep ds h4 fun b hb => hw b (by simp [hb])⟩
 | e :: ds, l, fp, i + 1, d, h, hn, hi => by
  obtain ⟨c, r, g1, g2, rfl, rfl, h3, h4⟩ := h
  have hc : c.length = n := by rw [Ow.length _ h3]; exact hn _ (by simp)
  obtain ⟨f0, f1, f2, rfl, hlen, k1, k2⟩ := OwRow.split ds i d h4 (fun d hd => hn d (by simp [hd])) (by simpa using hi)
  have e1 : (i + 1) * n = c.length + i * n := by rw [hc, Nat.add_mul]; omega
  have e2 : (i + 1) * n + n = c.length + (i * n + n) := by omega
  refine ⟨g1 ++ f0, f1, f2, by simp, by simp; omega, ?_, fun w' d' c' f1' hw hc' hd' => ?_⟩
  ·rw [e1, drop_len_add]; exact k1
  ·rw [e1, show c.length + i * n + n = c.length + (i * n + n) by omega, take_len_add, drop_len_add]
   have := k2 w' d' c' f1' (fun b hb => hw b (by simp at hb ⊢; rcases hb with hb | hb <;> simp [hb])) hc' hd'
   rw [show (e :: ds).set (i + 1) d' = e :: ds.set i d' from rfl]
   exact ⟨c, r.take (i * n) ++ c' ++ r.drop (i * n + n), g1, f0 ++ f1' ++ f2, by simp, by simp, Ow.keep e h3 fun b hb => hw b (by simp [hb]), this⟩
end Go.Proofs.YtkogipcdjalehaaDoor

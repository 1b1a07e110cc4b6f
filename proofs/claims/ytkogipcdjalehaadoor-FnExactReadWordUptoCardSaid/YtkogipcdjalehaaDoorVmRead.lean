/- What a value reads as in memory; that it goes on reading so while the blocks it passes stay. -/
import Derived.Test.YtkogipcdjalehaaDoorVmCore
import Derived.Laws.AppendOwn
import Derived.Laws.OwnMore
import Derived.Below
set_option linter.unusedVariables false
set_option linter.unusedSimpArgs false
namespace Go.Proofs.YtkogipcdjalehaaDoor
def CellsAt (w : World) (b o : Nat) (cs : List Value) : Prop := ∀ j v, cs[j]? = some v → w.cell? ⟨b, o + j, none⟩ = some v
def D.size : D → Nat
 | .agg ds => ds.length
 | _ => 1
mutual
def Rd (w : World) (S : Nat → Prop) : D → List Value → Prop
 | .int k n, cs => cs = [.int k n] ∧ k.min ≤ n ∧ n ≤ k.max
 | .bool b, cs => cs = [.bool b]
 | .str s, cs => ∃ x : ByteArray, cs = [.string x] ∧ x.data.toList = s ∧ x.size ≤ 140737488355328
 | .slice _ xs, cs => ∃ a cap, cs = [.slice a xs.length cap] ∧ xs.length ≤ cap ∧ cap ≤ maxLen ∧ xs.length ≤ 140737488355328 ∧ (xs = [] ∨ ∃ b o, a = some ⟨b, o, none⟩ ∧ S b ∧ RdRow w S xs b o)
 | .agg ds, cs => RdAgg w S ds cs
 | .hole, cs => ∃ a n m, cs = [.slice a n m]
def RdAgg (w : World) (S : Nat → Prop) : List D → List Value → Prop
 | [], cs => cs = []
 | d :: ds, cs => ∃ v r, cs = v :: r ∧ Rd w S d [v] ∧ RdAgg w S ds r
def RdRow (w : World) (S : Nat → Prop) : List D → Nat → Nat → Prop
 | [], _, _ => True
 | d :: ds, b, o => (∃ cs, cs.length = d.size ∧ Rd w S d cs ∧ CellsAt w b o cs) ∧ RdRow w S ds b (o + d.size)
end
theorem CellsAt.keep {w w' : World} {b o : Nat} {cs : List Value} (h : CellsAt w b o cs) (hb : w'.heap[b]? = w.heap[b]?) : CellsAt w' b o cs :=
 fun j v hj => by rw [← h j v hj]; exact World.cell?_of_block (a := ⟨b, o + j, none⟩) hb
mutual
theorem Rd.keep {w w' : World} {S S' : Nat → Prop} (hS : ∀ b, S b → S' b) (hw : ∀ b, S b → w'.heap[b]? = w.heap[b]?) : ∀ (d : D) {cs : List Value}, Rd w S d cs → Rd w' S' d cs
 | .int _ _, _, h => h
 | .bool _, _, h => h
 | .str _, _, h => h
 | .slice _ xs, _, h => by
  obtain ⟨a, cap, h1, h2, h3, h4, h5⟩ := h
  refine ⟨a, cap, h1, h2, h3, h4, h5.imp id ?_⟩
  rintro ⟨b, o, ha, hb, hr⟩
  exact ⟨b, o, ha, hS b hb, RdRow.keep hS hw xs b o hb hr⟩
 | .agg ds, _, h => RdAgg.keep hS hw ds h
 | .hole, _, h => h
theorem RdAgg.keep {w w' : World} {S S' : Nat → Prop} (hS : ∀ b, S b → S' b) (hw : ∀ b, S b → w'.heap[b]? = w.heap[b]?) : ∀ (ds : List D) {cs : List Value}, RdAgg w S ds cs → RdAgg w' S' ds cs
 | [], _, h => h
 | d :: ds, _, h => by
  obtain ⟨v, r, h1, h2, h3⟩ := h
  exact ⟨v, r, h1, Rd.keep hS hw d h2, RdAgg.keep hS hw ds h3⟩
theorem RdRow.keep {w w' : World} {S S' : Nat → Prop} (hS : ∀ b, S b → S' b) (hw : ∀ b, S b → w'.heap[b]? = w.heap[b]?) : ∀ (ds : List D) (b o : Nat), S b → RdRow w S ds b o → RdRow w' S' ds b o
 | [], _, _, _, _ => trivial
 | d :: ds, b, o, hb, h => by
  obtain ⟨⟨cs, h1, h2, h3⟩, h4⟩ := h
  exact ⟨⟨cs, h1, Rd.keep hS hw d h2, h3.keep (hw b hb)⟩, RdRow.keep hS hw ds b _ hb h4⟩
end
theorem RdAgg.length {w : World} {S : Nat → Prop} : ∀ (ds : List D) {cs : List Value}, RdAgg w S ds cs → cs.length = ds.length
 | [], _, h => by rw [show _ = [] from h]; rfl
 | d :: ds, _, h => by
  obtain ⟨v, r, rfl, _, h3⟩ := h
  simp [RdAgg.length ds h3]
theorem Rd.length {w : World} {S : Nat → Prop} (d : D) {cs : List Value} (h : Rd w S d cs) : cs.length = d.size := by
 cases d with
 | int k n => rw [h.1]; rfl
 | bool b => rw [show cs = _ from h]; rfl
 | str s => obtain ⟨x, h, _⟩ := h; rw [h]; rfl
 | slice n xs => obtain ⟨a, cap, h, _⟩ := h; rw [h]; rfl
 | agg ds => exact RdAgg.length ds h
 | hole => obtain ⟨a, n, m, h⟩ := h; rw [h]; rfl
theorem Ty.size_toD (t : Ty) (x : t.den) : (t.toD x).size = t.size := by
 cases t with
 | st s => simp [Ty.toD, SName.toD_cells, D.size, Ty.size, SName.cells_length]
 | mv t => cases (show Option (List t.den) from x) <;> rfl
 | _ => rfl
theorem RdRow.at_ {w : World} {S : Nat → Prop} {n : Nat} : ∀ (ds : List D) (b o : Nat), RdRow w S ds b o → (∀ d ∈ ds, d.size = n) → ∀ i d, ds[i]? = some d →
  ∃ cs, cs.length = n ∧ Rd w S d cs ∧ CellsAt w b (o + i * n) cs
 | [], _, _, _, _, i, d, h => by simp at h
 | e :: ds, b, o, h, hn, 0, d, hi => by
  obtain ⟨⟨cs, h1, h2, h3⟩, _⟩ := h
  simp at hi
  subst hi
  exact ⟨cs, by rw [h1]; exact hn _ (by simp), h2, by simpa using h3⟩
 | e :: ds, b, o, h, hn, i + 1, d, hi => by
  obtain ⟨_, h4⟩ := h
  rw [hn e (by simp)] at h4
  obtain ⟨cs, h1, h2, h3⟩ := RdRow.at_ ds b (o + n) h4 (fun d hd => hn d (by simp [hd])) i d (by simpa using hi)
  exact ⟨cs, h1, h2, by rw [show o + (i + 1) * n = o + n + i * n by rw [Nat.add_mul]; omega]; exact h3⟩
theorem RdRow.drop_ {w : World} {S : Nat → Prop} {n : Nat} : ∀ (k : Nat) (ds : List D) (b o : Nat), RdRow w S ds b o → (∀ d ∈ ds, d.size = n) → RdRow w S (ds.drop k) b (o + k * n)
 | 0, ds, b, o, h, _ => by simpa using h
 | k + 1, [], b, o, h, _ => by simp [RdRow]
 | k + 1, d :: ds, b, o, h, hn => by
  have := RdRow.drop_ k ds b (o + n) (by have := h.2; rwa [hn d (by simp)] at this) (fun d hd => hn d (by simp [hd]))
  rw [show o + (k + 1) * n = o + n + k * n by rw [Nat.add_mul]; omega]
  exact this
theorem RdRow.take_ {w : World} {S : Nat → Prop} : ∀ (k : Nat) (ds : List D) (b o : Nat), RdRow w S ds b o → RdRow w S (ds.take k) b o
 | 0, ds, b, o, h => by simp [RdRow]
 | k + 1, [], b, o, h => by simp [RdRow]
 | k + 1, d :: ds, b, o, h => ⟨h.1, RdRow.take_ k ds b _ h.2⟩
def RdL (w : World) (S : Nat → Prop) : List D → List Value → Prop
 | [], l => l = []
 | d :: ds, l => ∃ c r, l = c ++ r ∧ Rd w S d c ∧ RdL w S ds r
theorem RdL.keep {w w' : World} {S S' : Nat → Prop} (hS : ∀ b, S b → S' b) (hw : ∀ b, S b → w'.heap[b]? = w.heap[b]?) : ∀ (ds : List D) {l : List Value}, RdL w S ds l → RdL w' S' ds l
 | [], _, h => h
 | d :: ds, _, h => by
  obtain ⟨c, r, h1, h2, h3⟩ := h
  exact ⟨c, r, h1, Rd.keep hS hw d h2, RdL.keep hS hw ds h3⟩
theorem RdL.append {w : World} {S : Nat → Prop} : ∀ (ds es : List D) {l m : List Value}, RdL w S ds l → RdL w S es m → RdL w S (ds ++ es) (l ++ m)
 | [], _, _, _, h, k => by rw [show _ = [] from h]; simpa using k
 | d :: ds, es, _, m, h, k => by
  obtain ⟨c, r, rfl, h2, h3⟩ := h
  exact ⟨c, r ++ m, by simp, h2, RdL.append ds es h3 k⟩
theorem RdL.length {w : World} {S : Nat → Prop} {n : Nat} : ∀ (ds : List D) {l : List Value}, RdL w S ds l → (∀ d ∈ ds, d.size = n) → l.length = ds.length * n
 | [], _, h, _ => by rw [show _ = [] from h]; simp
 | d :: ds, _, h, hn => by
  obtain ⟨c, r, rfl, h2, h3⟩ := h
  rw [List.length_append, Rd.length d h2, hn d (by simp), RdL.length ds h3 (fun d hd => hn d (by simp [hd])), List.length_cons, Nat.add_mul]
  omega
theorem RdL.row {w : World} {S : Nat → Prop} : ∀ (ds : List D) {l : List Value} (b o : Nat), RdL w S ds l → CellsAt w b o l → RdRow w S ds b o
 | [], _, _, _, _, _ => trivial
 | d :: ds, _, b, o, h, hc => by
  obtain ⟨c, r, rfl, h2, h3⟩ := h
  refine ⟨⟨c, Rd.length d h2, h2, fun j v hj => hc j v ?_⟩, RdL.row ds b _ h3 fun j v hj => ?_⟩
  ·rw [List.getElem?_append_left]
   ·exact hj
   ·exact (List.getElem?_eq_some_iff.1 hj).1
  ·have := hc (c.length + j) v (by rw [List.getElem?_append_right (by omega)]; simpa using hj)
   rwa [Rd.length d h2, ← Nat.add_assoc] at this
theorem RdRow.cells {w : World} {S : Nat → Prop} : ∀ (ds : List D) (b o : Nat), RdRow w S ds b o → ∃ l, RdL w S ds l ∧ CellsAt w b o l
 | [], _, _, _ => ⟨[], rfl, fun j v h => by simp at h⟩
 | d :: ds, b, o, h => by
  obtain ⟨⟨c, h1, h2, h3⟩, h4⟩ := h
  obtain ⟨r, h5, h6⟩ := RdRow.cells ds b _ h4
  refine ⟨c ++ r, ⟨c, r, rfl, h2, h5⟩, fun j v hj => ?_⟩
  rcases Nat.lt_or_ge j c.length with hlt | hge
  ·exact h3 j v (by rwa [List.getElem?_append_left hlt] at hj)
  ·rw [List.getElem?_append_right hge] at hj
   have := h6 (j - c.length) v hj
   rwa [← h1, show o + c.length + (j - c.length) = o + j by omega] at this
theorem RdL.at_ {w : World} {S : Nat → Prop} {n : Nat} : ∀ (ds : List D) {l : List Value}, RdL w S ds l → (∀ d ∈ ds, d.size = n) → ∀ i d, ds[i]? = some d → Rd w S d ((l.drop (i * n)).take n)
 | [], _, _, _, i, d, h => by simp at h
 | e :: ds, _, h, hn, 0, d, hi => by
  obtain ⟨c, r, rfl, h2, h3⟩ := h
  simp at hi
  subst hi
  have : c.length = n := by rw [Rd.length _ h2]; exact hn _ (by simp)
  simpa [← this] using h2
 | e :: ds, _, h, hn, i + 1, d, hi => by
  obtain ⟨c, r, rfl, h2, h3⟩ := h
  have hc : c.length = n := by rw [Rd.length _ h2]; exact hn _ (by simp)
  have := RdL.at_ ds h3 (fun d hd => hn d (by simp [hd])) i d (by simpa using hi)
  have h0 : List.drop (n + i * n) c = [] := List.drop_eq_nil_of_le (by omega)
  rw [show (i + 1) * n = n + i * n by rw [Nat.add_mul]; omega, List.drop_append, h0, List.nil_append, show n + i * n - c.length = i * n by omega]
  exact this
def leafV : Value → Bool
 | .int .. | .bool _ | .string _ | .slice .. => true
 | _ => false
def D.leaf : D → Bool
 | .agg _ => false
 | _ => true
theorem Rd.leafV {w : World} {S : Nat → Prop} {d : D} (hd : d.leaf = true) {cs : List Value} (h : Rd w S d cs) : ∃ v, cs = [v] ∧ YtkogipcdjalehaaDoor.leafV v = true := by
 cases d with
 | int k n => exact ⟨_, h.1, rfl⟩
 | bool b => exact ⟨_, h, rfl⟩
 | str s => obtain ⟨x, h, _⟩ := h; exact ⟨_, h, rfl⟩
 | slice n xs => obtain ⟨a, cap, h, _⟩ := h; exact ⟨_, h, rfl⟩
 | agg ds => cases hd
 | hole => obtain ⟨a, n, m, h⟩ := h; exact ⟨_, h, rfl⟩
theorem leafV_cell {v : Value} (h : YtkogipcdjalehaaDoor.leafV v = true) : v.oneCell' = true := by cases v <;> first | rfl | cases h
theorem leafV_cells {v : Value} (h : YtkogipcdjalehaaDoor.leafV v = true) : v.cells = #[v] := by cases v <;> first | rfl | cases h
theorem mvD_leaf {α : Type} (n : Nat) (f : α → D) (o : Option (List α)) : (mvD n f o).leaf = true := by cases o <;> rfl
theorem SName.leaf_cells (s : SName) (x : s.den) : ∀ v ∈ s.cells x, v.toD.leaf = true := by
 cases s <;> simp [SName.cells, TV.toD, Ty.toD, D.leaf] <;> exact mvD_leaf _ _ _
end Go.Proofs.YtkogipcdjalehaaDoor

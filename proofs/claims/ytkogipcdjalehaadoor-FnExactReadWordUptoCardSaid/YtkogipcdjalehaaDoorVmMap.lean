/- Maps of the call's own: what a block of entries holds, and what reading and writing an entry do. -/
import Derived.Test.YtkogipcdjalehaaDoorVmOwn
import Derived.MapKept
set_option linter.unusedVariables false
set_option linter.unusedSimpArgs false
namespace Go.Proofs.YtkogipcdjalehaaDoor
open Go.MapKept
def ScR (τ : Ty) (x : τ.den) (v : Value) : Prop := ∀ (w : World) (S : Nat → Prop), Rd w S (τ.toD x) [v]
theorem ScR.of {τ : Ty} (hτ : τ.scal = true) {x : τ.den} {v : Value} {w : World} {S : Nat → Prop} (h : Rd w S (τ.toD x) [v]) : ScR τ x v := by
 intro w' S'
 cases τ with
 | int k => exact h
 | bool => exact h
 | str => exact h
 | _ => cases hτ
theorem ScR.val {τ : Ty} (hτ : τ.scal = true) {x y : τ.den} {v : Value} (h : ScR τ x v) (k : ScR τ y v) (w : World) : x = y := by
 have h := h w (fun _ => False)
 have k := k w (fun _ => False)
 cases τ with
 | int q =>
  simp only [Ty.toD, Rd, List.cons.injEq, and_true] at h k
  obtain ⟨rfl, _⟩ := h
  exact (by simpa using k.1)
 | bool =>
  simp only [Ty.toD, Rd, List.cons.injEq, and_true] at h k
  subst h
  simpa using k
 | str =>
  obtain ⟨a, h1, h2, _⟩ := h
  obtain ⟨b, k1, k2, _⟩ := k
  simp only [List.cons.injEq, and_true] at h1 k1
  subst h1
  simp only [Value.string.injEq] at k1
  subst k1
  exact h2.symm.trans k2
 | _ => cases hτ
theorem ScR.inj {τ : Ty} (hτ : τ.scal = true) {x : τ.den} {v u : Value} (h : ScR τ x v) (k : ScR τ x u) (w : World) : v = u := by
 have h := h w (fun _ => False)
 have k := k w (fun _ => False)
 cases τ with
 | int q =>
  simp only [Ty.toD, Rd, List.cons.injEq, and_true] at h k
  exact h.1.trans k.1.symm
 | bool =>
  simp only [Ty.toD, Rd, List.cons.injEq, and_true] at h k
  exact h.trans k.symm
 | str =>
  obtain ⟨⟨⟨a⟩⟩, h1, h2, _⟩ := h
  obtain ⟨⟨⟨b⟩⟩, k1, k2, _⟩ := k
  simp only [List.cons.injEq, and_true] at h1 k1
  simp only at h2 k2
  rw [h1, k1, h2, k2]
 | _ => cases hτ
def descOf : Ty → TypeDesc
 | .int k => .int k
 | .str => .string
 | _ => .bool
theorem ScR.isKey {τ : Ty} (hτ : τ.scal = true) {x : τ.den} {v : Value} (h : ScR τ x v) (w : World) : IsKey (descOf τ) v := by
 have h := h w (fun _ => False)
 cases τ with
 | int q =>
  simp only [Ty.toD, Rd, List.cons.injEq, and_true] at h
  obtain ⟨rfl, _⟩ := h
  rfl
 | bool =>
  simp only [Ty.toD, Rd, List.cons.injEq, and_true] at h
  subst h
  trivial
 | str =>
  obtain ⟨a, h1, h2, _⟩ := h
  simp only [List.cons.injEq, and_true] at h1
  subst h1
  trivial
 | _ => cases hτ
structure MapR (m : MV) (es : Array MapEntry) : Prop where
 sk : m.κ.scal = true
 se : m.ε.scal = true
 len : es.size = m.n
 small : m.n ≤ 1000000000
 nd : es.toList.Pairwise fun x y => x.key ≠ y.key
 ent : ∀ e ∈ es.toList, ∃ k v, ScR m.κ k e.key ∧ ScR m.ε v e.val ∧ m.f k = some v
 all : ∀ k v, m.f k = some v → ∃ e ∈ es.toList, ScR m.κ k e.key
theorem MapR.empty {κ ε : Ty} (h1 : κ.scal = true) (h2 : ε.scal = true) : MapR ⟨κ, ε, mnone κ.den ε.den, 0⟩ #[] where
 sk := h1
 se := h2
 len := rfl
 small := Nat.zero_le _
 nd := by simp
 ent e he := by simp at he
 all k v h := by simp [mnone] at h
section
variable {P : Program} {w : World} {m : MV} {es : Array MapEntry} {clock b : Nat} {T kT eT : TypeId}
theorem MapR.found (h : MapR m es) {k : m.κ.den} {v : Value} (hv : ScR m.κ k v) (w : World) :
  (Instr.findNow (descOf m.κ) v es.toList 0 = some none ∧ (∀ e ∈ es.toList, e.key ≠ v) ∧ m.f k = none) ∨
  ∃ j e x, Instr.findNow (descOf m.κ) v es.toList 0 = some (some (j, e.val)) ∧ es.toList[j]? = some e ∧ e.key = v ∧ m.f k = some x ∧ ScR m.ε x e.val := by
 have hk : ∀ e ∈ es.toList, IsKey (descOf m.κ) e.key := fun e he => by
  obtain ⟨k', v', h1, _⟩ := h.ent e he
  exact h1.isKey h.sk w
 rcases findNow_spec (hv.isKey h.sk w) es.toList 0 hk with ⟨h1, h2⟩ | ⟨j, e, h1, h2, h3⟩
 ·refine .inl ⟨h1, h2, ?_⟩
  cases hf : m.f k with
  | none => rfl
  | some x =>
   obtain ⟨e, he, hke⟩ := h.all k x hf
   exact absurd (hke.inj h.sk hv w) (h2 e he)
 ·obtain ⟨k', x, k1, k2, k3⟩ := h.ent e (List.mem_of_getElem? h2)
  have : k' = k := k1.val h.sk (h3 ▸ hv) w
  subst this
  exact .inr ⟨j, e, x, by simpa using h1, h2, h3, k3, k2⟩
theorem MapR.look (h : MapR m es) (hT : P.underlying T = some (.map kT eT)) (hk : P.underlying kT = some (descOf m.κ)) (hb : w.heap[b]? = some (.map es clock)) {z : Value} (hz : (zeroValue eT).run P w = .ok z w) (hzr : ScR m.ε m.ε.zero z)
  {k : m.κ.den} {v : Value} (hv : ScR m.κ k v) (c : Bool) : ∃ u, ScR m.ε ((m.f k).getD m.ε.zero) u ∧ (Instr.lookup T (.map (some b)) v c).run P w = .ok (if c then .tuple #[u, .bool (m.f k).isSome] else u) w := by
 rcases h.found hv w with ⟨h1, h2, h3⟩ | ⟨j, e, x, h1, h2, h3, h4, h5⟩
 ·refine ⟨z, by rw [h3]; exact hzr, ?_⟩
  rw [h3]
  simp [Instr.lookup, run_underlying hT, MapKept.run_getObj_map hb, run_checkKey hk (hv.isKey h.sk w), run_findKey hk h1, hz, Result.andThen]
 ·refine ⟨e.val, by rw [h4]; exact h5, ?_⟩
  rw [h4]
  simp [Instr.lookup, run_underlying hT, MapKept.run_getObj_map hb, run_checkKey hk (hv.isKey h.sk w), run_findKey hk h1, Result.andThen]
theorem mput_same {α β : Type} (f : α → Option β) (k : α) (v : β) : mput f k v k = some v := by simp [mput]
theorem mput_other {α β : Type} (f : α → Option β) (k : α) (v : β) {x : α} (h : x ≠ k) : mput f k v x = f x := by simp [mput, h]
theorem pairwise_set {α : Type} {R : α → α → Prop} {a b : α} : ∀ {l : List α} {j : Nat}, l.Pairwise R → l[j]? = some a → (∀ x, R a x → R b x) → (∀ x, R x a → R x b) → (l.set j b).Pairwise R
 | [], j, h, hj, h1, h2 => by simp at hj
 | y :: ys, 0, h, hj, h1, h2 => by
  simp only [List.getElem?_cons_zero, Option.some.injEq] at hj
  subst hj
  obtain ⟨k1, k2⟩ := List.pairwise_cons.1 h
  exact List.pairwise_cons.2 ⟨fun x hx => h1 x (k1 x hx), k2⟩
 | y :: ys, j + 1, h, hj, h1, h2 => by
  obtain ⟨k1, k2⟩ := List.pairwise_cons.1 h
  simp only [List.getElem?_cons_succ] at hj
  refine List.pairwise_cons.2 ⟨fun x hx => ?_, pairwise_set k2 hj h1 h2⟩
  rcases List.mem_or_eq_of_mem_set hx with hx | rfl
  ·exact k1 x hx
  ·exact h2 y (k1 a (List.mem_of_getElem? hj))
theorem MapR.store (h : MapR m es) (hT : P.underlying T = some (.map kT eT)) (hk : P.underlying kT = some (descOf m.κ)) (hb : w.heap[b]? = some (.map es clock))
  {k : m.κ.den} {v : Value} (hv : ScR m.κ k v) {x : m.ε.den} {u : Value} (hu : ScR m.ε x u) (hn : m.n < 1000000000) :
  ∃ es' clock', (Instr.mapUpdate T (.map (some b)) v u).run P w = .ok () { w with heap := w.heap.setIfInBounds b (.map es' clock') } ∧ MapR ⟨m.κ, m.ε, mput m.f k x, mlen (m.f k) m.n⟩ es' := by
 have hK := hv.isKey h.sk w
 rcases h.found hv w with ⟨h1, h2, h3⟩ | ⟨j, e, y, h1, h2, h3, h4, h5⟩
 ·refine ⟨es.push ⟨v, u, clock⟩, clock + 1, ?_, ?_⟩
  ·simp [Instr.mapUpdate, run_underlying hT, MapKept.run_getObj_map hb, run_checkKey hk hK, run_findKey hk h1, run_setObj_map _ hb, Result.andThen]
  ·refine ⟨h.sk, h.se, ?_, by simp [mlen, h3]; omega, ?_, ?_, ?_⟩
   ·simp [mlen, h3, h.len]
   ·simp only [Array.toList_push]
    refine List.pairwise_append.2 ⟨h.nd, by simp, fun a ha b' hb' => ?_⟩
    simp only [List.mem_singleton] at hb'
    subst hb'
    exact h2 a ha
   ·intro e he
    simp only [Array.toList_push, List.mem_append, List.mem_singleton] at he
    rcases he with he | rfl
    ·obtain ⟨k', v', k1, k2, k3⟩ := h.ent e he
     refine ⟨k', v', k1, k2, ?_⟩
     show mput m.f k x k' = some v'
     rw [mput_other _ _ _ (fun e1 => h2 e he ((e1 ▸ k1).inj h.sk hv w))]
     exact k3
    ·exact ⟨k, x, hv, hu, mput_same _ _ _⟩
   ·intro k' v' hf
    by_cases hkk : k' = k
    ·exact ⟨⟨v, u, clock⟩, by simp, by rw [hkk]; exact hv⟩
    ·have hf' : m.f k' = some v' := by rw [← mput_other m.f k x hkk]; exact hf
     obtain ⟨e, he, hke⟩ := h.all k' v' hf'
     exact ⟨e, by simp only [Array.toList_push, List.mem_append]; exact .inl he, hke⟩
 ·have hj : es[j]? = some e := by simpa using h2
  have hlist : (es.modify j (fun e' => { e' with key := v, val := u })).toList = es.toList.set j { e with key := v, val := u } := by
   rw [Array.toList_modify]
   apply List.ext_getElem?
   intro i
   simp only [List.getElem?_modify, List.getElem?_set]
   by_cases hij : j = i
   ·subst hij
    have hl := (List.getElem?_eq_some_iff.1 h2).1
    simp only [if_pos, if_pos hl]
    rw [h2]
    rfl
   ·simp [hij]
  refine ⟨es.modify j (fun e' => { e' with key := v, val := u }), clock, ?_, ?_⟩
  ·simp [Instr.mapUpdate, run_underlying hT, MapKept.run_getObj_map hb, run_checkKey hk hK, run_findKey hk h1, hj, h3, run_keyThatStays hK, run_setObj_map _ hb, Result.andThen]
  ·have oth : ∀ x' ∈ es.toList.set j { e with key := v, val := u }, x' = { e with key := v, val := u } ∨ (x' ∈ es.toList ∧ x'.key ≠ v) := by
    intro x' hx
    obtain ⟨i, hi, ex⟩ := List.getElem_of_mem hx
    rw [List.getElem_set] at ex
    split at ex
    ·exact .inl ex.symm
    ·rename_i hne
     have hi' : i < es.toList.length := by simpa using hi
     refine .inr ⟨ex ▸ List.getElem_mem hi', fun hxv => ?_⟩
     have hjl : j < es.toList.length := (List.getElem?_eq_some_iff.1 h2).1
     have hje : es.toList[j] = e := (List.getElem?_eq_some_iff.1 h2).2
     have hpw := List.pairwise_iff_getElem.1 h.nd
     rcases Nat.lt_or_gt_of_ne hne with hl | hl
     ·exact hpw j i hjl hi' hl (by rw [hje, ex, h3, hxv])
     ·exact hpw i j hi' hjl hl (by rw [hje, ex, h3, hxv])
   refine ⟨h.sk, h.se, ?_, by simp [mlen, h4]; omega, ?_, ?_, ?_⟩
   ·simp [mlen, h4, h.len]
   ·rw [hlist]
    exact pairwise_set h.nd h2 (fun x' hx => by rw [← h3]; exact hx) (fun x' hx => by rw [← h3]; exact hx)
   ·intro e' he'
    rw [hlist] at he'
    rcases oth e' he' with rfl | ⟨he, hne⟩
    ·exact ⟨k, x, hv, hu, mput_same _ _ _⟩
    ·obtain ⟨k', v', k1, k2, k3⟩ := h.ent e' he
     refine ⟨k', v', k1, k2, ?_⟩
     show mput m.f k x k' = some v'
     rw [mput_other _ _ _ (fun e1 => hne ((e1 ▸ k1).inj h.sk hv w))]
     exact k3
   ·intro k' v' hf
    by_cases hkk : k' = k
    ·refine ⟨{ e with key := v, val := u }, ?_, (show k' = k from hkk).symm ▸ hv⟩
     rw [hlist]
     exact List.mem_iff_getElem.2 ⟨j, by simpa using (List.getElem?_eq_some_iff.1 h2).1, by simp⟩
    ·have hf' : m.f k' = some v' := by rw [← mput_other m.f k x hkk]; exact hf
     obtain ⟨e', he', hke⟩ := h.all k' v' hf'
     refine ⟨e', ?_, hke⟩
     rw [hlist]
     obtain ⟨i, hi, ex⟩ := List.getElem_of_mem he'
     have hij : j ≠ i := by
      intro e1
      subst e1
      have hje : es.toList[j] = e := (List.getElem?_eq_some_iff.1 h2).2
      have : e' = e := ex ▸ hje
      subst this
      exact hkk ((h3 ▸ hke).val h.sk hv w)
     exact List.mem_iff_getElem.2 ⟨i, by simpa using hi, by rw [List.getElem_set_ne hij]; exact ex⟩
end
end Go.Proofs.YtkogipcdjalehaaDoor

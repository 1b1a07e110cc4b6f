/- One operation, and a row of operations, by the abstract machine. -/
import Derived.Test.YtkogipcdjalehaaDoorVmSt
set_option linter.unusedVariables false
set_option linter.unusedSimpArgs false
namespace Go.Proofs.YtkogipcdjalehaaDoor
theorem frzL_eq (id : Nat) (u : AV) : ∀ l : List AV, AV.frzL id u l = l.map (AV.frz id u)
 | [] => rfl
 | v :: r => congrArg _ (frzL_eq id u r)
section
variable {c : Ctx} {G : Gh} {s : AState} {a : Act} {w w' : World}
theorem row_fix {lk : Nat → Option AObj} {id : Nat} {e : TypeId} {τ : Ty} {xs : List τ.den} (ho : OR c G lk w id (.row e τ xs)) {S' : Nat → Prop} (hS : ∀ b, G.S b → S' b) (hb : ∀ b, blk (G.η id) = some b → S' b) :
  Rd w S' (Ty.toD (.slice τ) xs) [G.η id] := by
 obtain ⟨l, h1, h2, h3⟩ := ho
 rcases h1.2 with ⟨hv, hn⟩ | ⟨g, cap, cur, hv, _, hh, hnc, hcm, hcs, htk⟩
 ·have hx : xs = [] := List.eq_nil_of_length_eq_zero hn
  subst hx
  exact ⟨none, 0, by simp [hv], by simp, by simp [maxLen], by simp, .inl rfl⟩
 ·refine ⟨some ⟨g, 0, none⟩, cap, by simp [hv], by simpa using hnc, hcm, by simpa using h3, ?_⟩
  refine .inr ⟨g, 0, rfl, hb g (by rw [hv]; rfl), ?_⟩
  refine RdL.row _ g 0 (h2.keep hS (fun _ _ => rfl)) fun j v hj => ?_
  have := h1.cells (g := g) (by rw [hv]; rfl) j v hj
  rw [Addr.add_lit] at this
  exact this
theorem C1.frz {lk lk' : Nat → Option AObj} {id : Nat} {e : TypeId} {τ : Ty} {xs : List τ.den} (hid : lk id = some (.row e τ xs)) (ho : OR c G lk w id (.row e τ xs)) {S' : Nat → Prop} (hS : ∀ b, G.S b → S' b) (hb : ∀ b, blk (G.η id) = some b → S' b)
  (hlk : ∀ j, j ≠ id → Same (lk j) (lk' j)) {v : AV} {x : Value} (h : C1 c G lk w v x) : C1 c ⟨S', G.η, G.φ⟩ lk' w (AV.frz id (.imm ⟨.slice τ, xs⟩) v) x := by
 have keep : (∀ j, v.refs j = true → j ≠ id) → C1 c ⟨S', G.η, G.φ⟩ lk' w v x := fun hr => h.mono (fun j hj => ⟨hlk j (hr j hj), rfl⟩) hS (fun _ _ => rfl)
 cases v with
 | row i =>
  simp only [AV.frz]
  split
  ·rename_i hi
   have hi := Nat.eq_of_beq_eq_true hi
   subst hi
   refine ⟨rfl, ?_⟩
   rw [h.1]
   exact row_fix ho hS hb
  ·rename_i hi
   refine keep fun j hj => ?_
   simp only [AV.refs] at hj
   have := Nat.eq_of_beq_eq_true hj
   intro e
   subst this e
   simp at hi
 | rptr i k off =>
  simp only [AV.frz]
  split
  ·trivial
  ·rename_i hi
   refine keep fun j hj => ?_
   simp only [AV.refs] at hj
   have := Nat.eq_of_beq_eq_true hj
   intro e
   subst this e
   simp at hi
 | ptr i off =>
  refine keep fun j hj => ?_
  simp only [AV.refs] at hj
  have := Nat.eq_of_beq_eq_true hj
  intro e
  subst this e
  obtain ⟨b, _, _, h3⟩ := h
  rw [hid] at h3
  cases h3
 | agg cs => exact h.elim
 | tup cs => exact h.elim
 | clo f cs => exact h.elim
 | fun_ v => exact keep fun j hj => by cases hj
 | any => trivial
 | undf => exact h
 | imm u => exact keep fun j hj => by cases hj
 | nil => exact keep fun j hj => by cases hj
 | pimm u => exact keep fun j hj => by cases hj
 | fn f => exact keep fun j hj => by cases hj
 | mp i =>
  refine keep fun j hj => ?_
  simp only [AV.refs] at hj
  have := Nat.eq_of_beq_eq_true hj
  intro e
  subst this e
  have h3 := h.2.1
  rw [hid] at h3
  cases h3
 | tree i =>
  refine keep fun j hj => ?_
  simp only [AV.refs] at hj
  have := Nat.eq_of_beq_eq_true hj
  intro e
  subst this e
  have h1 := h.1
  rw [hid] at h1
  cases h1
 | sub i k o z =>
  refine keep fun j hj => ?_
  simp only [AV.refs] at hj
  have := Nat.eq_of_beq_eq_true hj
  intro e
  subst this e
  have h1 := h.1
  rw [hid] at h1
  cases h1
 | tptr i k o z =>
  refine keep fun j hj => ?_
  simp only [AV.refs] at hj
  have := Nat.eq_of_beq_eq_true hj
  intro e
  subst this e
  have h1 := h.1
  rw [hid] at h1
  cases h1
theorem CR.frz {lk lk' : Nat → Option AObj} {id : Nat} {e : TypeId} {τ : Ty} {xs : List τ.den} (hid : lk id = some (.row e τ xs)) (ho : OR c G lk w id (.row e τ xs)) {S' : Nat → Prop} (hS : ∀ b, G.S b → S' b) (hb : ∀ b, blk (G.η id) = some b → S' b)
  (hlk : ∀ j, j ≠ id → Same (lk j) (lk' j)) {v : AV} {x : Value} (h : CR c G lk w v x) : CR c ⟨S', G.η, G.φ⟩ lk' w (AV.frz id (.imm ⟨.slice τ, xs⟩) v) x := by
 rcases h.inv with ⟨u, rfl, h1⟩ | ⟨cs, l, rfl, rfl, h1⟩ | h1
 ·exact RdV.mono (G := G) (G' := ⟨S', G.η, G.φ⟩) h1 hS (fun _ _ => rfl)
 ·simp only [AV.frz, frzL_eq]
  exact ⟨l, rfl, All2.map_left _ (h1.imp fun u y _ hy => C1.frz hid ho hS hb hlk hy)⟩
 ·exact (C1.frz hid ho hS hb hlk h1).toCR
theorem VR.frz {lk lk' : Nat → Option AObj} {id : Nat} {e : TypeId} {τ : Ty} {xs : List τ.den} (hid : lk id = some (.row e τ xs)) (ho : OR c G lk w id (.row e τ xs)) {S' : Nat → Prop} (hS : ∀ b, G.S b → S' b) (hb : ∀ b, blk (G.η id) = some b → S' b)
  (hlk : ∀ j, j ≠ id → Same (lk j) (lk' j)) {v : AV} {x : Value} (h : VR c G lk w v x) : VR c ⟨S', G.η, G.φ⟩ lk' w (AV.frz id (.imm ⟨.slice τ, xs⟩) v) x := by
 cases v with
 | imm u => exact RdV.mono (G := G) (G' := ⟨S', G.η, G.φ⟩) h hS (fun _ _ => rfl)
 | agg cs =>
  obtain ⟨l, rfl, h2⟩ := h
  simp only [AV.frz, frzL_eq]
  exact ⟨l, rfl, All2.map_left _ (h2.imp fun u y _ hy => C1.frz hid ho hS hb hlk hy)⟩
 | tup vs =>
  obtain ⟨l, rfl, h2⟩ := h
  simp only [AV.frz, frzL_eq]
  refine ⟨l, rfl, All2.map_left _ (h2.imp fun u y _ hy => ?_)⟩
  cases u with
  | any => trivial
  | imm v => exact RdV.mono (G := G) (G' := ⟨S', G.η, G.φ⟩) hy hS (fun _ _ => rfl)
  | tree i => exact C1.frz (v := .tree i) hid ho hS hb hlk hy
  | agg cs =>
   obtain ⟨l, rfl, h2⟩ := hy
   simp only [AV.frz, frzL_eq]
   exact ⟨l, rfl, All2.map_left _ (h2.imp fun u y _ hy => C1.frz hid ho hS hb hlk hy)⟩
  | _ => exact hy.elim
 | any => trivial
 | undf => exact h
 | nil => exact (C1.frz (v := .nil) hid ho hS hb hlk h).toVR
 | pimm u => exact (C1.frz (v := .pimm u) hid ho hS hb hlk h).toVR
 | ptr i o => exact (C1.frz (v := .ptr i o) hid ho hS hb hlk h).toVR
 | row i => exact (C1.frz (v := .row i) hid ho hS hb hlk h).toVR
 | rptr i k o => exact (C1.frz (v := .rptr i k o) hid ho hS hb hlk h).toVR
 | fn f => exact (C1.frz (v := .fn f) hid ho hS hb hlk h).toVR
 | tree i => exact (C1.frz (v := .tree i) hid ho hS hb hlk h).toVR
 | mp i => exact (C1.frz (v := .mp i) hid ho hS hb hlk h).toVR
 | sub i k o z => exact (C1.frz (v := .sub i k o z) hid ho hS hb hlk h).toVR
 | tptr i k o z => exact (C1.frz (v := .tptr i k o z) hid ho hS hb hlk h).toVR
 | fun_ v => exact (C1.frz (v := .fun_ v) hid ho hS hb hlk h).toVR
 | clo f cs =>
  obtain ⟨l, rfl, h2⟩ := h
  simp only [AV.frz, frzL_eq]
  exact ⟨l, rfl, All2.map_left _ (h2.imp fun u y _ hy => CR.frz hid ho hS hb hlk hy)⟩
theorem Inv.freeze (h : Inv c G s a w) (id : Nat) : ∃ G', Inv c G' (s.freeze id) a w := by
 unfold AState.freeze
 split
 ·rename_i e τ xs hid
  have ho := h.objs id _ hid
  let S' : Nat → Prop := fun b => G.S b ∨ blk (G.η id) = some b
  have hS : ∀ b, G.S b → S' b := fun b hb => .inl hb
  have hb : ∀ b, blk (G.η id) = some b → S' b := fun b hb => .inr hb
  have hnew : ∀ b, blk (G.η id) = some b → (c.w0.heap.size ≤ b ∨ c.X b) ∧ b < w.heap.size := fun b hb => by
   obtain ⟨q1, _, q3⟩ := h.place id _ b hid hb
   exact ⟨q1, q3⟩
  have hlk : ∀ i, AState.look { slots := AV.frzL id (.imm ⟨.slice τ, xs⟩) s.slots, objs := (dropObj id s.objs).map fun p => (p.1, p.2.frz id (.imm ⟨.slice τ, xs⟩)) } i = (if i = id then none else s.look i).map (AObj.frz id (.imm ⟨.slice τ, xs⟩)) := by
   intro i
   show look ((dropObj id s.objs).map _) i = _
   rw [look_map, look_drop]
   rfl
  have hsame : ∀ j, j ≠ id → Same (s.look j) (AState.look { slots := AV.frzL id (.imm ⟨.slice τ, xs⟩) s.slots, objs := (dropObj id s.objs).map fun p => (p.1, p.2.frz id (.imm ⟨.slice τ, xs⟩)) } j) := by
   intro j hj
   rw [hlk, if_neg hj]
   refine ⟨fun hh => ?_, fun e τ xs hh => ⟨e, xs, by rw [hh]; rfl, Nat.le_refl _⟩, fun hh => ?_, fun hh => ?_⟩
   ·match hq : s.look j, hh with
    | some (.box cs), _ => rfl
   ·match hq : s.look j, hh with
    | some (.tree τ xs), _ => rfl
   ·match hq : s.look j, hh with
    | some (.map m), _ => rfl
  refine ⟨⟨S', G.η, G.φ⟩, ?_⟩
  exact {
   defers := h.defers
   size := by rw [h.size, frzL_eq]; simp
   keep := h.keep
   xLt := h.xLt
   sOld := fun b hbl hx => ⟨fun hh => by
    rcases hh with hh | hh
    ·exact (h.sOld b hbl hx).1 hh
    ·exact (hnew b hh).1.elim (fun q => by omega) (fun q => absurd q hx), fun hh => .inl ((h.sOld b hbl hx).2 hh)⟩
   sX := fun b hh => .inl (h.sX b hh)
   sLt := fun b hh => by
    rcases hh with hh | hh
    ·exact h.sLt b hh
    ·exact (hnew b hh).2
   slots := fun i => by
    have hi := VR.frz hid ho hS hb hsame (h.slots i)
    have he : AState.sl { slots := AV.frzL id (.imm ⟨.slice τ, xs⟩) s.slots, objs := (dropObj id s.objs).map fun p => (p.1, p.2.frz id (.imm ⟨.slice τ, xs⟩)) } i = AV.frz id (.imm ⟨.slice τ, xs⟩) (s.sl i) := by
     simp only [AState.sl, frzL_eq, List.getD_eq_getElem?_getD, List.getElem?_map]
     cases s.slots[i]? <;> rfl
    rw [he]
    exact hi
   objs := fun i o hio => by
    rw [hlk] at hio
    simp only [Option.map_eq_some_iff] at hio
    obtain ⟨o', hio, rfl⟩ := hio
    by_cases hi : i = id
    ·simp [hi] at hio
    ·rw [if_neg hi] at hio
     have ho' := h.objs i o' hio
     cases o' with
     | box cs =>
      obtain ⟨b, l, t, k1, k2, k3⟩ := ho'
      refine ⟨b, l, t, k1, k2, ?_⟩
      rw [frzL_eq id _ cs]
      exact All2.map_left _ (k3.imp fun u y _ hy => C1.frz hid ho hS hb hsame hy)
     | row e2 τ2 xs2 =>
      obtain ⟨l, k1, k2, k3⟩ := ho'
      exact ⟨l, k1, RdL.keep hS (fun _ _ => rfl) _ k2, k3⟩
     | tree τ2 xs2 => trivial
     | map m => exact ho'
   place := fun i o b hio hbb => by
    rw [hlk] at hio
    simp only [Option.map_eq_some_iff] at hio
    obtain ⟨o', hio, rfl⟩ := hio
    by_cases hi : i = id
    ·simp [hi] at hio
    ·rw [if_neg hi] at hio
     obtain ⟨q1, q2, q3⟩ := h.place i o' b hio hbb
     refine ⟨q1, fun hs => ?_, q3⟩
     rcases hs with hs | hs
     ·exact q2 hs
     ·exact hi (h.apart i id o' _ b hio hid hbb hs)
   apart := fun i j o o2 b hio hjo hbi hbj => by
    rw [hlk] at hio hjo
    simp only [Option.map_eq_some_iff] at hio hjo
    obtain ⟨o', hio, rfl⟩ := hio
    obtain ⟨o2', hjo, rfl⟩ := hjo
    by_cases hi : i = id
    ·simp [hi] at hio
    ·by_cases hj : j = id
     ·simp [hj] at hjo
     ·rw [if_neg hi] at hio
      rw [if_neg hj] at hjo
      exact h.apart i j o' o2' b hio hjo hbi hbj
   trees := by
    have hold : ∀ j τ2 xs2, AState.look { slots := AV.frzL id (.imm ⟨.slice τ, xs⟩) s.slots, objs := (dropObj id s.objs).map fun p => (p.1, p.2.frz id (.imm ⟨.slice τ, xs⟩)) } j = some (.tree τ2 xs2) → s.look j = some (.tree τ2 xs2) := fun j τ2 xs2 k => by
     rw [hlk] at k
     by_cases hj : j = id
     ·simp [hj] at k
     ·rw [if_neg hj] at k
      match hq : s.look j, k with
      | some (.tree _ _), k => exact k
      | some (.box _), k => cases k
      | some (.row ..), k => cases k
    exact {
     tr := fun j τ2 xs2 k => h.trees.tr j τ2 xs2 (hold j τ2 xs2 k)
     nd := fun j τ2 xs2 k => h.trees.nd j τ2 xs2 (hold j τ2 xs2 k)
     pl := fun j τ2 xs2 b k hb' => by
      obtain ⟨q1, q2, q3, q4⟩ := h.trees.pl j τ2 xs2 b (hold j τ2 xs2 k) hb'
      refine ⟨q1, fun hs => hs.elim q2 (q4 id _ hid), q3, fun i o hio => ?_⟩
      rw [hlk] at hio
      simp only [Option.map_eq_some_iff] at hio
      obtain ⟨o', hio, rfl⟩ := hio
      by_cases hi : i = id
      ·simp [hi] at hio
      ·rw [if_neg hi] at hio
       exact q4 i o' hio
     ap := fun j j' τ2 τ2' xs2 xs2' b k k' => h.trees.ap j j' τ2 τ2' xs2 xs2' b (hold j τ2 xs2 k) (hold j' τ2' xs2' k') }
   root := fun i v hr ht => h.root i v hr (by
    rw [hlk] at ht
    by_cases hi : i = id
    ·simp [hi, isTree] at ht
    ·rw [if_neg hi] at ht
     match hl : s.look i, ht with
     | some (.tree ..), _ => rfl
     | some (.box _), ht => simp [hl, AObj.frz, isTree] at ht
     | some (.row ..), ht => simp [hl, AObj.frz, isTree] at ht
     | none, ht => simp [hl, isTree] at ht)
   rng := h.rng
   rootB := fun i v hr ht => h.rootB i v hr (by
    rw [hlk] at ht
    by_cases hi : i = id
    ·simp [hi, isBox] at ht
    ·rw [if_neg hi] at ht
     match hl : s.look i, ht with
     | some (.box _), _ => rfl
     | some (.tree ..), ht => simp [hl, AObj.frz, isBox] at ht
     | some (.row ..), ht => simp [hl, AObj.frz, isBox] at ht
     | none, ht => simp [hl, isBox] at ht)
   rngB := h.rngB }
 ·exact ⟨G, h⟩
theorem Inv.freezes : ∀ (l : List Nat) {G : Gh} {s : AState}, Inv c G s a w → ∃ G', Inv c G' (l.foldl AState.freeze s) a w
 | [], G, s, h => ⟨G, h⟩
 | i :: r, G, s, h => by
  obtain ⟨G', h'⟩ := h.freeze i
  exact Inv.freezes r h'
theorem known_of {lk : Nat → Option AObj} {v : AV} {x : Value} {K : Prop} (hv : VR c G lk w v x) (h : known v K) : K := by
 unfold known at h
 split at h
 ·rename_i n
  obtain ⟨_, h1, h2⟩ := hv
  refine h ⟨?_, ?_⟩
  ·have := h1; simp only [IntKind.min, IntKind.signed, IntKind.bits, if_true] at this; omega
  ·have := h2; simp only [IntKind.max, IntKind.signed, IntKind.bits, if_true] at this; omega
 ·rename_i t xs
  obtain ⟨_, _, _, _, h1, _⟩ := slice_form hv
  exact h h1
 ·rename_i xs
  obtain ⟨s, _, h2, h3⟩ := hv
  subst h2
  exact h (by rw [Array.length_toList]; exact h3)
 ·exact h
theorem args2 {l : List Operand} {u v : AV} {ev : Operand → AV} (h : l.map ev = [u, v]) {lk : Nat → Option AObj} (hev : ∀ x, VR c G lk w (ev x) (a.eval x)) : ∃ x y, l.map a.eval = [x, y] ∧ VR c G lk w u x ∧ VR c G lk w v y := by
 have := All2.of_ops hev l
 rw [h] at this
 match hl : l.map a.eval, this with
 | [x, y], hh => exact ⟨x, y, rfl, hh.1, hh.2.1⟩
theorem mapPut_sound (hE : EnvOk c.P c.E) (h : Inv c G s a w) {o : Oper} {T : TypeId} {m k x : Operand} (hop : o.op = .mapUpdate T m k x ∨ o.op = .insert T m k x) {vc : Vc} {s' : AState} (he : mapPut c.E s o.dst T m k x = some (vc, s')) (hvc : vc.ok) {Q : Exit → Act → World → Prop} :
  o.wp c.P a w (fun a' w' => ∃ G', Inv c G' s' a' w') Q := by
 unfold mapPut at he
 split at he
 ·rename_i κ ε hT
  split at he
  ·rename_i id u v hm hk hx
   split at he
   ·rename_i m' k' x' hid hku hxv
    split at he
    ·rename_i f n hmm
     simp only [Option.some.injEq, Prod.mk.injEq] at he
     obtain ⟨rfl, rfl⟩ := he
     have e1 := MV.as_some hmm
     subst e1
     have e2 := TV.as_some hku
     subst e2
     have e3 := TV.as_some hxv
     subst e3
     have q1 := eval_sound h m
     rw [hm] at q1
     have q2 := eval_sound h k
     rw [hk] at q2
     have q3 := eval_sound h x
     rw [hx] at q3
     obtain ⟨w', r1, r2⟩ := h.mapPut hE hT hid q1 q2 q3 hvc
     unfold Oper.wp
     have : (execOp a.eval o).run c.P w = .ok .skip w' := by
      rcases hop with hop | hop <;> simp only [execOp, hop, Sem.run_bind, r1, Result.andThen_ok, Sem.run_pure]
     rw [this]
     exact ⟨G, Inv.put r2 trivial⟩
    ·cases he
   ·cases he
  ·cases he
 ·cases he
theorem eop_sound (hE : EnvOk c.P c.E) (h : Inv c G s a w) {o : Oper} {vc : Vc} {s' : AState} (he : eop c.E s o = some (vc, s')) (hvc : vc.ok) {Q : Exit → Act → World → Prop} :
  o.wp c.P a w (fun a' w' => ∃ G', Inv c G' s' a' w') Q := by
 unfold eop at he
 split at he
 ·rename_i hop
  exact mapPut_sound hE h (.inl hop) he hvc
 ·rename_i hop
  exact mapPut_sound hE h (.inr hop) he hvc
 ·rename_i T ad x hop
  split at he
  ·rename_i τ r hT
   have hp := eval_sound h ad
   have hx := eval_sound h x
   have fin : ∀ w' G1 (s1 : AState), (Instr.storeAt T (a.eval ad) (a.eval x)).run c.P w = .ok () w' → Inv c G1 s1 a w' → s' = s1.put o.dst .any → o.wp c.P a w (fun a' w' => ∃ G', Inv c G' s' a' w') Q := by
    intro w' G1 s1 hr hi hs
    unfold Oper.wp
    have : (execOp a.eval o).run c.P w = .ok .skip w' := by simp only [execOp, hop, Sem.run_bind, hr, Result.andThen_ok, Sem.run_pure]
    rw [this]
    refine ⟨G1, ?_⟩
    rw [hs]
    exact Inv.put hi trivial
   split at he
   ·rename_i id off hev
    split at he
    ·rename_i cs hid
     split at he
     ·rename_i new hnew
      split at he
      ·rename_i cs' hput
       simp only [Option.some.injEq, Prod.mk.injEq] at he
       obtain ⟨rfl, rfl⟩ := he
       rw [hev] at hp
       obtain ⟨w', k1, k2⟩ := h.store hE hT hid hp ⟨_, hnew, hx⟩ hput
       exact fin w' _ _ k1 k2 rfl
      ·cases he
     ·cases he
    ·cases he
   ·rename_i id i hev
    split at he
    ·rename_i e' τ' xs hid
     split at he
     ·rename_i y hτ hy
      have hτ := of_decide_eq_true hτ
      subst hτ
      simp only [Option.some.injEq, Prod.mk.injEq] at he
      obtain ⟨rfl, rfl⟩ := he
      rw [hev] at hp
      obtain ⟨w', k1, k2⟩ := h.storeRow hE hT hid hp hx hy
      exact fin w' _ _ k1 k2 rfl
     ·cases he
    ·cases he
   ·cases he
  ·cases he
 ·rename_i cl hop
  split at he
  ·rename_i hcal
   split at he
   ·rename_i d T T' hd hTs
    split at he
    ·rename_i τ b e hTT hT
     have hTT := Nat.eq_of_beq_eq_true hTT
     subst hTT
     split at he
     ·rename_i id y hargs
      split at he
      ·rename_i e' τ' xs ys hid hy
       split at he
       ·rename_i xs' he' hxs
        have he' := Nat.eq_of_beq_eq_true he'
        have e1 := TV.as_some hxs
        cases e1
        subst he'
        simp only [Option.some.injEq, Prod.mk.injEq] at he
        obtain ⟨rfl, rfl⟩ := he
        obtain ⟨x, z, m1, m2, m3⟩ := args2 (a := a) (c := c) (G := G) (w := w) hargs (eval_sound h)
        obtain ⟨v', w', G', k1, k2⟩ := h.append hE hT (d := d) hid m2 m3 hy hvc o.type
        have hTs' : cl.argTypes = #[T, T] := by rw [← Array.toArray_toList (xs := cl.argTypes), hTs]
        have hxs' : cl.args.map a.eval = #[x, z] := by rw [← Array.toArray_toList (xs := cl.args.map a.eval), Array.toList_map, m1]
        unfold Oper.wp
        have : (execOp a.eval o).run c.P w = .ok (.value v') w' := by
         simp [execOp, hop, resolve, hcal, invoke, builtin, hTs', hxs', k1]
        rw [this]
        refine ⟨G', ?_⟩
        rw [hd]
        exact k2
       ·cases he
      ·cases he
     ·cases he
    ·cases he
   ·cases he
  ·cases he
 ·cases he
theorem runOp_sound (hE : EnvOk c.P c.E) (h : Inv c G s a w) {o : Oper} {K : AState → Prop} (hr : runOp c.E o K s) {Q : Exit → Act → World → Prop} :
  o.wp c.P a w (fun a' w' => ∃ G' s', Inv c G' s' a' w' ∧ K s') Q := by
 unfold runOp at hr
 split at hr
 ·exact hr.elim
 rename_i hd4
 obtain ⟨G1, h1⟩ := h.freezes (toFreeze c.E s o)
 generalize (toFreeze c.E s o).foldl AState.freeze s = s1 at *
 simp only at hr
 split at hr
 ·rename_i vc s' he
  exact Oper.wp_mono (fun a' w' ⟨G', hg⟩ => ⟨G', s', hg, (Vc.and_ok hr).2⟩) (sop_sound hE h1 he (Vc.and_ok hr).1)
 split at hr
 ·rename_i vc s' he
  exact Oper.wp_mono (fun a' w' ⟨G', hg⟩ => ⟨G', s', hg, (Vc.and_ok hr).2⟩) (bop_sound hE h1 he (Vc.and_ok hr).1)
 split at hr
 ·rename_i vc s' he
  exact Oper.wp_mono (fun a' w' ⟨G', hg⟩ => ⟨G', s', hg, (Vc.and_ok hr).2⟩) (eop_sound hE h1 he (Vc.and_ok hr).1)
 ·split at hr
  ·rename_i vc s' he
   exact Oper.wp_mono (fun a' w' ⟨G', hg⟩ => ⟨G', s', hg, (Vc.and_ok hr).2⟩) (oop_sound hE h1 he (Vc.and_ok hr).1)
  ·split at hr
   ·rename_i vc v ob hq
    obtain ⟨hvc, hk⟩ := Vc.and_ok hr
    refine Oper.wp_mono ?_ (qop_sound hE h1 (fun _ _ h => h) (eval_sound h1) hq hvc)
    intro a' w' hd
    obtain ⟨G', hl⟩ := lay_sound h1 hd4 hd
    refine ⟨G', _, hl, ?_⟩
    split at hk
    ·obtain ⟨x, S', _, _, hx⟩ := hd
     cases ob with
     | none => exact known_of hx hk
     | some ob =>
      obtain ⟨hL, _⟩ := hx
      cases ob with
      | box cs => obtain ⟨i, _, rfl⟩ := hL; exact hk
      | row e τ xs => obtain ⟨i, _, rfl⟩ := hL; exact hk
      | tree τ xs => exact hL.elim
      | map m => obtain ⟨i, _, rfl⟩ := hL; exact hk
    ·exact hk
   ·exact hr.elim
theorem getD_bool {t : Array Value} {i : Nat} {b : Bool} (h : t.getD i undef = .bool b) : t[i]? = some (.bool b) := by
 rw [Array.getD_eq_getD_getElem?] at h
 cases hx : t[i]? with
 | none => rw [hx] at h; simp [undef] at h
 | some v => rw [hx] at h; simpa using h
theorem guard_val {ops : Array Oper} {g t : Nat} {b : Bool} (ht : guardSlot ops g = some t) (hx : VR c G s.look w (.imm ⟨.bool, b⟩) (a.eval (.tmp t))) : yielded ops a.tmps g = some b := by
 have hb : [a.eval (.tmp t)] = [.bool b] := hx
 simp only [List.cons.injEq, and_true] at hb
 have := getD_bool hb
 unfold yielded
 rw [show (ops[g]?).bind (·.dst) = some t from ht]
 simp [this]
theorem guard_undf {ops : Array Oper} {g t : Nat} (ht : guardSlot ops g = some t) (hx : VR c G s.look w .undf (a.eval (.tmp t))) : yielded ops a.tmps g = none := by
 have hb : a.eval (.tmp t) = undef := hx
 have hb : a.tmps.getD t undef = undef := hb
 unfold yielded
 rw [show (ops[g]?).bind (·.dst) = some t from ht]
 rw [Array.getD_eq_getD_getElem?] at hb
 cases hx : a.tmps[t]? with
 | none => simp [hx]
 | some v =>
  rw [hx] at hb
  have hv : v = undef := hb
  subst hv
  simp [hx, undef]
theorem Inv.slot (h : Inv c G s a w) (t : Nat) {b b' : Bool} (he : s.eval (.tmp t) = .imm ⟨.bool, b⟩) (hb : b = b') : Inv c G (s.put (some t) (.imm ⟨.bool, b'⟩)) a w := by
 have : s.put (some t) (.imm ⟨.bool, b'⟩) = s ∨ (s.put (some t) (.imm ⟨.bool, b'⟩)).sl = s.sl := by
  right
  rw [sl_put]
  funext i
  unfold updF
  split
  ·rename_i hi
   obtain ⟨h1, h2⟩ := hi
   simp only [Option.some.injEq] at h1
   subst h1
   rw [← hb, ← he]
   rfl
  ·rfl
 rcases this with e | e
 ·rw [e]; exact h
 ·unfold Inv
  rw [e, look_put, length_put]
  exact h
theorem awpOps_step (hE : EnvOk c.P c.E) {ops : Array Oper} {Q : AState → Prop} {o : Oper} {r : List Oper} {kn : List (Nat × Bool)} (h : Inv c G s a w) (hr : awpOps c.E ops (o :: r) kn Q s) :
  if Region.wanted o (yielded ops a.tmps) = true then ∀ Q' : Exit → Act → World → Prop, o.wp c.P a w (fun a' w' => ∃ G' s' kn', Inv c G' s' a' w' ∧ awpOps c.E ops r kn' Q s') Q'
  else ∃ G' s' kn', Inv c G' s' (a.put o.dst undef) w ∧ awpOps c.E ops r kn' Q s' := by
 have run : ∀ (kn : List (Nat × Bool)) (s : AState), Inv c G s a w → runOp c.E o (awpOps c.E ops r kn Q) s → ∀ Q' : Exit → Act → World → Prop, o.wp c.P a w (fun a' w' => ∃ G' s' kn', Inv c G' s' a' w' ∧ awpOps c.E ops r kn' Q s') Q' := fun kn s hs hrun Q' =>
  Oper.wp_mono (fun a' w' ⟨G', s', h1, h2⟩ => ⟨G', s', kn, h1, h2⟩) (runOp_sound hE hs hrun)
 have skip : ∀ (kn : List (Nat × Bool)) (s : AState), Inv c G s a w → awpOps c.E ops r kn Q (s.put o.dst .undf) → ∃ G' s' kn', Inv c G' s' (a.put o.dst undef) w ∧ awpOps c.E ops r kn' Q s' := fun kn s hs hk =>
  ⟨G, _, kn, Inv.put (v := .undf) hs rfl, hk⟩
 simp only [awpOps] at hr
 split at hr
 ·rename_i hg
  have hw : Region.wanted o (yielded ops a.tmps) = true := by simp [Region.wanted, hg]
  rw [if_pos hw]
  exact run kn s h hr
 ·rename_i g want hg
  split at hr
  ·exact hr.elim
  ·rename_i t ht
   split at hr
   ·rename_i b hb
    split at hr
    ·rename_i b' hev
     have hx := eval_sound h (.tmp t)
     rw [hev] at hx
     have hy := guard_val (s := s) ht hx
     split at hr
     ·rename_i hbb hbw
      have hbb := eq_of_beq hbb
      subst hbb
      have hw : Region.wanted o (yielded ops a.tmps) = true := by simp [Region.wanted, hg, hy]; simpa using hbw
      rw [if_pos hw]
      exact run kn s h hr
     ·rename_i hbb hbw
      have hbb := eq_of_beq hbb
      subst hbb
      have hw : Region.wanted o (yielded ops a.tmps) = false := by simp [Region.wanted, hg, hy]; simpa using hbw
      rw [hw]
      exact skip kn s h hr
     ·exact hr.elim
    ·rename_i hev
     have hx := eval_sound h (.tmp t)
     rw [hev] at hx
     have hy := guard_undf (s := s) ht hx
     have hw : Region.wanted o (yielded ops a.tmps) = false := by simp [Region.wanted, hg, hy]
     rw [hw]
     exact skip kn s h hr
    ·exact hr.elim
   ·split at hr
    ·rename_i b hev
     have hx := eval_sound h (.tmp t)
     rw [hev] at hx
     have hy := guard_val (s := s) ht hx
     by_cases hbw : b = want
     ·have hw : Region.wanted o (yielded ops a.tmps) = true := by simp [Region.wanted, hg, hy, hbw]
      rw [if_pos hw]
      exact run _ _ (h.slot t hev hbw) (hr.1 hbw)
     ·have hbn : b = !want := by cases b <;> cases want <;> simp_all
      have hw : Region.wanted o (yielded ops a.tmps) = false := by simp [Region.wanted, hg, hy, hbn]
      rw [hw]
      exact skip _ _ (h.slot t hev hbn) (hr.2 hbn)
    ·rename_i hev
     have hx := eval_sound h (.tmp t)
     rw [hev] at hx
     have hy := guard_undf (s := s) ht hx
     have hw : Region.wanted o (yielded ops a.tmps) = false := by simp [Region.wanted, hg, hy]
     rw [hw]
     exact skip kn s h hr
    ·exact hr.elim
theorem awpOps_sound (hE : EnvOk c.P c.E) {ops : Array Oper} {Q : AState → Prop} {Q' : Exit → Act → World → Prop} (hQ : ∀ G s a w, Inv c G s a w → Q s → Q' .normal a w) :
  ∀ (r : List Oper) (i : Nat) (kn : List (Nat × Bool)) (G : Gh) (s : AState) (a : Act) (w : World), (∀ j o, r[j]? = some o → ops[i + j]? = some o) → Inv c G s a w → awpOps c.E ops r kn Q s → wpOps c.P ops Q' (List.range' i r.length) a w
 | [], i, kn, G, s, a, w, _, h, hr => hQ G s a w h hr
 | o :: r, i, kn, G, s, a, w, hops, h, hr => by
  have ho : ops[i]? = some o := hops 0 o rfl
  have hnext : ∀ j p, r[j]? = some p → ops[i + 1 + j]? = some p := fun j p hj => by
   have := hops (j + 1) p (by simpa using hj)
   rwa [show i + (j + 1) = i + 1 + j by omega] at this
  simp only [List.length_cons, List.range'_succ, wpOps, ho]
  have hstep := awpOps_step hE h hr
  split at hstep
  ·rename_i hw
   rw [if_pos hw]
   exact .inl (Oper.wp_mono (fun a' w' ⟨G', s', kn', h1, h2⟩ => awpOps_sound hE hQ r (i + 1) kn' G' s' a' w' hnext h1 h2) (hstep Q'))
  ·rename_i hw
   rw [if_neg hw]
   obtain ⟨G', s', kn', h1, h2⟩ := hstep
   exact awpOps_sound hE hQ r (i + 1) kn' G' s' _ w hnext h1 h2
end
end Go.Proofs.YtkogipcdjalehaaDoor

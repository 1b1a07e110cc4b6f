/- Operations whose order is open: the theorem. -/
import Derived.Test.YtkogipcdjalehaaDoorVmDraw
import Derived.Eval
set_option linter.unusedVariables false
set_option linter.unusedSimpArgs false
namespace Go.Proofs.YtkogipcdjalehaaDoor
theorem stL_snoc (l : List Oper) (es : List Ent) (s0 : AState) (π : List Nat) (i : Nat) : stL l es s0 (π ++ [i]) = (stL l es s0 π).layN (dstOf l i) (es.getD i ⟨false, .any, none⟩).v (es.getD i ⟨false, .any, none⟩).ob := by
 simp [stL, List.foldl_append]
theorem trace_at {E : Env} {l : List Oper} {m : Nat} {anc : List Nat} {s0 : AState} : ∀ (r : List Oper) (i : Nat) (es es0 : List Ent) (s s' : AState), Trace E l m anc i r es s s' → (∀ j o, r[j]? = some o → l[i + j]? = some o) → es0.length = i →
  s = stL l (es0 ++ es) s0 (List.range i) →
  (∀ j o, r[j]? = some o → EntOk E l m (anc.getD (i + j) 0) (stL l (es0 ++ es) s0 (List.range (i + j))) o ((es0 ++ es).getD (i + j) ⟨false, .any, none⟩)) ∧ s' = stL l (es0 ++ es) s0 (List.range (i + r.length))
 | [], i, [], es0, s, s', h, _, _, hs => by
  have h : s = s' := h
  subst h
  exact ⟨by simp, by simpa using hs⟩
 | o :: r, i, e :: es, es0, s, s', h, hl, h0, hs => by
  obtain ⟨h1, h2⟩ := h
  have ho : l[i]? = some o := hl 0 o rfl
  have hget : (es0 ++ e :: es).getD i ⟨false, .any, none⟩ = e := by simp [List.getD_eq_getElem?_getD, ← h0]
  have hst : s.layN o.dst e.v e.ob = stL l ((es0 ++ [e]) ++ es) s0 (List.range (i + 1)) := by
   rw [List.append_assoc, List.range_succ, stL_snoc, List.singleton_append, hget, ← hs]
   simp [dstOf, ho]
  have ih := trace_at r (i + 1) es (es0 ++ [e]) _ s' h2 (fun j p hj => by
   have := hl (j + 1) p (by simpa using hj)
   rwa [show i + (j + 1) = i + 1 + j by omega] at this) (by simp [h0]) hst
  rw [List.append_assoc, List.singleton_append] at ih
  refine ⟨fun j p hj => ?_, by rw [ih.2]; congr 2; simp; omega⟩
  cases j with
  | zero =>
   simp at hj
   subst hj
   rw [Nat.add_zero, hget, ← hs]
   exact h1
  | succ j =>
   have := ih.1 j p (by simpa using hj)
   rwa [show i + 1 + j = i + (j + 1) by omega] at this
 | [], _, _ :: _, _, _, _, h, _, _, _ => h.elim
 | _ :: _, _, [], _, _, _, h, _, _, _ => h.elim
theorem nodup_lt : ∀ (m : Nat) (π : List Nat), π.Nodup → (∀ k ∈ π, k < m) → π.length ≤ m
 | 0, π, _, h => by
  cases π with
  | nil => simp
  | cons k r => exact absurd (h k (by simp)) (by omega)
 | m + 1, π, hn, h => by
  by_cases hm : m ∈ π
  ·have h1 := nodup_lt m (π.erase m) (hn.erase m) (fun k hk => by
    have h2 := (hn.mem_erase_iff).1 hk
    have := h k h2.2
    have := h2.1
    omega)
   have h3 := List.length_erase_of_mem hm
   have : 0 < π.length := List.length_pos_of_mem hm
   omega
  ·have := nodup_lt m π hn (fun k hk => by
    have := h k hk
    have : k ≠ m := fun e => by subst e; exact hm hk
    omega)
   omega
section
variable {c : Ctx} {G : Gh} {s : AState} {a : Act} {w w' : World}
theorem C1.refs_look {lk : Nat → Option AObj} {v : AV} {x : Value} (h : C1 c G lk w v x) {d : Nat} (hr : v.refs d = true) : lk d ≠ none := by
 cases v with
 | ptr i o =>
  have := Nat.eq_of_beq_eq_true (show Nat.beq i d = true from hr)
  subst this
  obtain ⟨_, _, _, h3⟩ := h
  intro e
  rw [e] at h3
  cases h3
 | row i =>
  have := Nat.eq_of_beq_eq_true (show Nat.beq i d = true from hr)
  subst this
  obtain ⟨_, h3, _⟩ := h
  intro e
  rw [e] at h3
  cases h3
 | rptr i k o =>
  have := Nat.eq_of_beq_eq_true (show Nat.beq i d = true from hr)
  subst this
  obtain ⟨_, _, _, _, _, _, _, h3, _⟩ := h
  intro e
  rw [e] at h3
  cases h3
 | tree i =>
  have := Nat.eq_of_beq_eq_true (show Nat.beq i d = true from hr)
  subst this
  intro e
  have h1 := h.1
  rw [e] at h1
  cases h1
 | sub i k o z =>
  have := Nat.eq_of_beq_eq_true (show Nat.beq i d = true from hr)
  subst this
  intro e
  have h1 := h.1
  rw [e] at h1
  cases h1
 | tptr i k o z =>
  have := Nat.eq_of_beq_eq_true (show Nat.beq i d = true from hr)
  subst this
  intro e
  have h1 := h.1
  rw [e] at h1
  cases h1
 | mp i =>
  have := Nat.eq_of_beq_eq_true (show Nat.beq i d = true from hr)
  subst this
  intro e
  have h1 := h.2.1
  rw [e] at h1
  cases h1
 | agg cs => exact h.elim
 | tup cs => exact h.elim
 | clo f cs => exact h.elim
 | _ => cases hr
theorem refsL_ex {d : Nat} : ∀ {cs : List AV}, AV.refsL d cs = true → ∃ v ∈ cs, v.refs d = true
 | v :: r, h => by
  simp only [AV.refsL] at h
  split at h
  ·rename_i hv; exact ⟨v, by simp, hv⟩
  ·obtain ⟨u, hu, hr⟩ := refsL_ex h
   exact ⟨u, by simp [hu], hr⟩
theorem All2.mem_left {α β : Type} {R : α → β → Prop} : ∀ {as : List α} {bs : List β}, All2 R as bs → ∀ x ∈ as, ∃ y, R x y
 | _ :: _, b :: _, h, x, hx => by
  rcases List.mem_cons.1 hx with rfl | hx
  ·exact ⟨b, h.1⟩
  ·exact All2.mem_left h.2 x hx
theorem VR.refs_look {lk : Nat → Option AObj} {v : AV} {x : Value} (h : VR c G lk w v x) {d : Nat} (hr : v.refs d = true) : lk d ≠ none := by
 cases v with
 | imm u => cases hr
 | agg cs =>
  obtain ⟨l, _, hl⟩ := h
  obtain ⟨u, hu, hur⟩ := refsL_ex (show AV.refsL d cs = true from hr)
  obtain ⟨y, hy⟩ := hl.mem_left u hu
  exact hy.refs_look hur
 | tup vs =>
  obtain ⟨l, _, hl⟩ := h
  obtain ⟨u, hu, hur⟩ := refsL_ex (show AV.refsL d vs = true from hr)
  obtain ⟨y, hy⟩ := hl.mem_left u hu
  cases u with
  | tree i => exact C1.refs_look (c := c) (G := G) (w := w) (v := .tree i) hy hur
  | agg cs =>
   obtain ⟨l, _, hl⟩ := hy
   obtain ⟨u, hu, hur⟩ := refsL_ex (show AV.refsL d cs = true from hur)
   obtain ⟨y, hy⟩ := hl.mem_left u hu
   exact hy.refs_look hur
  | _ => first | (cases hur; done) | exact hy.elim
 | clo f vs =>
  obtain ⟨l, _, hl⟩ := h
  obtain ⟨u, hu, hur⟩ := refsL_ex (show AV.refsL d vs = true from hr)
  obtain ⟨y, hy⟩ := hl.mem_left u hu
  rcases hy.inv with ⟨v, rfl, _⟩ | ⟨cs, l, rfl, _, hl⟩ | h1
  ·cases hur
  ·obtain ⟨u, hu, hur⟩ := refsL_ex (show AV.refsL d cs = true from hur)
   obtain ⟨y, hy⟩ := hl.mem_left u hu
   exact hy.refs_look hur
  ·exact h1.refs_look hur
 | ptr i o => exact C1.refs_look (c := c) (G := G) (w := w) (v := .ptr i o) h hr
 | row i => exact C1.refs_look (c := c) (G := G) (w := w) (v := .row i) h hr
 | rptr i k o => exact C1.refs_look (c := c) (G := G) (w := w) (v := .rptr i k o) h hr
 | tree i => exact C1.refs_look (c := c) (G := G) (w := w) (v := .tree i) h hr
 | sub i k o z => exact C1.refs_look (c := c) (G := G) (w := w) (v := .sub i k o z) h hr
 | tptr i k o z => exact C1.refs_look (c := c) (G := G) (w := w) (v := .tptr i k o z) h hr
 | mp i => exact C1.refs_look (c := c) (G := G) (w := w) (v := .mp i) h hr
 | _ => cases hr
theorem Inv.noref (h : Inv c G s a w) {d : Nat} (hd : s.look d = none) : (∀ i, (s.sl i).refs d = false) ∧ ∀ i o, s.look i = some o → o.refs d = false := by
 refine ⟨fun i => ?_, fun i o ho => ?_⟩
 ·cases hr : (s.sl i).refs d with
  | false => rfl
  | true => exact absurd hd ((h.slots i).refs_look hr)
 ·cases o with
  | row e τ xs => rfl
  | tree τ xs => rfl
  | map m => rfl
  | box cs =>
   cases hr : AObj.refs d (.box cs) with
   | false => rfl
   | true =>
    obtain ⟨b, l, t, _, _, k3⟩ := h.objs i _ ho
    obtain ⟨u, hu, hur⟩ := refsL_ex (show AV.refsL d cs = true from hr)
    obtain ⟨y, hy⟩ := k3.mem_left u hu
    exact absurd hd (hy.refs_look hur)
theorem layN_sound (h0 : Inv c G s a w) {d : Option Nat} {v : AV} {ob : Option AObj} {a' : Act} (hd4 : dstOk d = true) (hfree : ∀ i o, d = some i → ob = some o → s.look i = none) (h : Done c G s.sl s.slots.length s.look d a w v ob a' w') :
  ∃ G', Inv c G' (s.layN d v ob) a' w' := by
 obtain ⟨x, S', rfl, hI, hx⟩ := h
 cases ob with
 | none =>
  refine ⟨⟨S', G.η, G.φ⟩, ?_⟩
  have : s.layN d v none = s.put d v := by cases d <;> rfl
  rw [this]
  exact Inv.put (s := s) hI hx
 | some o =>
  obtain ⟨hL, hN, hb⟩ := hx
  have hd : ∃ i, d = some i := by cases o <;> first | exact ⟨_, hL.choose_spec.1⟩ | exact hL.elim
  obtain ⟨i, rfl⟩ := hd
  have hi := hfree i o rfl rfl
  have hI' : Inv c ⟨S', G.η, G.φ⟩ s a w' := hI
  obtain ⟨hn1, hn2⟩ := hI'.noref hi
  have hor : o.refs i = false := by
   cases o with
   | row e τ xs => rfl
   | tree τ xs => rfl
   | map m => rfl
   | box cs =>
    cases hr : AObj.refs i (.box cs) with
    | false => rfl
    | true =>
     obtain ⟨b, l, t, _, _, k3⟩ := hN
     obtain ⟨u, hu, hur⟩ := refsL_ex (show AV.refsL i cs = true from hr)
     obtain ⟨y, hy⟩ := k3.mem_left u hu
     exact absurd hi (hy.refs_look hur)
  have hnew : OR c ⟨S', fun j => if j = i then x else G.η j, G.φ⟩ (fun j => if j = i then some o else s.look j) w' i o := by
   cases o with
   | box cs =>
    obtain ⟨b, l, t, k1, k2, k3⟩ := hN
    refine ⟨b, l, t, by simp [k1], k2, k3.imp fun u y hu hy => hy.mono (fun j hj => ?_) (fun _ h => h) (fun _ _ => rfl)⟩
    have hne : j ≠ i := fun e => by
     subst e
     have := refsL_mem hu hj
     rw [show AV.refsL j cs = AObj.refs j (.box cs) from rfl, hor] at this
     cases this
    simp only [if_neg hne]
    exact ⟨Same.refl _, trivial⟩
   | row e τ xs =>
    obtain ⟨l, k1, k2, k3⟩ := hN
    exact ⟨l, by simpa using k1, k2, k3⟩
   | tree τ xs => exact hN.elim
   | map m =>
    obtain ⟨b, es, clock, k1, k2, k3⟩ := hN
    exact ⟨b, es, clock, by simp [k1], k2, k3⟩
  have hot : isTree (some o) = false := by
   cases o with
   | tree τ xs => exact hN.elim
   | _ => rfl
  have h4 := InvF.newObj hI' i o x hi hn1 hn2 hor hnew hot (.inr (Nat.le_of_ble_eq_true hd4)) (fun b hbx => by
   obtain ⟨q1, q2, q3⟩ := hb b hbx
   have hle := h0.keep.size
   refine ⟨by omega, q3, q2, fun j p hjp hjb => ?_, fun j τ xs hj hjb => ?_⟩
   ·have := (h0.place j p b hjp hjb).2.2
    omega
   ·have := (h0.trees.pl j τ xs b hj hjb).2.2.1
    omega)
  refine ⟨⟨S', fun j => if j = i then x else G.η j, G.φ⟩, ?_⟩
  unfold Inv
  have hlk : (s.layN (some i) v (some o)).look = fun j => if j = i then some o else s.look j := by
   funext j
   rw [look_layN]
   by_cases hj : j = i
   ·subst hj; simp
   ·have : ¬ (some i = some j) := by simp; exact fun e => hj e.symm
    rw [if_neg this, if_neg hj]
  rw [sl_layN, hlk, len_layN]
  refine InvF.put h4 ?_
  cases o with
  | box cs =>
   obtain ⟨j, hj, rfl⟩ := hL
   simp only [Option.some.injEq] at hj
   subst hj
   obtain ⟨b, l, t, k1, k2, k3⟩ := hN
   exact ⟨b, by simp [k1], k1, by simp [isBox]⟩
  | row e τ xs =>
   obtain ⟨j, hj, rfl⟩ := hL
   simp only [Option.some.injEq] at hj
   subst hj
   obtain ⟨l, k1, k2, k3⟩ := hN
   refine ⟨by simp, by simp [isRow], ?_⟩
   rcases k1.2 with ⟨rfl, _⟩ | ⟨g, cap, cur, rfl, _⟩
   ·exact ⟨_, _, _, rfl⟩
   ·exact ⟨_, _, _, rfl⟩
  | tree τ xs => exact hN.elim
  | map m =>
   obtain ⟨j, hj, rfl⟩ := hL
   simp only [Option.some.injEq] at hj
   subst hj
   obtain ⟨b, es, clock, k1, k2, k3⟩ := hN
   exact ⟨by simp, by simp [isMap], b, k1⟩
theorem fresh_inv (h : Inv c G s a w) (o : Oper) : Inv c G (s.fresh o) a w := by
 unfold AState.fresh
 split
 ·rename_i d _ _
  obtain ⟨h1, _, _⟩ := h.clear d
  have hlk : AState.look { s.sweep d with objs := dropObj d (s.sweep d).objs } = fun i => if i = d then none else (s.sweep d).look i := by
   funext i
   exact look_drop d _ i
  unfold Inv
  show InvF c G (s.sweep d).sl (s.sweep d).slots.length (AState.look { s.sweep d with objs := dropObj d (s.sweep d).objs }) a w
  rw [hlk, show (s.sweep d).slots.length = s.slots.length from by simp [AState.sweep]]
  exact h1
 ·exact h
theorem fresh_look (s : AState) (o : Oper) (j : Nat) : (s.look j = none → (s.fresh o).look j = none) ∧ (creator o.op = true → o.dst = some j → (s.fresh o).look j = none) := by
 unfold AState.fresh
 split
 ·rename_i d hc hd
  have hlk : AState.look { s.sweep d with objs := dropObj d (s.sweep d).objs } j = if j = d then none else (s.look j).map (AObj.kill d) := by
   show look (dropObj d (s.sweep d).objs) j = _
   rw [look_drop]
   have := congrFun (look_sweep s d) j
   show (if j = d then none else (s.sweep d).look j) = _
   rw [this]
  rw [hlk]
  refine ⟨fun h => by rw [h]; simp, fun _ hj => ?_⟩
  rw [hd] at hj
  simp only [Option.some.injEq] at hj
  rw [if_pos hj.symm]
 ·rename_i hno
  exact ⟨fun h => h, fun hc hd => (hno j hc hd).elim⟩
theorem freshes_inv : ∀ (l : List Oper) {s : AState}, Inv c G s a w → Inv c G (l.foldl AState.fresh s) a w
 | [], _, h => h
 | o :: r, _, h => freshes_inv r (fresh_inv h o)
theorem freshes_none : ∀ (l : List Oper) (s : AState) (j : Nat), (s.look j = none → (l.foldl AState.fresh s).look j = none) ∧ (∀ o ∈ l, creator o.op = true → o.dst = some j → (l.foldl AState.fresh s).look j = none)
 | [], s, j => ⟨fun h => h, by simp⟩
 | o :: r, s, j => by
  obtain ⟨h1, h2⟩ := freshes_none r (s.fresh o) j
  obtain ⟨h3, h4⟩ := fresh_look s o j
  refine ⟨fun h => h1 (h3 h), fun p hp hc hd => ?_⟩
  rcases List.mem_cons.1 hp with rfl | hp
  ·exact h1 (h4 hc hd)
  ·exact h2 p hp hc hd
theorem callOp_ob {E : Env} {lk : Nat → Option AObj} {f : FuncId} {Ts : List TypeId} {vs : List AV} {vc : Vc} {v : AV} {ob : Option AObj} (h : callOp E lk f Ts vs = some (vc, v, ob)) : ob = none := by
 unfold callOp at h
 repeat' split at h
 all_goals first
  | (simp only [Option.some.injEq, Prod.mk.injEq] at h; exact h.2.2.symm)
  | cases h
theorem callClo_ob {E : Env} {lk : Nat → Option AObj} {g : AV} {Ts : List TypeId} {vs : List AV} {vc : Vc} {v : AV} {ob : Option AObj} (h : callClo E lk g Ts vs = some (vc, v, ob)) : ob = none := by
 unfold callClo at h
 split at h
 ·rename_i r hr
  repeat' split at hr
  all_goals first
   | (simp only [Option.some.injEq] at hr h; subst hr; simp only [Prod.mk.injEq] at h; exact h.2.2.symm)
   | cases hr
 ·repeat' split at h
  all_goals first
   | (simp only [Option.some.injEq, Prod.mk.injEq] at h; exact h.2.2.symm)
   | cases h
theorem qop_creator {E : Env} {lk : Nat → Option AObj} {ev : Operand → AV} {o : Oper} {vc : Vc} {v : AV} {ob : AObj} (h : qop E lk ev o = some (vc, v, some ob)) : creator o.op = true := by
 unfold qop at h
 split at h
 case h_4 T hop => rw [hop]; rfl
 case h_5 T x hop => rw [hop]; rfl
 case h_7 T n ps hop => rw [hop]; rfl
 case h_21 T hop => rw [hop]; rfl
 case h_19 T x y hop => rw [hop]; rfl
 case h_20 cl hop =>
  split at h
  ·repeat' split at h
   all_goals first
    | (simp at h; done)
    | cases h
  ·rename_i hcal
   rw [hop]
   simp [creator, hcal]
  ·exact absurd (callOp_ob h) (by simp)
  ·split at h
   ·exact absurd (callOp_ob h) (by simp)
   ·exact absurd (callClo_ob h) (by simp)
   ·exact absurd (callClo_ob h) (by simp)
   ·cases h
  ·cases h
 all_goals (repeat' split at h)
 all_goals first
  | (simp at h; done)
  | cases h
end
end Go.Proofs.YtkogipcdjalehaaDoor

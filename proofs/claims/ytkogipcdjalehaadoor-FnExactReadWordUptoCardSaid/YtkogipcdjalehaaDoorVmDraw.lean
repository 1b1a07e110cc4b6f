/- Operations whose order is open: whatever order is taken, the state at the end is the one that the order of the text gives. -/
import Derived.Test.YtkogipcdjalehaaDoorVmStep
set_option linter.unusedVariables false
set_option linter.unusedSimpArgs false
namespace Go.Proofs.YtkogipcdjalehaaDoor
structure Ent where
 ran : Bool
 v : AV
 ob : Option AObj
def GV (want ran : Bool) : AV → Prop
 | .imm ⟨.bool, b⟩ => ran = (b == want)
 | .undf => ran = false
 | _ => False
def GuardIs (l : List Oper) (bits : Nat) (s : AState) (o : Oper) (ran : Bool) : Prop :=
 match o.guard with
 | none => ran = true
 | some (g, want) => ∃ t v, dstOf l g = some t ∧ Nat.testBit bits g = true ∧ s.eval (.tmp t) = v ∧ GV want ran v
def EntOk (E : Env) (l : List Oper) (m bits : Nat) (s : AState) (o : Oper) (e : Ent) : Prop :=
 GuardIs l bits s o e.ran ∧ (e.ran = true → ∃ vc : Vc, qop E (lkR l m bits s) (evR l m bits s) o = some (vc, e.v, e.ob) ∧ vc.ok) ∧ (e.ran = false → e.v = .undf ∧ e.ob = none)
def Trace (E : Env) (l : List Oper) (m : Nat) (anc : List Nat) : Nat → List Oper → List Ent → AState → AState → Prop
 | _, [], [], s, s' => s = s'
 | i, o :: r, e :: es, s, s' => EntOk E l m (anc.getD i 0) s o e ∧ Trace E l m anc (i + 1) r es (s.layN o.dst e.v e.ob) s'
 | _, _, _, _, _ => False
theorem put_self {s : AState} {t : Nat} {v : AV} (h : s.eval (.tmp t) = v) (hv : v ≠ .any) : s.put (some t) v = s := by
 have hlt : t < s.slots.length := by
  rcases Nat.lt_or_ge t s.slots.length with hl | hl
  ·exact hl
  ·simp only [AState.eval, List.getD_eq_getElem?_getD, List.getElem?_eq_none hl, Option.getD_none] at h
   exact absurd h.symm hv
 simp only [AState.eval, List.getD_eq_getElem?_getD, List.getElem?_eq_getElem hlt, Option.getD_some] at h
 simp only [AState.put]
 congr 1
 subst h
 exact List.set_getElem_self hlt
theorem layN_any (s : AState) (d : Option Nat) : s.layN d .undf none = s.put d .undf := by cases d <;> rfl
theorem awpPre_trace {E : Env} {l : List Oper} {m : Nat} {anc : List Nat} {Q : List (Nat × Bool) → AState → Prop} : ∀ {r : List Oper} {i : Nat} {kn : List (Nat × Bool)} {s : AState}, awpPre E l m anc i r kn Q s →
  ∃ es kn' s', Trace E l m anc i r es s s' ∧ Q kn' s'
 | [], i, kn, s, h => ⟨[], kn, s, rfl, h⟩
 | o :: r, i, kn, s, h => by
  have run : ∀ kn, GuardIs l (anc.getD i 0) s o true → runPre E l m (anc.getD i 0) o (awpPre E l m anc (i + 1) r kn Q) s → ∃ es kn' s', Trace E l m anc i (o :: r) es s s' ∧ Q kn' s' := by
   intro kn hg hr
   unfold runPre at hr
   split at hr
   ·split at hr
    ·rename_i vc v ob hq
     obtain ⟨es, kn', s', h1, h2⟩ := awpPre_trace (Vc.and_ok hr).2
     exact ⟨⟨true, v, ob⟩ :: es, kn', s', ⟨⟨hg, fun _ => ⟨vc, hq, (Vc.and_ok hr).1⟩, fun h => (by cases h)⟩, h1⟩, h2⟩
    ·exact hr.elim
   ·exact hr.elim
  have skip : ∀ kn, GuardIs l (anc.getD i 0) s o false → awpPre E l m anc (i + 1) r kn Q (s.put o.dst .undf) → ∃ es kn' s', Trace E l m anc i (o :: r) es s s' ∧ Q kn' s' := by
   intro kn hg hr
   obtain ⟨es, kn', s', h1, h2⟩ := awpPre_trace hr
   exact ⟨⟨false, .undf, none⟩ :: es, kn', s', ⟨⟨hg, fun h => (by cases h), fun _ => ⟨rfl, rfl⟩⟩, by rw [layN_any]; exact h1⟩, h2⟩
  simp only [awpPre] at h
  split at h
  ·rename_i hg
   exact run kn (by simp [GuardIs, hg]) h
  ·rename_i g want hg
   split at h
   ·rename_i t ht hbit
    split at h
    ·rename_i b hb
     split at h
     ·rename_i b' hev
      split at h
      ·rename_i hbb hbw
       have hbb := eq_of_beq hbb
       subst hbb
       exact run kn (by simp only [GuardIs, hg]; exact ⟨t, _, ht, hbit, hev, hbw.symm⟩) h
      ·rename_i hbb hbw
       have hbb := eq_of_beq hbb
       subst hbb
       exact skip kn (by simp only [GuardIs, hg]; exact ⟨t, _, ht, hbit, hev, hbw.symm⟩) h
      ·exact h.elim
     ·rename_i hev
      exact skip kn (by simp only [GuardIs, hg]; exact ⟨t, _, ht, hbit, hev, rfl⟩) h
     ·exact h.elim
    ·split at h
     ·rename_i b hev
      by_cases hbw : b = want
      ·have h' := h.1 hbw
       subst hbw
       rw [put_self hev (by simp)] at h'
       exact run _ (by simp only [GuardIs, hg]; exact ⟨t, _, ht, hbit, hev, by simp [GV]⟩) h'
      ·have hbn : b = !want := by cases b <;> cases want <;> simp_all
       have h' := h.2 hbn
       rw [← hbn, put_self hev (by simp)] at h'
       exact skip _ (by simp only [GuardIs, hg]; exact ⟨t, _, ht, hbit, hev, by simpa [GV] using hbw⟩) h'
     ·rename_i hev
      exact skip kn (by simp only [GuardIs, hg]; exact ⟨t, _, ht, hbit, hev, rfl⟩) h
     ·exact h.elim
   ·exact h.elim
def stL (l : List Oper) (es : List Ent) (s0 : AState) (π : List Nat) : AState :=
 π.foldl (fun s k => s.layN (dstOf l k) (es.getD k ⟨false, .any, none⟩).v (es.getD k ⟨false, .any, none⟩).ob) s0
theorem len_layN (s : AState) (d : Option Nat) (v : AV) (o : Option AObj) : (s.layN d v o).slots.length = s.slots.length := by cases d <;> simp [AState.layN]
theorem len_stL (l : List Oper) (es : List Ent) : ∀ (π : List Nat) (s0 : AState), (stL l es s0 π).slots.length = s0.slots.length
 | [], _ => rfl
 | k :: π, s0 => by
  show (stL l es (s0.layN _ _ _) π).slots.length = _
  rw [len_stL l es π, len_layN]
theorem sl_layN (s : AState) (d : Option Nat) (v : AV) (o : Option AObj) : (s.layN d v o).sl = updF s.slots.length s.sl d v := by
 cases d with
 | none => funext i; simp [AState.layN, updF]
 | some d => exact sl_set s.slots d v _
theorem look_layN (s : AState) (d : Option Nat) (v : AV) (o : Option AObj) (j : Nat) : (s.layN d v o).look j = if d = some j then (match o with
  | some o => some o
  | none => s.look j) else s.look j := by
 cases d with
 | none => simp [AState.layN]
 | some d =>
  cases o with
  | none =>
   simp only [AState.layN, AState.look, ite_self]
  | some o =>
   show look ((d, o) :: s.objs) j = _
   rw [look_cons]
   by_cases h : j = d
   ·subst h; simp
   ·have : ¬ (some d = some j) := by simp; exact fun e => h e.symm
    rw [if_neg h, if_neg this]; rfl
theorem sl_stL_other (l : List Oper) (es : List Ent) (t : Nat) : ∀ (π : List Nat) (s0 : AState), (∀ k ∈ π, dstOf l k ≠ some t) → (stL l es s0 π).sl t = s0.sl t ∧ (stL l es s0 π).look t = s0.look t
 | [], _, _ => ⟨rfl, rfl⟩
 | k :: π, s0, h => by
  obtain ⟨h1, h2⟩ := sl_stL_other l es t π (s0.layN (dstOf l k) (es.getD k ⟨false, .any, none⟩).v (es.getD k ⟨false, .any, none⟩).ob) (fun j hj => h j (by simp [hj]))
  have hk := h k (by simp)
  constructor
  ·show (stL l es (s0.layN _ _ _) π).sl t = _
   rw [h1, sl_layN, updF, if_neg (fun hh => hk hh.1)]
  ·show (stL l es (s0.layN _ _ _) π).look t = _
   rw [h2, look_layN, if_neg hk]
theorem sl_stL_at (l : List Oper) (es : List Ent) (t k : Nat) (hk : dstOf l k = some t) : ∀ (π : List Nat) (s0 : AState), k ∈ π → π.Nodup → (∀ j ∈ π, j ≠ k → dstOf l j ≠ some t) →
  (stL l es s0 π).sl t = (if t < s0.slots.length then (es.getD k ⟨false, .any, none⟩).v else s0.sl t) ∧
  (stL l es s0 π).look t = (match (es.getD k ⟨false, .any, none⟩).ob with
   | some o => some o
   | none => s0.look t)
 | [], _, h, _, _ => by simp at h
 | j :: π, s0, h, hn, ho => by
  have hn' := List.nodup_cons.1 hn
  by_cases hj : j = k
  ·subst hj
   obtain ⟨h1, h2⟩ := sl_stL_other l es t π (s0.layN (dstOf l j) (es.getD j ⟨false, .any, none⟩).v (es.getD j ⟨false, .any, none⟩).ob) (fun i hi => ho i (by simp [hi]) (fun e => by subst e; exact hn'.1 hi))
   constructor
   ·show (stL l es (s0.layN _ _ _) π).sl t = _
    rw [h1, sl_layN, updF]
    simp [hk]
   ·show (stL l es (s0.layN _ _ _) π).look t = _
    rw [h2, look_layN, if_pos hk]
  ·have hjt := ho j (by simp) hj
   obtain ⟨h1, h2⟩ := sl_stL_at l es t k hk π (s0.layN (dstOf l j) (es.getD j ⟨false, .any, none⟩).v (es.getD j ⟨false, .any, none⟩).ob) (by simpa [Ne.symm hj] using h) hn'.2 (fun i hi => ho i (by simp [hi]))
   constructor
   ·show (stL l es (s0.layN _ _ _) π).sl t = _
    rw [h1, len_layN, sl_layN, updF, if_neg (c := dstOf l j = some t ∧ _) (fun hh => hjt hh.1)]
   ·show (stL l es (s0.layN _ _ _) π).look t = _
    rw [h2]
    split
    ·rfl
    ·rw [look_layN, if_neg hjt]
theorem seen_eq {l : List Oper} {es : List Ent} {m bits : Nat} {s0 : AState} {π π' : List Nat} (hdst : ∀ j k t, j < m → k < m → dstOf l j = some t → dstOf l k = some t → j = k)
  (hπ : ∀ k ∈ π, k < m) (hπ' : ∀ k ∈ π', k < m) (hn : π.Nodup) (hn' : π'.Nodup) (ha : ∀ k, k < m → Nat.testBit bits k = true → k ∈ π ∧ k ∈ π') (t : Nat) (hh : hidden l m bits t = false) :
  (stL l es s0 π).sl t = (stL l es s0 π').sl t ∧ (stL l es s0 π).look t = (stL l es s0 π').look t := by
 by_cases hex : ∃ k, k < m ∧ dstOf l k = some t
 ·obtain ⟨k, hk, hd⟩ := hex
  have hb : Nat.testBit bits k = true := by
   have := hh
   unfold hidden at this
   rw [List.any_eq_false] at this
   have := this k (by simpa using hk)
   simp only [hd] at this
   simp only [Nat.beq_refl] at this
   simpa using this
  obtain ⟨h1, h2⟩ := ha k hk hb
  obtain ⟨e1, e2⟩ := sl_stL_at l es t k hd π s0 h1 hn (fun j hj hne hjd => hne (hdst j k t (hπ j hj) hk hjd hd))
  obtain ⟨e3, e4⟩ := sl_stL_at l es t k hd π' s0 h2 hn' (fun j hj hne hjd => hne (hdst j k t (hπ' j hj) hk hjd hd))
  exact ⟨e1.trans e3.symm, e2.trans e4.symm⟩
 ·have hno : ∀ k, k < m → dstOf l k ≠ some t := fun k hk hd => hex ⟨k, hk, hd⟩
  obtain ⟨e1, e2⟩ := sl_stL_other l es t π s0 (fun k hk => hno k (hπ k hk))
  obtain ⟨e3, e4⟩ := sl_stL_other l es t π' s0 (fun k hk => hno k (hπ' k hk))
  exact ⟨e1.trans e3.symm, e2.trans e4.symm⟩
theorem testBit_edges (acc : List Nat) (k : Nat) : ∀ (es : List Edge) (s : Nat), Nat.testBit (es.foldl (edgeStep acc) s) k = true → Nat.testBit s k = true ∨ ∃ e ∈ es, Region.binds .any e = true ∧ (k = e.on ∨ Nat.testBit (acc.getD e.on 0) k = true)
 | [], s, h => .inl h
 | e :: es, s, h => by
  simp only [List.foldl_cons] at h
  rcases testBit_edges acc k es _ h with h | ⟨e', he', h⟩
  ·unfold edgeStep at h
   split at h
   ·rename_i hb
    simp only [Nat.testBit_or, Bool.or_eq_true] at h
    rcases h with h | h | h
    ·exact .inl h
    ·refine .inr ⟨e, by simp, hb, .inl ?_⟩
     rw [Nat.one_shiftLeft, Nat.testBit_two_pow] at h
     exact (of_decide_eq_true h).symm
    ·exact .inr ⟨e, by simp, hb, .inr h⟩
   ·exact .inl h
  ·exact .inr ⟨e', by simp [he'], h⟩
theorem ancGo_spec : ∀ (l : List Oper) (acc : List Nat), ∃ r, ancGo l acc = acc ++ r ∧ r.length = l.length ∧
  ∀ i o, l[i]? = some o → ∀ k, Nat.testBit ((acc ++ r).getD (acc.length + i) 0) k = true → ∃ e ∈ o.after.toList, Region.binds .any e = true ∧ (k = e.on ∨ (e.on < acc.length + i ∧ Nat.testBit ((acc ++ r).getD e.on 0) k = true))
 | [], acc => ⟨[], by simp [ancGo], rfl, by simp⟩
 | o :: l, acc => by
  simp only [ancGo]
  obtain ⟨r, h1, h2, h3⟩ := ancGo_spec l (acc ++ [o.after.toList.foldl (edgeStep acc) 0])
  refine ⟨_ :: r, by rw [h1, List.append_assoc]; rfl, by simp [h2], fun i p hp k hk => ?_⟩
  cases i with
  | zero =>
   simp at hp
   subst hp
   have hk' : Nat.testBit (o.after.toList.foldl (edgeStep acc) 0) k = true := by
    simpa [List.getD_eq_getElem?_getD] using hk
   rcases testBit_edges acc k _ 0 hk' with h | ⟨e, he, hb, h⟩
   ·simp at h
   ·refine ⟨e, he, hb, h.imp id fun h => ?_⟩
    have hlt : e.on < acc.length := by
     rcases Nat.lt_or_ge e.on acc.length with hl | hl
     ·exact hl
     ·simp [List.getD_eq_getElem?_getD, List.getElem?_eq_none hl] at h
    refine ⟨by omega, ?_⟩
    rw [List.getD_eq_getElem?_getD, List.getElem?_append_left hlt, ← List.getD_eq_getElem?_getD]
    exact h
  | succ i =>
   have := h3 i p (by simpa using hp) k (by
    have e1 : (acc ++ [o.after.toList.foldl (edgeStep acc) 0]).length + i = acc.length + (i + 1) := by simp; omega
    rw [e1, List.append_assoc]
    exact hk)
   obtain ⟨e, he, hb, h⟩ := this
   refine ⟨e, he, hb, h.imp id fun ⟨h1, h2⟩ => ⟨by simp at h1; omega, ?_⟩⟩
   rw [List.append_assoc] at h2
   exact h2
theorem splitGo_spec : ∀ (l : List Nat) (i m0 : Nat), m0 ≤ i → splitGo l i m0 ≤ i + l.length ∧ m0 ≤ splitGo l i m0 ∧ ∀ j b, l[j]? = some b → splitGo l i m0 ≤ i + j → b + 1 = 2 ^ (i + j)
 | [], i, m0, h => by simp [splitGo]; exact h
 | b :: l, i, m0, h => by
  simp only [splitGo]
  split
  ·rename_i hb
   have hb := Nat.eq_of_beq_eq_true hb
   obtain ⟨h1, h2, h3⟩ := splitGo_spec l (i + 1) m0 (by omega)
   refine ⟨by simp; omega, h2, fun j b' hj hle => ?_⟩
   cases j with
   | zero => simp at hj; subst hj; exact hb
   | succ j => rw [show i + (j + 1) = i + 1 + j by omega]; exact h3 j b' (by simpa using hj) (by omega)
  ·obtain ⟨h1, h2, h3⟩ := splitGo_spec l (i + 1) (i + 1) (Nat.le_refl _)
   refine ⟨by simp; omega, by omega, fun j b' hj hle => ?_⟩
   cases j with
   | zero => omega
   | succ j => rw [show i + (j + 1) = i + 1 + j by omega]; exact h3 j b' (by simpa using hj) (by omega)
end Go.Proofs.YtkogipcdjalehaaDoor

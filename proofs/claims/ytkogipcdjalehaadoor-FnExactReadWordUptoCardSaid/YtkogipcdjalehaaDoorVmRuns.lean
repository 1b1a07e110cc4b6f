/- How the operations run, over values of which only their reading is known. -/
import Derived.Test.YtkogipcdjalehaaDoorVmVals
import Derived.IntWalk
import Derived.Laws.Small
import Derived.Laws.CopyRow
set_option linter.unusedVariables false
set_option linter.unusedSimpArgs false
namespace Go.Proofs.YtkogipcdjalehaaDoor
theorem inKind_iff {k : IntKind} {n : Int} (h : inKind k n) : k.min ≤ n ∧ n ≤ k.max := by
 cases k <;> first
  | exact h
  | (simp only [inKind, inI64] at h; simp only [IntKind.min, IntKind.max, IntKind.signed, IntKind.bits, if_true]; exact ⟨by omega, by omega⟩)
theorem wrap_in {k : IntKind} {n : Int} (h : k.min ≤ n ∧ n ≤ k.max) : k.wrap n = n := by
 cases k <;> simp [IntKind.min, IntKind.max, IntKind.signed, IntKind.bits] at h <;> simp [IntKind.wrap, IntKind.signed, IntKind.bits] <;> (try split) <;> omega
theorem wrapU64in (n : Int) : IntKind.u64.min ≤ IntKind.u64.wrap n ∧ IntKind.u64.wrap n ≤ IntKind.u64.max := by
 simp [IntKind.min, IntKind.max, IntKind.signed, IntKind.bits, IntKind.wrap]; omega
theorem nonneg_lt {k : IntKind} {a : Int} (h0 : 0 ≤ a) (h : k.min ≤ a ∧ a ≤ k.max) : a.toNat < 2 ^ k.bits := by
 cases k <;> simp [IntKind.min, IntKind.max, IntKind.signed, IntKind.bits] at h ⊢ <;> omega
theorem and_bits {k : IntKind} {a b : Int} (ha0 : 0 ≤ a) (hb0 : 0 ≤ b) (ha : k.min ≤ a ∧ a ≤ k.max) (hb : k.min ≤ b ∧ b ≤ k.max) :
  k.wrap ((BitVec.ofInt k.bits a &&& BitVec.ofInt k.bits b).toNat : Int) = ((a.toNat &&& b.toNat : Nat) : Int) ∧ k.min ≤ ((a.toNat &&& b.toNat : Nat) : Int) ∧ ((a.toNat &&& b.toNat : Nat) : Int) ≤ k.max := by
 have h1 : ∀ x : Int, 0 ≤ x → k.min ≤ x ∧ x ≤ k.max → (BitVec.ofInt k.bits x).toNat = x.toNat := fun x h0 hx => by
  obtain ⟨n, rfl⟩ := Int.eq_ofNat_of_zero_le h0
  have := nonneg_lt h0 hx
  simp only [Int.toNat_natCast] at this ⊢
  rw [show BitVec.ofInt k.bits (n : Int) = BitVec.ofNat k.bits n from BitVec.ofInt_natCast .., BitVec.toNat_ofNat]
  exact Nat.mod_eq_of_lt this
 have hle : ((a.toNat &&& b.toNat : Nat) : Int) ≤ a := by
  have := @Nat.and_le_left a.toNat b.toNat
  omega
 have hr : k.min ≤ ((a.toNat &&& b.toNat : Nat) : Int) ∧ ((a.toNat &&& b.toNat : Nat) : Int) ≤ k.max := by
  refine ⟨?_, by omega⟩
  have : k.min ≤ 0 := by cases k <;> decide
  omega
 rw [BitVec.toNat_and, h1 a ha0 ha, h1 b hb0 hb]
 exact ⟨wrap_in hr, hr⟩
theorem arith_run {op : BinOp} {k yk : IntKind} {a b r : Int} {p : Vc} (h : arith op k a b = some (p, r)) (hp : p.ok) (hk : op = .shl ∨ op = .shr ∨ yk = k) (P : Program) (t : TypeId) (w : World) :
  (binOp op t (.int k a) (.int yk b)).run P w = .ok (.int k r) w ∧ k.min ≤ r ∧ r ≤ k.max := by
 cases op <;> simp only [arith] at h <;> try cases h
 case add =>
  have hk : yk = k := by simpa using hk
  subst hk
  split at h <;> simp only [Option.some.injEq, Prod.mk.injEq] at h <;> obtain ⟨rfl, rfl⟩ := h
  ·exact ⟨by simp [binOp_add, Op.intArith], wrapU64in _⟩
  ·have := inKind_iff hp
   exact ⟨by simp [binOp_add, Op.intArith, wrap_in this], this⟩
 case sub =>
  have hk : yk = k := by simpa using hk
  subst hk
  have := inKind_iff hp
  exact ⟨by simp [binOp_sub, Op.intArith, wrap_in this], this⟩
 case mul =>
  have hk : yk = k := by simpa using hk
  subst hk
  split at h <;> simp only [Option.some.injEq, Prod.mk.injEq] at h <;> obtain ⟨rfl, rfl⟩ := h
  ·exact ⟨by simp [binOp_mul, Op.intArith], wrapU64in _⟩
  ·have := inKind_iff hp
   exact ⟨by simp [binOp_mul, Op.intArith, wrap_in this], this⟩
 case quo =>
  have hk : yk = k := by simpa using hk
  subst hk
  have := inKind_iff hp.2
  exact ⟨by simp [binOp_quo, Op.intDiv, hp.1, wrap_in this], this⟩
 case rem =>
  have hk : yk = k := by simpa using hk
  subst hk
  have := inKind_iff hp.2
  exact ⟨by simp [binOp_rem, Op.intDiv, hp.1], this⟩
 case and =>
  have hk : yk = k := by simpa using hk
  subst hk
  obtain ⟨h1, h2⟩ := and_bits hp.1 hp.2.1 (inKind_iff hp.2.2.1) (inKind_iff hp.2.2.2)
  exact ⟨by simp only [binOp_and, Op.intBits, Sem.run_pure, h1], h2⟩
 case shl =>
  have hp1 : b < (k.bits : Int) := hp.2.1
  have := inKind_iff hp.2.2
  have hb : min b.toNat k.bits = b.toNat := by omega
  exact ⟨by simp [binOp_shl, Op.shift, Int.not_lt.2 hp.1, hb, wrap_in this], this⟩
 case shr =>
  have hp1 : b < (k.bits : Int) := hp.2.1
  have := inKind_iff hp.2.2
  have hb : min b.toNat k.bits = b.toNat := by omega
  exact ⟨by simp [binOp_shr, Op.shift, Int.not_lt.2 hp.1, hb], this⟩
theorem wrapIn (k : IntKind) (n : Int) : k.min ≤ k.wrap n ∧ k.wrap n ≤ k.max := by
 cases k <;> simp [IntKind.min, IntKind.max, IntKind.signed, IntKind.bits, IntKind.wrap] <;> omega
theorem arithW_run {wr : Bool} {op : BinOp} {k yk : IntKind} {a b r : Int} {p : Vc} (h : arithW wr op k a b = some (p, r)) (hp : p.ok) (hk : op = .shl ∨ op = .shr ∨ yk = k) (P : Program) (t : TypeId) (w : World) :
  (binOp op t (.int k a) (.int yk b)).run P w = .ok (.int k r) w ∧ k.min ≤ r ∧ r ≤ k.max := by
 unfold arithW at h
 split at h
 ·split at h
  ·have hk : yk = k := by simpa using hk
   subst hk
   simp only [Option.some.injEq, Prod.mk.injEq] at h
   obtain ⟨rfl, rfl⟩ := h
   exact ⟨by simp [binOp_add, Op.intArith], wrapIn _ _⟩
  ·have hk : yk = k := by simpa using hk
   subst hk
   simp only [Option.some.injEq, Prod.mk.injEq] at h
   obtain ⟨rfl, rfl⟩ := h
   exact ⟨by simp [binOp_sub, Op.intArith], wrapIn _ _⟩
  ·have hk : yk = k := by simpa using hk
   subst hk
   simp only [Option.some.injEq, Prod.mk.injEq] at h
   obtain ⟨rfl, rfl⟩ := h
   exact ⟨by simp [binOp_mul, Op.intArith], wrapIn _ _⟩
  ·exact arith_run h hp hk P t w
 ·exact arith_run h hp hk P t w
theorem cmp_run {op : BinOp} {k : IntKind} {a b : Int} {r : Bool} (h : cmp op a b = some r) (P : Program) (t : TypeId) (w : World) :
  (binOp op t (.int k a) (.int k b)).run P w = .ok (.bool r) w := by
 cases op <;> simp only [cmp, Option.some.injEq] at h <;> try cases h
 ·simp only [binOp_eql, Sem.run_pure]
  congr 2
 ·simp only [binOp_neq, Sem.run_pure]
  congr 2
 ·simp [binOp_lss]
 ·simp [binOp_leq]
 ·simp [binOp_gtr]
 ·simp [binOp_geq]
section
variable {c : Ctx} {G : Gh} {lk : Nat → Option AObj} {w : World}
theorem bytes_eq (a b : ByteArray) : (a.toList == b.toList) = decide (a.data.toList = b.data.toList) := by
 rw [ByteArray.toList_eq, ByteArray.toList_eq]
 rw [Bool.eq_iff_iff]
 simp
theorem binAV_run (hE : EnvOk c.P c.E) {op : BinOp} {T : TypeId} {u v r : AV} {x y : Value} {p : Vc} {wr : Bool} (ox oy : Operand)
  (h : binAV (match look c.E.ty T with
   | some (.bool, _) => true
   | _ => false) wr op u v = some (p, r)) (hp : p.ok) (hu : VR c G lk w u x) (hv : VR c G lk w v y) :
  ∃ z, (do eqGuard op T ox oy x y; binOp op T x y : Sem Value).run c.P w = .ok z w ∧ VR c G lk w r z := by
 unfold binAV at h
 split at h
 ·rename_i k a k' b
  obtain ⟨h1, h2⟩ := hu
  obtain ⟨h3, h4⟩ := hv
  simp only [List.cons.injEq, and_true] at h1 h3
  subst h1 h3
  simp only [eqGuard_at_int, Sem.run_bind, Sem.run_pure, Result.andThen_ok]
  split at h
  ·rename_i p' r' har
   have key : (op = .shl ∨ op = .shr ∨ k' = k) → p'.ok → ∃ z, (binOp op T (.int k a) (.int k' b)).run c.P w = .ok z w ∧ VR c G lk w (.imm ⟨.int k, r'⟩) z := fun hk hp' => by
    obtain ⟨h5, h6⟩ := arithW_run har hp' hk c.P T w
    exact ⟨_, h5, rfl, h6⟩
   split at h
   ·simp only [Option.some.injEq, Prod.mk.injEq] at h
    obtain ⟨rfl, rfl⟩ := h
    exact key (.inl rfl) hp
   ·simp only [Option.some.injEq, Prod.mk.injEq] at h
    obtain ⟨rfl, rfl⟩ := h
    exact key (.inr (.inl rfl)) hp
   ·split at h
    ·rename_i hk
     simp only [Option.some.injEq, Prod.mk.injEq] at h
     obtain ⟨rfl, rfl⟩ := h
     exact key (.inr (.inr (of_decide_eq_true hk).symm)) hp
    ·cases h
  ·split at h
   ·rename_i hk
    have hk := of_decide_eq_true hk
    subst hk
    split at h
    ·rename_i cc hc
     simp only [Option.some.injEq, Prod.mk.injEq] at h
     obtain ⟨rfl, rfl⟩ := h
     exact ⟨_, cmp_run hc c.P T w, rfl⟩
    ·cases h
   ·cases h
 ·rename_i a b
  have hu : [x] = [.bool a] := hu
  have hv : [y] = [.bool b] := hv
  simp only [List.cons.injEq, and_true] at hu hv
  subst hu hv
  split at h
  ·rename_i hT
   split at hT
   ·rename_i r' hl
    have hb := hE.bool hl
    split at h
    ·simp only [Option.some.injEq, Prod.mk.injEq] at h
     obtain ⟨rfl, rfl⟩ := h
     exact ⟨.bool (a == b), by simp [binOp, run_equal_bool w T a b hb, eqGuard_at_bool], rfl⟩
    ·simp only [Option.some.injEq, Prod.mk.injEq] at h
     obtain ⟨rfl, rfl⟩ := h
     exact ⟨.bool !(a == b), by simp [binOp, run_equal_bool w T a b hb, eqGuard_at_bool], rfl⟩
    ·cases h
   ·cases hT
  ·cases h
 ·rename_i a b
  obtain ⟨s, h1, h2, h3⟩ := hu
  obtain ⟨s', h4, h5, h6⟩ := hv
  simp only [List.cons.injEq, and_true] at h1 h4
  subst h1 h4
  subst h2 h5
  split at h
  ·simp only [Option.some.injEq, Prod.mk.injEq] at h
   obtain ⟨rfl, rfl⟩ := h
   exact ⟨.bool (s.toList == s'.toList), by simp [binOp, Op.stringOp, eqGuard_at_string], by rw [bytes_eq]; rfl⟩
  ·simp only [Option.some.injEq, Prod.mk.injEq] at h
   obtain ⟨rfl, rfl⟩ := h
   exact ⟨.bool (!(s.toList == s'.toList)), by simp [binOp, Op.stringOp, eqGuard_at_string], by rw [bytes_eq]; rfl⟩
  ·simp only [Option.some.injEq, Prod.mk.injEq] at h
   obtain ⟨rfl, rfl⟩ := h
   have hsz : s.size + s'.size ≤ 140737488355328 := by
    have := hp
    simp only [Array.length_toList] at this
    exact this
   have hs2 : (s ++ s').size = s.size + s'.size := ByteArray.size_append
   refine ⟨.string (s ++ s'), ?_, s ++ s', rfl, by simp, by rw [hs2]; exact hsz⟩
   have : ¬ (((s.size + s'.size : Nat) : Int) > IntKind.i64.max) := by rw [IntKind.max_i64]; omega
   simp only [eqGuard_at_string, Sem.run_bind, Sem.run_pure, Result.andThen_ok, binOp, Op.stringOp, if_neg this]
  ·cases h
 ·cases h
theorem run_fieldAt (hE : EnvOk c.P c.E) {T : TypeId} {n : SName} {b e : Nat} (h : look c.E.ty T = some (.st n, b, e)) {bk o : Nat} {i : Nat} (hi : i < n.ftys.length) (w : World) :
  (Instr.fieldAt T (.pointer (some ⟨bk, o, none⟩)) i).run c.P w = .ok (.pointer (some ⟨bk, o + n.offs i, none⟩)) w := by
 obtain ⟨fs, h1, h2, h3⟩ := hE.st h
 have hf : fs[i]? = some fs[i] := Array.getElem?_eq_getElem (by omega)
 obtain ⟨t, b', e', h4, h5, h6⟩ := h3 i _ hf
 have hsz := hE.sizeOf h5 w
 have h0 : t.size ≠ 0 := Nat.pos_iff_ne_zero.1 t.size_pos
 simp [Instr.fieldAt, run_underlying h1, hf, Instr.sureAddr, fieldPlace, hsz, h0, Addr.add_lit, h6]
theorem run_field (hE : EnvOk c.P c.E) {T : TypeId} {n : SName} {b e : Nat} (h : look c.E.ty T = some (.st n, b, e)) {l : List Value} {i : Nat} {t : Ty} (hi : n.ftys[i]? = some t)
  (hl : n.offs i + t.size ≤ l.length) (w : World) :
  (Instr.field T (.agg l.toArray) i).run c.P w = .ok (mkV t ((l.drop (n.offs i)).take t.size)) w := by
 obtain ⟨fs, h1, h2, h3⟩ := hE.st h
 have hlt : i < fs.size := by have := (List.getElem?_eq_some_iff.1 hi).1; omega
 have hf : fs[i]? = some fs[i] := Array.getElem?_eq_getElem hlt
 obtain ⟨t', b', e', h4, h5, h6⟩ := h3 i _ hf
 rw [hi] at h4
 simp only [Option.some.injEq] at h4
 subst h4
 have hsz := hE.sizeOf h5 w
 have hag := hE.isAgg h5 w
 simp only [Instr.field, Sem.run_bind, run_underlying h1, Result.andThen_ok, hf, asAgg, part, hag, Sem.run_pure]
 cases hτ : t.agg with
 | true =>
  simp only [if_true, Sem.run_bind, hsz, Result.andThen_ok, Sem.run_pure, h6]
  cases t <;> first | (cases hτ; done) | skip
  simp only [mkV, Result.ok.injEq, Value.agg.injEq, and_true]
  apply Array.ext'
  simp [List.take_drop]
 | false =>
  have h1 := Ty.size_of_not_agg hτ
  simp only [Bool.false_eq_true, if_false, h6]
  have hx : l.toArray[n.offs i]? = some (l[n.offs i]'(by omega)) := by rw [List.getElem?_toArray]; exact List.getElem?_eq_getElem (by omega)
  rw [hx]
  simp only [Sem.run_pure, h1]
  have he : (l.drop (n.offs i)).take 1 = [l[n.offs i]'(by omega)] := by
   rw [List.drop_eq_getElem_cons (by omega), List.take_succ_cons, List.take_zero]
  rw [he]
  cases t <;> first | rfl | cases hτ
end
end Go.Proofs.YtkogipcdjalehaaDoor

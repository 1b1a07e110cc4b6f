/- How a function's contract is stated, and how it follows from the abstract machine. -/
import Derived.Test.YtkogipcdjalehaaDoorVmTab
set_option linter.unusedVariables false
namespace Go.Proofs.YtkogipcdjalehaaDoor
abbrev msz {α : Type} [SizeOf α] (x : α) : Nat := SizeOf.sizeOf x
inductive PK where
 | v (τ : Ty)
 | r (τ : Ty)
 | f
 | c (ps : List Ty) (r : Ty)
 | o (τ : Ty)
 | b (k : Nat)
@[reducible] def KT : List PK → Type 1
 | [] => ULift (Vc × List TV)
 | .v τ :: l => τ.den → KT l
 | .r τ :: l => τ.den → KT l
 | .f :: l => FuncId → KT l
 | .c ps r :: l => FN ps r → KT l
 | .o τ :: l => τ.den → KT l
 | .b _ :: l => KT l
def kOf : (l : List PK) → KT l → List Arg → Option (Vc × List TV)
 | [], x, [] => some x.down
 | .v τ :: l, g, .val a :: zs => match a.as τ with
  | some x => kOf l (g x) zs
  | none => none
 | .r τ :: l, g, .ref a :: zs => match a.as τ with
  | some x => kOf l (g x) zs
  | none => none
 | .f :: l, g, .fn a :: zs => kOf l (g a) zs
 | .c ps r :: l, g, .clo a :: zs => match a.as ps r with
  | some x => kOf l (g x) zs
  | none => none
 | .o τ :: l, g, .own a :: zs => match a.as τ with
  | some x => kOf l (g x) zs
  | none => none
 | _, _, _ => none
def KOk (P : Program) (f : FuncId) : (l : List PK) → KT l → List Arg → Prop
 | [], x, acc => x.down.1.ok → OkCall P f acc (· = x.down.2)
 | .v τ :: l, g, acc => ∀ x, KOk P f l (g x) (acc ++ [.val ⟨τ, x⟩])
 | .r τ :: l, g, acc => ∀ x, KOk P f l (g x) (acc ++ [.ref ⟨τ, x⟩])
 | .f :: l, g, acc => ∀ x, KOk P f l (g x) (acc ++ [.fn x])
 | .c ps r :: l, g, acc => ∀ x, KOk P f l (g x) (acc ++ [.clo ⟨ps, r, x⟩])
 | .o τ :: l, g, acc => ∀ x, KOk P f l (g x) (acc ++ [.own ⟨τ, x⟩])
 | .b _ :: _, _, _ => True
theorem ok_of_KOk {P : Program} {f : FuncId} : ∀ (l : List PK) (g : KT l) (acc zs : List Arg) (pre : Vc) (res : List TV), KOk P f l g acc → kOf l g zs = some (pre, res) → pre.ok → OkCall P f (acc ++ zs) (· = res)
 | [], g, acc, zs, pre, res, h, e, hp => by
  cases zs with
  | nil =>
   simp only [kOf, Option.some.injEq] at e
   have h' : g.down.1.ok → OkCall P f acc (· = g.down.2) := h
   rw [e] at h'
   rw [List.append_nil]
   exact h' hp
  | cons a zs => simp [kOf] at e
 | .v τ :: l, g, acc, zs, pre, res, h, e, hp => by
  cases zs with
  | nil => simp [kOf] at e
  | cons a zs =>
   cases a with
   | val a =>
    rw [kOf] at e
    split at e
    ·rename_i x hx
     have := ok_of_KOk l (g x) (acc ++ [.val ⟨τ, x⟩]) zs pre res (h x) e hp
     rw [TV.as_some hx]
     simpa using this
    ·cases e
   | ref a => simp [kOf] at e
   | clo a => simp [kOf] at e
   | own a => simp [kOf] at e
   | fn a => simp [kOf] at e
   | box a => simp [kOf] at e
 | .r τ :: l, g, acc, zs, pre, res, h, e, hp => by
  cases zs with
  | nil => simp [kOf] at e
  | cons a zs =>
   cases a with
   | ref a =>
    rw [kOf] at e
    split at e
    ·rename_i x hx
     have := ok_of_KOk l (g x) (acc ++ [.ref ⟨τ, x⟩]) zs pre res (h x) e hp
     rw [TV.as_some hx]
     simpa using this
    ·cases e
   | val a => simp [kOf] at e
   | clo a => simp [kOf] at e
   | own a => simp [kOf] at e
   | fn a => simp [kOf] at e
   | box a => simp [kOf] at e
 | .f :: l, g, acc, zs, pre, res, h, e, hp => by
  cases zs with
  | nil => simp [kOf] at e
  | cons a zs =>
   cases a with
   | fn a =>
    rw [kOf] at e
    have := ok_of_KOk l (g a) (acc ++ [.fn a]) zs pre res (h a) e hp
    simpa using this
   | val a => simp [kOf] at e
   | clo a => simp [kOf] at e
   | own a => simp [kOf] at e
   | ref a => simp [kOf] at e
   | box a => simp [kOf] at e
 | .c ps r :: l, g, acc, zs, pre, res, h, e, hp => by
  cases zs with
  | nil => simp [kOf] at e
  | cons a zs =>
   cases a with
   | clo a =>
    rw [kOf] at e
    split at e
    ·rename_i x hx
     have := ok_of_KOk l (g x) (acc ++ [.clo ⟨ps, r, x⟩]) zs pre res (h x) e hp
     rw [FV.as_some hx]
     simpa using this
    ·cases e
   | val a => simp [kOf] at e
   | ref a => simp [kOf] at e
   | fn a => simp [kOf] at e
   | own a => simp [kOf] at e
   | box a => simp [kOf] at e
 | .o τ :: l, g, acc, zs, pre, res, h, e, hp => by
  cases zs with
  | nil => simp [kOf] at e
  | cons a zs =>
   cases a with
   | own a =>
    rw [kOf] at e
    split at e
    ·rename_i x hx
     have := ok_of_KOk l (g x) (acc ++ [.own ⟨τ, x⟩]) zs pre res (h x) e hp
     rw [TV.as_some hx]
     simpa using this
    ·cases e
   | val a => simp [kOf] at e
   | ref a => simp [kOf] at e
   | fn a => simp [kOf] at e
   | clo a => simp [kOf] at e
   | box a => simp [kOf] at e
 | .b k :: l, g, acc, zs, pre, res, h, e, hp => by
  cases zs <;> simp [kOf] at e
structure Ctr where
 n : Nat
 l : List PK
 g : KT l
def Ctr.Good (c : Ctr) : Prop := FnOk prog c.n ∧ KOk prog c.n c.l c.g []
def ctrOf : List Ctr → Nat → List Arg → Option (Vc × List TV)
 | [], _, _ => none
 | c :: r, f, zs => match Nat.beq c.n f with
  | true => kOf c.l c.g zs
  | false => ctrOf r f zs
def PK.own : PK → Bool
 | .o _ => true
 | _ => false
def tkOf : List Ctr → Nat → List Bool
 | [], _ => []
 | c :: r, f => match Nat.beq c.n f with
  | true => match c.l.any PK.own with
   | true => c.l.map PK.own
   | false => []
  | false => tkOf r f
def envOf (l : List Ctr) (wr : List Nat := []) (cl : List (Nat × CloK) := []) (ro : List Nat := []) : Env := Env.mk tyTab ptyTab (ctrOf l) wr [] (fun _ _ => none) (fun _ => none) (look cl) ro (fun _ => []) (fun _ => none) (fun _ _ _ => none) mtyTab
def AllGood : List Ctr → Prop
 | [] => True
 | c :: r => c.Good ∧ AllGood r
theorem ctrOf_ok : ∀ (l : List Ctr), AllGood l → ∀ f args pre res, ctrOf l f args = some (pre, res) → pre.ok → FnOk prog f ∧ OkCall prog f args (· = res)
 | [], _, f, args, pre, res, e, _ => by cases e
 | c :: r, h, f, args, pre, res, e, hp => by
  rw [ctrOf] at e
  split at e
  ·rename_i hb
   have hb := Nat.eq_of_beq_eq_true hb
   subst hb
   exact ⟨h.1.1, ok_of_KOk c.l c.g [] args pre res h.1.2 e hp⟩
  ·exact ctrOf_ok r h.2 f args pre res e hp
theorem look_in {α : Type} : ∀ (l : List (Nat × α)) (n : Nat) (v : α), look l n = some v → (n, v) ∈ l
 | [], n, v, h => by cases h
 | (k, u) :: r, n, v, h => by
  rw [look] at h
  split at h
  ·rename_i hb
   cases h
   rw [Nat.eq_of_beq_eq_true hb]
   exact List.mem_cons_self ..
  ·exact List.mem_cons_of_mem _ (look_in r n v h)
theorem envOf_ok {l : List Ctr} {wr : List Nat} {cl : List (Nat × CloK)} {ro : List Nat} (h : AllGood l) : EnvOk prog (envOf l wr cl ro) where
 ty T τ b e ht := by
  have h1 := List.all_eq_true.mp (Bool.and_eq_true_iff.1 (tyTab_ok (ctrOf l) wr [] (fun _ _ => none) (fun _ => none) (look cl) ro (fun _ => []) (fun _ => none) (fun _ _ _ => none))).1 _ (look_in _ _ _ ht)
  exact h1
 mty T κ ε ht := by
  have h1 := List.all_eq_true.mp (Bool.and_eq_true_iff.1 (tyTab_ok (ctrOf l) wr [] (fun _ _ => none) (fun _ => none) (look cl) ro (fun _ => []) (fun _ => none) (fun _ _ _ => none))).2 _ (look_in _ _ _ ht)
  exact h1
 pty _ _ _ := trivial
 ctr := ctrOf_ok l h
 octr _ _ _ _ h := by cases h
 mark _ _ h := by cases h
 sctr _ _ _ _ _ _ _ h := by cases h
theorem fnOk_of {f : FuncId} {fn : Func} (h : prog.funcs[f]? = some fn) (hb : fn.body.isNone = false) (hn : (fn.name == "runtime.NumGoroutine") = false) : FnOk prog f := ⟨fn, h, hb, hn⟩
theorem areEq_eq : ∀ {l m : List TV}, areEq l m → l = m
 | [], [], _ => rfl
 | [v], [u], h => by rw [tvEq_spec h]
 | v :: v' :: vs, [u], h => by
  have := areEq_eq (l := v' :: vs) (m := []) h.2
  cases this
 | [v], u :: u' :: us, h => by
  have := areEq_eq (l := []) (m := u' :: us) h.2
  cases this
 | v :: v' :: vs, u :: u' :: us, h => by rw [tvEq_spec h.1, areEq_eq (l := v' :: vs) (m := u' :: us) h.2]
 | [], u :: us, h => by cases h
 | v :: vs, [], h => by
  cases vs <;> cases h
theorem OkCall.mono {P : Program} {f : FuncId} {args : List Arg} {p q : List TV → Prop} (h : OkCall P f args p) (hpq : ∀ r, p r → q r) : OkCall P f args q := by
 intro w S vals hS ha
 refine (h w S vals hS ha).mono fun e w' => ?_
 rintro ⟨x, S', res, h1, h2, h3⟩
 exact ⟨x, S', res, h1, hpq _ h2, h3⟩
theorem ok_of_awp {f : FuncId} {fn : Func} {code : Code} {l : List Ctr} {wr : List Nat} {cl : List (Nat × CloK)} {ro : List Nat} (hl : AllGood l) (hf : prog.funcs[f]? = some fn) (hb : fn.body = some code) (Λ : Nat → LoopInv) {args : List Arg} {res : List TV}
  (h : awp (envOf l wr cl ro) code Λ 0 (funPost (envOf l wr cl ro) fn fun r => areEq r res) (startState fn args)) : OkCall prog f args (· = res) :=
 (fn_sound (envOf_ok hl) prog_mixed hf hb Λ h).mono fun _ => areEq_eq
def KOkO (P : Program) (f : FuncId) : (l : List PK) → KT l → List Arg → Prop
 | [], x, acc => x.down.1.ok → OkOwn P f acc x.down.2
 | .v τ :: l, g, acc => ∀ x, KOkO P f l (g x) (acc ++ [.val ⟨τ, x⟩])
 | .r τ :: l, g, acc => ∀ x, KOkO P f l (g x) (acc ++ [.ref ⟨τ, x⟩])
 | .f :: l, g, acc => ∀ x, KOkO P f l (g x) (acc ++ [.fn x])
 | .c ps r :: l, g, acc => ∀ x, KOkO P f l (g x) (acc ++ [.clo ⟨ps, r, x⟩])
 | .o τ :: l, g, acc => ∀ x, KOkO P f l (g x) (acc ++ [.own ⟨τ, x⟩])
 | .b _ :: _, _, _ => True
theorem ok_of_KOkO {P : Program} {f : FuncId} : ∀ (l : List PK) (g : KT l) (acc zs : List Arg) (pre : Vc) (res : List TV), KOkO P f l g acc → kOf l g zs = some (pre, res) → pre.ok → OkOwn P f (acc ++ zs) res
 | [], g, acc, zs, pre, res, h, e, hp => by
  cases zs with
  | nil =>
   simp only [kOf, Option.some.injEq] at e
   have h' : g.down.1.ok → OkOwn P f acc g.down.2 := h
   rw [e] at h'
   rw [List.append_nil]
   exact h' hp
  | cons a zs => simp [kOf] at e
 | .v τ :: l, g, acc, zs, pre, res, h, e, hp => by
  cases zs with
  | nil => simp [kOf] at e
  | cons a zs =>
   cases a with
   | val a =>
    rw [kOf] at e
    split at e
    ·rename_i x hx
     have := ok_of_KOkO l (g x) (acc ++ [.val ⟨τ, x⟩]) zs pre res (h x) e hp
     rw [TV.as_some hx]
     simpa using this
    ·cases e
   | ref a => simp [kOf] at e
   | clo a => simp [kOf] at e
   | own a => simp [kOf] at e
   | fn a => simp [kOf] at e
   | box a => simp [kOf] at e
 | .r τ :: l, g, acc, zs, pre, res, h, e, hp => by
  cases zs with
  | nil => simp [kOf] at e
  | cons a zs =>
   cases a with
   | ref a =>
    rw [kOf] at e
    split at e
    ·rename_i x hx
     have := ok_of_KOkO l (g x) (acc ++ [.ref ⟨τ, x⟩]) zs pre res (h x) e hp
     rw [TV.as_some hx]
     simpa using this
    ·cases e
   | val a => simp [kOf] at e
   | clo a => simp [kOf] at e
   | own a => simp [kOf] at e
   | fn a => simp [kOf] at e
   | box a => simp [kOf] at e
 | .f :: l, g, acc, zs, pre, res, h, e, hp => by
  cases zs with
  | nil => simp [kOf] at e
  | cons a zs =>
   cases a with
   | fn a =>
    rw [kOf] at e
    have := ok_of_KOkO l (g a) (acc ++ [.fn a]) zs pre res (h a) e hp
    simpa using this
   | val a => simp [kOf] at e
   | clo a => simp [kOf] at e
   | own a => simp [kOf] at e
   | ref a => simp [kOf] at e
   | box a => simp [kOf] at e
 | .c ps r :: l, g, acc, zs, pre, res, h, e, hp => by
  cases zs with
  | nil => simp [kOf] at e
  | cons a zs =>
   cases a with
   | clo a =>
    rw [kOf] at e
    split at e
    ·rename_i x hx
     have := ok_of_KOkO l (g x) (acc ++ [.clo ⟨ps, r, x⟩]) zs pre res (h x) e hp
     rw [FV.as_some hx]
     simpa using this
    ·cases e
   | val a => simp [kOf] at e
   | ref a => simp [kOf] at e
   | fn a => simp [kOf] at e
   | own a => simp [kOf] at e
   | box a => simp [kOf] at e
 | .o τ :: l, g, acc, zs, pre, res, h, e, hp => by
  cases zs with
  | nil => simp [kOf] at e
  | cons a zs =>
   cases a with
   | own a =>
    rw [kOf] at e
    split at e
    ·rename_i x hx
     have := ok_of_KOkO l (g x) (acc ++ [.own ⟨τ, x⟩]) zs pre res (h x) e hp
     rw [TV.as_some hx]
     simpa using this
    ·cases e
   | val a => simp [kOf] at e
   | ref a => simp [kOf] at e
   | fn a => simp [kOf] at e
   | clo a => simp [kOf] at e
   | box a => simp [kOf] at e
 | .b k :: l, g, acc, zs, pre, res, h, e, hp => by
  cases zs <;> simp [kOf] at e
def Ctr.OGood (c : Ctr) : Prop := FnOk prog c.n ∧ KOkO prog c.n c.l c.g []
def AllO : List Ctr → Prop
 | [] => True
 | c :: r => c.OGood ∧ AllO r
theorem octrOf_ok : ∀ (l : List Ctr), AllO l → ∀ f args pre res, ctrOf l f args = some (pre, res) → pre.ok → FnOk prog f ∧ OkOwn prog f args res
 | [], _, f, args, pre, res, e, _ => by cases e
 | c :: r, h, f, args, pre, res, e, hp => by
  rw [ctrOf] at e
  split at e
  ·rename_i hb
   have hb := Nat.eq_of_beq_eq_true hb
   subst hb
   exact ⟨h.1.1, ok_of_KOkO c.l c.g [] args pre res h.1.2 e hp⟩
  ·exact octrOf_ok r h.2 f args pre res e hp
structure MK where
 n : Nat
 m : MCtr
def MK.Good (c : MK) : Prop := FnOk prog c.n ∧ OkMark prog c.n c.m
def AllM : List MK → Prop
 | [] => True
 | c :: r => c.Good ∧ AllM r
def markOf : List MK → Nat → Option MCtr
 | [], _ => none
 | c :: r, f => match Nat.beq c.n f with
  | true => some c.m
  | false => markOf r f
theorem markOf_ok : ∀ (l : List MK), AllM l → ∀ f m, markOf l f = some m → FnOk prog f ∧ OkMark prog f m
 | [], _, f, m, e => by cases e
 | c :: r, h, f, m, e => by
  rw [markOf] at e
  split at e
  ·rename_i hb
   have hb := Nat.eq_of_beq_eq_true hb
   subst hb
   cases e
   exact h.1
  ·exact markOf_ok r h.2 f m e
@[reducible] def KTC : List Ty → Type 1 → Type 1
 | [], R => R
 | t :: ts, R => t.den → KTC ts R
@[reducible] def KTD : List (List Ty) → Type 1
 | [] => ULift (Vc × List TV × List (List TV))
 | ts :: D => KTC ts (KTD D)
@[reducible] def KTS : List PK → List (List Ty) → Type 1
 | [], D => KTD D
 | .v τ :: l, D => τ.den → KTS l D
 | .r τ :: l, D => τ.den → KTS l D
 | .f :: l, D => FuncId → KTS l D
 | .b _ :: l, D => KTS l D
 | .c _ _ :: l, D => KTS l D
 | .o _ :: l, D => KTS l D
def kC : (ts : List Ty) → (R : Type 1) → KTC ts R → List TV → Option R
 | [], _, r, [] => some r
 | t :: ts, R, g, v :: vs => match v.as t with
  | some x => kC ts R (g x) vs
  | none => none
 | _, _, _, _ => none
def kD : (D : List (List Ty)) → KTD D → List (List TV) → Option (Vc × List TV × List (List TV))
 | [], r, [] => some r.down
 | ts :: D, g, vs :: dss => match kC ts (KTD D) g vs with
  | some h => kD D h dss
  | none => none
 | _, _, _ => none
def kS : (l : List PK) → (D : List (List Ty)) → KTS l D → List Arg → List (List TV) → Option (Vc × List TV × List (List TV))
 | [], D, g, [], dss => kD D g dss
 | .v τ :: l, D, g, .val a :: zs, dss => match a.as τ with
  | some x => kS l D (g x) zs dss
  | none => none
 | .r τ :: l, D, g, .ref a :: zs, dss => match a.as τ with
  | some x => kS l D (g x) zs dss
  | none => none
 | .f :: l, D, g, .fn a :: zs, dss => kS l D (g a) zs dss
 | .b k :: l, D, g, .box j :: zs, dss => match Nat.beq k j with
  | true => kS l D g zs dss
  | false => none
 | _, _, _, _, _ => none
def KOkC : (ts : List Ty) → (R : Type 1) → (R → List TV → Prop) → KTC ts R → List TV → Prop
 | [], _, p, r, acc => p r acc
 | t :: ts, R, p, g, acc => ∀ x, KOkC ts R p (g x) (acc ++ [⟨t, x⟩])
def KOkD (q : List (List TV) → Vc × List TV × List (List TV) → Prop) : (D : List (List Ty)) → KTD D → List (List TV) → Prop
 | [], r, acc => q acc r.down
 | ts :: D, g, acc => KOkC ts (KTD D) (fun h vs => KOkD q D h (acc ++ [vs])) g []
def KOkS (P : Program) (f : FuncId) (sh : List (List CK)) : (l : List PK) → (D : List (List Ty)) → KTS l D → List Arg → Prop
 | [], D, g, acc => KOkD (fun dss r => r.1.ok → OkSt P f sh acc dss r.2.1 r.2.2) D g []
 | .v τ :: l, D, g, acc => ∀ x, KOkS P f sh l D (g x) (acc ++ [.val ⟨τ, x⟩])
 | .r τ :: l, D, g, acc => ∀ x, KOkS P f sh l D (g x) (acc ++ [.ref ⟨τ, x⟩])
 | .f :: l, D, g, acc => ∀ x, KOkS P f sh l D (g x) (acc ++ [.fn x])
 | .b k :: l, D, g, acc => KOkS P f sh l D g (acc ++ [.box k])
 | .c _ _ :: _, _, _, _ => True
 | .o _ :: _, _, _, _ => True
theorem kC_ok : ∀ (ts : List Ty) (R : Type 1) (p : R → List TV → Prop) (g : KTC ts R) (acc vs : List TV) (r : R), KOkC ts R p g acc → kC ts R g vs = some r → p r (acc ++ vs)
 | [], R, p, g, acc, vs, r, h, e => by
  cases vs with
  | nil =>
   simp only [kC, Option.some.injEq] at e
   subst e
   rw [List.append_nil]
   exact h
  | cons v vs => simp [kC] at e
 | t :: ts, R, p, g, acc, vs, r, h, e => by
  cases vs with
  | nil => simp [kC] at e
  | cons v vs =>
   rw [kC] at e
   split at e
   ·rename_i x hx
    have := kC_ok ts R p (g x) (acc ++ [⟨t, x⟩]) vs r (h x) e
    rw [TV.as_some hx]
    simpa using this
   ·cases e
theorem kD_ok (q : List (List TV) → Vc × List TV × List (List TV) → Prop) : ∀ (D : List (List Ty)) (g : KTD D) (acc dss : List (List TV)) (r : Vc × List TV × List (List TV)), KOkD q D g acc → kD D g dss = some r → q (acc ++ dss) r
 | [], g, acc, dss, r, h, e => by
  cases dss with
  | nil =>
   simp only [kD, Option.some.injEq] at e
   subst e
   rw [List.append_nil]
   exact h
  | cons v vs => simp [kD] at e
 | ts :: D, g, acc, dss, r, h, e => by
  cases dss with
  | nil => simp [kD] at e
  | cons vs dss =>
   rw [kD] at e
   split at e
   ·rename_i k hk
    have h1 := kC_ok ts _ _ g [] vs k h hk
    have := kD_ok q D k (acc ++ [vs]) dss r (by simpa using h1) e
    simpa using this
   ·cases e
theorem kS_ok {P : Program} {f : FuncId} {sh : List (List CK)} : ∀ (l : List PK) (D : List (List Ty)) (g : KTS l D) (acc zs : List Arg) (dss : List (List TV)) (pre : Vc) (res : List TV) (dss' : List (List TV)), KOkS P f sh l D g acc → kS l D g zs dss = some (pre, res, dss') → pre.ok → OkSt P f sh (acc ++ zs) dss res dss'
 | [], D, g, acc, zs, dss, pre, res, dss', h, e, hp => by
  cases zs with
  | nil =>
   have := kD_ok _ D g [] dss _ h e
   simpa using this hp
  | cons z zs => simp [kS] at e
 | .v τ :: l, D, g, acc, zs, dss, pre, res, dss', h, e, hp => by
  cases zs with
  | nil => simp [kS] at e
  | cons a zs =>
   cases a with
   | val a =>
    rw [kS] at e
    split at e
    ·rename_i x hx
     have := kS_ok l D (g x) (acc ++ [.val ⟨τ, x⟩]) zs dss pre res dss' (h x) e hp
     rw [TV.as_some hx]
     simpa using this
    ·cases e
   | _ => simp [kS] at e
 | .r τ :: l, D, g, acc, zs, dss, pre, res, dss', h, e, hp => by
  cases zs with
  | nil => simp [kS] at e
  | cons a zs =>
   cases a with
   | ref a =>
    rw [kS] at e
    split at e
    ·rename_i x hx
     have := kS_ok l D (g x) (acc ++ [.ref ⟨τ, x⟩]) zs dss pre res dss' (h x) e hp
     rw [TV.as_some hx]
     simpa using this
    ·cases e
   | _ => simp [kS] at e
 | .f :: l, D, g, acc, zs, dss, pre, res, dss', h, e, hp => by
  cases zs with
  | nil => simp [kS] at e
  | cons a zs =>
   cases a with
   | fn a =>
    rw [kS] at e
    have := kS_ok l D (g a) (acc ++ [.fn a]) zs dss pre res dss' (h a) e hp
    simpa using this
   | _ => simp [kS] at e
 | .b k :: l, D, g, acc, zs, dss, pre, res, dss', h, e, hp => by
  cases zs with
  | nil => simp [kS] at e
  | cons a zs =>
   cases a with
   | box j =>
    rw [kS] at e
    split at e
    ·rename_i hb
     have hb := Nat.eq_of_beq_eq_true hb
     subst hb
     have := kS_ok l D g (acc ++ [.box k]) zs dss pre res dss' h e hp
     simpa using this
    ·cases e
   | _ => simp [kS] at e
 | .c _ _ :: l, D, g, acc, zs, dss, pre, res, dss', h, e, hp => by cases zs <;> simp [kS] at e
 | .o _ :: l, D, g, acc, zs, dss, pre, res, dss', h, e, hp => by cases zs <;> simp [kS] at e
structure SCt where
 n : Nat
 sh : List (List CK)
 l : List PK
 D : List (List Ty)
 g : KTS l D
def SCt.Good (c : SCt) : Prop := FnOk prog c.n ∧ KOkS prog c.n c.sh c.l c.D c.g []
def AllS : List SCt → Prop
 | [] => True
 | c :: r => c.Good ∧ AllS r
def psOf : List PK → List (Option Nat)
 | [] => []
 | .b k :: l => some k :: psOf l
 | _ :: l => none :: psOf l
def skOf : List SCt → Nat → Option SK
 | [], _ => none
 | c :: r, f => match Nat.beq c.n f with
  | true => some ⟨psOf c.l, c.sh⟩
  | false => skOf r f
def sctrOf : List SCt → Nat → List Arg → List (List TV) → Option (Vc × List TV × List (List TV))
 | [], _, _, _ => none
 | c :: r, f, zs, dss => match Nat.beq c.n f with
  | true => kS c.l c.D c.g zs dss
  | false => sctrOf r f zs dss
theorem sctrOf_ok : ∀ (l : List SCt), AllS l → ∀ f sk args dss pre res dss', skOf l f = some sk → sctrOf l f args dss = some (pre, res, dss') → pre.ok → FnOk prog f ∧ OkSt prog f sk.sh args dss res dss'
 | [], _, f, sk, args, dss, pre, res, dss', h, _, _ => by cases h
 | c :: r, h, f, sk, args, dss, pre, res, dss', hs, e, hp => by
  rw [skOf] at hs
  rw [sctrOf] at e
  split at e
  ·rename_i hb
   rw [hb] at hs
   have hb := Nat.eq_of_beq_eq_true hb
   subst hb
   simp only [Option.some.injEq] at hs
   subst hs
   exact ⟨h.1.1, by simpa using kS_ok c.l c.D c.g [] args dss pre res dss' h.1.2 e hp⟩
  ·rename_i hb
   rw [hb] at hs
   exact sctrOf_ok r h.2 f sk args dss pre res dss' hs e hp
def envO (l : List Ctr) (ol : List Ctr) (ml : List MK) (own wr : List Nat) (cl : List (Nat × CloK) := []) (ro : List Nat := []) (sl : List SCt := []) : Env := Env.mk tyTab ptyTab (ctrOf l) wr own (ctrOf ol) (markOf ml) (look cl) ro (tkOf ol) (skOf sl) (sctrOf sl) mtyTab
theorem envO_ok {l ol : List Ctr} {ml : List MK} {own wr : List Nat} {cl : List (Nat × CloK)} {ro : List Nat} {sl : List SCt} (h : AllGood l) (ho : AllO ol) (hm : AllM ml) (hs : AllS sl) : EnvOk prog (envO l ol ml own wr cl ro sl) where
 ty T τ b e ht := by
  have h1 := List.all_eq_true.mp (Bool.and_eq_true_iff.1 (tyTab_ok (ctrOf l) wr own (ctrOf ol) (markOf ml) (look cl) ro (tkOf ol) (skOf sl) (sctrOf sl))).1 _ (look_in _ _ _ ht)
  exact h1
 mty T κ ε ht := by
  have h1 := List.all_eq_true.mp (Bool.and_eq_true_iff.1 (tyTab_ok (ctrOf l) wr own (ctrOf ol) (markOf ml) (look cl) ro (tkOf ol) (skOf sl) (sctrOf sl))).2 _ (look_in _ _ _ ht)
  exact h1
 pty _ _ _ := trivial
 ctr := ctrOf_ok l h
 octr := octrOf_ok ol ho
 mark := markOf_ok ml hm
 sctr := sctrOf_ok sl hs
theorem ok_of_awpO {f : FuncId} {fn : Func} {code : Code} {l ol : List Ctr} {ml : List MK} {own wr : List Nat} {cl : List (Nat × CloK)} {ro : List Nat} {sl : List SCt} (hl : AllGood l) (ho : AllO ol) (hm : AllM ml) (hs : AllS sl) (hf : prog.funcs[f]? = some fn) (hb : fn.body = some code) (Λ : Nat → LoopInv) {args : List Arg} {res : List TV}
  (h : awp (envO l ol ml own wr cl ro sl) code Λ 0 (funPost (envO l ol ml own wr cl ro sl) fn fun r => areEq r res) (startState fn args)) : OkCall prog f args (· = res) :=
 (fn_sound (envO_ok hl ho hm hs) prog_mixed hf hb Λ h).mono fun _ => areEq_eq
theorem own_of_awp {f : FuncId} {fn : Func} {code : Code} {l ol : List Ctr} {ml : List MK} {own wr : List Nat} {cl : List (Nat × CloK)} {ro : List Nat} {sl : List SCt} (hl : AllGood l) (ho : AllO ol) (hm : AllM ml) (hs : AllS sl) (hf : prog.funcs[f]? = some fn) (hb : fn.body = some code) (Λ : Nat → LoopInv) {args : List Arg} {res : List TV}
  (h : awp (envO l ol ml own wr cl ro sl) code Λ 0 (ownPost (envO l ol ml own wr cl ro sl) fn fun r => areEq r res) (startO fn args)) : OkOwn prog f args res :=
 fn_own_sound (envO_ok hl ho hm hs) prog_mixed hf hb Λ (fun _ => areEq_eq) h
theorem mark_of_awp {f : FuncId} {fn : Func} {code : Code} {l ol : List Ctr} {ml : List MK} {own wr : List Nat} {cl : List (Nat × CloK)} {ro : List Nat} {sl : List SCt} (hl : AllGood l) (ho : AllO ol) (hm : AllM ml) (hs : AllS sl) (hf : prog.funcs[f]? = some fn) (hb : fn.body = some code) {m : MCtr} (Λ : m.τ.den → Int → Nat → LoopInv) (hcells : ∀ x : m.τ.den, (TV.cells ⟨m.τ, x⟩).length ≤ 50) (hn : 2 ≤ fn.ntmps)
  (h : ∀ (x : m.τ.den) (k : Int), (m.g x k).1.ok → inI64 k → awp (envO l ol ml own wr cl ro sl) code (Λ x k) 0 (markPost fn m x k) (markStart fn ⟨m.τ, x⟩ k)) : OkMark prog f m :=
 fn_mark_sound (envO_ok hl ho hm hs) prog_mixed hf hb Λ hcells hn h
end Go.Proofs.YtkogipcdjalehaaDoor

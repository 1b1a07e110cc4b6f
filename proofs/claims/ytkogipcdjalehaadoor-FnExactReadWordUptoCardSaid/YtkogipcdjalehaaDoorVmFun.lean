/- A whole function: what its abstract run yields, a call of it yields. -/
import Derived.Test.YtkogipcdjalehaaDoorVmCode
set_option linter.unusedVariables false
set_option linter.unusedSimpArgs false
namespace Go.Proofs.YtkogipcdjalehaaDoor
theorem All2.replicate {α β : Type} {R : α → β → Prop} {a : α} {b : β} (hab : R a b) : ∀ n : Nat, All2 R (List.replicate n a) (List.replicate n b)
 | 0 => trivial
 | n + 1 => ⟨hab, All2.replicate hab n⟩
theorem All2.append_replicate {α β : Type} {R : α → β → Prop} {as : List α} {bs : List β} (h : All2 R as bs) {a : α} {b : β} (hab : R a b) (n : Nat) : All2 R (as ++ List.replicate n a) (bs ++ List.replicate n b) :=
 h.append (All2.replicate hab n)
theorem All2.getD {α β : Type} {R : α → β → Prop} {d : α} {e : β} (hde : R d e) : ∀ {as : List α} {bs : List β}, All2 R as bs → ∀ i : Nat, R (as.getD i d) (bs.getD i e)
 | [], [], _, i => by simpa using hde
 | a :: as, b :: bs, h, 0 => h.1
 | a :: as, b :: bs, h, i + 1 => by simpa using All2.getD hde h.2 i
 | [], _ :: _, h, _ => h.elim
 | _ :: _, [], h, _ => h.elim
section
variable {P : Program} {E : Env}
def ArgS (P : Program) (w : World) (S : Nat → Prop) : Arg → Value → Prop
 | .own _, _ => True
 | .box _, _ => True
 | a, x => ArgR P w S a x
theorem start_invX {w : World} {S X : Nat → Prop} (hS : ∀ b, S b → b < w.heap.size) (hX : ∀ b, X b → b < w.heap.size ∧ ¬ S b) {fn : Func} {args : List Arg} {vals : List Value} (ha : All2 (ArgS P w S) args vals) (hsol : (∀ b, ¬ X b) ∨ ∀ a ∈ args, a.solid = true) :
  Inv ⟨P, E, w, X, S, fun _ => none, fun _ => False, fun _ => none⟩ ⟨S, fun _ => undef, fun _ => []⟩ (startState fn args) { tmps := vals.toArray ++ Array.replicate (fn.ntmps - vals.toArray.size) undef, defers := [] } w := by
 have hlen := ha.length
 have hslot : ∀ v x, v ∈ args → ArgS P w S v x → VR ⟨P, E, w, X, S, fun _ => none, fun _ => False, fun _ => none⟩ ⟨S, fun _ => undef, fun _ => []⟩ (startState fn args).look w (argAV v) x := by
  intro v x hm h
  cases v with
  | val v => exact h
  | ref v =>
   obtain ⟨b, o, cs, h1, h2, h3, h4⟩ := h
   exact ⟨b, o, cs, h1, .inr ⟨h2, hsol.elim (fun q => ⟨q b, fun z => z⟩) fun q => absurd (q _ hm) (by simp [Arg.solid])⟩, h3, h4⟩
  | fn f => exact h
  | clo v =>
   obtain ⟨f, caps, l, h1, h2, h3⟩ := h
   refine ⟨f, caps, l, h1, h2, h3.imp fun u y _ hy => ?_⟩
   cases u with
   | val v => exact hy
   | ref v =>
    obtain ⟨b, o, cs, k1, k2, k3, k4⟩ := hy
    exact ⟨b, o, cs, k1, .inr ⟨k2, hsol.elim (fun q => ⟨q b, fun z => z⟩) fun q => absurd (q _ hm) (by simp [Arg.solid])⟩, k3, k4⟩
   | fn f => exact hy
   | clo v => exact hy.elim
   | own v => exact hy.elim
   | box k => exact hy.elim
  | own v => trivial
  | box k => trivial
 exact {
  defers := rfl
  size := by simp [startState, hlen]
  keep := Keeps.refl _ _
  xLt := fun b h => (hX b h).1
  sOld := fun b _ _ => Iff.rfl
  sX := fun b hs => hs
  sLt := hS
  slots := fun i => by
   have h1 : All2 (fun v x => VR ⟨P, E, w, X, S, fun _ => none, fun _ => False, fun _ => none⟩ ⟨S, fun _ => undef, fun _ => []⟩ (startState fn args).look w v x) (args.map argAV) vals := All2.map_left _ (ha.imp fun v x hm h => hslot v x hm h)
   have h2 := All2.getD (d := AV.any) (e := undef) (show VR ⟨P, E, w, X, S, fun _ => none, fun _ => False, fun _ => none⟩ ⟨S, fun _ => undef, fun _ => []⟩ (startState fn args).look w .any undef from trivial) (h1.append_replicate (a := AV.any) (b := undef) (show VR ⟨P, E, w, X, S, fun _ => none, fun _ => False, fun _ => none⟩ ⟨S, fun _ => undef, fun _ => []⟩ (startState fn args).look w .any undef from trivial) (fn.ntmps - args.length)) i
   have e1 : (startState fn args).sl i = (args.map argAV ++ List.replicate (fn.ntmps - args.length) AV.any).getD i AV.any := rfl
   have e2 : (vals.toArray ++ Array.replicate (fn.ntmps - vals.toArray.size) undef).getD i undef = (vals ++ List.replicate (fn.ntmps - args.length) undef).getD i undef := by
    rw [Array.getD_eq_getD_getElem?, List.getD_eq_getElem?_getD, ← Array.getElem?_toList]
    simp [hlen]
   rw [e1, e2]
   exact h2
  objs := fun id o h => by cases h
  place := fun id o b h => by cases h
  apart := fun id id' o o' b h => by cases h
  trees := ⟨(fun id τ xs h => by cases h), (fun id τ xs h => by cases h), (fun id τ xs b h => by cases h), (fun id id' τ τ' xs xs' b h => by cases h)⟩
  root := fun id v h => by cases h
  rng := fun id v h => by cases h
  rootB := fun id v h => by cases h
  rngB := fun id v h => by cases h }
theorem start_inv {w : World} {S : Nat → Prop} (hS : ∀ b, S b → b < w.heap.size) {fn : Func} {args : List Arg} {vals : List Value} (ha : All2 (ArgR P w S) args vals) :
  Inv ⟨P, E, w, fun _ => False, S, fun _ => none, fun _ => False, fun _ => none⟩ ⟨S, fun _ => undef, fun _ => []⟩ (startState fn args) { tmps := vals.toArray ++ Array.replicate (fn.ntmps - vals.toArray.size) undef, defers := [] } w :=
 start_invX hS (fun _ h => h.elim) (ha.imp fun v x _ h => by
  cases v with
  | own v => trivial
  | box k => exact h.elim
  | _ => exact h) (.inl fun _ h => h)
def resultOf (tmps : Array Value) : ResultVar → Sem Value
 | .tmp t => pure (tmps.getD t undef)
 | .cell a t => do loadVar t (← asAddr (tmps.getD a undef))
theorem results_eq (fn : Func) (tmps : Array Value) : results fn tmps = (do
  let vs ← fn.results.mapM (resultOf tmps)
  pure (if h : vs.size = 1 then vs[0] else .tuple vs)) := by
 unfold results
 congr 1
theorem results_run (hE : EnvOk P E) {c : Ctx} (hcP : c.P = P) (hcE : c.E = E) {G : Gh} {s : AState} {a : Act} {w : World} (h : Inv c G s a w) : ∀ {rs : List ResultVar} {Ts : List TypeId} {vs : List TV}, resOf E s rs Ts = some vs →
  ∃ xs, (rs.mapM (resultOf a.tmps)).run P w = .ok xs w ∧ All2 (RdV w (SX G s.look)) vs xs
 | [], [], vs, hr => by
  simp only [resOf, Option.some.injEq] at hr
  subst hr
  exact ⟨[], by simp, trivial⟩
 | r :: rs, T :: Ts, vs, hr => by
  simp only [resOf] at hr
  split at hr
  ·rename_i τ q hT
   split at hr
   ·rename_i x hx
    split at hr
    ·rename_i l hl
     simp only [Option.some.injEq] at hr
     subst hr
     obtain ⟨xs, h1, h2⟩ := results_run hE hcP hcE h hl
     cases r with
     | tmp t =>
      refine ⟨a.tmps.getD t undef :: xs, by simp [List.mapM_cons, resultOf, h1], asT_rd h.trees h.objs (noTr_le fun _ _ h => h) hx (eval_sound h (.tmp t)), h2⟩
     | cell p t =>
      simp only at hx
      split at hx
      ·rename_i hb
       have hb := Nat.eq_of_beq_eq_true hb
       subst hb
       unfold deref at hx
       split at hx
       ·rename_i u hu
        obtain ⟨b, o, cs, k1, k2, k3, k4⟩ := loadAV_spec h.objs (noTr_le fun _ _ h => h) hu (eval_sound h (.tmp p))
        have hrun := run_loadAt hE hT k2 k3
        have k1' : a.tmps.getD p undef = .pointer (some ⟨b, o, none⟩) := k1
        refine ⟨mkV τ cs :: xs, ?_, asT_rd h.trees h.objs (noTr_le fun _ _ h => h) hx k4, h2⟩
        simp only [Instr.loadAt, Instr.sureAddr, Sem.run_bind, Sem.run_pure, Result.andThen_ok] at hrun
        simp only [List.mapM_cons, resultOf, k1', asAddr, Sem.run_bind, Sem.run_pure, Result.andThen_ok, hrun, h1]
       ·cases hx
      ·cases hx
    ·cases hr
   ·cases hr
  ·cases hr
 | [], _ :: _, _, hr => by cases hr
 | _ :: _, [], _, hr => by cases hr
theorem resR_of {w : World} {S : Nat → Prop} : ∀ {vs : List TV} {xs : List Value}, All2 (RdV w S) vs xs → ResR w S vs (if h : xs.toArray.size = 1 then xs.toArray[0] else .tuple xs.toArray)
 | [], [], _ => ⟨[], by simp, trivial⟩
 | [v], [x], h => by simpa [ResR] using h.1
 | v :: u :: r, x :: y :: z, h => ⟨x :: y :: z, by simp, h⟩
 | [], _ :: _, h => h.elim
 | _ :: _, [], h => h.elim
 | [_], _ :: _ :: _, h => h.2.elim
 | _ :: _ :: _, [_], h => h.2.elim
theorem fn_sound (hE : EnvOk P E) (hmix : P.follows .mixedOrders = true) {f : FuncId} {fn : Func} {code : Code} (hf : P.funcs[f]? = some fn) (hb : fn.body = some code) (Λ : Nat → LoopInv) {args : List Arg} {post : List TV → Prop}
  (h : awp E code Λ 0 (funPost E fn post) (startState fn args)) : OkCall P f args post := by
 intro w S vals hS ha
 refine calls_of_wp hf hb ?_
 have hinv := start_inv (P := P) (E := E) (fn := fn) hS ha
 refine wp_mono (awp_sound (c := ⟨P, E, w, fun _ => False, S, fun _ => none, fun _ => False, fun _ => none⟩) hE hmix code Λ 0 _ _ _ _ w hinv h) ?_
 have fin : ∀ (e : Exit) (a : Act) (w' : World), (e = .normal ∨ e = .ret) → (∃ G s, Inv ⟨P, E, w, fun _ => False, S, fun _ => none, fun _ => False, fun _ => none⟩ G s a w' ∧ funPost E fn post e s) →
   a.defers = [] ∧ ∃ v, (results fn a.tmps).run P w' = .ok v w' ∧ ∃ x S' res, Ending.returned v = .returned x ∧ post res ∧ Keeps (fun _ => False) w w' ∧ (∀ b, b < w.heap.size → (S' b ↔ S b)) ∧ (∀ b, S' b → b < w'.heap.size) ∧ ResR w' S' res x := by
  rintro e a w' he ⟨G, s, hI, hp⟩
  have hp' : ∃ vs, resOf E s fn.results.toList fn.resultTypes.toList = some vs ∧ post vs := by
   rcases he with rfl | rfl <;>
   ·simp only [funPost] at hp
    split at hp
    ·rename_i vs hvs
     exact ⟨vs, hvs, hp⟩
    ·exact hp.elim
  obtain ⟨vs, hvs, hpost⟩ := hp'
  obtain ⟨xs, h1, h2⟩ := results_run hE (c := ⟨P, E, w, fun _ => False, S, fun _ => none, fun _ => False, fun _ => none⟩) rfl rfl hI hvs
  refine ⟨hI.defers, (if h : xs.toArray.size = 1 then xs.toArray[0] else .tuple xs.toArray), ?_, _, SX G s.look, vs, rfl, hpost, hI.keep, fun b hb => ?_, fun b hb => ?_, resR_of h2⟩
  ·rw [results_eq, Array.mapM_eq_mapM_toList]
   simp only [Sem.run_bind, Sem.run_map, h1]
   rfl
  ·constructor
   ·rintro (hs | ⟨id, e', τ, ys, hid, hbb⟩ | ⟨id, τ, ys, hid, hbb⟩)
    ·exact (hI.sOld b hb (fun q => q)).1 hs
    ·rcases (hI.place id _ b hid hbb).1 with hge | hx
     ·have : w.heap.size ≤ b := hge
      omega
     ·exact hx.elim
    ·rcases (hI.trees.pl id _ _ b hid hbb).1 with hge | hx
     ·have : w.heap.size ≤ b := hge
      omega
     ·exact hx.elim
   ·exact fun hs => .inl ((hI.sOld b hb (fun q => q)).2 hs)
  ·rcases hb with hs | ⟨id, e', τ, ys, hid, hbb⟩ | ⟨id, τ, ys, hid, hbb⟩
   ·exact hI.sLt b hs
   ·exact (hI.place id _ b hid hbb).2.2
   ·exact (hI.trees.pl id _ _ b hid hbb).2.2.1
 intro e a w' hq
 cases e with
 | normal => exact fin .normal a w' (.inl rfl) hq
 | ret => exact fin .ret a w' (.inr rfl) hq
 | exit i => obtain ⟨_, _, _, hp⟩ := hq; exact hp.elim
 | goto l => obtain ⟨_, _, _, hp⟩ := hq; exact hp.elim
 | panic ch => obtain ⟨_, _, _, hp⟩ := hq; exact hp.elim
 | outgrown => obtain ⟨_, _, _, hp⟩ := hq; exact hp.elim
end
end Go.Proofs.YtkogipcdjalehaaDoor

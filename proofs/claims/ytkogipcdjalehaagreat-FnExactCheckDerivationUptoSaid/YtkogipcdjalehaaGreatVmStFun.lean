/- A whole function that is handed variables by their pointers. -/
import Derived.Test.YtkogipcdjalehaaGreatVmOwnFun
set_option linter.unusedVariables false
set_option linter.unusedSimpArgs false
namespace Go.Proofs.YtkogipcdjalehaaGreat
def inCells : List CK → List TV → Nat → List AV
 | .d _ :: ks, v :: ds, n => .imm v :: inCells ks ds n
 | .o _ :: ks, v :: ds, n => ownCell n v :: inCells ks ds (n + 1)
 | .p j :: ks, ds, n => .ptr (400000 + j) 0 :: inCells ks ds n
 | _, _, _ => []
def inBoxes : Nat → List (List CK) → List (List TV) → Nat → List (Nat × AObj)
 | k, ks :: sh, ds :: dss, n => (400000 + k, .box (inCells ks ds n)) :: inBoxes (k + 1) sh dss (n + (ownsOf ks ds).length)
 | _, _, _, _ => []
def inOwns : List (List CK) → List (List TV) → List TV
 | ks :: sh, ds :: dss => ownsOf ks ds ++ inOwns sh dss
 | _, _ => []
def argSt : Arg → AV
 | .box k => .ptr (400000 + k) 0
 | a => argAV a
def startSt (fn : Func) (args : List Arg) (sh : List (List CK)) (dss : List (List TV)) : AState :=
 { slots := args.map argSt ++ List.replicate (fn.ntmps - args.length) .any, objs := inBoxes 0 sh dss 1000000 ++ ownObjs 1000000 (inOwns sh dss) }
def idM (n : Nat) : List (Nat × Nat) := (List.range n).map fun k => (k, 400000 + k)
def stPost (E : Env) (fn : Func) (sh : List (List CK)) (post : List TV → List (List TV) → Prop) (e : Exit) (s : AState) : Prop :=
 match e with
 | .ret | .normal => match takeRes E s fn.results.toList fn.resultTypes.toList with
  | some (vs, ids) => match takeBoxes s.look sh 0 (idM sh.length) with
   | some (dss, ids', m) => match nodupB (ids ++ ids') && Nat.beq m.length sh.length with
    | true => post vs dss
    | false => False
   | none => False
  | none => False
 | _ => False
theorem look_idM : ∀ (n : Nat) (k : Nat), look (idM n) k = if k < n then some (400000 + k) else none := by
 intro n k
 have key : ∀ (l : List Nat), l.Nodup → look (l.map fun k => (k, 400000 + k)) k = if k ∈ l then some (400000 + k) else none := by
  intro l
  induction l with
  | nil => intro _; rfl
  | cons j l ih =>
   intro hn
   simp only [List.nodup_cons] at hn
   rw [List.map_cons, look_consN, ih hn.2]
   by_cases hk : k = j
   ·subst hk; simp
   ·simp [hk]
 rw [idM, key _ List.nodup_range]
 simp
section
variable {P : Program} {E : Env}
theorem boxes_in {w : World} {S : Nat → Prop} {B : Nat → Nat} : ∀ {sh : List (List CK)} {k : Nat} {dss : List (List TV)} {n : Nat} {fa : List Nat}, BoxesR w S B k sh dss fa →
  ∃ xs, OwAgg w ((inOwns sh dss).map TV.toD) xs fa ∧ (∀ u ∈ inOwns sh dss, u.τ.agg = false) ∧
   ∀ p ∈ inBoxes k sh dss n, ∃ j cs l t, p = (400000 + j, .box cs) ∧ k ≤ j ∧ j < k + sh.length ∧ w.heap[B j]? = some (.cells l.toArray t (0, 0)) ∧ l.length = cs.length ∧
    ∀ (c : Ctx) (G : Gh) (lk : Nat → Option AObj) (N : Nat), (∀ b, S b → G.S b) → (∀ j, j < N → G.η (400000 + j) = .pointer (some ⟨B j, 0, none⟩) ∧ isBox (lk (400000 + j)) = true) → (∀ ks ∈ sh, ∀ j, CK.p j ∈ ks → j < N) →
     All2 (C1 c G lk w) (ownCells n (inOwns sh dss)) xs → All2 (C1 c G lk w) cs l
 | [], k, [], n, fa, h => ⟨[], ⟨rfl, h⟩, by simp [inOwns], by simp [inBoxes]⟩
 | ks :: sh, k, ds :: dss, n, fa, h => by
  obtain ⟨l, t, f1, f2, rfl, hw, hB, hbs⟩ := h
  obtain ⟨xs, q1, q2, q3⟩ := boxes_in (n := n + (ownsOf ks ds).length) hbs
  obtain ⟨o1, o2, o3⟩ := hB.owns
  have hlen : ∀ (us : List TV) (n : Nat), (ownCells n us).length = us.length := fun us => by
   induction us with
   | nil => intro n; rfl
   | cons u us ih => intro n; simp [ownCells, ih]
  have hcl : ∀ {ks : List CK} {ds : List TV} {l : List Value} {fp : List Nat} {n : Nat}, BoxR w S B ks ds l fp → l.length = (inCells ks ds n).length := by
   intro ks
   induction ks with
   | nil => intro ds l fp n h; cases ds <;> cases l <;> first | rfl | cases h
   | cons k0 ks ih =>
    intro ds l fp n h
    cases l with
    | nil => cases k0 <;> cases ds <;> cases h
    | cons x l =>
     cases k0 with
     | d τ =>
      cases ds with
      | nil => cases h
      | cons v ds => simp [inCells, ih h.2 (n := n)]
     | o τ =>
      cases ds with
      | nil => cases h
      | cons v ds => obtain ⟨_, _, _, _, h2⟩ := h; simp [inCells, ih h2 (n := n + 1)]
     | p j =>
      have h : x = .pointer (some ⟨B j, 0, none⟩) ∧ BoxR w S B ks ds l fp := by cases ds <;> exact h
      simp [inCells, ih h.2 (n := n)]
  have hc1 : ∀ (c : Ctx) (G : Gh) (lk : Nat → Option AObj) (N : Nat), (∀ b, S b → G.S b) → (∀ j, j < N → G.η (400000 + j) = .pointer (some ⟨B j, 0, none⟩) ∧ isBox (lk (400000 + j)) = true) →
    ∀ {ks : List CK} {ds : List TV} {l : List Value} {fp : List Nat} {n : Nat}, BoxR w S B ks ds l fp → (∀ j, CK.p j ∈ ks → j < N) → All2 (C1 c G lk w) (ownCells n (ownsOf ks ds)) (ownXs ks l) → All2 (C1 c G lk w) (inCells ks ds n) l := by
   intro c G lk N hS hN ks
   induction ks with
   | nil => intro ds l fp n h _ _; cases ds <;> cases l <;> first | exact trivial | cases h
   | cons k0 ks ih =>
    intro ds l fp n h hp hc
    cases l with
    | nil => cases k0 <;> cases ds <;> cases h
    | cons x l =>
     cases k0 with
     | d τ =>
      cases ds with
      | nil => cases h
      | cons v ds =>
       obtain ⟨⟨e, h1, h2⟩, h3⟩ := h
       exact ⟨⟨by rw [e]; exact h1, Rd.keep hS (fun _ _ => rfl) _ h2⟩, ih h3 (fun j hj => hp j (by simp [hj])) hc⟩
     | o τ =>
      cases ds with
      | nil => cases h
      | cons v ds =>
       obtain ⟨_, _, _, _, h2⟩ := h
       exact ⟨hc.1, ih h2 (fun j hj => hp j (by simp [hj])) hc.2⟩
     | p j =>
      have h : x = .pointer (some ⟨B j, 0, none⟩) ∧ BoxR w S B ks ds l fp := by cases ds <;> exact h
      have hc : All2 (C1 c G lk w) (ownCells n (ownsOf ks ds)) (ownXs ks l) := by cases ds <;> exact hc
      obtain ⟨g1, g2⟩ := hN j (hp j (by simp))
      have r := ih h.2 (fun j hj => hp j (by simp [hj])) hc
      show All2 _ (AV.ptr (400000 + j) 0 :: inCells ks ds n) (x :: l)
      exact ⟨⟨B j, g1, h.1, g2⟩, r⟩
  refine ⟨ownXs ks l ++ xs, by rw [inOwns, List.map_append]; exact o1.append q1, fun u hu => (List.mem_append.1 hu).elim (o2 u) (q2 u), fun p hp => ?_⟩
  have hsplit : ∀ {c : Ctx} {G' : Gh} {lk' : Nat → Option AObj}, All2 (C1 c G' lk' w) (ownCells n (inOwns (ks :: sh) (ds :: dss))) (ownXs ks l ++ xs) → All2 (C1 c G' lk' w) (ownCells n (ownsOf ks ds)) (ownXs ks l) ∧ All2 (C1 c G' lk' w) (ownCells (n + (ownsOf ks ds).length) (inOwns sh dss)) xs := fun {c G' lk'} q => by
   rw [inOwns, ownCells_append] at q
   have hl : (ownCells n (ownsOf ks ds)).length = (ownXs ks l).length := by rw [← o3]; exact hlen _ _
   have h1 := q.take (ownCells n (ownsOf ks ds)).length
   have h2 := q.drop (ownCells n (ownsOf ks ds)).length
   rw [List.take_left, hl, List.take_left] at h1
   rw [List.drop_left, hl, List.drop_left] at h2
   exact ⟨h1, h2⟩
  rcases List.mem_cons.1 hp with rfl | hp
  ·exact ⟨k, inCells ks ds n, l, t, rfl, Nat.le_refl _, by simp, hw, hcl hB, fun c G lk N h1 h2 h3 h4 => hc1 c G lk N h1 h2 hB (h3 ks (by simp)) (hsplit h4).1⟩
  ·obtain ⟨j, cs, l', t', g1, g2, g3, g4, g5, g6⟩ := q3 p hp
   exact ⟨j, cs, l', t', g1, by omega, by simp; omega, g4, g5, fun c G lk N h1 h2 h3 h4 => g6 c G lk N h1 h2 (fun ks' hk => h3 ks' (by simp [hk])) (hsplit h4).2⟩
 | [], _, _ :: _, _, _, h => h.elim
 | _ :: _, _, [], _, _, h => h.elim
def shOk (sh : List (List CK)) : Bool := Nat.blt sh.length 1000 && sh.all fun ks => ks.all fun c => match c with
 | .p j => Nat.blt j sh.length
 | _ => true
theorem shOk_spec {sh : List (List CK)} (h : shOk sh = true) : ∀ ks ∈ sh, ∀ j, CK.p j ∈ ks → j < sh.length := fun ks hk j hj => by
 unfold shOk at h
 rw [Bool.and_eq_true] at h
 obtain ⟨_, h⟩ := h
 rw [List.all_eq_true] at h
 have h2 := h ks hk
 rw [List.all_eq_true] at h2
 exact Nat.le_of_ble_eq_true (h2 _ hj)
theorem BoxR.congr {w : World} {S : Nat → Prop} {B B' : Nat → Nat} {N : Nat} (hB : ∀ j, j < N → B j = B' j) : ∀ {ks : List CK} {ds : List TV} {l : List Value} {fp : List Nat}, (∀ j, CK.p j ∈ ks → j < N) → BoxR w S B ks ds l fp → BoxR w S B' ks ds l fp := by
 intro ks
 induction ks with
 | nil => intro ds l fp _ h; cases ds <;> cases l <;> exact h
 | cons k0 ks ih =>
  intro ds l fp hp h
  cases l with
  | nil => cases k0 <;> cases ds <;> cases h
  | cons x l =>
   cases k0 with
   | d τ =>
    cases ds with
    | nil => cases h
    | cons v ds => exact ⟨h.1, ih (fun j hj => hp j (by simp [hj])) h.2⟩
   | o τ =>
    cases ds with
    | nil => cases h
    | cons v ds =>
     obtain ⟨f1, f2, e, h1, h2⟩ := h
     exact ⟨f1, f2, e, h1, ih (fun j hj => hp j (by simp [hj])) h2⟩
   | p j =>
    have h : x = .pointer (some ⟨B j, 0, none⟩) ∧ BoxR w S B ks ds l fp := by cases ds <;> exact h
    have r := ih (fun j hj => hp j (by simp [hj])) h.2
    have e : x = .pointer (some ⟨B' j, 0, none⟩) := by rw [h.1, hB j (hp j (by simp))]
    cases ds <;> exact ⟨e, r⟩
theorem BoxesR.congr {w : World} {S : Nat → Prop} {B B' : Nat → Nat} {N : Nat} (hB : ∀ j, j < N → B j = B' j) : ∀ {sh : List (List CK)} {k : Nat} {dss : List (List TV)} {fa : List Nat}, k + sh.length ≤ N → (∀ ks ∈ sh, ∀ j, CK.p j ∈ ks → j < N) → BoxesR w S B k sh dss fa → BoxesR w S B' k sh dss fa
 | [], k, dss, fa, _, _, h => by cases dss <;> exact h
 | ks :: sh, k, [], fa, _, _, h => h.elim
 | ks :: sh, k, ds :: dss, fa, hk, hp, h => by
  obtain ⟨l, t, f1, f2, e, h1, h2, h3⟩ := h
  simp only [List.length_cons] at hk
  exact ⟨l, t, f1, f2, e, by rw [← hB k (by omega)]; exact h1, h2.congr hB (hp ks (by simp)), BoxesR.congr hB (by omega) (fun ks' hk' => hp ks' (by simp [hk'])) h3⟩
theorem inBoxes_look : ∀ {sh : List (List CK)} {k : Nat} {dss : List (List TV)} {n : Nat} {j : Nat}, sh.length = dss.length → k ≤ j → j < k + sh.length → ∃ cs, look (inBoxes k sh dss n) (400000 + j) = some (.box cs)
 | [], k, dss, n, j, _, h1, h2 => by simp at h2; omega
 | ks :: sh, k, [], n, j, hl, _, _ => by simp at hl
 | ks :: sh, k, ds :: dss, n, j, hl, h1, h2 => by
  rw [inBoxes, look_consN]
  by_cases hj : j = k
  ·subst hj; exact ⟨_, if_pos rfl⟩
  ·rw [if_neg (by omega)]
   exact inBoxes_look (by simpa using hl) (by omega) (by simp at h2; omega)
theorem BoxesR.len {w : World} {S : Nat → Prop} {B : Nat → Nat} : ∀ {sh : List (List CK)} {k : Nat} {dss : List (List TV)} {fa : List Nat}, BoxesR w S B k sh dss fa → sh.length = dss.length
 | [], _, [], _, _ => rfl
 | [], _, _ :: _, _, h => h.elim
 | _ :: _, _, [], _, h => h.elim
 | ks :: sh, k, ds :: dss, fa, h => by
  obtain ⟨l, t, f1, f2, e, h1, h2, h3⟩ := h
  simp [BoxesR.len h3]
theorem startSt_inv {w : World} {S : Nat → Prop} {B : Nat → Nat} {fn : Func} {args : List Arg} {vals : List Value} {sh : List (List CK)} {dss : List (List TV)} {fa : List Nat} (hsh : shOk sh = true) (hS : ∀ b, S b → b < w.heap.size) (hBR : BoxesR w S B 0 sh dss fa) (hfan : fa.Nodup)
  (hfa : ∀ b ∈ fa, b < w.heap.size ∧ ¬ S b ∧ ∀ k, k < sh.length → B k ≠ b) (hB : ∀ k, k < sh.length → B k < w.heap.size ∧ ¬ S (B k)) (hinj : ∀ j k, j < sh.length → k < sh.length → B j = B k → j = k) (ha : All2 (ArgB w S (BX sh.length B fa) B) args vals)
  (hbx : ∀ k, Arg.box k ∈ args → k < sh.length) :
  ∃ G, Inv ⟨P, E, w, BX sh.length B fa, S, fun _ => none, fun _ => False, fun id => if 400000 ≤ id ∧ id < 400000 + sh.length then some (B (id - 400000)) else none⟩ G (startSt fn args sh dss) { tmps := vals.toArray ++ Array.replicate (fn.ntmps - vals.toArray.size) undef, defers := [] } w := by
 have hlen := ha.length
 let c1 : Ctx := ⟨P, E, w, fun b => b ∈ fa, S, fun _ => none, fun _ => False, fun _ => none⟩
 have h0 : InvF c1 ⟨S, fun _ => undef, fun _ => []⟩ (fun _ => .any) (startSt fn args sh dss).slots.length (fun _ => none) { tmps := vals.toArray ++ Array.replicate (fn.ntmps - vals.toArray.size) undef, defers := [] } w := {
  defers := rfl
  size := by simp [startSt, hlen]
  keep := Keeps.refl _ _
  xLt := fun b h => (hfa b h).1
  sOld := fun b _ _ => Iff.rfl
  sX := fun b hs => hs
  sLt := hS
  slots := fun i => trivial
  objs := fun id o h => by cases h
  place := fun id o b h => by cases h
  apart := fun id id' o o' b h => by cases h
  trees := ⟨(fun id τ xs h => by cases h), (fun id τ xs h => by cases h), (fun id τ xs b h => by cases h), (fun id id' τ τ' xs xs' b h => by cases h)⟩
  root := fun id v h => by cases h
  rng := fun id v h => by cases h
  rootB := fun id v h => by cases h
  rngB := fun id v h => by cases h }
 obtain ⟨xs, o1, o2, o3⟩ := boxes_in (n := 1000000) hBR
 have hshl : sh.length < 1000 := by
  unfold shOk at hsh
  rw [Bool.and_eq_true] at hsh
  exact Nat.le_of_ble_eq_true hsh.1
 have hFr : Fr c1 ⟨S, fun _ => undef, fun _ => []⟩ (fun _ => none) w fa := fun b hb => ⟨.inr hb, (hfa b hb).2.1, (hfa b hb).1, (fun i o h => by cases h), (fun j τ xs h => by cases h)⟩
 obtain ⟨G1, lk1, k1, k2, k3, k4, _⟩ := h0.addCells (us := inOwns sh dss) (cs := xs) (id := 1000000) o2 o1 hfan hFr (fun p hp => rfl) ownObjs_nodup (fun j _ => rfl)
 have hlk1 : ∀ i o, lk1 i = some o → 1000000 ≤ i ∧ isTree (some o) = true := fun i o ho => by
  rw [k1 i] at ho
  unfold lkx at ho
  split at ho
  ·rename_i o' ho'
   simp only [Option.some.injEq] at ho
   subst ho
   refine ⟨(ownObjs_range (look_mem ho')).1, ?_⟩
   have : ∀ {us : List TV} {id : Nat} {p : Nat × AObj}, p ∈ ownObjs id us → isTree (some p.2) = true := by
    intro us
    induction us with
    | nil => intro id p hp; cases hp
    | cons u us ih =>
     intro id p hp
     rcases List.mem_append.1 hp with hp | hp
     ·obtain ⟨τ, y⟩ := u
      cases τ <;> simp [ownObj] at hp
      subst hp
      rfl
     ·exact ih hp
   exact this (look_mem ho')
  ·cases ho
 have hblk1 : ∀ i o, lk1 i = some o → blk (G1.η i) = none := fun i o ho => by
  obtain ⟨_, ht⟩ := hlk1 i o ho
  match o, ht with
  | .tree τ ys, _ =>
   obtain ⟨v, l, _, _, q, _⟩ := k2.trees.tr i τ ys ho
   rw [q]; rfl
 let G2 : Gh := ⟨S, fun i => if 400000 ≤ i ∧ i < 400000 + sh.length then .pointer (some ⟨B (i - 400000), 0, none⟩) else G1.η i, G1.φ⟩
 have hη2 : ∀ j, j < sh.length → G2.η (400000 + j) = .pointer (some ⟨B j, 0, none⟩) := fun j hj => by
  show (if 400000 ≤ 400000 + j ∧ 400000 + j < 400000 + sh.length then _ else _) = _
  rw [if_pos (by omega), Nat.add_sub_cancel_left]
 have hη1 : ∀ i, 1000000 ≤ i → G2.η i = G1.η i := fun i hi => if_neg (by omega)
 have hGS : G1.S = S := k3.S
 have hlook : (startSt fn args sh dss).look = fun i => match look (inBoxes 0 sh dss 1000000) i with
   | some o => some o
   | none => lk1 i := by
  funext i
  show look (inBoxes 0 sh dss 1000000 ++ ownObjs 1000000 (inOwns sh dss)) i = _
  rw [look_app]
  unfold lkx
  cases look (inBoxes 0 sh dss 1000000) i with
  | some o => rfl
  | none =>
   simp only
   rw [k1 i]
   unfold lkx
   cases look (ownObjs 1000000 (inOwns sh dss)) i <;> rfl
 have hbox : ∀ j, j < sh.length → ∃ cs, (startSt fn args sh dss).look (400000 + j) = some (.box cs) := fun j hj => by
  obtain ⟨cs, q⟩ := inBoxes_look (n := 1000000) hBR.len (Nat.zero_le j) (by simpa using hj)
  exact ⟨cs, by rw [hlook]; simp only [q]⟩
 have hcase : ∀ i o, (startSt fn args sh dss).look i = some o → (∃ j cs l t, i = 400000 + j ∧ j < sh.length ∧ o = .box cs ∧ w.heap[B j]? = some (.cells l.toArray t (0, 0)) ∧
   ∀ (c : Ctx) (G : Gh) (lk : Nat → Option AObj), (∀ b, S b → G.S b) → (∀ j, j < sh.length → G.η (400000 + j) = .pointer (some ⟨B j, 0, none⟩) ∧ isBox (lk (400000 + j)) = true) → All2 (C1 c G lk w) (ownCells 1000000 (inOwns sh dss)) xs → All2 (C1 c G lk w) cs l) ∨
   (lk1 i = some o ∧ 1000000 ≤ i) := fun i o ho => by
  rw [hlook] at ho
  simp only at ho
  cases hl : look (inBoxes 0 sh dss 1000000) i with
  | some o' =>
   rw [hl] at ho
   simp only [Option.some.injEq] at ho
   subst ho
   obtain ⟨j, cs, l, t, q1, _, q2, q3, _, q4⟩ := o3 _ (look_mem' hl)
   simp only [Prod.mk.injEq] at q1
   obtain ⟨rfl, rfl⟩ := q1
   exact .inl ⟨j, cs, l, t, rfl, by simpa using q2, rfl, q3, fun c G lk h1 h2 h3 => q4 c G lk sh.length h1 h2 (shOk_spec hsh) h3⟩
  | none =>
   rw [hl] at ho
   exact .inr ⟨ho, (hlk1 i o ho).1⟩
 have hsame : ∀ i, Same (lk1 i) ((startSt fn args sh dss).look i) := fun i => by
  cases hl : lk1 i with
  | none => exact ⟨(fun q => by cases q), (fun e τ xs q => by cases q), (fun q => by cases q), fun q => by cases q⟩
  | some o =>
   have := (hlk1 i o hl).1
   have hn : look (inBoxes 0 sh dss 1000000) i = none := look_noneN fun p hp e => by
    obtain ⟨j, cs, l, t, q1, _, q2, _⟩ := o3 p hp
    rw [q1] at e
    simp only at e
    omega
   rw [hlook]
   simp only [hn, hl]
   exact Same.refl _
 have hcells : All2 (C1 ⟨P, E, w, BX sh.length B fa, S, fun _ => none, fun _ => False, fun id => if 400000 ≤ id ∧ id < 400000 + sh.length then some (B (id - 400000)) else none⟩ G2 (startSt fn args sh dss).look w) (ownCells 1000000 (inOwns sh dss)) xs := by
  have : ∀ {us : List TV} {n : Nat} {xs : List Value}, 1000000 ≤ n → All2 (C1 c1 G1 lk1 w) (ownCells n us) xs → All2 (C1 ⟨P, E, w, BX sh.length B fa, S, fun _ => none, fun _ => False, fun id => if 400000 ≤ id ∧ id < 400000 + sh.length then some (B (id - 400000)) else none⟩ G2 (startSt fn args sh dss).look w) (ownCells n us) xs := by
   intro us
   induction us with
   | nil => intro n xs _ h; cases xs <;> exact h
   | cons u us ih =>
    intro n xs hn h
    cases xs with
    | nil => exact h.elim
    | cons x xs =>
     refine ⟨?_, ih (by omega) h.2⟩
     have h1 : C1 c1 G1 lk1 w (ownCell n u) x := h.1
     obtain ⟨τ, y⟩ := u
     have imm : C1 c1 G1 lk1 w (.imm ⟨τ, y⟩) x → C1 ⟨P, E, w, BX sh.length B fa, S, fun _ => none, fun _ => False, fun id => if 400000 ≤ id ∧ id < 400000 + sh.length then some (B (id - 400000)) else none⟩ G2 (startSt fn args sh dss).look w (.imm ⟨τ, y⟩) x := fun q => ⟨q.1, Rd.keep (fun b hb => by rw [hGS] at hb; exact hb) (fun _ _ => rfl) _ q.2⟩
     cases τ with
     | slice τ =>
      obtain ⟨g1, l, g2, g3⟩ := h1
      exact ⟨(hsame n).2.2.1 g1, l, by rw [hη1 n hn]; exact g2, g3⟩
     | mv τ => exact trivial
     | _ => exact imm h1
  exact this (Nat.le_refl _) k4
 have hN : ∀ j, j < sh.length → G2.η (400000 + j) = .pointer (some ⟨B j, 0, none⟩) ∧ isBox ((startSt fn args sh dss).look (400000 + j)) = true := fun j hj => by
  obtain ⟨cs, q⟩ := hbox j hj
  exact ⟨hη2 j hj, by rw [q]; rfl⟩
 have htree : ∀ i τ xs, (startSt fn args sh dss).look i = some (.tree τ xs) → lk1 i = some (.tree τ xs) ∧ 1000000 ≤ i := fun i τ ys hi => by
  rcases hcase i _ hi with ⟨_, _, _, _, _, _, q, _⟩ | q
  ·cases q
  ·exact q
 refine ⟨G2, ?_⟩
 exact {
  defers := rfl
  size := by simp [startSt, hlen]
  keep := Keeps.refl _ _
  xLt := fun b hb => hb.elim (fun q => (hfa b q).1) fun ⟨k, hk, e⟩ => by rw [e]; exact (hB k hk).1
  sOld := fun b _ _ => Iff.rfl
  sX := fun b hs => hs
  sLt := hS
  slots := fun i => by
   have hslot : ∀ v x, v ∈ args → ArgB w S (BX sh.length B fa) B v x → VR ⟨P, E, w, BX sh.length B fa, S, fun _ => none, fun _ => False, fun id => if 400000 ≤ id ∧ id < 400000 + sh.length then some (B (id - 400000)) else none⟩ G2 (startSt fn args sh dss).look w (argSt v) x := by
    intro v x hm h
    cases v with
    | val v => exact h
    | ref v =>
     obtain ⟨b, o, cs, h1, h2, h3, h4, h5⟩ := h
     exact ⟨b, o, cs, h1, .inr ⟨h2, h3, fun z => z⟩, h4, h5⟩
    | fn f => exact h
    | clo v => exact h.elim
    | own v => exact h.elim
    | box k =>
     obtain ⟨g1, g2⟩ := hN k (hbx k hm)
     exact ⟨B k, g1, h, g2⟩
   have h1 : All2 (fun v x => VR ⟨P, E, w, BX sh.length B fa, S, fun _ => none, fun _ => False, fun id => if 400000 ≤ id ∧ id < 400000 + sh.length then some (B (id - 400000)) else none⟩ G2 (startSt fn args sh dss).look w v x) (args.map argSt) vals := All2.map_left _ (ha.imp fun v x hm h => hslot v x hm h)
   have h2 := All2.getD (d := AV.any) (e := undef) (show VR ⟨P, E, w, BX sh.length B fa, S, fun _ => none, fun _ => False, fun id => if 400000 ≤ id ∧ id < 400000 + sh.length then some (B (id - 400000)) else none⟩ G2 (startSt fn args sh dss).look w .any undef from trivial) (h1.append_replicate (a := AV.any) (b := undef) (show VR ⟨P, E, w, BX sh.length B fa, S, fun _ => none, fun _ => False, fun id => if 400000 ≤ id ∧ id < 400000 + sh.length then some (B (id - 400000)) else none⟩ G2 (startSt fn args sh dss).look w .any undef from trivial) (fn.ntmps - args.length)) i
   have e1 : (startSt fn args sh dss).sl i = (args.map argSt ++ List.replicate (fn.ntmps - args.length) AV.any).getD i AV.any := rfl
   have e2 : (vals.toArray ++ Array.replicate (fn.ntmps - vals.toArray.size) undef).getD i undef = (vals ++ List.replicate (fn.ntmps - args.length) undef).getD i undef := by
    rw [Array.getD_eq_getD_getElem?, List.getD_eq_getElem?_getD, ← Array.getElem?_toList]
    simp [hlen]
   rw [e1]
   show VR _ _ _ _ _ ((vals.toArray ++ Array.replicate (fn.ntmps - vals.toArray.size) undef).getD i undef)
   rw [e2]
   exact h2
  objs := fun i o ho => by
   rcases hcase i o ho with ⟨j, cs, l, t, rfl, hj, rfl, q3, q4⟩ | ⟨q1, q2⟩
   ·exact ⟨B j, l, t, hη2 j hj, q3, q4 _ G2 _ (fun b hb => hb) hN hcells⟩
   ·have := (hlk1 i o q1).2
    match o, this with
    | .tree τ ys, _ => trivial
  place := fun i o b ho hb => by
   rcases hcase i o ho with ⟨j, cs, l, t, rfl, hj, rfl, q3, q4⟩ | ⟨q1, q2⟩
   ·rw [hη2 j hj] at hb
    simp only [blk, Option.some.injEq] at hb
    subst hb
    exact ⟨.inr (.inr ⟨j, hj, rfl⟩), (hB j hj).2, (hB j hj).1⟩
   ·rw [hη1 i q2, hblk1 i o q1] at hb
    cases hb
  apart := fun i i' o o' b ho ho' hb hb' => by
   rcases hcase i o ho with ⟨j, cs, l, t, rfl, hj, rfl, q3, q4⟩ | ⟨q1, q2⟩
   ·rcases hcase i' o' ho' with ⟨j', cs', l', t', rfl, hj', rfl, _, _⟩ | ⟨g1, g2⟩
    ·rw [hη2 j hj] at hb
     rw [hη2 j' hj'] at hb'
     simp only [blk, Option.some.injEq] at hb hb'
     rw [hinj j j' hj hj' (hb.trans hb'.symm)]
    ·rw [hη1 i' g2, hblk1 i' o' g1] at hb'
     cases hb'
   ·rw [hη1 i q2, hblk1 i o q1] at hb
    cases hb
  trees := {
   tr := fun i τ ys hi => by
    obtain ⟨q1, q2⟩ := htree i τ ys hi
    rw [hη1 i q2]
    exact k2.trees.tr i τ ys q1
   nd := fun i τ ys hi => k2.trees.nd i τ ys (htree i τ ys hi).1
   pl := fun i τ ys b hi hb => by
    obtain ⟨q1, q2⟩ := htree i τ ys hi
    obtain ⟨p1, p2, p3, p4⟩ := k2.trees.pl i τ ys b q1 hb
    have hbf : b ∈ fa := p1.elim (fun q => absurd p3 (Nat.not_lt.2 q)) id
    refine ⟨.inr (.inl hbf), (hfa b hbf).2.1, p3, fun i' o' ho' e => ?_⟩
    rcases hcase i' o' ho' with ⟨j, cs, l, t, rfl, hj, rfl, _, _⟩ | ⟨g1, g2⟩
    ·rw [hη2 j hj] at e
     simp only [blk, Option.some.injEq] at e
     exact (hfa b hbf).2.2 j hj e
    ·rw [hη1 i' g2, hblk1 i' o' g1] at e
     cases e
   ap := fun i i' τ τ' ys ys' b hi hi' => k2.trees.ap i i' τ τ' ys ys' b (htree i τ ys hi).1 (htree i' τ' ys' hi').1 }
  root := fun id v h => by cases h
  rng := fun id v h => by cases h
  rootB := fun id b hr ht => by
   simp only at hr
   split at hr
   ·rename_i hc
    simp only [Option.some.injEq] at hr
    show (if 400000 ≤ id ∧ id < 400000 + sh.length then _ else _) = _
    rw [if_pos hc, hr]
   ·cases hr
  rngB := fun id b hr => by
   simp only at hr
   split at hr
   ·rename_i hc; exact hc.1
   ·cases hr }
theorem fn_st_sound (hE : EnvOk P E) (hmix : P.follows .mixedOrders = true) {f : FuncId} {fn : Func} {code : Code} (hf : P.funcs[f]? = some fn) (hb : fn.body = some code) (Λ : Nat → LoopInv) {args : List Arg} {sh : List (List CK)} {dss : List (List TV)} {res : List TV} {dss' : List (List TV)} {post : List TV → List (List TV) → Prop}
  (hpost : ∀ vs ds, post vs ds → vs = res ∧ ds = dss') (hsh : shOk sh = true) (hbx : ∀ k, Arg.box k ∈ args → k < sh.length) (h : awp E code Λ 0 (stPost E fn sh post) (startSt fn args sh dss)) : OkSt P f sh args dss res dss' := by
 intro w S B vals fa hS hBR hfan hfa hB hinj ha
 refine calls_of_wp hf hb ?_
 obtain ⟨G0, hinv⟩ := startSt_inv (P := P) (E := E) (fn := fn) hsh hS hBR hfan hfa hB hinj ha hbx
 generalize hc : (⟨P, E, w, BX sh.length B fa, S, fun _ => none, fun _ => False, fun id => if 400000 ≤ id ∧ id < 400000 + sh.length then some (B (id - 400000)) else none⟩ : Ctx) = c at *
 have hcP : c.P = P := by rw [← hc]
 have hcE : c.E = E := by rw [← hc]
 have hcw : c.w0 = w := by rw [← hc]
 have hcX : c.X = BX sh.length B fa := by rw [← hc]
 have hcS : c.S0 = S := by rw [← hc]
 have hcB : ∀ j, j < sh.length → c.RB (400000 + j) = some (B j) := fun j hj => by
  rw [← hc]
  show (if 400000 ≤ 400000 + j ∧ 400000 + j < 400000 + sh.length then _ else _) = _
  rw [if_pos (by omega), Nat.add_sub_cancel_left]
 have hE' : EnvOk c.P c.E := by rw [hcP, hcE]; exact hE
 have hrun := awp_sound (c := c) hE' (by rw [hcP]; exact hmix) code Λ 0 (stPost E fn sh post) G0 (startSt fn args sh dss) _ w hinv (by rw [hcE]; exact h)
 rw [hcP] at hrun
 refine wp_mono hrun ?_
 have fin : ∀ (e : Exit) (a : Act) (w' : World), (e = .normal ∨ e = .ret) → (∃ G s, Inv c G s a w' ∧ stPost E fn sh post e s) →
   a.defers = [] ∧ ∃ v, (results fn a.tmps).run P w' = .ok v w' ∧ ∃ x S' fp fa', Ending.returned v = .returned x ∧ Keeps (BX sh.length B fa) w w' ∧ (∀ b, S b → S' b) ∧ (∀ b, S' b → b < w'.heap.size) ∧ (∀ b, b < w.heap.size → ¬ BX sh.length B fa b → (S' b ↔ S b)) ∧
    OwRes w' res x fp ∧ BoxesR w' S' B 0 sh dss' fa' ∧ (fp ++ fa').Nodup ∧ (∀ b ∈ fp ++ fa', (b ∈ fa ∨ (w.heap.size ≤ b ∧ b < w'.heap.size)) ∧ ¬ S' b ∧ ∀ k, k < sh.length → B k ≠ b) ∧ ∀ k, k < sh.length → ¬ S' (B k) := by
  rintro e a w' he ⟨G, s, hI, hp⟩
  have hp' : ∃ vs ids ds ids' m, takeRes E s fn.results.toList fn.resultTypes.toList = some (vs, ids) ∧ takeBoxes s.look sh 0 (idM sh.length) = some (ds, ids', m) ∧ (ids ++ ids').Nodup ∧ vs = res ∧ ds = dss' := by
   rcases he with rfl | rfl <;>
   ·simp only [stPost] at hp
    split at hp
    ·rename_i vs ids hvs
     split at hp
     ·rename_i ds ids' m hds
      split at hp
      ·rename_i hn
       rw [Bool.and_eq_true] at hn
       obtain ⟨q1, q2⟩ := hpost _ _ hp
       exact ⟨vs, ids, ds, ids', m, hvs, hds, nodupB_nodup hn.1, q1, q2⟩
      ·exact hp.elim
     ·exact hp.elim
    ·exact hp.elim
  obtain ⟨vs, ids, ds, ids', m, hvs, hds, hn, rfl, rfl⟩ := hp'
  rw [List.nodup_append] at hn
  obtain ⟨n1, n2, n3⟩ := hn
  obtain ⟨xs, fp, h1, h2, h3, h4⟩ := takeRes_run (P := P) (E := E) (c := c) hE' hcP hcE hI hvs n1
  obtain ⟨x0, hboxed, fa', hBR', hfan', hfa'⟩ := takeBoxes_spec hI hds n2
  have hbx2 : ∀ k, k < sh.length → ∃ cs, s.look (400000 + k) = some (.box cs) ∧ G.η (400000 + k) = .pointer (some ⟨B k, 0, none⟩) ∧ look m k = some (400000 + k) := fun k hk => by
   obtain ⟨id, cs, q1, q2⟩ := hboxed k (Nat.zero_le _) (by simpa using hk)
   have q3 := x0 k (400000 + k) (by rw [look_idM, if_pos hk])
   rw [q3] at q1
   simp only [Option.some.injEq] at q1
   subst q1
   exact ⟨cs, q2, hI.rootB _ _ (hcB k hk) (by rw [q2]; rfl), q3⟩
  have hbo : ∀ k, k < sh.length → bOf G m k = B k := fun k hk => by
   obtain ⟨cs, _, q2, q3⟩ := hbx2 k hk
   simp only [bOf, q3, q2]
   rfl
  have hBR2 := BoxesR.congr (N := sh.length) hbo (by omega) (shOk_spec hsh) (hBR' m (Ext2.refl m))
  have hkeep : Keeps (BX sh.length B fa) w w' := by
   have := hI.keep
   rwa [hcX, hcw] at this
  have hin : ∀ ids b, InF G s.look ids b → (b ∈ fa ∨ (w.heap.size ≤ b ∧ b < w'.heap.size)) ∧ ¬ G.S b ∧ ∀ k, k < sh.length → B k ≠ b := fun ids b hb => by
   obtain ⟨id, hi, hq⟩ := hb
   have hp : (c.w0.heap.size ≤ b ∨ c.X b) ∧ ¬ G.S b ∧ b < w'.heap.size ∧ ∀ k, k < sh.length → B k ≠ b := by
    rcases hq with ⟨τ, ys, q1, q2⟩ | ⟨e', τ, ys, q1, q2⟩
    ·obtain ⟨p1, p2, p3, p4⟩ := hI.trees.pl id τ ys b q1 q2
     refine ⟨p1, p2, p3, fun k hk e => ?_⟩
     obtain ⟨cs, g1, g2, _⟩ := hbx2 k hk
     exact p4 _ _ g1 (by rw [g2, ← e]; rfl)
    ·obtain ⟨p1, p2, p3⟩ := hI.place id _ b q1 q2
     refine ⟨p1, p2, p3, fun k hk e => ?_⟩
     obtain ⟨cs, g1, g2, _⟩ := hbx2 k hk
     have := hI.apart id _ _ _ b q1 g1 q2 (by rw [g2, ← e]; rfl)
     subst this
     rw [q1] at g1
     cases g1
   obtain ⟨p1, p2, p3, p4⟩ := hp
   refine ⟨?_, p2, p4⟩
   rw [hcw, hcX] at p1
   rcases p1 with p1 | p1 | ⟨k, hk, e⟩
   ·exact .inr ⟨p1, p3⟩
   ·exact .inl p1
   ·exact absurd e.symm (p4 k hk)
  refine ⟨hI.defers, (if h : xs.toArray.size = 1 then xs.toArray[0] else .tuple xs.toArray), ?_, _, G.S, fp, fa', rfl, hkeep, ?_, hI.sLt, ?_, owRes_of h2, hBR2, ?_, ?_, ?_⟩
  ·rw [results_eq, Array.mapM_eq_mapM_toList]
   simp only [Sem.run_bind, Sem.run_map, h1]
   rfl
  ·intro b hb
   exact hI.sX b (by rw [hcS]; exact hb)
  ·intro b hb hx
   have := hI.sOld b (by rw [hcw]; exact hb) (by rw [hcX]; exact hx)
   rwa [hcS] at this
  ·exact nodup_app h3 hfan' fun b hb hb' => hI.inf_apart (h4 b hb) (hfa' b hb') fun x hx y hy => n3 x hx y hy
  ·intro b hb
   rcases List.mem_append.1 hb with hb | hb
   ·exact hin ids b (h4 b hb)
   ·exact hin ids' b (hfa' b hb)
  ·intro k hk
   obtain ⟨cs, q1, q2, _⟩ := hbx2 k hk
   exact (hI.place _ _ (B k) q1 (by rw [q2]; rfl)).2.1
 intro e a w' hq
 cases e with
 | normal => exact fin .normal a w' (.inl rfl) hq
 | ret => exact fin .ret a w' (.inr rfl) hq
 | exit i => obtain ⟨_, _, _, hp⟩ := hq; exact hp.elim
 | goto l => obtain ⟨_, _, _, hp⟩ := hq; exact hp.elim
 | panic ch => obtain ⟨_, _, _, hp⟩ := hq; exact hp.elim
 | outgrown => obtain ⟨_, _, _, hp⟩ := hq; exact hp.elim
end
end Go.Proofs.YtkogipcdjalehaaGreat

/- Marks in expressions are looked up. Printed by vmk.py. -/
import Derived.Test.YtiikoicminohpaaVmUse
import Derived.Test.YtiikoicminohpaaVmLib
import Derived.Test.YtiikoicminohpaaVmSz
import Derived.Test.YtiikoicminohpaaVmTo
import Derived.Test.YtiikoicminohpaaVmEq
import Derived.Test.YtiikoicminohpaaVmOwnFam
set_option linter.unusedVariables false
set_option linter.unusedSimpArgs false
set_option linter.unusedSectionVars false
namespace Go.Proofs.Ytiikoicminohpaa
noncomputable section

mutual
theorem cntX_mk : ∀ (k : Int) (x : GExpr), cntX (mkX k x) = cntX x
  | k, ⟨a, b, ks⟩ => by
    have := cntXs_mk (k + 2) ks
    simp only [mkX, cntX, this]
theorem cntXs_mk : ∀ (k : Int) (xs : List GExpr), cntXs (mkXs k xs) = cntXs xs
  | _, [] => rfl
  | k, x :: xs => by
    have h1 := cntX_mk k x
    have h2 := cntXs_mk (k + (cntX x : Int)) xs
    simp only [mkXs, cntXs, h1, h2]
end
mutual
theorem mkX_mk : ∀ (k : Int) (x : GExpr), mkX k (mkX k x) = mkX k x
  | k, ⟨a, b, ks⟩ => by
    have := mkXs_mk (k + 2) ks
    simp only [mkX, this]
theorem mkXs_mk : ∀ (k : Int) (xs : List GExpr), mkXs k (mkXs k xs) = mkXs k xs
  | _, [] => rfl
  | k, x :: xs => by
    have h1 := mkX_mk k x
    have h2 := cntX_mk k x
    have h3 := mkXs_mk (k + (cntX x : Int)) xs
    simp only [mkXs, h1, h2, h3]
end
/-- The marks in a list of expressions hold. -/
def okXs (k : Int) (xs : List GExpr) : Bool := eqB (mkXs k xs) xs
def heldXs (k : Int) (xs : List GExpr) : Int := bif okXs k xs then k + (szL cntX xs : Int) else -1
theorem heldXs_eq (k : Int) (xs : List GExpr) : (okXs k xs = true ∧ heldXs k xs = k + (szL cntX xs : Int)) ∨ (okXs k xs = false ∧ heldXs k xs = -1) := by
  unfold heldXs
  cases okXs k xs <;> simp
theorem heldXs_mk (k : Int) (xs : List GExpr) : heldXs k (mkXs k xs) = k + (szL cntX xs : Int) := by
  have h := mkXs_mk k xs
  have h2 := cntXs_mk k xs
  rw [cntXs_eq, cntXs_eq] at h2
  simp [heldXs, okXs, h, h2]
theorem mkXs_take (z : GExpr) : ∀ (k : Int) (xs : List GExpr) (i : Nat), i < xs.length → mkXs k (xs.take (i + 1)) = mkXs k (xs.take i) ++ [mkX (k + (szL cntX (xs.take i) : Int)) (xs.getD i z)]
  | k, [], i, h => by simp at h
  | k, x :: xs, 0, h => by simp [mkXs, szL]
  | k, x :: xs, i + 1, h => by
    have := mkXs_take z (k + (cntX x : Int)) xs i (by simpa using h)
    simp only [List.take_succ_cons, mkXs, this, List.getD_cons_succ, szL, List.cons_append]
    congr 4
    omega
def okX (k : Int) (x : GExpr) : Bool := decide (x.kind = k) && decide (x.num = k + 1) && okXs (k + 2) x.kids
theorem okX_iff (k : Int) (x : GExpr) : okX k x = true ↔ mkX k x = x := by
  cases x
  simp [okX, okXs, mkX]
  constructor
  · rintro ⟨⟨h1, h2⟩, h3⟩; exact ⟨h1.symm, h2.symm, h3⟩
  · rintro ⟨h1, h2, h3⟩; exact ⟨⟨h1.symm, h2.symm⟩, h3⟩
theorem okXs_take (z : GExpr) (k : Int) (xs : List GExpr) (i : Nat) (h : i < xs.length) : okXs k (xs.take (i + 1)) = (okXs k (xs.take i) && okX (k + (szL cntX (xs.take i) : Int)) (xs.getD i z)) := by
  rw [Bool.eq_iff_iff, Bool.and_eq_true, okX_iff]
  simp only [okXs, eqB_iff]
  rw [mkXs_take z k xs i h, take_snoc z xs i h]
  constructor
  · intro e
    have := List.append_inj e (by rw [mkXs_length])
    exact ⟨this.1, by simpa using this.2⟩
  · rintro ⟨e1, e2⟩; rw [e1, e2]
theorem okXs_bad (z : GExpr) (k : Int) (xs : List GExpr) (i : Nat) (h : i < xs.length) (e : okX (k + (szL cntX (xs.take i) : Int)) (xs.getD i z) = false) : okXs k xs = false := by
  cases hb : okXs k xs with
  | false => rfl
  | true =>
    have h1 := mkXs_getD z k xs i h
    simp only [okXs, eqB_iff] at hb
    rw [hb] at h1
    have := (okX_iff _ _).2 h1.symm
    rw [e] at this; cases this
theorem okXs_done (k : Int) (xs : List GExpr) (i : Nat) (h : xs.length ≤ i) : okXs k (xs.take i) = okXs k xs := by rw [List.take_of_length_le h]
theorem okX_cases (k : Int) (x : GExpr) : okX k x = (decide (x.kind = k) && decide (x.num = k + 1) && okXs (k + 1 + 1) x.kids) := by
  rw [okX, show k + 2 = k + 1 + 1 by omega]

def kn_laws_heldExprS (n : Nat) : Ctr := ⟨n_laws_heldExprS, [.v (.slice (.st .expr)), .v (.int .i64)], fun (xs : List GExpr) (k : Int) => ⟨(some (msz xs < n ∧ 0 ≤ k ∧ k + (szL cntX xs : Int) ≤ 4611686018427387904), [⟨(.int .i64), heldXs k xs⟩])⟩⟩
def k_laws_heldExprS : Ctr := ⟨n_laws_heldExprS, [.v (.slice (.st .expr)), .v (.int .i64)], fun (xs : List GExpr) (k : Int) => ⟨(some (0 ≤ k ∧ k + (szL cntX xs : Int) ≤ 4611686018427387904), [⟨(.int .i64), heldXs k xs⟩])⟩⟩
def l_laws_heldExprS (xs : List GExpr) (k : Int) : Nat → LoopInv := (fun zb => if Nat.beq zb 0 then .mk (Nat) (fun i => i ≤ xs.length ∧ okXs k (xs.take i) = true) (fun i => xs.length - i) [] [2, 3] (fun i => [(5, .imm ⟨(.int .i64), ((i : Int) : Int)⟩), (1, .imm ⟨(.int .i64), ((k + (szL cntX (xs.take i) : Int)) : Int)⟩)]) [0, 1, 4, 5, 6, 7, 8, 9, 10, 11, 12, 13, 14, 15, 16, 17, 18, 19, 20, 21, 22, 23, 24, 25, 26, 27, 28, 29, 30, 31, 32, 33, 34, 35, 36, 37, 38, 39] (fun i => []) [] [] (fun i => fun _ => .none) else .none)
theorem vc_laws_heldExprS (n : Nat) (xs : List GExpr) (k : Int) : awp (envOf [kn_laws_heldExprS n]) (bodyOf f_laws_heldExprS) (l_laws_heldExprS xs k) 0 (funPost (envOf [kn_laws_heldExprS n]) f_laws_heldExprS fun r => areEq r [⟨(.int .i64), heldXs k xs⟩]) (startState f_laws_heldExprS [.val ⟨(.slice (.st .expr)), xs⟩, .val ⟨(.int .i64), k⟩]) =
  (((∃ i1 : Nat, ((i1 ≤ xs.length ∧ okXs k (xs.take i1) = true) ∧ ((xs = xs ∧ (k = (k + (szL cntX (xs.take i1) : Int)) ∧ ((0 : Int) = (i1 : Int) ∧ True))) ∧ True))) ∧ (∀ i1 : Nat, ((i1 ≤ xs.length ∧ okXs k (xs.take i1) = true) →
 (inI64 ((xs.length : Int)) →
 (((decide ((i1 : Int) < ((xs.length : Int)))) = true →
 (idxOk (i1 : Int) xs.length ∧ (inI64 (xs.getD i1 (GExpr.mk (0 : Int) (0 : Int) [])).kind →
 (((!(decide ((xs.getD i1 (GExpr.mk (0 : Int) (0 : Int) [])).kind = (k + (szL cntX (xs.take i1) : Int))))) = true →
 (-1 : Int) = (heldXs k xs)) ∧ ((!(decide ((xs.getD i1 (GExpr.mk (0 : Int) (0 : Int) [])).kind = (k + (szL cntX (xs.take i1) : Int))))) = false →
 (inI64 ((k + (szL cntX (xs.take i1) : Int)) + (1 : Int)) ∧ (idxOk (i1 : Int) xs.length ∧ (inI64 (xs.getD i1 (GExpr.mk (0 : Int) (0 : Int) [])).num →
 (((!(decide ((xs.getD i1 (GExpr.mk (0 : Int) (0 : Int) [])).num = ((k + (szL cntX (xs.take i1) : Int)) + (1 : Int))))) = true →
 (-1 : Int) = (heldXs k xs)) ∧ ((!(decide ((xs.getD i1 (GExpr.mk (0 : Int) (0 : Int) [])).num = ((k + (szL cntX (xs.take i1) : Int)) + (1 : Int))))) = false →
 (inI64 (((k + (szL cntX (xs.take i1) : Int)) + (1 : Int)) + (1 : Int)) ∧ (idxOk (i1 : Int) xs.length ∧ ((xs.getD i1 (GExpr.mk (0 : Int) (0 : Int) [])).kids.length ≤ 140737488355328 →
 ((msz (xs.getD i1 (GExpr.mk (0 : Int) (0 : Int) [])).kids < n ∧ 0 ≤ (((k + (szL cntX (xs.take i1) : Int)) + (1 : Int)) + (1 : Int)) ∧ (((k + (szL cntX (xs.take i1) : Int)) + (1 : Int)) + (1 : Int)) + (szL cntX (xs.getD i1 (GExpr.mk (0 : Int) (0 : Int) [])).kids : Int) ≤ 4611686018427387904) ∧ (inI64 (heldXs (((k + (szL cntX (xs.take i1) : Int)) + (1 : Int)) + (1 : Int)) (xs.getD i1 (GExpr.mk (0 : Int) (0 : Int) [])).kids) →
 (((decide ((heldXs (((k + (szL cntX (xs.take i1) : Int)) + (1 : Int)) + (1 : Int)) (xs.getD i1 (GExpr.mk (0 : Int) (0 : Int) [])).kids) < (0 : Int))) = true →
 (-1 : Int) = (heldXs k xs)) ∧ ((decide ((heldXs (((k + (szL cntX (xs.take i1) : Int)) + (1 : Int)) + (1 : Int)) (xs.getD i1 (GExpr.mk (0 : Int) (0 : Int) [])).kids) < (0 : Int))) = false →
 (inI64 ((i1 : Int) + (1 : Int)) ∧ (∃ i2 : Nat, ((i2 ≤ xs.length ∧ okXs k (xs.take i2) = true) ∧ (xs.length - i2 < xs.length - i1 ∧ ((xs = xs ∧ ((heldXs (((k + (szL cntX (xs.take i1) : Int)) + (1 : Int)) + (1 : Int)) (xs.getD i1 (GExpr.mk (0 : Int) (0 : Int) [])).kids) = (k + (szL cntX (xs.take i2) : Int)) ∧ (((i1 : Int) + (1 : Int)) = (i2 : Int) ∧ True))) ∧ True)))))))))))))))))))))) ∧ ((decide ((i1 : Int) < ((xs.length : Int)))) = false →
 (k + (szL cntX (xs.take i1) : Int)) = (heldXs k xs)))))))) := by kernel_rfl
set_option maxRecDepth 4000 in
set_option maxHeartbeats 1000000 in
theorem ok_laws_heldExprS (n : Nat) (hE : AllGood [kn_laws_heldExprS n]) : Ctr.Good (kn_laws_heldExprS (n + 1)) := by
  refine ⟨fnOk_of at_laws_heldExprS rfl (by decide), ?_⟩
  show ∀ (xs : List GExpr) (k : Int), (msz xs < n + 1 ∧ 0 ≤ k ∧ k + (szL cntX xs : Int) ≤ 4611686018427387904) → OkCall prog n_laws_heldExprS [.val ⟨(.slice (.st .expr)), xs⟩, .val ⟨(.int .i64), k⟩] (· = [⟨(.int .i64), heldXs k xs⟩])
  intro xs k hp
  refine ok_of_awp (wr := []) (cl := []) (ro := []) hE at_laws_heldExprS body_laws_heldExprS (l_laws_heldExprS xs k) ?_
  rewrite [vc_laws_heldExprS n xs k]
  have f0 : okXs k (xs.take 0) = true := by simp [okXs, mkXs]
  have f1 := szL_zero cntX xs
  have f2 := heldXs_eq k xs
  refine ⟨⟨0, ⟨?_, ⟨⟨rfl, ⟨?_, ⟨?_, trivial⟩⟩⟩, trivial⟩⟩⟩, fun i1 a0 => have b0x0 := okXs_take (GExpr.mk (0 : Int) (0 : Int) []) k xs i1; have b0x1 := okXs_bad (GExpr.mk (0 : Int) (0 : Int) []) k xs i1; have b0x2 := okXs_done k xs i1; have b0x3 := okX_cases (k + (szL cntX (xs.take i1) : Int)) (xs.getD i1 (GExpr.mk (0 : Int) (0 : Int) [])); have b0x4 := heldXs_eq ((k + (szL cntX (xs.take i1) : Int)) + 1 + 1) (xs.getD i1 (GExpr.mk (0 : Int) (0 : Int) [])).kids; have b0x5 := szL_take cntX (GExpr.mk (0 : Int) (0 : Int) []) xs i1; have b0x6 := szL_take_le cntX xs i1; have b0x7 := szL_take_le cntX xs (i1 + 1); have b0x8 := szL_all cntX xs i1; have b0x9 := cntX_eq (xs.getD i1 (GExpr.mk (0 : Int) (0 : Int) [])); have b0x10 := msz_getD (GExpr.mk (0 : Int) (0 : Int) []) xs i1; have b0x11 := msz_kids (xs.getD i1 (GExpr.mk (0 : Int) (0 : Int) [])); fun a1 => ⟨fun a2 => ⟨?_, fun a3 => ⟨fun a4 => ?_, fun a4 => ⟨?_, ⟨?_, fun a5 => ⟨fun a6 => ?_, fun a6 => ⟨?_, ⟨?_, fun a7 => ⟨?_, fun a8 => ⟨fun a9 => ?_, fun a9 => ⟨?_, ⟨i1 + 1, ⟨?_, ⟨?_, ⟨⟨rfl, ⟨?_, ⟨?_, trivial⟩⟩⟩, trivial⟩⟩⟩⟩⟩⟩⟩⟩⟩⟩⟩⟩⟩⟩, fun a2 => ?_⟩⟩
  all_goals try and_intros
  all_goals first | rfl | trivial | omega | (simp only [decide_eq_true_eq, decide_eq_false_iff_not, idxOk, inI64, Bool.not_eq_true', Bool.not_eq_false'] at *; first | omega | grind)

theorem all_held_expr  : ∀ n, AllGood [kn_laws_heldExprS n]
  | 0 => ⟨⟨fnOk_of at_laws_heldExprS rfl (by decide), fun _ _ h => absurd h.1 (Nat.not_lt_zero _)⟩, trivial⟩
  | n + 1 => by
    have ih := all_held_expr  n
    exact ⟨ok_laws_heldExprS n ⟨ih.1, trivial⟩, trivial⟩
theorem good_laws_heldExprS  : Ctr.Good k_laws_heldExprS :=
  ⟨fnOk_of at_laws_heldExprS rfl (by decide), fun xs k hp => (all_held_expr  (msz xs + 1)).1.2 xs k (⟨Nat.lt_succ_self _, hp⟩)⟩

def k_laws_heldExpr : Ctr := ⟨n_laws_heldExpr, [.v (.st .expr), .v (.int .i64)], fun (x : GExpr) (k : Int) => ⟨(some (0 ≤ k ∧ k + (szL cntX x.kids : Int) ≤ 4611686018427387904), [⟨(.int .i64), heldXs k x.kids⟩])⟩⟩
def l_laws_heldExpr (x : GExpr) (k : Int) : Nat → LoopInv := fun _ => .none
theorem vc_laws_heldExpr (x : GExpr) (k : Int) : awp (envOf [k_laws_heldExprS] [] [] [2]) (bodyOf f_laws_heldExpr) (l_laws_heldExpr x k) 0 (funPost (envOf [k_laws_heldExprS] [] [] [2]) f_laws_heldExpr fun r => areEq r [⟨(.int .i64), heldXs k x.kids⟩]) (startState f_laws_heldExpr [.val ⟨(.st .expr), x⟩, .val ⟨(.int .i64), k⟩]) =
  ((x.kids.length ≤ 140737488355328 →
 ((0 ≤ k ∧ k + (szL cntX x.kids : Int) ≤ 4611686018427387904) ∧ (inI64 (heldXs k x.kids) →
 (((decide ((heldXs k x.kids) < (0 : Int))) = true →
 (-1 : Int) = (heldXs k x.kids)) ∧ ((decide ((heldXs k x.kids) < (0 : Int))) = false →
 (heldXs k x.kids) = (heldXs k x.kids))))))) := by kernel_rfl
set_option maxRecDepth 4000 in
set_option maxHeartbeats 1000000 in
theorem ok_laws_heldExpr (hE : AllGood [k_laws_heldExprS]) : Ctr.Good k_laws_heldExpr := by
  refine ⟨fnOk_of at_laws_heldExpr rfl (by decide), ?_⟩
  show ∀ (x : GExpr) (k : Int), (0 ≤ k ∧ k + (szL cntX x.kids : Int) ≤ 4611686018427387904) → OkCall prog n_laws_heldExpr [.val ⟨(.st .expr), x⟩, .val ⟨(.int .i64), k⟩] (· = [⟨(.int .i64), heldXs k x.kids⟩])
  intro x k hp
  refine ok_of_awp (wr := []) (cl := []) (ro := [2]) hE at_laws_heldExpr body_laws_heldExpr (l_laws_heldExpr x k) ?_
  rewrite [vc_laws_heldExpr x k]
  have f2 := heldXs_eq k x.kids
  refine fun a0 => ⟨?_, fun a1 => ⟨fun a2 => ?_, fun a2 => rfl⟩⟩
  all_goals try and_intros
  all_goals first | rfl | trivial | omega | (simp only [decide_eq_true_eq, decide_eq_false_iff_not, idxOk, inI64, Bool.not_eq_true', Bool.not_eq_false'] at *; first | omega | grind)

theorem good_laws_heldExpr : Ctr.Good k_laws_heldExpr := ok_laws_heldExpr ⟨good_laws_heldExprS, trivial⟩

end
end Go.Proofs.Ytiikoicminohpaa

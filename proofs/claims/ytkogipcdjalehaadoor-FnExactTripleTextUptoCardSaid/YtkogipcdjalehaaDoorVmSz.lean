/- The sizes of data. Printed by vmk.py. -/
import Derived.Test.YtkogipcdjalehaaDoorVmUse
import Derived.Test.YtkogipcdjalehaaDoorVmLib
set_option linter.unusedVariables false
set_option linter.unusedSimpArgs false
set_option linter.unusedSectionVars false
set_option maxRecDepth 4000
set_option maxHeartbeats 4000000
namespace Go.Proofs.YtkogipcdjalehaaDoor
noncomputable section
mutual
def sz_expr : GExpr → Nat
 | ⟨_, _, kids⟩ => kids.length + szs_expr kids
def szs_expr : List GExpr → Nat
 | [] => 0
 | k :: ks => sz_expr k + szs_expr ks
end
theorem szs_expr_eq : ∀ xs, szs_expr xs = szL sz_expr xs
 | [] => rfl
 | x :: xs => by rw [szs_expr, szL, szs_expr_eq xs]
theorem sz_expr_eq (x : GExpr) : sz_expr x = (x.kids.length + szL sz_expr x.kids) := by
 cases x; simp [sz_expr, szs_expr_eq]; try omega
def kn_laws_szExpr (n : Nat) : Ctr := ⟨n_laws_szExpr, [.v (.st .expr), .v (.int .i64)], fun (x : GExpr) (left : Int) => ⟨(some (msz x < n ∧ 0 ≤ left ∧ left ≤ 1048576), [⟨(.int .i64), szR (sz_expr x) left⟩])⟩⟩
def k_laws_szExpr : Ctr := ⟨n_laws_szExpr, [.v (.st .expr), .v (.int .i64)], fun (x : GExpr) (left : Int) => ⟨(some (0 ≤ left ∧ left ≤ 1048576), [⟨(.int .i64), szR (sz_expr x) left⟩])⟩⟩
def kn_laws_szExprS (n : Nat) : Ctr := ⟨n_laws_szExprS, [.v (.slice (.st .expr)), .v (.int .i64)], fun (xs : List GExpr) (left : Int) => ⟨(some (msz xs < n ∧ 0 ≤ left ∧ left ≤ 1048576), [⟨(.int .i64), szR (xs.length + szL sz_expr xs) left⟩])⟩⟩
def l_laws_szExpr (x : GExpr) (left : Int) : Nat → LoopInv := fun _ => .none
theorem vc_laws_szExpr (n : Nat) (x : GExpr) (left : Int) : awp (envOf [kn_laws_szExprS n] [] [] [2]) (bodyOf f_laws_szExpr) (l_laws_szExpr x left) 0 (funPost (envOf [kn_laws_szExprS n] [] [] [2]) f_laws_szExpr fun r => areEq r [⟨(.int .i64), szR (sz_expr x) left⟩]) (startState f_laws_szExpr [.val ⟨(.st .expr), x⟩, .val ⟨(.int .i64), left⟩]) =
 ((x.kids.length ≤ 140737488355328 →
 ((msz x.kids < n ∧ 0 ≤ left ∧ left ≤ 1048576) ∧ (inI64 (szR (x.kids.length + szL sz_expr x.kids) left) →
 (((decide ((szR (x.kids.length + szL sz_expr x.kids) left) < (0 : Int))) = true →
 (-1 : Int) = (szR (sz_expr x) left)) ∧ ((decide ((szR (x.kids.length + szL sz_expr x.kids) left) < (0 : Int))) = false →
 (szR (x.kids.length + szL sz_expr x.kids) left) = (szR (sz_expr x) left))))))) := by kernel_rfl
theorem ok_laws_szExpr (n : Nat) (hE : AllGood [kn_laws_szExprS n]) : Ctr.Good (kn_laws_szExpr (n + 1)) := by
 refine ⟨fnOk_of at_laws_szExpr rfl (by decide), ?_⟩
 show ∀ (x : GExpr) (left : Int), (msz x < n + 1 ∧ 0 ≤ left ∧ left ≤ 1048576) → OkCall prog n_laws_szExpr [.val ⟨(.st .expr), x⟩, .val ⟨(.int .i64), left⟩] (· = [⟨(.int .i64), szR (sz_expr x) left⟩])
 intro x left hp
 refine ok_of_awp (wr := []) (cl := []) (ro := [2]) hE at_laws_szExpr body_laws_szExpr (l_laws_szExpr x left) ?_
 rewrite [vc_laws_szExpr n x left]
 have f0 := szR_or (x.kids.length + szL sz_expr x.kids) (left)
 have fz := szR_or ((x.kids.length + szL sz_expr x.kids)) left
 have f0k := msz_kids x
 refine fun a0 => ⟨?_, fun a1 => ⟨fun a2 => ?_, fun a2 => ?_⟩⟩
 all_goals try and_intros
 all_goals try rw [sz_expr_eq]
 all_goals first | rfl | trivial | omega | (simp only [decide_eq_true_eq, decide_eq_false_iff_not, idxOk, inI64, inKind, cutOk, makeOk, roomOk] at *; omega) | (simp [idxOk, inI64] at *; omega) | grind
def l_laws_szExprS (xs : List GExpr) (left : Int) : Nat → LoopInv := (fun zb => if Nat.beq zb 0 then .mk (Nat) (fun k => k ≤ xs.length ∧ (xs.length + szL sz_expr (xs.take k) : Int) ≤ left) (fun k => xs.length - k) [] [2, 3, 6, 7, 8, 9, 10, 11] (fun k => [(5, .imm ⟨(.int .i64), ((k : Int) : Int)⟩), (1, .imm ⟨(.int .i64), (left - (xs.length + szL sz_expr (xs.take k) : Int) : Int)⟩)]) [0, 1, 4, 5, 12, 13, 14, 15, 16, 17, 18, 19, 20, 21, 22, 23, 24, 25, 26] (fun k => []) [] [] (fun k => fun _ => .none) else .none)
theorem vc_laws_szExprS (n : Nat) (xs : List GExpr) (left : Int) : awp (envOf [kn_laws_szExpr n]) (bodyOf f_laws_szExprS) (l_laws_szExprS xs left) 0 (funPost (envOf [kn_laws_szExpr n]) f_laws_szExprS fun r => areEq r [⟨(.int .i64), szR (xs.length + szL sz_expr xs) left⟩]) (startState f_laws_szExprS [.val ⟨(.slice (.st .expr)), xs⟩, .val ⟨(.int .i64), left⟩]) =
 ((inI64 ((xs.length : Int)) →
 (inI64 (left - ((xs.length : Int))) ∧ (((decide ((left - ((xs.length : Int))) < (0 : Int))) = true →
 (-1 : Int) = (szR (xs.length + szL sz_expr xs) left)) ∧ ((decide ((left - ((xs.length : Int))) < (0 : Int))) = false →
 ((∃ k1 : Nat, ((k1 ≤ xs.length ∧ (xs.length + szL sz_expr (xs.take k1) : Int) ≤ left) ∧ ((xs = xs ∧ ((left - ((xs.length : Int))) = (left - (xs.length + szL sz_expr (xs.take k1) : Int)) ∧ ((0 : Int) = (k1 : Int) ∧ True))) ∧ True))) ∧ (∀ k1 : Nat, ((k1 ≤ xs.length ∧ (xs.length + szL sz_expr (xs.take k1) : Int) ≤ left) →
 (inI64 ((xs.length : Int)) →
 (((decide ((k1 : Int) < ((xs.length : Int)))) = true →
 (idxOk (k1 : Int) xs.length ∧ ((msz (xs.getD k1 zE) < n ∧ 0 ≤ (left - (xs.length + szL sz_expr (xs.take k1) : Int)) ∧ (left - (xs.length + szL sz_expr (xs.take k1) : Int)) ≤ 1048576) ∧ (inI64 (szR (sz_expr (xs.getD k1 zE)) (left - (xs.length + szL sz_expr (xs.take k1) : Int))) →
 (((decide ((szR (sz_expr (xs.getD k1 zE)) (left - (xs.length + szL sz_expr (xs.take k1) : Int))) < (0 : Int))) = true →
 (-1 : Int) = (szR (xs.length + szL sz_expr xs) left)) ∧ ((decide ((szR (sz_expr (xs.getD k1 zE)) (left - (xs.length + szL sz_expr (xs.take k1) : Int))) < (0 : Int))) = false →
 (inI64 ((k1 : Int) + (1 : Int)) ∧ (∃ k2 : Nat, ((k2 ≤ xs.length ∧ (xs.length + szL sz_expr (xs.take k2) : Int) ≤ left) ∧ (xs.length - k2 < xs.length - k1 ∧ ((xs = xs ∧ ((szR (sz_expr (xs.getD k1 zE)) (left - (xs.length + szL sz_expr (xs.take k1) : Int))) = (left - (xs.length + szL sz_expr (xs.take k2) : Int)) ∧ (((k1 : Int) + (1 : Int)) = (k2 : Int) ∧ True))) ∧ True))))))))))) ∧ ((decide ((k1 : Int) < ((xs.length : Int)))) = false →
 (left - (xs.length + szL sz_expr (xs.take k1) : Int)) = (szR (xs.length + szL sz_expr xs) left)))))))))))) := by kernel_rfl
theorem ok_laws_szExprS (n : Nat) (hE : AllGood [kn_laws_szExpr n]) : Ctr.Good (kn_laws_szExprS (n + 1)) := by
 refine ⟨fnOk_of at_laws_szExprS rfl (by decide), ?_⟩
 show ∀ (xs : List GExpr) (left : Int), (msz xs < n + 1 ∧ 0 ≤ left ∧ left ≤ 1048576) → OkCall prog n_laws_szExprS [.val ⟨(.slice (.st .expr)), xs⟩, .val ⟨(.int .i64), left⟩] (· = [⟨(.int .i64), szR (xs.length + szL sz_expr xs) left⟩])
 intro xs left hp
 refine ok_of_awp (wr := []) (cl := []) (ro := []) hE at_laws_szExprS body_laws_szExprS (l_laws_szExprS xs left) ?_
 rewrite [vc_laws_szExprS n xs left]
 have f0 := szR_or (xs.length + szL sz_expr xs) left
 have f1 := szL_zero sz_expr xs
 refine fun a0 => ⟨?_, ⟨fun a1 => ?_, fun a1 => ⟨⟨0, ⟨?_, ⟨⟨rfl, ⟨?_, ⟨?_, trivial⟩⟩⟩, trivial⟩⟩⟩, fun k1 a2 => have b2x0 := szL_take sz_expr zE xs k1; have b2x1 := szL_take_le sz_expr xs k1; have b2x2 := szL_take_le sz_expr xs (k1 + 1); have b2x3 := szL_all sz_expr xs k1; have b2x4 := msz_getD zE xs k1; have b2x5 := szR_or (sz_expr (xs.getD k1 zE)) (left - (xs.length + szL sz_expr (xs.take k1) : Int)); fun a3 => ⟨fun a4 => ⟨?_, ⟨?_, fun a5 => ⟨fun a6 => ?_, fun a6 => ⟨?_, ⟨k1 + 1, ⟨?_, ⟨?_, ⟨⟨rfl, ⟨?_, ⟨?_, trivial⟩⟩⟩, trivial⟩⟩⟩⟩⟩⟩⟩⟩, fun a4 => ?_⟩⟩⟩⟩
 all_goals try and_intros
 all_goals first | rfl | trivial | omega | (simp only [decide_eq_true_eq, decide_eq_false_iff_not, idxOk, inI64, inKind, cutOk, makeOk, roomOk] at *; omega) | (simp [idxOk, inI64] at *; omega) | grind
theorem all_sz_expr  : ∀ n, AllGood [kn_laws_szExpr n, kn_laws_szExprS n]
 | 0 => ⟨⟨fnOk_of at_laws_szExpr rfl (by decide), fun _ _ h => absurd h.1 (Nat.not_lt_zero _)⟩, ⟨fnOk_of at_laws_szExprS rfl (by decide), fun _ _ h => absurd h.1 (Nat.not_lt_zero _)⟩, trivial⟩
 | n + 1 => by
  have ih := all_sz_expr  n
  exact ⟨ok_laws_szExpr n ⟨ih.2.1, trivial⟩, ok_laws_szExprS n ⟨ih.1, trivial⟩, trivial⟩
theorem good_laws_szExpr  : Ctr.Good k_laws_szExpr :=
 ⟨fnOk_of at_laws_szExpr rfl (by decide), fun x left hp => (all_sz_expr  (msz x + 1)).1.2 x left (⟨Nat.lt_succ_self _, hp⟩)⟩
mutual
def sz_prog : GProg → Nat
 | ⟨_, _, cond, kids⟩ => sz_expr cond + kids.length + szs_prog kids
def szs_prog : List GProg → Nat
 | [] => 0
 | k :: ks => sz_prog k + szs_prog ks
end
theorem szs_prog_eq : ∀ xs, szs_prog xs = szL sz_prog xs
 | [] => rfl
 | x :: xs => by rw [szs_prog, szL, szs_prog_eq xs]
theorem sz_prog_eq (x : GProg) : sz_prog x = (sz_expr x.cond) + (x.kids.length + szL sz_prog x.kids) := by
 cases x; simp [sz_prog, szs_prog_eq]; try omega
def kn_laws_szProg (n : Nat) : Ctr := ⟨n_laws_szProg, [.v (.st .prog), .v (.int .i64)], fun (x : GProg) (left : Int) => ⟨(some (msz x < n ∧ 0 ≤ left ∧ left ≤ 1048576), [⟨(.int .i64), szR (sz_prog x) left⟩])⟩⟩
def k_laws_szProg : Ctr := ⟨n_laws_szProg, [.v (.st .prog), .v (.int .i64)], fun (x : GProg) (left : Int) => ⟨(some (0 ≤ left ∧ left ≤ 1048576), [⟨(.int .i64), szR (sz_prog x) left⟩])⟩⟩
def kn_laws_szProgS (n : Nat) : Ctr := ⟨n_laws_szProgS, [.v (.slice (.st .prog)), .v (.int .i64)], fun (xs : List GProg) (left : Int) => ⟨(some (msz xs < n ∧ 0 ≤ left ∧ left ≤ 1048576), [⟨(.int .i64), szR (xs.length + szL sz_prog xs) left⟩])⟩⟩
def l_laws_szProg (x : GProg) (left : Int) : Nat → LoopInv := fun _ => .none
theorem vc_laws_szProg (n : Nat) (x : GProg) (left : Int) : awp (envOf [k_laws_szExpr, kn_laws_szProgS n] [] [] [2]) (bodyOf f_laws_szProg) (l_laws_szProg x left) 0 (funPost (envOf [k_laws_szExpr, kn_laws_szProgS n] [] [] [2]) f_laws_szProg fun r => areEq r [⟨(.int .i64), szR (sz_prog x) left⟩]) (startState f_laws_szProg [.val ⟨(.st .prog), x⟩, .val ⟨(.int .i64), left⟩]) =
 (((0 ≤ left ∧ left ≤ 1048576) ∧ (inI64 (szR (sz_expr x.cond) left) →
 (((decide ((szR (sz_expr x.cond) left) < (0 : Int))) = true →
 (-1 : Int) = (szR (sz_prog x) left)) ∧ ((decide ((szR (sz_expr x.cond) left) < (0 : Int))) = false →
 (x.kids.length ≤ 140737488355328 →
 ((msz x.kids < n ∧ 0 ≤ (szR (sz_expr x.cond) left) ∧ (szR (sz_expr x.cond) left) ≤ 1048576) ∧ (inI64 (szR (x.kids.length + szL sz_prog x.kids) (szR (sz_expr x.cond) left)) →
 (((decide ((szR (x.kids.length + szL sz_prog x.kids) (szR (sz_expr x.cond) left)) < (0 : Int))) = true →
 (-1 : Int) = (szR (sz_prog x) left)) ∧ ((decide ((szR (x.kids.length + szL sz_prog x.kids) (szR (sz_expr x.cond) left)) < (0 : Int))) = false →
 (szR (x.kids.length + szL sz_prog x.kids) (szR (sz_expr x.cond) left)) = (szR (sz_prog x) left))))))))))) := by kernel_rfl
theorem ok_laws_szProg (n : Nat) (hE : AllGood [k_laws_szExpr, kn_laws_szProgS n]) : Ctr.Good (kn_laws_szProg (n + 1)) := by
 refine ⟨fnOk_of at_laws_szProg rfl (by decide), ?_⟩
 show ∀ (x : GProg) (left : Int), (msz x < n + 1 ∧ 0 ≤ left ∧ left ≤ 1048576) → OkCall prog n_laws_szProg [.val ⟨(.st .prog), x⟩, .val ⟨(.int .i64), left⟩] (· = [⟨(.int .i64), szR (sz_prog x) left⟩])
 intro x left hp
 refine ok_of_awp (wr := []) (cl := []) (ro := [2]) hE at_laws_szProg body_laws_szProg (l_laws_szProg x left) ?_
 rewrite [vc_laws_szProg n x left]
 have f0 := szR_or (sz_expr x.cond) (left)
 have f1 := szR_or (x.kids.length + szL sz_prog x.kids) (szR (sz_expr x.cond) left)
 have fz := szR_or ((sz_expr x.cond) + (x.kids.length + szL sz_prog x.kids)) left
 have f0k := msz_kidsP x
 refine ⟨?_, fun a0 => ⟨fun a1 => ?_, fun a1 => fun a2 => ⟨?_, fun a3 => ⟨fun a4 => ?_, fun a4 => ?_⟩⟩⟩⟩
 all_goals try and_intros
 all_goals try rw [sz_prog_eq]
 all_goals first | rfl | trivial | omega | (simp only [decide_eq_true_eq, decide_eq_false_iff_not, idxOk, inI64, inKind, cutOk, makeOk, roomOk] at *; omega) | (simp [idxOk, inI64] at *; omega) | grind
def l_laws_szProgS (xs : List GProg) (left : Int) : Nat → LoopInv := (fun zb => if Nat.beq zb 0 then .mk (Nat) (fun k => k ≤ xs.length ∧ (xs.length + szL sz_prog (xs.take k) : Int) ≤ left) (fun k => xs.length - k) [] [2, 3, 6, 7, 8, 9, 10, 11] (fun k => [(5, .imm ⟨(.int .i64), ((k : Int) : Int)⟩), (1, .imm ⟨(.int .i64), (left - (xs.length + szL sz_prog (xs.take k) : Int) : Int)⟩)]) [0, 1, 4, 5, 12, 13, 14, 15, 16, 17, 18, 19, 20, 21, 22, 23, 24, 25, 26] (fun k => []) [] [] (fun k => fun _ => .none) else .none)
theorem vc_laws_szProgS (n : Nat) (xs : List GProg) (left : Int) : awp (envOf [kn_laws_szProg n]) (bodyOf f_laws_szProgS) (l_laws_szProgS xs left) 0 (funPost (envOf [kn_laws_szProg n]) f_laws_szProgS fun r => areEq r [⟨(.int .i64), szR (xs.length + szL sz_prog xs) left⟩]) (startState f_laws_szProgS [.val ⟨(.slice (.st .prog)), xs⟩, .val ⟨(.int .i64), left⟩]) =
 ((inI64 ((xs.length : Int)) →
 (inI64 (left - ((xs.length : Int))) ∧ (((decide ((left - ((xs.length : Int))) < (0 : Int))) = true →
 (-1 : Int) = (szR (xs.length + szL sz_prog xs) left)) ∧ ((decide ((left - ((xs.length : Int))) < (0 : Int))) = false →
 ((∃ k1 : Nat, ((k1 ≤ xs.length ∧ (xs.length + szL sz_prog (xs.take k1) : Int) ≤ left) ∧ ((xs = xs ∧ ((left - ((xs.length : Int))) = (left - (xs.length + szL sz_prog (xs.take k1) : Int)) ∧ ((0 : Int) = (k1 : Int) ∧ True))) ∧ True))) ∧ (∀ k1 : Nat, ((k1 ≤ xs.length ∧ (xs.length + szL sz_prog (xs.take k1) : Int) ≤ left) →
 (inI64 ((xs.length : Int)) →
 (((decide ((k1 : Int) < ((xs.length : Int)))) = true →
 (idxOk (k1 : Int) xs.length ∧ ((msz (xs.getD k1 zP) < n ∧ 0 ≤ (left - (xs.length + szL sz_prog (xs.take k1) : Int)) ∧ (left - (xs.length + szL sz_prog (xs.take k1) : Int)) ≤ 1048576) ∧ (inI64 (szR (sz_prog (xs.getD k1 zP)) (left - (xs.length + szL sz_prog (xs.take k1) : Int))) →
 (((decide ((szR (sz_prog (xs.getD k1 zP)) (left - (xs.length + szL sz_prog (xs.take k1) : Int))) < (0 : Int))) = true →
 (-1 : Int) = (szR (xs.length + szL sz_prog xs) left)) ∧ ((decide ((szR (sz_prog (xs.getD k1 zP)) (left - (xs.length + szL sz_prog (xs.take k1) : Int))) < (0 : Int))) = false →
 (inI64 ((k1 : Int) + (1 : Int)) ∧ (∃ k2 : Nat, ((k2 ≤ xs.length ∧ (xs.length + szL sz_prog (xs.take k2) : Int) ≤ left) ∧ (xs.length - k2 < xs.length - k1 ∧ ((xs = xs ∧ ((szR (sz_prog (xs.getD k1 zP)) (left - (xs.length + szL sz_prog (xs.take k1) : Int))) = (left - (xs.length + szL sz_prog (xs.take k2) : Int)) ∧ (((k1 : Int) + (1 : Int)) = (k2 : Int) ∧ True))) ∧ True))))))))))) ∧ ((decide ((k1 : Int) < ((xs.length : Int)))) = false →
 (left - (xs.length + szL sz_prog (xs.take k1) : Int)) = (szR (xs.length + szL sz_prog xs) left)))))))))))) := by kernel_rfl
theorem ok_laws_szProgS (n : Nat) (hE : AllGood [kn_laws_szProg n]) : Ctr.Good (kn_laws_szProgS (n + 1)) := by
 refine ⟨fnOk_of at_laws_szProgS rfl (by decide), ?_⟩
 show ∀ (xs : List GProg) (left : Int), (msz xs < n + 1 ∧ 0 ≤ left ∧ left ≤ 1048576) → OkCall prog n_laws_szProgS [.val ⟨(.slice (.st .prog)), xs⟩, .val ⟨(.int .i64), left⟩] (· = [⟨(.int .i64), szR (xs.length + szL sz_prog xs) left⟩])
 intro xs left hp
 refine ok_of_awp (wr := []) (cl := []) (ro := []) hE at_laws_szProgS body_laws_szProgS (l_laws_szProgS xs left) ?_
 rewrite [vc_laws_szProgS n xs left]
 have f0 := szR_or (xs.length + szL sz_prog xs) left
 have f1 := szL_zero sz_prog xs
 refine fun a0 => ⟨?_, ⟨fun a1 => ?_, fun a1 => ⟨⟨0, ⟨?_, ⟨⟨rfl, ⟨?_, ⟨?_, trivial⟩⟩⟩, trivial⟩⟩⟩, fun k1 a2 => have b2x0 := szL_take sz_prog zP xs k1; have b2x1 := szL_take_le sz_prog xs k1; have b2x2 := szL_take_le sz_prog xs (k1 + 1); have b2x3 := szL_all sz_prog xs k1; have b2x4 := msz_getD zP xs k1; have b2x5 := szR_or (sz_prog (xs.getD k1 zP)) (left - (xs.length + szL sz_prog (xs.take k1) : Int)); fun a3 => ⟨fun a4 => ⟨?_, ⟨?_, fun a5 => ⟨fun a6 => ?_, fun a6 => ⟨?_, ⟨k1 + 1, ⟨?_, ⟨?_, ⟨⟨rfl, ⟨?_, ⟨?_, trivial⟩⟩⟩, trivial⟩⟩⟩⟩⟩⟩⟩⟩, fun a4 => ?_⟩⟩⟩⟩
 all_goals try and_intros
 all_goals first | rfl | trivial | omega | (simp only [decide_eq_true_eq, decide_eq_false_iff_not, idxOk, inI64, inKind, cutOk, makeOk, roomOk] at *; omega) | (simp [idxOk, inI64] at *; omega) | grind
theorem all_sz_prog  : ∀ n, AllGood [kn_laws_szProg n, kn_laws_szProgS n]
 | 0 => ⟨⟨fnOk_of at_laws_szProg rfl (by decide), fun _ _ h => absurd h.1 (Nat.not_lt_zero _)⟩, ⟨fnOk_of at_laws_szProgS rfl (by decide), fun _ _ h => absurd h.1 (Nat.not_lt_zero _)⟩, trivial⟩
 | n + 1 => by
  have ih := all_sz_prog  n
  exact ⟨ok_laws_szProg n ⟨good_laws_szExpr, ih.2.1, trivial⟩, ok_laws_szProgS n ⟨ih.1, trivial⟩, trivial⟩
theorem good_laws_szProg  : Ctr.Good k_laws_szProg :=
 ⟨fnOk_of at_laws_szProg rfl (by decide), fun x left hp => (all_sz_prog  (msz x + 1)).1.2 x left (⟨Nat.lt_succ_self _, hp⟩)⟩
def sz_triple (x : GTriple) : Nat := (sz_expr x.pre) + (sz_prog x.prog) + (sz_expr x.post)
theorem sz_triple_eq (x : GTriple) : sz_triple x = (sz_expr x.pre) + (sz_prog x.prog) + (sz_expr x.post) := rfl
def k_laws_szTriple : Ctr := ⟨n_laws_szTriple, [.v (.st .triple), .v (.int .i64)], fun (x : GTriple) (left : Int) => ⟨(some (0 ≤ left ∧ left ≤ 1048576), [⟨(.int .i64), szR (sz_triple x) left⟩])⟩⟩
def l_laws_szTriple (x : GTriple) (left : Int) : Nat → LoopInv := fun _ => .none
theorem vc_laws_szTriple (x : GTriple) (left : Int) : awp (envOf [k_laws_szExpr, k_laws_szProg] [] [] [2]) (bodyOf f_laws_szTriple) (l_laws_szTriple x left) 0 (funPost (envOf [k_laws_szExpr, k_laws_szProg] [] [] [2]) f_laws_szTriple fun r => areEq r [⟨(.int .i64), szR (sz_triple x) left⟩]) (startState f_laws_szTriple [.val ⟨(.st .triple), x⟩, .val ⟨(.int .i64), left⟩]) =
 (((0 ≤ left ∧ left ≤ 1048576) ∧ (inI64 (szR (sz_expr x.pre) left) →
 (((decide ((szR (sz_expr x.pre) left) < (0 : Int))) = true →
 (-1 : Int) = (szR (sz_triple x) left)) ∧ ((decide ((szR (sz_expr x.pre) left) < (0 : Int))) = false →
 ((0 ≤ (szR (sz_expr x.pre) left) ∧ (szR (sz_expr x.pre) left) ≤ 1048576) ∧ (inI64 (szR (sz_prog x.prog) (szR (sz_expr x.pre) left)) →
 (((decide ((szR (sz_prog x.prog) (szR (sz_expr x.pre) left)) < (0 : Int))) = true →
 (-1 : Int) = (szR (sz_triple x) left)) ∧ ((decide ((szR (sz_prog x.prog) (szR (sz_expr x.pre) left)) < (0 : Int))) = false →
 ((0 ≤ (szR (sz_prog x.prog) (szR (sz_expr x.pre) left)) ∧ (szR (sz_prog x.prog) (szR (sz_expr x.pre) left)) ≤ 1048576) ∧ (inI64 (szR (sz_expr x.post) (szR (sz_prog x.prog) (szR (sz_expr x.pre) left))) →
 (((decide ((szR (sz_expr x.post) (szR (sz_prog x.prog) (szR (sz_expr x.pre) left))) < (0 : Int))) = true →
 (-1 : Int) = (szR (sz_triple x) left)) ∧ ((decide ((szR (sz_expr x.post) (szR (sz_prog x.prog) (szR (sz_expr x.pre) left))) < (0 : Int))) = false →
 (szR (sz_expr x.post) (szR (sz_prog x.prog) (szR (sz_expr x.pre) left))) = (szR (sz_triple x) left)))))))))))))) := by kernel_rfl
theorem ok_laws_szTriple (hE : AllGood [k_laws_szExpr, k_laws_szProg]) : Ctr.Good k_laws_szTriple := by
 refine ⟨fnOk_of at_laws_szTriple rfl (by decide), ?_⟩
 show ∀ (x : GTriple) (left : Int), (0 ≤ left ∧ left ≤ 1048576) → OkCall prog n_laws_szTriple [.val ⟨(.st .triple), x⟩, .val ⟨(.int .i64), left⟩] (· = [⟨(.int .i64), szR (sz_triple x) left⟩])
 intro x left hp
 refine ok_of_awp (wr := []) (cl := []) (ro := [2]) hE at_laws_szTriple body_laws_szTriple (l_laws_szTriple x left) ?_
 rewrite [vc_laws_szTriple x left]
 have f0 := szR_or (sz_expr x.pre) (left)
 have f1 := szR_or (sz_prog x.prog) (szR (sz_expr x.pre) left)
 have f2 := szR_or (sz_expr x.post) (szR (sz_prog x.prog) (szR (sz_expr x.pre) left))
 have fz := szR_or ((sz_expr x.pre) + (sz_prog x.prog) + (sz_expr x.post)) left
 refine ⟨?_, fun a0 => ⟨fun a1 => ?_, fun a1 => ⟨?_, fun a2 => ⟨fun a3 => ?_, fun a3 => ⟨?_, fun a4 => ⟨fun a5 => ?_, fun a5 => ?_⟩⟩⟩⟩⟩⟩
 all_goals try and_intros
 all_goals try rw [sz_triple_eq]
 all_goals first | rfl | trivial | omega | (simp only [decide_eq_true_eq, decide_eq_false_iff_not, idxOk, inI64, inKind, cutOk, makeOk, roomOk] at *; omega) | (simp [idxOk, inI64] at *; omega) | grind
theorem good_laws_szTriple : Ctr.Good k_laws_szTriple := ok_laws_szTriple ⟨good_laws_szExpr, good_laws_szProg, trivial⟩
end
end Go.Proofs.YtkogipcdjalehaaDoor

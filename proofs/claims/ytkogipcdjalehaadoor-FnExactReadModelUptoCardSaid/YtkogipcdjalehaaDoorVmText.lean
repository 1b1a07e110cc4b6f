/- Texts of expressions. Printed by vmk.py. -/
import Derived.Test.YtkogipcdjalehaaDoorVmUse
import Derived.Test.YtkogipcdjalehaaDoorVmLib
import Derived.Test.YtkogipcdjalehaaDoorVmShaped
import Derived.Test.YtkogipcdjalehaaDoorVmValid
import Derived.Test.YtkogipcdjalehaaDoorVmWe
set_option linter.unusedVariables false
set_option linter.unusedSimpArgs false
set_option linter.unusedSectionVars false
set_option maxRecDepth 4000
set_option maxHeartbeats 4000000
namespace Go.Proofs.YtkogipcdjalehaaDoor
noncomputable section
open Go.RowKit Go.Proofs
def dig (n : Int) : List UInt8 := Lib.decDigits n.toNat
def tyE (k n : Int) (p q : List UInt8) : List UInt8 := if k = 1 then [48] else if k = 2 then [49] else if k = 3 then 116 :: dig n else if k = 4 then 97 :: dig n else if k = 5 then 126 :: p
 else if k = 6 then [40] ++ (p ++ ([32, 43, 32] ++ (q ++ [41]))) else if k = 7 then [40] ++ (p ++ ([32] ++ (q ++ [41]))) else p ++ [42]
mutual
def txE : GExpr → List UInt8
 | ⟨k, n, ks⟩ => tyE k n ((txEs ks).getD 0 []) ((txEs ks).getD 1 [])
def txEs : List GExpr → List (List UInt8)
 | [] => []
 | k :: ks => txE k :: txEs ks
end
def goodT (x : GExpr) : Bool := treeE 9 9 x
theorem dig_len (n : Int) (h : 0 ≤ n ∧ n ≤ 9) : (dig n).length = 1 := by
 unfold dig
 rw [Lib.decDigits_one (by omega)]; rfl
theorem below_keeps {w w' : World} (h : Below w.heap.size w w') : Keeps (fun _ => False) w w' := ⟨h.os, h.tape, h.output, h.size, fun b hb _ => h.block b hb⟩
theorem rd_str {w : World} {S : Nat → Prop} (l : List UInt8) (h : l.length ≤ 140737488355328) : RdV w S ⟨.str, l⟩ (.string ⟨l.toArray⟩) :=
 ⟨⟨l.toArray⟩, rfl, by simp, by simpa [ByteArray.size] using h⟩
def k_spec_Decimal : Ctr := ⟨n_spec_Decimal, [.v (.int .i64)], fun (n : Int) => ⟨(some (0 ≤ n ∧ n ≤ 9), [⟨.str, dig n⟩])⟩⟩
set_option maxRecDepth 100000 in
theorem Decimal_walk (n : Nat) (h : n < 10) (w : World) :
  Calls Tryd.prog 96 #[.int .i64 n] w fun e w' => e = .returned (.string ⟨(Lib.decDigits n).toArray⟩) ∧ Below w.heap.size w w' := by
 rw [Lib.decDigits_one h]
 have hn : ¬ (10 : Int) ≤ (n : Int) := by omega
 go_enter Tryd.func96, Tryd.ntmps96
 go_wp2
 rw [show (convert 145 9 (.slice (some ⟨w.heap.size, 0, none⟩) 1 1)).run Tryd.prog (w.alloc (.cells #[.int .u8 (48 + (n : Int))] 5)) = _ from run_convert_bytes_back _ 145 9 5 ⟨w.heap.size, 0, none⟩ 1 [UInt8.ofNat (48 + n)] Tryd.underlying145 Tryd.underlying5 Tryd.underlying9 (by
  intro j hj
  have hj0 : j = 0 := by simpa using hj
  subst hj0
  show World.cell? _ ⟨w.heap.size, 0, none⟩ = _
  rw [Lib.cell_of_heap (heap_alloc_new w _)]
  have e : (UInt8.ofNat (48 + n)).toNat = 48 + n := by rw [UInt8.toNat_ofNat']; omega
  simp [e]
  omega)]
 simp only [Result.andThen]
 rw [Oper.upon_value]
 go_wp2
 go_ret
 exact ⟨by first | rfl | (simp; done) | (show Ending.returned (.string ⟨#[48 + UInt8.ofNat n]⟩) = _; rw [UInt8.ofNat_add]; rfl), (Below.refl _ w).alloc (Nat.le_refl _) _⟩
theorem good_spec_Decimal : Ctr.Good k_spec_Decimal := by
 refine ⟨fnOk_of at_spec_Decimal rfl (by decide), ?_⟩
 intro (n : Int) hp w S vals ⟨hS, _⟩ ha
 match vals, ha with
 | [v], ha =>
  obtain ⟨⟨hv, _⟩, _⟩ := ha
  simp only [List.cons.injEq, and_true] at hv
  have hp : 0 ≤ n ∧ n ≤ 9 := hp
  subst hv
  have := Decimal_walk n.toNat (by omega) w
  rw [show ((n.toNat : Nat) : Int) = n by omega] at this
  refine this.mono ?_
  rintro e w' ⟨rfl, hb⟩
  exact ⟨_, S, _, rfl, rfl, below_keeps hb, fun _ _ => Iff.rfl, fun b h => Nat.lt_of_lt_of_le (hS b h) hb.size, rd_str (w := w') (S := S) (dig n) (by rw [dig_len n hp]; decide)⟩
def k_impl_decimal : Ctr := ⟨n_impl_decimal, [.v (.int .i64)], fun (n : Int) => ⟨(some (0 ≤ n ∧ n ≤ 9), [⟨.str, dig n⟩])⟩⟩
theorem good_impl_decimal : Ctr.Good k_impl_decimal := by
 refine ⟨fnOk_of at_impl_decimal rfl (by decide), ?_⟩
 intro (n : Int) hp w S vals ⟨hS, _⟩ ha
 match vals, ha with
 | [v], ha =>
  obtain ⟨⟨hv, _⟩, _⟩ := ha
  simp only [List.cons.injEq, and_true] at hv
  have hp : 0 ≤ n ∧ n ≤ 9 := hp
  subst hv
  have := decimal_small n.toNat (by omega) w
  rw [show ((n.toNat : Nat) : Int) = n by omega] at this
  refine this.mono ?_
  rintro e w' ⟨rfl, rfl⟩
  exact ⟨_, S, _, rfl, rfl, Keeps.refl _ _, fun _ _ => Iff.rfl, hS, rd_str (w := w') (S := S) (dig n) (by rw [dig_len n hp]; decide)⟩
def tk (x : GExpr) (i : Nat) : GExpr := x.kids.getD i zE
structure TK (x : GExpr) (i : Nat) : Prop where
 good : goodT (x.kids.getD i zE) = true
 less : msz (x.kids.getD i zE) < msz x
 len : (txE (x.kids.getD i zE)).length ≤ (txE x).length
end
end Go.Proofs.YtkogipcdjalehaaDoor

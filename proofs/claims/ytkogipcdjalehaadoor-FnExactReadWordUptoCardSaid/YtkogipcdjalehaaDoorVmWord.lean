/- Words are read. Printed by vmk.py. -/
import Derived.Test.YtkogipcdjalehaaDoorVmUse
import Derived.Test.YtkogipcdjalehaaDoorVmLib
import Derived.Test.YtkogipcdjalehaaDoorVmValid
import Derived.Test.YtkogipcdjalehaaDoorVmSplit
set_option linter.unusedVariables false
set_option linter.unusedSimpArgs false
set_option linter.unusedSectionVars false
set_option maxRecDepth 4000
set_option maxHeartbeats 4000000
namespace Go.Proofs.YtkogipcdjalehaaDoor
noncomputable section
def isDig (b : UInt8) : Bool := decide (48 ≤ b.toNat) && decide (b.toNat ≤ 57)
def decV (s : List UInt8) : Int := s.foldl (fun n b => n * 10 + ((b.toNat : Int) - 48)) 0
def numB (m : Int) (s : List UInt8) : Bool := decide (1 ≤ s.length) && decide ((s.length : Int) ≤ m) && !(decide (1 < s.length) && decide ((s.getD 0 0).toNat = 48)) && allL isDig s
def numV (m : Int) (s : List UInt8) : Int := bif numB m s then decV s else 0
theorem decV_snoc (s : List UInt8) (k : Nat) (h : k < s.length) : decV (s.take (k + 1)) = decV (s.take k) * 10 + (((s.getD k 0).toNat : Int) - 48) := by
 rw [take_snoc 0 s k h]
 simp [decV, List.foldl_append]
theorem decV_le : ∀ (k : Nat) (s : List UInt8), k ≤ s.length → allL isDig (s.take k) = true → 0 ≤ decV (s.take k) ∧ decV (s.take k) < 10 ^ k
 | 0, s, _, _ => by simp [decV]
 | k + 1, s, h, ha => by
  have h1 := all_take isDig 0 s k (by omega)
  rw [ha] at h1
  have h1' := h1.symm
  simp only [Bool.and_eq_true] at h1'
  obtain ⟨h2, h3⟩ := h1'
  have ih := decV_le k s (by omega) h2
  rw [decV_snoc s k (by omega)]
  simp only [isDig, Bool.and_eq_true, decide_eq_true_eq] at h3
  have : (10 : Int) ^ (k + 1) = 10 ^ k * 10 := by rw [Int.pow_succ]
  omega
theorem decV_small (s : List UInt8) (k : Nat) (h : k ≤ s.length) (h9 : s.length ≤ 9) (ha : allL isDig (s.take k) = true) : 0 ≤ decV (s.take k) ∧ decV (s.take k) ≤ 1000000000 := by
 have := decV_le k s h ha
 have h2 : (10 : Int) ^ k ≤ 10 ^ 9 := by
  have : (10 : Nat) ^ k ≤ 10 ^ 9 := Nat.pow_le_pow_right (by decide) (by omega)
  exact_mod_cast this
 omega
theorem dig_at (s : List UInt8) (k : Nat) : isDig (s.getD k 0) = (decide (48 ≤ (s.getD k 0).toNat) && decide ((s.getD k 0).toNat ≤ 57)) := rfl
theorem u8_min : IntKind.u8.min = 0 := rfl
theorem u8_max : IntKind.u8.max = 255 := rfl
theorem inKind_u8 (n : Int) : inKind .u8 n ↔ 0 ≤ n ∧ n ≤ 255 := Iff.rfl
theorem inKind_i64' (n : Int) : inKind .i64 n ↔ inI64 n := Iff.rfl
theorem numB_eq (m : Int) (s : List UInt8) : numB m s = (decide (1 ≤ s.length) && decide ((s.length : Int) ≤ m) && !(decide (1 < s.length) && decide ((s.getD 0 0).toNat = 48)) && allL isDig s) := rfl
theorem num_no (m : Int) (s : List UInt8) (h : ¬ (1 ≤ s.length ∧ (s.length : Int) ≤ m ∧ ¬ (1 < s.length ∧ (s.getD 0 0).toNat = 48))) : numV m s = 0 ∧ numB m s = false := by
 have e : numB m s = false := by
  cases hb : numB m s with
  | false => rfl
  | true =>
   rw [numB_eq] at hb
   simp only [Bool.and_eq_true, decide_eq_true_eq, Bool.not_eq_true', Bool.and_eq_false_iff, decide_eq_false_iff_not] at hb
   exact absurd ⟨hb.1.1.1, hb.1.1.2, fun h => by rcases hb.1.2 with g | g <;> omega⟩ h
 exact ⟨by simp [numV, e], e⟩
structure numQ (m : Int) (s : List UInt8) (k : Nat) : Prop where
 len : k ≤ s.length ∧ s.length ≤ 9
 ok : 1 ≤ s.length ∧ (s.length : Int) ≤ m ∧ ¬ (1 < s.length ∧ (s.getD 0 0).toNat = 48)
 all : allL isDig (s.take k) = true
theorem num_zero (m : Int) (s : List UInt8) (h : 1 ≤ s.length ∧ (s.length : Int) ≤ m ∧ ¬ (1 < s.length ∧ (s.getD 0 0).toNat = 48)) (hm : m ≤ 9) : numQ m s 0 :=
 ⟨⟨by omega, by omega⟩, h, by simp [allL]⟩
theorem num_bad (m : Int) (s : List UInt8) (k : Nat) (h : numQ m s k) (hk : k < s.length) (hb : (s.getD k 0).toNat < 48 ∨ 57 < (s.getD k 0).toNat) : numV m s = 0 ∧ numB m s = false := by
 have e : allL isDig s = false := all_bad isDig 0 s k hk (by rw [dig_at, Bool.and_eq_false_iff, decide_eq_false_iff_not, decide_eq_false_iff_not]; omega)
 have e' : numB m s = false := by rw [numB_eq, e]; simp
 exact ⟨by simp [numV, e'], e'⟩
theorem num_good (m : Int) (s : List UInt8) (k : Nat) (h : numQ m s k) (hk : k < s.length) (h1 : 48 ≤ (s.getD k 0).toNat) (h2 : (s.getD k 0).toNat ≤ 57) : numQ m s (k + 1) ∧ decV (s.take (k + 1)) = decV (s.take k) * 10 + (((s.getD k 0).toNat : Int) - 48) :=
 ⟨⟨⟨hk, h.len.2⟩, h.ok, by rw [all_take isDig 0 s k hk, h.all, dig_at, decide_eq_true h1, decide_eq_true h2]; rfl⟩, decV_snoc s k hk⟩
theorem num_end (m : Int) (s : List UInt8) (k : Nat) (h : numQ m s k) (hk : s.length ≤ k) : numV m s = decV (s.take k) ∧ numB m s = true := by
 have e : s.take k = s := List.take_of_length_le hk
 have ha := h.all
 rw [e] at ha
 have e' : numB m s = true := by
  rw [numB_eq, ha]
  have := h.ok
  simp only [Bool.and_eq_true, decide_eq_true_eq, Bool.not_eq_true', Bool.and_eq_false_iff, decide_eq_false_iff_not]
  exact ⟨⟨⟨this.1, this.2.1⟩, (Nat.lt_or_ge 1 s.length).elim (fun g => .inr (by omega)) (fun g => .inl (by omega))⟩, trivial⟩
 exact ⟨by rw [e]; simp [numV, e'], e'⟩
theorem num_le (m : Int) (s : List UInt8) (k : Nat) (h : numQ m s k) : k ≤ s.length ∧ 0 ≤ decV (s.take k) ∧ decV (s.take k) ≤ 1000000000 :=
 ⟨h.len.1, decV_small s k h.len.1 h.len.2 h.all⟩
def k_impl_number : Ctr := ⟨n_impl_number, [.v .str, .v (.int .i64)], fun (s : List UInt8) (m : Int) => ⟨(some (0 ≤ m ∧ m ≤ 9), [⟨(.int .i64), numV m s⟩, ⟨.bool, numB m s⟩])⟩⟩
def l_impl_number (s : List UInt8) (m : Int) : Nat → LoopInv := (fun zb => if Nat.beq zb 0 then .mk (Nat) (fun k => numQ m s k) (fun k => s.length - k) [] [1, 2, 3, 8, 9, 10, 11, 12, 13, 14, 15, 16, 17, 18, 19, 20, 21, 22, 23, 24, 25, 26, 27] (fun k => [(29, .imm ⟨(.int .i64), ((k : Int) : Int)⟩), (6, .imm ⟨(.int .i64), (decV (s.take k) : Int)⟩)]) [0, 4, 5, 6, 7, 28, 29, 30, 31, 32, 33, 34, 35, 36, 37, 38, 39, 40, 41, 42, 43, 44, 45, 46, 47, 48, 49, 50, 51] (fun k => []) [] [] (fun k => fun _ => .none) else .none)
abbrev j_impl_number_0 (s : List UInt8) (m : Int) (k1 : Nat) : Prop := (inI64 ((10 : Int) * (decV (s.take k1))) ∧ (idxOk (k1 : Int) s.length ∧ (inKind .u8 ((((s.getD k1 0).toNat : Int)) - (48 : Int)) ∧ (inI64 ((((s.getD k1 0).toNat : Int)) - (48 : Int)) ∧ (inI64 (((10 : Int) * (decV (s.take k1))) + ((((s.getD k1 0).toNat : Int)) - (48 : Int))) ∧ (inI64 ((k1 : Int) + (1 : Int)) ∧ (∃ k2 : Nat, (numQ m s k2 ∧ (s.length - k2 < s.length - k1 ∧ ((s = s ∧ ((((10 : Int) * (decV (s.take k1))) + ((((s.getD k1 0).toNat : Int)) - (48 : Int))) = (decV (s.take k2)) ∧ (((s.length : Int)) = ((s.length : Int)) ∧ (((k1 : Int) + (1 : Int)) = (k2 : Int) ∧ True)))) ∧ True))))))))))
abbrev j_impl_number_1 (s : List UInt8) (m : Int) : Prop := (inI64 ((s.length : Int)) →
 ((∃ k1 : Nat, (numQ m s k1 ∧ ((s = s ∧ ((0 : Int) = (decV (s.take k1)) ∧ (((s.length : Int)) = ((s.length : Int)) ∧ ((0 : Int) = (k1 : Int) ∧ True)))) ∧ True))) ∧ (∀ k1 : Nat, (numQ m s k1 →
 (((decide ((k1 : Int) < ((s.length : Int)))) = true →
 (idxOk (k1 : Int) s.length ∧ (((decide ((((s.getD k1 0).toNat : Int)) < (48 : Int))) = false →
 (idxOk (k1 : Int) s.length ∧ (((decide ((57 : Int) < (((s.getD k1 0).toNat : Int)))) = true →
 ((0 : Int) = (numV m s) ∧ false = (numB m s))) ∧ ((decide ((57 : Int) < (((s.getD k1 0).toNat : Int)))) = false →
 (j_impl_number_0 s m k1))))) ∧ ((decide ((((s.getD k1 0).toNat : Int)) < (48 : Int))) = (!false) →
 ((true = true →
 ((0 : Int) = (numV m s) ∧ false = (numB m s))) ∧ (true = false →
 (j_impl_number_0 s m k1))))))) ∧ ((decide ((k1 : Int) < ((s.length : Int)))) = false →
 ((decV (s.take k1)) = (numV m s) ∧ true = (numB m s))))))))
abbrev j_impl_number_2 (s : List UInt8) (m : Int) : Prop := (inI64 ((s.length : Int)) →
 (((decide ((1 : Int) < ((s.length : Int)))) = true →
 (idxOk (0 : Int) s.length ∧ (((decide ((((s.getD 0 0).toNat : Int)) = (48 : Int))) = true →
 ((0 : Int) = (numV m s) ∧ false = (numB m s))) ∧ ((decide ((((s.getD 0 0).toNat : Int)) = (48 : Int))) = false →
 (j_impl_number_1 s m))))) ∧ ((decide ((1 : Int) < ((s.length : Int)))) = (!true) →
 ((false = true →
 ((0 : Int) = (numV m s) ∧ false = (numB m s))) ∧ (false = false →
 (j_impl_number_1 s m))))))
theorem vc_impl_number (s : List UInt8) (m : Int) : awp (envOf []) (bodyOf f_impl_number) (l_impl_number s m) 0 (funPost (envOf []) f_impl_number fun r => areEq r [⟨(.int .i64), numV m s⟩, ⟨.bool, numB m s⟩]) (startState f_impl_number [.val ⟨.str, s⟩, .val ⟨(.int .i64), m⟩]) =
 ((inI64 ((s.length : Int)) →
 (((decide (((s.length : Int)) < (1 : Int))) = false →
 (inI64 ((s.length : Int)) →
 (((decide (m < ((s.length : Int)))) = false →
 (j_impl_number_2 s m)) ∧ ((decide (m < ((s.length : Int)))) = (!false) →
 ((true = true →
 ((0 : Int) = (numV m s) ∧ false = (numB m s))) ∧ (true = false →
 (j_impl_number_1 s m))))))) ∧ ((decide (((s.length : Int)) < (1 : Int))) = (!false) →
 ((true = false →
 (j_impl_number_2 s m)) ∧ (true = (!false) →
 ((true = true →
 ((0 : Int) = (numV m s) ∧ false = (numB m s))) ∧ (true = false →
 (j_impl_number_1 s m))))))))) := by kernel_rfl
theorem ok_impl_number (hE : AllGood []) : Ctr.Good k_impl_number := by
 refine ⟨fnOk_of at_impl_number rfl (by decide), ?_⟩
 show ∀ (s : List UInt8) (m : Int), (0 ≤ m ∧ m ≤ 9) → OkCall prog n_impl_number [.val ⟨.str, s⟩, .val ⟨(.int .i64), m⟩] (· = [⟨(.int .i64), numV m s⟩, ⟨.bool, numB m s⟩])
 intro s m hp
 refine ok_of_awp (wr := []) (cl := []) (ro := []) hE at_impl_number body_impl_number (l_impl_number s m) ?_
 rewrite [vc_impl_number s m]
 have f1 : decV (s.take 0) = 0 := by simp [decV]
 refine fun a0 => ⟨fun a1 => fun a2 => ⟨fun a3 => fun a4 => ⟨fun a5 => ⟨?_, ⟨fun a6 => ⟨?_, ?_⟩, fun a6 => fun a7 => ⟨⟨0, ⟨?_, ⟨⟨rfl, ⟨?_, ⟨rfl, ⟨?_, trivial⟩⟩⟩⟩, trivial⟩⟩⟩, fun k1 => fun a8 => ⟨fun a9 => ⟨?_, ⟨fun a10 => ⟨?_, ⟨fun a11 => ⟨?_, ?_⟩, fun a11 => ⟨?_, ⟨?_, ⟨?_, ⟨?_, ⟨?_, ⟨?_, ⟨k1 + 1, ⟨?_, ⟨?_, ⟨⟨rfl, ⟨?_, ⟨rfl, ⟨?_, trivial⟩⟩⟩⟩, trivial⟩⟩⟩⟩⟩⟩⟩⟩⟩⟩⟩⟩, fun a10 => ⟨fun a11 => ⟨?_, ?_⟩, fun a11 => ⟨?_, ⟨?_, ⟨?_, ⟨?_, ⟨?_, ⟨?_, ⟨k1 + 1, ⟨?_, ⟨?_, ⟨⟨rfl, ⟨?_, ⟨rfl, ⟨?_, trivial⟩⟩⟩⟩, trivial⟩⟩⟩⟩⟩⟩⟩⟩⟩⟩⟩⟩⟩, fun a9 => ⟨?_, ?_⟩⟩⟩⟩⟩, fun a5 => ⟨fun a6 => ⟨?_, ?_⟩, fun a6 => fun a7 => ⟨⟨0, ⟨?_, ⟨⟨rfl, ⟨?_, ⟨rfl, ⟨?_, trivial⟩⟩⟩⟩, trivial⟩⟩⟩, fun k1 => fun a8 => ⟨fun a9 => ⟨?_, ⟨fun a10 => ⟨?_, ⟨fun a11 => ⟨?_, ?_⟩, fun a11 => ⟨?_, ⟨?_, ⟨?_, ⟨?_, ⟨?_, ⟨?_, ⟨k1 + 1, ⟨?_, ⟨?_, ⟨⟨rfl, ⟨?_, ⟨rfl, ⟨?_, trivial⟩⟩⟩⟩, trivial⟩⟩⟩⟩⟩⟩⟩⟩⟩⟩⟩⟩, fun a10 => ⟨fun a11 => ⟨?_, ?_⟩, fun a11 => ⟨?_, ⟨?_, ⟨?_, ⟨?_, ⟨?_, ⟨?_, ⟨k1 + 1, ⟨?_, ⟨?_, ⟨⟨rfl, ⟨?_, ⟨rfl, ⟨?_, trivial⟩⟩⟩⟩, trivial⟩⟩⟩⟩⟩⟩⟩⟩⟩⟩⟩⟩⟩, fun a9 => ⟨?_, ?_⟩⟩⟩⟩⟩, fun a3 => ⟨fun a4 => ⟨?_, ?_⟩, fun a4 => fun a5 => ⟨⟨0, ⟨?_, ⟨⟨rfl, ⟨?_, ⟨rfl, ⟨?_, trivial⟩⟩⟩⟩, trivial⟩⟩⟩, fun k1 => fun a6 => ⟨fun a7 => ⟨?_, ⟨fun a8 => ⟨?_, ⟨fun a9 => ⟨?_, ?_⟩, fun a9 => ⟨?_, ⟨?_, ⟨?_, ⟨?_, ⟨?_, ⟨?_, ⟨k1 + 1, ⟨?_, ⟨?_, ⟨⟨rfl, ⟨?_, ⟨rfl, ⟨?_, trivial⟩⟩⟩⟩, trivial⟩⟩⟩⟩⟩⟩⟩⟩⟩⟩⟩⟩, fun a8 => ⟨fun a9 => ⟨?_, ?_⟩, fun a9 => ⟨?_, ⟨?_, ⟨?_, ⟨?_, ⟨?_, ⟨?_, ⟨k1 + 1, ⟨?_, ⟨?_, ⟨⟨rfl, ⟨?_, ⟨rfl, ⟨?_, trivial⟩⟩⟩⟩, trivial⟩⟩⟩⟩⟩⟩⟩⟩⟩⟩⟩⟩⟩, fun a7 => ⟨?_, ?_⟩⟩⟩⟩⟩, fun a1 => ⟨fun a2 => fun a3 => ⟨fun a4 => ⟨?_, ⟨fun a5 => ⟨?_, ?_⟩, fun a5 => fun a6 => ⟨⟨0, ⟨?_, ⟨⟨rfl, ⟨?_, ⟨rfl, ⟨?_, trivial⟩⟩⟩⟩, trivial⟩⟩⟩, fun k1 => fun a7 => ⟨fun a8 => ⟨?_, ⟨fun a9 => ⟨?_, ⟨fun a10 => ⟨?_, ?_⟩, fun a10 => ⟨?_, ⟨?_, ⟨?_, ⟨?_, ⟨?_, ⟨?_, ⟨k1 + 1, ⟨?_, ⟨?_, ⟨⟨rfl, ⟨?_, ⟨rfl, ⟨?_, trivial⟩⟩⟩⟩, trivial⟩⟩⟩⟩⟩⟩⟩⟩⟩⟩⟩⟩, fun a9 => ⟨fun a10 => ⟨?_, ?_⟩, fun a10 => ⟨?_, ⟨?_, ⟨?_, ⟨?_, ⟨?_, ⟨?_, ⟨k1 + 1, ⟨?_, ⟨?_, ⟨⟨rfl, ⟨?_, ⟨rfl, ⟨?_, trivial⟩⟩⟩⟩, trivial⟩⟩⟩⟩⟩⟩⟩⟩⟩⟩⟩⟩⟩, fun a8 => ⟨?_, ?_⟩⟩⟩⟩⟩, fun a4 => ⟨fun a5 => ⟨?_, ?_⟩, fun a5 => fun a6 => ⟨⟨0, ⟨?_, ⟨⟨rfl, ⟨?_, ⟨rfl, ⟨?_, trivial⟩⟩⟩⟩, trivial⟩⟩⟩, fun k1 => fun a7 => ⟨fun a8 => ⟨?_, ⟨fun a9 => ⟨?_, ⟨fun a10 => ⟨?_, ?_⟩, fun a10 => ⟨?_, ⟨?_, ⟨?_, ⟨?_, ⟨?_, ⟨?_, ⟨k1 + 1, ⟨?_, ⟨?_, ⟨⟨rfl, ⟨?_, ⟨rfl, ⟨?_, trivial⟩⟩⟩⟩, trivial⟩⟩⟩⟩⟩⟩⟩⟩⟩⟩⟩⟩, fun a9 => ⟨fun a10 => ⟨?_, ?_⟩, fun a10 => ⟨?_, ⟨?_, ⟨?_, ⟨?_, ⟨?_, ⟨?_, ⟨k1 + 1, ⟨?_, ⟨?_, ⟨⟨rfl, ⟨?_, ⟨rfl, ⟨?_, trivial⟩⟩⟩⟩, trivial⟩⟩⟩⟩⟩⟩⟩⟩⟩⟩⟩⟩⟩, fun a8 => ⟨?_, ?_⟩⟩⟩⟩⟩, fun a2 => ⟨fun a3 => ⟨?_, ?_⟩, fun a3 => fun a4 => ⟨⟨0, ⟨?_, ⟨⟨rfl, ⟨?_, ⟨rfl, ⟨?_, trivial⟩⟩⟩⟩, trivial⟩⟩⟩, fun k1 => fun a5 => ⟨fun a6 => ⟨?_, ⟨fun a7 => ⟨?_, ⟨fun a8 => ⟨?_, ?_⟩, fun a8 => ⟨?_, ⟨?_, ⟨?_, ⟨?_, ⟨?_, ⟨?_, ⟨k1 + 1, ⟨?_, ⟨?_, ⟨⟨rfl, ⟨?_, ⟨rfl, ⟨?_, trivial⟩⟩⟩⟩, trivial⟩⟩⟩⟩⟩⟩⟩⟩⟩⟩⟩⟩, fun a7 => ⟨fun a8 => ⟨?_, ?_⟩, fun a8 => ⟨?_, ⟨?_, ⟨?_, ⟨?_, ⟨?_, ⟨?_, ⟨k1 + 1, ⟨?_, ⟨?_, ⟨⟨rfl, ⟨?_, ⟨rfl, ⟨?_, trivial⟩⟩⟩⟩, trivial⟩⟩⟩⟩⟩⟩⟩⟩⟩⟩⟩⟩⟩, fun a6 => ⟨?_, ?_⟩⟩⟩⟩⟩⟩
 all_goals try and_intros
 all_goals first | rfl | trivial | omega | ((try simp only [Bool.not_true, Bool.not_false, decide_eq_true_eq, decide_eq_false_iff_not, idxOk, inKind_u8, inKind_i64', inI64, u8_min, u8_max] at *); first | omega | exact (num_no m s (by omega)).1.symm | exact (num_no m s (by omega)).2.symm | exact num_zero m s (by omega) (by omega) | (have hq : numQ m s k1 := (by with_reducible assumption); have hl := num_le m s k1 hq; first | omega | exact (num_bad m s k1 hq (by omega) (by omega)).1.symm | exact (num_bad m s k1 hq (by omega) (by omega)).2.symm | exact (num_good m s k1 hq (by omega) (by omega) (by omega)).1 | exact (num_good m s k1 hq (by omega) (by omega) (by omega)).2.symm | (rw [(num_good m s k1 hq (by omega) (by omega) (by omega)).2]; omega) | exact (num_end m s k1 hq (by omega)).1.symm | exact (num_end m s k1 hq (by omega)).2.symm))
theorem good_impl_number : Ctr.Good k_impl_number := ok_impl_number trivial
def k_spec_l01Number : Ctr := ⟨n_spec_l01Number, [.v .str], fun (s : List UInt8) => ⟨(none, [⟨(.int .i64), numV 9 s⟩, ⟨.bool, numB 9 s⟩])⟩⟩
def l_spec_l01Number (s : List UInt8) : Nat → LoopInv := (fun zb => if Nat.beq zb 0 then .mk (Nat) (fun k => numQ 9 s k) (fun k => s.length - k) [] [1, 6, 7, 8, 9, 10, 11, 12, 13, 14, 15, 16, 17, 18, 19, 20, 21, 22, 23] (fun k => [(5, .imm ⟨(.int .i64), ((k : Int) : Int)⟩), (4, .imm ⟨(.int .i64), (decV (s.take k) : Int)⟩)]) [0, 2, 3, 4, 5, 24, 25, 26, 27, 28, 29, 30, 31, 32, 33, 34, 35, 36, 37, 38, 39, 40, 41, 42, 43, 44, 45, 46, 47, 48] (fun k => []) [] [] (fun k => fun _ => .none) else .none)
abbrev j_spec_l01Number_0 (s : List UInt8) (k1 : Nat) : Prop := (inI64 ((decV (s.take k1)) * (10 : Int)) ∧ (idxOk (k1 : Int) s.length ∧ (inKind .u8 ((((s.getD k1 0).toNat : Int)) - (48 : Int)) ∧ (inI64 ((((s.getD k1 0).toNat : Int)) - (48 : Int)) ∧ (inI64 (((decV (s.take k1)) * (10 : Int)) + ((((s.getD k1 0).toNat : Int)) - (48 : Int))) ∧ (inI64 ((k1 : Int) + (1 : Int)) ∧ (∃ k2 : Nat, (numQ 9 s k2 ∧ (s.length - k2 < s.length - k1 ∧ ((s = s ∧ ((((decV (s.take k1)) * (10 : Int)) + ((((s.getD k1 0).toNat : Int)) - (48 : Int))) = (decV (s.take k2)) ∧ (((k1 : Int) + (1 : Int)) = (k2 : Int) ∧ True))) ∧ True))))))))))
abbrev j_spec_l01Number_1 (s : List UInt8) : Prop := ((∃ k1 : Nat, (numQ 9 s k1 ∧ ((s = s ∧ ((0 : Int) = (decV (s.take k1)) ∧ ((0 : Int) = (k1 : Int) ∧ True))) ∧ True))) ∧ (∀ k1 : Nat, (numQ 9 s k1 →
 (inI64 ((s.length : Int)) →
 (((decide ((k1 : Int) < ((s.length : Int)))) = true →
 (idxOk (k1 : Int) s.length ∧ (((decide ((((s.getD k1 0).toNat : Int)) < (48 : Int))) = false →
 (idxOk (k1 : Int) s.length ∧ (((decide ((57 : Int) < (((s.getD k1 0).toNat : Int)))) = true →
 ((0 : Int) = (numV 9 s) ∧ false = (numB 9 s))) ∧ ((decide ((57 : Int) < (((s.getD k1 0).toNat : Int)))) = false →
 (j_spec_l01Number_0 s k1))))) ∧ ((decide ((((s.getD k1 0).toNat : Int)) < (48 : Int))) = (!false) →
 ((true = true →
 ((0 : Int) = (numV 9 s) ∧ false = (numB 9 s))) ∧ (true = false →
 (j_spec_l01Number_0 s k1))))))) ∧ ((decide ((k1 : Int) < ((s.length : Int)))) = false →
 ((decV (s.take k1)) = (numV 9 s) ∧ true = (numB 9 s))))))))
abbrev j_spec_l01Number_2 (s : List UInt8) : Prop := (idxOk (0 : Int) s.length ∧ (((decide ((((s.getD 0 0).toNat : Int)) = (48 : Int))) = true →
 (inI64 ((s.length : Int)) →
 (((decide ((1 : Int) < ((s.length : Int)))) = true →
 ((0 : Int) = (numV 9 s) ∧ false = (numB 9 s))) ∧ ((decide ((1 : Int) < ((s.length : Int)))) = false →
 (j_spec_l01Number_1 s))))) ∧ ((decide ((((s.getD 0 0).toNat : Int)) = (48 : Int))) = (!true) →
 ((false = true →
 ((0 : Int) = (numV 9 s) ∧ false = (numB 9 s))) ∧ (false = false →
 (j_spec_l01Number_1 s))))))
theorem vc_spec_l01Number (s : List UInt8) : awp (envOf []) (bodyOf f_spec_l01Number) (l_spec_l01Number s) 0 (funPost (envOf []) f_spec_l01Number fun r => areEq r [⟨(.int .i64), numV 9 s⟩, ⟨.bool, numB 9 s⟩]) (startState f_spec_l01Number [.val ⟨.str, s⟩]) =
 ((inI64 ((s.length : Int)) →
 (((decide (((s.length : Int)) < (1 : Int))) = false →
 (inI64 ((s.length : Int)) →
 (((decide ((9 : Int) < ((s.length : Int)))) = false →
 (j_spec_l01Number_2 s)) ∧ ((decide ((9 : Int) < ((s.length : Int)))) = (!false) →
 ((true = true →
 ((0 : Int) = (numV 9 s) ∧ false = (numB 9 s))) ∧ (true = false →
 (j_spec_l01Number_1 s))))))) ∧ ((decide (((s.length : Int)) < (1 : Int))) = (!false) →
 ((true = false →
 (j_spec_l01Number_2 s)) ∧ (true = (!false) →
 ((true = true →
 ((0 : Int) = (numV 9 s) ∧ false = (numB 9 s))) ∧ (true = false →
 (j_spec_l01Number_1 s))))))))) := by kernel_rfl
theorem ok_spec_l01Number (hE : AllGood []) : Ctr.Good k_spec_l01Number := by
 refine ⟨fnOk_of at_spec_l01Number rfl (by decide), ?_⟩
 show ∀ (s : List UInt8), True → OkCall prog n_spec_l01Number [.val ⟨.str, s⟩] (· = [⟨(.int .i64), numV 9 s⟩, ⟨.bool, numB 9 s⟩])
 intro s _
 refine ok_of_awp (wr := []) (cl := []) (ro := []) hE at_spec_l01Number body_spec_l01Number (l_spec_l01Number s) ?_
 rewrite [vc_spec_l01Number s]
 have f1 : decV (s.take 0) = 0 := by simp [decV]
 refine fun a0 => ⟨fun a1 => fun a2 => ⟨fun a3 => ⟨?_, ⟨fun a4 => fun a5 => ⟨fun a6 => ⟨?_, ?_⟩, fun a6 => ⟨⟨0, ⟨?_, ⟨⟨rfl, ⟨?_, ⟨?_, trivial⟩⟩⟩, trivial⟩⟩⟩, fun k1 => fun a7 => fun a8 => ⟨fun a9 => ⟨?_, ⟨fun a10 => ⟨?_, ⟨fun a11 => ⟨?_, ?_⟩, fun a11 => ⟨?_, ⟨?_, ⟨?_, ⟨?_, ⟨?_, ⟨?_, ⟨k1 + 1, ⟨?_, ⟨?_, ⟨⟨rfl, ⟨?_, ⟨?_, trivial⟩⟩⟩, trivial⟩⟩⟩⟩⟩⟩⟩⟩⟩⟩⟩⟩, fun a10 => ⟨fun a11 => ⟨?_, ?_⟩, fun a11 => ⟨?_, ⟨?_, ⟨?_, ⟨?_, ⟨?_, ⟨?_, ⟨k1 + 1, ⟨?_, ⟨?_, ⟨⟨rfl, ⟨?_, ⟨?_, trivial⟩⟩⟩, trivial⟩⟩⟩⟩⟩⟩⟩⟩⟩⟩⟩⟩⟩, fun a9 => ⟨?_, ?_⟩⟩⟩⟩, fun a4 => ⟨fun a5 => ⟨?_, ?_⟩, fun a5 => ⟨⟨0, ⟨?_, ⟨⟨rfl, ⟨?_, ⟨?_, trivial⟩⟩⟩, trivial⟩⟩⟩, fun k1 => fun a6 => fun a7 => ⟨fun a8 => ⟨?_, ⟨fun a9 => ⟨?_, ⟨fun a10 => ⟨?_, ?_⟩, fun a10 => ⟨?_, ⟨?_, ⟨?_, ⟨?_, ⟨?_, ⟨?_, ⟨k1 + 1, ⟨?_, ⟨?_, ⟨⟨rfl, ⟨?_, ⟨?_, trivial⟩⟩⟩, trivial⟩⟩⟩⟩⟩⟩⟩⟩⟩⟩⟩⟩, fun a9 => ⟨fun a10 => ⟨?_, ?_⟩, fun a10 => ⟨?_, ⟨?_, ⟨?_, ⟨?_, ⟨?_, ⟨?_, ⟨k1 + 1, ⟨?_, ⟨?_, ⟨⟨rfl, ⟨?_, ⟨?_, trivial⟩⟩⟩, trivial⟩⟩⟩⟩⟩⟩⟩⟩⟩⟩⟩⟩⟩, fun a8 => ⟨?_, ?_⟩⟩⟩⟩⟩⟩, fun a3 => ⟨fun a4 => ⟨?_, ?_⟩, fun a4 => ⟨⟨0, ⟨?_, ⟨⟨rfl, ⟨?_, ⟨?_, trivial⟩⟩⟩, trivial⟩⟩⟩, fun k1 => fun a5 => fun a6 => ⟨fun a7 => ⟨?_, ⟨fun a8 => ⟨?_, ⟨fun a9 => ⟨?_, ?_⟩, fun a9 => ⟨?_, ⟨?_, ⟨?_, ⟨?_, ⟨?_, ⟨?_, ⟨k1 + 1, ⟨?_, ⟨?_, ⟨⟨rfl, ⟨?_, ⟨?_, trivial⟩⟩⟩, trivial⟩⟩⟩⟩⟩⟩⟩⟩⟩⟩⟩⟩, fun a8 => ⟨fun a9 => ⟨?_, ?_⟩, fun a9 => ⟨?_, ⟨?_, ⟨?_, ⟨?_, ⟨?_, ⟨?_, ⟨k1 + 1, ⟨?_, ⟨?_, ⟨⟨rfl, ⟨?_, ⟨?_, trivial⟩⟩⟩, trivial⟩⟩⟩⟩⟩⟩⟩⟩⟩⟩⟩⟩⟩, fun a7 => ⟨?_, ?_⟩⟩⟩⟩⟩, fun a1 => ⟨fun a2 => ⟨?_, ⟨fun a3 => fun a4 => ⟨fun a5 => ⟨?_, ?_⟩, fun a5 => ⟨⟨0, ⟨?_, ⟨⟨rfl, ⟨?_, ⟨?_, trivial⟩⟩⟩, trivial⟩⟩⟩, fun k1 => fun a6 => fun a7 => ⟨fun a8 => ⟨?_, ⟨fun a9 => ⟨?_, ⟨fun a10 => ⟨?_, ?_⟩, fun a10 => ⟨?_, ⟨?_, ⟨?_, ⟨?_, ⟨?_, ⟨?_, ⟨k1 + 1, ⟨?_, ⟨?_, ⟨⟨rfl, ⟨?_, ⟨?_, trivial⟩⟩⟩, trivial⟩⟩⟩⟩⟩⟩⟩⟩⟩⟩⟩⟩, fun a9 => ⟨fun a10 => ⟨?_, ?_⟩, fun a10 => ⟨?_, ⟨?_, ⟨?_, ⟨?_, ⟨?_, ⟨?_, ⟨k1 + 1, ⟨?_, ⟨?_, ⟨⟨rfl, ⟨?_, ⟨?_, trivial⟩⟩⟩, trivial⟩⟩⟩⟩⟩⟩⟩⟩⟩⟩⟩⟩⟩, fun a8 => ⟨?_, ?_⟩⟩⟩⟩, fun a3 => ⟨fun a4 => ⟨?_, ?_⟩, fun a4 => ⟨⟨0, ⟨?_, ⟨⟨rfl, ⟨?_, ⟨?_, trivial⟩⟩⟩, trivial⟩⟩⟩, fun k1 => fun a5 => fun a6 => ⟨fun a7 => ⟨?_, ⟨fun a8 => ⟨?_, ⟨fun a9 => ⟨?_, ?_⟩, fun a9 => ⟨?_, ⟨?_, ⟨?_, ⟨?_, ⟨?_, ⟨?_, ⟨k1 + 1, ⟨?_, ⟨?_, ⟨⟨rfl, ⟨?_, ⟨?_, trivial⟩⟩⟩, trivial⟩⟩⟩⟩⟩⟩⟩⟩⟩⟩⟩⟩, fun a8 => ⟨fun a9 => ⟨?_, ?_⟩, fun a9 => ⟨?_, ⟨?_, ⟨?_, ⟨?_, ⟨?_, ⟨?_, ⟨k1 + 1, ⟨?_, ⟨?_, ⟨⟨rfl, ⟨?_, ⟨?_, trivial⟩⟩⟩, trivial⟩⟩⟩⟩⟩⟩⟩⟩⟩⟩⟩⟩⟩, fun a7 => ⟨?_, ?_⟩⟩⟩⟩⟩⟩, fun a2 => ⟨fun a3 => ⟨?_, ?_⟩, fun a3 => ⟨⟨0, ⟨?_, ⟨⟨rfl, ⟨?_, ⟨?_, trivial⟩⟩⟩, trivial⟩⟩⟩, fun k1 => fun a4 => fun a5 => ⟨fun a6 => ⟨?_, ⟨fun a7 => ⟨?_, ⟨fun a8 => ⟨?_, ?_⟩, fun a8 => ⟨?_, ⟨?_, ⟨?_, ⟨?_, ⟨?_, ⟨?_, ⟨k1 + 1, ⟨?_, ⟨?_, ⟨⟨rfl, ⟨?_, ⟨?_, trivial⟩⟩⟩, trivial⟩⟩⟩⟩⟩⟩⟩⟩⟩⟩⟩⟩, fun a7 => ⟨fun a8 => ⟨?_, ?_⟩, fun a8 => ⟨?_, ⟨?_, ⟨?_, ⟨?_, ⟨?_, ⟨?_, ⟨k1 + 1, ⟨?_, ⟨?_, ⟨⟨rfl, ⟨?_, ⟨?_, trivial⟩⟩⟩, trivial⟩⟩⟩⟩⟩⟩⟩⟩⟩⟩⟩⟩⟩, fun a6 => ⟨?_, ?_⟩⟩⟩⟩⟩⟩
 all_goals try and_intros
 all_goals first | rfl | trivial | omega | ((try simp only [Bool.not_true, Bool.not_false, decide_eq_true_eq, decide_eq_false_iff_not, idxOk, inKind_u8, inKind_i64', inI64, u8_min, u8_max] at *); first | omega | exact (num_no 9 s (by omega)).1.symm | exact (num_no 9 s (by omega)).2.symm | exact num_zero 9 s (by omega) (by omega) | (have hq : numQ 9 s k1 := (by with_reducible assumption); have hl := num_le 9 s k1 hq; first | omega | exact (num_bad 9 s k1 hq (by omega) (by omega)).1.symm | exact (num_bad 9 s k1 hq (by omega) (by omega)).2.symm | exact (num_good 9 s k1 hq (by omega) (by omega) (by omega)).1 | exact (num_good 9 s k1 hq (by omega) (by omega) (by omega)).2.symm | (rw [(num_good 9 s k1 hq (by omega) (by omega) (by omega)).2]; omega) | exact (num_end 9 s k1 hq (by omega)).1.symm | exact (num_end 9 s k1 hq (by omega)).2.symm))
theorem good_spec_l01Number : Ctr.Good k_spec_l01Number := ok_spec_l01Number trivial
def inB0 (b n : Int) : Bool := decide (0 ≤ n ∧ n ≤ b - 1)
theorem inB0_eq (b n : Int) : inB0 b n = decide (0 ≤ n ∧ n ≤ b - 1) := rfl
def trB (gg : GSig) (x : GWord) : Bool := decide (x.atoms.length = x.acts.length + 1) && allL (inB0 (atomsN gg)) x.atoms && allL (inB0 gg.actions) x.acts
def wdB (gg : GSig) (x : GWord) : Bool := decide (x.acts.length ≤ 10) && trB gg x
theorem sigOk_w (gg : GSig) (h : sigOk gg = true) : (0 ≤ gg.tests ∧ gg.tests ≤ 3) ∧ (0 ≤ gg.actions ∧ gg.actions ≤ 4) ∧ 1 ≤ atomsN gg ∧ atomsN gg ≤ 8 := by
 have h' := (sigOk_iff gg).1 h
 exact ⟨h'.1, h'.2, atomsN_le gg h'.1⟩
def k_impl_inRange : Ctr := ⟨n_impl_inRange, [.v (.slice (.int .i64)), .v (.int .i64)], fun (xs : List Int) (below : Int) => ⟨(some (0 ≤ below ∧ below ≤ 4096), [⟨.bool, allL (inB0 below) xs⟩])⟩⟩
def l_impl_inRange (xs : List Int) (below : Int) : Nat → LoopInv := (fun zb => if Nat.beq zb 0 then .mk (Nat) (fun k => k ≤ xs.length ∧ allL (inB0 below) (xs.take k) = true) (fun k => xs.length - k) [] [0, 2, 3, 5] (fun k => [(9, .imm ⟨(.int .i64), ((k : Int) : Int)⟩)]) [1, 4, 6, 7, 8, 9, 10, 11, 12, 13, 14, 15, 16, 17, 18] (fun k => []) [] [] (fun k => fun _ => .none) else .none)
theorem vc_impl_inRange (xs : List Int) (below : Int) : awp (envOf [k_impl_within]) (bodyOf f_impl_inRange) (l_impl_inRange xs below) 0 (funPost (envOf [k_impl_within]) f_impl_inRange fun r => areEq r [⟨.bool, allL (inB0 below) xs⟩]) (startState f_impl_inRange [.val ⟨(.slice (.int .i64)), xs⟩, .val ⟨(.int .i64), below⟩]) =
 ((inI64 ((xs.length : Int)) →
 ((∃ k1 : Nat, ((k1 ≤ xs.length ∧ allL (inB0 below) (xs.take k1) = true) ∧ ((below = below ∧ (xs = xs ∧ (((xs.length : Int)) = ((xs.length : Int)) ∧ ((0 : Int) = (k1 : Int) ∧ True)))) ∧ True))) ∧ (∀ k1 : Nat, ((k1 ≤ xs.length ∧ allL (inB0 below) (xs.take k1) = true) →
 (((decide ((k1 : Int) < ((xs.length : Int)))) = true →
 (idxOk (k1 : Int) xs.length ∧ (inI64 (xs.getD k1 (0 : Int)) →
 (inI64 (below - (1 : Int)) ∧ ((((!(decide ((0 : Int) ≤ (xs.getD k1 (0 : Int)) ∧ (xs.getD k1 (0 : Int)) ≤ (below - (1 : Int))))) = true) →
 false = (allL (inB0 below) xs)) ∧ (((!(decide ((0 : Int) ≤ (xs.getD k1 (0 : Int)) ∧ (xs.getD k1 (0 : Int)) ≤ (below - (1 : Int))))) = false) →
 (inI64 ((k1 : Int) + (1 : Int)) ∧ (∃ k2 : Nat, ((k2 ≤ xs.length ∧ allL (inB0 below) (xs.take k2) = true) ∧ (xs.length - k2 < xs.length - k1 ∧ ((below = below ∧ (xs = xs ∧ (((xs.length : Int)) = ((xs.length : Int)) ∧ (((k1 : Int) + (1 : Int)) = (k2 : Int) ∧ True)))) ∧ True))))))))))) ∧ ((decide ((k1 : Int) < ((xs.length : Int)))) = false →
 true = (allL (inB0 below) xs)))))))) := by kernel_rfl
theorem ok_impl_inRange (hE : AllGood [k_impl_within]) : Ctr.Good k_impl_inRange := by
 refine ⟨fnOk_of at_impl_inRange rfl (by decide), ?_⟩
 show ∀ (xs : List Int) (below : Int), (0 ≤ below ∧ below ≤ 4096) → OkCall prog n_impl_inRange [.val ⟨(.slice (.int .i64)), xs⟩, .val ⟨(.int .i64), below⟩] (· = [⟨.bool, allL (inB0 below) xs⟩])
 intro xs below hp
 refine ok_of_awp (wr := []) (cl := []) (ro := []) hE at_impl_inRange body_impl_inRange (l_impl_inRange xs below) ?_
 rewrite [vc_impl_inRange xs below]
 have f0 := all_zero (inB0 below) xs
 refine fun a0 => ⟨⟨0, ⟨?_, ⟨⟨rfl, ⟨rfl, ⟨rfl, ⟨?_, trivial⟩⟩⟩⟩, trivial⟩⟩⟩, fun k1 a1 => have b1x0 := all_take (inB0 below) 0 xs k1; have b1x1 := all_bad (inB0 below) 0 xs k1; have b1x2 := all_done (inB0 below) xs k1; have b1x3 := inB0_eq below (xs.getD k1 0); ⟨fun a2 => ⟨?_, fun a3 => ⟨?_, ⟨fun a4 => ?_, fun a4 => ⟨?_, ⟨k1 + 1, ⟨?_, ⟨?_, ⟨⟨rfl, ⟨rfl, ⟨rfl, ⟨?_, trivial⟩⟩⟩⟩, trivial⟩⟩⟩⟩⟩⟩⟩⟩, fun a2 => ?_⟩⟩
 all_goals try and_intros
 all_goals first | rfl | trivial | omega | (simp only [decide_eq_true_eq, decide_eq_false_iff_not, idxOk, inI64] at *; first | omega | grind) | grind [idxOk, inI64]
theorem good_impl_inRange : Ctr.Good k_impl_inRange := ok_impl_inRange ⟨good_impl_within, trivial⟩
def k_impl_isTrace : Ctr := ⟨n_impl_isTrace, [.v (.st .sig), .v (.st .word)], fun (gg : GSig) (x : GWord) => ⟨(some (sigOk gg = true ∧ x.acts.length ≤ 10), [⟨.bool, trB gg x⟩])⟩⟩
def l_impl_isTrace (gg : GSig) (x : GWord) : Nat → LoopInv := fun _ => .none
abbrev j_impl_isTrace_0 (gg : GSig) (x : GWord) : Prop := (x.acts.length ≤ 140737488355328 →
 (inI64 gg.actions →
 ((0 ≤ gg.actions ∧ gg.actions ≤ 4096) ∧ (allL (inB0 gg.actions) x.acts) = (trB gg x))))
theorem vc_impl_isTrace (gg : GSig) (x : GWord) : awp (envOf [k_impl_inRange, k_impl_atomsIn] [] [] [2, 3]) (bodyOf f_impl_isTrace) (l_impl_isTrace gg x) 0 (funPost (envOf [k_impl_inRange, k_impl_atomsIn] [] [] [2, 3]) f_impl_isTrace fun r => areEq r [⟨.bool, trB gg x⟩]) (startState f_impl_isTrace [.val ⟨(.st .sig), gg⟩, .val ⟨(.st .word), x⟩]) =
 ((inI64 (((x.acts.length : Int)) + (1 : Int)) ∧ (((decide (((x.atoms.length : Int)) = (((x.acts.length : Int)) + (1 : Int)))) = true →
 ((0 ≤ gg.tests ∧ gg.tests ≤ 3) ∧ ((0 ≤ (atomsN gg) ∧ (atomsN gg) ≤ 4096) ∧ (((allL (inB0 (atomsN gg)) x.atoms) = true →
 (x.atoms.length ≤ 140737488355328 →
 (inI64 ((x.atoms.length : Int)) →
 (x.acts.length ≤ 140737488355328 →
 (inI64 ((x.acts.length : Int)) →
 (x.atoms.length ≤ 140737488355328 →
 (inI64 (atomsN gg) →
 (j_impl_isTrace_0 gg x)))))))) ∧ ((allL (inB0 (atomsN gg)) x.atoms) = (!true) →
 (x.atoms.length ≤ 140737488355328 →
 (inI64 ((x.atoms.length : Int)) →
 (x.acts.length ≤ 140737488355328 →
 (inI64 ((x.acts.length : Int)) →
 (x.atoms.length ≤ 140737488355328 →
 (inI64 (atomsN gg) →
 false = (trB gg x)))))))))))) ∧ ((decide (((x.atoms.length : Int)) = (((x.acts.length : Int)) + (1 : Int)))) = (!true) →
 ((false = true →
 (x.atoms.length ≤ 140737488355328 →
 (inI64 ((x.atoms.length : Int)) →
 (x.acts.length ≤ 140737488355328 →
 (inI64 ((x.acts.length : Int)) →
 (j_impl_isTrace_0 gg x)))))) ∧ (false = (!true) →
 (x.atoms.length ≤ 140737488355328 →
 (inI64 ((x.atoms.length : Int)) →
 (x.acts.length ≤ 140737488355328 →
 (inI64 ((x.acts.length : Int)) →
 false = (trB gg x))))))))))) := by kernel_rfl
theorem ok_impl_isTrace (hE : AllGood [k_impl_inRange, k_impl_atomsIn]) : Ctr.Good k_impl_isTrace := by
 refine ⟨fnOk_of at_impl_isTrace rfl (by decide), ?_⟩
 show ∀ (gg : GSig) (x : GWord), (sigOk gg = true ∧ x.acts.length ≤ 10) → OkCall prog n_impl_isTrace [.val ⟨(.st .sig), gg⟩, .val ⟨(.st .word), x⟩] (· = [⟨.bool, trB gg x⟩])
 intro gg x hp
 refine ok_of_awp (wr := []) (cl := []) (ro := [2, 3]) hE at_impl_isTrace body_impl_isTrace (l_impl_isTrace gg x) ?_
 rewrite [vc_impl_isTrace gg x]
 have f0 := sigOk_w gg hp.1
 refine ⟨?_, ⟨fun a0 => ⟨?_, ⟨?_, ⟨fun a1 => fun a2 => fun a3 => fun a4 => fun a5 => fun a6 => fun a7 => fun a8 => fun a9 => ⟨?_, ?_⟩, fun a1 => fun a2 => fun a3 => fun a4 => fun a5 => fun a6 => fun a7 => ?_⟩⟩⟩, fun a0 => ⟨fun a1 => fun a2 => fun a3 => fun a4 => fun a5 => fun a6 => fun a7 => ⟨?_, ?_⟩, fun a1 => fun a2 => fun a3 => fun a4 => fun a5 => ?_⟩⟩⟩
 all_goals try and_intros
 all_goals try unfold trB
 all_goals first | rfl | trivial | omega | (simp only [decide_eq_true_eq, decide_eq_false_iff_not, idxOk, inI64] at *; first | omega | grind) | grind [idxOk, inI64]
theorem good_impl_isTrace : Ctr.Good k_impl_isTrace := ok_impl_isTrace ⟨good_impl_inRange, good_impl_atomsIn, trivial⟩
def k_impl_isWord : Ctr := ⟨n_impl_isWord, [.v (.st .sig), .v (.st .word)], fun (gg : GSig) (x : GWord) => ⟨(some (sigOk gg = true), [⟨.bool, wdB gg x⟩])⟩⟩
def l_impl_isWord (gg : GSig) (x : GWord) : Nat → LoopInv := fun _ => .none
theorem vc_impl_isWord (gg : GSig) (x : GWord) : awp (envOf [k_impl_isTrace] [] [] [2, 3]) (bodyOf f_impl_isWord) (l_impl_isWord gg x) 0 (funPost (envOf [k_impl_isTrace] [] [] [2, 3]) f_impl_isWord fun r => areEq r [⟨.bool, wdB gg x⟩]) (startState f_impl_isWord [.val ⟨(.st .sig), gg⟩, .val ⟨(.st .word), x⟩]) =
 ((x.acts.length ≤ 140737488355328 →
 (inI64 ((x.acts.length : Int)) →
 (((decide (((x.acts.length : Int)) ≤ (10 : Int))) = true →
 ((sigOk gg = true ∧ x.acts.length ≤ 10) ∧ (trB gg x) = (wdB gg x))) ∧ ((decide (((x.acts.length : Int)) ≤ (10 : Int))) = (!true) →
 false = (wdB gg x)))))) := by kernel_rfl
theorem ok_impl_isWord (hE : AllGood [k_impl_isTrace]) : Ctr.Good k_impl_isWord := by
 refine ⟨fnOk_of at_impl_isWord rfl (by decide), ?_⟩
 show ∀ (gg : GSig) (x : GWord), (sigOk gg = true) → OkCall prog n_impl_isWord [.val ⟨(.st .sig), gg⟩, .val ⟨(.st .word), x⟩] (· = [⟨.bool, wdB gg x⟩])
 intro gg x hp
 refine ok_of_awp (wr := []) (cl := []) (ro := [2, 3]) hE at_impl_isWord body_impl_isWord (l_impl_isWord gg x) ?_
 rewrite [vc_impl_isWord gg x]
 refine fun a0 => fun a1 => ⟨fun a2 => ⟨?_, ?_⟩, fun a2 => ?_⟩
 all_goals try and_intros
 all_goals try unfold wdB
 all_goals first | rfl | trivial | omega | (simp only [decide_eq_true_eq, decide_eq_false_iff_not, idxOk, inI64] at *; first | omega | grind) | grind [idxOk, inI64]
theorem good_impl_isWord : Ctr.Good k_impl_isWord := ok_impl_isWord ⟨good_impl_isTrace, trivial⟩
def k_spec_l01Word : Ctr := ⟨n_spec_l01Word, [.v (.st .sig), .r (.st .word)], fun (gg : GSig) (x : GWord) => ⟨(none, [⟨.bool, sigOk gg && wdB gg x⟩])⟩⟩
def l_spec_l01Word (gg : GSig) (x : GWord) : Nat → LoopInv := (fun zb => if Nat.beq zb 0 then .mk (Nat) (fun k => sigOk gg = true ∧ x.acts.length ≤ 10 ∧ x.atoms.length = x.acts.length + 1 ∧ k ≤ x.atoms.length ∧ allL (inB0 (atomsN gg)) (x.atoms.take k) = true) (fun k => x.atoms.length - k) [] [0, 3, 7, 8, 9, 10, 11, 12, 13, 14, 15, 16, 17, 18, 19, 20, 21, 22, 23, 24, 25, 26, 27, 28, 29, 30, 31] (fun k => [(5, .imm ⟨(.int .i64), ((k : Int) : Int)⟩)]) [1, 2, 4, 5, 6, 32, 33, 34, 35, 36, 37, 38, 39, 40, 41, 42, 43, 44, 45, 46, 47, 48, 49, 50, 51, 52, 53, 54, 55, 56, 57, 58, 59, 60, 61, 62, 63, 64, 65, 66, 67, 68, 69, 70, 71, 72, 73] (fun k => []) [] [] (fun k => fun _ => .none) else if Nat.beq zb 2 then .mk (Nat) (fun j => sigOk gg = true ∧ x.acts.length ≤ 10 ∧ x.atoms.length = x.acts.length + 1 ∧ allL (inB0 (atomsN gg)) x.atoms = true ∧ j ≤ x.acts.length ∧ allL (inB0 gg.actions) (x.acts.take j) = true) (fun j => x.acts.length - j) [] [0, 3, 5, 7, 8, 9, 10, 11, 12, 13, 14, 15, 16, 17, 18, 19, 20, 21, 22, 23, 24, 25, 26, 27, 28, 29, 30, 31, 32, 33, 34, 35, 36, 37, 38, 39, 40, 41, 42, 43, 44, 45, 46, 47, 48, 49, 50, 51, 52] (fun j => [(6, .imm ⟨(.int .i64), ((j : Int) : Int)⟩)]) [1, 2, 4, 6, 53, 54, 55, 56, 57, 58, 59, 60, 61, 62, 63, 64, 65, 66, 67, 68, 69, 70, 71, 72, 73] (fun j => []) [] [] (fun j => fun _ => .none) else .none)
abbrev j_spec_l01Word_0 (gg : GSig) (x : GWord) : Prop := ((∃ k1 : Nat, ((sigOk gg = true ∧ x.acts.length ≤ 10 ∧ x.atoms.length = x.acts.length + 1 ∧ k1 ≤ x.atoms.length ∧ allL (inB0 (atomsN gg)) (x.atoms.take k1) = true) ∧ ((x = x ∧ (gg = gg ∧ ((0 : Int) = (k1 : Int) ∧ True))) ∧ True))) ∧ (∀ k1 : Nat, ((sigOk gg = true ∧ x.acts.length ≤ 10 ∧ x.atoms.length = x.acts.length + 1 ∧ k1 ≤ x.atoms.length ∧ allL (inB0 (atomsN gg)) (x.atoms.take k1) = true) →
 (x.atoms.length ≤ 140737488355328 →
 (inI64 ((x.atoms.length : Int)) →
 (((decide ((k1 : Int) < ((x.atoms.length : Int)))) = true →
 (idxOk (k1 : Int) x.atoms.length ∧ ((0 ≤ gg.tests ∧ gg.tests ≤ 3) ∧ (inI64 ((atomsN gg) - (1 : Int)) ∧ (x.atoms.length ≤ 140737488355328 →
 (inI64 (x.atoms.getD k1 (0 : Int)) →
 (inI64 (atomsN gg) →
 ((((!(decide ((0 : Int) ≤ (x.atoms.getD k1 (0 : Int)) ∧ (x.atoms.getD k1 (0 : Int)) ≤ ((atomsN gg) - (1 : Int))))) = true) →
 false = (sigOk gg && wdB gg x)) ∧ (((!(decide ((0 : Int) ≤ (x.atoms.getD k1 (0 : Int)) ∧ (x.atoms.getD k1 (0 : Int)) ≤ ((atomsN gg) - (1 : Int))))) = false) →
 (inI64 ((k1 : Int) + (1 : Int)) ∧ (∃ k2 : Nat, ((sigOk gg = true ∧ x.acts.length ≤ 10 ∧ x.atoms.length = x.acts.length + 1 ∧ k2 ≤ x.atoms.length ∧ allL (inB0 (atomsN gg)) (x.atoms.take k2) = true) ∧ (x.atoms.length - k2 < x.atoms.length - k1 ∧ ((x = x ∧ (gg = gg ∧ (((k1 : Int) + (1 : Int)) = (k2 : Int) ∧ True))) ∧ True)))))))))))))) ∧ ((decide ((k1 : Int) < ((x.atoms.length : Int)))) = false →
 ((∃ j2 : Nat, ((sigOk gg = true ∧ x.acts.length ≤ 10 ∧ x.atoms.length = x.acts.length + 1 ∧ allL (inB0 (atomsN gg)) x.atoms = true ∧ j2 ≤ x.acts.length ∧ allL (inB0 gg.actions) (x.acts.take j2) = true) ∧ ((x = x ∧ (gg = gg ∧ ((0 : Int) = (j2 : Int) ∧ True))) ∧ True))) ∧ (∀ j2 : Nat, ((sigOk gg = true ∧ x.acts.length ≤ 10 ∧ x.atoms.length = x.acts.length + 1 ∧ allL (inB0 (atomsN gg)) x.atoms = true ∧ j2 ≤ x.acts.length ∧ allL (inB0 gg.actions) (x.acts.take j2) = true) →
 (x.acts.length ≤ 140737488355328 →
 (inI64 ((x.acts.length : Int)) →
 (((decide ((j2 : Int) < ((x.acts.length : Int)))) = true →
 (idxOk (j2 : Int) x.acts.length ∧ (inI64 (gg.actions - (1 : Int)) ∧ (x.acts.length ≤ 140737488355328 →
 (inI64 (x.acts.getD j2 (0 : Int)) →
 (inI64 gg.actions →
 ((((!(decide ((0 : Int) ≤ (x.acts.getD j2 (0 : Int)) ∧ (x.acts.getD j2 (0 : Int)) ≤ (gg.actions - (1 : Int))))) = true) →
 false = (sigOk gg && wdB gg x)) ∧ (((!(decide ((0 : Int) ≤ (x.acts.getD j2 (0 : Int)) ∧ (x.acts.getD j2 (0 : Int)) ≤ (gg.actions - (1 : Int))))) = false) →
 (inI64 ((j2 : Int) + (1 : Int)) ∧ (∃ j3 : Nat, ((sigOk gg = true ∧ x.acts.length ≤ 10 ∧ x.atoms.length = x.acts.length + 1 ∧ allL (inB0 (atomsN gg)) x.atoms = true ∧ j3 ≤ x.acts.length ∧ allL (inB0 gg.actions) (x.acts.take j3) = true) ∧ (x.acts.length - j3 < x.acts.length - j2 ∧ ((x = x ∧ (gg = gg ∧ (((j2 : Int) + (1 : Int)) = (j3 : Int) ∧ True))) ∧ True))))))))))))) ∧ ((decide ((j2 : Int) < ((x.acts.length : Int)))) = false →
 true = (sigOk gg && wdB gg x)))))))))))))))
abbrev j_spec_l01Word_1 (gg : GSig) (x : GWord) : Prop := (x.atoms.length ≤ 140737488355328 →
 (inI64 ((x.atoms.length : Int)) →
 (x.acts.length ≤ 140737488355328 →
 (inI64 ((x.acts.length : Int)) →
 (((!(decide (((x.atoms.length : Int)) = (((x.acts.length : Int)) + (1 : Int))))) = true →
 false = (sigOk gg && wdB gg x)) ∧ ((!(decide (((x.atoms.length : Int)) = (((x.acts.length : Int)) + (1 : Int))))) = false →
 (j_spec_l01Word_0 gg x)))))))
theorem vc_spec_l01Word (gg : GSig) (x : GWord) : awp (envOf [k_spec_l01Sig, k_spec_l01Atoms, k_spec_l00In] [] [] [2]) (bodyOf f_spec_l01Word) (l_spec_l01Word gg x) 0 (funPost (envOf [k_spec_l01Sig, k_spec_l01Atoms, k_spec_l00In] [] [] [2]) f_spec_l01Word fun r => areEq r [⟨.bool, sigOk gg && wdB gg x⟩]) (startState f_spec_l01Word [.val ⟨(.st .sig), gg⟩, .ref ⟨(.st .word), x⟩]) =
 ((((!(sigOk gg)) = false →
 (((decide ((10 : Int) < ((x.acts.length : Int)))) = false →
 (inI64 (((x.acts.length : Int)) + (1 : Int)) ∧ (x.acts.length ≤ 140737488355328 →
 (inI64 ((x.acts.length : Int)) →
 (j_spec_l01Word_1 gg x))))) ∧ ((decide ((10 : Int) < ((x.acts.length : Int)))) = (!false) →
 (x.acts.length ≤ 140737488355328 →
 (inI64 ((x.acts.length : Int)) →
 ((true = true →
 false = (sigOk gg && wdB gg x)) ∧ (true = false →
 (j_spec_l01Word_0 gg x)))))))) ∧ ((!(sigOk gg)) = (!false) →
 ((true = false →
 (inI64 (((x.acts.length : Int)) + (1 : Int)) ∧ (j_spec_l01Word_1 gg x))) ∧ (true = (!false) →
 ((true = true →
 false = (sigOk gg && wdB gg x)) ∧ (true = false →
 (j_spec_l01Word_0 gg x)))))))) := by kernel_rfl
theorem ok_spec_l01Word (hE : AllGood [k_spec_l01Sig, k_spec_l01Atoms, k_spec_l00In]) : Ctr.Good k_spec_l01Word := by
 refine ⟨fnOk_of at_spec_l01Word rfl (by decide), ?_⟩
 show ∀ (gg : GSig) (x : GWord), True → OkCall prog n_spec_l01Word [.val ⟨(.st .sig), gg⟩, .ref ⟨(.st .word), x⟩] (· = [⟨.bool, sigOk gg && wdB gg x⟩])
 intro gg x _
 refine ok_of_awp (wr := []) (cl := []) (ro := [2]) hE at_spec_l01Word body_spec_l01Word (l_spec_l01Word gg x) ?_
 rewrite [vc_spec_l01Word gg x]
 have f0 := all_zero (inB0 (atomsN gg)) x.atoms
 have f1 := all_zero (inB0 gg.actions) x.acts
 have f2 := sigOk_w gg
 have f3 : wdB gg x = (decide (x.acts.length ≤ 10) && (decide (x.atoms.length = x.acts.length + 1) && allL (inB0 (atomsN gg)) x.atoms && allL (inB0 gg.actions) x.acts)) := rfl
 refine ⟨fun a0 => ⟨fun a1 => ⟨?_, fun a2 => fun a3 => fun a4 => fun a5 => fun a6 => fun a7 => ⟨fun a8 => ?_, fun a8 => ⟨⟨0, ⟨?_, ⟨⟨rfl, ⟨rfl, ⟨?_, trivial⟩⟩⟩, trivial⟩⟩⟩, fun k1 a9 => have b9x0 := all_take (inB0 (atomsN gg)) 0 x.atoms k1; have b9x1 := all_bad (inB0 (atomsN gg)) 0 x.atoms k1; have b9x2 := all_done (inB0 (atomsN gg)) x.atoms k1; have b9x3 := inB0_eq (atomsN gg) (x.atoms.getD k1 0); fun a10 => fun a11 => ⟨fun a12 => ⟨?_, ⟨?_, ⟨?_, fun a13 => fun a14 => fun a15 => ⟨fun a16 => ?_, fun a16 => ⟨?_, ⟨k1 + 1, ⟨?_, ⟨?_, ⟨⟨rfl, ⟨rfl, ⟨?_, trivial⟩⟩⟩, trivial⟩⟩⟩⟩⟩⟩⟩⟩⟩, fun a12 => ⟨⟨0, ⟨?_, ⟨⟨rfl, ⟨rfl, ⟨?_, trivial⟩⟩⟩, trivial⟩⟩⟩, fun j2 a13 => have b13x0 := all_take (inB0 gg.actions) 0 x.acts j2; have b13x1 := all_bad (inB0 gg.actions) 0 x.acts j2; have b13x2 := all_done (inB0 gg.actions) x.acts j2; have b13x3 := inB0_eq gg.actions (x.acts.getD j2 0); fun a14 => fun a15 => ⟨fun a16 => ⟨?_, ⟨?_, fun a17 => fun a18 => fun a19 => ⟨fun a20 => ?_, fun a20 => ⟨?_, ⟨j2 + 1, ⟨?_, ⟨?_, ⟨⟨rfl, ⟨rfl, ⟨?_, trivial⟩⟩⟩, trivial⟩⟩⟩⟩⟩⟩⟩⟩, fun a16 => ?_⟩⟩⟩⟩⟩⟩, fun a1 => fun a2 => fun a3 => ⟨fun a4 => ?_, fun a4 => ⟨⟨0, ⟨?_, ⟨⟨rfl, ⟨rfl, ⟨?_, trivial⟩⟩⟩, trivial⟩⟩⟩, fun k1 a5 => have b5x0 := all_take (inB0 (atomsN gg)) 0 x.atoms k1; have b5x1 := all_bad (inB0 (atomsN gg)) 0 x.atoms k1; have b5x2 := all_done (inB0 (atomsN gg)) x.atoms k1; have b5x3 := inB0_eq (atomsN gg) (x.atoms.getD k1 0); fun a6 => fun a7 => ⟨fun a8 => ⟨?_, ⟨?_, ⟨?_, fun a9 => fun a10 => fun a11 => ⟨fun a12 => ?_, fun a12 => ⟨?_, ⟨k1 + 1, ⟨?_, ⟨?_, ⟨⟨rfl, ⟨rfl, ⟨?_, trivial⟩⟩⟩, trivial⟩⟩⟩⟩⟩⟩⟩⟩⟩, fun a8 => ⟨⟨0, ⟨?_, ⟨⟨rfl, ⟨rfl, ⟨?_, trivial⟩⟩⟩, trivial⟩⟩⟩, fun j2 a9 => have b9x0 := all_take (inB0 gg.actions) 0 x.acts j2; have b9x1 := all_bad (inB0 gg.actions) 0 x.acts j2; have b9x2 := all_done (inB0 gg.actions) x.acts j2; have b9x3 := inB0_eq gg.actions (x.acts.getD j2 0); fun a10 => fun a11 => ⟨fun a12 => ⟨?_, ⟨?_, fun a13 => fun a14 => fun a15 => ⟨fun a16 => ?_, fun a16 => ⟨?_, ⟨j2 + 1, ⟨?_, ⟨?_, ⟨⟨rfl, ⟨rfl, ⟨?_, trivial⟩⟩⟩, trivial⟩⟩⟩⟩⟩⟩⟩⟩, fun a12 => ?_⟩⟩⟩⟩⟩⟩, fun a0 => ⟨fun a1 => ⟨?_, fun a2 => fun a3 => fun a4 => fun a5 => ⟨fun a6 => ?_, fun a6 => ⟨⟨0, ⟨?_, ⟨⟨rfl, ⟨rfl, ⟨?_, trivial⟩⟩⟩, trivial⟩⟩⟩, fun k1 a7 => have b7x0 := all_take (inB0 (atomsN gg)) 0 x.atoms k1; have b7x1 := all_bad (inB0 (atomsN gg)) 0 x.atoms k1; have b7x2 := all_done (inB0 (atomsN gg)) x.atoms k1; have b7x3 := inB0_eq (atomsN gg) (x.atoms.getD k1 0); fun a8 => fun a9 => ⟨fun a10 => ⟨?_, ⟨?_, ⟨?_, fun a11 => fun a12 => fun a13 => ⟨fun a14 => ?_, fun a14 => ⟨?_, ⟨k1 + 1, ⟨?_, ⟨?_, ⟨⟨rfl, ⟨rfl, ⟨?_, trivial⟩⟩⟩, trivial⟩⟩⟩⟩⟩⟩⟩⟩⟩, fun a10 => ⟨⟨0, ⟨?_, ⟨⟨rfl, ⟨rfl, ⟨?_, trivial⟩⟩⟩, trivial⟩⟩⟩, fun j2 a11 => have b11x0 := all_take (inB0 gg.actions) 0 x.acts j2; have b11x1 := all_bad (inB0 gg.actions) 0 x.acts j2; have b11x2 := all_done (inB0 gg.actions) x.acts j2; have b11x3 := inB0_eq gg.actions (x.acts.getD j2 0); fun a12 => fun a13 => ⟨fun a14 => ⟨?_, ⟨?_, fun a15 => fun a16 => fun a17 => ⟨fun a18 => ?_, fun a18 => ⟨?_, ⟨j2 + 1, ⟨?_, ⟨?_, ⟨⟨rfl, ⟨rfl, ⟨?_, trivial⟩⟩⟩, trivial⟩⟩⟩⟩⟩⟩⟩⟩, fun a14 => ?_⟩⟩⟩⟩⟩⟩, fun a1 => ⟨fun a2 => ?_, fun a2 => ⟨⟨0, ⟨?_, ⟨⟨rfl, ⟨rfl, ⟨?_, trivial⟩⟩⟩, trivial⟩⟩⟩, fun k1 a3 => have b3x0 := all_take (inB0 (atomsN gg)) 0 x.atoms k1; have b3x1 := all_bad (inB0 (atomsN gg)) 0 x.atoms k1; have b3x2 := all_done (inB0 (atomsN gg)) x.atoms k1; have b3x3 := inB0_eq (atomsN gg) (x.atoms.getD k1 0); fun a4 => fun a5 => ⟨fun a6 => ⟨?_, ⟨?_, ⟨?_, fun a7 => fun a8 => fun a9 => ⟨fun a10 => ?_, fun a10 => ⟨?_, ⟨k1 + 1, ⟨?_, ⟨?_, ⟨⟨rfl, ⟨rfl, ⟨?_, trivial⟩⟩⟩, trivial⟩⟩⟩⟩⟩⟩⟩⟩⟩, fun a6 => ⟨⟨0, ⟨?_, ⟨⟨rfl, ⟨rfl, ⟨?_, trivial⟩⟩⟩, trivial⟩⟩⟩, fun j2 a7 => have b7x0 := all_take (inB0 gg.actions) 0 x.acts j2; have b7x1 := all_bad (inB0 gg.actions) 0 x.acts j2; have b7x2 := all_done (inB0 gg.actions) x.acts j2; have b7x3 := inB0_eq gg.actions (x.acts.getD j2 0); fun a8 => fun a9 => ⟨fun a10 => ⟨?_, ⟨?_, fun a11 => fun a12 => fun a13 => ⟨fun a14 => ?_, fun a14 => ⟨?_, ⟨j2 + 1, ⟨?_, ⟨?_, ⟨⟨rfl, ⟨rfl, ⟨?_, trivial⟩⟩⟩, trivial⟩⟩⟩⟩⟩⟩⟩⟩, fun a10 => ?_⟩⟩⟩⟩⟩⟩⟩
 all_goals try and_intros
 all_goals first | rfl | trivial | omega | (simp only [decide_eq_true_eq, decide_eq_false_iff_not, idxOk, inI64] at *; first | omega | grind) | grind [idxOk, inI64]
theorem good_spec_l01Word : Ctr.Good k_spec_l01Word := ok_spec_l01Word ⟨good_spec_l01Sig, good_spec_l01Atoms, good_spec_l00In, trivial⟩
end
end Go.Proofs.YtkogipcdjalehaaDoor

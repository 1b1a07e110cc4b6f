/- Split, Word, Word2. -/
import Derived.Test.YtbphjcgkidlabaaDoorVmUse
import Derived.Test.YtbphjcgkidlabaaDoorVmLib
import Derived.Test.YtbphjcgkidlabaaDoorVmShelf2
import Derived.Test.YtbphjcgkidlabaaDoorVmValid
set_option linter.unusedVariables false
set_option linter.unusedSimpArgs false
set_option linter.unusedSectionVars false
set_option maxRecDepth 4000
set_option maxHeartbeats 4000000
namespace Go.Proofs.YtbphjcgkidlabaaDoor
noncomputable section
open Go.RowKit Go.Proofs
def cutStep (c : UInt8) (a : List (List UInt8) × List UInt8) (b : UInt8) : List (List UInt8) × List UInt8 := bif b == c then (a.1 ++ [a.2], []) else (a.1, a.2 ++ [b])
def cutS (c : UInt8) (l : List UInt8) : List (List UInt8) × List UInt8 := l.foldl (cutStep c) ([], [])
def cutL (c : UInt8) (l : List UInt8) : List (List UInt8) := (cutS c l).1 ++ [(cutS c l).2]
def bt (n : Int) : UInt8 := UInt8.ofNat n.toNat
def k_internal_stringslite_HasPrefix : Ctr := ⟨n_internal_stringslite_HasPrefix, [.v .str, .v .str], fun (s : List UInt8) (p : List UInt8) => ⟨(none, [⟨.bool, decide (p.length ≤ s.length) && decide (s.take p.length = p)⟩])⟩⟩
def l_internal_stringslite_HasPrefix (s : List UInt8) (p : List UInt8) : Nat → LoopInv := fun _ => .none
theorem vc_internal_stringslite_HasPrefix (s : List UInt8) (p : List UInt8) : awp (envOf []) (bodyOf f_internal_stringslite_HasPrefix) (l_internal_stringslite_HasPrefix s p) 0 (funPost (envOf []) f_internal_stringslite_HasPrefix fun r => areEq r [⟨.bool, decide (p.length ≤ s.length) && decide (s.take p.length = p)⟩]) (startState f_internal_stringslite_HasPrefix [.val ⟨.str, s⟩, .val ⟨.str, p⟩]) =
 ((inI64 ((s.length : Int)) →
 (inI64 ((p.length : Int)) →
 (((decide (((p.length : Int)) ≤ ((s.length : Int)))) = true →
 (inI64 ((p.length : Int)) →
 (cutOk (0 : Int) ((p.length : Int)) s.length ∧ (decide (((s.take (Int.toNat ((p.length : Int)))).drop 0) = p)) = (decide (p.length ≤ s.length) && decide (s.take p.length = p))))) ∧ ((decide (((p.length : Int)) ≤ ((s.length : Int)))) = (!true) →
 false = (decide (p.length ≤ s.length) && decide (s.take p.length = p))))))) := by kernel_rfl
theorem ok_internal_stringslite_HasPrefix (hE : AllGood []) : Ctr.Good k_internal_stringslite_HasPrefix := by
 refine ⟨fnOk_of at_internal_stringslite_HasPrefix rfl (by decide), ?_⟩
 show ∀ (s : List UInt8) (p : List UInt8), True → OkCall prog n_internal_stringslite_HasPrefix [.val ⟨.str, s⟩, .val ⟨.str, p⟩] (· = [⟨.bool, decide (p.length ≤ s.length) && decide (s.take p.length = p)⟩])
 intro s p _
 refine ok_of_awp (wr := []) (cl := []) (ro := []) hE at_internal_stringslite_HasPrefix body_internal_stringslite_HasPrefix (l_internal_stringslite_HasPrefix s p) ?_
 rewrite [vc_internal_stringslite_HasPrefix s p]
 refine fun a0 => fun a1 => ⟨fun a2 => fun a3 => ⟨?_, ?_⟩, fun a2 => ?_⟩
 all_goals try and_intros
 all_goals first | rfl | trivial | omega | (simp only [decide_eq_true_eq, decide_eq_false_iff_not, idxOk, inI64, cutOk, roomOk, List.length_append, List.length_cons, List.length_nil] at *; first | omega | grind) | grind
theorem good_internal_stringslite_HasPrefix : Ctr.Good k_internal_stringslite_HasPrefix := ok_internal_stringslite_HasPrefix trivial
def k_strings_HasPrefix : Ctr := ⟨n_strings_HasPrefix, [.v .str, .v .str], fun (s : List UInt8) (p : List UInt8) => ⟨(none, [⟨.bool, decide (p.length ≤ s.length) && decide (s.take p.length = p)⟩])⟩⟩
def l_strings_HasPrefix (s : List UInt8) (p : List UInt8) : Nat → LoopInv := fun _ => .none
theorem vc_strings_HasPrefix (s : List UInt8) (p : List UInt8) : awp (envOf [k_internal_stringslite_HasPrefix]) (bodyOf f_strings_HasPrefix) (l_strings_HasPrefix s p) 0 (funPost (envOf [k_internal_stringslite_HasPrefix]) f_strings_HasPrefix fun r => areEq r [⟨.bool, decide (p.length ≤ s.length) && decide (s.take p.length = p)⟩]) (startState f_strings_HasPrefix [.val ⟨.str, s⟩, .val ⟨.str, p⟩]) =
 ((decide (p.length ≤ s.length) && decide (s.take p.length = p)) = (decide (p.length ≤ s.length) && decide (s.take p.length = p))) := by kernel_rfl
theorem ok_strings_HasPrefix (hE : AllGood [k_internal_stringslite_HasPrefix]) : Ctr.Good k_strings_HasPrefix := by
 refine ⟨fnOk_of at_strings_HasPrefix rfl (by decide), ?_⟩
 show ∀ (s : List UInt8) (p : List UInt8), True → OkCall prog n_strings_HasPrefix [.val ⟨.str, s⟩, .val ⟨.str, p⟩] (· = [⟨.bool, decide (p.length ≤ s.length) && decide (s.take p.length = p)⟩])
 intro s p _
 refine ok_of_awp (wr := []) (cl := []) (ro := []) hE at_strings_HasPrefix body_strings_HasPrefix (l_strings_HasPrefix s p) ?_
 rewrite [vc_strings_HasPrefix s p]
 refine ?_
 all_goals try and_intros
 all_goals first | rfl | trivial | omega | (simp only [decide_eq_true_eq, decide_eq_false_iff_not, idxOk, inI64, inKind, cutOk, makeOk, roomOk] at *; omega) | (simp [idxOk, inI64] at *; omega) | grind
theorem good_strings_HasPrefix : Ctr.Good k_strings_HasPrefix := ok_strings_HasPrefix ⟨good_internal_stringslite_HasPrefix, trivial⟩
end
end Go.Proofs.YtbphjcgkidlabaaDoor

set_option linter.unusedVariables false
set_option linter.unusedSimpArgs false
set_option linter.unusedSectionVars false
set_option maxRecDepth 4000
set_option maxHeartbeats 4000000
namespace Go.Proofs.YtbphjcgkidlabaaDoor
noncomputable section
def isDig (b : UInt8) : Bool := decide (48 ≤ b.toNat) && decide (b.toNat ≤ 57)
def decV (s : List UInt8) : Int := s.foldl (fun n b => n * 10 + ((b.toNat : Int) - 48)) 0
def numB (m : Int) (s : List UInt8) : Bool := decide (1 ≤ s.length) && decide ((s.length : Int) ≤ m) && !(decide (1 < s.length) && decide ((s.getD 0 0).toNat = 48)) && allL isDig s
def numV (m : Int) (s : List UInt8) : Int := bif numB m s then decV s else 0
theorem decV_snoc (s : List UInt8) (k : Nat) (h : k < s.length) : decV (s.take (k + 1)) = decV (s.take k) * 10 + (((s.getD k 0).toNat : Int) - 48) := by
 rw [take_snoc 0 s k h]
 simp [decV, List.foldl_append]
theorem decV_le : ∀ (k : Nat) (s : List UInt8), k ≤ s.length → allL isDig (s.take k) = true → 0 ≤ decV (s.take k) ∧ decV (s.take k) < 10 ^ k
 | 0, s, _, _ => by simp [decV]
 | k + 1, s, h, ha => by
  have h1 := all_take isDig 0 s k (by omega)
  rw [ha] at h1
  have h1' := h1.symm
  simp only [Bool.and_eq_true] at h1'
  obtain ⟨h2, h3⟩ := h1'
  have ih := decV_le k s (by omega) h2
  rw [decV_snoc s k (by omega)]
  simp only [isDig, Bool.and_eq_true, decide_eq_true_eq] at h3
  have : (10 : Int) ^ (k + 1) = 10 ^ k * 10 := by rw [Int.pow_succ]
  omega
theorem decV_small (s : List UInt8) (k : Nat) (h : k ≤ s.length) (h9 : s.length ≤ 9) (ha : allL isDig (s.take k) = true) : 0 ≤ decV (s.take k) ∧ decV (s.take k) ≤ 1000000000 := by
 have := decV_le k s h ha
 have h2 : (10 : Int) ^ k ≤ 10 ^ 9 := by
  have : (10 : Nat) ^ k ≤ 10 ^ 9 := Nat.pow_le_pow_right (by decide) (by omega)
  exact_mod_cast this
 omega
theorem dig_at (s : List UInt8) (k : Nat) : isDig (s.getD k 0) = (decide (48 ≤ (s.getD k 0).toNat) && decide ((s.getD k 0).toNat ≤ 57)) := rfl
theorem u8_min : IntKind.u8.min = 0 := rfl
theorem u8_max : IntKind.u8.max = 255 := rfl
theorem inKind_u8 (n : Int) : inKind .u8 n ↔ 0 ≤ n ∧ n ≤ 255 := Iff.rfl
theorem inKind_i64' (n : Int) : inKind .i64 n ↔ inI64 n := Iff.rfl
theorem numB_eq (m : Int) (s : List UInt8) : numB m s = (decide (1 ≤ s.length) && decide ((s.length : Int) ≤ m) && !(decide (1 < s.length) && decide ((s.getD 0 0).toNat = 48)) && allL isDig s) := rfl
theorem num_no (m : Int) (s : List UInt8) (h : ¬ (1 ≤ s.length ∧ (s.length : Int) ≤ m ∧ ¬ (1 < s.length ∧ (s.getD 0 0).toNat = 48))) : numV m s = 0 ∧ numB m s = false := by
 have e : numB m s = false := by
  cases hb : numB m s with
  | false => rfl
  | true =>
   rw [numB_eq] at hb
   simp only [Bool.and_eq_true, decide_eq_true_eq, Bool.not_eq_true', Bool.and_eq_false_iff, decide_eq_false_iff_not] at hb
   exact absurd ⟨hb.1.1.1, hb.1.1.2, fun h => by rcases hb.1.2 with g | g <;> omega⟩ h
 exact ⟨by simp [numV, e], e⟩
structure numQ (m : Int) (s : List UInt8) (k : Nat) : Prop where
 len : k ≤ s.length ∧ s.length ≤ 9
 ok : 1 ≤ s.length ∧ (s.length : Int) ≤ m ∧ ¬ (1 < s.length ∧ (s.getD 0 0).toNat = 48)
 all : allL isDig (s.take k) = true
theorem num_zero (m : Int) (s : List UInt8) (h : 1 ≤ s.length ∧ (s.length : Int) ≤ m ∧ ¬ (1 < s.length ∧ (s.getD 0 0).toNat = 48)) (hm : m ≤ 9) : numQ m s 0 :=
 ⟨⟨by omega, by omega⟩, h, by simp [allL]⟩
theorem num_bad (m : Int) (s : List UInt8) (k : Nat) (h : numQ m s k) (hk : k < s.length) (hb : (s.getD k 0).toNat < 48 ∨ 57 < (s.getD k 0).toNat) : numV m s = 0 ∧ numB m s = false := by
 have e : allL isDig s = false := all_bad isDig 0 s k hk (by rw [dig_at, Bool.and_eq_false_iff, decide_eq_false_iff_not, decide_eq_false_iff_not]; omega)
 have e' : numB m s = false := by rw [numB_eq, e]; simp
 exact ⟨by simp [numV, e'], e'⟩
theorem num_good (m : Int) (s : List UInt8) (k : Nat) (h : numQ m s k) (hk : k < s.length) (h1 : 48 ≤ (s.getD k 0).toNat) (h2 : (s.getD k 0).toNat ≤ 57) : numQ m s (k + 1) ∧ decV (s.take (k + 1)) = decV (s.take k) * 10 + (((s.getD k 0).toNat : Int) - 48) :=
 ⟨⟨⟨hk, h.len.2⟩, h.ok, by rw [all_take isDig 0 s k hk, h.all, dig_at, decide_eq_true h1, decide_eq_true h2]; rfl⟩, decV_snoc s k hk⟩
theorem num_end (m : Int) (s : List UInt8) (k : Nat) (h : numQ m s k) (hk : s.length ≤ k) : numV m s = decV (s.take k) ∧ numB m s = true := by
 have e : s.take k = s := List.take_of_length_le hk
 have ha := h.all
 rw [e] at ha
 have e' : numB m s = true := by
  rw [numB_eq, ha]
  have := h.ok
  simp only [Bool.and_eq_true, decide_eq_true_eq, Bool.not_eq_true', Bool.and_eq_false_iff, decide_eq_false_iff_not]
  exact ⟨⟨⟨this.1, this.2.1⟩, (Nat.lt_or_ge 1 s.length).elim (fun g => .inr (by omega)) (fun g => .inl (by omega))⟩, trivial⟩
 exact ⟨by rw [e]; simp [numV, e'], e'⟩
theorem num_le (m : Int) (s : List UInt8) (k : Nat) (h : numQ m s k) : k ≤ s.length ∧ 0 ≤ decV (s.take k) ∧ decV (s.take k) ≤ 1000000000 :=
 ⟨h.len.1, decV_small s k h.len.1 h.len.2 h.all⟩
def k_spec_l01Number : Ctr := ⟨n_spec_l01Number, [.v .str], fun (s : List UInt8) => ⟨(none, [⟨(.int .i64), numV 9 s⟩, ⟨.bool, numB 9 s⟩])⟩⟩
def l_spec_l01Number (s : List UInt8) : Nat → LoopInv := (fun zb => if Nat.beq zb 0 then .mk (Nat) (fun k => numQ 9 s k) (fun k => s.length - k) [] [1, 6, 7, 8, 9, 10, 11, 12, 13, 14, 15, 16, 17, 18, 19, 20, 21, 22, 23] (fun k => [(5, .imm ⟨(.int .i64), ((k : Int) : Int)⟩), (4, .imm ⟨(.int .i64), (decV (s.take k) : Int)⟩)]) [0, 2, 3, 4, 5, 24, 25, 26, 27, 28, 29, 30, 31, 32, 33, 34, 35, 36, 37, 38, 39, 40, 41, 42, 43, 44, 45, 46, 47, 48] (fun k => []) [] [] (fun k => fun _ => .none) else .none)
abbrev j_spec_l01Number_0 (s : List UInt8) (k1 : Nat) : Prop := (inI64 ((decV (s.take k1)) * (10 : Int)) ∧ (idxOk (k1 : Int) s.length ∧ (inKind .u8 ((((s.getD k1 0).toNat : Int)) - (48 : Int)) ∧ (inI64 ((((s.getD k1 0).toNat : Int)) - (48 : Int)) ∧ (inI64 (((decV (s.take k1)) * (10 : Int)) + ((((s.getD k1 0).toNat : Int)) - (48 : Int))) ∧ (inI64 ((k1 : Int) + (1 : Int)) ∧ (∃ k2 : Nat, (numQ 9 s k2 ∧ (s.length - k2 < s.length - k1 ∧ ((s = s ∧ ((((decV (s.take k1)) * (10 : Int)) + ((((s.getD k1 0).toNat : Int)) - (48 : Int))) = (decV (s.take k2)) ∧ (((k1 : Int) + (1 : Int)) = (k2 : Int) ∧ True))) ∧ True))))))))))
abbrev j_spec_l01Number_1 (s : List UInt8) : Prop := ((∃ k1 : Nat, (numQ 9 s k1 ∧ ((s = s ∧ ((0 : Int) = (decV (s.take k1)) ∧ ((0 : Int) = (k1 : Int) ∧ True))) ∧ True))) ∧ (∀ k1 : Nat, (numQ 9 s k1 →
 (inI64 ((s.length : Int)) →
 (((decide ((k1 : Int) < ((s.length : Int)))) = true →
 (idxOk (k1 : Int) s.length ∧ (((decide ((((s.getD k1 0).toNat : Int)) < (48 : Int))) = false →
 (idxOk (k1 : Int) s.length ∧ (((decide ((57 : Int) < (((s.getD k1 0).toNat : Int)))) = true →
 ((0 : Int) = (numV 9 s) ∧ false = (numB 9 s))) ∧ ((decide ((57 : Int) < (((s.getD k1 0).toNat : Int)))) = false →
 (j_spec_l01Number_0 s k1))))) ∧ ((decide ((((s.getD k1 0).toNat : Int)) < (48 : Int))) = (!false) →
 ((true = true →
 ((0 : Int) = (numV 9 s) ∧ false = (numB 9 s))) ∧ (true = false →
 (j_spec_l01Number_0 s k1))))))) ∧ ((decide ((k1 : Int) < ((s.length : Int)))) = false →
 ((decV (s.take k1)) = (numV 9 s) ∧ true = (numB 9 s))))))))
abbrev j_spec_l01Number_2 (s : List UInt8) : Prop := (idxOk (0 : Int) s.length ∧ (((decide ((((s.getD 0 0).toNat : Int)) = (48 : Int))) = true →
 (inI64 ((s.length : Int)) →
 (((decide ((1 : Int) < ((s.length : Int)))) = true →
 ((0 : Int) = (numV 9 s) ∧ false = (numB 9 s))) ∧ ((decide ((1 : Int) < ((s.length : Int)))) = false →
 (j_spec_l01Number_1 s))))) ∧ ((decide ((((s.getD 0 0).toNat : Int)) = (48 : Int))) = (!true) →
 ((false = true →
 ((0 : Int) = (numV 9 s) ∧ false = (numB 9 s))) ∧ (false = false →
 (j_spec_l01Number_1 s))))))
theorem vc_spec_l01Number (s : List UInt8) : awp (envOf []) (bodyOf f_spec_l01Number) (l_spec_l01Number s) 0 (funPost (envOf []) f_spec_l01Number fun r => areEq r [⟨(.int .i64), numV 9 s⟩, ⟨.bool, numB 9 s⟩]) (startState f_spec_l01Number [.val ⟨.str, s⟩]) =
 ((inI64 ((s.length : Int)) →
 (((decide (((s.length : Int)) < (1 : Int))) = false →
 (inI64 ((s.length : Int)) →
 (((decide ((9 : Int) < ((s.length : Int)))) = false →
 (j_spec_l01Number_2 s)) ∧ ((decide ((9 : Int) < ((s.length : Int)))) = (!false) →
 ((true = true →
 ((0 : Int) = (numV 9 s) ∧ false = (numB 9 s))) ∧ (true = false →
 (j_spec_l01Number_1 s))))))) ∧ ((decide (((s.length : Int)) < (1 : Int))) = (!false) →
 ((true = false →
 (j_spec_l01Number_2 s)) ∧ (true = (!false) →
 ((true = true →
 ((0 : Int) = (numV 9 s) ∧ false = (numB 9 s))) ∧ (true = false →
 (j_spec_l01Number_1 s))))))))) := by kernel_rfl
theorem ok_spec_l01Number (hE : AllGood []) : Ctr.Good k_spec_l01Number := by
 refine ⟨fnOk_of at_spec_l01Number rfl (by decide), ?_⟩
 show ∀ (s : List UInt8), True → OkCall prog n_spec_l01Number [.val ⟨.str, s⟩] (· = [⟨(.int .i64), numV 9 s⟩, ⟨.bool, numB 9 s⟩])
 intro s _
 refine ok_of_awp (wr := []) (cl := []) (ro := []) hE at_spec_l01Number body_spec_l01Number (l_spec_l01Number s) ?_
 rewrite [vc_spec_l01Number s]
 have f1 : decV (s.take 0) = 0 := by simp [decV]
 refine fun a0 => ⟨fun a1 => fun a2 => ⟨fun a3 => ⟨?_, ⟨fun a4 => fun a5 => ⟨fun a6 => ⟨?_, ?_⟩, fun a6 => ⟨⟨0, ⟨?_, ⟨⟨rfl, ⟨?_, ⟨?_, trivial⟩⟩⟩, trivial⟩⟩⟩, fun k1 => fun a7 => fun a8 => ⟨fun a9 => ⟨?_, ⟨fun a10 => ⟨?_, ⟨fun a11 => ⟨?_, ?_⟩, fun a11 => ⟨?_, ⟨?_, ⟨?_, ⟨?_, ⟨?_, ⟨?_, ⟨k1 + 1, ⟨?_, ⟨?_, ⟨⟨rfl, ⟨?_, ⟨?_, trivial⟩⟩⟩, trivial⟩⟩⟩⟩⟩⟩⟩⟩⟩⟩⟩⟩, fun a10 => ⟨fun a11 => ⟨?_, ?_⟩, fun a11 => ⟨?_, ⟨?_, ⟨?_, ⟨?_, ⟨?_, ⟨?_, ⟨k1 + 1, ⟨?_, ⟨?_, ⟨⟨rfl, ⟨?_, ⟨?_, trivial⟩⟩⟩, trivial⟩⟩⟩⟩⟩⟩⟩⟩⟩⟩⟩⟩⟩, fun a9 => ⟨?_, ?_⟩⟩⟩⟩, fun a4 => ⟨fun a5 => ⟨?_, ?_⟩, fun a5 => ⟨⟨0, ⟨?_, ⟨⟨rfl, ⟨?_, ⟨?_, trivial⟩⟩⟩, trivial⟩⟩⟩, fun k1 => fun a6 => fun a7 => ⟨fun a8 => ⟨?_, ⟨fun a9 => ⟨?_, ⟨fun a10 => ⟨?_, ?_⟩, fun a10 => ⟨?_, ⟨?_, ⟨?_, ⟨?_, ⟨?_, ⟨?_, ⟨k1 + 1, ⟨?_, ⟨?_, ⟨⟨rfl, ⟨?_, ⟨?_, trivial⟩⟩⟩, trivial⟩⟩⟩⟩⟩⟩⟩⟩⟩⟩⟩⟩, fun a9 => ⟨fun a10 => ⟨?_, ?_⟩, fun a10 => ⟨?_, ⟨?_, ⟨?_, ⟨?_, ⟨?_, ⟨?_, ⟨k1 + 1, ⟨?_, ⟨?_, ⟨⟨rfl, ⟨?_, ⟨?_, trivial⟩⟩⟩, trivial⟩⟩⟩⟩⟩⟩⟩⟩⟩⟩⟩⟩⟩, fun a8 => ⟨?_, ?_⟩⟩⟩⟩⟩⟩, fun a3 => ⟨fun a4 => ⟨?_, ?_⟩, fun a4 => ⟨⟨0, ⟨?_, ⟨⟨rfl, ⟨?_, ⟨?_, trivial⟩⟩⟩, trivial⟩⟩⟩, fun k1 => fun a5 => fun a6 => ⟨fun a7 => ⟨?_, ⟨fun a8 => ⟨?_, ⟨fun a9 => ⟨?_, ?_⟩, fun a9 => ⟨?_, ⟨?_, ⟨?_, ⟨?_, ⟨?_, ⟨?_, ⟨k1 + 1, ⟨?_, ⟨?_, ⟨⟨rfl, ⟨?_, ⟨?_, trivial⟩⟩⟩, trivial⟩⟩⟩⟩⟩⟩⟩⟩⟩⟩⟩⟩, fun a8 => ⟨fun a9 => ⟨?_, ?_⟩, fun a9 => ⟨?_, ⟨?_, ⟨?_, ⟨?_, ⟨?_, ⟨?_, ⟨k1 + 1, ⟨?_, ⟨?_, ⟨⟨rfl, ⟨?_, ⟨?_, trivial⟩⟩⟩, trivial⟩⟩⟩⟩⟩⟩⟩⟩⟩⟩⟩⟩⟩, fun a7 => ⟨?_, ?_⟩⟩⟩⟩⟩, fun a1 => ⟨fun a2 => ⟨?_, ⟨fun a3 => fun a4 => ⟨fun a5 => ⟨?_, ?_⟩, fun a5 => ⟨⟨0, ⟨?_, ⟨⟨rfl, ⟨?_, ⟨?_, trivial⟩⟩⟩, trivial⟩⟩⟩, fun k1 => fun a6 => fun a7 => ⟨fun a8 => ⟨?_, ⟨fun a9 => ⟨?_, ⟨fun a10 => ⟨?_, ?_⟩, fun a10 => ⟨?_, ⟨?_, ⟨?_, ⟨?_, ⟨?_, ⟨?_, ⟨k1 + 1, ⟨?_, ⟨?_, ⟨⟨rfl, ⟨?_, ⟨?_, trivial⟩⟩⟩, trivial⟩⟩⟩⟩⟩⟩⟩⟩⟩⟩⟩⟩, fun a9 => ⟨fun a10 => ⟨?_, ?_⟩, fun a10 => ⟨?_, ⟨?_, ⟨?_, ⟨?_, ⟨?_, ⟨?_, ⟨k1 + 1, ⟨?_, ⟨?_, ⟨⟨rfl, ⟨?_, ⟨?_, trivial⟩⟩⟩, trivial⟩⟩⟩⟩⟩⟩⟩⟩⟩⟩⟩⟩⟩, fun a8 => ⟨?_, ?_⟩⟩⟩⟩, fun a3 => ⟨fun a4 => ⟨?_, ?_⟩, fun a4 => ⟨⟨0, ⟨?_, ⟨⟨rfl, ⟨?_, ⟨?_, trivial⟩⟩⟩, trivial⟩⟩⟩, fun k1 => fun a5 => fun a6 => ⟨fun a7 => ⟨?_, ⟨fun a8 => ⟨?_, ⟨fun a9 => ⟨?_, ?_⟩, fun a9 => ⟨?_, ⟨?_, ⟨?_, ⟨?_, ⟨?_, ⟨?_, ⟨k1 + 1, ⟨?_, ⟨?_, ⟨⟨rfl, ⟨?_, ⟨?_, trivial⟩⟩⟩, trivial⟩⟩⟩⟩⟩⟩⟩⟩⟩⟩⟩⟩, fun a8 => ⟨fun a9 => ⟨?_, ?_⟩, fun a9 => ⟨?_, ⟨?_, ⟨?_, ⟨?_, ⟨?_, ⟨?_, ⟨k1 + 1, ⟨?_, ⟨?_, ⟨⟨rfl, ⟨?_, ⟨?_, trivial⟩⟩⟩, trivial⟩⟩⟩⟩⟩⟩⟩⟩⟩⟩⟩⟩⟩, fun a7 => ⟨?_, ?_⟩⟩⟩⟩⟩⟩, fun a2 => ⟨fun a3 => ⟨?_, ?_⟩, fun a3 => ⟨⟨0, ⟨?_, ⟨⟨rfl, ⟨?_, ⟨?_, trivial⟩⟩⟩, trivial⟩⟩⟩, fun k1 => fun a4 => fun a5 => ⟨fun a6 => ⟨?_, ⟨fun a7 => ⟨?_, ⟨fun a8 => ⟨?_, ?_⟩, fun a8 => ⟨?_, ⟨?_, ⟨?_, ⟨?_, ⟨?_, ⟨?_, ⟨k1 + 1, ⟨?_, ⟨?_, ⟨⟨rfl, ⟨?_, ⟨?_, trivial⟩⟩⟩, trivial⟩⟩⟩⟩⟩⟩⟩⟩⟩⟩⟩⟩, fun a7 => ⟨fun a8 => ⟨?_, ?_⟩, fun a8 => ⟨?_, ⟨?_, ⟨?_, ⟨?_, ⟨?_, ⟨?_, ⟨k1 + 1, ⟨?_, ⟨?_, ⟨⟨rfl, ⟨?_, ⟨?_, trivial⟩⟩⟩, trivial⟩⟩⟩⟩⟩⟩⟩⟩⟩⟩⟩⟩⟩, fun a6 => ⟨?_, ?_⟩⟩⟩⟩⟩⟩
 all_goals try and_intros
 all_goals first | rfl | trivial | omega | ((try simp only [Bool.not_true, Bool.not_false, decide_eq_true_eq, decide_eq_false_iff_not, idxOk, inKind_u8, inKind_i64', inI64, u8_min, u8_max] at *); first | omega | exact (num_no 9 s (by omega)).1.symm | exact (num_no 9 s (by omega)).2.symm | exact num_zero 9 s (by omega) (by omega) | (have hq : numQ 9 s k1 := (by with_reducible assumption); have hl := num_le 9 s k1 hq; first | omega | exact (num_bad 9 s k1 hq (by omega) (by omega)).1.symm | exact (num_bad 9 s k1 hq (by omega) (by omega)).2.symm | exact (num_good 9 s k1 hq (by omega) (by omega) (by omega)).1 | exact (num_good 9 s k1 hq (by omega) (by omega) (by omega)).2.symm | (rw [(num_good 9 s k1 hq (by omega) (by omega) (by omega)).2]; omega) | exact (num_end 9 s k1 hq (by omega)).1.symm | exact (num_end 9 s k1 hq (by omega)).2.symm))
theorem good_spec_l01Number : Ctr.Good k_spec_l01Number := ok_spec_l01Number trivial
def inB0 (b n : Int) : Bool := decide (0 ≤ n ∧ n ≤ b - 1)
def trB (gg : GSig) (x : GWord) : Bool := decide (x.atoms.length = x.acts.length + 1) && allL (inB0 (atomsN gg)) x.atoms && allL (inB0 gg.actions) x.acts
def wdB (gg : GSig) (x : GWord) : Bool := decide (x.acts.length ≤ 10) && trB gg x
end
end Go.Proofs.YtbphjcgkidlabaaDoor

set_option linter.unusedVariables false
set_option linter.unusedSimpArgs false
set_option linter.unusedSectionVars false
namespace Go.Proofs.YtbphjcgkidlabaaDoor
noncomputable section
def pcS (k : Nat) (s : List UInt8) : List UInt8 := if k % 2 = 1 then s.drop 1 else s
def hasA (s : List UInt8) : Bool := decide (1 ≤ s.length) && decide ((s.getD 0 0).toNat = 97)
def pcB (m : Int) (ps : List (List UInt8)) (k : Nat) : Bool := (decide (k % 2 = 0) || hasA (ps.getD k [])) && numB m (pcS k (ps.getD k []))
def evs (ps : List (List UInt8)) : Nat → List Int
 | 0 => []
 | k + 1 => if k % 2 = 1 then evs ps k else evs ps k ++ [decV (pcS k (ps.getD k []))]
def ods (ps : List (List UInt8)) : Nat → List Int
 | 0 => []
 | k + 1 => if k % 2 = 1 then ods ps k ++ [decV (pcS k (ps.getD k []))] else ods ps k
def rwW (ps : List (List UInt8)) : GWord := ⟨evs ps ps.length, ods ps ps.length⟩
def rwB (gg : GSig) (m : Int) (ps : List (List UInt8)) : Bool := allN (pcB m ps) ps.length && wdB gg (rwW ps)
def rwI (gg : GSig) (t : List UInt8) : Bool := decide (t.length ≤ 100) && rwB gg 1 (cutL 32 t)
theorem numB_one (s : List UInt8) (h : numB 9 s = true) (h9 : decV s ≤ 9) : numB 1 s = true := by
 rw [numB_eq] at h ⊢
 simp only [Bool.and_eq_true, decide_eq_true_eq, Bool.not_eq_true', Bool.and_eq_false_iff, decide_eq_false_iff_not] at h ⊢
 obtain ⟨⟨⟨h1, h2⟩, h3⟩, h4⟩ := h
 refine ⟨⟨⟨h1, ?_⟩, h3⟩, h4⟩
 rcases Nat.lt_or_ge 1 s.length with hl | hl
 ·exfalso
  match s, hl, h3, h4, h9 with
  | a :: b :: r, _, h3, h4, h9 =>
   have ha : isDig a = true := by simp [allL] at h4; exact h4.1
   have ha' := ha
   simp only [isDig, Bool.and_eq_true, decide_eq_true_eq] at ha
   have h3' : a.toNat ≠ 48 := by rcases h3 with h3 | h3 <;> simp at h3 <;> omega
   have key : ∀ (r : List UInt8) (n : Int), 1 ≤ n → allL isDig r = true → n ≤ r.foldl (fun n b => n * 10 + ((b.toNat : Int) - 48)) n := by
    intro r
    induction r with
    | nil => intro n _ _; exact Int.le_refl _
    | cons c r ih =>
     intro n hn hr
     simp only [allL, Bool.and_eq_true] at hr
     have hc := hr.1
     simp only [isDig, Bool.and_eq_true, decide_eq_true_eq] at hc
     have := ih (n * 10 + ((c.toNat : Int) - 48)) (by omega) hr.2
     simp only [List.foldl_cons]; omega
   simp only [allL, Bool.and_eq_true] at h4
   have hb := h4.2.1
   simp only [isDig, Bool.and_eq_true, decide_eq_true_eq] at hb
   have := key r (((0 * 10 + ((a.toNat : Int) - 48)) * 10) + ((b.toNat : Int) - 48)) (by omega) h4.2.2
   simp only [decV, List.foldl_cons] at h9
   omega
 ·omega
structure rwQ (gg : GSig) (m : Int) (t : List UInt8) (k : Nat) : Prop where
 sig : sigOk gg = true
 eq : rwI gg t = rwB gg m (cutL 32 t)
 le : k ≤ (cutL 32 t).length
 all : allN (pcB m (cutL 32 t)) k = true
end
end Go.Proofs.YtbphjcgkidlabaaDoor

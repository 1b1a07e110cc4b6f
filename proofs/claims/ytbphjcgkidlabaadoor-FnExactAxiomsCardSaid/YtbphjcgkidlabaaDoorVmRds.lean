/- Rdm, Rds. -/
import Derived.Test.YtbphjcgkidlabaaDoorVmUse
import Derived.Test.YtbphjcgkidlabaaDoorVmLib
import Derived.Test.YtbphjcgkidlabaaDoorVmWord2
import Derived.Test.YtbphjcgkidlabaaDoorVmRExpr2
import Derived.Test.YtbphjcgkidlabaaDoorVmBld
set_option linter.unusedVariables false
set_option linter.unusedSimpArgs false
set_option linter.unusedSectionVars false
set_option maxRecDepth 4000
set_option maxHeartbeats 4000000
namespace Go.Proofs.YtbphjcgkidlabaaDoor
noncomputable section
theorem tkB_p (t : List UInt8) (a : Nat) (s : List UInt8) : (decide (s.length ≤ (t.drop a).length) && decide ((t.drop a).take s.length = s)) = tkB t a s := rfl
theorem tkB_len (t : List UInt8) (a : Nat) (s : List UInt8) (h : tkB t a s = true) : s.length + a ≤ t.length ∨ s = [] := by
 obtain ⟨r, hr⟩ := (tkB_iff t a s).1 h
 have := congrArg List.length hr
 simp only [List.length_drop, List.length_append] at this
 cases s with
 | nil => exact .inr rfl
 | cons b l => left; simp only [List.length_cons] at this ⊢; omega
def tkP (t : List UInt8) (a : Int) (p : List UInt8) : Int := bif tkB t a.toNat p then a + (p.length : Int) else a
def dgP (t : List UInt8) (a : Int) : Int := bif digB t a.toNat then a + 1 else a
def dgV (t : List UInt8) (a : Int) : Int := bif digB t a.toNat then ((t.getD a.toNat 0).toNat : Int) - 48 else 0
theorem u8lo : IntKind.u8.min = 0 := rfl
theorem u8hi : IntKind.u8.max = 255 := rfl
theorem bt_in (b : UInt8) : 0 ≤ (b.toNat : Int) ∧ (b.toNat : Int) ≤ 255 := by have := b.toNat_lt; omega
def ks_impl_reader_take : SCt := ⟨n_impl_reader_take, [[.d .str, .d (.int .i64)]], [.b 0, .v .str], [[.str, (.int .i64)]], fun (p : List UInt8) (t : List UInt8) (a : Int) => ⟨(some (0 ≤ a ∧ a ≤ (t.length : Int) ∧ t.length ≤ 10000 ∧ p.length ≤ 10 ∧ 1 ≤ p.length), [⟨.bool, tkB t a.toNat p⟩], [[⟨.str, t⟩, ⟨(.int .i64), tkP t a p⟩]])⟩⟩
def ls_impl_reader_take (p : List UInt8) (t : List UInt8) (a : Int) : Nat → LoopInv := fun _ => .none
theorem vcs_impl_reader_take (p : List UInt8) (t : List UInt8) (a : Int) : awp (envO [k_strings_HasPrefix] [] [] [] []) (bodyOf f_impl_reader_take) (ls_impl_reader_take p t a) 0 (stPost (envO [k_strings_HasPrefix] [] [] [] []) f_impl_reader_take [[.d .str, .d (.int .i64)]] fun r ds => areEq r [⟨.bool, tkB t a.toNat p⟩] ∧ areEqs ds [[⟨.str, t⟩, ⟨(.int .i64), tkP t a p⟩]]) (startSt f_impl_reader_take [.box 0, .val ⟨.str, p⟩] [[.d .str, .d (.int .i64)]] [[⟨.str, t⟩, ⟨(.int .i64), a⟩]]) =
 ((cutOk a ((t.length : Int)) t.length ∧ (t.length ≤ 140737488355328 →
 (inI64 a →
 (((!(decide (p.length ≤ ((t.take (Int.toNat ((t.length : Int)))).drop (Int.toNat a)).length) && decide (((t.take (Int.toNat ((t.length : Int)))).drop (Int.toNat a)).take p.length = p))) = true →
 (false = (tkB t a.toNat p) ∧ ((t = t ∧ a = (tkP t a p)) ∧ True))) ∧ ((!(decide (p.length ≤ ((t.take (Int.toNat ((t.length : Int)))).drop (Int.toNat a)).length) && decide (((t.take (Int.toNat ((t.length : Int)))).drop (Int.toNat a)).take p.length = p))) = false →
 (inI64 a →
 (inI64 ((p.length : Int)) →
 (inI64 (a + ((p.length : Int))) ∧ (true = (tkB t a.toNat p) ∧ ((t = t ∧ (a + ((p.length : Int))) = (tkP t a p)) ∧ True))))))))))) := by kernel_rfl
theorem oks_impl_reader_take (hE : AllGood [k_strings_HasPrefix]) (hO : AllO []) (hM : AllM []) (hS : AllS []) : SCt.Good ks_impl_reader_take := by
 refine ⟨fnOk_of at_impl_reader_take rfl (by decide), ?_⟩
 show ∀ (p : List UInt8) (t : List UInt8) (a : Int), (0 ≤ a ∧ a ≤ (t.length : Int) ∧ t.length ≤ 10000 ∧ p.length ≤ 10 ∧ 1 ≤ p.length) → OkSt prog n_impl_reader_take [[.d .str, .d (.int .i64)]] [.box 0, .val ⟨.str, p⟩] [[⟨.str, t⟩, ⟨(.int .i64), a⟩]] [⟨.bool, tkB t a.toNat p⟩] [[⟨.str, t⟩, ⟨(.int .i64), tkP t a p⟩]]
 intro p t a hp
 refine st_of_awp (own := []) (wr := []) (cl := []) (ro := []) hE hO hM hS at_impl_reader_take body_impl_reader_take (ls_impl_reader_take p t a) rfl rfl ?_
 rewrite [vcs_impl_reader_take p t a]
 obtain ⟨h1, h2, h3, h4, h5⟩ := hp
 have f0 : tkP t a p = bif tkB t a.toNat p then a + (p.length : Int) else a := rfl
 refine ⟨?_, fun a0 => fun a1 => ⟨fun a2 => ⟨?_, ⟨⟨rfl, ?_⟩, trivial⟩⟩, fun a2 => fun a3 => fun a4 => ⟨?_, ⟨?_, ⟨⟨rfl, ?_⟩, trivial⟩⟩⟩⟩⟩
 all_goals try and_intros
 all_goals first | rfl | trivial | omega | ((try simp only [Bool.not_true, Bool.not_false, Bool.not_eq_true', Bool.not_eq_false', decide_eq_true_eq, decide_eq_false_iff_not] at *) <;> (try simp only [Int.toNat_natCast, List.take_length, tkB_p, idxOk, cutOk, inI64] at *) <;> first | with_reducible rfl | omega | (have h1 := tkB_len _ _ _ (by with_reducible assumption); have h2 : p.length ≤ 10 := by omega; omega) | (rw [by with_reducible assumption]; done) | (rw [show tkB t a.toNat p = _ from by with_reducible assumption]; rfl) | simp_all)
theorem sgood_impl_reader_take : SCt.Good ks_impl_reader_take := oks_impl_reader_take ⟨good_strings_HasPrefix, trivial⟩ trivial trivial trivial
def ks_impl_reader_digit : SCt := ⟨n_impl_reader_digit, [[.d .str, .d (.int .i64)]], [.b 0], [[.str, (.int .i64)]], fun (t : List UInt8) (a : Int) => ⟨(some (0 ≤ a ∧ a ≤ (t.length : Int) ∧ t.length ≤ 10000), [⟨(.int .i64), dgV t a⟩, ⟨.bool, digB t a.toNat⟩], [[⟨.str, t⟩, ⟨(.int .i64), dgP t a⟩]])⟩⟩
def ls_impl_reader_digit (t : List UInt8) (a : Int) : Nat → LoopInv := fun _ => .none
abbrev js_impl_reader_digit_0 (t : List UInt8) (a : Int) : Prop := (inI64 a →
 (inI64 (a + (1 : Int)) ∧ (inI64 ((a + (1 : Int)) - (1 : Int)) ∧ (t.length ≤ 140737488355328 →
 (inI64 (a + (1 : Int)) →
 (idxOk ((a + (1 : Int)) - (1 : Int)) t.length ∧ (inKind .u8 ((((t.getD (Int.toNat ((a + (1 : Int)) - (1 : Int))) 0).toNat : Int)) - (48 : Int)) ∧ (inI64 ((((t.getD (Int.toNat ((a + (1 : Int)) - (1 : Int))) 0).toNat : Int)) - (48 : Int)) ∧ ((((((t.getD (Int.toNat ((a + (1 : Int)) - (1 : Int))) 0).toNat : Int)) - (48 : Int)) = (dgV t a) ∧ true = (digB t a.toNat)) ∧ ((t = t ∧ (a + (1 : Int)) = (dgP t a)) ∧ True))))))))))
abbrev js_impl_reader_digit_1 (t : List UInt8) (a : Int) : Prop := (t.length ≤ 140737488355328 →
 (inI64 a →
 (idxOk a t.length ∧ (((decide ((((t.getD (Int.toNat a) 0).toNat : Int)) ≤ (57 : Int))) = true →
 (js_impl_reader_digit_0 t a)) ∧ ((decide ((((t.getD (Int.toNat a) 0).toNat : Int)) ≤ (57 : Int))) = false →
 (((0 : Int) = (dgV t a) ∧ false = (digB t a.toNat)) ∧ ((t = t ∧ a = (dgP t a)) ∧ True)))))))
abbrev js_impl_reader_digit_2 (t : List UInt8) (a : Int) : Prop := ((false = true →
 (js_impl_reader_digit_0 t a)) ∧ (false = false →
 (((0 : Int) = (dgV t a) ∧ false = (digB t a.toNat)) ∧ ((t = t ∧ a = (dgP t a)) ∧ True))))
theorem vcs_impl_reader_digit (t : List UInt8) (a : Int) : awp (envO [] [] [] [] []) (bodyOf f_impl_reader_digit) (ls_impl_reader_digit t a) 0 (stPost (envO [] [] [] [] []) f_impl_reader_digit [[.d .str, .d (.int .i64)]] fun r ds => areEq r [⟨(.int .i64), dgV t a⟩, ⟨.bool, digB t a.toNat⟩] ∧ areEqs ds [[⟨.str, t⟩, ⟨(.int .i64), dgP t a⟩]]) (startSt f_impl_reader_digit [.box 0] [[.d .str, .d (.int .i64)]] [[⟨.str, t⟩, ⟨(.int .i64), a⟩]]) =
 ((((decide (a < ((t.length : Int)))) = true →
 (idxOk a t.length ∧ (((decide ((48 : Int) ≤ (((t.getD (Int.toNat a) 0).toNat : Int)))) = true →
 (inI64 a →
 (t.length ≤ 140737488355328 →
 (inI64 ((t.length : Int)) →
 (t.length ≤ 140737488355328 →
 (inI64 a →
 (js_impl_reader_digit_1 t a))))))) ∧ ((decide ((48 : Int) ≤ (((t.getD (Int.toNat a) 0).toNat : Int)))) = (!true) →
 (inI64 a →
 (t.length ≤ 140737488355328 →
 (inI64 ((t.length : Int)) →
 (t.length ≤ 140737488355328 →
 (inI64 a →
 (js_impl_reader_digit_2 t a)))))))))) ∧ ((decide (a < ((t.length : Int)))) = (!true) →
 ((false = true →
 (inI64 a →
 (t.length ≤ 140737488355328 →
 (inI64 ((t.length : Int)) →
 (js_impl_reader_digit_1 t a))))) ∧ (false = (!true) →
 (inI64 a →
 (t.length ≤ 140737488355328 →
 (inI64 ((t.length : Int)) →
 (js_impl_reader_digit_2 t a))))))))) := by kernel_rfl
theorem oks_impl_reader_digit (hE : AllGood []) (hO : AllO []) (hM : AllM []) (hS : AllS []) : SCt.Good ks_impl_reader_digit := by
 refine ⟨fnOk_of at_impl_reader_digit rfl (by decide), ?_⟩
 show ∀ (t : List UInt8) (a : Int), (0 ≤ a ∧ a ≤ (t.length : Int) ∧ t.length ≤ 10000) → OkSt prog n_impl_reader_digit [[.d .str, .d (.int .i64)]] [.box 0] [[⟨.str, t⟩, ⟨(.int .i64), a⟩]] [⟨(.int .i64), dgV t a⟩, ⟨.bool, digB t a.toNat⟩] [[⟨.str, t⟩, ⟨(.int .i64), dgP t a⟩]]
 intro t a hp
 refine st_of_awp (own := []) (wr := []) (cl := []) (ro := []) hE hO hM hS at_impl_reader_digit body_impl_reader_digit (ls_impl_reader_digit t a) rfl rfl ?_
 rewrite [vcs_impl_reader_digit t a]
 obtain ⟨h1, h2, h3⟩ := hp
 have f1 := bt_in (t.getD a.toNat 0)
 have f3 : dgP t a = bif digB t a.toNat then a + 1 else a := rfl
 have f4 : dgV t a = bif digB t a.toNat then ((t.getD a.toNat 0).toNat : Int) - 48 else 0 := rfl
 have f2 : digB t a.toNat = (decide (a.toNat < t.length) && decide (48 ≤ (t.getD a.toNat 0).toNat) && decide ((t.getD a.toNat 0).toNat ≤ 57)) := rfl
 refine ⟨fun a0 => ⟨?_, ⟨fun a1 => fun a2 => fun a3 => fun a4 => fun a5 => fun a6 => fun a7 => fun a8 => ⟨?_, ⟨fun a9 => fun a10 => ⟨?_, ⟨?_, fun a11 => fun a12 => ⟨?_, ⟨?_, ⟨?_, ⟨⟨?_, ?_⟩, ⟨⟨rfl, ?_⟩, trivial⟩⟩⟩⟩⟩⟩⟩, fun a9 => ⟨⟨?_, ?_⟩, ⟨⟨rfl, ?_⟩, trivial⟩⟩⟩⟩, fun a1 => fun a2 => fun a3 => fun a4 => fun a5 => fun a6 => ⟨fun a7 => fun a8 => ⟨?_, ⟨?_, fun a9 => fun a10 => ⟨?_, ⟨?_, ⟨?_, ⟨⟨?_, ?_⟩, ⟨⟨rfl, ?_⟩, trivial⟩⟩⟩⟩⟩⟩⟩, fun a7 => ⟨⟨?_, ?_⟩, ⟨⟨rfl, ?_⟩, trivial⟩⟩⟩⟩⟩, fun a0 => ⟨fun a1 => fun a2 => fun a3 => fun a4 => fun a5 => fun a6 => ⟨?_, ⟨fun a7 => fun a8 => ⟨?_, ⟨?_, fun a9 => fun a10 => ⟨?_, ⟨?_, ⟨?_, ⟨⟨?_, ?_⟩, ⟨⟨rfl, ?_⟩, trivial⟩⟩⟩⟩⟩⟩⟩, fun a7 => ⟨⟨?_, ?_⟩, ⟨⟨rfl, ?_⟩, trivial⟩⟩⟩⟩, fun a1 => fun a2 => fun a3 => fun a4 => ⟨fun a5 => fun a6 => ⟨?_, ⟨?_, fun a7 => fun a8 => ⟨?_, ⟨?_, ⟨?_, ⟨⟨?_, ?_⟩, ⟨⟨rfl, ?_⟩, trivial⟩⟩⟩⟩⟩⟩⟩, fun a5 => ⟨⟨?_, ?_⟩, ⟨⟨rfl, ?_⟩, trivial⟩⟩⟩⟩⟩
 all_goals try and_intros
 all_goals first | rfl | trivial | omega | (simp only [decide_eq_true_eq, decide_eq_false_iff_not, idxOk, inI64, u8lo, u8hi] at *; first | omega | grind [digB]) | grind [digB, u8lo, u8hi]
theorem sgood_impl_reader_digit : SCt.Good ks_impl_reader_digit := oks_impl_reader_digit trivial trivial trivial trivial
def nE (t : List UInt8) (a : Int) : Nat := cnt 126 (t.drop a.toNat)
def rE (t : List UInt8) (d a : Int) : RI := coreI t (d + 1).toNat (a.toNat + nE t a)
def mE (t : List UInt8) (d a : Int) : Nat := cnt 42 (t.drop (rE t d a).a)
def xE (t : List UInt8) (d a : Int) : RI := exprI (coreI t (d + 1).toNat) t a.toNat
theorem cnt_le (c : UInt8) : ∀ l : List UInt8, cnt c l ≤ l.length
 | [] => Nat.le_refl _
 | b :: l => by
  have := cnt_le c l
  unfold cnt
  split <;> simp <;> omega
theorem cnt_drop (c : UInt8) (t : List UInt8) (a : Nat) (h : a ≤ t.length) : a + cnt c (t.drop a) ≤ t.length := by
 have := cnt_le c (t.drop a)
 simp only [List.length_drop] at this; omega
theorem tkB_le (t : List UInt8) (a : Nat) (c : UInt8) (s : List UInt8) (h : tkB t a (c :: s) = true) : a + (c :: s).length ≤ t.length := by
 rcases tkB_len t a _ h with g | g
 ·omega
 ·cases g
theorem exprI_le (core : Nat → RI) (t : List UInt8) (hc : ∀ a, a ≤ t.length → (core a).a ≤ t.length) (a : Nat) (h : a ≤ t.length) : (exprI core t a).a ≤ t.length := by
 have h1 := cnt_drop 126 t a h
 have h2 := hc _ h1
 have h3 := cnt_drop 42 t _ h2
 unfold exprI
 split
 ·exact h1
 ·split
  ·show (core (a + cnt 126 (t.drop a))).a + 42 ≤ t.length
   omega
  ·exact h3
theorem leafI_le (k : Int) (t : List UInt8) (a : Nat) (h : a ≤ t.length) : (leafI k t a).a ≤ t.length := by
 unfold leafI
 cases e : digB t a
 ·exact h
 ·simp only [digB, Bool.and_eq_true, decide_eq_true_eq] at e
  show a + 1 ≤ t.length
  omega
theorem pairI_le (k : Int) (t : List UInt8) (x y : RI) (h : y.a ≤ t.length) : (pairI k t x y).a ≤ t.length := by
 unfold pairI
 cases e : x.ok && y.ok && tkB t y.a [41]
 ·exact h
 ·simp only [Bool.and_eq_true] at e
  have := tkB_le t _ 41 [] e.2
  simpa using this
theorem coreI_le (t : List UInt8) : ∀ (D a : Nat), a ≤ t.length → (coreI t D a).a ≤ t.length
 | 0, a, h => h
 | D + 1, a, h => by
  have hx : ∀ a, a ≤ t.length → (exprI (coreI t D) t a).a ≤ t.length := exprI_le (coreI t D) t (coreI_le t D)
  unfold coreI
  split
  ·rename_i e; exact tkB_le t a 48 [] e
  ·split
   ·rename_i e; exact tkB_le t a 49 [] e
   ·split
    ·rename_i e; exact leafI_le 3 t _ (tkB_le t a 116 [] e)
    ·split
     ·rename_i e; exact leafI_le 4 t _ (tkB_le t a 97 [] e)
     ·split
      ·exact h
      ·rename_i e
       have e' : tkB t a [40] = true := by simpa using e
       have h1 := hx _ (tkB_le t a 40 [] e')
       split
       ·rename_i e2; exact pairI_le 6 t _ _ (hx _ (tkB_le t _ 32 [43, 32] e2))
       ·split
        ·rename_i e2; exact pairI_le 7 t _ _ (hx _ (tkB_le t _ 32 [] e2))
        ·exact h1
theorem xE_le (t : List UInt8) (d a : Int) (h0 : 0 ≤ a) (h : a ≤ (t.length : Int)) : ((xE t d a).a : Int) ≤ (t.length : Int) := by
 have := exprI_le (coreI t (d + 1).toNat) t (coreI_le t _) a.toNat (by omega)
 unfold xE; omega
theorem tkP_ge (t : List UInt8) (a : Int) (p : List UInt8) (h0 : 0 ≤ a) : 0 ≤ tkP t a p := by
 unfold tkP; cases tkB t a.toNat p <;> simp <;> omega
theorem tkP_le (t : List UInt8) (a : Int) (p : List UInt8) (h0 : 0 ≤ a) (h : a ≤ (t.length : Int)) : tkP t a p ≤ (t.length : Int) := by
 unfold tkP
 cases e : tkB t a.toNat p
 ·exact h
 ·rcases tkB_len t _ p e with g | g
  ·simp only [cond_true]; omega
  ·subst g; simpa using h
theorem dgP_ge (t : List UInt8) (a : Int) (h0 : 0 ≤ a) : 0 ≤ dgP t a := by
 unfold dgP; cases digB t a.toNat <;> simp <;> omega
theorem dgP_le (t : List UInt8) (a : Int) (h0 : 0 ≤ a) (h : a ≤ (t.length : Int)) : dgP t a ≤ (t.length : Int) := by
 unfold dgP
 cases e : digB t a.toNat
 ·exact h
 ·simp only [digB, Bool.and_eq_true, decide_eq_true_eq] at e
  simp only [cond_true]; omega
theorem core_zero (t : List UInt8) (d a : Int) (h : d < 0) (ha : 0 ≤ a) : (coreI t (d + 1).toNat a.toNat).e = zX ∧ (coreI t (d + 1).toNat a.toNat).ok = false ∧ ((coreI t (d + 1).toNat a.toNat).a : Int) = a := by
 rw [show (d + 1).toNat = 0 by omega]
 exact ⟨rfl, rfl, by show ((a.toNat : Nat) : Int) = a; omega⟩
theorem core_eq (t : List UInt8) (d a : Int) (h : ¬ d < 0) (ha : 0 ≤ a) : coreI t (d + 1).toNat a.toNat =
  if tkB t a.toNat [48] = true then ⟨GExpr.mk 1 0 [], true, a.toNat + 1⟩ else if tkB t a.toNat [49] = true then ⟨GExpr.mk 2 0 [], true, a.toNat + 1⟩ else
  if tkB t a.toNat [116] = true then leafI 3 t (a + 1).toNat else if tkB t a.toNat [97] = true then leafI 4 t (a + 1).toNat else if tkB t a.toNat [40] = false then ⟨zX, false, a.toNat⟩ else
  if tkB t (xE t (d - 1) (a + 1)).a [32, 43, 32] = true then pairI 6 t (xE t (d - 1) (a + 1)) (xE t (d - 1) (((xE t (d - 1) (a + 1)).a : Int) + 3)) else
  if tkB t (xE t (d - 1) (a + 1)).a [32] = true then pairI 7 t (xE t (d - 1) (a + 1)) (xE t (d - 1) (((xE t (d - 1) (a + 1)).a : Int) + 1)) else
  ⟨zX, false, (xE t (d - 1) (a + 1)).a⟩ := by
 obtain ⟨D, hD⟩ : ∃ D : Nat, d = (D : Int) := ⟨d.toNat, by omega⟩
 subst hD
 have e1 : ((D : Int) + 1).toNat = D + 1 := by omega
 have e2 : ((D : Int) - 1 + 1).toNat = D := by omega
 have e3 : (a + 1).toNat = a.toNat + 1 := by omega
 have e4 : ∀ n : Nat, ((n : Int) + 3).toNat = n + 3 := fun n => by omega
 have e5 : ∀ n : Nat, ((n : Int) + 1).toNat = n + 1 := fun n => by omega
 unfold xE
 rw [e1, e2, e3]
 simp only [e4, e5]
 rw [coreI]
theorem tkP_f (t : List UInt8) (a : Int) (p : List UInt8) (h : tkB t a.toNat p = false) : tkP t a p = a := by unfold tkP; rw [h]; rfl
theorem tkP_t1 (t : List UInt8) (a : Int) (c : UInt8) (h : tkB t a.toNat [c] = true) : tkP t a [c] = a + 1 := by unfold tkP; rw [h]; rfl
theorem tkP_t3 (t : List UInt8) (a : Int) (c d e : UInt8) (h : tkB t a.toNat [c, d, e] = true) : tkP t a [c, d, e] = a + 3 := by unfold tkP; rw [h]; rfl
theorem leafI_eq (k : Int) (t : List UInt8) (a : Int) (h : 0 ≤ a) : leafI k t a.toNat = ⟨GExpr.mk k (dgV t a) [], digB t a.toNat, (dgP t a).toNat⟩ := by
 unfold leafI dgV dgP
 cases digB t a.toNat
 ·rfl
 ·simp only [cond_true, RI.mk.injEq, true_and]; omega
theorem pairI_e (k : Int) (t : List UInt8) (x y : RI) : (pairI k t x y).e = GExpr.mk k 0 [x.e, y.e] := by unfold pairI; cases x.ok && y.ok && tkB t y.a [41] <;> rfl
theorem pairI_ok (k : Int) (t : List UInt8) (x y : RI) : (pairI k t x y).ok = (x.ok && y.ok && tkB t y.a [41]) := by unfold pairI; cases x.ok && y.ok && tkB t y.a [41] <;> rfl
theorem pairI_a (k : Int) (t : List UInt8) (x y : RI) : ((pairI k t x y).a : Int) = bif x.ok && y.ok then tkP t (y.a : Int) [41] else (y.a : Int) := by
 unfold pairI tkP
 rw [Int.toNat_natCast]
 cases x.ok <;> cases y.ok <;> cases tkB t y.a [41] <;> rfl
theorem leaf_eq (k : Int) (t : List UInt8) (a : Int) (h : 0 ≤ a) : (leafI k t (a + 1).toNat).e = GExpr.mk k (dgV t (a + 1)) [] ∧ (leafI k t (a + 1).toNat).ok = digB t (a + 1).toNat ∧ ((leafI k t (a + 1).toNat).a : Int) = dgP t (a + 1) := by
 rw [leafI_eq k t (a + 1) (by omega)]
 have := dgP_ge t (a + 1) (by omega)
 exact ⟨rfl, rfl, by show ((dgP t (a + 1)).toNat : Int) = _; omega⟩
theorem cnt_next (c : UInt8) : ∀ (l : List UInt8) (k : Nat), k ≤ cnt c l → (k < cnt c l ↔ ∃ r, l.drop k = c :: r)
 | [], k, h => by simp [cnt]
 | b :: l, k, h => by
  unfold cnt at h ⊢
  split at h
  ·rename_i e
   rw [if_pos e]
   cases k with
   | zero => exact ⟨fun _ => ⟨l, by rw [e]; rfl⟩, fun _ => by omega⟩
   | succ k =>
    have := cnt_next c l k (by omega)
    rw [List.drop_succ_cons, ← this]; omega
  ·rename_i e
   rw [if_neg e]
   have hk : k = 0 := by omega
   subst hk
   refine ⟨fun h => by omega, fun ⟨r, hr⟩ => ?_⟩
   simp only [List.drop_zero, List.cons.injEq] at hr
   exact absurd hr.1 e
theorem tk_cnt (t : List UInt8) (n k : Nat) (c : UInt8) (h : k ≤ cnt c (t.drop n)) : tkB t (n + k) [c] = decide (k < cnt c (t.drop n)) := by
 have h1 := cnt_next c (t.drop n) k h
 rw [List.drop_drop] at h1
 rw [Bool.eq_iff_iff, decide_eq_true_eq, h1, tkB_iff]
 exact ⟨fun ⟨r, hr⟩ => ⟨r, hr⟩, fun ⟨r, hr⟩ => ⟨r, hr⟩⟩
theorem tk_nE (t : List UInt8) (a : Int) (k : Nat) (ha : 0 ≤ a) (h : k ≤ nE t a) : tkB t (a + (k : Int)).toNat [126] = decide (k < nE t a) := by
 rw [show (a + (k : Int)).toNat = a.toNat + k by omega]; exact tk_cnt t a.toNat k 126 h
theorem tk_mE (t : List UInt8) (d a : Int) (k : Nat) (h : k ≤ mE t d a) : tkB t (((rE t d a).a : Int) + (k : Int)).toNat [42] = decide (k < mE t d a) := by
 rw [show (((rE t d a).a : Int) + (k : Int)).toNat = (rE t d a).a + k by omega]; exact tk_cnt t _ k 42 h
theorem nE_le (t : List UInt8) (a : Int) (h0 : 0 ≤ a) (h : a ≤ (t.length : Int)) : a + (nE t a : Int) ≤ (t.length : Int) := by
 have := cnt_drop 126 t a.toNat (by omega)
 unfold nE; omega
theorem rE_le (t : List UInt8) (d a : Int) (h0 : 0 ≤ a) (h : a ≤ (t.length : Int)) : ((rE t d a).a : Int) + (mE t d a : Int) ≤ (t.length : Int) := by
 have h1 := nE_le t a h0 h
 have h2 := coreI_le t (d + 1).toNat (a.toNat + nE t a) (by omega)
 have h3 := cnt_drop 42 t _ h2
 have : (rE t d a).a + mE t d a ≤ t.length := h3
 omega
theorem rE_core (t : List UInt8) (d a : Int) (ha : 0 ≤ a) : coreI t (d + 1).toNat (a + (nE t a : Int)).toNat = rE t d a := by
 rw [show (a + (nE t a : Int)).toNat = a.toNat + nE t a by omega]; rfl
theorem xE_eq (t : List UInt8) (d a : Int) : xE t d a = if 40 < nE t a then ⟨zX, false, a.toNat + nE t a⟩ else if 41 < mE t d a then ⟨zX, false, (rE t d a).a + 42⟩ else
  ⟨wrapN 8 (mE t d a) (wrapN 5 (nE t a) (rE t d a).e), (rE t d a).ok, (rE t d a).a + mE t d a⟩ := rfl
theorem xE_many (t : List UInt8) (d a : Int) (ha : 0 ≤ a) (h : 40 < nE t a) : (xE t d a).e = zX ∧ (xE t d a).ok = false ∧ ((xE t d a).a : Int) = a + (nE t a : Int) := by
 rw [xE_eq, if_pos h]
 exact ⟨rfl, rfl, by show ((a.toNat + nE t a : Nat) : Int) = _; omega⟩
theorem xE_stars (t : List UInt8) (d a : Int) (h : ¬ 40 < nE t a) (h2 : 41 < mE t d a) : (xE t d a).e = zX ∧ (xE t d a).ok = false ∧ ((xE t d a).a : Int) = ((rE t d a).a : Int) + 42 := by
 rw [xE_eq, if_neg h, if_pos h2]
 exact ⟨rfl, rfl, rfl⟩
theorem xE_fine (t : List UInt8) (d a : Int) (h : ¬ 40 < nE t a) (h2 : ¬ 41 < mE t d a) : (xE t d a).e = wrapN 8 (mE t d a) (wrapN 5 (nE t a) (rE t d a).e) ∧ (xE t d a).ok = (rE t d a).ok ∧ ((xE t d a).a : Int) = ((rE t d a).a : Int) + (mE t d a : Int) := by
 rw [xE_eq, if_neg h, if_neg h2]
 exact ⟨rfl, rfl, rfl⟩
structure is3 (r : RI) (e : GExpr) (ok : Bool) (a : Int) : Prop where
 e : r.e = e
 ok : r.ok = ok
 a : (r.a : Int) = a
def coE (t : List UInt8) (d a : Int) : RI := coreI t (d + 1).toNat a.toNat
theorem co_neg (t : List UInt8) (d a : Int) (h : d < 0) (ha : 0 ≤ a) : is3 (coE t d a) zX false a := by
 obtain ⟨h1, h2, h3⟩ := core_zero t d a h ha
 exact ⟨h1, h2, h3⟩
theorem co48 (t : List UInt8) (d a : Int) (h : ¬ d < 0) (ha : 0 ≤ a) (h1 : tkB t a.toNat [48] = true) : is3 (coE t d a) (GExpr.mk 1 0 []) true (a + 1) := by
 unfold coE; rw [core_eq t d a h ha, if_pos h1]
 exact ⟨rfl, rfl, by show ((a.toNat + 1 : Nat) : Int) = _; omega⟩
theorem co49 (t : List UInt8) (d a : Int) (h : ¬ d < 0) (ha : 0 ≤ a) (h1 : tkB t a.toNat [48] = false) (h2 : tkB t a.toNat [49] = true) : is3 (coE t d a) (GExpr.mk 2 0 []) true (a + 1) := by
 unfold coE; rw [core_eq t d a h ha, if_neg (by rw [h1]; decide), if_pos h2]
 exact ⟨rfl, rfl, by show ((a.toNat + 1 : Nat) : Int) = _; omega⟩
theorem co116 (t : List UInt8) (d a : Int) (h : ¬ d < 0) (ha : 0 ≤ a) (h1 : tkB t a.toNat [48] = false) (h2 : tkB t a.toNat [49] = false) (h3 : tkB t a.toNat [116] = true) : is3 (coE t d a) (GExpr.mk 3 (dgV t (a + 1)) []) (digB t (a + 1).toNat) (dgP t (a + 1)) := by
 unfold coE; rw [core_eq t d a h ha, if_neg (by rw [h1]; decide), if_neg (by rw [h2]; decide), if_pos h3]
 obtain ⟨g1, g2, g3⟩ := leaf_eq 3 t a ha
 exact ⟨g1, g2, g3⟩
theorem co97 (t : List UInt8) (d a : Int) (h : ¬ d < 0) (ha : 0 ≤ a) (h1 : tkB t a.toNat [48] = false) (h2 : tkB t a.toNat [49] = false) (h3 : tkB t a.toNat [116] = false) (h4 : tkB t a.toNat [97] = true) : is3 (coE t d a) (GExpr.mk 4 (dgV t (a + 1)) []) (digB t (a + 1).toNat) (dgP t (a + 1)) := by
 unfold coE; rw [core_eq t d a h ha, if_neg (by rw [h1]; decide), if_neg (by rw [h2]; decide), if_neg (by rw [h3]; decide), if_pos h4]
 obtain ⟨g1, g2, g3⟩ := leaf_eq 4 t a ha
 exact ⟨g1, g2, g3⟩
theorem coNo (t : List UInt8) (d a : Int) (h : ¬ d < 0) (ha : 0 ≤ a) (h1 : tkB t a.toNat [48] = false) (h2 : tkB t a.toNat [49] = false) (h3 : tkB t a.toNat [116] = false) (h4 : tkB t a.toNat [97] = false) (h5 : tkB t a.toNat [40] = false) : is3 (coE t d a) zX false a := by
 unfold coE; rw [core_eq t d a h ha, if_neg (by rw [h1]; decide), if_neg (by rw [h2]; decide), if_neg (by rw [h3]; decide), if_neg (by rw [h4]; decide), if_pos h5]
 exact ⟨rfl, rfl, by show ((a.toNat : Nat) : Int) = _; omega⟩
def prP (t : List UInt8) (x y : RI) : Int := bif x.ok && y.ok then tkP t (y.a : Int) [41] else (y.a : Int)
theorem prP_no (t : List UInt8) (x y : RI) (h : x.ok = false ∨ y.ok = false) : prP t x y = (y.a : Int) := by unfold prP; rcases h with h | h <;> rw [h] <;> simp
theorem prP_go (t : List UInt8) (x y : RI) (h : x.ok = true) (h' : y.ok = true) : prP t x y = tkP t (y.a : Int) [41] := by unfold prP; rw [h, h']; rfl
theorem co40 (t : List UInt8) (d a : Int) (h : ¬ d < 0) (ha : 0 ≤ a) (h1 : tkB t a.toNat [48] = false) (h2 : tkB t a.toNat [49] = false) (h3 : tkB t a.toNat [116] = false) (h4 : tkB t a.toNat [97] = false) (h5 : tkB t a.toNat [40] = true) (X : RI) (hX : X = xE t (d - 1) (a + 1)) :
  (tkB t X.a [32, 43, 32] = true → is3 (coE t d a) (GExpr.mk 6 0 [X.e, (xE t (d - 1) ((X.a : Int) + 3)).e]) (X.ok && (xE t (d - 1) ((X.a : Int) + 3)).ok && tkB t (xE t (d - 1) ((X.a : Int) + 3)).a [41]) (prP t X (xE t (d - 1) ((X.a : Int) + 3)))) ∧
  (tkB t X.a [32, 43, 32] = false → tkB t X.a [32] = true → is3 (coE t d a) (GExpr.mk 7 0 [X.e, (xE t (d - 1) ((X.a : Int) + 1)).e]) (X.ok && (xE t (d - 1) ((X.a : Int) + 1)).ok && tkB t (xE t (d - 1) ((X.a : Int) + 1)).a [41]) (prP t X (xE t (d - 1) ((X.a : Int) + 1)))) ∧
  (tkB t X.a [32, 43, 32] = false → tkB t X.a [32] = false → is3 (coE t d a) zX false (X.a : Int)) := by
 unfold coE; rw [core_eq t d a h ha, if_neg (by rw [h1]; decide), if_neg (by rw [h2]; decide), if_neg (by rw [h3]; decide), if_neg (by rw [h4]; decide), if_neg (by rw [h5]; decide), ← hX]
 refine ⟨fun e => ?_, fun e e' => ?_, fun e e' => ?_⟩
 ·rw [if_pos e]; exact ⟨pairI_e _ _ _ _, pairI_ok _ _ _ _, pairI_a _ _ _ _⟩
 ·rw [if_neg (by rw [e]; decide), if_pos e']; exact ⟨pairI_e _ _ _ _, pairI_ok _ _ _ _, pairI_a _ _ _ _⟩
 ·rw [if_neg (by rw [e]; decide), if_neg (by rw [e']; decide)]; exact ⟨rfl, rfl, rfl⟩
def ksn_impl_reader_core (n : Nat) : SCt := ⟨n_impl_reader_core, [[.d .str, .d (.int .i64)]], [.b 0, .v (.int .i64)], [[.str, (.int .i64)]], fun (d : Int) (t : List UInt8) (a : Int) => ⟨(some (2 * (d + 1).toNat < n ∧ 0 ≤ a ∧ a ≤ (t.length : Int) ∧ t.length ≤ 10000 ∧ -1 ≤ d ∧ d ≤ 40), [⟨(.st .expr), (coE t d a).e⟩, ⟨.bool, (coE t d a).ok⟩], [[⟨.str, t⟩, ⟨(.int .i64), ((coE t d a).a : Int)⟩]])⟩⟩
def ksn_impl_reader_expr (n : Nat) : SCt := ⟨n_impl_reader_expr, [[.d .str, .d (.int .i64)]], [.b 0, .v (.int .i64)], [[.str, (.int .i64)]], fun (d : Int) (t : List UInt8) (a : Int) => ⟨(some (2 * (d + 1).toNat + 1 < n ∧ 0 ≤ a ∧ a ≤ (t.length : Int) ∧ t.length ≤ 10000 ∧ -1 ≤ d ∧ d ≤ 40), [⟨(.st .expr), (xE t d a).e⟩, ⟨.bool, (xE t d a).ok⟩], [[⟨.str, t⟩, ⟨(.int .i64), ((xE t d a).a : Int)⟩]])⟩⟩
def ks_impl_reader_expr : SCt := ⟨n_impl_reader_expr, [[.d .str, .d (.int .i64)]], [.b 0, .v (.int .i64)], [[.str, (.int .i64)]], fun (d : Int) (t : List UInt8) (a : Int) => ⟨(some (0 ≤ a ∧ a ≤ (t.length : Int) ∧ t.length ≤ 10000 ∧ -1 ≤ d ∧ d ≤ 40), [⟨(.st .expr), (xE t d a).e⟩, ⟨.bool, (xE t d a).ok⟩], [[⟨.str, t⟩, ⟨(.int .i64), ((xE t d a).a : Int)⟩]])⟩⟩
def ls_impl_reader_core (d : Int) (t : List UInt8) (a : Int) : Nat → LoopInv := fun _ => .none
theorem vcs_impl_reader_core (n : Nat) (d : Int) (t : List UInt8) (a : Int) : awp (envO [] [ko_impl_leaf, ko_impl_tree] [] [22, 26, 36, 47, 57, 70, 76, 77] [] [] [] [ks_impl_reader_take, ks_impl_reader_digit, ksn_impl_reader_expr n]) (bodyOf f_impl_reader_core) (ls_impl_reader_core d t a) 0 (stPost (envO [] [ko_impl_leaf, ko_impl_tree] [] [22, 26, 36, 47, 57, 70, 76, 77] [] [] [] [ks_impl_reader_take, ks_impl_reader_digit, ksn_impl_reader_expr n]) f_impl_reader_core [[.d .str, .d (.int .i64)]] fun r ds => areEq r [⟨(.st .expr), (coE t d a).e⟩, ⟨.bool, (coE t d a).ok⟩] ∧ areEqs ds [[⟨.str, t⟩, ⟨(.int .i64), ((coE t d a).a : Int)⟩]]) (startSt f_impl_reader_core [.box 0, .val ⟨(.int .i64), d⟩] [[.d .str, .d (.int .i64)]] [[⟨.str, t⟩, ⟨(.int .i64), a⟩]]) =
 ((((decide (d < (0 : Int))) = true →
 ((zE = ((coE t d a).e) ∧ false = ((coE t d a).ok)) ∧ ((t = t ∧ a = ((coE t d a).a : Int)) ∧ True))) ∧ ((decide (d < (0 : Int))) = false →
 ((0 ≤ a ∧ a ≤ (t.length : Int) ∧ t.length ≤ 10000 ∧ ([48]).length ≤ 10 ∧ 1 ≤ ([48]).length) ∧ (((tkB t a.toNat ([48])) = true →
 (((e_expr (GExpr.mk (1 : Int) (0 : Int) [])) = ((coE t d a).e) ∧ true = ((coE t d a).ok)) ∧ ((t = t ∧ (tkP t a ([48])) = ((coE t d a).a : Int)) ∧ True))) ∧ ((tkB t a.toNat ([48])) = false →
 ((0 ≤ (tkP t a ([48])) ∧ (tkP t a ([48])) ≤ (t.length : Int) ∧ t.length ≤ 10000 ∧ ([49]).length ≤ 10 ∧ 1 ≤ ([49]).length) ∧ (((tkB t (tkP t a ([48])).toNat ([49])) = true →
 (((e_expr (GExpr.mk (2 : Int) (0 : Int) [])) = ((coE t d a).e) ∧ true = ((coE t d a).ok)) ∧ ((t = t ∧ (tkP t (tkP t a ([48])) ([49])) = ((coE t d a).a : Int)) ∧ True))) ∧ ((tkB t (tkP t a ([48])).toNat ([49])) = false →
 ((0 ≤ (tkP t (tkP t a ([48])) ([49])) ∧ (tkP t (tkP t a ([48])) ([49])) ≤ (t.length : Int) ∧ t.length ≤ 10000 ∧ ([116]).length ≤ 10 ∧ 1 ≤ ([116]).length) ∧ (((tkB t (tkP t (tkP t a ([48])) ([49])).toNat ([116])) = true →
 ((0 ≤ (tkP t (tkP t (tkP t a ([48])) ([49])) ([116])) ∧ (tkP t (tkP t (tkP t a ([48])) ([49])) ([116])) ≤ (t.length : Int) ∧ t.length ≤ 10000) ∧ (inI64 (dgV t (tkP t (tkP t (tkP t a ([48])) ([49])) ([116]))) →
 (((e_expr (GExpr.mk (3 : Int) (dgV t (tkP t (tkP t (tkP t a ([48])) ([49])) ([116]))) [])) = ((coE t d a).e) ∧ (digB t (tkP t (tkP t (tkP t a ([48])) ([49])) ([116])).toNat) = ((coE t d a).ok)) ∧ ((t = t ∧ (dgP t (tkP t (tkP t (tkP t a ([48])) ([49])) ([116]))) = ((coE t d a).a : Int)) ∧ True))))) ∧ ((tkB t (tkP t (tkP t a ([48])) ([49])).toNat ([116])) = false →
 ((0 ≤ (tkP t (tkP t (tkP t a ([48])) ([49])) ([116])) ∧ (tkP t (tkP t (tkP t a ([48])) ([49])) ([116])) ≤ (t.length : Int) ∧ t.length ≤ 10000 ∧ ([97]).length ≤ 10 ∧ 1 ≤ ([97]).length) ∧ (((tkB t (tkP t (tkP t (tkP t a ([48])) ([49])) ([116])).toNat ([97])) = true →
 ((0 ≤ (tkP t (tkP t (tkP t (tkP t a ([48])) ([49])) ([116])) ([97])) ∧ (tkP t (tkP t (tkP t (tkP t a ([48])) ([49])) ([116])) ([97])) ≤ (t.length : Int) ∧ t.length ≤ 10000) ∧ (inI64 (dgV t (tkP t (tkP t (tkP t (tkP t a ([48])) ([49])) ([116])) ([97]))) →
 (((e_expr (GExpr.mk (4 : Int) (dgV t (tkP t (tkP t (tkP t (tkP t a ([48])) ([49])) ([116])) ([97]))) [])) = ((coE t d a).e) ∧ (digB t (tkP t (tkP t (tkP t (tkP t a ([48])) ([49])) ([116])) ([97])).toNat) = ((coE t d a).ok)) ∧ ((t = t ∧ (dgP t (tkP t (tkP t (tkP t (tkP t a ([48])) ([49])) ([116])) ([97]))) = ((coE t d a).a : Int)) ∧ True))))) ∧ ((tkB t (tkP t (tkP t (tkP t a ([48])) ([49])) ([116])).toNat ([97])) = false →
 ((0 ≤ (tkP t (tkP t (tkP t (tkP t a ([48])) ([49])) ([116])) ([97])) ∧ (tkP t (tkP t (tkP t (tkP t a ([48])) ([49])) ([116])) ([97])) ≤ (t.length : Int) ∧ t.length ≤ 10000 ∧ ([40]).length ≤ 10 ∧ 1 ≤ ([40]).length) ∧ (((!(tkB t (tkP t (tkP t (tkP t (tkP t a ([48])) ([49])) ([116])) ([97])).toNat ([40]))) = true →
 ((zE = ((coE t d a).e) ∧ false = ((coE t d a).ok)) ∧ ((t = t ∧ (tkP t (tkP t (tkP t (tkP t (tkP t a ([48])) ([49])) ([116])) ([97])) ([40])) = ((coE t d a).a : Int)) ∧ True))) ∧ ((!(tkB t (tkP t (tkP t (tkP t (tkP t a ([48])) ([49])) ([116])) ([97])).toNat ([40]))) = false →
 (inI64 (d - (1 : Int)) ∧ ((2 * ((d - (1 : Int)) + 1).toNat + 1 < n ∧ 0 ≤ (tkP t (tkP t (tkP t (tkP t (tkP t a ([48])) ([49])) ([116])) ([97])) ([40])) ∧ (tkP t (tkP t (tkP t (tkP t (tkP t a ([48])) ([49])) ([116])) ([97])) ([40])) ≤ (t.length : Int) ∧ t.length ≤ 10000 ∧ -1 ≤ (d - (1 : Int)) ∧ (d - (1 : Int)) ≤ 40) ∧ ((0 ≤ (((xE t (d - (1 : Int)) (tkP t (tkP t (tkP t (tkP t (tkP t a ([48])) ([49])) ([116])) ([97])) ([40]))).a : Int)) ∧ (((xE t (d - (1 : Int)) (tkP t (tkP t (tkP t (tkP t (tkP t a ([48])) ([49])) ([116])) ([97])) ([40]))).a : Int)) ≤ (t.length : Int) ∧ t.length ≤ 10000 ∧ ([32, 43, 32]).length ≤ 10 ∧ 1 ≤ ([32, 43, 32]).length) ∧ (((tkB t (((xE t (d - (1 : Int)) (tkP t (tkP t (tkP t (tkP t (tkP t a ([48])) ([49])) ([116])) ([97])) ([40]))).a : Int)).toNat ([32, 43, 32])) = true →
 (inI64 (d - (1 : Int)) ∧ ((2 * ((d - (1 : Int)) + 1).toNat + 1 < n ∧ 0 ≤ (tkP t (((xE t (d - (1 : Int)) (tkP t (tkP t (tkP t (tkP t (tkP t a ([48])) ([49])) ([116])) ([97])) ([40]))).a : Int)) ([32, 43, 32])) ∧ (tkP t (((xE t (d - (1 : Int)) (tkP t (tkP t (tkP t (tkP t (tkP t a ([48])) ([49])) ([116])) ([97])) ([40]))).a : Int)) ([32, 43, 32])) ≤ (t.length : Int) ∧ t.length ≤ 10000 ∧ -1 ≤ (d - (1 : Int)) ∧ (d - (1 : Int)) ≤ 40) ∧ ((((xE t (d - (1 : Int)) (tkP t (tkP t (tkP t (tkP t (tkP t a ([48])) ([49])) ([116])) ([97])) ([40]))).ok) = true →
 ((((xE t (d - (1 : Int)) (tkP t (((xE t (d - (1 : Int)) (tkP t (tkP t (tkP t (tkP t (tkP t a ([48])) ([49])) ([116])) ([97])) ([40]))).a : Int)) ([32, 43, 32]))).ok) = true →
 ((0 ≤ (((xE t (d - (1 : Int)) (tkP t (((xE t (d - (1 : Int)) (tkP t (tkP t (tkP t (tkP t (tkP t a ([48])) ([49])) ([116])) ([97])) ([40]))).a : Int)) ([32, 43, 32]))).a : Int)) ∧ (((xE t (d - (1 : Int)) (tkP t (((xE t (d - (1 : Int)) (tkP t (tkP t (tkP t (tkP t (tkP t a ([48])) ([49])) ([116])) ([97])) ([40]))).a : Int)) ([32, 43, 32]))).a : Int)) ≤ (t.length : Int) ∧ t.length ≤ 10000 ∧ ([41]).length ≤ 10 ∧ 1 ≤ ([41]).length) ∧ (((e_expr (GExpr.mk (6 : Int) 0 ([(e_expr ((xE t (d - (1 : Int)) (tkP t (tkP t (tkP t (tkP t (tkP t a ([48])) ([49])) ([116])) ([97])) ([40]))).e)), (e_expr ((xE t (d - (1 : Int)) (tkP t (((xE t (d - (1 : Int)) (tkP t (tkP t (tkP t (tkP t (tkP t a ([48])) ([49])) ([116])) ([97])) ([40]))).a : Int)) ([32, 43, 32]))).e))]))) = ((coE t d a).e) ∧ (tkB t (((xE t (d - (1 : Int)) (tkP t (((xE t (d - (1 : Int)) (tkP t (tkP t (tkP t (tkP t (tkP t a ([48])) ([49])) ([116])) ([97])) ([40]))).a : Int)) ([32, 43, 32]))).a : Int)).toNat ([41])) = ((coE t d a).ok)) ∧ ((t = t ∧ (tkP t (((xE t (d - (1 : Int)) (tkP t (((xE t (d - (1 : Int)) (tkP t (tkP t (tkP t (tkP t (tkP t a ([48])) ([49])) ([116])) ([97])) ([40]))).a : Int)) ([32, 43, 32]))).a : Int)) ([41])) = ((coE t d a).a : Int)) ∧ True)))) ∧ (((xE t (d - (1 : Int)) (tkP t (((xE t (d - (1 : Int)) (tkP t (tkP t (tkP t (tkP t (tkP t a ([48])) ([49])) ([116])) ([97])) ([40]))).a : Int)) ([32, 43, 32]))).ok) = (!true) →
 (((e_expr (GExpr.mk (6 : Int) 0 ([(e_expr ((xE t (d - (1 : Int)) (tkP t (tkP t (tkP t (tkP t (tkP t a ([48])) ([49])) ([116])) ([97])) ([40]))).e)), (e_expr ((xE t (d - (1 : Int)) (tkP t (((xE t (d - (1 : Int)) (tkP t (tkP t (tkP t (tkP t (tkP t a ([48])) ([49])) ([116])) ([97])) ([40]))).a : Int)) ([32, 43, 32]))).e))]))) = ((coE t d a).e) ∧ false = ((coE t d a).ok)) ∧ ((t = t ∧ (((xE t (d - (1 : Int)) (tkP t (((xE t (d - (1 : Int)) (tkP t (tkP t (tkP t (tkP t (tkP t a ([48])) ([49])) ([116])) ([97])) ([40]))).a : Int)) ([32, 43, 32]))).a : Int)) = ((coE t d a).a : Int)) ∧ True))))) ∧ (((xE t (d - (1 : Int)) (tkP t (tkP t (tkP t (tkP t (tkP t a ([48])) ([49])) ([116])) ([97])) ([40]))).ok) = (!true) →
 ((false = true →
 ((0 ≤ (((xE t (d - (1 : Int)) (tkP t (((xE t (d - (1 : Int)) (tkP t (tkP t (tkP t (tkP t (tkP t a ([48])) ([49])) ([116])) ([97])) ([40]))).a : Int)) ([32, 43, 32]))).a : Int)) ∧ (((xE t (d - (1 : Int)) (tkP t (((xE t (d - (1 : Int)) (tkP t (tkP t (tkP t (tkP t (tkP t a ([48])) ([49])) ([116])) ([97])) ([40]))).a : Int)) ([32, 43, 32]))).a : Int)) ≤ (t.length : Int) ∧ t.length ≤ 10000 ∧ ([41]).length ≤ 10 ∧ 1 ≤ ([41]).length) ∧ (((e_expr (GExpr.mk (6 : Int) 0 ([(e_expr ((xE t (d - (1 : Int)) (tkP t (tkP t (tkP t (tkP t (tkP t a ([48])) ([49])) ([116])) ([97])) ([40]))).e)), (e_expr ((xE t (d - (1 : Int)) (tkP t (((xE t (d - (1 : Int)) (tkP t (tkP t (tkP t (tkP t (tkP t a ([48])) ([49])) ([116])) ([97])) ([40]))).a : Int)) ([32, 43, 32]))).e))]))) = ((coE t d a).e) ∧ (tkB t (((xE t (d - (1 : Int)) (tkP t (((xE t (d - (1 : Int)) (tkP t (tkP t (tkP t (tkP t (tkP t a ([48])) ([49])) ([116])) ([97])) ([40]))).a : Int)) ([32, 43, 32]))).a : Int)).toNat ([41])) = ((coE t d a).ok)) ∧ ((t = t ∧ (tkP t (((xE t (d - (1 : Int)) (tkP t (((xE t (d - (1 : Int)) (tkP t (tkP t (tkP t (tkP t (tkP t a ([48])) ([49])) ([116])) ([97])) ([40]))).a : Int)) ([32, 43, 32]))).a : Int)) ([41])) = ((coE t d a).a : Int)) ∧ True)))) ∧ (false = (!true) →
 (((e_expr (GExpr.mk (6 : Int) 0 ([(e_expr ((xE t (d - (1 : Int)) (tkP t (tkP t (tkP t (tkP t (tkP t a ([48])) ([49])) ([116])) ([97])) ([40]))).e)), (e_expr ((xE t (d - (1 : Int)) (tkP t (((xE t (d - (1 : Int)) (tkP t (tkP t (tkP t (tkP t (tkP t a ([48])) ([49])) ([116])) ([97])) ([40]))).a : Int)) ([32, 43, 32]))).e))]))) = ((coE t d a).e) ∧ false = ((coE t d a).ok)) ∧ ((t = t ∧ (((xE t (d - (1 : Int)) (tkP t (((xE t (d - (1 : Int)) (tkP t (tkP t (tkP t (tkP t (tkP t a ([48])) ([49])) ([116])) ([97])) ([40]))).a : Int)) ([32, 43, 32]))).a : Int)) = ((coE t d a).a : Int)) ∧ True))))))))) ∧ ((tkB t (((xE t (d - (1 : Int)) (tkP t (tkP t (tkP t (tkP t (tkP t a ([48])) ([49])) ([116])) ([97])) ([40]))).a : Int)).toNat ([32, 43, 32])) = false →
 ((0 ≤ (tkP t (((xE t (d - (1 : Int)) (tkP t (tkP t (tkP t (tkP t (tkP t a ([48])) ([49])) ([116])) ([97])) ([40]))).a : Int)) ([32, 43, 32])) ∧ (tkP t (((xE t (d - (1 : Int)) (tkP t (tkP t (tkP t (tkP t (tkP t a ([48])) ([49])) ([116])) ([97])) ([40]))).a : Int)) ([32, 43, 32])) ≤ (t.length : Int) ∧ t.length ≤ 10000 ∧ ([32]).length ≤ 10 ∧ 1 ≤ ([32]).length) ∧ (((!(tkB t (tkP t (((xE t (d - (1 : Int)) (tkP t (tkP t (tkP t (tkP t (tkP t a ([48])) ([49])) ([116])) ([97])) ([40]))).a : Int)) ([32, 43, 32])).toNat ([32]))) = true →
 ((zE = ((coE t d a).e) ∧ false = ((coE t d a).ok)) ∧ ((t = t ∧ (tkP t (tkP t (((xE t (d - (1 : Int)) (tkP t (tkP t (tkP t (tkP t (tkP t a ([48])) ([49])) ([116])) ([97])) ([40]))).a : Int)) ([32, 43, 32])) ([32])) = ((coE t d a).a : Int)) ∧ True))) ∧ ((!(tkB t (tkP t (((xE t (d - (1 : Int)) (tkP t (tkP t (tkP t (tkP t (tkP t a ([48])) ([49])) ([116])) ([97])) ([40]))).a : Int)) ([32, 43, 32])).toNat ([32]))) = false →
 (inI64 (d - (1 : Int)) ∧ ((2 * ((d - (1 : Int)) + 1).toNat + 1 < n ∧ 0 ≤ (tkP t (tkP t (((xE t (d - (1 : Int)) (tkP t (tkP t (tkP t (tkP t (tkP t a ([48])) ([49])) ([116])) ([97])) ([40]))).a : Int)) ([32, 43, 32])) ([32])) ∧ (tkP t (tkP t (((xE t (d - (1 : Int)) (tkP t (tkP t (tkP t (tkP t (tkP t a ([48])) ([49])) ([116])) ([97])) ([40]))).a : Int)) ([32, 43, 32])) ([32])) ≤ (t.length : Int) ∧ t.length ≤ 10000 ∧ -1 ≤ (d - (1 : Int)) ∧ (d - (1 : Int)) ≤ 40) ∧ ((((xE t (d - (1 : Int)) (tkP t (tkP t (tkP t (tkP t (tkP t a ([48])) ([49])) ([116])) ([97])) ([40]))).ok) = true →
 ((((xE t (d - (1 : Int)) (tkP t (tkP t (((xE t (d - (1 : Int)) (tkP t (tkP t (tkP t (tkP t (tkP t a ([48])) ([49])) ([116])) ([97])) ([40]))).a : Int)) ([32, 43, 32])) ([32]))).ok) = true →
 ((0 ≤ (((xE t (d - (1 : Int)) (tkP t (tkP t (((xE t (d - (1 : Int)) (tkP t (tkP t (tkP t (tkP t (tkP t a ([48])) ([49])) ([116])) ([97])) ([40]))).a : Int)) ([32, 43, 32])) ([32]))).a : Int)) ∧ (((xE t (d - (1 : Int)) (tkP t (tkP t (((xE t (d - (1 : Int)) (tkP t (tkP t (tkP t (tkP t (tkP t a ([48])) ([49])) ([116])) ([97])) ([40]))).a : Int)) ([32, 43, 32])) ([32]))).a : Int)) ≤ (t.length : Int) ∧ t.length ≤ 10000 ∧ ([41]).length ≤ 10 ∧ 1 ≤ ([41]).length) ∧ (((e_expr (GExpr.mk (7 : Int) 0 ([(e_expr ((xE t (d - (1 : Int)) (tkP t (tkP t (tkP t (tkP t (tkP t a ([48])) ([49])) ([116])) ([97])) ([40]))).e)), (e_expr ((xE t (d - (1 : Int)) (tkP t (tkP t (((xE t (d - (1 : Int)) (tkP t (tkP t (tkP t (tkP t (tkP t a ([48])) ([49])) ([116])) ([97])) ([40]))).a : Int)) ([32, 43, 32])) ([32]))).e))]))) = ((coE t d a).e) ∧ (tkB t (((xE t (d - (1 : Int)) (tkP t (tkP t (((xE t (d - (1 : Int)) (tkP t (tkP t (tkP t (tkP t (tkP t a ([48])) ([49])) ([116])) ([97])) ([40]))).a : Int)) ([32, 43, 32])) ([32]))).a : Int)).toNat ([41])) = ((coE t d a).ok)) ∧ ((t = t ∧ (tkP t (((xE t (d - (1 : Int)) (tkP t (tkP t (((xE t (d - (1 : Int)) (tkP t (tkP t (tkP t (tkP t (tkP t a ([48])) ([49])) ([116])) ([97])) ([40]))).a : Int)) ([32, 43, 32])) ([32]))).a : Int)) ([41])) = ((coE t d a).a : Int)) ∧ True)))) ∧ (((xE t (d - (1 : Int)) (tkP t (tkP t (((xE t (d - (1 : Int)) (tkP t (tkP t (tkP t (tkP t (tkP t a ([48])) ([49])) ([116])) ([97])) ([40]))).a : Int)) ([32, 43, 32])) ([32]))).ok) = (!true) →
 (((e_expr (GExpr.mk (7 : Int) 0 ([(e_expr ((xE t (d - (1 : Int)) (tkP t (tkP t (tkP t (tkP t (tkP t a ([48])) ([49])) ([116])) ([97])) ([40]))).e)), (e_expr ((xE t (d - (1 : Int)) (tkP t (tkP t (((xE t (d - (1 : Int)) (tkP t (tkP t (tkP t (tkP t (tkP t a ([48])) ([49])) ([116])) ([97])) ([40]))).a : Int)) ([32, 43, 32])) ([32]))).e))]))) = ((coE t d a).e) ∧ false = ((coE t d a).ok)) ∧ ((t = t ∧ (((xE t (d - (1 : Int)) (tkP t (tkP t (((xE t (d - (1 : Int)) (tkP t (tkP t (tkP t (tkP t (tkP t a ([48])) ([49])) ([116])) ([97])) ([40]))).a : Int)) ([32, 43, 32])) ([32]))).a : Int)) = ((coE t d a).a : Int)) ∧ True))))) ∧ (((xE t (d - (1 : Int)) (tkP t (tkP t (tkP t (tkP t (tkP t a ([48])) ([49])) ([116])) ([97])) ([40]))).ok) = (!true) →
 ((false = true →
 ((0 ≤ (((xE t (d - (1 : Int)) (tkP t (tkP t (((xE t (d - (1 : Int)) (tkP t (tkP t (tkP t (tkP t (tkP t a ([48])) ([49])) ([116])) ([97])) ([40]))).a : Int)) ([32, 43, 32])) ([32]))).a : Int)) ∧ (((xE t (d - (1 : Int)) (tkP t (tkP t (((xE t (d - (1 : Int)) (tkP t (tkP t (tkP t (tkP t (tkP t a ([48])) ([49])) ([116])) ([97])) ([40]))).a : Int)) ([32, 43, 32])) ([32]))).a : Int)) ≤ (t.length : Int) ∧ t.length ≤ 10000 ∧ ([41]).length ≤ 10 ∧ 1 ≤ ([41]).length) ∧ (((e_expr (GExpr.mk (7 : Int) 0 ([(e_expr ((xE t (d - (1 : Int)) (tkP t (tkP t (tkP t (tkP t (tkP t a ([48])) ([49])) ([116])) ([97])) ([40]))).e)), (e_expr ((xE t (d - (1 : Int)) (tkP t (tkP t (((xE t (d - (1 : Int)) (tkP t (tkP t (tkP t (tkP t (tkP t a ([48])) ([49])) ([116])) ([97])) ([40]))).a : Int)) ([32, 43, 32])) ([32]))).e))]))) = ((coE t d a).e) ∧ (tkB t (((xE t (d - (1 : Int)) (tkP t (tkP t (((xE t (d - (1 : Int)) (tkP t (tkP t (tkP t (tkP t (tkP t a ([48])) ([49])) ([116])) ([97])) ([40]))).a : Int)) ([32, 43, 32])) ([32]))).a : Int)).toNat ([41])) = ((coE t d a).ok)) ∧ ((t = t ∧ (tkP t (((xE t (d - (1 : Int)) (tkP t (tkP t (((xE t (d - (1 : Int)) (tkP t (tkP t (tkP t (tkP t (tkP t a ([48])) ([49])) ([116])) ([97])) ([40]))).a : Int)) ([32, 43, 32])) ([32]))).a : Int)) ([41])) = ((coE t d a).a : Int)) ∧ True)))) ∧ (false = (!true) →
 (((e_expr (GExpr.mk (7 : Int) 0 ([(e_expr ((xE t (d - (1 : Int)) (tkP t (tkP t (tkP t (tkP t (tkP t a ([48])) ([49])) ([116])) ([97])) ([40]))).e)), (e_expr ((xE t (d - (1 : Int)) (tkP t (tkP t (((xE t (d - (1 : Int)) (tkP t (tkP t (tkP t (tkP t (tkP t a ([48])) ([49])) ([116])) ([97])) ([40]))).a : Int)) ([32, 43, 32])) ([32]))).e))]))) = ((coE t d a).e) ∧ false = ((coE t d a).ok)) ∧ ((t = t ∧ (((xE t (d - (1 : Int)) (tkP t (tkP t (((xE t (d - (1 : Int)) (tkP t (tkP t (tkP t (tkP t (tkP t a ([48])) ([49])) ([116])) ([97])) ([40]))).a : Int)) ([32, 43, 32])) ([32]))).a : Int)) = ((coE t d a).a : Int)) ∧ True)))))))))))))))))))))))))))))))))) := by kernel_rfl
theorem oks_impl_reader_core (n : Nat) (hE : AllGood []) (hO : AllO [ko_impl_leaf, ko_impl_tree]) (hM : AllM []) (hS : AllS [ks_impl_reader_take, ks_impl_reader_digit, ksn_impl_reader_expr n]) : SCt.Good (ksn_impl_reader_core (n + 1)) := by
 refine ⟨fnOk_of at_impl_reader_core rfl (by decide), ?_⟩
 show ∀ (d : Int) (t : List UInt8) (a : Int), (2 * (d + 1).toNat < n + 1 ∧ 0 ≤ a ∧ a ≤ (t.length : Int) ∧ t.length ≤ 10000 ∧ -1 ≤ d ∧ d ≤ 40) → OkSt prog n_impl_reader_core [[.d .str, .d (.int .i64)]] [.box 0, .val ⟨(.int .i64), d⟩] [[⟨.str, t⟩, ⟨(.int .i64), a⟩]] [⟨(.st .expr), (coE t d a).e⟩, ⟨.bool, (coE t d a).ok⟩] [[⟨.str, t⟩, ⟨(.int .i64), ((coE t d a).a : Int)⟩]]
 intro d t a hp
 refine st_of_awp (own := [22, 26, 36, 47, 57, 70, 76, 77]) (wr := []) (cl := []) (ro := []) hE hO hM hS at_impl_reader_core body_impl_reader_core (ls_impl_reader_core d t a) rfl rfl ?_
 rewrite [vcs_impl_reader_core n d t a]
 obtain ⟨hm, h0, h1, h2, h3, h4⟩ := hp
 by_cases hd : d < 0
 ·obtain ⟨q1, q2, q3⟩ := co_neg t d a hd h0
  simp only [decide_eq_true hd, q1, q2, q3, decide_true, decide_false, Bool.not_true, Bool.not_false, Bool.true_eq_false, Bool.false_eq_true, not_true_eq_false, not_false_eq_true, false_implies, true_implies, and_true, true_and, Int.toNat_natCast, inI64, e_expr_eq]
  repeat' (first | intro _ | apply And.intro)
  all_goals first | exact True.intro | omega | with_reducible rfl | decide
 ·have hd' := decide_eq_false hd
  rcases Bool.eq_false_or_eq_true (tkB t a.toNat [48]) with e48 | e48
  ·have k := tkB_le t a.toNat 48 [] e48
   simp only [List.length_cons, List.length_nil] at k
   obtain ⟨q1, q2, q3⟩ := co48 t d a hd h0 e48
   have b1 := dgP_ge t (a + 1) (by omega)
   have b2 := dgP_le t (a + 1) (by omega) (by omega)
   simp only [hd', e48, tkP_t1 t a 48 e48, q1, q2, q3, decide_true, decide_false, Bool.not_true, Bool.not_false, Bool.true_eq_false, Bool.false_eq_true, not_true_eq_false, not_false_eq_true, false_implies, true_implies, and_true, true_and, Int.toNat_natCast, inI64, e_expr_eq]
   repeat' (first | intro _ | apply And.intro)
   all_goals first | exact True.intro | omega | with_reducible rfl | decide
  ·have f48 := tkP_f t a [48] e48
   rcases Bool.eq_false_or_eq_true (tkB t a.toNat [49]) with e49 | e49
   ·have k := tkB_le t a.toNat 49 [] e49
    simp only [List.length_cons, List.length_nil] at k
    obtain ⟨q1, q2, q3⟩ := co49 t d a hd h0 e48 e49
    have b1 := dgP_ge t (a + 1) (by omega)
    have b2 := dgP_le t (a + 1) (by omega) (by omega)
    simp only [hd', e48, f48, e49, tkP_t1 t a 49 e49, q1, q2, q3, decide_true, decide_false, Bool.not_true, Bool.not_false, Bool.true_eq_false, Bool.false_eq_true, not_true_eq_false, not_false_eq_true, false_implies, true_implies, and_true, true_and, Int.toNat_natCast, inI64, e_expr_eq]
    repeat' (first | intro _ | apply And.intro)
    all_goals first | exact True.intro | omega | with_reducible rfl | decide
   ·have f49 := tkP_f t a [49] e49
    rcases Bool.eq_false_or_eq_true (tkB t a.toNat [116]) with e116 | e116
    ·have k := tkB_le t a.toNat 116 [] e116
     simp only [List.length_cons, List.length_nil] at k
     obtain ⟨q1, q2, q3⟩ := co116 t d a hd h0 e48 e49 e116
     have b1 := dgP_ge t (a + 1) (by omega)
     have b2 := dgP_le t (a + 1) (by omega) (by omega)
     simp only [hd', e48, f48, e49, f49, e116, tkP_t1 t a 116 e116, q1, q2, q3, decide_true, decide_false, Bool.not_true, Bool.not_false, Bool.true_eq_false, Bool.false_eq_true, not_true_eq_false, not_false_eq_true, false_implies, true_implies, and_true, true_and, Int.toNat_natCast, inI64, e_expr_eq]
     repeat' (first | intro _ | apply And.intro)
     all_goals first | exact True.intro | omega | with_reducible rfl | decide
    ·have f116 := tkP_f t a [116] e116
     rcases Bool.eq_false_or_eq_true (tkB t a.toNat [97]) with e97 | e97
     ·have k := tkB_le t a.toNat 97 [] e97
      simp only [List.length_cons, List.length_nil] at k
      obtain ⟨q1, q2, q3⟩ := co97 t d a hd h0 e48 e49 e116 e97
      have b1 := dgP_ge t (a + 1) (by omega)
      have b2 := dgP_le t (a + 1) (by omega) (by omega)
      simp only [hd', e48, f48, e49, f49, e116, f116, e97, tkP_t1 t a 97 e97, q1, q2, q3, decide_true, decide_false, Bool.not_true, Bool.not_false, Bool.true_eq_false, Bool.false_eq_true, not_true_eq_false, not_false_eq_true, false_implies, true_implies, and_true, true_and, Int.toNat_natCast, inI64, e_expr_eq]
      repeat' (first | intro _ | apply And.intro)
      all_goals first | exact True.intro | omega | with_reducible rfl | decide
     ·have f97 := tkP_f t a [97] e97
      rcases Bool.eq_false_or_eq_true (tkB t a.toNat [40]) with e40 | e40
      ·have k := tkB_le t a.toNat 40 [] e40
       simp only [List.length_cons, List.length_nil] at k
       have g1 := tkP_t1 t a 40 e40
       have b1 := xE_le t (d - 1) (a + 1) (by omega) (by omega)
       obtain ⟨p1, p2, p3⟩ := co40 t d a hd h0 e48 e49 e116 e97 e40 _ rfl
       simp only [hd', e48, f48, e49, f49, e116, f116, e97, f97, e40, g1, decide_true, decide_false, Bool.not_true, Bool.not_false, Bool.true_eq_false, Bool.false_eq_true, not_true_eq_false, not_false_eq_true, false_implies, true_implies, and_true, true_and, Int.toNat_natCast, inI64, e_expr_eq]
       generalize xE t (d - 1) (a + 1) = X at *
       rcases Bool.eq_false_or_eq_true (tkB t X.a [32, 43, 32]) with eS | eS
       ·skip
        have k2 := tkB_le t _ 32 [43, 32] eS
        simp only [List.length_cons, List.length_nil] at k2
        have g2 := tkP_t3 t (X.a : Int) 32 43 32 (by rw [Int.toNat_natCast]; exact eS)
        obtain ⟨q1, q2, q3⟩ := p1 eS
        have b2 := xE_le t (d - 1) ((X.a : Int) + 3) (by omega) (by omega)
        simp only [eS, g2, q1, q2, q3, decide_true, decide_false, Bool.not_true, Bool.not_false, Bool.true_eq_false, Bool.false_eq_true, not_true_eq_false, not_false_eq_true, false_implies, true_implies, and_true, true_and, Int.toNat_natCast, inI64, e_expr_eq]
        generalize xE t (d - 1) ((X.a : Int) + 3) = Y at *
        have b3 := tkP_ge t (Y.a : Int) [41] (by omega)
        have b4 := tkP_le t (Y.a : Int) [41] (by omega) b2
        rcases Bool.eq_false_or_eq_true X.ok with x1 | x1
        ·rcases Bool.eq_false_or_eq_true Y.ok with y1 | y1
         ·simp only [x1, y1, prP_go t X Y x1 y1, Bool.and_true, Bool.true_and, Bool.and_self, decide_true, decide_false, Bool.not_true, Bool.not_false, Bool.true_eq_false, Bool.false_eq_true, not_true_eq_false, not_false_eq_true, false_implies, true_implies, and_true, true_and, Int.toNat_natCast, inI64, e_expr_eq]
          repeat' (first | intro _ | apply And.intro)
          all_goals first | exact True.intro | omega | with_reducible rfl | decide
         ·simp only [x1, y1, prP_no t X Y (.inr y1), Bool.and_true, Bool.true_and, Bool.and_false, Bool.false_and, decide_true, decide_false, Bool.not_true, Bool.not_false, Bool.true_eq_false, Bool.false_eq_true, not_true_eq_false, not_false_eq_true, false_implies, true_implies, and_true, true_and, Int.toNat_natCast, inI64, e_expr_eq]
          repeat' (first | intro _ | apply And.intro)
          all_goals first | exact True.intro | omega | with_reducible rfl | decide
        ·simp only [x1, prP_no t X Y (.inl x1), Bool.and_true, Bool.true_and, Bool.and_false, Bool.false_and, decide_true, decide_false, Bool.not_true, Bool.not_false, Bool.true_eq_false, Bool.false_eq_true, not_true_eq_false, not_false_eq_true, false_implies, true_implies, and_true, true_and, Int.toNat_natCast, inI64, e_expr_eq]
         repeat' (first | intro _ | apply And.intro)
         all_goals first | exact True.intro | omega | with_reducible rfl | decide
       ·have g3 := tkP_f t (X.a : Int) [32, 43, 32] (by rw [Int.toNat_natCast]; exact eS)
        rcases Bool.eq_false_or_eq_true (tkB t X.a [32]) with eD | eD
        ·skip
         have k2 := tkB_le t _ 32 [] eD
         simp only [List.length_cons, List.length_nil] at k2
         have g2 := tkP_t1 t (X.a : Int) 32 (by rw [Int.toNat_natCast]; exact eD)
         obtain ⟨q1, q2, q3⟩ := p2 eS eD
         have b2 := xE_le t (d - 1) ((X.a : Int) + 1) (by omega) (by omega)
         simp only [eD, eS, g3, g2, q1, q2, q3, decide_true, decide_false, Bool.not_true, Bool.not_false, Bool.true_eq_false, Bool.false_eq_true, not_true_eq_false, not_false_eq_true, false_implies, true_implies, and_true, true_and, Int.toNat_natCast, inI64, e_expr_eq]
         generalize xE t (d - 1) ((X.a : Int) + 1) = Y at *
         have b3 := tkP_ge t (Y.a : Int) [41] (by omega)
         have b4 := tkP_le t (Y.a : Int) [41] (by omega) b2
         rcases Bool.eq_false_or_eq_true X.ok with x1 | x1
         ·rcases Bool.eq_false_or_eq_true Y.ok with y1 | y1
          ·simp only [x1, y1, prP_go t X Y x1 y1, Bool.and_true, Bool.true_and, Bool.and_self, decide_true, decide_false, Bool.not_true, Bool.not_false, Bool.true_eq_false, Bool.false_eq_true, not_true_eq_false, not_false_eq_true, false_implies, true_implies, and_true, true_and, Int.toNat_natCast, inI64, e_expr_eq]
           repeat' (first | intro _ | apply And.intro)
           all_goals first | exact True.intro | omega | with_reducible rfl | decide
          ·simp only [x1, y1, prP_no t X Y (.inr y1), Bool.and_true, Bool.true_and, Bool.and_false, Bool.false_and, decide_true, decide_false, Bool.not_true, Bool.not_false, Bool.true_eq_false, Bool.false_eq_true, not_true_eq_false, not_false_eq_true, false_implies, true_implies, and_true, true_and, Int.toNat_natCast, inI64, e_expr_eq]
           repeat' (first | intro _ | apply And.intro)
           all_goals first | exact True.intro | omega | with_reducible rfl | decide
         ·simp only [x1, prP_no t X Y (.inl x1), Bool.and_true, Bool.true_and, Bool.and_false, Bool.false_and, decide_true, decide_false, Bool.not_true, Bool.not_false, Bool.true_eq_false, Bool.false_eq_true, not_true_eq_false, not_false_eq_true, false_implies, true_implies, and_true, true_and, Int.toNat_natCast, inI64, e_expr_eq]
          repeat' (first | intro _ | apply And.intro)
          all_goals first | exact True.intro | omega | with_reducible rfl | decide
        ·have g4 := tkP_f t (X.a : Int) [32] (by rw [Int.toNat_natCast]; exact eD)
         obtain ⟨q1, q2, q3⟩ := p3 eS eD
         simp only [eS, eD, g3, g4, q1, q2, q3, decide_true, decide_false, Bool.not_true, Bool.not_false, Bool.true_eq_false, Bool.false_eq_true, not_true_eq_false, not_false_eq_true, false_implies, true_implies, and_true, true_and, Int.toNat_natCast, inI64, e_expr_eq]
         repeat' (first | intro _ | apply And.intro)
         all_goals first | exact True.intro | omega | with_reducible rfl | decide
      ·have f40 := tkP_f t a [40] e40
       obtain ⟨q1, q2, q3⟩ := coNo t d a hd h0 e48 e49 e116 e97 e40
       simp only [hd', e48, f48, e49, f49, e116, f116, e97, f97, e40, f40, q1, q2, q3, decide_true, decide_false, Bool.not_true, Bool.not_false, Bool.true_eq_false, Bool.false_eq_true, not_true_eq_false, not_false_eq_true, false_implies, true_implies, and_true, true_and, Int.toNat_natCast, inI64, e_expr_eq]
       repeat' (first | intro _ | apply And.intro)
       all_goals first | exact True.intro | omega | with_reducible rfl | decide
def ls_impl_reader_expr (d : Int) (t : List UInt8) (a : Int) : Nat → LoopInv := (fun zb => if Nat.beq zb 0 then .mk (Nat) (fun k => k ≤ nE t a) (fun k => nE t a - k) [] [2, 3] (fun k => [(6, .imm ⟨(.int .i64), ((k : Int) : Int)⟩)]) [0, 1, 4, 5, 6, 7, 8, 9, 10, 11, 12, 13, 14, 15, 16, 17, 18, 19, 20, 21, 22, 23, 24, 25, 26, 27, 28, 29, 30, 31, 32, 33, 34, 35, 36, 37, 38, 39, 40, 41] (fun k => [(400000, .box [.imm ⟨.str, (t : List UInt8)⟩, .imm ⟨(.int .i64), (a + (k : Int) : Int)⟩])]) [] [] (fun k => fun _ => .none) else if Nat.beq zb 2 then .mk (Nat) (fun j => j ≤ nE t a ∧ nE t a ≤ 40) (fun j => nE t a - j) [] [1, 2, 3, 10, 11, 12, 13, 14, 15, 16, 17, 18, 19, 20, 21, 22] (fun j => [(6, .imm ⟨(.int .i64), ((nE t a : Int) - (j : Int) : Int)⟩)]) [0, 4, 5, 6, 8, 9, 23, 24, 25, 26, 27, 28, 29, 30, 31, 32, 33, 34, 35, 36, 37, 38, 39, 40, 41, 400000] (fun j => [(7, .box [.imm ⟨(.int .i64), ((wrapN 5 j (rE t d a).e).kind : Int)⟩, .imm ⟨(.int .i64), ((wrapN 5 j (rE t d a).e).num : Int)⟩, .tree 7100]), (7100, .tree (.st .expr) ((wrapN 5 j (rE t d a).e).kids : List GExpr))]) [] [] (fun j => fun _ => .none) else if Nat.beq zb 4 then .mk (Nat) (fun m => m ≤ mE t d a ∧ m ≤ 41 ∧ nE t a ≤ 40) (fun m => mE t d a - m) [] [1, 2, 3, 6, 10, 11, 12, 13, 14, 15, 16, 17, 18, 19, 20, 21, 22, 23, 24, 25, 26, 27, 28, 29] (fun m => [(9, .imm ⟨(.int .i64), ((m : Int) : Int)⟩)]) [0, 4, 5, 8, 9, 30, 31, 32, 33, 34, 35, 36, 37, 38, 39, 40, 41] (fun m => [(400000, .box [.imm ⟨.str, (t : List UInt8)⟩, .imm ⟨(.int .i64), (((rE t d a).a : Int) + (m : Int) : Int)⟩]), (7, .box [.imm ⟨(.int .i64), ((wrapN 8 m (wrapN 5 (nE t a) (rE t d a).e)).kind : Int)⟩, .imm ⟨(.int .i64), ((wrapN 8 m (wrapN 5 (nE t a) (rE t d a).e)).num : Int)⟩, .tree 7200]), (7200, .tree (.st .expr) ((wrapN 8 m (wrapN 5 (nE t a) (rE t d a).e)).kids : List GExpr))]) [] [] (fun m => fun _ => .none) else .none)
theorem vcs_impl_reader_expr (n : Nat) (d : Int) (t : List UInt8) (a : Int) : awp (envO [] [ko_impl_tree] [] [20, 28, 29, 38, 39] [] [] [] [ks_impl_reader_take, ksn_impl_reader_core n]) (bodyOf f_impl_reader_expr) (ls_impl_reader_expr d t a) 0 (stPost (envO [] [ko_impl_tree] [] [20, 28, 29, 38, 39] [] [] [] [ks_impl_reader_take, ksn_impl_reader_core n]) f_impl_reader_expr [[.d .str, .d (.int .i64)]] fun r ds => areEq r [⟨(.st .expr), (xE t d a).e⟩, ⟨.bool, (xE t d a).ok⟩] ∧ areEqs ds [[⟨.str, t⟩, ⟨(.int .i64), ((xE t d a).a : Int)⟩]]) (startSt f_impl_reader_expr [.box 0, .val ⟨(.int .i64), d⟩] [[.d .str, .d (.int .i64)]] [[⟨.str, t⟩, ⟨(.int .i64), a⟩]]) =
 (((∃ k1 : Nat, (k1 ≤ nE t a ∧ ((True ∧ (d = d ∧ (True ∧ (false = false ∧ ((0 : Int) = (k1 : Int) ∧ True))))) ∧ ((t = t ∧ (a = (a + (k1 : Int)) ∧ True)) ∧ (((0 : Int) = (0 : Int) ∧ ((0 : Int) = (0 : Int) ∧ (True ∧ True))) ∧ True))))) ∧ (∀ k1 : Nat, (k1 ≤ nE t a →
 ((0 ≤ (a + (k1 : Int)) ∧ (a + (k1 : Int)) ≤ (t.length : Int) ∧ t.length ≤ 10000 ∧ ([126]).length ≤ 10 ∧ 1 ≤ ([126]).length) ∧ (((tkB t (a + (k1 : Int)).toNat ([126])) = true →
 (inI64 ((k1 : Int) + (1 : Int)) ∧ (∃ k2 : Nat, (k2 ≤ nE t a ∧ (nE t a - k2 < nE t a - k1 ∧ ((True ∧ (d = d ∧ (True ∧ (false = false ∧ (((k1 : Int) + (1 : Int)) = (k2 : Int) ∧ True))))) ∧ ((t = t ∧ ((tkP t (a + (k1 : Int)) ([126])) = (a + (k2 : Int)) ∧ True)) ∧ (((0 : Int) = (0 : Int) ∧ ((0 : Int) = (0 : Int) ∧ (True ∧ True))) ∧ True)))))))) ∧ ((tkB t (a + (k1 : Int)).toNat ([126])) = false →
 (((decide ((40 : Int) < (k1 : Int))) = true →
 ((zE = ((xE t d a).e) ∧ false = ((xE t d a).ok)) ∧ ((t = t ∧ (tkP t (a + (k1 : Int)) ([126])) = ((xE t d a).a : Int)) ∧ True))) ∧ ((decide ((40 : Int) < (k1 : Int))) = false →
 ((2 * (d + 1).toNat < n ∧ 0 ≤ (tkP t (a + (k1 : Int)) ([126])) ∧ (tkP t (a + (k1 : Int)) ([126])) ≤ (t.length : Int) ∧ t.length ≤ 10000 ∧ -1 ≤ d ∧ d ≤ 40) ∧ ((∃ j2 : Nat, ((j2 ≤ nE t a ∧ nE t a ≤ 40) ∧ ((True ∧ (True ∧ (false = false ∧ ((k1 : Int) = ((nE t a : Int) - (j2 : Int)) ∧ (True ∧ (((coE t d (tkP t (a + (k1 : Int)) ([126]))).ok) = ((coE t d (tkP t (a + (k1 : Int)) ([126]))).ok) ∧ True)))))) ∧ ((((coE t d (tkP t (a + (k1 : Int)) ([126]))).e).kind = ((wrapN 5 j2 (rE t d a).e).kind) ∧ (((coE t d (tkP t (a + (k1 : Int)) ([126]))).e).num = ((wrapN 5 j2 (rE t d a).e).num) ∧ (True ∧ True))) ∧ (((coE t d (tkP t (a + (k1 : Int)) ([126]))).e).kids = ((wrapN 5 j2 (rE t d a).e).kids) ∧ ((t = t ∧ ((((coE t d (tkP t (a + (k1 : Int)) ([126]))).a : Int)) = (((coE t d (tkP t (a + (k1 : Int)) ([126]))).a : Int)) ∧ True)) ∧ (((0 : Int) = (0 : Int) ∧ ((0 : Int) = (0 : Int) ∧ (True ∧ True))) ∧ True))))))) ∧ (∀ j2 : Nat, ((j2 ≤ nE t a ∧ nE t a ≤ 40) →
 (((decide ((0 : Int) < ((nE t a : Int) - (j2 : Int)))) = true →
 (inI64 (((nE t a : Int) - (j2 : Int)) - (1 : Int)) ∧ (∃ j3 : Nat, ((j3 ≤ nE t a ∧ nE t a ≤ 40) ∧ (nE t a - j3 < nE t a - j2 ∧ ((True ∧ (True ∧ (false = false ∧ ((((nE t a : Int) - (j2 : Int)) - (1 : Int)) = ((nE t a : Int) - (j3 : Int)) ∧ (True ∧ (((coE t d (tkP t (a + (k1 : Int)) ([126]))).ok) = ((coE t d (tkP t (a + (k1 : Int)) ([126]))).ok) ∧ True)))))) ∧ (((GExpr.mk (5 : Int) 0 ([(GExpr.mk ((wrapN 5 j2 (rE t d a).e).kind) ((wrapN 5 j2 (rE t d a).e).num) ((wrapN 5 j2 (rE t d a).e).kids))])).kind = ((wrapN 5 j3 (rE t d a).e).kind) ∧ ((GExpr.mk (5 : Int) 0 ([(GExpr.mk ((wrapN 5 j2 (rE t d a).e).kind) ((wrapN 5 j2 (rE t d a).e).num) ((wrapN 5 j2 (rE t d a).e).kids))])).num = ((wrapN 5 j3 (rE t d a).e).num) ∧ (True ∧ True))) ∧ ((GExpr.mk (5 : Int) 0 ([(GExpr.mk ((wrapN 5 j2 (rE t d a).e).kind) ((wrapN 5 j2 (rE t d a).e).num) ((wrapN 5 j2 (rE t d a).e).kids))])).kids = ((wrapN 5 j3 (rE t d a).e).kids) ∧ ((t = t ∧ ((((coE t d (tkP t (a + (k1 : Int)) ([126]))).a : Int)) = (((coE t d (tkP t (a + (k1 : Int)) ([126]))).a : Int)) ∧ True)) ∧ (((0 : Int) = (0 : Int) ∧ ((0 : Int) = (0 : Int) ∧ (True ∧ True))) ∧ True)))))))))) ∧ ((decide ((0 : Int) < ((nE t a : Int) - (j2 : Int)))) = false →
 ((∃ m3 : Nat, ((m3 ≤ mE t d a ∧ m3 ≤ 41 ∧ nE t a ≤ 40) ∧ ((True ∧ (True ∧ (True ∧ (((coE t d (tkP t (a + (k1 : Int)) ([126]))).ok) = ((coE t d (tkP t (a + (k1 : Int)) ([126]))).ok) ∧ ((0 : Int) = (m3 : Int) ∧ True))))) ∧ ((t = t ∧ ((((coE t d (tkP t (a + (k1 : Int)) ([126]))).a : Int)) = (((rE t d a).a : Int) + (m3 : Int)) ∧ True)) ∧ ((((wrapN 5 j2 (rE t d a).e).kind) = ((wrapN 8 m3 (wrapN 5 (nE t a) (rE t d a).e)).kind) ∧ (((wrapN 5 j2 (rE t d a).e).num) = ((wrapN 8 m3 (wrapN 5 (nE t a) (rE t d a).e)).num) ∧ (True ∧ True))) ∧ (((wrapN 5 j2 (rE t d a).e).kids) = ((wrapN 8 m3 (wrapN 5 (nE t a) (rE t d a).e)).kids) ∧ (((0 : Int) = (0 : Int) ∧ ((0 : Int) = (0 : Int) ∧ (True ∧ True))) ∧ True))))))) ∧ (∀ m3 : Nat, ((m3 ≤ mE t d a ∧ m3 ≤ 41 ∧ nE t a ≤ 40) →
 ((0 ≤ (((rE t d a).a : Int) + (m3 : Int)) ∧ (((rE t d a).a : Int) + (m3 : Int)) ≤ (t.length : Int) ∧ t.length ≤ 10000 ∧ ([42]).length ≤ 10 ∧ 1 ≤ ([42]).length) ∧ (((tkB t (((rE t d a).a : Int) + (m3 : Int)).toNat ([42])) = true →
 (((decide ((40 : Int) < (m3 : Int))) = true →
 ((zE = ((xE t d a).e) ∧ false = ((xE t d a).ok)) ∧ ((t = t ∧ (tkP t (((rE t d a).a : Int) + (m3 : Int)) ([42])) = ((xE t d a).a : Int)) ∧ True))) ∧ ((decide ((40 : Int) < (m3 : Int))) = false →
 (inI64 ((m3 : Int) + (1 : Int)) ∧ (∃ m4 : Nat, ((m4 ≤ mE t d a ∧ m4 ≤ 41 ∧ nE t a ≤ 40) ∧ (mE t d a - m4 < mE t d a - m3 ∧ ((True ∧ (True ∧ (True ∧ (((coE t d (tkP t (a + (k1 : Int)) ([126]))).ok) = ((coE t d (tkP t (a + (k1 : Int)) ([126]))).ok) ∧ (((m3 : Int) + (1 : Int)) = (m4 : Int) ∧ True))))) ∧ ((t = t ∧ ((tkP t (((rE t d a).a : Int) + (m3 : Int)) ([42])) = (((rE t d a).a : Int) + (m4 : Int)) ∧ True)) ∧ (((GExpr.mk (8 : Int) 0 ([(GExpr.mk ((wrapN 8 m3 (wrapN 5 (nE t a) (rE t d a).e)).kind) ((wrapN 8 m3 (wrapN 5 (nE t a) (rE t d a).e)).num) ((wrapN 8 m3 (wrapN 5 (nE t a) (rE t d a).e)).kids))])).kind = ((wrapN 8 m4 (wrapN 5 (nE t a) (rE t d a).e)).kind) ∧ ((GExpr.mk (8 : Int) 0 ([(GExpr.mk ((wrapN 8 m3 (wrapN 5 (nE t a) (rE t d a).e)).kind) ((wrapN 8 m3 (wrapN 5 (nE t a) (rE t d a).e)).num) ((wrapN 8 m3 (wrapN 5 (nE t a) (rE t d a).e)).kids))])).num = ((wrapN 8 m4 (wrapN 5 (nE t a) (rE t d a).e)).num) ∧ (True ∧ True))) ∧ ((GExpr.mk (8 : Int) 0 ([(GExpr.mk ((wrapN 8 m3 (wrapN 5 (nE t a) (rE t d a).e)).kind) ((wrapN 8 m3 (wrapN 5 (nE t a) (rE t d a).e)).num) ((wrapN 8 m3 (wrapN 5 (nE t a) (rE t d a).e)).kids))])).kids = ((wrapN 8 m4 (wrapN 5 (nE t a) (rE t d a).e)).kids) ∧ (((0 : Int) = (0 : Int) ∧ ((0 : Int) = (0 : Int) ∧ (True ∧ True))) ∧ True)))))))))))) ∧ ((tkB t (((rE t d a).a : Int) + (m3 : Int)).toNat ([42])) = false →
 (((GExpr.mk ((wrapN 8 m3 (wrapN 5 (nE t a) (rE t d a).e)).kind) ((wrapN 8 m3 (wrapN 5 (nE t a) (rE t d a).e)).num) ((wrapN 8 m3 (wrapN 5 (nE t a) (rE t d a).e)).kids)) = ((xE t d a).e) ∧ ((coE t d (tkP t (a + (k1 : Int)) ([126]))).ok) = ((xE t d a).ok)) ∧ ((t = t ∧ (tkP t (((rE t d a).a : Int) + (m3 : Int)) ([42])) = ((xE t d a).a : Int)) ∧ True))))))))))))))))))))))) := by kernel_rfl
theorem oks_impl_reader_expr (n : Nat) (hE : AllGood []) (hO : AllO [ko_impl_tree]) (hM : AllM []) (hS : AllS [ks_impl_reader_take, ksn_impl_reader_core n]) : SCt.Good (ksn_impl_reader_expr (n + 1)) := by
 refine ⟨fnOk_of at_impl_reader_expr rfl (by decide), ?_⟩
 show ∀ (d : Int) (t : List UInt8) (a : Int), (2 * (d + 1).toNat + 1 < n + 1 ∧ 0 ≤ a ∧ a ≤ (t.length : Int) ∧ t.length ≤ 10000 ∧ -1 ≤ d ∧ d ≤ 40) → OkSt prog n_impl_reader_expr [[.d .str, .d (.int .i64)]] [.box 0, .val ⟨(.int .i64), d⟩] [[⟨.str, t⟩, ⟨(.int .i64), a⟩]] [⟨(.st .expr), (xE t d a).e⟩, ⟨.bool, (xE t d a).ok⟩] [[⟨.str, t⟩, ⟨(.int .i64), ((xE t d a).a : Int)⟩]]
 intro d t a hp
 refine st_of_awp (own := [20, 28, 29, 38, 39]) (wr := []) (cl := []) (ro := []) hE hO hM hS at_impl_reader_expr body_impl_reader_expr (ls_impl_reader_expr d t a) rfl rfl ?_
 rewrite [vcs_impl_reader_expr n d t a]
 obtain ⟨hm, h0, h1, h2, h3, h4⟩ := hp
 have n1 := nE_le t a h0 h1
 have n2 := rE_le t d a h0 h1
 have z1 := fun k h => tk_nE t a k h0 h
 have z2 := fun k h => tk_mE t d a k h
 have c1 : coE t d (a + (nE t a : Int)) = rE t d a := rE_core t d a h0
 simp only [decide_true, decide_false, Bool.not_true, Bool.not_false, Bool.true_eq_false, Bool.false_eq_true, not_true_eq_false, not_false_eq_true, false_implies, true_implies, and_true, true_and, Int.toNat_natCast, inI64, e_expr_eq]
 refine ⟨⟨0, Nat.zero_le _, by omega⟩, fun k1 hk => ⟨?_, fun e1 => ?_, fun e1 => ?_⟩⟩
 ·repeat' (first | intro _ | apply And.intro)
  all_goals first | exact True.intro | omega | with_reducible rfl | decide
 ·have g := z1 k1 hk
  rw [e1] at g
  have g' := of_decide_eq_true g.symm
  rw [tkP_t1 t _ 126 e1]
  exact ⟨by omega, k1 + 1, by omega, by omega, by omega, by omega⟩
 ·have g := z1 k1 hk
  rw [e1] at g
  have g' := of_decide_eq_false g.symm
  have hk1 : k1 = nE t a := by omega
  subst hk1
  have f1 := tkP_f t _ [126] e1
  by_cases hn : 40 < nE t a
  ·obtain ⟨x1, x2, x3⟩ := xE_many t d a h0 hn
   simp only [f1, (decide_eq_true (by omega) : decide ((40 : Int) < (nE t a : Int)) = true), x1, x2, x3, decide_true, decide_false, Bool.not_true, Bool.not_false, Bool.true_eq_false, Bool.false_eq_true, not_true_eq_false, not_false_eq_true, false_implies, true_implies, and_true, true_and, Int.toNat_natCast, inI64, e_expr_eq]
   repeat' (first | intro _ | apply And.intro)
   all_goals first | exact True.intro | omega | with_reducible rfl | decide
  ·simp only [f1, c1, (decide_eq_false (by omega) : decide ((40 : Int) < (nE t a : Int)) = false), decide_true, decide_false, Bool.not_true, Bool.not_false, Bool.true_eq_false, Bool.false_eq_true, not_true_eq_false, not_false_eq_true, false_implies, true_implies, and_true, true_and, Int.toNat_natCast, inI64, e_expr_eq]
   refine ⟨by omega, ⟨0, ⟨Nat.zero_le _, by omega⟩, by omega, ⟨rfl, rfl⟩, rfl⟩, fun j2 hj => ⟨fun e2 => ?_, fun e2 => ?_⟩⟩
   ·have e2' := of_decide_eq_true e2
    exact ⟨by omega, j2 + 1, ⟨by omega, by omega⟩, by omega, by omega, ⟨by rw [wrapN_succ], by rw [wrapN_succ]⟩, by rw [wrapN_succ, GExpr.eta]⟩
   ·have e2' := of_decide_eq_false e2
    have hj2 : j2 = nE t a := by omega
    subst hj2
    refine ⟨⟨0, ⟨Nat.zero_le _, by omega, by omega⟩, rfl, by omega, ⟨rfl, rfl⟩, rfl⟩, fun m3 hm3 => ⟨⟨by omega, by omega, by omega, by decide, by decide⟩, fun e3 => ⟨fun e4 => ?_, fun e4 => ?_⟩, fun e3 => ?_⟩⟩
    ·have g3 := z2 m3 hm3.1
     rw [e3] at g3
     have g3' := of_decide_eq_true g3.symm
     have e4' := of_decide_eq_true e4
     obtain ⟨x1, x2, x3⟩ := xE_stars t d a hn (by omega)
     rw [tkP_t1 t _ 42 e3, x1, x2, x3]
     exact ⟨⟨rfl, rfl⟩, by omega⟩
    ·have g3 := z2 m3 hm3.1
     rw [e3] at g3
     have g3' := of_decide_eq_true g3.symm
     have e4' := of_decide_eq_false e4
     rw [tkP_t1 t _ 42 e3]
     exact ⟨by omega, m3 + 1, ⟨by omega, by omega, by omega⟩, by omega, by omega, by omega, ⟨by rw [wrapN_succ], by rw [wrapN_succ]⟩, by rw [wrapN_succ, GExpr.eta]⟩
    ·have g3 := z2 m3 hm3.1
     rw [e3] at g3
     have g3' := of_decide_eq_false g3.symm
     have hm : m3 = mE t d a := by omega
     subst hm
     obtain ⟨x1, x2, x3⟩ := xE_fine t d a hn (by omega)
     rw [tkP_f t _ _ e3, x1, x2, x3, GExpr.eta]
     exact ⟨⟨rfl, rfl⟩, rfl⟩
theorem alls_rdI : ∀ n, AllS [ksn_impl_reader_core n, ksn_impl_reader_expr n]
 | 0 => ⟨⟨fnOk_of at_impl_reader_core rfl (by decide), fun _ _ _ h => absurd h.1 (Nat.not_lt_zero _)⟩, ⟨fnOk_of at_impl_reader_expr rfl (by decide), fun _ _ _ h => absurd h.1 (Nat.not_lt_zero _)⟩, trivial⟩
 | n + 1 => by
  have ih := alls_rdI n
  exact ⟨oks_impl_reader_core n trivial ⟨ogood_impl_leaf, ogood_impl_tree, trivial⟩ trivial ⟨sgood_impl_reader_take, sgood_impl_reader_digit, ih.2.1, trivial⟩, oks_impl_reader_expr n trivial ⟨ogood_impl_tree, trivial⟩ trivial ⟨sgood_impl_reader_take, ih.1, trivial⟩, trivial⟩
theorem sgood_impl_reader_expr : SCt.Good ks_impl_reader_expr :=
 ⟨fnOk_of at_impl_reader_expr rfl (by decide), fun d t a hp => (alls_rdI (2 * (d + 1).toNat + 1 + 1)).2.1.2 d t a (⟨Nat.lt_succ_self _, hp⟩)⟩
end
end Go.Proofs.YtbphjcgkidlabaaDoor

set_option linter.unusedVariables false
set_option linter.unusedSimpArgs false
set_option linter.unusedSectionVars false
set_option maxRecDepth 4000
set_option maxHeartbeats 4000000
namespace Go.Proofs.YtbphjcgkidlabaaDoor
noncomputable section
theorem cnt_le' (c : UInt8) : ∀ l : List UInt8, cnt c l ≤ l.length
 | [] => Nat.le_refl _
 | b :: l => by
  have := cnt_le' c l
  unfold cnt
  split <;> simp <;> omega
theorem cntD_le : ∀ l : List UInt8, cntD l ≤ l.length
 | [] => Nat.le_refl _
 | b :: l => by
  have := cntD_le l
  unfold cntD
  split <;> simp <;> omega
theorem pkS_lt (t : List UInt8) (a : Nat) (h : ¬ pkS t a = 0) : a < t.length := by
 unfold pkS at h
 split at h
 ·assumption
 ·exact absurd rfl h
theorem tkA_le (t : List UInt8) (a : Nat) (c : Int) (hc : ¬ c = 0) (h : a ≤ t.length) : tkA t a c ≤ t.length := by
 unfold tkA
 split
 ·rename_i e
  have := pkS_lt t a (by rw [e]; exact hc)
  omega
 ·exact h
theorem star_bnd (t : List UInt8) (r : RS) (h : r.a ≤ t.length) : (starS t r).a ≤ t.length ∧ (starS t r).dp = r.dp - 1 := by
 have := cnt_le' 42 (t.drop r.a)
 simp only [List.length_drop] at this
 unfold starS
 split
 ·exact ⟨h, rfl⟩
 ·exact ⟨by show r.a + cnt 42 (t.drop r.a) ≤ _; omega, rfl⟩
structure Bnd (t : List UInt8) (dp m : Nat) (r : RS) : Prop where
 a : r.a ≤ t.length
 lo : dp ≤ r.dp
 hi : r.dp ≤ m
theorem expr_bnd (inner : Nat → Nat → RS) (t : List UInt8) (a dp : Nat) (bad : Bool) (ha : a ≤ t.length) (hi : dp + 1 ≤ 100 → bad = false → Bnd t (dp + 1) 102 (inner a (dp + 1))) : Bnd t dp (max 101 (dp + 1)) (exprS inner t a dp bad) := by
 unfold exprS
 split
 ·exact ⟨ha, Nat.le_succ _, by show dp + 1 ≤ _; omega⟩
 ·rename_i h
  have hb : bad = false := by cases bad <;> simp_all
  have g := hi (by omega) hb
  have s := star_bnd t _ g.a
  have := g.lo; have := g.hi
  exact ⟨s.1, by rw [s.2]; omega, by rw [s.2]; omega⟩
theorem pair2_bnd (inner : Nat → Nat → RS) (t : List UInt8) (x : RS) (k : Int) (a dp : Nat) (bad : Bool) (hd : dp ≤ 100) (ha : a ≤ t.length) (hx : Bnd t dp 101 x) (hb : bad = false → x.dp = dp) (hi : dp + 1 ≤ 100 → ∀ a, a ≤ t.length → Bnd t (dp + 1) 102 (inner a (dp + 1))) :
  Bnd t dp 102 (pair2 inner t x k a bad) := by
 have := hx.lo; have := hx.hi
 have hy := expr_bnd inner t a x.dp bad ha (fun h1 h2 => by rw [hb h2] at h1 ⊢; exact hi h1 a ha)
 have := hy.lo; have := hy.hi
 unfold pair2
 exact ⟨tkA_le t _ 41 (by decide) hy.a, by show dp ≤ (exprS inner t a x.dp bad).dp; omega, by show (exprS inner t a x.dp bad).dp ≤ 102; omega⟩
theorem tkX_bad (t : List UInt8) (a : Nat) (c : Int) (bad : Bool) (h : tkX t a c bad = false) : bad = false := by
 unfold tkX at h
 split at h
 ·exact h
 ·cases h
theorem pair_bnd (inner : Nat → Nat → RS) (t : List UInt8) (x : RS) (dp : Nat) (hd : dp ≤ 100) (hx : Bnd t dp 101 x) (hb : x.bad = false → x.dp = dp) (hi : dp + 1 ≤ 100 → ∀ a, a ≤ t.length → Bnd t (dp + 1) 102 (inner a (dp + 1))) :
  Bnd t dp 102 (pairS inner t x) := by
 have h1 := tkA_le t x.a 32 (by decide) hx.a
 unfold pairS
 split
 ·rename_i e
  have h2 := pkS_lt t (tkA t x.a 32) (by rw [e]; decide)
  exact pair2_bnd inner t x 6 _ dp _ hd (tkA_le t _ 32 (by decide) (by omega)) hx (fun h => hb (tkX_bad t _ _ _ (tkX_bad t _ _ _ h))) hi
 ·exact pair2_bnd inner t x 7 _ dp _ hd h1 hx (fun h => hb (tkX_bad t _ _ _ h)) hi
theorem innerS_def (t : List UInt8) (g a dp : Nat) : innerS t g a dp = if pkS t a = 48 then ⟨GExpr.mk 1 0 [], a + 1, dp, false⟩ else if pkS t a = 49 then ⟨GExpr.mk 2 0 [], a + 1, dp, false⟩ else
  if pkS t a = 116 ∨ pkS t a = 97 then nameS t a dp else
  if pkS t a = 126 then (match g with
   | 0 => ⟨zX, a + 1, dp + 1, true⟩
   | g + 1 => ⟨GExpr.mk 5 0 [(innerS t g (a + 1) (dp + 1)).e], (innerS t g (a + 1) (dp + 1)).a, (innerS t g (a + 1) (dp + 1)).dp - 1, (innerS t g (a + 1) (dp + 1)).bad⟩) else
  if pkS t a = 40 then (match g with
   | 0 => pairS (fun _ _ => ⟨zX, 0, 0, true⟩) t (exprS (fun _ _ => ⟨zX, 0, 0, true⟩) t (a + 1) dp false)
   | g + 1 => pairS (innerS t g) t (exprS (innerS t g) t (a + 1) dp false)) else ⟨zX, a, dp, true⟩ := by
 exact innerS.eq_def t g a dp
theorem inner_bnd (t : List UInt8) : ∀ (g a dp : Nat), g + dp = 100 → a ≤ t.length → Bnd t dp 102 (innerS t g a dp)
 | g, a, dp, hg, ha => by
  have lt : ∀ c : Int, ¬ c = 0 → pkS t a = c → a + 1 ≤ t.length := fun c hc h => pkS_lt t a (by rw [h]; exact hc)
  rw [innerS_def]
  split
  ·rename_i h; exact ⟨lt _ (by decide) h, Nat.le_refl _, by show dp ≤ 102; omega⟩
  ·split
   ·rename_i h; exact ⟨lt _ (by decide) h, Nat.le_refl _, by show dp ≤ 102; omega⟩
   ·split
    ·rename_i h
     have h1 : a + 1 ≤ t.length := by rcases h with h | h <;> exact lt _ (by decide) h
     have := cntD_le (t.drop (a + 1))
     simp only [List.length_drop] at this
     exact ⟨by show a + 1 + cntD (t.drop (a + 1)) ≤ _; omega, Nat.le_refl _, by show dp ≤ 102; omega⟩
    ·split
     ·rename_i h
      have h1 := lt _ (by decide) h
      cases g with
      | zero => exact ⟨h1, Nat.le_succ _, by show dp + 1 ≤ 102; omega⟩
      | succ g =>
       have ih := inner_bnd t g (a + 1) (dp + 1) (by omega) h1
       have := ih.lo; have := ih.hi
       exact ⟨ih.a, by show dp ≤ (innerS t g (a + 1) (dp + 1)).dp - 1; omega, by show (innerS t g (a + 1) (dp + 1)).dp - 1 ≤ 102; omega⟩
     ·split
      ·rename_i h
       have h1 := lt _ (by decide) h
       cases g with
       | zero =>
        have hx := expr_bnd (fun _ _ => ⟨zX, 0, 0, true⟩) t (a + 1) dp false h1 (fun h => by omega)
        refine pair_bnd _ t _ dp (by omega) ⟨hx.a, hx.lo, by have := hx.hi; omega⟩ (fun hb => ?_) (fun h => by omega)
        exact ((expr_snd (fun _ _ => ⟨zX, 0, 0, true⟩) t (a + 1) dp false (fun h => by omega)).ex hb).1
       | succ g =>
        have hx := expr_bnd (innerS t g) t (a + 1) dp false h1 (fun _ _ => inner_bnd t g (a + 1) (dp + 1) (by omega) h1)
        refine pair_bnd _ t _ dp (by omega) ⟨hx.a, hx.lo, by have := hx.hi; omega⟩ (fun hb => ?_) (fun _ a' ha' => inner_bnd t g a' (dp + 1) (by omega) ha')
        exact ((expr_snd (innerS t g) t (a + 1) dp false (fun _ => inner_snd t g (a + 1) (dp + 1) (by omega))).ex hb).1
      ·exact ⟨ha, Nat.le_refl _, by show dp ≤ 102; omega⟩
def inE (t : List UInt8) (a dp : Int) : RS := innerS t (100 - dp).toNat a.toNat dp.toNat
def exE (t : List UInt8) (a dp : Int) (bad : Bool) : RS := exprS (innerS t (99 - dp).toNat) t a.toNat dp.toNat bad
def sE (t : List UInt8) (r : RS) : Nat := if r.bad = true then 0 else cnt 42 (t.drop r.a)
theorem star_eq (t : List UInt8) (r : RS) : starS t r = ⟨wrapN 8 (sE t r) r.e, r.a + sE t r, r.dp - 1, r.bad⟩ := by
 unfold starS sE
 cases r.bad <;> rfl
theorem in_bnd (t : List UInt8) (a dp : Int) (h0 : 0 ≤ a) (h1 : a ≤ (t.length : Int)) (h2 : 0 ≤ dp) (h3 : dp ≤ 100) : ((inE t a dp).a : Int) ≤ (t.length : Int) ∧ dp ≤ ((inE t a dp).dp : Int) ∧ ((inE t a dp).dp : Int) ≤ 102 := by
 have g := inner_bnd t (100 - dp).toNat a.toNat dp.toNat (by omega) (by omega)
 have := g.a; have := g.lo; have := g.hi
 unfold inE; omega
theorem ex_bnd (t : List UInt8) (a dp : Int) (bad : Bool) (h0 : 0 ≤ a) (h1 : a ≤ (t.length : Int)) (h2 : 0 ≤ dp) : ((exE t a dp bad).a : Int) ≤ (t.length : Int) ∧ dp ≤ ((exE t a dp bad).dp : Int) ∧ (((exE t a dp bad).dp : Int) ≤ 101 ∨ ((exE t a dp bad).dp : Int) ≤ dp + 1) := by
 have g := expr_bnd (innerS t (99 - dp).toNat) t a.toNat dp.toNat bad (by omega) (fun h _ => inner_bnd t (99 - dp).toNat a.toNat (dp.toNat + 1) (by omega) (by omega))
 have := g.a; have := g.lo; have := g.hi
 unfold exE; omega
theorem ex_stop (t : List UInt8) (a dp : Int) (bad : Bool) (h0 : 0 ≤ a) (h2 : 0 ≤ dp) (h : bad = true ∨ 100 < dp + 1) : (exE t a dp bad).e = zX ∧ ((exE t a dp bad).a : Int) = a ∧ ((exE t a dp bad).dp : Int) = dp + 1 ∧ (exE t a dp bad).bad = true := by
 unfold exE exprS
 rw [if_pos (by rcases h with h | h; exact .inl h; exact .inr (by omega))]
 exact ⟨rfl, by show ((a.toNat : Nat) : Int) = a; omega, by show ((dp.toNat + 1 : Nat) : Int) = dp + 1; omega, rfl⟩
theorem ex_go (t : List UInt8) (a dp : Int) (bad : Bool) (h0 : 0 ≤ a) (h2 : 0 ≤ dp) (h : bad = false) (h' : ¬ 100 < dp + 1) : exE t a dp bad = starS t (inE t a (dp + 1)) := by
 unfold exE exprS inE
 rw [if_neg (by rw [h]; rintro (g | g); cases g; omega), show (100 - (dp + 1)).toNat = (99 - dp).toNat by omega, show (dp + 1).toNat = dp.toNat + 1 by omega]
theorem ex_val (t : List UInt8) (a dp : Int) (bad : Bool) (h0 : 0 ≤ a) (h1 : a ≤ (t.length : Int)) (h2 : 0 ≤ dp) (h : bad = false) (h' : ¬ 100 < dp + 1) : (exE t a dp bad).e = wrapN 8 (sE t (inE t a (dp + 1))) (inE t a (dp + 1)).e ∧ ((exE t a dp bad).a : Int) = ((inE t a (dp + 1)).a : Int) + (sE t (inE t a (dp + 1)) : Int) ∧
  ((exE t a dp bad).dp : Int) = ((inE t a (dp + 1)).dp : Int) - 1 ∧ (exE t a dp bad).bad = (inE t a (dp + 1)).bad := by
 have := in_bnd t a (dp + 1) h0 h1 (by omega) (by omega)
 rw [ex_go t a dp bad h0 h2 h h', star_eq]
 refine ⟨rfl, by simp, ?_, rfl⟩
 show (((inE t a (dp + 1)).dp - 1 : Nat) : Int) = _
 omega
theorem sE_le (t : List UInt8) (a dp : Int) (h0 : 0 ≤ a) (h1 : a ≤ (t.length : Int)) (h2 : 0 ≤ dp) (h3 : dp ≤ 100) : ((inE t a dp).a : Int) + (sE t (inE t a dp) : Int) ≤ (t.length : Int) := by
 have := in_bnd t a dp h0 h1 h2 h3
 have h := cnt_le' 42 (t.drop (inE t a dp).a)
 simp only [List.length_drop] at h
 unfold sE
 split <;> omega
structure is4 (r : RS) (e : GExpr) (a dp : Int) (bad : Bool) : Prop where
 e : r.e = e
 a : (r.a : Int) = a
 dp : (r.dp : Int) = dp
 bad : r.bad = bad
theorem in48 (t : List UInt8) (a dp : Int) (h0 : 0 ≤ a) (h2 : 0 ≤ dp) (h : pkS t a.toNat = 48) : is4 (inE t a dp) (GExpr.mk 1 0 []) (a + 1) dp false := by
 unfold inE; rw [innerS_def, if_pos h]
 exact ⟨rfl, by show ((a.toNat + 1 : Nat) : Int) = _; omega, by show ((dp.toNat : Nat) : Int) = _; omega, rfl⟩
theorem in49 (t : List UInt8) (a dp : Int) (h0 : 0 ≤ a) (h2 : 0 ≤ dp) (h : pkS t a.toNat = 49) : is4 (inE t a dp) (GExpr.mk 2 0 []) (a + 1) dp false := by
 unfold inE; rw [innerS_def, if_neg (by rw [h]; decide), if_pos h]
 exact ⟨rfl, by show ((a.toNat + 1 : Nat) : Int) = _; omega, by show ((dp.toNat : Nat) : Int) = _; omega, rfl⟩
theorem in_name (t : List UInt8) (a dp : Int) (h : pkS t a.toNat = 116 ∨ pkS t a.toNat = 97) : inE t a dp = nameS t a.toNat dp.toNat := by
 unfold inE; rw [innerS_def, if_neg (by rcases h with h | h <;> rw [h] <;> decide), if_neg (by rcases h with h | h <;> rw [h] <;> decide), if_pos h]
theorem in_not (t : List UInt8) (a dp : Int) (h0 : 0 ≤ a) (h1 : a + 1 ≤ (t.length : Int)) (h2 : 0 ≤ dp) (h3 : ¬ 100 < dp + 1) (h : pkS t a.toNat = 126) : is4 (inE t a dp) (GExpr.mk 5 0 [(inE t (a + 1) (dp + 1)).e]) ((inE t (a + 1) (dp + 1)).a : Int) (((inE t (a + 1) (dp + 1)).dp : Int) - 1) (inE t (a + 1) (dp + 1)).bad := by
 have hb := in_bnd t (a + 1) (dp + 1) (by omega) (by omega) (by omega) (by omega)
 have e : inE t a dp = ⟨GExpr.mk 5 0 [(inE t (a + 1) (dp + 1)).e], (inE t (a + 1) (dp + 1)).a, (inE t (a + 1) (dp + 1)).dp - 1, (inE t (a + 1) (dp + 1)).bad⟩ := by
  unfold inE
  obtain ⟨g, hg⟩ : ∃ g, (100 - dp).toNat = g + 1 := ⟨(99 - dp).toNat, by omega⟩
  rw [show (100 - (dp + 1)).toNat = g by omega, show (a + 1).toNat = a.toNat + 1 by omega, show (dp + 1).toNat = dp.toNat + 1 by omega, hg]
  conv => lhs; rw [innerS_def]
  rw [if_neg (by rw [h]; decide), if_neg (by rw [h]; decide), if_neg (by rw [h]; decide), if_pos h]
 rw [e]
 exact ⟨rfl, rfl, by show (((inE t (a + 1) (dp + 1)).dp - 1 : Nat) : Int) = _; omega, rfl⟩
theorem in_deep (t : List UInt8) (a dp : Int) (h0 : 0 ≤ a) (h2 : 0 ≤ dp) (h3 : 100 < dp + 1) (h : pkS t a.toNat = 126) : is4 (inE t a dp) zX (a + 1) (dp + 1) true := by
 unfold inE
 rw [show (100 - dp).toNat = 0 by omega, innerS_def, if_neg (by rw [h]; decide), if_neg (by rw [h]; decide), if_neg (by rw [h]; decide), if_pos h]
 exact ⟨rfl, by show ((a.toNat + 1 : Nat) : Int) = _; omega, by show ((dp.toNat + 1 : Nat) : Int) = _; omega, rfl⟩
theorem in_else (t : List UInt8) (a dp : Int) (h0 : 0 ≤ a) (h2 : 0 ≤ dp) (h : ¬ pkS t a.toNat = 48 ∧ ¬ pkS t a.toNat = 49 ∧ ¬ pkS t a.toNat = 116 ∧ ¬ pkS t a.toNat = 97 ∧ ¬ pkS t a.toNat = 126 ∧ ¬ pkS t a.toNat = 40) : is4 (inE t a dp) zX a dp true := by
 unfold inE
 rw [innerS_def, if_neg h.1, if_neg h.2.1, if_neg (by rintro (g | g); exact h.2.2.1 g; exact h.2.2.2.1 g), if_neg h.2.2.2.2.1, if_neg h.2.2.2.2.2]
 exact ⟨rfl, by show ((a.toNat : Nat) : Int) = _; omega, by show ((dp.toNat : Nat) : Int) = _; omega, rfl⟩
def yE (t : List UInt8) (x : RS) (a : Int) (bad : Bool) : RS := exE t a (x.dp : Int) bad
theorem pair2_eq (inner : Nat → Nat → RS) (t : List UInt8) (x : RS) (k : Int) (a : Nat) (bad : Bool) (hi : exprS inner t a x.dp bad = yE t x (a : Int) bad) :
  is4 (pair2 inner t x k a bad) (GExpr.mk k 0 [x.e, (yE t x (a : Int) bad).e]) ((tkA t (yE t x (a : Int) bad).a 41 : Nat) : Int) ((yE t x (a : Int) bad).dp : Int) (tkX t (yE t x (a : Int) bad).a 41 (yE t x (a : Int) bad).bad) := by
 unfold pair2
 rw [hi]
 exact ⟨rfl, rfl, rfl, rfl⟩
theorem in_pair (t : List UInt8) (a dp : Int) (h0 : 0 ≤ a) (h1 : a + 1 ≤ (t.length : Int)) (h2 : 0 ≤ dp) (h3 : dp ≤ 100) (h : pkS t a.toNat = 40) (X : RS) (hX : X = exE t (a + 1) dp false) :
  (pkS t (tkA t X.a 32) = 43 → is4 (inE t a dp) (GExpr.mk 6 0 [X.e, (yE t X ((tkA t (tkA t X.a 32 + 1) 32 : Nat) : Int) (tkX t (tkA t X.a 32 + 1) 32 (tkX t X.a 32 X.bad))).e]) ((tkA t (yE t X ((tkA t (tkA t X.a 32 + 1) 32 : Nat) : Int) (tkX t (tkA t X.a 32 + 1) 32 (tkX t X.a 32 X.bad))).a 41 : Nat) : Int)
   ((yE t X ((tkA t (tkA t X.a 32 + 1) 32 : Nat) : Int) (tkX t (tkA t X.a 32 + 1) 32 (tkX t X.a 32 X.bad))).dp : Int) (tkX t (yE t X ((tkA t (tkA t X.a 32 + 1) 32 : Nat) : Int) (tkX t (tkA t X.a 32 + 1) 32 (tkX t X.a 32 X.bad))).a 41 (yE t X ((tkA t (tkA t X.a 32 + 1) 32 : Nat) : Int) (tkX t (tkA t X.a 32 + 1) 32 (tkX t X.a 32 X.bad))).bad)) ∧
  (¬ pkS t (tkA t X.a 32) = 43 → is4 (inE t a dp) (GExpr.mk 7 0 [X.e, (yE t X ((tkA t X.a 32 : Nat) : Int) (tkX t X.a 32 X.bad)).e]) ((tkA t (yE t X ((tkA t X.a 32 : Nat) : Int) (tkX t X.a 32 X.bad)).a 41 : Nat) : Int)
   ((yE t X ((tkA t X.a 32 : Nat) : Int) (tkX t X.a 32 X.bad)).dp : Int) (tkX t (yE t X ((tkA t X.a 32 : Nat) : Int) (tkX t X.a 32 X.bad)).a 41 (yE t X ((tkA t X.a 32 : Nat) : Int) (tkX t X.a 32 X.bad)).bad)) := by
 have key : ∃ inner : Nat → Nat → RS, inE t a dp = pairS inner t X ∧ ∀ (a : Nat) (bad : Bool), (bad = false → X.bad = false) → exprS inner t a X.dp bad = yE t X (a : Int) bad := by
  have hXd : X.bad = false → X.dp = dp.toNat := by
   intro hb
   rw [hX] at hb ⊢
   exact ((expr_snd (innerS t (99 - dp).toNat) t (a + 1).toNat dp.toNat false (fun h => inner_snd t _ _ _ (by omega))).ex hb).1
  by_cases hd : dp < 100
  ·obtain ⟨g, hg⟩ : ∃ g, (100 - dp).toNat = g + 1 := ⟨(99 - dp).toNat, by omega⟩
   refine ⟨innerS t g, ?_, fun a' bad hb => ?_⟩
   ·have eX : X = exprS (innerS t g) t (a.toNat + 1) dp.toNat false := by
     rw [hX, exE, show (99 - dp).toNat = g by omega, show (a + 1).toNat = a.toNat + 1 by omega]
    unfold inE
    rw [hg]
    conv => lhs; rw [innerS_def]
    rw [if_neg (by rw [h]; decide), if_neg (by rw [h]; decide), if_neg (by rw [h]; decide), if_neg (by rw [h]; decide), if_pos h, eX]
   ·unfold yE exE
    rw [Int.toNat_natCast, Int.toNat_natCast]
    cases bad with
    | true => rfl
    | false => rw [hXd (hb rfl), show (99 - (dp.toNat : Int)).toNat = g by omega]
  ·have hz : (100 - dp).toNat = 0 := by omega
   refine ⟨fun _ _ => ⟨zX, 0, 0, true⟩, ?_, fun a' bad hb => ?_⟩
   ·have eX : X = exprS (fun _ _ => ⟨zX, 0, 0, true⟩) t (a.toNat + 1) dp.toNat false := by
     rw [hX, exE, show (a + 1).toNat = a.toNat + 1 by omega]
     unfold exprS
     rw [if_pos (.inr (by omega)), if_pos (.inr (by omega))]
    unfold inE
    rw [hz]
    conv => lhs; rw [innerS_def]
    rw [if_neg (by rw [h]; decide), if_neg (by rw [h]; decide), if_neg (by rw [h]; decide), if_neg (by rw [h]; decide), if_pos h, eX]
   ·have hlo : dp.toNat ≤ X.dp := by
     have := ex_bnd t (a + 1) dp false (by omega) (by omega) h2
     rw [← hX] at this; omega
    unfold yE exE
    rw [Int.toNat_natCast, Int.toNat_natCast]
    unfold exprS
    rw [if_pos (.inr (by omega)), if_pos (.inr (by omega))]
 obtain ⟨inner, k1, k2⟩ := key
 rw [k1]
 unfold pairS
 refine ⟨fun hp => ?_, fun hp => ?_⟩
 ·rw [if_pos hp]
  exact pair2_eq inner t X 6 _ _ (k2 _ _ fun hb => tkX_bad t _ _ _ (tkX_bad t _ _ _ hb))
 ·rw [if_neg hp]
  exact pair2_eq inner t X 7 _ _ (k2 _ _ fun hb => tkX_bad t _ _ _ hb)
theorem cntD_next : ∀ (l : List UInt8) (k : Nat), k ≤ cntD l → (k < cntD l ↔ ∃ b r, l.drop k = b :: r ∧ isDig b = true)
 | [], k, h => by simp [cntD]
 | b :: l, k, h => by
  unfold cntD at h ⊢
  split at h
  ·rename_i e
   rw [if_pos e]
   cases k with
   | zero => exact ⟨fun _ => ⟨b, l, rfl, e⟩, fun _ => by omega⟩
   | succ k =>
    have := cntD_next l k (by omega)
    rw [List.drop_succ_cons, ← this]; omega
  ·rename_i e
   rw [if_neg e]
   have hk : k = 0 := by omega
   subst hk
   refine ⟨fun h => by omega, fun ⟨c, r, hr, hc⟩ => ?_⟩
   simp only [List.drop_zero, List.cons.injEq] at hr
   rw [hr.1] at e
   exact absurd hc e
theorem pk_dig (t : List UInt8) (n k : Nat) (h : k ≤ cntD (t.drop n)) : (48 ≤ pkS t (n + k) ∧ pkS t (n + k) ≤ 57) ↔ k < cntD (t.drop n) := by
 rw [cntD_next _ k h, List.drop_drop]
 constructor
 ·intro hp
  have hl := pkS_lt t (n + k) (by omega)
  refine ⟨t.getD (n + k) 0, t.drop (n + k + 1), ?_, ?_⟩
  ·rw [List.drop_eq_getElem_cons hl, List.getD_eq_getElem?_getD, List.getElem?_eq_getElem hl]; rfl
  ·unfold pkS at hp
   rw [if_pos hl] at hp
   unfold isDig
   rw [decide_eq_true (by omega), decide_eq_true (by omega)]; rfl
 ·rintro ⟨b, r, h1, h2⟩
  rw [pkS_cons h1]
  simp only [isDig, Bool.and_eq_true, decide_eq_true_eq] at h2
  omega
def nD (t : List UInt8) (a : Int) : Nat := cntD (t.drop (a + 1).toNat)
theorem pk_nD (t : List UInt8) (a : Int) (k : Nat) (h0 : 0 ≤ a) (h : k ≤ nD t a) : (48 ≤ pkS t (a + 1 + (k : Int)).toNat ∧ pkS t (a + 1 + (k : Int)).toNat ≤ 57) ↔ k < nD t a := by
 rw [show (a + 1 + (k : Int)).toNat = (a + 1).toNat + k by omega]
 exact pk_dig t _ k h
theorem nD_le (t : List UInt8) (a : Int) (h0 : 0 ≤ a) (h1 : a + 1 ≤ (t.length : Int)) : a + 1 + (nD t a : Int) ≤ (t.length : Int) := by
 have := cntD_le (t.drop (a + 1).toNat)
 simp only [List.length_drop] at this
 unfold nD; omega
def nmE (t : List UInt8) (a : Int) : List UInt8 := (t.drop (a + 1).toNat).take (nD t a)
def nmK (t : List UInt8) (a : Int) : Int := if pkS t a.toNat = 97 then 4 else 3
theorem nmK_t (t : List UInt8) (a : Int) (h : pkS t a.toNat = 97) : nmK t a = 4 := if_pos h
theorem nmK_f (t : List UInt8) (a : Int) (h : ¬ pkS t a.toNat = 97) : nmK t a = 3 := if_neg h
theorem name_eq (t : List UInt8) (a dp : Int) (h0 : 0 ≤ a) (h2 : 0 ≤ dp) : is4 (nameS t a.toNat dp.toNat) (GExpr.mk (nmK t a) (numV 9 (nmE t a)) []) (a + 1 + (nD t a : Int)) dp (!numB 9 (nmE t a)) := by
 unfold nameS nmE nmS nD
 rw [show (a + 1).toNat = a.toNat + 1 by omega]
 exact ⟨rfl, by show ((a.toNat + 1 + cntD (t.drop (a.toNat + 1)) : Nat) : Int) = _; omega, by show ((dp.toNat : Nat) : Int) = _; omega, rfl⟩
theorem nm_cut (t : List UInt8) (a : Int) (k : Nat) (h0 : 0 ≤ a) (h : k = nD t a) : (t.take (Int.toNat (a + 1 + (k : Int)))).drop (Int.toNat (a + 1)) = nmE t a := by
 rw [List.drop_take]
 unfold nmE
 congr 1; omega
theorem sE_bad (t : List UInt8) (r : RS) (h : r.bad = true) : sE t r = 0 := by unfold sE; rw [if_pos h]
theorem sE_go (t : List UInt8) (r : RS) (m : Nat) (h : r.bad = false) (hm : m ≤ sE t r) : pkS t ((r.a : Int) + (m : Int)).toNat = 42 ↔ m < sE t r := by
 have e : sE t r = cnt 42 (t.drop r.a) := by unfold sE; rw [h]; rfl
 rw [e] at hm ⊢
 rw [show ((r.a : Int) + (m : Int)).toNat = r.a + m by omega]
 have key : ∀ (l : List UInt8) (k : Nat), k ≤ cnt 42 l → (k < cnt 42 l ↔ ∃ r, l.drop k = 42 :: r) := by
  intro l
  induction l with
  | nil => intro k h; simp [cnt]
  | cons b l ih =>
   intro k h
   unfold cnt at h ⊢
   split at h
   ·rename_i e
    rw [if_pos e]
    cases k with
    | zero => exact ⟨fun _ => ⟨l, by rw [e]; rfl⟩, fun _ => by omega⟩
    | succ k =>
     have := ih k (by omega)
     rw [List.drop_succ_cons, ← this]; omega
   ·rename_i e
    rw [if_neg e]
    have hk : k = 0 := by omega
    subst hk
    refine ⟨fun h => by omega, fun ⟨r, hr⟩ => ?_⟩
    simp only [List.drop_zero, List.cons.injEq] at hr
    exact absurd hr.1 e
 rw [key _ m hm, List.drop_drop]
 constructor
 ·intro hp; exact pkS_iff t _ 42 (by decide) hp
 ·rintro ⟨r, hr⟩; exact pkS_cons hr
theorem tk_i (t : List UInt8) (a c : Int) (h0 : 0 ≤ a) (h : pkS t a.toNat = c) : ((tkA t a.toNat c : Nat) : Int) = a + 1 ∧ tkX t a.toNat c false = false := by
 unfold tkA tkX; rw [if_pos h, if_pos h]
 exact ⟨by omega, rfl⟩
def ks_spec_l01Reader_peek : SCt := ⟨n_spec_l01Reader_peek, [[.d .str, .d (.int .i64), .d (.int .i64), .d .bool]], [.b 0], [[.str, (.int .i64), (.int .i64), .bool]], fun (t : List UInt8) (a : Int) (dp : Int) (bad : Bool) => ⟨(some (0 ≤ a ∧ a ≤ (t.length : Int) ∧ t.length ≤ 10000), [⟨(.int .u8), pkS t a.toNat⟩], [[⟨.str, t⟩, ⟨(.int .i64), a⟩, ⟨(.int .i64), dp⟩, ⟨.bool, bad⟩]])⟩⟩
def ls_spec_l01Reader_peek (t : List UInt8) (a : Int) (dp : Int) (bad : Bool) : Nat → LoopInv := fun _ => .none
theorem vcs_spec_l01Reader_peek (t : List UInt8) (a : Int) (dp : Int) (bad : Bool) : awp (envO [] [] [] [] []) (bodyOf f_spec_l01Reader_peek) (ls_spec_l01Reader_peek t a dp bad) 0 (stPost (envO [] [] [] [] []) f_spec_l01Reader_peek [[.d .str, .d (.int .i64), .d (.int .i64), .d .bool]] fun r ds => areEq r [⟨(.int .u8), pkS t a.toNat⟩] ∧ areEqs ds [[⟨.str, t⟩, ⟨(.int .i64), a⟩, ⟨(.int .i64), dp⟩, ⟨.bool, bad⟩]]) (startSt f_spec_l01Reader_peek [.box 0] [[.d .str, .d (.int .i64), .d (.int .i64), .d .bool]] [[⟨.str, t⟩, ⟨(.int .i64), a⟩, ⟨(.int .i64), dp⟩, ⟨.bool, bad⟩]]) =
 ((inI64 a →
 (t.length ≤ 140737488355328 →
 (inI64 ((t.length : Int)) →
 (((decide (a < ((t.length : Int)))) = true →
 (t.length ≤ 140737488355328 →
 (inI64 a →
 (idxOk a t.length ∧ ((((t.getD (Int.toNat a) 0).toNat : Int)) = (pkS t a.toNat) ∧ ((t = t ∧ (a = a ∧ (dp = dp ∧ bad = bad))) ∧ True)))))) ∧ ((decide (a < ((t.length : Int)))) = false →
 ((0 : Int) = (pkS t a.toNat) ∧ ((t = t ∧ (a = a ∧ (dp = dp ∧ bad = bad))) ∧ True)))))))) := by kernel_rfl
theorem oks_spec_l01Reader_peek (hE : AllGood []) (hO : AllO []) (hM : AllM []) (hS : AllS []) : SCt.Good ks_spec_l01Reader_peek := by
 refine ⟨fnOk_of at_spec_l01Reader_peek rfl (by decide), ?_⟩
 show ∀ (t : List UInt8) (a : Int) (dp : Int) (bad : Bool), (0 ≤ a ∧ a ≤ (t.length : Int) ∧ t.length ≤ 10000) → OkSt prog n_spec_l01Reader_peek [[.d .str, .d (.int .i64), .d (.int .i64), .d .bool]] [.box 0] [[⟨.str, t⟩, ⟨(.int .i64), a⟩, ⟨(.int .i64), dp⟩, ⟨.bool, bad⟩]] [⟨(.int .u8), pkS t a.toNat⟩] [[⟨.str, t⟩, ⟨(.int .i64), a⟩, ⟨(.int .i64), dp⟩, ⟨.bool, bad⟩]]
 intro t a dp bad hp
 refine st_of_awp (own := []) (wr := []) (cl := []) (ro := []) hE hO hM hS at_spec_l01Reader_peek body_spec_l01Reader_peek (ls_spec_l01Reader_peek t a dp bad) rfl rfl ?_
 rewrite [vcs_spec_l01Reader_peek t a dp bad]
 refine fun a0 => fun a1 => fun a2 => ⟨fun a3 => fun a4 => fun a5 => ⟨?_, ⟨?_, ⟨⟨rfl, ⟨rfl, ⟨rfl, rfl⟩⟩⟩, trivial⟩⟩⟩, fun a3 => ⟨?_, ⟨⟨rfl, ⟨rfl, ⟨rfl, rfl⟩⟩⟩, trivial⟩⟩⟩
 all_goals try and_intros
 all_goals first | rfl | trivial | omega | (simp only [decide_eq_true_eq, decide_eq_false_iff_not, idxOk, inI64] at *; first | omega | grind [pkS, tkA, tkX])
theorem sgood_spec_l01Reader_peek : SCt.Good ks_spec_l01Reader_peek := oks_spec_l01Reader_peek trivial trivial trivial trivial
def ks_spec_l01Reader_take : SCt := ⟨n_spec_l01Reader_take, [[.d .str, .d (.int .i64), .d (.int .i64), .d .bool]], [.b 0, .v (.int .u8)], [[.str, (.int .i64), (.int .i64), .bool]], fun (b : Int) (t : List UInt8) (a : Int) (dp : Int) (bad : Bool) => ⟨(some (0 ≤ a ∧ a ≤ (t.length : Int) ∧ t.length ≤ 10000), [], [[⟨.str, t⟩, ⟨(.int .i64), ((tkA t a.toNat b : Nat) : Int)⟩, ⟨(.int .i64), dp⟩, ⟨.bool, tkX t a.toNat b bad⟩]])⟩⟩
def ls_spec_l01Reader_take (b : Int) (t : List UInt8) (a : Int) (dp : Int) (bad : Bool) : Nat → LoopInv := fun _ => .none
theorem vcs_spec_l01Reader_take (b : Int) (t : List UInt8) (a : Int) (dp : Int) (bad : Bool) : awp (envO [] [] [] [] [] [] [] [ks_spec_l01Reader_peek]) (bodyOf f_spec_l01Reader_take) (ls_spec_l01Reader_take b t a dp bad) 0 (stPost (envO [] [] [] [] [] [] [] [ks_spec_l01Reader_peek]) f_spec_l01Reader_take [[.d .str, .d (.int .i64), .d (.int .i64), .d .bool]] fun r ds => areEq r [] ∧ areEqs ds [[⟨.str, t⟩, ⟨(.int .i64), ((tkA t a.toNat b : Nat) : Int)⟩, ⟨(.int .i64), dp⟩, ⟨.bool, tkX t a.toNat b bad⟩]]) (startSt f_spec_l01Reader_take [.box 0, .val ⟨(.int .u8), b⟩] [[.d .str, .d (.int .i64), .d (.int .i64), .d .bool]] [[⟨.str, t⟩, ⟨(.int .i64), a⟩, ⟨(.int .i64), dp⟩, ⟨.bool, bad⟩]]) =
 (((0 ≤ a ∧ a ≤ (t.length : Int) ∧ t.length ≤ 10000) ∧ (((!(decide ((pkS t a.toNat) = b))) = true →
 (True ∧ ((t = t ∧ (a = ((tkA t a.toNat b : Nat) : Int) ∧ (dp = dp ∧ true = (tkX t a.toNat b bad)))) ∧ True))) ∧ ((!(decide ((pkS t a.toNat) = b))) = false →
 (inI64 a →
 (inI64 (a + (1 : Int)) ∧ (True ∧ ((t = t ∧ ((a + (1 : Int)) = ((tkA t a.toNat b : Nat) : Int) ∧ (dp = dp ∧ bad = (tkX t a.toNat b bad)))) ∧ True)))))))) := by kernel_rfl
theorem oks_spec_l01Reader_take (hE : AllGood []) (hO : AllO []) (hM : AllM []) (hS : AllS [ks_spec_l01Reader_peek]) : SCt.Good ks_spec_l01Reader_take := by
 refine ⟨fnOk_of at_spec_l01Reader_take rfl (by decide), ?_⟩
 show ∀ (b : Int) (t : List UInt8) (a : Int) (dp : Int) (bad : Bool), (0 ≤ a ∧ a ≤ (t.length : Int) ∧ t.length ≤ 10000) → OkSt prog n_spec_l01Reader_take [[.d .str, .d (.int .i64), .d (.int .i64), .d .bool]] [.box 0, .val ⟨(.int .u8), b⟩] [[⟨.str, t⟩, ⟨(.int .i64), a⟩, ⟨(.int .i64), dp⟩, ⟨.bool, bad⟩]] [] [[⟨.str, t⟩, ⟨(.int .i64), ((tkA t a.toNat b : Nat) : Int)⟩, ⟨(.int .i64), dp⟩, ⟨.bool, tkX t a.toNat b bad⟩]]
 intro b t a dp bad hp
 refine st_of_awp (own := []) (wr := []) (cl := []) (ro := []) hE hO hM hS at_spec_l01Reader_take body_spec_l01Reader_take (ls_spec_l01Reader_take b t a dp bad) rfl rfl ?_
 rewrite [vcs_spec_l01Reader_take b t a dp bad]
 obtain ⟨h0, h1, h2⟩ := hp
 by_cases h : pkS t a.toNat = b
 ·have e1 : ((tkA t a.toNat b : Nat) : Int) = a + 1 := by unfold tkA; rw [if_pos h]; omega
  have e2 : tkX t a.toNat b bad = bad := by unfold tkX; rw [if_pos h]
  simp only [e1, e2, h, decide_true, decide_false, Bool.not_true, Bool.not_false, Bool.true_eq_false, Bool.false_eq_true, not_true_eq_false, not_false_eq_true, false_implies, true_implies, inI64]
  repeat' (first | intro _ | apply And.intro)
  all_goals first | trivial | omega
 ·have e1 : ((tkA t a.toNat b : Nat) : Int) = a := by unfold tkA; rw [if_neg h]; omega
  have e2 : tkX t a.toNat b bad = true := by unfold tkX; rw [if_neg h]
  simp only [e1, e2, h, decide_true, decide_false, Bool.not_true, Bool.not_false, Bool.true_eq_false, Bool.false_eq_true, not_true_eq_false, not_false_eq_true, false_implies, true_implies, inI64]
  repeat' (first | intro _ | apply And.intro)
  all_goals first | trivial | omega
theorem sgood_spec_l01Reader_take : SCt.Good ks_spec_l01Reader_take := oks_spec_l01Reader_take trivial trivial trivial ⟨sgood_spec_l01Reader_peek, trivial⟩
def ks_spec_l01Reader_name : SCt := ⟨n_spec_l01Reader_name, [[.d .str, .d (.int .i64), .d (.int .i64), .d .bool]], [.b 0], [[.str, (.int .i64), (.int .i64), .bool]], fun (t : List UInt8) (a : Int) (dp : Int) (bad : Bool) => ⟨(some (0 ≤ a ∧ a ≤ (t.length : Int) ∧ t.length ≤ 10000 ∧ 0 ≤ dp ∧ (pkS t a.toNat = 116 ∨ pkS t a.toNat = 97) ∧ bad = false), [⟨(.st .expr), (nameS t a.toNat dp.toNat).e⟩], [[⟨.str, t⟩, ⟨(.int .i64), ((nameS t a.toNat dp.toNat).a : Int)⟩, ⟨(.int .i64), dp⟩, ⟨.bool, (nameS t a.toNat dp.toNat).bad⟩]])⟩⟩
def ls_spec_l01Reader_name (t : List UInt8) (a : Int) (dp : Int) (bad : Bool) : Nat → LoopInv := (fun zb => if Nat.beq zb 0 then .mk (Nat) (fun k => k ≤ nD t a) (fun k => nD t a - k) [] [1, 7, 8, 9, 10, 11, 12, 13, 14, 15, 16, 17, 18, 19, 20, 21, 22] (fun k => [(4, .imm ⟨(.int .i64), (a + 1 : Int)⟩)]) [0, 2, 4, 5, 6, 23, 24, 25, 26, 27, 28, 29, 30, 31, 32, 33, 34, 35, 36, 37, 38, 39, 40, 41, 42, 43, 44, 45, 46, 47, 48, 49, 50, 51, 52, 53, 54, 55, 56, 57, 58, 59, 60, 61, 62, 63, 64, 65] (fun k => [(400000, .box [.imm ⟨.str, (t : List UInt8)⟩, .imm ⟨(.int .i64), (a + 1 + (k : Int) : Int)⟩, .imm ⟨(.int .i64), (dp : Int)⟩, .imm ⟨.bool, (bad : Bool)⟩]), (3, .box [.imm ⟨(.int .i64), (nmK t a : Int)⟩, .imm ⟨(.int .i64), ((0 : Int) : Int)⟩, .nil])]) [] [] (fun k => fun _ => .none) else .none)
theorem vcs_spec_l01Reader_name (t : List UInt8) (a : Int) (dp : Int) (bad : Bool) : awp (envO [k_spec_l01Number] [] [] [] [] [] [] [ks_spec_l01Reader_peek]) (bodyOf f_spec_l01Reader_name) (ls_spec_l01Reader_name t a dp bad) 0 (stPost (envO [k_spec_l01Number] [] [] [] [] [] [] [ks_spec_l01Reader_peek]) f_spec_l01Reader_name [[.d .str, .d (.int .i64), .d (.int .i64), .d .bool]] fun r ds => areEq r [⟨(.st .expr), (nameS t a.toNat dp.toNat).e⟩] ∧ areEqs ds [[⟨.str, t⟩, ⟨(.int .i64), ((nameS t a.toNat dp.toNat).a : Int)⟩, ⟨(.int .i64), dp⟩, ⟨.bool, (nameS t a.toNat dp.toNat).bad⟩]]) (startSt f_spec_l01Reader_name [.box 0] [[.d .str, .d (.int .i64), .d (.int .i64), .d .bool]] [[⟨.str, t⟩, ⟨(.int .i64), a⟩, ⟨(.int .i64), dp⟩, ⟨.bool, bad⟩]]) =
 (((0 ≤ a ∧ a ≤ (t.length : Int) ∧ t.length ≤ 10000) ∧ (((decide ((pkS t a.toNat) = (97 : Int))) = true →
 (inI64 a →
 (inI64 (a + (1 : Int)) ∧ (inI64 (a + (1 : Int)) →
 ((∃ k1 : Nat, (k1 ≤ nD t a ∧ ((True ∧ (True ∧ (True ∧ ((a + (1 : Int)) = (a + 1) ∧ True)))) ∧ ((t = t ∧ ((a + (1 : Int)) = (a + 1 + (k1 : Int)) ∧ (dp = dp ∧ (bad = bad ∧ True)))) ∧ (((4 : Int) = (nmK t a) ∧ ((0 : Int) = (0 : Int) ∧ (True ∧ True))) ∧ (((0 : Int) = (0 : Int) ∧ ((0 : Int) = (0 : Int) ∧ (True ∧ True))) ∧ True)))))) ∧ (∀ k1 : Nat, (k1 ≤ nD t a →
 ((0 ≤ (a + 1 + (k1 : Int)) ∧ (a + 1 + (k1 : Int)) ≤ (t.length : Int) ∧ t.length ≤ 10000) ∧ (((decide ((48 : Int) ≤ (pkS t (a + 1 + (k1 : Int)).toNat))) = true →
 ((0 ≤ (a + 1 + (k1 : Int)) ∧ (a + 1 + (k1 : Int)) ≤ (t.length : Int) ∧ t.length ≤ 10000) ∧ (((decide ((pkS t (a + 1 + (k1 : Int)).toNat) ≤ (57 : Int))) = true →
 (inI64 (a + 1 + (k1 : Int)) →
 (inI64 ((a + 1 + (k1 : Int)) + (1 : Int)) ∧ (∃ k2 : Nat, (k2 ≤ nD t a ∧ (nD t a - k2 < nD t a - k1 ∧ ((True ∧ (True ∧ (True ∧ ((a + 1) = (a + 1) ∧ True)))) ∧ ((t = t ∧ (((a + 1 + (k1 : Int)) + (1 : Int)) = (a + 1 + (k2 : Int)) ∧ (dp = dp ∧ (bad = bad ∧ True)))) ∧ (((nmK t a) = (nmK t a) ∧ ((0 : Int) = (0 : Int) ∧ (True ∧ True))) ∧ (((0 : Int) = (0 : Int) ∧ ((0 : Int) = (0 : Int) ∧ (True ∧ True))) ∧ True)))))))))) ∧ ((decide ((pkS t (a + 1 + (k1 : Int)).toNat) ≤ (57 : Int))) = false →
 (cutOk (a + 1) (a + 1 + (k1 : Int)) t.length ∧ (t.length ≤ 140737488355328 →
 (inI64 (a + 1 + (k1 : Int)) →
 (inI64 (numV 9 ((t.take (Int.toNat (a + 1 + (k1 : Int)))).drop (Int.toNat (a + 1)))) →
 ((bad = false →
 ((GExpr.mk (nmK t a) (numV 9 ((t.take (Int.toNat (a + 1 + (k1 : Int)))).drop (Int.toNat (a + 1)))) []) = ((nameS t a.toNat dp.toNat).e) ∧ ((t = t ∧ ((a + 1 + (k1 : Int)) = ((nameS t a.toNat dp.toNat).a : Int) ∧ (dp = dp ∧ (!(numB 9 ((t.take (Int.toNat (a + 1 + (k1 : Int)))).drop (Int.toNat (a + 1))))) = ((nameS t a.toNat dp.toNat).bad)))) ∧ True))) ∧ (bad = (!false) →
 ((GExpr.mk (nmK t a) (numV 9 ((t.take (Int.toNat (a + 1 + (k1 : Int)))).drop (Int.toNat (a + 1)))) []) = ((nameS t a.toNat dp.toNat).e) ∧ ((t = t ∧ ((a + 1 + (k1 : Int)) = ((nameS t a.toNat dp.toNat).a : Int) ∧ (dp = dp ∧ true = ((nameS t a.toNat dp.toNat).bad)))) ∧ True)))))))))))) ∧ ((decide ((48 : Int) ≤ (pkS t (a + 1 + (k1 : Int)).toNat))) = (!true) →
 ((false = true →
 (inI64 (a + 1 + (k1 : Int)) →
 (inI64 ((a + 1 + (k1 : Int)) + (1 : Int)) ∧ (∃ k2 : Nat, (k2 ≤ nD t a ∧ (nD t a - k2 < nD t a - k1 ∧ ((True ∧ (True ∧ (True ∧ ((a + 1) = (a + 1) ∧ True)))) ∧ ((t = t ∧ (((a + 1 + (k1 : Int)) + (1 : Int)) = (a + 1 + (k2 : Int)) ∧ (dp = dp ∧ (bad = bad ∧ True)))) ∧ (((nmK t a) = (nmK t a) ∧ ((0 : Int) = (0 : Int) ∧ (True ∧ True))) ∧ (((0 : Int) = (0 : Int) ∧ ((0 : Int) = (0 : Int) ∧ (True ∧ True))) ∧ True)))))))))) ∧ (false = false →
 (cutOk (a + 1) (a + 1 + (k1 : Int)) t.length ∧ (t.length ≤ 140737488355328 →
 (inI64 (a + 1 + (k1 : Int)) →
 (inI64 (numV 9 ((t.take (Int.toNat (a + 1 + (k1 : Int)))).drop (Int.toNat (a + 1)))) →
 ((bad = false →
 ((GExpr.mk (nmK t a) (numV 9 ((t.take (Int.toNat (a + 1 + (k1 : Int)))).drop (Int.toNat (a + 1)))) []) = ((nameS t a.toNat dp.toNat).e) ∧ ((t = t ∧ ((a + 1 + (k1 : Int)) = ((nameS t a.toNat dp.toNat).a : Int) ∧ (dp = dp ∧ (!(numB 9 ((t.take (Int.toNat (a + 1 + (k1 : Int)))).drop (Int.toNat (a + 1))))) = ((nameS t a.toNat dp.toNat).bad)))) ∧ True))) ∧ (bad = (!false) →
 ((GExpr.mk (nmK t a) (numV 9 ((t.take (Int.toNat (a + 1 + (k1 : Int)))).drop (Int.toNat (a + 1)))) []) = ((nameS t a.toNat dp.toNat).e) ∧ ((t = t ∧ ((a + 1 + (k1 : Int)) = ((nameS t a.toNat dp.toNat).a : Int) ∧ (dp = dp ∧ true = ((nameS t a.toNat dp.toNat).bad)))) ∧ True)))))))))))))))))))) ∧ ((decide ((pkS t a.toNat) = (97 : Int))) = false →
 (inI64 a →
 (inI64 (a + (1 : Int)) ∧ (inI64 (a + (1 : Int)) →
 ((∃ k1 : Nat, (k1 ≤ nD t a ∧ ((True ∧ (True ∧ (True ∧ ((a + (1 : Int)) = (a + 1) ∧ True)))) ∧ ((t = t ∧ ((a + (1 : Int)) = (a + 1 + (k1 : Int)) ∧ (dp = dp ∧ (bad = bad ∧ True)))) ∧ (((3 : Int) = (nmK t a) ∧ ((0 : Int) = (0 : Int) ∧ (True ∧ True))) ∧ (((0 : Int) = (0 : Int) ∧ ((0 : Int) = (0 : Int) ∧ (True ∧ True))) ∧ True)))))) ∧ (∀ k1 : Nat, (k1 ≤ nD t a →
 ((0 ≤ (a + 1 + (k1 : Int)) ∧ (a + 1 + (k1 : Int)) ≤ (t.length : Int) ∧ t.length ≤ 10000) ∧ (((decide ((48 : Int) ≤ (pkS t (a + 1 + (k1 : Int)).toNat))) = true →
 ((0 ≤ (a + 1 + (k1 : Int)) ∧ (a + 1 + (k1 : Int)) ≤ (t.length : Int) ∧ t.length ≤ 10000) ∧ (((decide ((pkS t (a + 1 + (k1 : Int)).toNat) ≤ (57 : Int))) = true →
 (inI64 (a + 1 + (k1 : Int)) →
 (inI64 ((a + 1 + (k1 : Int)) + (1 : Int)) ∧ (∃ k2 : Nat, (k2 ≤ nD t a ∧ (nD t a - k2 < nD t a - k1 ∧ ((True ∧ (True ∧ (True ∧ ((a + 1) = (a + 1) ∧ True)))) ∧ ((t = t ∧ (((a + 1 + (k1 : Int)) + (1 : Int)) = (a + 1 + (k2 : Int)) ∧ (dp = dp ∧ (bad = bad ∧ True)))) ∧ (((nmK t a) = (nmK t a) ∧ ((0 : Int) = (0 : Int) ∧ (True ∧ True))) ∧ (((0 : Int) = (0 : Int) ∧ ((0 : Int) = (0 : Int) ∧ (True ∧ True))) ∧ True)))))))))) ∧ ((decide ((pkS t (a + 1 + (k1 : Int)).toNat) ≤ (57 : Int))) = false →
 (cutOk (a + 1) (a + 1 + (k1 : Int)) t.length ∧ (t.length ≤ 140737488355328 →
 (inI64 (a + 1 + (k1 : Int)) →
 (inI64 (numV 9 ((t.take (Int.toNat (a + 1 + (k1 : Int)))).drop (Int.toNat (a + 1)))) →
 ((bad = false →
 ((GExpr.mk (nmK t a) (numV 9 ((t.take (Int.toNat (a + 1 + (k1 : Int)))).drop (Int.toNat (a + 1)))) []) = ((nameS t a.toNat dp.toNat).e) ∧ ((t = t ∧ ((a + 1 + (k1 : Int)) = ((nameS t a.toNat dp.toNat).a : Int) ∧ (dp = dp ∧ (!(numB 9 ((t.take (Int.toNat (a + 1 + (k1 : Int)))).drop (Int.toNat (a + 1))))) = ((nameS t a.toNat dp.toNat).bad)))) ∧ True))) ∧ (bad = (!false) →
 ((GExpr.mk (nmK t a) (numV 9 ((t.take (Int.toNat (a + 1 + (k1 : Int)))).drop (Int.toNat (a + 1)))) []) = ((nameS t a.toNat dp.toNat).e) ∧ ((t = t ∧ ((a + 1 + (k1 : Int)) = ((nameS t a.toNat dp.toNat).a : Int) ∧ (dp = dp ∧ true = ((nameS t a.toNat dp.toNat).bad)))) ∧ True)))))))))))) ∧ ((decide ((48 : Int) ≤ (pkS t (a + 1 + (k1 : Int)).toNat))) = (!true) →
 ((false = true →
 (inI64 (a + 1 + (k1 : Int)) →
 (inI64 ((a + 1 + (k1 : Int)) + (1 : Int)) ∧ (∃ k2 : Nat, (k2 ≤ nD t a ∧ (nD t a - k2 < nD t a - k1 ∧ ((True ∧ (True ∧ (True ∧ ((a + 1) = (a + 1) ∧ True)))) ∧ ((t = t ∧ (((a + 1 + (k1 : Int)) + (1 : Int)) = (a + 1 + (k2 : Int)) ∧ (dp = dp ∧ (bad = bad ∧ True)))) ∧ (((nmK t a) = (nmK t a) ∧ ((0 : Int) = (0 : Int) ∧ (True ∧ True))) ∧ (((0 : Int) = (0 : Int) ∧ ((0 : Int) = (0 : Int) ∧ (True ∧ True))) ∧ True)))))))))) ∧ (false = false →
 (cutOk (a + 1) (a + 1 + (k1 : Int)) t.length ∧ (t.length ≤ 140737488355328 →
 (inI64 (a + 1 + (k1 : Int)) →
 (inI64 (numV 9 ((t.take (Int.toNat (a + 1 + (k1 : Int)))).drop (Int.toNat (a + 1)))) →
 ((bad = false →
 ((GExpr.mk (nmK t a) (numV 9 ((t.take (Int.toNat (a + 1 + (k1 : Int)))).drop (Int.toNat (a + 1)))) []) = ((nameS t a.toNat dp.toNat).e) ∧ ((t = t ∧ ((a + 1 + (k1 : Int)) = ((nameS t a.toNat dp.toNat).a : Int) ∧ (dp = dp ∧ (!(numB 9 ((t.take (Int.toNat (a + 1 + (k1 : Int)))).drop (Int.toNat (a + 1))))) = ((nameS t a.toNat dp.toNat).bad)))) ∧ True))) ∧ (bad = (!false) →
 ((GExpr.mk (nmK t a) (numV 9 ((t.take (Int.toNat (a + 1 + (k1 : Int)))).drop (Int.toNat (a + 1)))) []) = ((nameS t a.toNat dp.toNat).e) ∧ ((t = t ∧ ((a + 1 + (k1 : Int)) = ((nameS t a.toNat dp.toNat).a : Int) ∧ (dp = dp ∧ true = ((nameS t a.toNat dp.toNat).bad)))) ∧ True))))))))))))))))))))))) := by kernel_rfl
theorem oks_spec_l01Reader_name (hE : AllGood [k_spec_l01Number]) (hO : AllO []) (hM : AllM []) (hS : AllS [ks_spec_l01Reader_peek]) : SCt.Good ks_spec_l01Reader_name := by
 refine ⟨fnOk_of at_spec_l01Reader_name rfl (by decide), ?_⟩
 show ∀ (t : List UInt8) (a : Int) (dp : Int) (bad : Bool), (0 ≤ a ∧ a ≤ (t.length : Int) ∧ t.length ≤ 10000 ∧ 0 ≤ dp ∧ (pkS t a.toNat = 116 ∨ pkS t a.toNat = 97) ∧ bad = false) → OkSt prog n_spec_l01Reader_name [[.d .str, .d (.int .i64), .d (.int .i64), .d .bool]] [.box 0] [[⟨.str, t⟩, ⟨(.int .i64), a⟩, ⟨(.int .i64), dp⟩, ⟨.bool, bad⟩]] [⟨(.st .expr), (nameS t a.toNat dp.toNat).e⟩] [[⟨.str, t⟩, ⟨(.int .i64), ((nameS t a.toNat dp.toNat).a : Int)⟩, ⟨(.int .i64), dp⟩, ⟨.bool, (nameS t a.toNat dp.toNat).bad⟩]]
 intro t a dp bad hp
 refine st_of_awp (own := []) (wr := []) (cl := []) (ro := []) hE hO hM hS at_spec_l01Reader_name body_spec_l01Reader_name (ls_spec_l01Reader_name t a dp bad) rfl rfl ?_
 rewrite [vcs_spec_l01Reader_name t a dp bad]
 obtain ⟨h0, h1, h2, h3, h4, h5⟩ := hp
 subst h5
 have l0 := pkS_lt t a.toNat (by omega)
 obtain ⟨q1, q2, q3, q4⟩ := name_eq t a dp h0 h3
 have z := fun k h => pk_nD t a k h0 h
 have b := nD_le t a h0 (by omega)
 simp only [q1, q2, q4, cutOk, decide_true, decide_false, Bool.not_true, Bool.not_false, Bool.true_eq_false, Bool.false_eq_true, not_true_eq_false, not_false_eq_true, false_implies, true_implies, and_true, true_and, Int.toNat_natCast, inI64, e_expr_eq]
 repeat' (first | intro _ | apply And.intro)
 all_goals (try simp only [decide_eq_true_eq, decide_eq_false_iff_not] at *)
 all_goals first | exact True.intro | omega | with_reducible rfl | exact ⟨0, Nat.zero_le _, by omega, (nmK_t t a (by omega)).symm⟩ | exact ⟨0, Nat.zero_le _, by omega, (nmK_f t a (by omega)).symm⟩ | (rename_i k1 _ _ _ _; have g := z k1 (by assumption); first | omega | exact ⟨k1 + 1, by omega, by omega, by omega⟩ | rw [nm_cut t a k1 h0 (by omega)]) | (rename_i k1 _ _ _ _ _; have g := z k1 (by assumption); first | omega | exact ⟨k1 + 1, by omega, by omega, by omega⟩ | rw [nm_cut t a k1 h0 (by omega)]) | (rename_i k1 _ _ _ _ _ _; have g := z k1 (by assumption); first | omega | exact ⟨k1 + 1, by omega, by omega, by omega⟩ | rw [nm_cut t a k1 h0 (by omega)]) | (rename_i k1 _ _ _ _ _ _ _; have g := z k1 (by assumption); first | omega | exact ⟨k1 + 1, by omega, by omega, by omega⟩ | rw [nm_cut t a k1 h0 (by omega)])
theorem sgood_spec_l01Reader_name : SCt.Good ks_spec_l01Reader_name := oks_spec_l01Reader_name ⟨good_spec_l01Number, trivial⟩ trivial trivial ⟨sgood_spec_l01Reader_peek, trivial⟩
def ksn_spec_l01Reader_inner (n : Nat) : SCt := ⟨n_spec_l01Reader_inner, [[.d .str, .d (.int .i64), .d (.int .i64), .d .bool]], [.b 0], [[.str, (.int .i64), (.int .i64), .bool]], fun (t : List UInt8) (a : Int) (dp : Int) (bad : Bool) => ⟨(some (3 * (101 - dp).toNat + 2 < n ∧ 0 ≤ a ∧ a ≤ (t.length : Int) ∧ t.length ≤ 10000 ∧ 0 ≤ dp ∧ dp ≤ 100 ∧ bad = false), [⟨(.st .expr), (inE t a dp).e⟩], [[⟨.str, t⟩, ⟨(.int .i64), ((inE t a dp).a : Int)⟩, ⟨(.int .i64), ((inE t a dp).dp : Int)⟩, ⟨.bool, (inE t a dp).bad⟩]])⟩⟩
def ksn_spec_l01Reader_pair (n : Nat) : SCt := ⟨n_spec_l01Reader_pair, [[.d .str, .d (.int .i64), .d (.int .i64), .d .bool]], [.b 0], [[.str, (.int .i64), (.int .i64), .bool]], fun (t : List UInt8) (a : Int) (dp : Int) (bad : Bool) => ⟨(some (3 * (101 - dp).toNat + 1 < n ∧ 0 ≤ a ∧ a ≤ (t.length : Int) ∧ t.length ≤ 10000 ∧ 0 ≤ dp ∧ dp ≤ 100 ∧ bad = false ∧ pkS t a.toNat = 40), [⟨(.st .expr), (inE t a dp).e⟩], [[⟨.str, t⟩, ⟨(.int .i64), ((inE t a dp).a : Int)⟩, ⟨(.int .i64), ((inE t a dp).dp : Int)⟩, ⟨.bool, (inE t a dp).bad⟩]])⟩⟩
def ksn_spec_l01Reader_expr (n : Nat) : SCt := ⟨n_spec_l01Reader_expr, [[.d .str, .d (.int .i64), .d (.int .i64), .d .bool]], [.b 0], [[.str, (.int .i64), (.int .i64), .bool]], fun (t : List UInt8) (a : Int) (dp : Int) (bad : Bool) => ⟨(some (3 * (101 - dp).toNat < n ∧ 0 ≤ a ∧ a ≤ (t.length : Int) ∧ t.length ≤ 10000 ∧ 0 ≤ dp ∧ dp ≤ 1000), [⟨(.st .expr), (exE t a dp bad).e⟩], [[⟨.str, t⟩, ⟨(.int .i64), ((exE t a dp bad).a : Int)⟩, ⟨(.int .i64), ((exE t a dp bad).dp : Int)⟩, ⟨.bool, (exE t a dp bad).bad⟩]])⟩⟩
def ks_spec_l01Reader_expr : SCt := ⟨n_spec_l01Reader_expr, [[.d .str, .d (.int .i64), .d (.int .i64), .d .bool]], [.b 0], [[.str, (.int .i64), (.int .i64), .bool]], fun (t : List UInt8) (a : Int) (dp : Int) (bad : Bool) => ⟨(some (0 ≤ a ∧ a ≤ (t.length : Int) ∧ t.length ≤ 10000 ∧ 0 ≤ dp ∧ dp ≤ 1000), [⟨(.st .expr), (exE t a dp bad).e⟩], [[⟨.str, t⟩, ⟨(.int .i64), ((exE t a dp bad).a : Int)⟩, ⟨(.int .i64), ((exE t a dp bad).dp : Int)⟩, ⟨.bool, (exE t a dp bad).bad⟩]])⟩⟩
def ls_spec_l01Reader_inner (t : List UInt8) (a : Int) (dp : Int) (bad : Bool) : Nat → LoopInv := fun _ => .none
theorem vcs_spec_l01Reader_inner (n : Nat) (t : List UInt8) (a : Int) (dp : Int) (bad : Bool) : awp (envO [] [] [] [30, 57, 66, 71] [] [] [] [ks_spec_l01Reader_peek, ks_spec_l01Reader_name, ksn_spec_l01Reader_pair n, ksn_spec_l01Reader_inner n]) (bodyOf f_spec_l01Reader_inner) (ls_spec_l01Reader_inner t a dp bad) 0 (stPost (envO [] [] [] [30, 57, 66, 71] [] [] [] [ks_spec_l01Reader_peek, ks_spec_l01Reader_name, ksn_spec_l01Reader_pair n, ksn_spec_l01Reader_inner n]) f_spec_l01Reader_inner [[.d .str, .d (.int .i64), .d (.int .i64), .d .bool]] fun r ds => areEq r [⟨(.st .expr), (inE t a dp).e⟩] ∧ areEqs ds [[⟨.str, t⟩, ⟨(.int .i64), ((inE t a dp).a : Int)⟩, ⟨(.int .i64), ((inE t a dp).dp : Int)⟩, ⟨.bool, (inE t a dp).bad⟩]]) (startSt f_spec_l01Reader_inner [.box 0] [[.d .str, .d (.int .i64), .d (.int .i64), .d .bool]] [[⟨.str, t⟩, ⟨(.int .i64), a⟩, ⟨(.int .i64), dp⟩, ⟨.bool, bad⟩]]) =
 (((0 ≤ a ∧ a ≤ (t.length : Int) ∧ t.length ≤ 10000) ∧ (((decide ((pkS t a.toNat) = (48 : Int))) = true →
 (inI64 a →
 (inI64 (a + (1 : Int)) ∧ ((GExpr.mk (1 : Int) (0 : Int) []) = ((inE t a dp).e) ∧ ((t = t ∧ ((a + (1 : Int)) = ((inE t a dp).a : Int) ∧ (dp = ((inE t a dp).dp : Int) ∧ bad = ((inE t a dp).bad)))) ∧ True))))) ∧ ((decide ((pkS t a.toNat) = (48 : Int))) = false →
 (((decide ((pkS t a.toNat) = (49 : Int))) = true →
 (inI64 a →
 (inI64 (a + (1 : Int)) ∧ ((GExpr.mk (2 : Int) (0 : Int) []) = ((inE t a dp).e) ∧ ((t = t ∧ ((a + (1 : Int)) = ((inE t a dp).a : Int) ∧ (dp = ((inE t a dp).dp : Int) ∧ bad = ((inE t a dp).bad)))) ∧ True))))) ∧ ((decide ((pkS t a.toNat) = (49 : Int))) = false →
 (((decide ((pkS t a.toNat) = (116 : Int))) = true →
 (((decide ((pkS t a.toNat) = (116 : Int))) = true →
 ((0 ≤ a ∧ a ≤ (t.length : Int) ∧ t.length ≤ 10000 ∧ 0 ≤ dp ∧ (pkS t a.toNat = 116 ∨ pkS t a.toNat = 97) ∧ bad = false) ∧ ((e_expr ((nameS t a.toNat dp.toNat).e)) = ((inE t a dp).e) ∧ ((t = t ∧ ((((nameS t a.toNat dp.toNat).a : Int)) = ((inE t a dp).a : Int) ∧ (dp = ((inE t a dp).dp : Int) ∧ ((nameS t a.toNat dp.toNat).bad) = ((inE t a dp).bad)))) ∧ True)))) ∧ ((decide ((pkS t a.toNat) = (116 : Int))) = false →
 (((decide ((pkS t a.toNat) = (126 : Int))) = true →
 (inI64 a →
 (inI64 (a + (1 : Int)) ∧ (inI64 dp →
 (inI64 (dp + (1 : Int)) ∧ (inI64 (dp + (1 : Int)) →
 (((decide ((100 : Int) < (dp + (1 : Int)))) = true →
 (zE = ((inE t a dp).e) ∧ ((t = t ∧ ((a + (1 : Int)) = ((inE t a dp).a : Int) ∧ ((dp + (1 : Int)) = ((inE t a dp).dp : Int) ∧ true = ((inE t a dp).bad)))) ∧ True))) ∧ ((decide ((100 : Int) < (dp + (1 : Int)))) = false →
 ((3 * (101 - (dp + (1 : Int))).toNat + 2 < n ∧ 0 ≤ (a + (1 : Int)) ∧ (a + (1 : Int)) ≤ (t.length : Int) ∧ t.length ≤ 10000 ∧ 0 ≤ (dp + (1 : Int)) ∧ (dp + (1 : Int)) ≤ 100 ∧ bad = false) ∧ (inI64 (((inE t (a + (1 : Int)) (dp + (1 : Int))).dp : Int)) →
 (inI64 ((((inE t (a + (1 : Int)) (dp + (1 : Int))).dp : Int)) - (1 : Int)) ∧ ((GExpr.mk (5 : Int) (0 : Int) ([(e_expr ((inE t (a + (1 : Int)) (dp + (1 : Int))).e))])) = ((inE t a dp).e) ∧ ((t = t ∧ ((((inE t (a + (1 : Int)) (dp + (1 : Int))).a : Int)) = ((inE t a dp).a : Int) ∧ (((((inE t (a + (1 : Int)) (dp + (1 : Int))).dp : Int)) - (1 : Int)) = ((inE t a dp).dp : Int) ∧ ((inE t (a + (1 : Int)) (dp + (1 : Int))).bad) = ((inE t a dp).bad)))) ∧ True))))))))))))) ∧ ((decide ((pkS t a.toNat) = (126 : Int))) = false →
 (((decide ((pkS t a.toNat) = (40 : Int))) = true →
 ((3 * (101 - dp).toNat + 1 < n ∧ 0 ≤ a ∧ a ≤ (t.length : Int) ∧ t.length ≤ 10000 ∧ 0 ≤ dp ∧ dp ≤ 100 ∧ bad = false ∧ pkS t a.toNat = 40) ∧ ((e_expr ((inE t a dp).e)) = ((inE t a dp).e) ∧ ((t = t ∧ ((((inE t a dp).a : Int)) = ((inE t a dp).a : Int) ∧ ((((inE t a dp).dp : Int)) = ((inE t a dp).dp : Int) ∧ ((inE t a dp).bad) = ((inE t a dp).bad)))) ∧ True)))) ∧ ((decide ((pkS t a.toNat) = (40 : Int))) = false →
 (zE = ((inE t a dp).e) ∧ ((t = t ∧ (a = ((inE t a dp).a : Int) ∧ (dp = ((inE t a dp).dp : Int) ∧ true = ((inE t a dp).bad)))) ∧ True))))))))) ∧ ((decide ((pkS t a.toNat) = (116 : Int))) = false →
 (((decide ((pkS t a.toNat) = (97 : Int))) = true →
 ((0 ≤ a ∧ a ≤ (t.length : Int) ∧ t.length ≤ 10000 ∧ 0 ≤ dp ∧ (pkS t a.toNat = 116 ∨ pkS t a.toNat = 97) ∧ bad = false) ∧ ((e_expr ((nameS t a.toNat dp.toNat).e)) = ((inE t a dp).e) ∧ ((t = t ∧ ((((nameS t a.toNat dp.toNat).a : Int)) = ((inE t a dp).a : Int) ∧ (dp = ((inE t a dp).dp : Int) ∧ ((nameS t a.toNat dp.toNat).bad) = ((inE t a dp).bad)))) ∧ True)))) ∧ ((decide ((pkS t a.toNat) = (97 : Int))) = false →
 (((decide ((pkS t a.toNat) = (126 : Int))) = true →
 (inI64 a →
 (inI64 (a + (1 : Int)) ∧ (inI64 dp →
 (inI64 (dp + (1 : Int)) ∧ (inI64 (dp + (1 : Int)) →
 (((decide ((100 : Int) < (dp + (1 : Int)))) = true →
 (zE = ((inE t a dp).e) ∧ ((t = t ∧ ((a + (1 : Int)) = ((inE t a dp).a : Int) ∧ ((dp + (1 : Int)) = ((inE t a dp).dp : Int) ∧ true = ((inE t a dp).bad)))) ∧ True))) ∧ ((decide ((100 : Int) < (dp + (1 : Int)))) = false →
 ((3 * (101 - (dp + (1 : Int))).toNat + 2 < n ∧ 0 ≤ (a + (1 : Int)) ∧ (a + (1 : Int)) ≤ (t.length : Int) ∧ t.length ≤ 10000 ∧ 0 ≤ (dp + (1 : Int)) ∧ (dp + (1 : Int)) ≤ 100 ∧ bad = false) ∧ (inI64 (((inE t (a + (1 : Int)) (dp + (1 : Int))).dp : Int)) →
 (inI64 ((((inE t (a + (1 : Int)) (dp + (1 : Int))).dp : Int)) - (1 : Int)) ∧ ((GExpr.mk (5 : Int) (0 : Int) ([(e_expr ((inE t (a + (1 : Int)) (dp + (1 : Int))).e))])) = ((inE t a dp).e) ∧ ((t = t ∧ ((((inE t (a + (1 : Int)) (dp + (1 : Int))).a : Int)) = ((inE t a dp).a : Int) ∧ (((((inE t (a + (1 : Int)) (dp + (1 : Int))).dp : Int)) - (1 : Int)) = ((inE t a dp).dp : Int) ∧ ((inE t (a + (1 : Int)) (dp + (1 : Int))).bad) = ((inE t a dp).bad)))) ∧ True))))))))))))) ∧ ((decide ((pkS t a.toNat) = (126 : Int))) = false →
 (((decide ((pkS t a.toNat) = (40 : Int))) = true →
 ((3 * (101 - dp).toNat + 1 < n ∧ 0 ≤ a ∧ a ≤ (t.length : Int) ∧ t.length ≤ 10000 ∧ 0 ≤ dp ∧ dp ≤ 100 ∧ bad = false ∧ pkS t a.toNat = 40) ∧ ((e_expr ((inE t a dp).e)) = ((inE t a dp).e) ∧ ((t = t ∧ ((((inE t a dp).a : Int)) = ((inE t a dp).a : Int) ∧ ((((inE t a dp).dp : Int)) = ((inE t a dp).dp : Int) ∧ ((inE t a dp).bad) = ((inE t a dp).bad)))) ∧ True)))) ∧ ((decide ((pkS t a.toNat) = (40 : Int))) = false →
 (zE = ((inE t a dp).e) ∧ ((t = t ∧ (a = ((inE t a dp).a : Int) ∧ (dp = ((inE t a dp).dp : Int) ∧ true = ((inE t a dp).bad)))) ∧ True)))))))))))))))) := by kernel_rfl
theorem oks_spec_l01Reader_inner (n : Nat) (hE : AllGood []) (hO : AllO []) (hM : AllM []) (hS : AllS [ks_spec_l01Reader_peek, ks_spec_l01Reader_name, ksn_spec_l01Reader_pair n, ksn_spec_l01Reader_inner n]) : SCt.Good (ksn_spec_l01Reader_inner (n + 1)) := by
 refine ⟨fnOk_of at_spec_l01Reader_inner rfl (by decide), ?_⟩
 show ∀ (t : List UInt8) (a : Int) (dp : Int) (bad : Bool), (3 * (101 - dp).toNat + 2 < n + 1 ∧ 0 ≤ a ∧ a ≤ (t.length : Int) ∧ t.length ≤ 10000 ∧ 0 ≤ dp ∧ dp ≤ 100 ∧ bad = false) → OkSt prog n_spec_l01Reader_inner [[.d .str, .d (.int .i64), .d (.int .i64), .d .bool]] [.box 0] [[⟨.str, t⟩, ⟨(.int .i64), a⟩, ⟨(.int .i64), dp⟩, ⟨.bool, bad⟩]] [⟨(.st .expr), (inE t a dp).e⟩] [[⟨.str, t⟩, ⟨(.int .i64), ((inE t a dp).a : Int)⟩, ⟨(.int .i64), ((inE t a dp).dp : Int)⟩, ⟨.bool, (inE t a dp).bad⟩]]
 intro t a dp bad hp
 refine st_of_awp (own := [30, 57, 66, 71]) (wr := []) (cl := []) (ro := []) hE hO hM hS at_spec_l01Reader_inner body_spec_l01Reader_inner (ls_spec_l01Reader_inner t a dp bad) rfl rfl ?_
 rewrite [vcs_spec_l01Reader_inner n t a dp bad]
 obtain ⟨hm, h0, h1, h2, h3, h4, h5⟩ := hp
 subst h5
 by_cases e48 : pkS t a.toNat = 48
 ·have l0 := pkS_lt t a.toNat (by rw [e48]; decide)
  obtain ⟨q1, q2, q3, q4⟩ := in48 t a dp h0 h3 e48
  simp only [decide_eq_true e48, (decide_eq_false (by omega) : decide (pkS t a.toNat = (49 : Int)) = false), (decide_eq_false (by omega) : decide (pkS t a.toNat = (116 : Int)) = false), (decide_eq_false (by omega) : decide (pkS t a.toNat = (97 : Int)) = false), (decide_eq_false (by omega) : decide (pkS t a.toNat = (126 : Int)) = false), (decide_eq_false (by omega) : decide (pkS t a.toNat = (40 : Int)) = false), q1, q2, q3, q4, decide_true, decide_false, Bool.not_true, Bool.not_false, Bool.true_eq_false, Bool.false_eq_true, not_true_eq_false, not_false_eq_true, false_implies, true_implies, and_true, true_and, Int.toNat_natCast, inI64, e_expr_eq]
  repeat' (first | intro _ | apply And.intro)
  all_goals first | exact True.intro | omega | with_reducible rfl
 ·by_cases e49 : pkS t a.toNat = 49
  ·have l0 := pkS_lt t a.toNat (by rw [e49]; decide)
   obtain ⟨q1, q2, q3, q4⟩ := in49 t a dp h0 h3 e49
   simp only [(decide_eq_false (by omega) : decide (pkS t a.toNat = (48 : Int)) = false), decide_eq_true e49, (decide_eq_false (by omega) : decide (pkS t a.toNat = (116 : Int)) = false), (decide_eq_false (by omega) : decide (pkS t a.toNat = (97 : Int)) = false), (decide_eq_false (by omega) : decide (pkS t a.toNat = (126 : Int)) = false), (decide_eq_false (by omega) : decide (pkS t a.toNat = (40 : Int)) = false), q1, q2, q3, q4, decide_true, decide_false, Bool.not_true, Bool.not_false, Bool.true_eq_false, Bool.false_eq_true, not_true_eq_false, not_false_eq_true, false_implies, true_implies, and_true, true_and, Int.toNat_natCast, inI64, e_expr_eq]
   repeat' (first | intro _ | apply And.intro)
   all_goals first | exact True.intro | omega | with_reducible rfl
  ·by_cases e116 : pkS t a.toNat = 116
   ·obtain ⟨q1, q2, q3, q4⟩ := name_eq t a dp h0 h3
    simp only [in_name t a dp (.inl e116), (decide_eq_false (by omega) : decide (pkS t a.toNat = (48 : Int)) = false), (decide_eq_false (by omega) : decide (pkS t a.toNat = (49 : Int)) = false), decide_eq_true e116, (decide_eq_false (by omega) : decide (pkS t a.toNat = (97 : Int)) = false), (decide_eq_false (by omega) : decide (pkS t a.toNat = (126 : Int)) = false), (decide_eq_false (by omega) : decide (pkS t a.toNat = (40 : Int)) = false), q3, decide_true, decide_false, Bool.not_true, Bool.not_false, Bool.true_eq_false, Bool.false_eq_true, not_true_eq_false, not_false_eq_true, false_implies, true_implies, and_true, true_and, Int.toNat_natCast, inI64, e_expr_eq]
    repeat' (first | intro _ | apply And.intro)
    all_goals first | exact True.intro | omega | with_reducible rfl
   ·by_cases e97 : pkS t a.toNat = 97
    ·obtain ⟨q1, q2, q3, q4⟩ := name_eq t a dp h0 h3
     simp only [in_name t a dp (.inr e97), (decide_eq_false (by omega) : decide (pkS t a.toNat = (48 : Int)) = false), (decide_eq_false (by omega) : decide (pkS t a.toNat = (49 : Int)) = false), (decide_eq_false (by omega) : decide (pkS t a.toNat = (116 : Int)) = false), decide_eq_true e97, (decide_eq_false (by omega) : decide (pkS t a.toNat = (126 : Int)) = false), (decide_eq_false (by omega) : decide (pkS t a.toNat = (40 : Int)) = false), q3, decide_true, decide_false, Bool.not_true, Bool.not_false, Bool.true_eq_false, Bool.false_eq_true, not_true_eq_false, not_false_eq_true, false_implies, true_implies, and_true, true_and, Int.toNat_natCast, inI64, e_expr_eq]
     repeat' (first | intro _ | apply And.intro)
     all_goals first | exact True.intro | omega | with_reducible rfl
    ·by_cases e126 : pkS t a.toNat = 126
     ·have l0 := pkS_lt t a.toNat (by rw [e126]; decide)
      by_cases hd : 100 < dp + 1
      ·obtain ⟨q1, q2, q3, q4⟩ := in_deep t a dp h0 h3 hd e126
       simp only [hd, (decide_eq_false (by omega) : decide (pkS t a.toNat = (48 : Int)) = false), (decide_eq_false (by omega) : decide (pkS t a.toNat = (49 : Int)) = false), (decide_eq_false (by omega) : decide (pkS t a.toNat = (116 : Int)) = false), (decide_eq_false (by omega) : decide (pkS t a.toNat = (97 : Int)) = false), decide_eq_true e126, (decide_eq_false (by omega) : decide (pkS t a.toNat = (40 : Int)) = false), q1, q2, q3, q4, decide_true, decide_false, Bool.not_true, Bool.not_false, Bool.true_eq_false, Bool.false_eq_true, not_true_eq_false, not_false_eq_true, false_implies, true_implies, and_true, true_and, Int.toNat_natCast, inI64, e_expr_eq]
       repeat' (first | intro _ | apply And.intro)
       all_goals first | exact True.intro | omega | with_reducible rfl
      ·obtain ⟨q1, q2, q3, q4⟩ := in_not t a dp h0 (by omega) h3 hd e126
       have b1 := in_bnd t (a + 1) (dp + 1) (by omega) (by omega) (by omega) (by omega)
       simp only [hd, (decide_eq_false (by omega) : decide (pkS t a.toNat = (48 : Int)) = false), (decide_eq_false (by omega) : decide (pkS t a.toNat = (49 : Int)) = false), (decide_eq_false (by omega) : decide (pkS t a.toNat = (116 : Int)) = false), (decide_eq_false (by omega) : decide (pkS t a.toNat = (97 : Int)) = false), decide_eq_true e126, (decide_eq_false (by omega) : decide (pkS t a.toNat = (40 : Int)) = false), q1, q2, q3, q4, decide_true, decide_false, Bool.not_true, Bool.not_false, Bool.true_eq_false, Bool.false_eq_true, not_true_eq_false, not_false_eq_true, false_implies, true_implies, and_true, true_and, Int.toNat_natCast, inI64, e_expr_eq]
       repeat' (first | intro _ | apply And.intro)
       all_goals first | exact True.intro | omega | with_reducible rfl
     ·by_cases e40 : pkS t a.toNat = 40
      ·simp only [(decide_eq_false (by omega) : decide (pkS t a.toNat = (48 : Int)) = false), (decide_eq_false (by omega) : decide (pkS t a.toNat = (49 : Int)) = false), (decide_eq_false (by omega) : decide (pkS t a.toNat = (116 : Int)) = false), (decide_eq_false (by omega) : decide (pkS t a.toNat = (97 : Int)) = false), (decide_eq_false (by omega) : decide (pkS t a.toNat = (126 : Int)) = false), decide_eq_true e40, decide_true, decide_false, Bool.not_true, Bool.not_false, Bool.true_eq_false, Bool.false_eq_true, not_true_eq_false, not_false_eq_true, false_implies, true_implies, and_true, true_and, Int.toNat_natCast, inI64, e_expr_eq]
       repeat' (first | intro _ | apply And.intro)
       all_goals first | exact True.intro | omega | with_reducible rfl
      ·obtain ⟨q1, q2, q3, q4⟩ := in_else t a dp h0 h3 ⟨e48, e49, e116, e97, e126, e40⟩
       simp only [(decide_eq_false (by omega) : decide (pkS t a.toNat = (48 : Int)) = false), (decide_eq_false (by omega) : decide (pkS t a.toNat = (49 : Int)) = false), (decide_eq_false (by omega) : decide (pkS t a.toNat = (116 : Int)) = false), (decide_eq_false (by omega) : decide (pkS t a.toNat = (97 : Int)) = false), (decide_eq_false (by omega) : decide (pkS t a.toNat = (126 : Int)) = false), (decide_eq_false (by omega) : decide (pkS t a.toNat = (40 : Int)) = false), q1, q2, q3, q4, decide_true, decide_false, Bool.not_true, Bool.not_false, Bool.true_eq_false, Bool.false_eq_true, not_true_eq_false, not_false_eq_true, false_implies, true_implies, and_true, true_and, Int.toNat_natCast, inI64, e_expr_eq]
       repeat' (first | intro _ | apply And.intro)
       all_goals first | exact True.intro | omega | with_reducible rfl
def ls_spec_l01Reader_pair (t : List UInt8) (a : Int) (dp : Int) (bad : Bool) : Nat → LoopInv := fun _ => .none
theorem vcs_spec_l01Reader_pair (n : Nat) (t : List UInt8) (a : Int) (dp : Int) (bad : Bool) : awp (envO [] [] [] [9, 27, 32] [] [] [] [ks_spec_l01Reader_peek, ks_spec_l01Reader_take, ksn_spec_l01Reader_expr n]) (bodyOf f_spec_l01Reader_pair) (ls_spec_l01Reader_pair t a dp bad) 0 (stPost (envO [] [] [] [9, 27, 32] [] [] [] [ks_spec_l01Reader_peek, ks_spec_l01Reader_take, ksn_spec_l01Reader_expr n]) f_spec_l01Reader_pair [[.d .str, .d (.int .i64), .d (.int .i64), .d .bool]] fun r ds => areEq r [⟨(.st .expr), (inE t a dp).e⟩] ∧ areEqs ds [[⟨.str, t⟩, ⟨(.int .i64), ((inE t a dp).a : Int)⟩, ⟨(.int .i64), ((inE t a dp).dp : Int)⟩, ⟨.bool, (inE t a dp).bad⟩]]) (startSt f_spec_l01Reader_pair [.box 0] [[.d .str, .d (.int .i64), .d (.int .i64), .d .bool]] [[⟨.str, t⟩, ⟨(.int .i64), a⟩, ⟨(.int .i64), dp⟩, ⟨.bool, bad⟩]]) =
 (((0 ≤ a ∧ a ≤ (t.length : Int) ∧ t.length ≤ 10000) ∧ ((3 * (101 - dp).toNat < n ∧ 0 ≤ (((tkA t a.toNat (40 : Int) : Nat) : Int)) ∧ (((tkA t a.toNat (40 : Int) : Nat) : Int)) ≤ (t.length : Int) ∧ t.length ≤ 10000 ∧ 0 ≤ dp ∧ dp ≤ 1000) ∧ ((0 ≤ (((exE t (((tkA t a.toNat (40 : Int) : Nat) : Int)) dp (tkX t a.toNat (40 : Int) bad)).a : Int)) ∧ (((exE t (((tkA t a.toNat (40 : Int) : Nat) : Int)) dp (tkX t a.toNat (40 : Int) bad)).a : Int)) ≤ (t.length : Int) ∧ t.length ≤ 10000) ∧ ((0 ≤ (((tkA t (((exE t (((tkA t a.toNat (40 : Int) : Nat) : Int)) dp (tkX t a.toNat (40 : Int) bad)).a : Int)).toNat (32 : Int) : Nat) : Int)) ∧ (((tkA t (((exE t (((tkA t a.toNat (40 : Int) : Nat) : Int)) dp (tkX t a.toNat (40 : Int) bad)).a : Int)).toNat (32 : Int) : Nat) : Int)) ≤ (t.length : Int) ∧ t.length ≤ 10000) ∧ (((decide ((pkS t (((tkA t (((exE t (((tkA t a.toNat (40 : Int) : Nat) : Int)) dp (tkX t a.toNat (40 : Int) bad)).a : Int)).toNat (32 : Int) : Nat) : Int)).toNat) = (43 : Int))) = true →
 (inI64 (((tkA t (((exE t (((tkA t a.toNat (40 : Int) : Nat) : Int)) dp (tkX t a.toNat (40 : Int) bad)).a : Int)).toNat (32 : Int) : Nat) : Int)) →
 (inI64 ((((tkA t (((exE t (((tkA t a.toNat (40 : Int) : Nat) : Int)) dp (tkX t a.toNat (40 : Int) bad)).a : Int)).toNat (32 : Int) : Nat) : Int)) + (1 : Int)) ∧ ((0 ≤ ((((tkA t (((exE t (((tkA t a.toNat (40 : Int) : Nat) : Int)) dp (tkX t a.toNat (40 : Int) bad)).a : Int)).toNat (32 : Int) : Nat) : Int)) + (1 : Int)) ∧ ((((tkA t (((exE t (((tkA t a.toNat (40 : Int) : Nat) : Int)) dp (tkX t a.toNat (40 : Int) bad)).a : Int)).toNat (32 : Int) : Nat) : Int)) + (1 : Int)) ≤ (t.length : Int) ∧ t.length ≤ 10000) ∧ ((3 * (101 - (((exE t (((tkA t a.toNat (40 : Int) : Nat) : Int)) dp (tkX t a.toNat (40 : Int) bad)).dp : Int))).toNat < n ∧ 0 ≤ (((tkA t ((((tkA t (((exE t (((tkA t a.toNat (40 : Int) : Nat) : Int)) dp (tkX t a.toNat (40 : Int) bad)).a : Int)).toNat (32 : Int) : Nat) : Int)) + (1 : Int)).toNat (32 : Int) : Nat) : Int)) ∧ (((tkA t ((((tkA t (((exE t (((tkA t a.toNat (40 : Int) : Nat) : Int)) dp (tkX t a.toNat (40 : Int) bad)).a : Int)).toNat (32 : Int) : Nat) : Int)) + (1 : Int)).toNat (32 : Int) : Nat) : Int)) ≤ (t.length : Int) ∧ t.length ≤ 10000 ∧ 0 ≤ (((exE t (((tkA t a.toNat (40 : Int) : Nat) : Int)) dp (tkX t a.toNat (40 : Int) bad)).dp : Int)) ∧ (((exE t (((tkA t a.toNat (40 : Int) : Nat) : Int)) dp (tkX t a.toNat (40 : Int) bad)).dp : Int)) ≤ 1000) ∧ ((0 ≤ (((exE t (((tkA t ((((tkA t (((exE t (((tkA t a.toNat (40 : Int) : Nat) : Int)) dp (tkX t a.toNat (40 : Int) bad)).a : Int)).toNat (32 : Int) : Nat) : Int)) + (1 : Int)).toNat (32 : Int) : Nat) : Int)) (((exE t (((tkA t a.toNat (40 : Int) : Nat) : Int)) dp (tkX t a.toNat (40 : Int) bad)).dp : Int)) (tkX t ((((tkA t (((exE t (((tkA t a.toNat (40 : Int) : Nat) : Int)) dp (tkX t a.toNat (40 : Int) bad)).a : Int)).toNat (32 : Int) : Nat) : Int)) + (1 : Int)).toNat (32 : Int) (tkX t (((exE t (((tkA t a.toNat (40 : Int) : Nat) : Int)) dp (tkX t a.toNat (40 : Int) bad)).a : Int)).toNat (32 : Int) ((exE t (((tkA t a.toNat (40 : Int) : Nat) : Int)) dp (tkX t a.toNat (40 : Int) bad)).bad)))).a : Int)) ∧ (((exE t (((tkA t ((((tkA t (((exE t (((tkA t a.toNat (40 : Int) : Nat) : Int)) dp (tkX t a.toNat (40 : Int) bad)).a : Int)).toNat (32 : Int) : Nat) : Int)) + (1 : Int)).toNat (32 : Int) : Nat) : Int)) (((exE t (((tkA t a.toNat (40 : Int) : Nat) : Int)) dp (tkX t a.toNat (40 : Int) bad)).dp : Int)) (tkX t ((((tkA t (((exE t (((tkA t a.toNat (40 : Int) : Nat) : Int)) dp (tkX t a.toNat (40 : Int) bad)).a : Int)).toNat (32 : Int) : Nat) : Int)) + (1 : Int)).toNat (32 : Int) (tkX t (((exE t (((tkA t a.toNat (40 : Int) : Nat) : Int)) dp (tkX t a.toNat (40 : Int) bad)).a : Int)).toNat (32 : Int) ((exE t (((tkA t a.toNat (40 : Int) : Nat) : Int)) dp (tkX t a.toNat (40 : Int) bad)).bad)))).a : Int)) ≤ (t.length : Int) ∧ t.length ≤ 10000) ∧ ((GExpr.mk (6 : Int) (0 : Int) ([(e_expr ((exE t (((tkA t a.toNat (40 : Int) : Nat) : Int)) dp (tkX t a.toNat (40 : Int) bad)).e)), (e_expr ((exE t (((tkA t ((((tkA t (((exE t (((tkA t a.toNat (40 : Int) : Nat) : Int)) dp (tkX t a.toNat (40 : Int) bad)).a : Int)).toNat (32 : Int) : Nat) : Int)) + (1 : Int)).toNat (32 : Int) : Nat) : Int)) (((exE t (((tkA t a.toNat (40 : Int) : Nat) : Int)) dp (tkX t a.toNat (40 : Int) bad)).dp : Int)) (tkX t ((((tkA t (((exE t (((tkA t a.toNat (40 : Int) : Nat) : Int)) dp (tkX t a.toNat (40 : Int) bad)).a : Int)).toNat (32 : Int) : Nat) : Int)) + (1 : Int)).toNat (32 : Int) (tkX t (((exE t (((tkA t a.toNat (40 : Int) : Nat) : Int)) dp (tkX t a.toNat (40 : Int) bad)).a : Int)).toNat (32 : Int) ((exE t (((tkA t a.toNat (40 : Int) : Nat) : Int)) dp (tkX t a.toNat (40 : Int) bad)).bad)))).e))])) = ((inE t a dp).e) ∧ ((t = t ∧ ((((tkA t (((exE t (((tkA t ((((tkA t (((exE t (((tkA t a.toNat (40 : Int) : Nat) : Int)) dp (tkX t a.toNat (40 : Int) bad)).a : Int)).toNat (32 : Int) : Nat) : Int)) + (1 : Int)).toNat (32 : Int) : Nat) : Int)) (((exE t (((tkA t a.toNat (40 : Int) : Nat) : Int)) dp (tkX t a.toNat (40 : Int) bad)).dp : Int)) (tkX t ((((tkA t (((exE t (((tkA t a.toNat (40 : Int) : Nat) : Int)) dp (tkX t a.toNat (40 : Int) bad)).a : Int)).toNat (32 : Int) : Nat) : Int)) + (1 : Int)).toNat (32 : Int) (tkX t (((exE t (((tkA t a.toNat (40 : Int) : Nat) : Int)) dp (tkX t a.toNat (40 : Int) bad)).a : Int)).toNat (32 : Int) ((exE t (((tkA t a.toNat (40 : Int) : Nat) : Int)) dp (tkX t a.toNat (40 : Int) bad)).bad)))).a : Int)).toNat (41 : Int) : Nat) : Int)) = ((inE t a dp).a : Int) ∧ ((((exE t (((tkA t ((((tkA t (((exE t (((tkA t a.toNat (40 : Int) : Nat) : Int)) dp (tkX t a.toNat (40 : Int) bad)).a : Int)).toNat (32 : Int) : Nat) : Int)) + (1 : Int)).toNat (32 : Int) : Nat) : Int)) (((exE t (((tkA t a.toNat (40 : Int) : Nat) : Int)) dp (tkX t a.toNat (40 : Int) bad)).dp : Int)) (tkX t ((((tkA t (((exE t (((tkA t a.toNat (40 : Int) : Nat) : Int)) dp (tkX t a.toNat (40 : Int) bad)).a : Int)).toNat (32 : Int) : Nat) : Int)) + (1 : Int)).toNat (32 : Int) (tkX t (((exE t (((tkA t a.toNat (40 : Int) : Nat) : Int)) dp (tkX t a.toNat (40 : Int) bad)).a : Int)).toNat (32 : Int) ((exE t (((tkA t a.toNat (40 : Int) : Nat) : Int)) dp (tkX t a.toNat (40 : Int) bad)).bad)))).dp : Int)) = ((inE t a dp).dp : Int) ∧ (tkX t (((exE t (((tkA t ((((tkA t (((exE t (((tkA t a.toNat (40 : Int) : Nat) : Int)) dp (tkX t a.toNat (40 : Int) bad)).a : Int)).toNat (32 : Int) : Nat) : Int)) + (1 : Int)).toNat (32 : Int) : Nat) : Int)) (((exE t (((tkA t a.toNat (40 : Int) : Nat) : Int)) dp (tkX t a.toNat (40 : Int) bad)).dp : Int)) (tkX t ((((tkA t (((exE t (((tkA t a.toNat (40 : Int) : Nat) : Int)) dp (tkX t a.toNat (40 : Int) bad)).a : Int)).toNat (32 : Int) : Nat) : Int)) + (1 : Int)).toNat (32 : Int) (tkX t (((exE t (((tkA t a.toNat (40 : Int) : Nat) : Int)) dp (tkX t a.toNat (40 : Int) bad)).a : Int)).toNat (32 : Int) ((exE t (((tkA t a.toNat (40 : Int) : Nat) : Int)) dp (tkX t a.toNat (40 : Int) bad)).bad)))).a : Int)).toNat (41 : Int) ((exE t (((tkA t ((((tkA t (((exE t (((tkA t a.toNat (40 : Int) : Nat) : Int)) dp (tkX t a.toNat (40 : Int) bad)).a : Int)).toNat (32 : Int) : Nat) : Int)) + (1 : Int)).toNat (32 : Int) : Nat) : Int)) (((exE t (((tkA t a.toNat (40 : Int) : Nat) : Int)) dp (tkX t a.toNat (40 : Int) bad)).dp : Int)) (tkX t ((((tkA t (((exE t (((tkA t a.toNat (40 : Int) : Nat) : Int)) dp (tkX t a.toNat (40 : Int) bad)).a : Int)).toNat (32 : Int) : Nat) : Int)) + (1 : Int)).toNat (32 : Int) (tkX t (((exE t (((tkA t a.toNat (40 : Int) : Nat) : Int)) dp (tkX t a.toNat (40 : Int) bad)).a : Int)).toNat (32 : Int) ((exE t (((tkA t a.toNat (40 : Int) : Nat) : Int)) dp (tkX t a.toNat (40 : Int) bad)).bad)))).bad)) = ((inE t a dp).bad)))) ∧ True)))))))) ∧ ((decide ((pkS t (((tkA t (((exE t (((tkA t a.toNat (40 : Int) : Nat) : Int)) dp (tkX t a.toNat (40 : Int) bad)).a : Int)).toNat (32 : Int) : Nat) : Int)).toNat) = (43 : Int))) = false →
 ((3 * (101 - (((exE t (((tkA t a.toNat (40 : Int) : Nat) : Int)) dp (tkX t a.toNat (40 : Int) bad)).dp : Int))).toNat < n ∧ 0 ≤ (((tkA t (((exE t (((tkA t a.toNat (40 : Int) : Nat) : Int)) dp (tkX t a.toNat (40 : Int) bad)).a : Int)).toNat (32 : Int) : Nat) : Int)) ∧ (((tkA t (((exE t (((tkA t a.toNat (40 : Int) : Nat) : Int)) dp (tkX t a.toNat (40 : Int) bad)).a : Int)).toNat (32 : Int) : Nat) : Int)) ≤ (t.length : Int) ∧ t.length ≤ 10000 ∧ 0 ≤ (((exE t (((tkA t a.toNat (40 : Int) : Nat) : Int)) dp (tkX t a.toNat (40 : Int) bad)).dp : Int)) ∧ (((exE t (((tkA t a.toNat (40 : Int) : Nat) : Int)) dp (tkX t a.toNat (40 : Int) bad)).dp : Int)) ≤ 1000) ∧ ((0 ≤ (((exE t (((tkA t (((exE t (((tkA t a.toNat (40 : Int) : Nat) : Int)) dp (tkX t a.toNat (40 : Int) bad)).a : Int)).toNat (32 : Int) : Nat) : Int)) (((exE t (((tkA t a.toNat (40 : Int) : Nat) : Int)) dp (tkX t a.toNat (40 : Int) bad)).dp : Int)) (tkX t (((exE t (((tkA t a.toNat (40 : Int) : Nat) : Int)) dp (tkX t a.toNat (40 : Int) bad)).a : Int)).toNat (32 : Int) ((exE t (((tkA t a.toNat (40 : Int) : Nat) : Int)) dp (tkX t a.toNat (40 : Int) bad)).bad))).a : Int)) ∧ (((exE t (((tkA t (((exE t (((tkA t a.toNat (40 : Int) : Nat) : Int)) dp (tkX t a.toNat (40 : Int) bad)).a : Int)).toNat (32 : Int) : Nat) : Int)) (((exE t (((tkA t a.toNat (40 : Int) : Nat) : Int)) dp (tkX t a.toNat (40 : Int) bad)).dp : Int)) (tkX t (((exE t (((tkA t a.toNat (40 : Int) : Nat) : Int)) dp (tkX t a.toNat (40 : Int) bad)).a : Int)).toNat (32 : Int) ((exE t (((tkA t a.toNat (40 : Int) : Nat) : Int)) dp (tkX t a.toNat (40 : Int) bad)).bad))).a : Int)) ≤ (t.length : Int) ∧ t.length ≤ 10000) ∧ ((GExpr.mk (7 : Int) (0 : Int) ([(e_expr ((exE t (((tkA t a.toNat (40 : Int) : Nat) : Int)) dp (tkX t a.toNat (40 : Int) bad)).e)), (e_expr ((exE t (((tkA t (((exE t (((tkA t a.toNat (40 : Int) : Nat) : Int)) dp (tkX t a.toNat (40 : Int) bad)).a : Int)).toNat (32 : Int) : Nat) : Int)) (((exE t (((tkA t a.toNat (40 : Int) : Nat) : Int)) dp (tkX t a.toNat (40 : Int) bad)).dp : Int)) (tkX t (((exE t (((tkA t a.toNat (40 : Int) : Nat) : Int)) dp (tkX t a.toNat (40 : Int) bad)).a : Int)).toNat (32 : Int) ((exE t (((tkA t a.toNat (40 : Int) : Nat) : Int)) dp (tkX t a.toNat (40 : Int) bad)).bad))).e))])) = ((inE t a dp).e) ∧ ((t = t ∧ ((((tkA t (((exE t (((tkA t (((exE t (((tkA t a.toNat (40 : Int) : Nat) : Int)) dp (tkX t a.toNat (40 : Int) bad)).a : Int)).toNat (32 : Int) : Nat) : Int)) (((exE t (((tkA t a.toNat (40 : Int) : Nat) : Int)) dp (tkX t a.toNat (40 : Int) bad)).dp : Int)) (tkX t (((exE t (((tkA t a.toNat (40 : Int) : Nat) : Int)) dp (tkX t a.toNat (40 : Int) bad)).a : Int)).toNat (32 : Int) ((exE t (((tkA t a.toNat (40 : Int) : Nat) : Int)) dp (tkX t a.toNat (40 : Int) bad)).bad))).a : Int)).toNat (41 : Int) : Nat) : Int)) = ((inE t a dp).a : Int) ∧ ((((exE t (((tkA t (((exE t (((tkA t a.toNat (40 : Int) : Nat) : Int)) dp (tkX t a.toNat (40 : Int) bad)).a : Int)).toNat (32 : Int) : Nat) : Int)) (((exE t (((tkA t a.toNat (40 : Int) : Nat) : Int)) dp (tkX t a.toNat (40 : Int) bad)).dp : Int)) (tkX t (((exE t (((tkA t a.toNat (40 : Int) : Nat) : Int)) dp (tkX t a.toNat (40 : Int) bad)).a : Int)).toNat (32 : Int) ((exE t (((tkA t a.toNat (40 : Int) : Nat) : Int)) dp (tkX t a.toNat (40 : Int) bad)).bad))).dp : Int)) = ((inE t a dp).dp : Int) ∧ (tkX t (((exE t (((tkA t (((exE t (((tkA t a.toNat (40 : Int) : Nat) : Int)) dp (tkX t a.toNat (40 : Int) bad)).a : Int)).toNat (32 : Int) : Nat) : Int)) (((exE t (((tkA t a.toNat (40 : Int) : Nat) : Int)) dp (tkX t a.toNat (40 : Int) bad)).dp : Int)) (tkX t (((exE t (((tkA t a.toNat (40 : Int) : Nat) : Int)) dp (tkX t a.toNat (40 : Int) bad)).a : Int)).toNat (32 : Int) ((exE t (((tkA t a.toNat (40 : Int) : Nat) : Int)) dp (tkX t a.toNat (40 : Int) bad)).bad))).a : Int)).toNat (41 : Int) ((exE t (((tkA t (((exE t (((tkA t a.toNat (40 : Int) : Nat) : Int)) dp (tkX t a.toNat (40 : Int) bad)).a : Int)).toNat (32 : Int) : Nat) : Int)) (((exE t (((tkA t a.toNat (40 : Int) : Nat) : Int)) dp (tkX t a.toNat (40 : Int) bad)).dp : Int)) (tkX t (((exE t (((tkA t a.toNat (40 : Int) : Nat) : Int)) dp (tkX t a.toNat (40 : Int) bad)).a : Int)).toNat (32 : Int) ((exE t (((tkA t a.toNat (40 : Int) : Nat) : Int)) dp (tkX t a.toNat (40 : Int) bad)).bad))).bad)) = ((inE t a dp).bad)))) ∧ True))))))))))) := by kernel_rfl
theorem oks_spec_l01Reader_pair (n : Nat) (hE : AllGood []) (hO : AllO []) (hM : AllM []) (hS : AllS [ks_spec_l01Reader_peek, ks_spec_l01Reader_take, ksn_spec_l01Reader_expr n]) : SCt.Good (ksn_spec_l01Reader_pair (n + 1)) := by
 refine ⟨fnOk_of at_spec_l01Reader_pair rfl (by decide), ?_⟩
 show ∀ (t : List UInt8) (a : Int) (dp : Int) (bad : Bool), (3 * (101 - dp).toNat + 1 < n + 1 ∧ 0 ≤ a ∧ a ≤ (t.length : Int) ∧ t.length ≤ 10000 ∧ 0 ≤ dp ∧ dp ≤ 100 ∧ bad = false ∧ pkS t a.toNat = 40) → OkSt prog n_spec_l01Reader_pair [[.d .str, .d (.int .i64), .d (.int .i64), .d .bool]] [.box 0] [[⟨.str, t⟩, ⟨(.int .i64), a⟩, ⟨(.int .i64), dp⟩, ⟨.bool, bad⟩]] [⟨(.st .expr), (inE t a dp).e⟩] [[⟨.str, t⟩, ⟨(.int .i64), ((inE t a dp).a : Int)⟩, ⟨(.int .i64), ((inE t a dp).dp : Int)⟩, ⟨.bool, (inE t a dp).bad⟩]]
 intro t a dp bad hp
 refine st_of_awp (own := [9, 27, 32]) (wr := []) (cl := []) (ro := []) hE hO hM hS at_spec_l01Reader_pair body_spec_l01Reader_pair (ls_spec_l01Reader_pair t a dp bad) rfl rfl ?_
 rewrite [vcs_spec_l01Reader_pair n t a dp bad]
 obtain ⟨hm, h0, h1, h2, h3, h4, h5, h6⟩ := hp
 subst h5
 have l0 := pkS_lt t a.toNat (by rw [h6]; decide)
 obtain ⟨g1, g2⟩ := tk_i t a 40 h0 h6
 have b1 := ex_bnd t (a + 1) dp false (by omega) (by omega) h3
 obtain ⟨p1, p2⟩ := in_pair t a dp h0 (by omega) h3 h4 h6 _ rfl
 simp only [yE] at p1 p2
 simp only [g1, g2, Int.toNat_natCast]
 generalize exE t (a + 1) dp false = X at *
 have c1 := tkA_le t X.a 32 (by decide) (by omega)
 by_cases hs : pkS t (tkA t X.a 32) = 43
 ·obtain ⟨q1, q2, q3, q4⟩ := p1 hs
  have l1 := pkS_lt t (tkA t X.a 32) (by rw [hs]; decide)
  have e1 : (((tkA t X.a 32 : Nat) : Int) + 1).toNat = tkA t X.a 32 + 1 := by omega
  have c2 := tkA_le t (tkA t X.a 32 + 1) 32 (by decide) (by omega)
  have b2 := ex_bnd t ((tkA t (tkA t X.a 32 + 1) 32 : Nat) : Int) (X.dp : Int) (tkX t (tkA t X.a 32 + 1) 32 (tkX t X.a 32 X.bad)) (by omega) (by omega) (by omega)
  simp only [hs, e1, q1, q2, q3, q4, decide_true, decide_false, Bool.not_true, Bool.not_false, Bool.true_eq_false, Bool.false_eq_true, not_true_eq_false, not_false_eq_true, false_implies, true_implies, and_true, true_and, Int.toNat_natCast, inI64, e_expr_eq]
  generalize exE t ((tkA t (tkA t X.a 32 + 1) 32 : Nat) : Int) (X.dp : Int) (tkX t (tkA t X.a 32 + 1) 32 (tkX t X.a 32 X.bad)) = Y at *
  have c3 := tkA_le t Y.a 41 (by decide) (by omega)
  repeat' (first | intro _ | apply And.intro)
  all_goals first | exact True.intro | omega | with_reducible rfl
 ·obtain ⟨q1, q2, q3, q4⟩ := p2 hs
  have b2 := ex_bnd t ((tkA t X.a 32 : Nat) : Int) (X.dp : Int) (tkX t X.a 32 X.bad) (by omega) (by omega) (by omega)
  simp only [hs, q1, q2, q3, q4, decide_true, decide_false, Bool.not_true, Bool.not_false, Bool.true_eq_false, Bool.false_eq_true, not_true_eq_false, not_false_eq_true, false_implies, true_implies, and_true, true_and, Int.toNat_natCast, inI64, e_expr_eq]
  generalize exE t ((tkA t X.a 32 : Nat) : Int) (X.dp : Int) (tkX t X.a 32 X.bad) = Y at *
  have c3 := tkA_le t Y.a 41 (by decide) (by omega)
  repeat' (first | intro _ | apply And.intro)
  all_goals first | exact True.intro | omega | with_reducible rfl
def ls_spec_l01Reader_expr (t : List UInt8) (a : Int) (dp : Int) (bad : Bool) : Nat → LoopInv := (fun zb => if Nat.beq zb 0 then .mk (Nat) (fun m => m ≤ sE t (inE t a (dp + 1))) (fun m => sE t (inE t a (dp + 1)) - m) [] [1, 4, 5, 6, 7, 8, 9, 10, 11, 12, 13, 14, 15, 16, 17, 18, 19, 20, 21, 22, 23, 24, 25, 26, 27] (fun m => []) [0, 2, 28, 29, 30, 31, 32, 33, 34, 35, 36, 37, 38, 39, 40, 41, 42, 43, 44, 45, 46, 47, 48, 49, 50, 51, 52, 53, 54, 55] (fun m => [(400000, .box [.imm ⟨.str, (t : List UInt8)⟩, .imm ⟨(.int .i64), (((inE t a (dp + 1)).a : Int) + (m : Int) : Int)⟩, .imm ⟨(.int .i64), (((inE t a (dp + 1)).dp : Int) : Int)⟩, .imm ⟨.bool, ((inE t a (dp + 1)).bad : Bool)⟩]), (3, .box [.imm ⟨(.int .i64), ((wrapN 8 m (inE t a (dp + 1)).e).kind : Int)⟩, .imm ⟨(.int .i64), ((wrapN 8 m (inE t a (dp + 1)).e).num : Int)⟩, .tree 7100]), (7100, .tree (.st .expr) ((wrapN 8 m (inE t a (dp + 1)).e).kids : List GExpr))]) [] [] (fun m => fun _ => .none) else .none)
theorem vcs_spec_l01Reader_expr (n : Nat) (t : List UInt8) (a : Int) (dp : Int) (bad : Bool) : awp (envO [] [] [] [27, 46] [] [] [] [ks_spec_l01Reader_peek, ksn_spec_l01Reader_inner n]) (bodyOf f_spec_l01Reader_expr) (ls_spec_l01Reader_expr t a dp bad) 0 (stPost (envO [] [] [] [27, 46] [] [] [] [ks_spec_l01Reader_peek, ksn_spec_l01Reader_inner n]) f_spec_l01Reader_expr [[.d .str, .d (.int .i64), .d (.int .i64), .d .bool]] fun r ds => areEq r [⟨(.st .expr), (exE t a dp bad).e⟩] ∧ areEqs ds [[⟨.str, t⟩, ⟨(.int .i64), ((exE t a dp bad).a : Int)⟩, ⟨(.int .i64), ((exE t a dp bad).dp : Int)⟩, ⟨.bool, (exE t a dp bad).bad⟩]]) (startSt f_spec_l01Reader_expr [.box 0] [[.d .str, .d (.int .i64), .d (.int .i64), .d .bool]] [[⟨.str, t⟩, ⟨(.int .i64), a⟩, ⟨(.int .i64), dp⟩, ⟨.bool, bad⟩]]) =
 ((inI64 dp →
 (inI64 (dp + (1 : Int)) ∧ ((bad = false →
 (inI64 (dp + (1 : Int)) →
 (((decide ((100 : Int) < (dp + (1 : Int)))) = true →
 (zE = ((exE t a dp bad).e) ∧ ((t = t ∧ (a = ((exE t a dp bad).a : Int) ∧ ((dp + (1 : Int)) = ((exE t a dp bad).dp : Int) ∧ true = ((exE t a dp bad).bad)))) ∧ True))) ∧ ((decide ((100 : Int) < (dp + (1 : Int)))) = false →
 ((3 * (101 - (dp + (1 : Int))).toNat + 2 < n ∧ 0 ≤ a ∧ a ≤ (t.length : Int) ∧ t.length ≤ 10000 ∧ 0 ≤ (dp + (1 : Int)) ∧ (dp + (1 : Int)) ≤ 100 ∧ bad = false) ∧ ((∃ m1 : Nat, (m1 ≤ sE t (inE t a (dp + 1)) ∧ ((True ∧ (True ∧ (True ∧ True))) ∧ ((t = t ∧ ((((inE t a (dp + (1 : Int))).a : Int)) = (((inE t a (dp + 1)).a : Int) + (m1 : Int)) ∧ ((((inE t a (dp + (1 : Int))).dp : Int)) = ((inE t a (dp + 1)).dp : Int) ∧ (((inE t a (dp + (1 : Int))).bad) = ((inE t a (dp + 1)).bad) ∧ True)))) ∧ ((((inE t a (dp + (1 : Int))).e).kind = ((wrapN 8 m1 (inE t a (dp + 1)).e).kind) ∧ (((inE t a (dp + (1 : Int))).e).num = ((wrapN 8 m1 (inE t a (dp + 1)).e).num) ∧ (True ∧ True))) ∧ (((inE t a (dp + (1 : Int))).e).kids = ((wrapN 8 m1 (inE t a (dp + 1)).e).kids) ∧ (((0 : Int) = (0 : Int) ∧ ((0 : Int) = (0 : Int) ∧ (True ∧ True))) ∧ True))))))) ∧ (∀ m1 : Nat, (m1 ≤ sE t (inE t a (dp + 1)) →
 (((!((inE t a (dp + 1)).bad)) = true →
 ((0 ≤ (((inE t a (dp + 1)).a : Int) + (m1 : Int)) ∧ (((inE t a (dp + 1)).a : Int) + (m1 : Int)) ≤ (t.length : Int) ∧ t.length ≤ 10000) ∧ (((decide ((pkS t (((inE t a (dp + 1)).a : Int) + (m1 : Int)).toNat) = (42 : Int))) = true →
 (inI64 (((inE t a (dp + 1)).a : Int) + (m1 : Int)) →
 (inI64 ((((inE t a (dp + 1)).a : Int) + (m1 : Int)) + (1 : Int)) ∧ (∃ m2 : Nat, (m2 ≤ sE t (inE t a (dp + 1)) ∧ (sE t (inE t a (dp + 1)) - m2 < sE t (inE t a (dp + 1)) - m1 ∧ ((True ∧ (True ∧ (True ∧ True))) ∧ ((t = t ∧ (((((inE t a (dp + 1)).a : Int) + (m1 : Int)) + (1 : Int)) = (((inE t a (dp + 1)).a : Int) + (m2 : Int)) ∧ (((inE t a (dp + 1)).dp : Int) = ((inE t a (dp + 1)).dp : Int) ∧ (((inE t a (dp + 1)).bad) = ((inE t a (dp + 1)).bad) ∧ True)))) ∧ (((8 : Int) = ((wrapN 8 m2 (inE t a (dp + 1)).e).kind) ∧ ((0 : Int) = ((wrapN 8 m2 (inE t a (dp + 1)).e).num) ∧ (True ∧ True))) ∧ (([(GExpr.mk ((wrapN 8 m1 (inE t a (dp + 1)).e).kind) ((wrapN 8 m1 (inE t a (dp + 1)).e).num) ((wrapN 8 m1 (inE t a (dp + 1)).e).kids))]) = ((wrapN 8 m2 (inE t a (dp + 1)).e).kids) ∧ (((0 : Int) = (0 : Int) ∧ ((0 : Int) = (0 : Int) ∧ (True ∧ True))) ∧ True))))))))))) ∧ ((decide ((pkS t (((inE t a (dp + 1)).a : Int) + (m1 : Int)).toNat) = (42 : Int))) = false →
 (inI64 ((inE t a (dp + 1)).dp : Int) →
 (inI64 (((inE t a (dp + 1)).dp : Int) - (1 : Int)) ∧ ((GExpr.mk ((wrapN 8 m1 (inE t a (dp + 1)).e).kind) ((wrapN 8 m1 (inE t a (dp + 1)).e).num) ((wrapN 8 m1 (inE t a (dp + 1)).e).kids)) = ((exE t a dp bad).e) ∧ ((t = t ∧ ((((inE t a (dp + 1)).a : Int) + (m1 : Int)) = ((exE t a dp bad).a : Int) ∧ ((((inE t a (dp + 1)).dp : Int) - (1 : Int)) = ((exE t a dp bad).dp : Int) ∧ ((inE t a (dp + 1)).bad) = ((exE t a dp bad).bad)))) ∧ True)))))))) ∧ ((!((inE t a (dp + 1)).bad)) = (!true) →
 ((false = true →
 (inI64 (((inE t a (dp + 1)).a : Int) + (m1 : Int)) →
 (inI64 ((((inE t a (dp + 1)).a : Int) + (m1 : Int)) + (1 : Int)) ∧ (∃ m2 : Nat, (m2 ≤ sE t (inE t a (dp + 1)) ∧ (sE t (inE t a (dp + 1)) - m2 < sE t (inE t a (dp + 1)) - m1 ∧ ((True ∧ (True ∧ (True ∧ True))) ∧ ((t = t ∧ (((((inE t a (dp + 1)).a : Int) + (m1 : Int)) + (1 : Int)) = (((inE t a (dp + 1)).a : Int) + (m2 : Int)) ∧ (((inE t a (dp + 1)).dp : Int) = ((inE t a (dp + 1)).dp : Int) ∧ (((inE t a (dp + 1)).bad) = ((inE t a (dp + 1)).bad) ∧ True)))) ∧ (((8 : Int) = ((wrapN 8 m2 (inE t a (dp + 1)).e).kind) ∧ ((0 : Int) = ((wrapN 8 m2 (inE t a (dp + 1)).e).num) ∧ (True ∧ True))) ∧ (([(GExpr.mk ((wrapN 8 m1 (inE t a (dp + 1)).e).kind) ((wrapN 8 m1 (inE t a (dp + 1)).e).num) ((wrapN 8 m1 (inE t a (dp + 1)).e).kids))]) = ((wrapN 8 m2 (inE t a (dp + 1)).e).kids) ∧ (((0 : Int) = (0 : Int) ∧ ((0 : Int) = (0 : Int) ∧ (True ∧ True))) ∧ True))))))))))) ∧ (false = false →
 (inI64 ((inE t a (dp + 1)).dp : Int) →
 (inI64 (((inE t a (dp + 1)).dp : Int) - (1 : Int)) ∧ ((GExpr.mk ((wrapN 8 m1 (inE t a (dp + 1)).e).kind) ((wrapN 8 m1 (inE t a (dp + 1)).e).num) ((wrapN 8 m1 (inE t a (dp + 1)).e).kids)) = ((exE t a dp bad).e) ∧ ((t = t ∧ ((((inE t a (dp + 1)).a : Int) + (m1 : Int)) = ((exE t a dp bad).a : Int) ∧ ((((inE t a (dp + 1)).dp : Int) - (1 : Int)) = ((exE t a dp bad).dp : Int) ∧ ((inE t a (dp + 1)).bad) = ((exE t a dp bad).bad)))) ∧ True)))))))))))))))) ∧ (bad = (!false) →
 ((true = true →
 (zE = ((exE t a dp bad).e) ∧ ((t = t ∧ (a = ((exE t a dp bad).a : Int) ∧ ((dp + (1 : Int)) = ((exE t a dp bad).dp : Int) ∧ true = ((exE t a dp bad).bad)))) ∧ True))) ∧ (true = false →
 ((3 * (101 - (dp + (1 : Int))).toNat + 2 < n ∧ 0 ≤ a ∧ a ≤ (t.length : Int) ∧ t.length ≤ 10000 ∧ 0 ≤ (dp + (1 : Int)) ∧ (dp + (1 : Int)) ≤ 100 ∧ bad = false) ∧ ((∃ m1 : Nat, (m1 ≤ sE t (inE t a (dp + 1)) ∧ ((True ∧ (True ∧ (True ∧ True))) ∧ ((t = t ∧ ((((inE t a (dp + (1 : Int))).a : Int)) = (((inE t a (dp + 1)).a : Int) + (m1 : Int)) ∧ ((((inE t a (dp + (1 : Int))).dp : Int)) = ((inE t a (dp + 1)).dp : Int) ∧ (((inE t a (dp + (1 : Int))).bad) = ((inE t a (dp + 1)).bad) ∧ True)))) ∧ ((((inE t a (dp + (1 : Int))).e).kind = ((wrapN 8 m1 (inE t a (dp + 1)).e).kind) ∧ (((inE t a (dp + (1 : Int))).e).num = ((wrapN 8 m1 (inE t a (dp + 1)).e).num) ∧ (True ∧ True))) ∧ (((inE t a (dp + (1 : Int))).e).kids = ((wrapN 8 m1 (inE t a (dp + 1)).e).kids) ∧ (((0 : Int) = (0 : Int) ∧ ((0 : Int) = (0 : Int) ∧ (True ∧ True))) ∧ True))))))) ∧ (∀ m1 : Nat, (m1 ≤ sE t (inE t a (dp + 1)) →
 (((!((inE t a (dp + 1)).bad)) = true →
 ((0 ≤ (((inE t a (dp + 1)).a : Int) + (m1 : Int)) ∧ (((inE t a (dp + 1)).a : Int) + (m1 : Int)) ≤ (t.length : Int) ∧ t.length ≤ 10000) ∧ (((decide ((pkS t (((inE t a (dp + 1)).a : Int) + (m1 : Int)).toNat) = (42 : Int))) = true →
 (inI64 (((inE t a (dp + 1)).a : Int) + (m1 : Int)) →
 (inI64 ((((inE t a (dp + 1)).a : Int) + (m1 : Int)) + (1 : Int)) ∧ (∃ m2 : Nat, (m2 ≤ sE t (inE t a (dp + 1)) ∧ (sE t (inE t a (dp + 1)) - m2 < sE t (inE t a (dp + 1)) - m1 ∧ ((True ∧ (True ∧ (True ∧ True))) ∧ ((t = t ∧ (((((inE t a (dp + 1)).a : Int) + (m1 : Int)) + (1 : Int)) = (((inE t a (dp + 1)).a : Int) + (m2 : Int)) ∧ (((inE t a (dp + 1)).dp : Int) = ((inE t a (dp + 1)).dp : Int) ∧ (((inE t a (dp + 1)).bad) = ((inE t a (dp + 1)).bad) ∧ True)))) ∧ (((8 : Int) = ((wrapN 8 m2 (inE t a (dp + 1)).e).kind) ∧ ((0 : Int) = ((wrapN 8 m2 (inE t a (dp + 1)).e).num) ∧ (True ∧ True))) ∧ (([(GExpr.mk ((wrapN 8 m1 (inE t a (dp + 1)).e).kind) ((wrapN 8 m1 (inE t a (dp + 1)).e).num) ((wrapN 8 m1 (inE t a (dp + 1)).e).kids))]) = ((wrapN 8 m2 (inE t a (dp + 1)).e).kids) ∧ (((0 : Int) = (0 : Int) ∧ ((0 : Int) = (0 : Int) ∧ (True ∧ True))) ∧ True))))))))))) ∧ ((decide ((pkS t (((inE t a (dp + 1)).a : Int) + (m1 : Int)).toNat) = (42 : Int))) = false →
 (inI64 ((inE t a (dp + 1)).dp : Int) →
 (inI64 (((inE t a (dp + 1)).dp : Int) - (1 : Int)) ∧ ((GExpr.mk ((wrapN 8 m1 (inE t a (dp + 1)).e).kind) ((wrapN 8 m1 (inE t a (dp + 1)).e).num) ((wrapN 8 m1 (inE t a (dp + 1)).e).kids)) = ((exE t a dp bad).e) ∧ ((t = t ∧ ((((inE t a (dp + 1)).a : Int) + (m1 : Int)) = ((exE t a dp bad).a : Int) ∧ ((((inE t a (dp + 1)).dp : Int) - (1 : Int)) = ((exE t a dp bad).dp : Int) ∧ ((inE t a (dp + 1)).bad) = ((exE t a dp bad).bad)))) ∧ True)))))))) ∧ ((!((inE t a (dp + 1)).bad)) = (!true) →
 ((false = true →
 (inI64 (((inE t a (dp + 1)).a : Int) + (m1 : Int)) →
 (inI64 ((((inE t a (dp + 1)).a : Int) + (m1 : Int)) + (1 : Int)) ∧ (∃ m2 : Nat, (m2 ≤ sE t (inE t a (dp + 1)) ∧ (sE t (inE t a (dp + 1)) - m2 < sE t (inE t a (dp + 1)) - m1 ∧ ((True ∧ (True ∧ (True ∧ True))) ∧ ((t = t ∧ (((((inE t a (dp + 1)).a : Int) + (m1 : Int)) + (1 : Int)) = (((inE t a (dp + 1)).a : Int) + (m2 : Int)) ∧ (((inE t a (dp + 1)).dp : Int) = ((inE t a (dp + 1)).dp : Int) ∧ (((inE t a (dp + 1)).bad) = ((inE t a (dp + 1)).bad) ∧ True)))) ∧ (((8 : Int) = ((wrapN 8 m2 (inE t a (dp + 1)).e).kind) ∧ ((0 : Int) = ((wrapN 8 m2 (inE t a (dp + 1)).e).num) ∧ (True ∧ True))) ∧ (([(GExpr.mk ((wrapN 8 m1 (inE t a (dp + 1)).e).kind) ((wrapN 8 m1 (inE t a (dp + 1)).e).num) ((wrapN 8 m1 (inE t a (dp + 1)).e).kids))]) = ((wrapN 8 m2 (inE t a (dp + 1)).e).kids) ∧ (((0 : Int) = (0 : Int) ∧ ((0 : Int) = (0 : Int) ∧ (True ∧ True))) ∧ True))))))))))) ∧ (false = false →
 (inI64 ((inE t a (dp + 1)).dp : Int) →
 (inI64 (((inE t a (dp + 1)).dp : Int) - (1 : Int)) ∧ ((GExpr.mk ((wrapN 8 m1 (inE t a (dp + 1)).e).kind) ((wrapN 8 m1 (inE t a (dp + 1)).e).num) ((wrapN 8 m1 (inE t a (dp + 1)).e).kids)) = ((exE t a dp bad).e) ∧ ((t = t ∧ ((((inE t a (dp + 1)).a : Int) + (m1 : Int)) = ((exE t a dp bad).a : Int) ∧ ((((inE t a (dp + 1)).dp : Int) - (1 : Int)) = ((exE t a dp bad).dp : Int) ∧ ((inE t a (dp + 1)).bad) = ((exE t a dp bad).bad)))) ∧ True))))))))))))))))))) := by kernel_rfl
theorem oks_spec_l01Reader_expr (n : Nat) (hE : AllGood []) (hO : AllO []) (hM : AllM []) (hS : AllS [ks_spec_l01Reader_peek, ksn_spec_l01Reader_inner n]) : SCt.Good (ksn_spec_l01Reader_expr (n + 1)) := by
 refine ⟨fnOk_of at_spec_l01Reader_expr rfl (by decide), ?_⟩
 show ∀ (t : List UInt8) (a : Int) (dp : Int) (bad : Bool), (3 * (101 - dp).toNat < n + 1 ∧ 0 ≤ a ∧ a ≤ (t.length : Int) ∧ t.length ≤ 10000 ∧ 0 ≤ dp ∧ dp ≤ 1000) → OkSt prog n_spec_l01Reader_expr [[.d .str, .d (.int .i64), .d (.int .i64), .d .bool]] [.box 0] [[⟨.str, t⟩, ⟨(.int .i64), a⟩, ⟨(.int .i64), dp⟩, ⟨.bool, bad⟩]] [⟨(.st .expr), (exE t a dp bad).e⟩] [[⟨.str, t⟩, ⟨(.int .i64), ((exE t a dp bad).a : Int)⟩, ⟨(.int .i64), ((exE t a dp bad).dp : Int)⟩, ⟨.bool, (exE t a dp bad).bad⟩]]
 intro t a dp bad hp
 refine st_of_awp (own := [27, 46]) (wr := []) (cl := []) (ro := []) hE hO hM hS at_spec_l01Reader_expr body_spec_l01Reader_expr (ls_spec_l01Reader_expr t a dp bad) rfl rfl ?_
 rewrite [vcs_spec_l01Reader_expr n t a dp bad]
 obtain ⟨hm, h0, h1, h2, h3, h4⟩ := hp
 cases bad with
 | true =>
  obtain ⟨q1, q2, q3, q4⟩ := ex_stop t a dp true h0 h3 (.inl rfl)
  simp only [q1, q2, q3, q4, decide_true, decide_false, Bool.not_true, Bool.not_false, Bool.true_eq_false, Bool.false_eq_true, not_true_eq_false, not_false_eq_true, false_implies, true_implies, and_true, true_and, Int.toNat_natCast, inI64, e_expr_eq]
  repeat' (first | intro _ | apply And.intro)
  all_goals first | exact True.intro | omega | with_reducible rfl
 | false =>
  by_cases hd : 100 < dp + 1
  ·obtain ⟨q1, q2, q3, q4⟩ := ex_stop t a dp false h0 h3 (.inr hd)
   simp only [hd, q1, q2, q3, q4, decide_true, decide_false, Bool.not_true, Bool.not_false, Bool.true_eq_false, Bool.false_eq_true, not_true_eq_false, not_false_eq_true, false_implies, true_implies, and_true, true_and, Int.toNat_natCast, inI64, e_expr_eq]
   repeat' (first | intro _ | apply And.intro)
   all_goals first | exact True.intro | omega | with_reducible rfl
  ·obtain ⟨q1, q2, q3, q4⟩ := ex_val t a dp false h0 h1 h3 rfl hd
   have b1 := in_bnd t a (dp + 1) h0 h1 (by omega) (by omega)
   have b2 := sE_le t a (dp + 1) h0 h1 (by omega) (by omega)
   simp only [hd, q1, q2, q3, q4, decide_true, decide_false, Bool.not_true, Bool.not_false, Bool.true_eq_false, Bool.false_eq_true, not_true_eq_false, not_false_eq_true, false_implies, true_implies, and_true, true_and, Int.toNat_natCast, inI64, e_expr_eq]
   generalize inE t a (dp + 1) = R at *
   cases hB : R.bad with
   | true =>
    have z := sE_bad t R hB
    simp only [hB, z, decide_true, decide_false, Bool.not_true, Bool.not_false, Bool.true_eq_false, Bool.false_eq_true, not_true_eq_false, not_false_eq_true, false_implies, true_implies, and_true, true_and, Int.toNat_natCast, inI64, e_expr_eq]
    repeat' (first | intro _ | apply And.intro)
    all_goals first | exact True.intro | omega | with_reducible rfl | exact ⟨0, Nat.zero_le _, by omega, ⟨rfl, rfl⟩, rfl⟩ | (simp only [GExpr.eta]; congr 1; omega)
   | false =>
    have z := fun m h => sE_go t R m hB h
    simp only [hB, decide_true, decide_false, Bool.not_true, Bool.not_false, Bool.true_eq_false, Bool.false_eq_true, not_true_eq_false, not_false_eq_true, false_implies, true_implies, and_true, true_and, Int.toNat_natCast, inI64, e_expr_eq]
    repeat' (first | intro _ | apply And.intro)
    all_goals (try simp only [decide_eq_true_eq, decide_eq_false_iff_not] at *)
    all_goals first | exact True.intro | omega | with_reducible rfl | exact ⟨0, Nat.zero_le _, by omega, ⟨rfl, rfl⟩, rfl⟩ | (rename_i m1 _ _ _; have g := z m1 (by assumption); first | omega | (simp only [GExpr.eta]; congr 1; omega) | exact ⟨m1 + 1, by omega, by omega, by omega, ⟨by rw [wrapN_succ], by rw [wrapN_succ]⟩, by rw [wrapN_succ, GExpr.eta]⟩)
theorem alls_rdS : ∀ n, AllS [ksn_spec_l01Reader_inner n, ksn_spec_l01Reader_pair n, ksn_spec_l01Reader_expr n]
 | 0 => ⟨⟨fnOk_of at_spec_l01Reader_inner rfl (by decide), fun _ _ _ _ h => absurd h.1 (Nat.not_lt_zero _)⟩, ⟨fnOk_of at_spec_l01Reader_pair rfl (by decide), fun _ _ _ _ h => absurd h.1 (Nat.not_lt_zero _)⟩, ⟨fnOk_of at_spec_l01Reader_expr rfl (by decide), fun _ _ _ _ h => absurd h.1 (Nat.not_lt_zero _)⟩, trivial⟩
 | n + 1 => by
  have ih := alls_rdS n
  exact ⟨oks_spec_l01Reader_inner n trivial trivial trivial ⟨sgood_spec_l01Reader_peek, sgood_spec_l01Reader_name, ih.2.1, ih.1, trivial⟩, oks_spec_l01Reader_pair n trivial trivial trivial ⟨sgood_spec_l01Reader_peek, sgood_spec_l01Reader_take, ih.2.2.1, trivial⟩, oks_spec_l01Reader_expr n trivial trivial trivial ⟨sgood_spec_l01Reader_peek, ih.1, trivial⟩, trivial⟩
theorem sgood_spec_l01Reader_expr : SCt.Good ks_spec_l01Reader_expr :=
 ⟨fnOk_of at_spec_l01Reader_expr rfl (by decide), fun t a dp bad hp => (alls_rdS (3 * (101 - dp).toNat + 1)).2.2.1.2 t a dp bad (⟨Nat.lt_succ_self _, hp⟩)⟩
end
end Go.Proofs.YtbphjcgkidlabaaDoor

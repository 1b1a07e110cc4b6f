/- Split, Word. -/
import Derived.Test.YtkogipcdjalehaaDoorVmUse
import Derived.Test.YtkogipcdjalehaaDoorVmLib
import Derived.Test.YtkogipcdjalehaaDoorVmShelf
import Derived.Test.YtkogipcdjalehaaDoorVmValid
set_option linter.unusedVariables false
set_option linter.unusedSimpArgs false
set_option linter.unusedSectionVars false
set_option maxRecDepth 4000
set_option maxHeartbeats 4000000
namespace Go.Proofs.YtkogipcdjalehaaDoor
noncomputable section
open Go.RowKit Go.Proofs
def cutStep (c : UInt8) (a : List (List UInt8) × List UInt8) (b : UInt8) : List (List UInt8) × List UInt8 := bif b == c then (a.1 ++ [a.2], []) else (a.1, a.2 ++ [b])
def cutS (c : UInt8) (l : List UInt8) : List (List UInt8) × List UInt8 := l.foldl (cutStep c) ([], [])
def cutL (c : UInt8) (l : List UInt8) : List (List UInt8) := (cutS c l).1 ++ [(cutS c l).2]
theorem cut_mono (c : UInt8) : ∀ (l : List UInt8) (d e : List (List UInt8)) (x : List UInt8), l.foldl (cutStep c) (d ++ e, x) = (d ++ (l.foldl (cutStep c) (e, x)).1, (l.foldl (cutStep c) (e, x)).2)
 | [], d, e, x => rfl
 | b :: l, d, e, x => by
  simp only [List.foldl_cons, cutStep]
  cases b == c
  ·simp only [cond_false]; exact cut_mono c l d e (x ++ [b])
  ·simp only [cond_true, List.append_assoc]; exact cut_mono c l d (e ++ [x]) []
theorem cut_none (c : UInt8) : ∀ (l : List UInt8) (d : List (List UInt8)) (x : List UInt8), (∀ b ∈ l, (b == c) = false) → l.foldl (cutStep c) (d, x) = (d, x ++ l)
 | [], d, x, _ => by simp
 | b :: l, d, x, h => by
  simp only [List.foldl_cons, cutStep, h b (by simp), cond_false]
  rw [cut_none c l d (x ++ [b]) (fun y hy => h y (by simp [hy]))]
  simp
theorem cutL_none (c : UInt8) (l : List UInt8) (h : ∀ b ∈ l, (b == c) = false) : cutL c l = [l] := by
 unfold cutL cutS
 rw [cut_none c l [] [] h]; rfl
theorem cutL_hit (c : UInt8) (a r : List UInt8) (h : ∀ b ∈ a, (b == c) = false) : cutL c (a ++ c :: r) = a :: cutL c r := by
 unfold cutL cutS
 rw [List.foldl_append, cut_none c a [] [] h, List.foldl_cons]
 have e : cutStep c ([], [] ++ a) c = ([a] ++ [], []) := by simp [cutStep]
 rw [e, cut_mono]
 simp
theorem split_cut (c : UInt8) : ∀ (k : Nat) (l : List UInt8), l.count c = k → Lib.splitK [c] 0 k l = cutL c l
 | 0, l, h => by
  rw [cutL_none c l (fun b hb => by
   have := List.count_eq_zero.1 h
   cases e : b == c
   ·rfl
   ·rw [beq_iff_eq] at e; subst e; exact absurd hb this)]
  rfl
 | k + 1, l, h => by
  have hi := Lib.index_one l c
  rcases Int.lt_or_le (Lib.indexByte l c) 0 with hn | hn
  ·have h1 : Lib.indexByte l c = -1 := by have := Lib.indexByte_ge l c; omega
   have h2 := Lib.indexByte_none h1
   have hm : c ∈ l := List.count_pos_iff.1 (by omega)
   obtain ⟨j, hj, e⟩ := List.getElem_of_mem hm
   exact absurd (by rw [List.getElem?_eq_getElem hj, e]) (h2 j)
  ·obtain ⟨o, ho⟩ : ∃ o : Nat, Lib.indexByte l c = o := ⟨(Lib.indexByte l c).toNat, by omega⟩
   obtain ⟨h1, h2⟩ := Lib.indexByte_some ho
   have hol : o < l.length := (List.getElem?_eq_some_iff.1 h1).1
   have hd : l = l.take o ++ c :: l.drop (o + 1) := by
    conv => lhs; rw [← List.take_append_drop o l]
    rw [List.drop_eq_getElem_cons hol]
    have : l[o] = c := by simpa [List.getElem?_eq_getElem hol] using h1
    rw [this]
   have ha : ∀ b ∈ l.take o, (b == c) = false := by
    intro b hb
    obtain ⟨j, hj, e⟩ := List.getElem_of_mem hb
    have hj' : j < o := by simp at hj; omega
    have e2 : (l.take o)[j]? = some b := by rw [List.getElem?_eq_getElem hj, e]
    have e3 : l[j]? = some b := by rw [List.getElem?_take, if_pos hj'] at e2; exact e2
    cases e' : b == c
    ·rfl
    ·rw [beq_iff_eq] at e'
     rw [e'] at e3
     exact absurd e3 (h2 j hj')
   have hcnt : (l.drop (o + 1)).count c = k := by
    have e := congrArg (List.count c) hd
    rw [h, List.count_append, List.count_cons_self] at e
    have : (l.take o).count c = 0 := List.count_eq_zero.2 (fun hm => by have := ha c hm; simp at this)
    omega
   have hs : Lib.splitK [c] 0 (k + 1) l = l.take o :: Lib.splitK [c] 0 k (l.drop (o + 1)) := by
    rw [Lib.splitK, hi, ho]
    rw [if_neg (by simp)]
    simp
   rw [hs, split_cut c k _ hcnt]
   conv => rhs; rw [hd]
   rw [cutL_hit c _ _ ha]
theorem cutS_snoc (c : UInt8) (l : List UInt8) (b : UInt8) : cutS c (l ++ [b]) = cutStep c (cutS c l) b := by
 simp [cutS, List.foldl_append]
theorem cutL_len (c : UInt8) (l : List UInt8) : (cutL c l).length ≤ l.length + 1 := by
 have key : ∀ (l : List UInt8) (d : List (List UInt8)) (x : List UInt8), (l.foldl (cutStep c) (d, x)).1.length ≤ d.length + l.length := by
  intro l
  induction l with
  | nil => intro d x; simp
  | cons b l ih =>
   intro d x
   simp only [List.foldl_cons, cutStep, List.length_cons]
   cases b == c
   ·have := ih d (x ++ [b]); simp only [cond_false]; omega
   ·have := ih (d ++ [x]) []; simp only [cond_true, List.length_append, List.length_cons, List.length_nil] at this ⊢; omega
 have := key l [] []
 simp only [cutL, cutS, List.length_append, List.length_cons, List.length_nil] at this ⊢; omega
def cutF (c : UInt8) (l : List UInt8) : Nat := l.length - (cutS c l).2.length
theorem cutS_tail (c : UInt8) : ∀ (n : Nat) (l : List UInt8), l.length = n → (cutS c l).2 = l.drop (cutF c l) ∧ (cutS c l).2.length ≤ l.length
 | 0, l, h => by
  have : l = [] := List.eq_nil_of_length_eq_zero h
  subst this; simp [cutS]
 | n + 1, l, h => by
  rcases List.eq_nil_or_concat l with e | ⟨L, b, e⟩
  ·subst e; simp at h
  ·rw [List.concat_eq_append] at e
   subst e
   have ih := cutS_tail c n L (by simpa using h)
   have hF : cutF c L = L.length - (cutS c L).2.length := rfl
   unfold cutF
   rw [cutS_snoc]
   unfold cutStep
   cases b == c
   ·simp only [cond_false, List.length_append, List.length_cons, List.length_nil]
    refine ⟨?_, by omega⟩
    rw [show L.length + (0 + 1) - ((cutS c L).2.length + (0 + 1)) = cutF c L by omega, List.drop_append_of_le_length (by omega)]
    rw [← ih.1]
   ·simp
def bt (n : Int) : UInt8 := UInt8.ofNat n.toNat
theorem bt_eq (b : UInt8) (n : Int) (h : 0 ≤ n ∧ n ≤ 255) : decide ((b.toNat : Int) = n) = (b == bt n) := by
 have e : (bt n).toNat = n.toNat := by unfold bt; rw [UInt8.toNat_ofNat']; omega
 rw [Bool.eq_iff_iff, decide_eq_true_eq, beq_iff_eq]
 constructor
 ·intro h'; apply UInt8.toNat_inj.1; omega
 ·intro h'; rw [h', e]; omega
theorem cut_step (c : UInt8) (s : List UInt8) (i : Nat) (hi : i < s.length) :
  ((s.getD i 0 == c) = true → (cutS c (s.take (i + 1))).1 = (cutS c (s.take i)).1 ++ [(s.take i).drop (cutF c (s.take i))] ∧ cutF c (s.take (i + 1)) = i + 1) ∧
  ((s.getD i 0 == c) = false → (cutS c (s.take (i + 1))).1 = (cutS c (s.take i)).1 ∧ cutF c (s.take (i + 1)) = cutF c (s.take i)) ∧ cutF c (s.take i) ≤ i := by
 have hs := take_snoc 0 s i hi
 have ht := cutS_tail c _ (s.take i) rfl
 have hl : (s.take i).length = i := by simp; omega
 have hl1 : (s.take (i + 1)).length = i + 1 := by simp; omega
 refine ⟨fun h => ?_, fun h => ?_, by unfold cutF; omega⟩
 ·unfold cutF
  rw [hl1, hs, cutS_snoc]
  unfold cutStep
  rw [h]
  simp only [cond_true, List.length_nil]
  refine ⟨?_, by omega⟩
  rw [← show cutF c (s.take i) = (s.take i).length - (cutS c (s.take i)).2.length from rfl, ← ht.1]
 ·unfold cutF
  rw [hl1, hl, hs, cutS_snoc]
  unfold cutStep
  rw [h]
  refine ⟨rfl, ?_⟩
  simp only [cond_false, List.length_append, List.length_cons, List.length_nil]
  omega
theorem cut_len (c : UInt8) (s : List UInt8) (i : Nat) (hi : i ≤ s.length) : (cutS c (s.take i)).1.length ≤ i ∧ cutF c (s.take i) ≤ i := by
 have h := cutL_len c (s.take i)
 simp only [cutL, List.length_append, List.length_cons, List.length_nil, List.length_take] at h
 have hl : (s.take i).length = i := by simp; omega
 exact ⟨by omega, by unfold cutF; omega⟩
theorem cut_all (c : UInt8) (s : List UInt8) (i : Nat) (hi : s.length ≤ i) : (cutS c (s.take i)).1 ++ [s.drop (cutF c (s.take i))] = cutL c s := by
 rw [List.take_of_length_le hi, ← (cutS_tail c _ s rfl).1]; rfl
def k_spec_l01Split : Ctr := ⟨n_spec_l01Split, [.v .str, .v (.int .u8)], fun (s : List UInt8) (by_ : Int) => ⟨(some (s.length ≤ 1048576 ∧ 0 ≤ by_ ∧ by_ ≤ 255), [⟨(.slice .str), cutL (bt by_) s⟩])⟩⟩
def l_spec_l01Split (s : List UInt8) (by_ : Int) : Nat → LoopInv := (fun zb => if Nat.beq zb 0 then .mk (Nat) (fun i => i ≤ s.length) (fun i => s.length - i) [] [2, 3, 8] (fun i => [(7, .imm ⟨(.int .i64), ((i : Int) : Int)⟩), (6, .imm ⟨(.int .i64), ((cutF (bt by_) (s.take i) : Int) : Int)⟩), (5, .row 8)]) [0, 1, 4, 5, 6, 7, 9, 10, 11, 12, 13, 14, 15, 16, 17, 18, 19, 20, 21, 22, 23, 24, 25, 26, 27, 28, 29, 30, 31, 32, 33, 34] (fun i => [(8, .row T_string .str ((cutS (bt by_) (s.take i)).1 : List (List UInt8)))]) [] [] (fun i => fun _ => .none) else .none)
theorem vc_spec_l01Split (s : List UInt8) (by_ : Int) : awp (envOf []) (bodyOf f_spec_l01Split) (l_spec_l01Split s by_) 0 (funPost (envOf []) f_spec_l01Split fun r => areEq r [⟨(.slice .str), cutL (bt by_) s⟩]) (startState f_spec_l01Split [.val ⟨.str, s⟩, .val ⟨(.int .u8), by_⟩]) =
 (((∃ i1 : Nat, (i1 ≤ s.length ∧ ((s = s ∧ (by_ = by_ ∧ (True ∧ (True ∧ ((0 : Int) = (cutF (bt by_) (s.take i1) : Int) ∧ ((0 : Int) = (i1 : Int) ∧ True)))))) ∧ ([] = ((cutS (bt by_) (s.take i1)).1) ∧ True)))) ∧ (∀ i1 : Nat, (i1 ≤ s.length →
 (inI64 ((s.length : Int)) →
 (((decide ((i1 : Int) < ((s.length : Int)))) = true →
 (idxOk (i1 : Int) s.length ∧ (((decide ((((s.getD i1 0).toNat : Int)) = by_)) = true →
 (cutOk (cutF (bt by_) (s.take i1) : Int) (i1 : Int) s.length ∧ (roomOk (((cutS (bt by_) (s.take i1)).1).length + ([((s.take i1).drop (Int.toNat (cutF (bt by_) (s.take i1) : Int)))]).length) 16 ∧ (inI64 ((i1 : Int) + (1 : Int)) ∧ (inI64 ((i1 : Int) + (1 : Int)) ∧ (∃ i2 : Nat, (i2 ≤ s.length ∧ (s.length - i2 < s.length - i1 ∧ ((s = s ∧ (by_ = by_ ∧ (True ∧ (True ∧ (((i1 : Int) + (1 : Int)) = (cutF (bt by_) (s.take i2) : Int) ∧ (((i1 : Int) + (1 : Int)) = (i2 : Int) ∧ True)))))) ∧ ((((cutS (bt by_) (s.take i1)).1) ++ ([((s.take i1).drop (Int.toNat (cutF (bt by_) (s.take i1) : Int)))])) = ((cutS (bt by_) (s.take i2)).1) ∧ True)))))))))) ∧ ((decide ((((s.getD i1 0).toNat : Int)) = by_)) = false →
 (inI64 ((i1 : Int) + (1 : Int)) ∧ (∃ i2 : Nat, (i2 ≤ s.length ∧ (s.length - i2 < s.length - i1 ∧ ((s = s ∧ (by_ = by_ ∧ (True ∧ (True ∧ ((cutF (bt by_) (s.take i1) : Int) = (cutF (bt by_) (s.take i2) : Int) ∧ (((i1 : Int) + (1 : Int)) = (i2 : Int) ∧ True)))))) ∧ (((cutS (bt by_) (s.take i1)).1) = ((cutS (bt by_) (s.take i2)).1) ∧ True)))))))))) ∧ ((decide ((i1 : Int) < ((s.length : Int)))) = false →
 (cutOk (cutF (bt by_) (s.take i1) : Int) ((s.length : Int)) s.length ∧ (roomOk (((cutS (bt by_) (s.take i1)).1).length + ([((s.take (Int.toNat ((s.length : Int)))).drop (Int.toNat (cutF (bt by_) (s.take i1) : Int)))]).length) 16 ∧ (((cutS (bt by_) (s.take i1)).1) ++ ([((s.take (Int.toNat ((s.length : Int)))).drop (Int.toNat (cutF (bt by_) (s.take i1) : Int)))])) = (cutL (bt by_) s)))))))))) := by kernel_rfl
theorem ok_spec_l01Split (hE : AllGood []) : Ctr.Good k_spec_l01Split := by
 refine ⟨fnOk_of at_spec_l01Split rfl (by decide), ?_⟩
 show ∀ (s : List UInt8) (by_ : Int), (s.length ≤ 1048576 ∧ 0 ≤ by_ ∧ by_ ≤ 255) → OkCall prog n_spec_l01Split [.val ⟨.str, s⟩, .val ⟨(.int .u8), by_⟩] (· = [⟨(.slice .str), cutL (bt by_) s⟩])
 intro s by_ hp
 refine ok_of_awp (wr := []) (cl := []) (ro := []) hE at_spec_l01Split body_spec_l01Split (l_spec_l01Split s by_) ?_
 rewrite [vc_spec_l01Split s by_]
 have f0 := bt_eq
 refine ⟨⟨0, ⟨?_, ⟨⟨rfl, ⟨rfl, ⟨trivial, ⟨trivial, ⟨?_, ⟨?_, trivial⟩⟩⟩⟩⟩⟩, ⟨?_, trivial⟩⟩⟩⟩, fun i1 a0 => have b0x0 := cut_step (bt by_) s i1; have b0x1 := cut_len (bt by_) s i1; have b0x2 := cut_all (bt by_) s i1; fun a1 => ⟨fun a2 => ⟨?_, ⟨fun a3 => ⟨?_, ⟨?_, ⟨?_, ⟨?_, ⟨i1 + 1, ⟨?_, ⟨?_, ⟨⟨rfl, ⟨rfl, ⟨trivial, ⟨trivial, ⟨?_, ⟨?_, trivial⟩⟩⟩⟩⟩⟩, ⟨?_, trivial⟩⟩⟩⟩⟩⟩⟩⟩⟩, fun a3 => ⟨?_, ⟨i1 + 1, ⟨?_, ⟨?_, ⟨⟨rfl, ⟨rfl, ⟨trivial, ⟨trivial, ⟨?_, ⟨?_, trivial⟩⟩⟩⟩⟩⟩, ⟨?_, trivial⟩⟩⟩⟩⟩⟩⟩⟩, fun a2 => ⟨?_, ⟨?_, ?_⟩⟩⟩⟩
 all_goals try and_intros
 all_goals first | rfl | trivial | omega | (simp only [decide_eq_true_eq, decide_eq_false_iff_not, idxOk, inI64, cutOk, roomOk, List.length_append, List.length_cons, List.length_nil] at *; first | omega | grind) | grind
theorem good_spec_l01Split : Ctr.Good k_spec_l01Split := ok_spec_l01Split trivial
def k_strings_Split : Ctr := ⟨n_strings_Split, [.v .str, .v .str], fun (s : List UInt8) (p : List UInt8) => ⟨(some (p.length = 1 ∧ s.length ≤ 1048576), [⟨(.slice .str), cutL (p.getD 0 0) s⟩])⟩⟩
open Go.Lib in
set_option maxRecDepth 100000 in
theorem Split_walk (s : ByteArray) (c : UInt8) (w : World) (hs : s.size ≤ 1048576) : Calls Tryd.prog 39 #[.string s, .string ⟨#[c]⟩] w fun e w' =>
  e = .returned (.slice (some ⟨w.heap.size, 0, none⟩) (Lib.splitB ⟨#[c]⟩ 0 (Lib.countB s ⟨#[c]⟩) s).length (Lib.splitB ⟨#[c]⟩ 0 (Lib.countB s ⟨#[c]⟩) s).length) ∧
   w' = w.alloc (.cells ((Lib.splitB ⟨#[c]⟩ 0 (Lib.countB s ⟨#[c]⟩) s).map Value.string).toArray 9) := by
 have h1 : 1 ≤ (⟨#[c]⟩ : ByteArray).size := Nat.le_refl 1
 have hle := Lib.countB_le ⟨#[c]⟩ h1 s.size s (Nat.le_refl _)
 have hlen := Lib.splitB_all ⟨#[c]⟩ h1 0 _ s rfl
 have hI : ∀ (x : ByteArray) (cs : Array Value), x.size ≤ s.size → Calls Tryd.prog 116 #[.string x, .string ⟨#[c]⟩] (w.alloc (.cells cs 9)) fun e w' => e = .returned (.int .i64 (Lib.indexB x ⟨#[c]⟩)) ∧ w' = w.alloc (.cells cs 9) := fun x cs _ => by
  have e : Lib.indexB x ⟨#[c]⟩ = Lib.indexByte x.data.toList c := Lib.index_one x.data.toList c
  rw [e]
  exact Tryd.strings_Index_one x c _
 have hC : Calls Tryd.prog 115 #[.string s, .string ⟨#[c]⟩] w fun e w' => e = .returned (.int .i64 (Lib.countB s ⟨#[c]⟩)) ∧ w' = w := by
  refine (Tryd.strings_Count_one s c w).mono fun e w' ⟨he, hw⟩ => ⟨?_, hw⟩
  rw [he]
  show _ = Ending.returned (Value.int .i64 ((Lib.count s.data.toList [c] : Nat) : Int))
  rw [Lib.count_one]
  rfl
 have cc := Any.strings_genSplit_core Tryd.lays221 (by kernel_rfl) s ⟨#[c]⟩ 0 (-1) (Lib.countB s ⟨#[c]⟩ + 1) w (by omega) h1 (Nat.zero_le _) hI hC (by decide) (by decide) (by rw [if_pos (by decide)]; omega)
 rw [Nat.add_sub_cancel, hlen] at cc
 have e2 : Lib.cellsOf (Lib.splitB ⟨#[c]⟩ 0 (Lib.countB s ⟨#[c]⟩) s) (Lib.countB s ⟨#[c]⟩ + 1) = ((Lib.splitB ⟨#[c]⟩ 0 (Lib.countB s ⟨#[c]⟩) s).map Value.string).toArray := by rw [← hlen]; exact Lib.cellsOf_full _
 rw [e2] at cc
 rw [hlen]
 go_enter Tryd.func39, Tryd.ntmps39
 go_wp2_with (go_at_call 82; refine cc.mono ?_)
 rintro e w1 ⟨he, hw⟩; subst he; rw [hw]
 go_wp2
 go_ret
 exact ⟨rfl, rfl⟩
theorem rdRow_strs {w : World} {S : Nat → Prop} : ∀ (L : List ByteArray) (b o : Nat), (∀ j v, (L.map Value.string)[j]? = some v → w.cell? ⟨b, o + j, none⟩ = some v) → (∀ x ∈ L, x.size ≤ 140737488355328) →
  RdRow w S (L.map fun x => D.str x.data.toList) b o
 | [], _, _, _, _ => trivial
 | x :: L, b, o, h, hs => by
  refine ⟨⟨[.string x], rfl, ⟨x, rfl, rfl, hs x (by simp)⟩, ?_⟩, ?_⟩
  ·intro j v hj
   match j, hj with
   | 0, hj => exact h 0 v (by simpa using hj)
  ·refine rdRow_strs L b _ (fun j v hj => ?_) (fun y hy => hs y (by simp [hy]))
   have := h (j + 1) v (by simpa using hj)
   rw [show o + (D.str x.data.toList).size + j = o + (j + 1) by simp [D.size]; omega]
   exact this
theorem cut_piece (c : UInt8) : ∀ (k : Nat) (l : List UInt8), ∀ p ∈ Lib.splitK [c] 0 k l, p.length ≤ l.length
 | 0, l, p, h => by simp [Lib.splitK] at h; rw [h]; exact Nat.le_refl _
 | k + 1, l, p, h => by
  unfold Lib.splitK at h
  split at h
  ·simp at h; rw [h]; exact Nat.le_refl _
  ·rcases List.mem_cons.1 h with e | e
   ·rw [e]; simp; omega
   ·have := cut_piece c k _ p e
    simp at this; omega
theorem good_strings_Split : Ctr.Good k_strings_Split := by
 refine ⟨fnOk_of at_strings_Split rfl (by decide), ?_⟩
 intro (s : List UInt8) (p : List UInt8) hp w S vals ⟨hS, _⟩ ha
 match vals, ha with
 | [v, u], ha =>
  obtain ⟨⟨x, hv, hx, hxl⟩, ⟨y, hu, hy, hyl⟩, _⟩ := ha
  simp only [List.cons.injEq, and_true] at hv hu
  subst hv hu
  obtain ⟨hp1, hp2⟩ : p.length = 1 ∧ s.length ≤ 1048576 := hp
  obtain ⟨c, rfl⟩ : ∃ c, p = [c] := List.length_eq_one_iff.1 hp1
  have hyc : y = ⟨#[c]⟩ := by
   obtain ⟨d⟩ := y
   have : d.toList = [c] := hy
   congr 1
   exact Array.toList_inj.1 this
  subst hyc
  have hxs : x.size ≤ 1048576 := by
   have : x.data.toList.length = s.length := congrArg List.length hx
   rw [Lib.size_eq, this]; exact hp2
  have hcnt : Lib.countB x ⟨#[c]⟩ = s.count c := by
   show Lib.count x.data.toList [c] = _
   rw [Lib.count_one]
   show x.data.toList.count c = _
   rw [show x.data.toList = s from hx]
  have hdata : (Lib.splitB ⟨#[c]⟩ 0 (Lib.countB x ⟨#[c]⟩) x).map (·.data.toList) = cutL c s := by
   rw [Lib.splitB_data, hcnt, show x.data.toList = s from hx]
   exact split_cut c _ s rfl
  have hlen : (cutL c s).length = (Lib.splitB ⟨#[c]⟩ 0 (Lib.countB x ⟨#[c]⟩) x).length := by rw [← hdata]; simp
  have hcl := cutL_len c s
  have hpc : ∀ z ∈ Lib.splitB ⟨#[c]⟩ 0 (Lib.countB x ⟨#[c]⟩) x, z.size ≤ 140737488355328 := fun z hz => by
   have hm : z.data.toList ∈ Lib.splitK [c] 0 (Lib.countB x ⟨#[c]⟩) x.data.toList := by
    rw [← show ((⟨#[c]⟩ : ByteArray).data.toList) = [c] from rfl, ← Lib.splitB_data]
    exact List.mem_map.2 ⟨z, hz, rfl⟩
   have := cut_piece c _ _ _ hm
   have e1 : z.size = z.data.toList.length := Lib.size_eq z
   have e2 : x.size = x.data.toList.length := Lib.size_eq x
   omega
  refine (Split_walk x c w hxs).mono ?_
  generalize Lib.splitB ⟨#[c]⟩ 0 (Lib.countB x ⟨#[c]⟩) x = L at hdata hlen hpc
  rintro e w' ⟨rfl, rfl⟩
  refine ⟨_, fun b => S b ∨ b = w.heap.size, _, rfl, rfl, ⟨rfl, rfl, rfl, by simp, fun b hb _ => Lib.alloc_old w _ b hb⟩, fun b hb => ⟨fun h => h.elim id (fun e => by omega), Or.inl⟩, fun b h => ?_, ?_⟩
  ·rcases h with h | h
   ·have := hS b h; simp; omega
   ·subst h; simp
  ·show Rd _ _ (TV.toD ⟨.slice .str, cutL c s⟩) [_]
   have e1 : TV.toD ⟨.slice .str, cutL c s⟩ = .slice 1 (L.map fun z => D.str z.data.toList) := by
    show D.slice _ _ = _
    congr 1
    show (cutL c s).map _ = _
    rw [← hdata, List.map_map]; rfl
   rw [e1]
   refine ⟨_, L.length, by rw [List.length_map], by simp, by unfold maxLen; omega, by simp; omega, .inr ⟨w.heap.size, 0, rfl, .inr rfl, rdRow_strs L _ _ (fun j v hj => ?_) hpc⟩⟩
   rw [Lib.cell_of_heap (heap_alloc_new w _)]
   simpa using hj
end
end Go.Proofs.YtkogipcdjalehaaDoor

set_option linter.unusedVariables false
set_option linter.unusedSimpArgs false
set_option linter.unusedSectionVars false
set_option maxRecDepth 4000
set_option maxHeartbeats 4000000
namespace Go.Proofs.YtkogipcdjalehaaDoor
noncomputable section
def isDig (b : UInt8) : Bool := decide (48 ≤ b.toNat) && decide (b.toNat ≤ 57)
def decV (s : List UInt8) : Int := s.foldl (fun n b => n * 10 + ((b.toNat : Int) - 48)) 0
def numB (m : Int) (s : List UInt8) : Bool := decide (1 ≤ s.length) && decide ((s.length : Int) ≤ m) && !(decide (1 < s.length) && decide ((s.getD 0 0).toNat = 48)) && allL isDig s
def numV (m : Int) (s : List UInt8) : Int := bif numB m s then decV s else 0
theorem decV_snoc (s : List UInt8) (k : Nat) (h : k < s.length) : decV (s.take (k + 1)) = decV (s.take k) * 10 + (((s.getD k 0).toNat : Int) - 48) := by
 rw [take_snoc 0 s k h]
 simp [decV, List.foldl_append]
theorem decV_le : ∀ (k : Nat) (s : List UInt8), k ≤ s.length → allL isDig (s.take k) = true → 0 ≤ decV (s.take k) ∧ decV (s.take k) < 10 ^ k
 | 0, s, _, _ => by simp [decV]
 | k + 1, s, h, ha => by
  have h1 := all_take isDig 0 s k (by omega)
  rw [ha] at h1
  have h1' := h1.symm
  simp only [Bool.and_eq_true] at h1'
  obtain ⟨h2, h3⟩ := h1'
  have ih := decV_le k s (by omega) h2
  rw [decV_snoc s k (by omega)]
  simp only [isDig, Bool.and_eq_true, decide_eq_true_eq] at h3
  have : (10 : Int) ^ (k + 1) = 10 ^ k * 10 := by rw [Int.pow_succ]
  omega
theorem decV_small (s : List UInt8) (k : Nat) (h : k ≤ s.length) (h9 : s.length ≤ 9) (ha : allL isDig (s.take k) = true) : 0 ≤ decV (s.take k) ∧ decV (s.take k) ≤ 1000000000 := by
 have := decV_le k s h ha
 have h2 : (10 : Int) ^ k ≤ 10 ^ 9 := by
  have : (10 : Nat) ^ k ≤ 10 ^ 9 := Nat.pow_le_pow_right (by decide) (by omega)
  exact_mod_cast this
 omega
theorem dig_at (s : List UInt8) (k : Nat) : isDig (s.getD k 0) = (decide (48 ≤ (s.getD k 0).toNat) && decide ((s.getD k 0).toNat ≤ 57)) := rfl
theorem u8_min : IntKind.u8.min = 0 := rfl
theorem u8_max : IntKind.u8.max = 255 := rfl
theorem inKind_u8 (n : Int) : inKind .u8 n ↔ 0 ≤ n ∧ n ≤ 255 := Iff.rfl
theorem inKind_i64' (n : Int) : inKind .i64 n ↔ inI64 n := Iff.rfl
theorem numB_eq (m : Int) (s : List UInt8) : numB m s = (decide (1 ≤ s.length) && decide ((s.length : Int) ≤ m) && !(decide (1 < s.length) && decide ((s.getD 0 0).toNat = 48)) && allL isDig s) := rfl
theorem num_no (m : Int) (s : List UInt8) (h : ¬ (1 ≤ s.length ∧ (s.length : Int) ≤ m ∧ ¬ (1 < s.length ∧ (s.getD 0 0).toNat = 48))) : numV m s = 0 ∧ numB m s = false := by
 have e : numB m s = false := by
  cases hb : numB m s with
  | false => rfl
  | true =>
   rw [numB_eq] at hb
   simp only [Bool.and_eq_true, decide_eq_true_eq, Bool.not_eq_true', Bool.and_eq_false_iff, decide_eq_false_iff_not] at hb
   exact absurd ⟨hb.1.1.1, hb.1.1.2, fun h => by rcases hb.1.2 with g | g <;> omega⟩ h
 exact ⟨by simp [numV, e], e⟩
structure numQ (m : Int) (s : List UInt8) (k : Nat) : Prop where
 len : k ≤ s.length ∧ s.length ≤ 9
 ok : 1 ≤ s.length ∧ (s.length : Int) ≤ m ∧ ¬ (1 < s.length ∧ (s.getD 0 0).toNat = 48)
 all : allL isDig (s.take k) = true
theorem num_zero (m : Int) (s : List UInt8) (h : 1 ≤ s.length ∧ (s.length : Int) ≤ m ∧ ¬ (1 < s.length ∧ (s.getD 0 0).toNat = 48)) (hm : m ≤ 9) : numQ m s 0 :=
 ⟨⟨by omega, by omega⟩, h, by simp [allL]⟩
theorem num_bad (m : Int) (s : List UInt8) (k : Nat) (h : numQ m s k) (hk : k < s.length) (hb : (s.getD k 0).toNat < 48 ∨ 57 < (s.getD k 0).toNat) : numV m s = 0 ∧ numB m s = false := by
 have e : allL isDig s = false := all_bad isDig 0 s k hk (by rw [dig_at, Bool.and_eq_false_iff, decide_eq_false_iff_not, decide_eq_false_iff_not]; omega)
 have e' : numB m s = false := by rw [numB_eq, e]; simp
 exact ⟨by simp [numV, e'], e'⟩
theorem num_good (m : Int) (s : List UInt8) (k : Nat) (h : numQ m s k) (hk : k < s.length) (h1 : 48 ≤ (s.getD k 0).toNat) (h2 : (s.getD k 0).toNat ≤ 57) : numQ m s (k + 1) ∧ decV (s.take (k + 1)) = decV (s.take k) * 10 + (((s.getD k 0).toNat : Int) - 48) :=
 ⟨⟨⟨hk, h.len.2⟩, h.ok, by rw [all_take isDig 0 s k hk, h.all, dig_at, decide_eq_true h1, decide_eq_true h2]; rfl⟩, decV_snoc s k hk⟩
theorem num_end (m : Int) (s : List UInt8) (k : Nat) (h : numQ m s k) (hk : s.length ≤ k) : numV m s = decV (s.take k) ∧ numB m s = true := by
 have e : s.take k = s := List.take_of_length_le hk
 have ha := h.all
 rw [e] at ha
 have e' : numB m s = true := by
  rw [numB_eq, ha]
  have := h.ok
  simp only [Bool.and_eq_true, decide_eq_true_eq, Bool.not_eq_true', Bool.and_eq_false_iff, decide_eq_false_iff_not]
  exact ⟨⟨⟨this.1, this.2.1⟩, (Nat.lt_or_ge 1 s.length).elim (fun g => .inr (by omega)) (fun g => .inl (by omega))⟩, trivial⟩
 exact ⟨by rw [e]; simp [numV, e'], e'⟩
theorem num_le (m : Int) (s : List UInt8) (k : Nat) (h : numQ m s k) : k ≤ s.length ∧ 0 ≤ decV (s.take k) ∧ decV (s.take k) ≤ 1000000000 :=
 ⟨h.len.1, decV_small s k h.len.1 h.len.2 h.all⟩
def k_impl_number : Ctr := ⟨n_impl_number, [.v .str, .v (.int .i64)], fun (s : List UInt8) (m : Int) => ⟨(some (0 ≤ m ∧ m ≤ 9), [⟨(.int .i64), numV m s⟩, ⟨.bool, numB m s⟩])⟩⟩
def l_impl_number (s : List UInt8) (m : Int) : Nat → LoopInv := (fun zb => if Nat.beq zb 0 then .mk (Nat) (fun k => numQ m s k) (fun k => s.length - k) [] [1, 2, 3, 8, 9, 10, 11, 12, 13, 14, 15, 16, 17, 18, 19, 20, 21, 22, 23, 24, 25, 26, 27] (fun k => [(29, .imm ⟨(.int .i64), ((k : Int) : Int)⟩), (6, .imm ⟨(.int .i64), (decV (s.take k) : Int)⟩)]) [0, 4, 5, 6, 7, 28, 29, 30, 31, 32, 33, 34, 35, 36, 37, 38, 39, 40, 41, 42, 43, 44, 45, 46, 47, 48, 49, 50, 51] (fun k => []) [] [] (fun k => fun _ => .none) else .none)
abbrev j_impl_number_0 (s : List UInt8) (m : Int) (k1 : Nat) : Prop := (inI64 ((10 : Int) * (decV (s.take k1))) ∧ (idxOk (k1 : Int) s.length ∧ (inKind .u8 ((((s.getD k1 0).toNat : Int)) - (48 : Int)) ∧ (inI64 ((((s.getD k1 0).toNat : Int)) - (48 : Int)) ∧ (inI64 (((10 : Int) * (decV (s.take k1))) + ((((s.getD k1 0).toNat : Int)) - (48 : Int))) ∧ (inI64 ((k1 : Int) + (1 : Int)) ∧ (∃ k2 : Nat, (numQ m s k2 ∧ (s.length - k2 < s.length - k1 ∧ ((s = s ∧ ((((10 : Int) * (decV (s.take k1))) + ((((s.getD k1 0).toNat : Int)) - (48 : Int))) = (decV (s.take k2)) ∧ (((s.length : Int)) = ((s.length : Int)) ∧ (((k1 : Int) + (1 : Int)) = (k2 : Int) ∧ True)))) ∧ True))))))))))
abbrev j_impl_number_1 (s : List UInt8) (m : Int) : Prop := (inI64 ((s.length : Int)) →
 ((∃ k1 : Nat, (numQ m s k1 ∧ ((s = s ∧ ((0 : Int) = (decV (s.take k1)) ∧ (((s.length : Int)) = ((s.length : Int)) ∧ ((0 : Int) = (k1 : Int) ∧ True)))) ∧ True))) ∧ (∀ k1 : Nat, (numQ m s k1 →
 (((decide ((k1 : Int) < ((s.length : Int)))) = true →
 (idxOk (k1 : Int) s.length ∧ (((decide ((((s.getD k1 0).toNat : Int)) < (48 : Int))) = false →
 (idxOk (k1 : Int) s.length ∧ (((decide ((57 : Int) < (((s.getD k1 0).toNat : Int)))) = true →
 ((0 : Int) = (numV m s) ∧ false = (numB m s))) ∧ ((decide ((57 : Int) < (((s.getD k1 0).toNat : Int)))) = false →
 (j_impl_number_0 s m k1))))) ∧ ((decide ((((s.getD k1 0).toNat : Int)) < (48 : Int))) = (!false) →
 ((true = true →
 ((0 : Int) = (numV m s) ∧ false = (numB m s))) ∧ (true = false →
 (j_impl_number_0 s m k1))))))) ∧ ((decide ((k1 : Int) < ((s.length : Int)))) = false →
 ((decV (s.take k1)) = (numV m s) ∧ true = (numB m s))))))))
abbrev j_impl_number_2 (s : List UInt8) (m : Int) : Prop := (inI64 ((s.length : Int)) →
 (((decide ((1 : Int) < ((s.length : Int)))) = true →
 (idxOk (0 : Int) s.length ∧ (((decide ((((s.getD 0 0).toNat : Int)) = (48 : Int))) = true →
 ((0 : Int) = (numV m s) ∧ false = (numB m s))) ∧ ((decide ((((s.getD 0 0).toNat : Int)) = (48 : Int))) = false →
 (j_impl_number_1 s m))))) ∧ ((decide ((1 : Int) < ((s.length : Int)))) = (!true) →
 ((false = true →
 ((0 : Int) = (numV m s) ∧ false = (numB m s))) ∧ (false = false →
 (j_impl_number_1 s m))))))
theorem vc_impl_number (s : List UInt8) (m : Int) : awp (envOf []) (bodyOf f_impl_number) (l_impl_number s m) 0 (funPost (envOf []) f_impl_number fun r => areEq r [⟨(.int .i64), numV m s⟩, ⟨.bool, numB m s⟩]) (startState f_impl_number [.val ⟨.str, s⟩, .val ⟨(.int .i64), m⟩]) =
 ((inI64 ((s.length : Int)) →
 (((decide (((s.length : Int)) < (1 : Int))) = false →
 (inI64 ((s.length : Int)) →
 (((decide (m < ((s.length : Int)))) = false →
 (j_impl_number_2 s m)) ∧ ((decide (m < ((s.length : Int)))) = (!false) →
 ((true = true →
 ((0 : Int) = (numV m s) ∧ false = (numB m s))) ∧ (true = false →
 (j_impl_number_1 s m))))))) ∧ ((decide (((s.length : Int)) < (1 : Int))) = (!false) →
 ((true = false →
 (j_impl_number_2 s m)) ∧ (true = (!false) →
 ((true = true →
 ((0 : Int) = (numV m s) ∧ false = (numB m s))) ∧ (true = false →
 (j_impl_number_1 s m))))))))) := by kernel_rfl
theorem ok_impl_number (hE : AllGood []) : Ctr.Good k_impl_number := by
 refine ⟨fnOk_of at_impl_number rfl (by decide), ?_⟩
 show ∀ (s : List UInt8) (m : Int), (0 ≤ m ∧ m ≤ 9) → OkCall prog n_impl_number [.val ⟨.str, s⟩, .val ⟨(.int .i64), m⟩] (· = [⟨(.int .i64), numV m s⟩, ⟨.bool, numB m s⟩])
 intro s m hp
 refine ok_of_awp (wr := []) (cl := []) (ro := []) hE at_impl_number body_impl_number (l_impl_number s m) ?_
 rewrite [vc_impl_number s m]
 have f1 : decV (s.take 0) = 0 := by simp [decV]
 refine fun a0 => ⟨fun a1 => fun a2 => ⟨fun a3 => fun a4 => ⟨fun a5 => ⟨?_, ⟨fun a6 => ⟨?_, ?_⟩, fun a6 => fun a7 => ⟨⟨0, ⟨?_, ⟨⟨rfl, ⟨?_, ⟨rfl, ⟨?_, trivial⟩⟩⟩⟩, trivial⟩⟩⟩, fun k1 => fun a8 => ⟨fun a9 => ⟨?_, ⟨fun a10 => ⟨?_, ⟨fun a11 => ⟨?_, ?_⟩, fun a11 => ⟨?_, ⟨?_, ⟨?_, ⟨?_, ⟨?_, ⟨?_, ⟨k1 + 1, ⟨?_, ⟨?_, ⟨⟨rfl, ⟨?_, ⟨rfl, ⟨?_, trivial⟩⟩⟩⟩, trivial⟩⟩⟩⟩⟩⟩⟩⟩⟩⟩⟩⟩, fun a10 => ⟨fun a11 => ⟨?_, ?_⟩, fun a11 => ⟨?_, ⟨?_, ⟨?_, ⟨?_, ⟨?_, ⟨?_, ⟨k1 + 1, ⟨?_, ⟨?_, ⟨⟨rfl, ⟨?_, ⟨rfl, ⟨?_, trivial⟩⟩⟩⟩, trivial⟩⟩⟩⟩⟩⟩⟩⟩⟩⟩⟩⟩⟩, fun a9 => ⟨?_, ?_⟩⟩⟩⟩⟩, fun a5 => ⟨fun a6 => ⟨?_, ?_⟩, fun a6 => fun a7 => ⟨⟨0, ⟨?_, ⟨⟨rfl, ⟨?_, ⟨rfl, ⟨?_, trivial⟩⟩⟩⟩, trivial⟩⟩⟩, fun k1 => fun a8 => ⟨fun a9 => ⟨?_, ⟨fun a10 => ⟨?_, ⟨fun a11 => ⟨?_, ?_⟩, fun a11 => ⟨?_, ⟨?_, ⟨?_, ⟨?_, ⟨?_, ⟨?_, ⟨k1 + 1, ⟨?_, ⟨?_, ⟨⟨rfl, ⟨?_, ⟨rfl, ⟨?_, trivial⟩⟩⟩⟩, trivial⟩⟩⟩⟩⟩⟩⟩⟩⟩⟩⟩⟩, fun a10 => ⟨fun a11 => ⟨?_, ?_⟩, fun a11 => ⟨?_, ⟨?_, ⟨?_, ⟨?_, ⟨?_, ⟨?_, ⟨k1 + 1, ⟨?_, ⟨?_, ⟨⟨rfl, ⟨?_, ⟨rfl, ⟨?_, trivial⟩⟩⟩⟩, trivial⟩⟩⟩⟩⟩⟩⟩⟩⟩⟩⟩⟩⟩, fun a9 => ⟨?_, ?_⟩⟩⟩⟩⟩, fun a3 => ⟨fun a4 => ⟨?_, ?_⟩, fun a4 => fun a5 => ⟨⟨0, ⟨?_, ⟨⟨rfl, ⟨?_, ⟨rfl, ⟨?_, trivial⟩⟩⟩⟩, trivial⟩⟩⟩, fun k1 => fun a6 => ⟨fun a7 => ⟨?_, ⟨fun a8 => ⟨?_, ⟨fun a9 => ⟨?_, ?_⟩, fun a9 => ⟨?_, ⟨?_, ⟨?_, ⟨?_, ⟨?_, ⟨?_, ⟨k1 + 1, ⟨?_, ⟨?_, ⟨⟨rfl, ⟨?_, ⟨rfl, ⟨?_, trivial⟩⟩⟩⟩, trivial⟩⟩⟩⟩⟩⟩⟩⟩⟩⟩⟩⟩, fun a8 => ⟨fun a9 => ⟨?_, ?_⟩, fun a9 => ⟨?_, ⟨?_, ⟨?_, ⟨?_, ⟨?_, ⟨?_, ⟨k1 + 1, ⟨?_, ⟨?_, ⟨⟨rfl, ⟨?_, ⟨rfl, ⟨?_, trivial⟩⟩⟩⟩, trivial⟩⟩⟩⟩⟩⟩⟩⟩⟩⟩⟩⟩⟩, fun a7 => ⟨?_, ?_⟩⟩⟩⟩⟩, fun a1 => ⟨fun a2 => fun a3 => ⟨fun a4 => ⟨?_, ⟨fun a5 => ⟨?_, ?_⟩, fun a5 => fun a6 => ⟨⟨0, ⟨?_, ⟨⟨rfl, ⟨?_, ⟨rfl, ⟨?_, trivial⟩⟩⟩⟩, trivial⟩⟩⟩, fun k1 => fun a7 => ⟨fun a8 => ⟨?_, ⟨fun a9 => ⟨?_, ⟨fun a10 => ⟨?_, ?_⟩, fun a10 => ⟨?_, ⟨?_, ⟨?_, ⟨?_, ⟨?_, ⟨?_, ⟨k1 + 1, ⟨?_, ⟨?_, ⟨⟨rfl, ⟨?_, ⟨rfl, ⟨?_, trivial⟩⟩⟩⟩, trivial⟩⟩⟩⟩⟩⟩⟩⟩⟩⟩⟩⟩, fun a9 => ⟨fun a10 => ⟨?_, ?_⟩, fun a10 => ⟨?_, ⟨?_, ⟨?_, ⟨?_, ⟨?_, ⟨?_, ⟨k1 + 1, ⟨?_, ⟨?_, ⟨⟨rfl, ⟨?_, ⟨rfl, ⟨?_, trivial⟩⟩⟩⟩, trivial⟩⟩⟩⟩⟩⟩⟩⟩⟩⟩⟩⟩⟩, fun a8 => ⟨?_, ?_⟩⟩⟩⟩⟩, fun a4 => ⟨fun a5 => ⟨?_, ?_⟩, fun a5 => fun a6 => ⟨⟨0, ⟨?_, ⟨⟨rfl, ⟨?_, ⟨rfl, ⟨?_, trivial⟩⟩⟩⟩, trivial⟩⟩⟩, fun k1 => fun a7 => ⟨fun a8 => ⟨?_, ⟨fun a9 => ⟨?_, ⟨fun a10 => ⟨?_, ?_⟩, fun a10 => ⟨?_, ⟨?_, ⟨?_, ⟨?_, ⟨?_, ⟨?_, ⟨k1 + 1, ⟨?_, ⟨?_, ⟨⟨rfl, ⟨?_, ⟨rfl, ⟨?_, trivial⟩⟩⟩⟩, trivial⟩⟩⟩⟩⟩⟩⟩⟩⟩⟩⟩⟩, fun a9 => ⟨fun a10 => ⟨?_, ?_⟩, fun a10 => ⟨?_, ⟨?_, ⟨?_, ⟨?_, ⟨?_, ⟨?_, ⟨k1 + 1, ⟨?_, ⟨?_, ⟨⟨rfl, ⟨?_, ⟨rfl, ⟨?_, trivial⟩⟩⟩⟩, trivial⟩⟩⟩⟩⟩⟩⟩⟩⟩⟩⟩⟩⟩, fun a8 => ⟨?_, ?_⟩⟩⟩⟩⟩, fun a2 => ⟨fun a3 => ⟨?_, ?_⟩, fun a3 => fun a4 => ⟨⟨0, ⟨?_, ⟨⟨rfl, ⟨?_, ⟨rfl, ⟨?_, trivial⟩⟩⟩⟩, trivial⟩⟩⟩, fun k1 => fun a5 => ⟨fun a6 => ⟨?_, ⟨fun a7 => ⟨?_, ⟨fun a8 => ⟨?_, ?_⟩, fun a8 => ⟨?_, ⟨?_, ⟨?_, ⟨?_, ⟨?_, ⟨?_, ⟨k1 + 1, ⟨?_, ⟨?_, ⟨⟨rfl, ⟨?_, ⟨rfl, ⟨?_, trivial⟩⟩⟩⟩, trivial⟩⟩⟩⟩⟩⟩⟩⟩⟩⟩⟩⟩, fun a7 => ⟨fun a8 => ⟨?_, ?_⟩, fun a8 => ⟨?_, ⟨?_, ⟨?_, ⟨?_, ⟨?_, ⟨?_, ⟨k1 + 1, ⟨?_, ⟨?_, ⟨⟨rfl, ⟨?_, ⟨rfl, ⟨?_, trivial⟩⟩⟩⟩, trivial⟩⟩⟩⟩⟩⟩⟩⟩⟩⟩⟩⟩⟩, fun a6 => ⟨?_, ?_⟩⟩⟩⟩⟩⟩
 all_goals try and_intros
 all_goals first | rfl | trivial | omega | ((try simp only [Bool.not_true, Bool.not_false, decide_eq_true_eq, decide_eq_false_iff_not, idxOk, inKind_u8, inKind_i64', inI64, u8_min, u8_max] at *); first | omega | exact (num_no m s (by omega)).1.symm | exact (num_no m s (by omega)).2.symm | exact num_zero m s (by omega) (by omega) | (have hq : numQ m s k1 := (by with_reducible assumption); have hl := num_le m s k1 hq; first | omega | exact (num_bad m s k1 hq (by omega) (by omega)).1.symm | exact (num_bad m s k1 hq (by omega) (by omega)).2.symm | exact (num_good m s k1 hq (by omega) (by omega) (by omega)).1 | exact (num_good m s k1 hq (by omega) (by omega) (by omega)).2.symm | (rw [(num_good m s k1 hq (by omega) (by omega) (by omega)).2]; omega) | exact (num_end m s k1 hq (by omega)).1.symm | exact (num_end m s k1 hq (by omega)).2.symm))
theorem good_impl_number : Ctr.Good k_impl_number := ok_impl_number trivial
def k_spec_l01Number : Ctr := ⟨n_spec_l01Number, [.v .str], fun (s : List UInt8) => ⟨(none, [⟨(.int .i64), numV 9 s⟩, ⟨.bool, numB 9 s⟩])⟩⟩
def l_spec_l01Number (s : List UInt8) : Nat → LoopInv := (fun zb => if Nat.beq zb 0 then .mk (Nat) (fun k => numQ 9 s k) (fun k => s.length - k) [] [1, 6, 7, 8, 9, 10, 11, 12, 13, 14, 15, 16, 17, 18, 19, 20, 21, 22, 23] (fun k => [(5, .imm ⟨(.int .i64), ((k : Int) : Int)⟩), (4, .imm ⟨(.int .i64), (decV (s.take k) : Int)⟩)]) [0, 2, 3, 4, 5, 24, 25, 26, 27, 28, 29, 30, 31, 32, 33, 34, 35, 36, 37, 38, 39, 40, 41, 42, 43, 44, 45, 46, 47, 48] (fun k => []) [] [] (fun k => fun _ => .none) else .none)
abbrev j_spec_l01Number_0 (s : List UInt8) (k1 : Nat) : Prop := (inI64 ((decV (s.take k1)) * (10 : Int)) ∧ (idxOk (k1 : Int) s.length ∧ (inKind .u8 ((((s.getD k1 0).toNat : Int)) - (48 : Int)) ∧ (inI64 ((((s.getD k1 0).toNat : Int)) - (48 : Int)) ∧ (inI64 (((decV (s.take k1)) * (10 : Int)) + ((((s.getD k1 0).toNat : Int)) - (48 : Int))) ∧ (inI64 ((k1 : Int) + (1 : Int)) ∧ (∃ k2 : Nat, (numQ 9 s k2 ∧ (s.length - k2 < s.length - k1 ∧ ((s = s ∧ ((((decV (s.take k1)) * (10 : Int)) + ((((s.getD k1 0).toNat : Int)) - (48 : Int))) = (decV (s.take k2)) ∧ (((k1 : Int) + (1 : Int)) = (k2 : Int) ∧ True))) ∧ True))))))))))
abbrev j_spec_l01Number_1 (s : List UInt8) : Prop := ((∃ k1 : Nat, (numQ 9 s k1 ∧ ((s = s ∧ ((0 : Int) = (decV (s.take k1)) ∧ ((0 : Int) = (k1 : Int) ∧ True))) ∧ True))) ∧ (∀ k1 : Nat, (numQ 9 s k1 →
 (inI64 ((s.length : Int)) →
 (((decide ((k1 : Int) < ((s.length : Int)))) = true →
 (idxOk (k1 : Int) s.length ∧ (((decide ((((s.getD k1 0).toNat : Int)) < (48 : Int))) = false →
 (idxOk (k1 : Int) s.length ∧ (((decide ((57 : Int) < (((s.getD k1 0).toNat : Int)))) = true →
 ((0 : Int) = (numV 9 s) ∧ false = (numB 9 s))) ∧ ((decide ((57 : Int) < (((s.getD k1 0).toNat : Int)))) = false →
 (j_spec_l01Number_0 s k1))))) ∧ ((decide ((((s.getD k1 0).toNat : Int)) < (48 : Int))) = (!false) →
 ((true = true →
 ((0 : Int) = (numV 9 s) ∧ false = (numB 9 s))) ∧ (true = false →
 (j_spec_l01Number_0 s k1))))))) ∧ ((decide ((k1 : Int) < ((s.length : Int)))) = false →
 ((decV (s.take k1)) = (numV 9 s) ∧ true = (numB 9 s))))))))
abbrev j_spec_l01Number_2 (s : List UInt8) : Prop := (idxOk (0 : Int) s.length ∧ (((decide ((((s.getD 0 0).toNat : Int)) = (48 : Int))) = true →
 (inI64 ((s.length : Int)) →
 (((decide ((1 : Int) < ((s.length : Int)))) = true →
 ((0 : Int) = (numV 9 s) ∧ false = (numB 9 s))) ∧ ((decide ((1 : Int) < ((s.length : Int)))) = false →
 (j_spec_l01Number_1 s))))) ∧ ((decide ((((s.getD 0 0).toNat : Int)) = (48 : Int))) = (!true) →
 ((false = true →
 ((0 : Int) = (numV 9 s) ∧ false = (numB 9 s))) ∧ (false = false →
 (j_spec_l01Number_1 s))))))
theorem vc_spec_l01Number (s : List UInt8) : awp (envOf []) (bodyOf f_spec_l01Number) (l_spec_l01Number s) 0 (funPost (envOf []) f_spec_l01Number fun r => areEq r [⟨(.int .i64), numV 9 s⟩, ⟨.bool, numB 9 s⟩]) (startState f_spec_l01Number [.val ⟨.str, s⟩]) =
 ((inI64 ((s.length : Int)) →
 (((decide (((s.length : Int)) < (1 : Int))) = false →
 (inI64 ((s.length : Int)) →
 (((decide ((9 : Int) < ((s.length : Int)))) = false →
 (j_spec_l01Number_2 s)) ∧ ((decide ((9 : Int) < ((s.length : Int)))) = (!false) →
 ((true = true →
 ((0 : Int) = (numV 9 s) ∧ false = (numB 9 s))) ∧ (true = false →
 (j_spec_l01Number_1 s))))))) ∧ ((decide (((s.length : Int)) < (1 : Int))) = (!false) →
 ((true = false →
 (j_spec_l01Number_2 s)) ∧ (true = (!false) →
 ((true = true →
 ((0 : Int) = (numV 9 s) ∧ false = (numB 9 s))) ∧ (true = false →
 (j_spec_l01Number_1 s))))))))) := by kernel_rfl
theorem ok_spec_l01Number (hE : AllGood []) : Ctr.Good k_spec_l01Number := by
 refine ⟨fnOk_of at_spec_l01Number rfl (by decide), ?_⟩
 show ∀ (s : List UInt8), True → OkCall prog n_spec_l01Number [.val ⟨.str, s⟩] (· = [⟨(.int .i64), numV 9 s⟩, ⟨.bool, numB 9 s⟩])
 intro s _
 refine ok_of_awp (wr := []) (cl := []) (ro := []) hE at_spec_l01Number body_spec_l01Number (l_spec_l01Number s) ?_
 rewrite [vc_spec_l01Number s]
 have f1 : decV (s.take 0) = 0 := by simp [decV]
 refine fun a0 => ⟨fun a1 => fun a2 => ⟨fun a3 => ⟨?_, ⟨fun a4 => fun a5 => ⟨fun a6 => ⟨?_, ?_⟩, fun a6 => ⟨⟨0, ⟨?_, ⟨⟨rfl, ⟨?_, ⟨?_, trivial⟩⟩⟩, trivial⟩⟩⟩, fun k1 => fun a7 => fun a8 => ⟨fun a9 => ⟨?_, ⟨fun a10 => ⟨?_, ⟨fun a11 => ⟨?_, ?_⟩, fun a11 => ⟨?_, ⟨?_, ⟨?_, ⟨?_, ⟨?_, ⟨?_, ⟨k1 + 1, ⟨?_, ⟨?_, ⟨⟨rfl, ⟨?_, ⟨?_, trivial⟩⟩⟩, trivial⟩⟩⟩⟩⟩⟩⟩⟩⟩⟩⟩⟩, fun a10 => ⟨fun a11 => ⟨?_, ?_⟩, fun a11 => ⟨?_, ⟨?_, ⟨?_, ⟨?_, ⟨?_, ⟨?_, ⟨k1 + 1, ⟨?_, ⟨?_, ⟨⟨rfl, ⟨?_, ⟨?_, trivial⟩⟩⟩, trivial⟩⟩⟩⟩⟩⟩⟩⟩⟩⟩⟩⟩⟩, fun a9 => ⟨?_, ?_⟩⟩⟩⟩, fun a4 => ⟨fun a5 => ⟨?_, ?_⟩, fun a5 => ⟨⟨0, ⟨?_, ⟨⟨rfl, ⟨?_, ⟨?_, trivial⟩⟩⟩, trivial⟩⟩⟩, fun k1 => fun a6 => fun a7 => ⟨fun a8 => ⟨?_, ⟨fun a9 => ⟨?_, ⟨fun a10 => ⟨?_, ?_⟩, fun a10 => ⟨?_, ⟨?_, ⟨?_, ⟨?_, ⟨?_, ⟨?_, ⟨k1 + 1, ⟨?_, ⟨?_, ⟨⟨rfl, ⟨?_, ⟨?_, trivial⟩⟩⟩, trivial⟩⟩⟩⟩⟩⟩⟩⟩⟩⟩⟩⟩, fun a9 => ⟨fun a10 => ⟨?_, ?_⟩, fun a10 => ⟨?_, ⟨?_, ⟨?_, ⟨?_, ⟨?_, ⟨?_, ⟨k1 + 1, ⟨?_, ⟨?_, ⟨⟨rfl, ⟨?_, ⟨?_, trivial⟩⟩⟩, trivial⟩⟩⟩⟩⟩⟩⟩⟩⟩⟩⟩⟩⟩, fun a8 => ⟨?_, ?_⟩⟩⟩⟩⟩⟩, fun a3 => ⟨fun a4 => ⟨?_, ?_⟩, fun a4 => ⟨⟨0, ⟨?_, ⟨⟨rfl, ⟨?_, ⟨?_, trivial⟩⟩⟩, trivial⟩⟩⟩, fun k1 => fun a5 => fun a6 => ⟨fun a7 => ⟨?_, ⟨fun a8 => ⟨?_, ⟨fun a9 => ⟨?_, ?_⟩, fun a9 => ⟨?_, ⟨?_, ⟨?_, ⟨?_, ⟨?_, ⟨?_, ⟨k1 + 1, ⟨?_, ⟨?_, ⟨⟨rfl, ⟨?_, ⟨?_, trivial⟩⟩⟩, trivial⟩⟩⟩⟩⟩⟩⟩⟩⟩⟩⟩⟩, fun a8 => ⟨fun a9 => ⟨?_, ?_⟩, fun a9 => ⟨?_, ⟨?_, ⟨?_, ⟨?_, ⟨?_, ⟨?_, ⟨k1 + 1, ⟨?_, ⟨?_, ⟨⟨rfl, ⟨?_, ⟨?_, trivial⟩⟩⟩, trivial⟩⟩⟩⟩⟩⟩⟩⟩⟩⟩⟩⟩⟩, fun a7 => ⟨?_, ?_⟩⟩⟩⟩⟩, fun a1 => ⟨fun a2 => ⟨?_, ⟨fun a3 => fun a4 => ⟨fun a5 => ⟨?_, ?_⟩, fun a5 => ⟨⟨0, ⟨?_, ⟨⟨rfl, ⟨?_, ⟨?_, trivial⟩⟩⟩, trivial⟩⟩⟩, fun k1 => fun a6 => fun a7 => ⟨fun a8 => ⟨?_, ⟨fun a9 => ⟨?_, ⟨fun a10 => ⟨?_, ?_⟩, fun a10 => ⟨?_, ⟨?_, ⟨?_, ⟨?_, ⟨?_, ⟨?_, ⟨k1 + 1, ⟨?_, ⟨?_, ⟨⟨rfl, ⟨?_, ⟨?_, trivial⟩⟩⟩, trivial⟩⟩⟩⟩⟩⟩⟩⟩⟩⟩⟩⟩, fun a9 => ⟨fun a10 => ⟨?_, ?_⟩, fun a10 => ⟨?_, ⟨?_, ⟨?_, ⟨?_, ⟨?_, ⟨?_, ⟨k1 + 1, ⟨?_, ⟨?_, ⟨⟨rfl, ⟨?_, ⟨?_, trivial⟩⟩⟩, trivial⟩⟩⟩⟩⟩⟩⟩⟩⟩⟩⟩⟩⟩, fun a8 => ⟨?_, ?_⟩⟩⟩⟩, fun a3 => ⟨fun a4 => ⟨?_, ?_⟩, fun a4 => ⟨⟨0, ⟨?_, ⟨⟨rfl, ⟨?_, ⟨?_, trivial⟩⟩⟩, trivial⟩⟩⟩, fun k1 => fun a5 => fun a6 => ⟨fun a7 => ⟨?_, ⟨fun a8 => ⟨?_, ⟨fun a9 => ⟨?_, ?_⟩, fun a9 => ⟨?_, ⟨?_, ⟨?_, ⟨?_, ⟨?_, ⟨?_, ⟨k1 + 1, ⟨?_, ⟨?_, ⟨⟨rfl, ⟨?_, ⟨?_, trivial⟩⟩⟩, trivial⟩⟩⟩⟩⟩⟩⟩⟩⟩⟩⟩⟩, fun a8 => ⟨fun a9 => ⟨?_, ?_⟩, fun a9 => ⟨?_, ⟨?_, ⟨?_, ⟨?_, ⟨?_, ⟨?_, ⟨k1 + 1, ⟨?_, ⟨?_, ⟨⟨rfl, ⟨?_, ⟨?_, trivial⟩⟩⟩, trivial⟩⟩⟩⟩⟩⟩⟩⟩⟩⟩⟩⟩⟩, fun a7 => ⟨?_, ?_⟩⟩⟩⟩⟩⟩, fun a2 => ⟨fun a3 => ⟨?_, ?_⟩, fun a3 => ⟨⟨0, ⟨?_, ⟨⟨rfl, ⟨?_, ⟨?_, trivial⟩⟩⟩, trivial⟩⟩⟩, fun k1 => fun a4 => fun a5 => ⟨fun a6 => ⟨?_, ⟨fun a7 => ⟨?_, ⟨fun a8 => ⟨?_, ?_⟩, fun a8 => ⟨?_, ⟨?_, ⟨?_, ⟨?_, ⟨?_, ⟨?_, ⟨k1 + 1, ⟨?_, ⟨?_, ⟨⟨rfl, ⟨?_, ⟨?_, trivial⟩⟩⟩, trivial⟩⟩⟩⟩⟩⟩⟩⟩⟩⟩⟩⟩, fun a7 => ⟨fun a8 => ⟨?_, ?_⟩, fun a8 => ⟨?_, ⟨?_, ⟨?_, ⟨?_, ⟨?_, ⟨?_, ⟨k1 + 1, ⟨?_, ⟨?_, ⟨⟨rfl, ⟨?_, ⟨?_, trivial⟩⟩⟩, trivial⟩⟩⟩⟩⟩⟩⟩⟩⟩⟩⟩⟩⟩, fun a6 => ⟨?_, ?_⟩⟩⟩⟩⟩⟩
 all_goals try and_intros
 all_goals first | rfl | trivial | omega | ((try simp only [Bool.not_true, Bool.not_false, decide_eq_true_eq, decide_eq_false_iff_not, idxOk, inKind_u8, inKind_i64', inI64, u8_min, u8_max] at *); first | omega | exact (num_no 9 s (by omega)).1.symm | exact (num_no 9 s (by omega)).2.symm | exact num_zero 9 s (by omega) (by omega) | (have hq : numQ 9 s k1 := (by with_reducible assumption); have hl := num_le 9 s k1 hq; first | omega | exact (num_bad 9 s k1 hq (by omega) (by omega)).1.symm | exact (num_bad 9 s k1 hq (by omega) (by omega)).2.symm | exact (num_good 9 s k1 hq (by omega) (by omega) (by omega)).1 | exact (num_good 9 s k1 hq (by omega) (by omega) (by omega)).2.symm | (rw [(num_good 9 s k1 hq (by omega) (by omega) (by omega)).2]; omega) | exact (num_end 9 s k1 hq (by omega)).1.symm | exact (num_end 9 s k1 hq (by omega)).2.symm))
theorem good_spec_l01Number : Ctr.Good k_spec_l01Number := ok_spec_l01Number trivial
end
end Go.Proofs.YtkogipcdjalehaaDoor

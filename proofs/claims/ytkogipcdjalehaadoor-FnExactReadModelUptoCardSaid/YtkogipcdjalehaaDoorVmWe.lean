import Derived.Test.YtkogipcdjalehaaDoorVmShelf
import Derived.Test.YtkogipcdjalehaaDoorVmValid
set_option linter.unusedVariables false
set_option maxRecDepth 4000
set_option maxHeartbeats 4000000
namespace Go.Proofs.YtkogipcdjalehaaDoor
open Go.RowKit Go.Proofs
abbrev IsB (B b : Nat) (l : List UInt8) (w : World) : Prop := Lib.IsBuilder 147 5 B b (Lib.byteCells l) w
structure Wr (B b : Nat) (l t : List UInt8) (w w' : World) : Prop where
 isb : IsB B b (l ++ t) w'
 bel : Below B w w'
 keep : KeepT b w w'
theorem Wr.trans {B b : Nat} {l t u : List UInt8} {w w1 w2 : World} (h : Wr B b l t w w1) (k : Wr B b (l ++ t) u w1 w2) : Wr B b l (t ++ u) w w2 :=
 ⟨by rw [← List.append_assoc]; exact k.isb, h.bel.trans k.bel, h.keep.trans k.keep⟩
theorem Wr.alloc {B b : Nat} {l t : List UInt8} {w w1 : World} {o : Obj} (h : Wr B b l t (w.alloc o) w1) (hBw : B ≤ w.heap.size) : Wr B b l t w w1 :=
 ⟨h.isb, ((Below.refl B w).alloc hBw _).trans h.bel, ((KeepT.refl b w).alloc _).trans h.keep⟩
set_option maxRecDepth 100000 in
theorem formatInt_small (i : Nat) (hi : i < 100) (w : World) :
  Calls Tryd.prog 134 #[.int .i64 i, .int .i64 10] w fun e w' => e = .returned (.string ⟨(Lib.decDigits i).toArray⟩) ∧ w' = w := by
 go_enter Tryd.func134, Tryd.ntmps134
 go_wp2_with (go_at_call 150; refine (Tryd.internal_strconv_FormatInt_10_small i hi _).mono ?_)
 rintro e w1 ⟨he, hw⟩; subst he hw
 go_wp2
 go_ret
 exact ⟨rfl, rfl⟩
set_option maxRecDepth 100000 in
theorem decimal_small (i : Nat) (hi : i < 100) (w : World) :
  Calls Tryd.prog 103 #[.int .i64 i] w fun e w' => e = .returned (.string ⟨(Lib.decDigits i).toArray⟩) ∧ w' = w := by
 go_enter Tryd.func103, Tryd.ntmps103
 go_wp2_with (go_at_call 134; refine (formatInt_small i hi _).mono ?_)
 rintro e w1 ⟨he, hw⟩; subst he hw
 go_wp2
 go_ret
 exact ⟨rfl, rfl⟩
end Go.Proofs.YtkogipcdjalehaaDoor

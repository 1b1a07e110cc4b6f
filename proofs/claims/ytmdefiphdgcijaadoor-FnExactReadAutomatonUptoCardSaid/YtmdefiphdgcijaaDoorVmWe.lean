import Derived.Test.YtmdefiphdgcijaaDoorVmBw
set_option linter.unusedVariables false
set_option maxRecDepth 4000
set_option maxHeartbeats 4000000
namespace Go.Proofs.YtmdefiphdgcijaaDoor
open Go.RowKit Go.Proofs
abbrev IsB(B b:Nat)(l:List UInt8)(w:World):Prop:=Lib.IsBuilder 64 5 B b (Lib.byteCells l) w
structure Wr(B b:Nat)(l t:List UInt8)(w w':World):Prop where
 isb:IsB B b (l++t) w'
 bel:Below B w w'
 keep:a6m b w w'
theorem Wr.trans{B b:Nat}{l t u:List UInt8}{w w1 w2:World}(h:Wr B b l t w w1)(k:Wr B b (l++t) u w1 w2):Wr B b l (t++u) w w2 :=
 ⟨by rw[←List.append_assoc];exact k.isb,h.bel.trans k.bel,h.keep.trans k.keep⟩
theorem Wr.alloc{B b:Nat}{l t:List UInt8}{w w1:World}{o:Obj}(h:Wr B b l t (w.alloc o) w1)(hBw:B≤w.heap.size):Wr B b l t w w1 :=
 ⟨h.isb,((Below.refl B w).alloc hBw _).trans h.bel,((a6m.refl b w).alloc _).trans h.keep⟩
theorem ws(B b:Nat)(l:List UInt8)(s:ByteArray)(w:World)(h:IsB B b l w)(hlen:l.length+s.data.toList.length≤140737488355328)(hBw:B≤w.heap.size) :
  Calls Tryd.prog 33 #[.pointer (some ⟨b,0,none⟩), .string s] w fun e w'=>e = .returned (.tuple #[.int .i64 s.size, .nilIface])∧Wr B b l s.data.toList w w':=by
 refine (e2q B b _ s w h (by simpa [Lib.byteCells_length] using hlen) hBw).mono ?_
 rintro e w' ⟨rfl,h1,h2,h3⟩
 refine⟨rfl,?_,h2,h3⟩
 have:Lib.byteCells l++Lib.strCells s=Lib.byteCells (l++s.data.toList):=by simp[Lib.byteCells,Lib.strCells]
 rw[IsB,←this];exact h1
set_option maxRecDepth 100000 in
theorem d5s(i:Nat)(hi:i<100)(w:World) :
  Calls Tryd.prog 46 #[.int .i64 i, .int .i64 10] w fun e w'=>e = .returned (.string ⟨(Lib.decDigits i).toArray⟩)∧w'=w:=by
 go_enter Tryd.func46,Tryd.ntmps46
 go_wp2_with (go_at_call 55;refine (Tryd.internal_strconv_FormatInt_10_small i hi _).mono ?_)
 rintro e w1 ⟨he,hw⟩;subst he hw
 go_wp2
 go_ret
 exact⟨rfl,rfl⟩
set_option maxRecDepth 100000 in
theorem b2z(i:Nat)(hi:i<100)(w:World) :
  Calls Tryd.prog 34 #[.int .i64 i] w fun e w'=>e = .returned (.string ⟨(Lib.decDigits i).toArray⟩)∧w'=w:=by
 go_enter Tryd.func34,Tryd.ntmps34
 go_wp2_with (go_at_call 46;refine (d5s i hi _).mono ?_)
 rintro e w1 ⟨he,hw⟩;subst he hw
 go_wp2
 go_ret
 exact⟨rfl,rfl⟩
end Go.Proofs.YtmdefiphdgcijaaDoor

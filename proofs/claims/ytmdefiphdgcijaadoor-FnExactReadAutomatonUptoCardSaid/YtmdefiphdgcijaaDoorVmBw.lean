/- Shelf, Bw. -/
import Derived.Shelf.Strings.Builder1
import Derived.Shelf.Strconv.Itoa0
import Derived.Shelf.Strconv.Itoa1
import Derived.Shelf.LaysM
import Derived.Shelf.Strconv.Itoa2
import Derived.Shelf.Strconv.Itoa3
import Derived.Shelf.Strconv.Itoa4
import Derived.Shelf.Strings.Search1
import Derived.Shelf.Strings.Search2
import Derived.Shelf.Strings.Search3
import Derived.Shelf.Strings.Count
import Derived.Shelf.Strings.Shaped
import Derived.Shelf.Strings.Split
import Derived.Shelf.Unicode.Decode
import Derived.Shelf.Strings.RuneCount
import Derived.Shelf.Unicode.DecodeSlow
import Derived.Test.YtmdefiphdgcijaaDoorProg
import Derived.WalkKit
import Derived.Lib.Builder
import Derived.Lib.AppendStr
import Derived.Lib.UnsafeStr
import Derived.Lib.Walk
import Derived.Lib.Strings
import Derived.Lib.Slices
import Derived.Lib.MakeNoZero
import Derived.Laws.Externs
import Derived.Laws.IdiomCopy
import Derived.BigCall
import Derived.OwnWalk
namespace Go.Proofs
open Go.Shelf
def Tryd.lays169_ren:Go.Shelf.Ren:=⟨fun|169=>35|n=>n,fun|70=>61|9=>9|0=>0|72=>64|37=>62|127=>79|3=>3|5=>5|n=>n,fun|n=>n⟩
theorem Tryd.lays169:Go.Proofs.Lays.n169 Tryd.prog Tryd.lays169_ren:={
 mixed:=by kernel_rfl
 f169:=Tryd.func35.trans (congrArg some (by kernel_rfl))
 t0:=Tryd.underlying0
 a0:=Tryd.isAgg0
 z0:=Tryd.sizeOf0
 v0:=Tryd.zeroValue0
 t3:=Tryd.underlying3
 a3:=Tryd.isAgg3
 z3:=Tryd.sizeOf3
 v3:=Tryd.zeroValue3
 t9:=Tryd.underlying9
 a9:=Tryd.isAgg9
 z9:=Tryd.sizeOf9
 v9:=Tryd.zeroValue9
 t37:=Tryd.underlying62
 a37:=Tryd.isAgg62
 z37:=Tryd.sizeOf62
 v37:=Tryd.zeroValue62
 t70:=Tryd.underlying61
 a70:=Tryd.isAgg61
 z70:=Tryd.sizeOf61
 v70:=Tryd.zeroValue61
 t72:=Tryd.underlying64
 a72:=Tryd.isAgg64
 z72:=Tryd.sizeOf64
 v72:=Tryd.zeroValue64
 t127:=Tryd.underlying79
 a127:=Tryd.isAgg79
 z127:=Tryd.sizeOf79
 v127:=Tryd.zeroValue79 }
theorem Tryd.Builder_Extra_169:Builder.Extra Tryd.prog Tryd.lays169_ren:={
 sizeBuilder:=by kernel_rfl
 liesBuilder:=by kernel_rfl
 t5:=Tryd.underlying5
 a5:=Tryd.isAgg5
 z5:=Tryd.sizeOf5
 v5:=Tryd.zeroValue5
 infoByte:=by kernel_rfl
 cellsByte:=by kernel_rfl
 sizeByte:=by kernel_rfl
 neB5:=by decide }
open Go.RowKit in
theorem Tryd.Builder_String_any(B b:Nat)(l:List UInt8)(w:World)(h:Lib.IsBuilder 64 5 B b (Lib.byteCells l) w)(hBw:B≤w.heap.size) :
  Calls Tryd.prog 35 #[.pointer (some ⟨b,0,none⟩)] w fun e w'=>e = .returned (.string ⟨l.toArray⟩)∧Below B w w':=Any.Builder_String_any Tryd.lays169 Tryd.Builder_Extra_169 B b l w h hBw
def Tryd.lays246_ren:Go.Shelf.Ren:=⟨fun|246=>55|283=>61|284=>62|285=>63|286=>64|129=>68|317=>67|318=>69|319=>70|320=>71|337=>72|338=>73|n=>n,fun|2=>2|3=>3|9=>9|4=>4|171=>90|0=>0|53=>91|37=>62|5=>5|173=>94|212=>104|51=>100|20=>20|213=>105|46=>75|232=>109|233=>110|n=>n,fun|17=>3|18=>4|19=>5|n=>n⟩
theorem Tryd.lays246:Go.Proofs.Lays.n246 Tryd.prog Tryd.lays246_ren:={
 mixed:=by kernel_rfl
 f129:=Tryd.func68.trans (congrArg some (by kernel_rfl))
 f246:=Tryd.func55.trans (congrArg some (by kernel_rfl))
 f283:=Tryd.func61.trans (congrArg some (by kernel_rfl))
 f284:=Tryd.func62.trans (congrArg some (by kernel_rfl))
 f285:=Tryd.func63.trans (congrArg some (by kernel_rfl))
 f286:=Tryd.func64.trans (congrArg some (by kernel_rfl))
 f317:=Tryd.func67.trans (congrArg some (by kernel_rfl))
 f318:=Tryd.func69.trans (congrArg some (by kernel_rfl))
 f319:=Tryd.func70.trans (congrArg some (by kernel_rfl))
 f320:=Tryd.func71.trans (congrArg some (by kernel_rfl))
 f337:=Tryd.func72.trans (congrArg some (by kernel_rfl))
 f338:=Tryd.func73.trans (congrArg some (by kernel_rfl))
 t0:=Tryd.underlying0
 a0:=Tryd.isAgg0
 z0:=Tryd.sizeOf0
 v0:=Tryd.zeroValue0
 t2:=Tryd.underlying2
 a2:=Tryd.isAgg2
 z2:=Tryd.sizeOf2
 v2:=Tryd.zeroValue2
 t3:=Tryd.underlying3
 a3:=Tryd.isAgg3
 z3:=Tryd.sizeOf3
 v3:=Tryd.zeroValue3
 t4:=Tryd.underlying4
 a4:=Tryd.isAgg4
 z4:=Tryd.sizeOf4
 v4:=Tryd.zeroValue4
 t5:=Tryd.underlying5
 a5:=Tryd.isAgg5
 z5:=Tryd.sizeOf5
 v5:=Tryd.zeroValue5
 t9:=Tryd.underlying9
 a9:=Tryd.isAgg9
 z9:=Tryd.sizeOf9
 v9:=Tryd.zeroValue9
 t20:=Tryd.underlying20
 a20:=Tryd.isAgg20
 z20:=Tryd.sizeOf20
 v20:=Tryd.zeroValue20
 t37:=Tryd.underlying62
 a37:=Tryd.isAgg62
 z37:=Tryd.sizeOf62
 v37:=Tryd.zeroValue62
 t46:=Tryd.underlying75
 a46:=Tryd.isAgg75
 z46:=Tryd.sizeOf75
 v46:=Tryd.zeroValue75
 t51:=Tryd.underlying100
 a51:=Tryd.isAgg100
 z51:=Tryd.sizeOf100
 v51:=Tryd.zeroValue100
 t53:=Tryd.underlying91
 a53:=Tryd.isAgg91
 z53:=Tryd.sizeOf91
 v53:=Tryd.zeroValue91
 t171:=Tryd.underlying90
 a171:=Tryd.isAgg90
 z171:=Tryd.sizeOf90
 v171:=Tryd.zeroValue90
 t173:=Tryd.underlying94
 a173:=Tryd.isAgg94
 z173:=Tryd.sizeOf94
 v173:=Tryd.zeroValue94
 t212:=Tryd.underlying104
 a212:=Tryd.isAgg104
 z212:=Tryd.sizeOf104
 v212:=Tryd.zeroValue104
 t213:=Tryd.underlying105
 a213:=Tryd.isAgg105
 z213:=Tryd.sizeOf105
 t232:=Tryd.underlying109
 a232:=Tryd.isAgg109
 z232:=Tryd.sizeOf109
 v232:=Tryd.zeroValue109
 t233:=Tryd.underlying110
 a233:=Tryd.isAgg110
 z233:=Tryd.sizeOf110
 v233:=Tryd.zeroValue110
 g17:=by kernel_rfl
 g18:=by kernel_rfl
 g19:=by kernel_rfl }
open Go.RowKit Go.Sort Go.Lib in
theorem Tryd.internal_strconv_FormatInt_10_small(i:Nat)(hi:i<100)(w:World) :
  Calls Tryd.prog 55 #[.int .i64 i, .int .i64 10] w fun e w'=>e = .returned (.string ⟨(Lib.decDigits i).toArray⟩)∧w'=w:=Any.internal_strconv_FormatInt_10_small Tryd.lays246 i hi w
def Tryd.lays143_ren:Go.Shelf.Ren:=⟨fun|143=>44|219=>53|217=>57|225=>58|224=>59|267=>60|266=>65|314=>66|n=>n,fun|9=>9|3=>3|4=>4|5=>5|46=>75|146=>101|51=>100|n=>n,fun|1=>0|n=>n⟩
theorem Tryd.lays143:Go.Proofs.Lays.n143 Tryd.prog Tryd.lays143_ren:={
 mixed:=by kernel_rfl
 f143:=Tryd.func44.trans (congrArg some (by kernel_rfl))
 f217:=Tryd.func57.trans (congrArg some (by kernel_rfl))
 f219:=Tryd.func53.trans (congrArg some (by kernel_rfl))
 f224:=Tryd.func59.trans (congrArg some (by kernel_rfl))
 f225:=Tryd.func58.trans (congrArg some (by kernel_rfl))
 f266:=Tryd.func65.trans (congrArg some (by kernel_rfl))
 f267:=Tryd.func60.trans (congrArg some (by kernel_rfl))
 f314:=Tryd.func66.trans (congrArg some (by kernel_rfl))
 t3:=Tryd.underlying3
 a3:=Tryd.isAgg3
 z3:=Tryd.sizeOf3
 v3:=Tryd.zeroValue3
 t4:=Tryd.underlying4
 a4:=Tryd.isAgg4
 z4:=Tryd.sizeOf4
 v4:=Tryd.zeroValue4
 t5:=Tryd.underlying5
 a5:=Tryd.isAgg5
 z5:=Tryd.sizeOf5
 v5:=Tryd.zeroValue5
 t9:=Tryd.underlying9
 a9:=Tryd.isAgg9
 z9:=Tryd.sizeOf9
 v9:=Tryd.zeroValue9
 t46:=Tryd.underlying75
 a46:=Tryd.isAgg75
 z46:=Tryd.sizeOf75
 v46:=Tryd.zeroValue75
 t51:=Tryd.underlying100
 a51:=Tryd.isAgg100
 z51:=Tryd.sizeOf100
 v51:=Tryd.zeroValue100
 t146:=Tryd.underlying101
 a146:=Tryd.isAgg101
 z146:=Tryd.sizeOf101
 v146:=Tryd.zeroValue101
 g1:=by kernel_rfl }
open Go.RowKit Go.Lib in
theorem Tryd.strings_Index_one(s:ByteArray)(c:UInt8)(w:World) :
  Calls Tryd.prog 44 #[.string s, .string ⟨#[c]⟩] w fun e w'=>e = .returned (.int .i64 (Lib.indexByte s.data.toList c))∧w'=w:=Any.strings_Index_one Tryd.lays143 s c w
def Tryd.lays138_ren:Go.Shelf.Ren:=⟨fun|138=>43|195=>50|218=>52|143=>44|219=>53|217=>57|225=>58|224=>59|267=>60|266=>65|314=>66|n=>n,fun|9=>9|3=>3|4=>4|5=>5|0=>0|46=>75|146=>101|51=>100|n=>n,fun|1=>0|n=>n⟩
theorem Tryd.lays138:Go.Proofs.Lays.n138 Tryd.prog Tryd.lays138_ren:={
 mixed:=by kernel_rfl
 f138:=Tryd.func43.trans (congrArg some (by kernel_rfl))
 f143:=Tryd.func44.trans (congrArg some (by kernel_rfl))
 f195:=Tryd.func50.trans (congrArg some (by kernel_rfl))
 f217:=Tryd.func57.trans (congrArg some (by kernel_rfl))
 f218:=Tryd.func52.trans (congrArg some (by kernel_rfl))
 f219:=Tryd.func53.trans (congrArg some (by kernel_rfl))
 f224:=Tryd.func59.trans (congrArg some (by kernel_rfl))
 f225:=Tryd.func58.trans (congrArg some (by kernel_rfl))
 f266:=Tryd.func65.trans (congrArg some (by kernel_rfl))
 f267:=Tryd.func60.trans (congrArg some (by kernel_rfl))
 f314:=Tryd.func66.trans (congrArg some (by kernel_rfl))
 t0:=Tryd.underlying0
 a0:=Tryd.isAgg0
 z0:=Tryd.sizeOf0
 v0:=Tryd.zeroValue0
 t3:=Tryd.underlying3
 a3:=Tryd.isAgg3
 z3:=Tryd.sizeOf3
 v3:=Tryd.zeroValue3
 t4:=Tryd.underlying4
 a4:=Tryd.isAgg4
 z4:=Tryd.sizeOf4
 v4:=Tryd.zeroValue4
 t5:=Tryd.underlying5
 a5:=Tryd.isAgg5
 z5:=Tryd.sizeOf5
 v5:=Tryd.zeroValue5
 t9:=Tryd.underlying9
 a9:=Tryd.isAgg9
 z9:=Tryd.sizeOf9
 v9:=Tryd.zeroValue9
 t46:=Tryd.underlying75
 a46:=Tryd.isAgg75
 z46:=Tryd.sizeOf75
 v46:=Tryd.zeroValue75
 t51:=Tryd.underlying100
 a51:=Tryd.isAgg100
 z51:=Tryd.sizeOf100
 v51:=Tryd.zeroValue100
 t146:=Tryd.underlying101
 a146:=Tryd.isAgg101
 z146:=Tryd.sizeOf101
 v146:=Tryd.zeroValue101
 g1:=by kernel_rfl }
open Go.RowKit Go.Lib in
theorem Tryd.strings_Count_one(s:ByteArray)(c:UInt8)(w:World) :
  Calls Tryd.prog 43 #[.string s, .string ⟨#[c]⟩] w fun e w'=>e = .returned (.int .i64 (Lib.countByte s.data.toList c))∧w'=w:=Any.strings_Count_one Tryd.lays138 s c w
def Tryd.lays221_ren:Go.Shelf.Ren:=⟨fun|221=>29|268=>42|138=>43|143=>44|195=>50|197=>51|218=>52|219=>53|260=>56|217=>57|225=>58|224=>59|267=>60|266=>65|314=>66|n=>n,fun|9=>9|3=>3|31=>33|4=>4|0=>0|105=>83|21=>21|5=>5|46=>75|119=>96|139=>99|138=>98|146=>101|51=>100|n=>n,fun|1=>0|3=>1|4=>2|n=>n⟩
theorem Tryd.lays221:Go.Proofs.Lays.n221 Tryd.prog Tryd.lays221_ren:={
 mixed:=by kernel_rfl
 f138:=Tryd.func43.trans (congrArg some (by kernel_rfl))
 f143:=Tryd.func44.trans (congrArg some (by kernel_rfl))
 f195:=Tryd.func50.trans (congrArg some (by kernel_rfl))
 f197:=Tryd.func51.trans (congrArg some (by kernel_rfl))
 f217:=Tryd.func57.trans (congrArg some (by kernel_rfl))
 f218:=Tryd.func52.trans (congrArg some (by kernel_rfl))
 f219:=Tryd.func53.trans (congrArg some (by kernel_rfl))
 f221:=Tryd.func29.trans (congrArg some (by kernel_rfl))
 f224:=Tryd.func59.trans (congrArg some (by kernel_rfl))
 f225:=Tryd.func58.trans (congrArg some (by kernel_rfl))
 f260:=Tryd.func56.trans (congrArg some (by kernel_rfl))
 f266:=Tryd.func65.trans (congrArg some (by kernel_rfl))
 f267:=Tryd.func60.trans (congrArg some (by kernel_rfl))
 f268:=Tryd.func42.trans (congrArg some (by kernel_rfl))
 f314:=Tryd.func66.trans (congrArg some (by kernel_rfl))
 t0:=Tryd.underlying0
 a0:=Tryd.isAgg0
 z0:=Tryd.sizeOf0
 v0:=Tryd.zeroValue0
 t3:=Tryd.underlying3
 a3:=Tryd.isAgg3
 z3:=Tryd.sizeOf3
 v3:=Tryd.zeroValue3
 t4:=Tryd.underlying4
 a4:=Tryd.isAgg4
 z4:=Tryd.sizeOf4
 v4:=Tryd.zeroValue4
 t5:=Tryd.underlying5
 a5:=Tryd.isAgg5
 z5:=Tryd.sizeOf5
 v5:=Tryd.zeroValue5
 t9:=Tryd.underlying9
 a9:=Tryd.isAgg9
 z9:=Tryd.sizeOf9
 v9:=Tryd.zeroValue9
 t21:=Tryd.underlying21
 a21:=Tryd.isAgg21
 z21:=Tryd.sizeOf21
 v21:=Tryd.zeroValue21
 t31:=Tryd.underlying33
 a31:=Tryd.isAgg33
 z31:=Tryd.sizeOf33
 v31:=Tryd.zeroValue33
 t46:=Tryd.underlying75
 a46:=Tryd.isAgg75
 z46:=Tryd.sizeOf75
 v46:=Tryd.zeroValue75
 t51:=Tryd.underlying100
 a51:=Tryd.isAgg100
 z51:=Tryd.sizeOf100
 v51:=Tryd.zeroValue100
 t105:=Tryd.underlying83
 a105:=Tryd.isAgg83
 z105:=Tryd.sizeOf83
 v105:=Tryd.zeroValue83
 t119:=Tryd.underlying96
 a119:=Tryd.isAgg96
 z119:=Tryd.sizeOf96
 t138:=Tryd.underlying98
 a138:=Tryd.isAgg98
 z138:=Tryd.sizeOf98
 v138:=Tryd.zeroValue98
 t139:=Tryd.underlying99
 a139:=Tryd.isAgg99
 z139:=Tryd.sizeOf99
 v139:=Tryd.zeroValue99
 t146:=Tryd.underlying101
 a146:=Tryd.isAgg101
 z146:=Tryd.sizeOf101
 v146:=Tryd.zeroValue101
 g1:=by kernel_rfl
 g3:=by kernel_rfl
 g4:=by kernel_rfl }
end Go.Proofs

set_option linter.unusedVariables false
set_option maxRecDepth 4000
set_option maxHeartbeats 4000000
namespace Go.Proofs.YtmdefiphdgcijaaDoor
open Go.RowKit Go.Proofs
theorem e2s:(Tryd.prog.info? 64).map (·.size)=some 2:=by kernel_rfl
theorem e9l:liesAt Tryd.prog Tryd.prog.depth 64 (2 / Tryd.prog.cellsOf 64) 0 64 1=true:=by kernel_rfl
theorem e9k:(Tryd.prog.info? 5).map (fun i=>(i.zero,i.size,i.bytes))=some (some (.int .u8 0),1,1):=by kernel_rfl
def a6m(b:Nat)(w w':World):Prop:=∀ k cs T fz,w.heap[k]?=some (.cells cs T fz)→T≠5→k≠b→w'.heap[k]?=w.heap[k]?
theorem a6m.refl(b:Nat)(w:World):a6m b w w:=fun _ _ _ _ _ _ _=>rfl
theorem a6m.trans{b:Nat}{w w1 w2:World}(h:a6m b w w1)(k:a6m b w1 w2):a6m b w w2:=fun i cs T fz hi hT hb=>by
 have e:=h i cs T fz hi hT hb
 rw[k i cs T fz (e.trans hi) hT hb,e]
theorem a6m.setCell{b:Nat}{w w1:World}(h:a6m b w w1)(o:Nat)(v:Value):a6m b w (w1.setCell ⟨b,o,none⟩ v):=fun i cs T fz hi hT hb=>by
 rw[Below.heap_setCell w1 _ v i hb]
 exact h i cs T fz hi hT hb
theorem c6r{w:World}{k:Nat}{x:Obj}(h:w.heap[k]?=some x):k<w.heap.size:=by
 rcases Nat.lt_or_ge k w.heap.size with h'|h'
 ·exact h'
 ·simp[Array.getElem?_eq_none h'] at h
theorem a6m.alloc{b:Nat}{w w1:World}(h:a6m b w w1)(o:Obj):a6m b w (w1.alloc o):=fun i cs T fz hi hT hb=>by
 have e:=h i cs T fz hi hT hb
 rw[←e]
 exact Lib.alloc_old w1 o i (c6r (e.trans hi))
set_option maxRecDepth 100000 in
theorem d7l(b:Nat)(w:World)(h0:w.cell? ⟨b,0,none⟩=some (.pointer (some ⟨b,0,none⟩))) :
  Calls Tryd.prog 45 #[.pointer (some ⟨b,0,none⟩)] w fun e w'=>e = .returned (.tuple #[])∧w'=w:=by
 obtain⟨j,hj,_⟩:=Option.map_eq_some_iff.1 e2s
 go_enter Tryd.func45,Tryd.ntmps45
 go_wp2
 rw[Lib.run_neq_ptr_same w _ Tryd.underlying61 hj]
 go_wp2
 go_end0
 exact⟨rfl,rfl⟩
set_option maxRecDepth 100000 in
theorem d5l(b:Nat)(w:World)(h0:w.cell? ⟨b,0,none⟩=some (.pointer none))(hsh:w.shape? b=some (64,2))(hfz:w.frozen? ⟨b,0,none⟩=false) :
  Calls Tryd.prog 45 #[.pointer (some ⟨b,0,none⟩)] w fun e w'=>e = .returned (.tuple #[])∧w'=w.setCell ⟨b,0,none⟩ (.pointer (some ⟨b,0,none⟩)):=by
 obtain⟨j,hj,hjs⟩:=Option.map_eq_some_iff.1 e2s
 go_enter Tryd.func45,Tryd.ntmps45
 go_wp2
 rw[Lib.run_to_unsafe w ⟨b,0,none⟩ Tryd.underlying61 Tryd.underlying86 hj (by rw[hjs];decide) hsh (Nat.zero_lt_succ 1)]
 simp only[Result.andThen]
 rw[Oper.upon_value]
 go_wp2
 rw[run_callFunc_extern Tryd.func54 (by kernel_rfl) (by kernel_rfl) (by kernel_rfl) (e:=Extern.AbiNoEscape.same) (by kernel_rfl)]
 rw[Lib.run_noEscape]
 simp only[Result.andThen]
 rw[Oper.upon_value]
 go_wp2
 rw[Lib.run_from_unsafe w ⟨b,0,none⟩ Tryd.underlying86 Tryd.underlying61 hj hsh e9l]
 simp only[Result.andThen]
 rw[Oper.upon_value]
 go_wp2
 go_end0
 exact⟨rfl,rfl⟩
theorem e5k(B b:Nat)(bs:List Value)(w:World)(h:Lib.IsBuilder 64 5 B b bs w) :
  Calls Tryd.prog 45 #[.pointer (some ⟨b,0,none⟩)] w fun e w'=>e = .returned (.tuple #[])∧(Lib.BuilderAt 64 5 B b (.pointer (some ⟨b,0,none⟩)) bs w'∧Below B w w'∧a6m b w w'):=by
 rcases h with h|h
 ·refine (d5l b w h.cell0 h.shape h.frozen0).mono ?_
  rintro e w' ⟨rfl,rfl⟩
  exact⟨rfl,h.used _,(Below.refl B w).setCell (p:=⟨b,0,none⟩) h.1 _,(a6m.refl b w).setCell 0 _⟩
 ·refine (d7l b w h.cell0).mono ?_
  rintro e w' ⟨rfl,rfl⟩
  exact⟨rfl,h,Below.refl B _,a6m.refl b _⟩
set_option maxRecDepth 100000 in
theorem e2q(B b:Nat)(bs:List Value)(s:ByteArray)(w:World)(h:Lib.IsBuilder 64 5 B b bs w)(hlen:bs.length+s.size≤140737488355328)(hBw:B≤w.heap.size) :
  Calls Tryd.prog 33 #[.pointer (some ⟨b,0,none⟩), .string s] w fun e w'=>e = .returned (.tuple #[.int .i64 s.size, .nilIface])∧(Lib.IsBuilder 64 5 B b (bs++Lib.strCells s) w'∧Below B w w'∧a6m b w w'):=by
 obtain⟨i0,hi,hz⟩:=Option.map_eq_some_iff.1 e9k
 simp only[Prod.mk.injEq] at hz
 obtain⟨hz0,hz1,hz2⟩:=hz
 go_enter Tryd.func33,Tryd.ntmps33
 go_wp2_with (go_at_call 45;refine (e5k B b bs _ h).mono ?_)
 rintro e w1 ⟨rfl,h1,hb1,hk1⟩
 obtain⟨hB,v,hbk,hown,hne⟩:=h1
 have c0:w1.cell? ⟨b,0,none⟩=some (.pointer (some ⟨b,0,none⟩)):=by rw[Lib.cell_of_heap hbk];rfl
 have c1:w1.cell? ⟨b,1,none⟩=some v:=by rw[Lib.cell_of_heap hbk];rfl
 go_wp2_with (at_builtin;refine Lib.wpList_append_own_string _ rfl _ _ 62 9 rfl B 5 i0 Tryd.underlying62 Tryd.underlying9 hi hz0 hz1 hz2 _ _ _ rfl hown s rfl ?c3 ?c4 ?c5 ?_)
 case c3=>unfold maxLen;omega
 case c4=>omega
 case c5=>have:=hb1.size;omega
 intro v' w2 hown' hgrow _
 have hlt:b<w1.heap.size:=c6r hbk
 have hb2:w2.heap[b]?=some (.cells #[.pointer (some ⟨b,0,none⟩),v] 64 (0,0)):=by
  rw[hgrow.block b hlt (fun e=>hne e.symm)]
  exact hbk
 have d0:w2.cell? ⟨b,0,none⟩=some (.pointer (some ⟨b,0,none⟩)):=by rw[Lib.cell_of_heap hb2];rfl
 have d1:w2.cell? ⟨b,1,none⟩=some v:=by rw[Lib.cell_of_heap hb2];rfl
 have f1:w2.frozen? ⟨b,1,none⟩=false:=Lib.frozen_of_heap hb2 1
 have hk2:a6m b w1 w2:=fun i cs T fz hi hT hib=>hgrow.block i (c6r hi) fun e=>by
  rcases hown.2 with ⟨hv,_⟩|⟨g,cap,cur,hv,_,hg,_⟩
  ·rw[hv] at e;cases e
  ·rw[hv] at e
   injection e with e
   subst e
   rw[hg] at hi
   simp only[Option.some.injEq,Obj.cells.injEq] at hi
   exact hT hi.2.1.symm
 obtain⟨ao,n',cap,rfl⟩:∃ ao n' cap,v' = .slice ao n' cap:=by
  rcases hown'.2 with ⟨hv,_⟩|⟨g,cap,cur,hv,_⟩
  ·exact⟨_,_,_,hv⟩
  ·exact⟨_,_,_,hv⟩
 go_wp2
 go_ret2
 refine⟨rfl,?_,?_,?_⟩
 ·exact Or.inr (Lib.BuilderAt.put (T:=64) (e:=5) hB hb2 (bs':=bs++Lib.strCells s) (by simpa [Lib.strCells_length] using hown') (by decide))
 ·exact (hb1.grown hgrow (by have:=hb1.size;omega) (fun k hk=>(hown.lt k hk).1)).setCell (p:=⟨b,1,none⟩) hB _
 ·exact (hk1.trans hk2).setCell 1 _
end Go.Proofs.YtmdefiphdgcijaaDoor

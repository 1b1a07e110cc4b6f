/- VmValid, VmBw, VmShelf, VmWe, VmText, VmSame1, VmSrc, VmGen, VmBld, VmBld2, VmGen2, VmDTidy, VmDMach, VmDSum, VmDStep, VmDInj, VmISumL, VmIBase, VmSort, VmISum. -/
import Derived.Test.YtncejbehidimmaaGreatDoorVmTruth
import Derived.Test.YtncejbehidimmaaGreatDoorProg
import Derived.WalkKit
import Derived.Lib.Builder
import Derived.Lib.AppendStr
import Derived.Lib.UnsafeStr
import Derived.Lib.Walk
import Derived.Lib.Strings
import Derived.Lib.Slices
import Derived.Lib.MakeNoZero
import Derived.Laws.Externs
import Derived.Laws.IdiomCopy
import Derived.BigCall
import Derived.OwnWalk
import Derived.Shelf.Strings.Builder1
import Derived.Shelf.Small.Strs
import Derived.Shelf.Strconv.Itoa0
import Derived.Shelf.Strconv.Itoa1
import Derived.Shelf.LaysM
import Derived.Shelf.Strconv.Itoa2
import Derived.Shelf.Strconv.Itoa3
import Derived.LoopTactic
import Derived.Deep.RegionHeld3
import Derived.Deep.AppendLies
import Derived.Maps.AppendAt
import Derived.Deep.DeepCutAuto
import Derived.Deep.CutBlock
import Derived.Lib.SliceRun
import Derived.Sort.Statements
import Derived.Shelf.SlSortCmp.NoneTotal
import Derived.Deep.RegionWith
set_option linter.all false
set_option maxHeartbeats 4000000
set_option maxRecDepth 4000
namespace Go.Proofs.YtncejbehidimmaaGreatDoor
def a9D:=@Go.Lib.alloc_old
def b1x:=@Go.Oper.upon_value
def b0d:=@Go.RowKit.Below.refl
def b0J:=@Go.Lib.cell_of_heap
def b2E:=@Go.Lib.fresh_isBuilder
def b2L:=@Nat.le_succ
def b1J:=@Bool.and_true
def a9E:=@Bool.eq_false_or_eq_true
def b0U:=@List.take_add_one
def b2n:=@Bool.false_and
def b2a:=@Go.bodyPost_ret
def b2I:=@Go.results_none
def b2u:=@Go.info_parts
def b1A:=@Go.World.news_of_block
def a9W:=@Go.heap_setCell_other
def a9J:=@Go.heap_setCell_same
def b0v:=@Go.World.ownsRow_made
def b1I:=@List.append_of_mem
def b1f:=@List.mem_of_mem_drop
def b0V:=@Go.wpList_append_own
def b2v:=@Go.wpList_append_own_at
def a9G:=@beq_eq_false_iff_ne
def b2b:=@UInt8.not_lt
def b0r:=@beq_iff_eq
noncomputable section
def bB(gg:aH):Int:=1 * 2 ^ gg.aF.toNat
def iw(gg:aH)(h:0<=gg.aF/\gg.aF<=3):1<=bB gg/\bB gg<=8:=by
 have:gg.aF=0\/gg.aF=1\/gg.aF=2\/gg.aF=3:=by omega
 unfold bB;rcases this with e|e|e|e<;>rw[e]<;>decide
def eY(gg:aH):dj gg=true↔(0<=gg.aF/\gg.aF<=3)/\(0<=gg.ar/\gg.ar<=4):=by
 simp[dj]
def Xc(gg:aH)(x:J):Bool:=FA gg x 200 40
def ub(gg:aH)(x:J):Bool:=dj gg&&Xc gg x
def Zx(gg:aH)(x:J):Xc gg x=true↔bP (aT gg.aF) (aT gg.ar) x=true/\aj x<=200/\bI x<=40:=by
 simp only[Xc,FA,a8I,a8z];constructor
 .rintro⟨⟨a,b⟩,c⟩;exact⟨a,by omega,by omega⟩
 .rintro⟨a,b,c⟩;exact⟨⟨a,by omega⟩,by omega⟩
def Sy(t a t' a':Int)(h1:t<=t')(h2:a<=a')(x:J)(h:oG t a x=true):oG t' a' x=true:=by
 rw[mG] at h ⊢;simp only[Bool.and_eq_true] at h ⊢;refine⟨⟨h.1.1,?_⟩,h.2⟩;have:=h.1.2;unfold yW at this ⊢;split
 .rename_i e;rw[a8A e] at this;simp only[a8z] at this ⊢;omega
 .rename_i e;rw[a8v e] at this;split
  .rename_i e';rw[a8A e'] at this;simp only[a8z] at this ⊢;omega
  .rename_i e';rw[a8v e'] at this;exact this
mutual
def Cj(t a t' a':Int)(h1:t<=t')(h2:a<=a'):∀ x:J,bP t a x=true->bP t' a' x=true
 | ⟨k,n,ks⟩=>λ h=>by
  simp only[bP,a8I] at h ⊢;exact⟨Sy t a t' a' h1 h2 _ h.1,H8 t a t' a' h1 h2 ks h.2⟩
def H8(t a t' a':Int)(h1:t<=t')(h2:a<=a'):∀ xs:List J,rZ t a xs=true->rZ t' a' xs=true
 | []=>λ _=>rfl
 | x::xs=>λ h=>by
  simp only[rZ,a8I] at h ⊢;exact⟨Cj t a t' a' h1 h2 x h.1,H8 t a t' a' h1 h2 xs h.2⟩
end
def lO:aQ:=⟨zS,[.v (.st .sig)],λ (gg:aH)=>⟨(some (0<=gg.aF/\gg.aF<=3),[⟨(.int .i64),bB gg⟩])⟩⟩
def KV(gg:aH):Nat->aG:=cf
def mg:aQ.Good lO:=by
 refine⟨aB wW,?_⟩;intro (gg:aH) (hp:0<=gg.aF/\gg.aF<=3);refine aP [] [] [] [1] trivial wW El (KV gg) (let v0:=(1:Int) * 2 ^ gg.aF.toNat;((ai gg.aF->(((0:Int)<=gg.aF/\(gg.aF<(64:Int)/\ai v0))/\v0=(bB gg))))) ?_;have f1:=iw gg hp;refine λ _=>⟨⟨?_,?_,?_⟩,?_⟩;all_goals try and_intros
 all_goals first|rfl|trivial|(simp only[a8z,a8y,av,ai,uZ,uY,yd,yc,bB] at *;omega)
def oM:aQ:=⟨xU,[.v (.st .sig)],λ (gg:aH)=>⟨(some (0<=gg.aF/\gg.aF<=3),[⟨(.int .i64),bB gg⟩])⟩⟩
def I5(gg:aH):Nat->aG:=cf
def rq:aQ.Good oM:=by
 refine⟨aB uM,?_⟩;intro (gg:aH) (hp:0<=gg.aF/\gg.aF<=3);refine aP [] [] [] [1] trivial uM C7 (I5 gg) (let v0:=(1:Int) * 2 ^ gg.aF.toNat;((ai gg.aF->(cH .u64 gg.aF/\(((0:Int)<=gg.aF/\(gg.aF<(64:Int)/\ai v0))/\v0=(bB gg)))))) ?_;have f1:=iw gg hp;refine λ _=>⟨?_,⟨?_,?_,?_⟩,?_⟩;all_goals try and_intros
 all_goals first|rfl|trivial|(simp only[a8z,a8y,av,ai,uZ,uY,yd,yc,bB] at *;omega)
def Bu:aQ:=⟨BJ,[.v (.st .sig), .v (.st .expr)],λ (gg:aH) (x:J)=>⟨(none,[⟨.bool,Xc gg x⟩])⟩⟩
def Ng(gg:aH)(x:J):Nat->aG:=cf
def GK:aQ.Good Bu:=by
 refine⟨aB zg,?_⟩;intro (gg:aH) (x:J) _;refine aP [Bv] [] [] [2,3] ⟨GM,ae⟩ zg F8 (Ng gg x) (((0<=(200:Int)/\(200:Int)<=1048576/\0<=(40:Int)/\(40:Int)<=1048576)/\(ai (Lx gg x (200:Int) (40:Int))->(FA gg x (200:Int) (40:Int))=(Xc gg x)))) ?_;refine⟨?_,λ _=>?_⟩;all_goals try and_intros
 all_goals first|rfl|trivial|omega|(simp only[a8z,a8y,av,ai,cH,iy,cB,aX] at *;omega)|(simp[av,ai] at *;omega)|grind
def vM:aQ:=⟨vV,[.v (.st .sig), .v (.st .expr)],λ (gg:aH) (x:J)=>⟨(none,[⟨.bool,ub gg x⟩])⟩⟩
def Hn(gg:aH)(x:J):Nat->aG:=cf
def Be:aQ.Good vM:=by
 refine⟨aB sG,?_⟩;intro (gg:aH) (x:J) _;refine aP [Bu,xH] [] [] [2,3] ⟨GK,Dh,ae⟩ sG AN (Hn gg x) ((((dj gg)=true->(Xc gg x)=(ub gg x))/\((dj gg)=(!true)->false=(ub gg x)))) ?_;refine⟨λ _=>?_,λ _=>?_⟩;all_goals try and_intros
 all_goals first|rfl|trivial|(simp_all [ub];done)
def DU:aQ:=⟨D3,[.v (.st .sig), .r (.st .expr)],λ (gg:aH) (x:J)=>⟨(none,[⟨.bool,ub gg x⟩])⟩⟩
def OV(gg:aH)(x:J):Nat->aG:=cf
abbrev zG(gg:aH)(x:J):Prop:=(let v0:=decide (((bI x:Int))<=(40:Int));(bI x<=1048576/\(ai ((bI x:Int)) ->
 ((v0=true ->
 (bP (aT gg.aF) (aT gg.ar) x)=(ub gg x))/\(v0=(!true) ->
 false=(ub gg x))))))
def IG:aQ.Good DU:=by
 refine⟨aB AM,?_⟩;intro (gg:aH) (x:J) _;refine aP [BA,zJ,xJ,zL] [] [] [2] ⟨GS,EV,Dl,EY,ae⟩ AM It (OV gg x) (let v0:=decide ((0:Int)<=(rj (aj x) (200:Int)));let v1:=bP (aT gg.aF) (aT gg.ar) x;((((dj gg)=true->((0<=(200:Int)/\(200:Int)<=1048576)/\(ai (rj (aj x) (200:Int))->((v0=true->(zG gg x))/\(v0=(!true)->((false=true->v1=(ub gg x))/\(false=(!true)->false=(ub gg x))))))))/\((dj gg)=(!true)->((false=true->(zG gg x))/\(false=(!true)->((false=true->v1=(ub gg x))/\(false=(!true)->false=(ub gg x))))))))) ?_;have f1:=nM (aj x) 200;have f2:=Gt x;have f3:ub gg x=(dj gg&&(bP (aT gg.aF) (aT gg.ar) x&&decide ((aj x:Int)<=200)&&decide ((bI x:Int)<=40))):=rfl;refine⟨λ _=>⟨?_,λ _=>⟨λ _=>⟨?_,λ _=>⟨λ _=>?_,λ _=>?_⟩⟩,λ _=>⟨λ _=>?_,λ _=>?_⟩⟩⟩,λ _=>⟨λ _=>⟨?_,λ _=>⟨λ _=>?_,λ _=>?_⟩⟩,λ _=>⟨λ _=>?_,λ _=>?_⟩⟩⟩;all_goals try and_intros
 all_goals try rw[f3]
 all_goals first|rfl|trivial|omega|(simp only[a8z,a8y,a8S,a9b] at *;omega)|grind
end
end Go.Proofs.YtncejbehidimmaaGreatDoor

namespace Go.Proofs.YtncejbehidimmaaGreatDoor
open Go.RowKit Go.Proofs
def R1:(Tryz.prog.info? 120).map (·.size)=some 2:=by kernel_rfl
def Yk:liesAt Tryz.prog Tryz.prog.depth 120 (2 / Tryz.prog.cellsOf 120) 0 120 1=true:=by kernel_rfl
def Yj:(Tryz.prog.info? 5).map (λ i=>(i.zero,i.size,i.bytes))=some (some (.int .u8 0),1,1):=by kernel_rfl
def gb(b:Nat)(w w':World):Prop:=∀ k cs T fz,w.heap[k]?=some (.cells cs T fz)->T≠5->k≠b->w'.heap[k]?=w.heap[k]?
def gb.refl(b:Nat)(w:World):gb b w w:=λ _ _ _ _ _ _ _=>rfl
def gb.trans{b:Nat}{w w1 w2:World}(h:gb b w w1)(k:gb b w1 w2):gb b w w2:=λ i cs T fz hi hT hb=>by
 have e:=h i cs T fz hi hT hb;rw[k i cs T fz (e.trans hi) hT hb,e]
def gb.setCell{b:Nat}{w w1:World}(h:gb b w w1)(o:Nat)(v:Value):gb b w (w1.setCell ⟨b,o,none⟩ v):=λ i cs T fz hi hT hb=>by
 rw[Below.heap_setCell w1 _ v i hb];exact h i cs T fz hi hT hb
def bn{w:World}{k:Nat}{x:Obj}(h:w.heap[k]?=some x):k<w.heap.size:=by
 rcases a8Q k w.heap.size with h'|h'
 .exact h'
 .simp[a9M h'] at h
def gb.alloc{b:Nat}{w w1:World}(h:gb b w w1)(o:Obj):gb b w (w1.alloc o):=λ i cs T fz hi hT hb=>by
 have e:=h i cs T fz hi hT hb;rw[<-e];exact a9D w1 o i (bn (e.trans hi))
set_option maxRecDepth 100000 in
def KG(b:Nat)(w:World)(h0:w.cell? ⟨b,0,none⟩=some (.pointer (some ⟨b,0,none⟩))) :
  Calls Tryz.prog 101 #[.pointer (some ⟨b,0,none⟩)] w λ e w'=>e = .returned (.tuple #[])/\w'=w:=by
 obtain⟨j,hj,_⟩:=a8Z.1 R1;go_enter Tryz.func101,Tryz.ntmps101;go_wp2;rw[Lib.run_neq_ptr_same w _ Tryz.underlying117 hj];go_wp2;go_end0;exact⟨rfl,rfl⟩
set_option maxRecDepth 100000 in
def Iv(b:Nat)(w:World)(h0:w.cell? ⟨b,0,none⟩=some (.pointer none))(W6:w.shape? b=some (120,2))(hfz:w.frozen? ⟨b,0,none⟩=false) :
  Calls Tryz.prog 101 #[.pointer (some ⟨b,0,none⟩)] w λ e w'=>e = .returned (.tuple #[])/\w'=w.setCell ⟨b,0,none⟩ (.pointer (some ⟨b,0,none⟩)):=by
 obtain⟨j,hj,hjs⟩:=a8Z.1 R1;go_enter Tryz.func101,Tryz.ntmps101;go_wp2;rw[Lib.run_to_unsafe w ⟨b,0,none⟩ Tryz.underlying117 Tryz.underlying159 hj (by rw[hjs];decide) W6 (Nat.zero_lt_succ 1)];simp only[Result.andThen];rw[b1x];go_wp2;rw[run_callFunc_extern Tryz.func112 (by kernel_rfl) (by kernel_rfl) (by kernel_rfl) (e:=Extern.AbiNoEscape.same) (by kernel_rfl)];rw[Lib.run_noEscape];simp only[Result.andThen];rw[b1x];go_wp2;rw[Lib.run_from_unsafe w ⟨b,0,none⟩ Tryz.underlying159 Tryz.underlying117 hj W6 Yk];simp only[Result.andThen];rw[b1x];go_wp2;go_end0;exact⟨rfl,rfl⟩
def Ui(B b:Nat)(bs:List Value)(w:World)(h:Lib.IsBuilder 120 5 B b bs w) :
  Calls Tryz.prog 101 #[.pointer (some ⟨b,0,none⟩)] w λ e w'=>e = .returned (.tuple #[])/\(Lib.BuilderAt 120 5 B b (.pointer (some ⟨b,0,none⟩)) bs w'/\Below B w w'/\gb b w w'):=by
 rcases h with h|h
 .refine (Iv b w h.cell0 h.shape h.frozen0).mono ?_;rintro e w' ⟨rfl,rfl⟩;exact⟨rfl,h.used _,(b0d B w).setCell (p:=⟨b,0,none⟩) h.1 _,(gb.refl b w).setCell 0 _⟩
 .refine (KG b w h.cell0).mono ?_;rintro e w' ⟨rfl,rfl⟩;exact⟨rfl,h,b0d B _,gb.refl b _⟩
set_option maxRecDepth 100000 in
def writeString(B b:Nat)(bs:List Value)(s:ByteArray)(w:World)(h:Lib.IsBuilder 120 5 B b bs w)(hlen:bs.length+s.size<=140737488355328)(gj:B<=w.heap.size) :
  Calls Tryz.prog 82 #[.pointer (some ⟨b,0,none⟩), .string s] w λ e w'=>e = .returned (.tuple #[.int .i64 s.size, .nilIface])/\(Lib.IsBuilder 120 5 B b (bs++Lib.strCells s) w'/\Below B w w'/\gb b w w'):=by
 obtain⟨i0,hi,hz⟩:=a8Z.1 Yj;simp only[a8u] at hz;obtain⟨KS,IQ,Hi⟩:=hz;go_enter Tryz.func82,Tryz.ntmps82;go_wp2_with (go_at_call 101;refine (Ui B b bs _ h).mono ?_);rintro e w1 ⟨rfl,h1,wI,rR⟩;obtain⟨hB,v,UF,dk,dh⟩:=h1;have c0:w1.cell? ⟨b,0,none⟩=some (.pointer (some ⟨b,0,none⟩)):=by rw[b0J UF];rfl
 have c1:w1.cell? ⟨b,1,none⟩=some v:=by rw[b0J UF];rfl
 go_wp2_with (at_builtin;refine Lib.wpList_append_own_string _ rfl _ _ 118 9 rfl B 5 i0 Tryz.underlying118 Tryz.underlying9 hi KS IQ Hi _ _ _ rfl dk s rfl ?c3 ?c4 ?c5 ?_);case c3=>unfold maxLen;omega
 case c4=>omega
 case c5=>have:=wI.size;omega
 intro v' w2 Zm cU _;have bm:b<w1.heap.size:=bn UF;have Bj:w2.heap[b]?=some (.cells #[.pointer (some ⟨b,0,none⟩),v] 120 (0,0)):=by
  rw[cU.block b bm (λ e=>dh e.symm)];exact UF
 have d0:w2.cell? ⟨b,0,none⟩=some (.pointer (some ⟨b,0,none⟩)):=by rw[b0J Bj];rfl
 have d1:w2.cell? ⟨b,1,none⟩=some v:=by rw[b0J Bj];rfl
 have f1:w2.frozen? ⟨b,1,none⟩=false:=Lib.frozen_of_heap Bj 1;have hk2:gb b w1 w2:=λ i cs T fz hi hT hib=>cU.block i (bn hi) λ e=>by
  rcases dk.2 with ⟨hv,_⟩|⟨g,cap,cur,hv,_,hg,_⟩
  .rw[hv] at e;cases e
  .rw[hv] at e;injection e with e;subst e;rw[hg] at hi;simp only[a8r,Obj.cells.injEq] at hi;exact hT hi.2.1.symm
 obtain⟨ao,n',cap,rfl⟩:∃ ao n' cap,v' = .slice ao n' cap:=by
  rcases Zm.2 with ⟨hv,_⟩|⟨g,cap,cur,hv,_⟩
  .exact⟨_,_,_,hv⟩
  .exact⟨_,_,_,hv⟩
 go_wp2;go_ret2;refine⟨rfl,?_,?_,?_⟩
 .exact Or.inr (Lib.BuilderAt.put (T:=120) (e:=5) hB Bj (bs':=bs++Lib.strCells s) (by simpa [Lib.strCells_length] using Zm) (by decide))
 .exact (wI.grown cU (by have:=wI.size;omega) (λ k hk=>(dk.lt k hk).1)).setCell (p:=⟨b,1,none⟩) hB _
 .exact (rR.trans hk2).setCell 1 _
end Go.Proofs.YtncejbehidimmaaGreatDoor

namespace Go.Proofs
open Go.Shelf
def Tryz.Hq:Go.Shelf.Ren:=⟨λ|169=>84|n=>n,λ|70=>117|9=>9|0=>0|72=>120|37=>118|127=>150|3=>3|5=>5|n=>n,λ|n=>n⟩
def Tryz.ZH:Go.Proofs.Lays.n169 Tryz.prog Tryz.Hq:={
 mixed:=by kernel_rfl
 f169:=Tryz.func84.trans (congrArg some (by kernel_rfl))
 t0:=Tryz.underlying0
 a0:=Tryz.isAgg0
 z0:=Tryz.sizeOf0
 v0:=Tryz.zeroValue0
 t3:=Tryz.underlying3
 a3:=Tryz.isAgg3
 z3:=Tryz.sizeOf3
 v3:=Tryz.zeroValue3
 t9:=Tryz.underlying9
 a9:=Tryz.isAgg9
 z9:=Tryz.sizeOf9
 v9:=Tryz.zeroValue9
 t37:=Tryz.underlying118
 a37:=Tryz.isAgg118
 z37:=Tryz.sizeOf118
 v37:=Tryz.zeroValue118
 t70:=Tryz.underlying117
 a70:=Tryz.isAgg117
 z70:=Tryz.sizeOf117
 v70:=Tryz.zeroValue117
 t72:=Tryz.underlying120
 a72:=Tryz.isAgg120
 z72:=Tryz.sizeOf120
 v72:=Tryz.zeroValue120
 t127:=Tryz.underlying150
 a127:=Tryz.isAgg150
 z127:=Tryz.sizeOf150
 v127:=Tryz.zeroValue150 }
def Tryz.Ef:Builder.Extra Tryz.prog Tryz.Hq:={
 sizeBuilder:=by kernel_rfl
 liesBuilder:=by kernel_rfl
 t5:=Tryz.underlying5
 a5:=Tryz.isAgg5
 z5:=Tryz.sizeOf5
 v5:=Tryz.zeroValue5
 infoByte:=by kernel_rfl
 cellsByte:=by kernel_rfl
 sizeByte:=by kernel_rfl
 neB5:=by decide }
open Go.RowKit in
def Tryz.Builder_String_any(B b:Nat)(l:List UInt8)(w:World)(h:Lib.IsBuilder 120 5 B b (Lib.byteCells l) w)(gj:B<=w.heap.size) :
  Calls Tryz.prog 84 #[.pointer (some ⟨b,0,none⟩)] w λ e w'=>e = .returned (.string ⟨l.toArray⟩)/\Below B w w':=Any.Builder_String_any Tryz.ZH Tryz.Ef B b l w h gj
def Tryz.Q8:Go.Shelf.Ren:=⟨λ|246=>113|283=>127|284=>128|285=>129|286=>130|129=>124|317=>136|318=>137|319=>138|320=>139|337=>141|338=>142|n=>n,λ|2=>2|3=>3|9=>9|4=>4|171=>174|0=>0|53=>172|37=>118|5=>5|173=>176|212=>186|51=>170|20=>20|213=>187|46=>132|232=>192|233=>193|n=>n,λ|17=>1|18=>2|19=>3|n=>n⟩
def Tryz.ZI:Go.Proofs.Lays.n246 Tryz.prog Tryz.Q8:={
 mixed:=by kernel_rfl
 f129:=Tryz.func124.trans (congrArg some (by kernel_rfl))
 f246:=Tryz.func113.trans (congrArg some (by kernel_rfl))
 f283:=Tryz.func127.trans (congrArg some (by kernel_rfl))
 f284:=Tryz.func128.trans (congrArg some (by kernel_rfl))
 f285:=Tryz.func129.trans (congrArg some (by kernel_rfl))
 f286:=Tryz.func130.trans (congrArg some (by kernel_rfl))
 f317:=Tryz.func136.trans (congrArg some (by kernel_rfl))
 f318:=Tryz.func137.trans (congrArg some (by kernel_rfl))
 f319:=Tryz.func138.trans (congrArg some (by kernel_rfl))
 f320:=Tryz.func139.trans (congrArg some (by kernel_rfl))
 f337:=Tryz.func141.trans (congrArg some (by kernel_rfl))
 f338:=Tryz.func142.trans (congrArg some (by kernel_rfl))
 t0:=Tryz.underlying0
 a0:=Tryz.isAgg0
 z0:=Tryz.sizeOf0
 v0:=Tryz.zeroValue0
 t2:=Tryz.underlying2
 a2:=Tryz.isAgg2
 z2:=Tryz.sizeOf2
 v2:=Tryz.zeroValue2
 t3:=Tryz.underlying3
 a3:=Tryz.isAgg3
 z3:=Tryz.sizeOf3
 v3:=Tryz.zeroValue3
 t4:=Tryz.underlying4
 a4:=Tryz.isAgg4
 z4:=Tryz.sizeOf4
 v4:=Tryz.zeroValue4
 t5:=Tryz.underlying5
 a5:=Tryz.isAgg5
 z5:=Tryz.sizeOf5
 v5:=Tryz.zeroValue5
 t9:=Tryz.underlying9
 a9:=Tryz.isAgg9
 z9:=Tryz.sizeOf9
 v9:=Tryz.zeroValue9
 t20:=Tryz.underlying20
 a20:=Tryz.isAgg20
 z20:=Tryz.sizeOf20
 v20:=Tryz.zeroValue20
 t37:=Tryz.underlying118
 a37:=Tryz.isAgg118
 z37:=Tryz.sizeOf118
 v37:=Tryz.zeroValue118
 t46:=Tryz.underlying132
 a46:=Tryz.isAgg132
 z46:=Tryz.sizeOf132
 v46:=Tryz.zeroValue132
 t51:=Tryz.underlying170
 a51:=Tryz.isAgg170
 z51:=Tryz.sizeOf170
 v51:=Tryz.zeroValue170
 t53:=Tryz.underlying172
 a53:=Tryz.isAgg172
 z53:=Tryz.sizeOf172
 v53:=Tryz.zeroValue172
 t171:=Tryz.underlying174
 a171:=Tryz.isAgg174
 z171:=Tryz.sizeOf174
 v171:=Tryz.zeroValue174
 t173:=Tryz.underlying176
 a173:=Tryz.isAgg176
 z173:=Tryz.sizeOf176
 v173:=Tryz.zeroValue176
 t212:=Tryz.underlying186
 a212:=Tryz.isAgg186
 z212:=Tryz.sizeOf186
 v212:=Tryz.zeroValue186
 t213:=Tryz.underlying187
 a213:=Tryz.isAgg187
 z213:=Tryz.sizeOf187
 t232:=Tryz.underlying192
 a232:=Tryz.isAgg192
 z232:=Tryz.sizeOf192
 v232:=Tryz.zeroValue192
 t233:=Tryz.underlying193
 a233:=Tryz.isAgg193
 z233:=Tryz.sizeOf193
 v233:=Tryz.zeroValue193
 g17:=by kernel_rfl
 g18:=by kernel_rfl
 g19:=by kernel_rfl }
open Go.RowKit Go.Sort Go.Lib in
def Tryz.internal_strconv_FormatInt_10_small(i:Nat)(hi:i<100)(w:World) :
  Calls Tryz.prog 113 #[.int .i64 i, .int .i64 10] w λ e w'=>e = .returned (.string ⟨(Lib.decDigits i).toArray⟩)/\w'=w:=Any.internal_strconv_FormatInt_10_small Tryz.ZI i hi w
end Go.Proofs

namespace Go.Proofs.YtncejbehidimmaaGreatDoor
open Go.RowKit Go.Proofs
def Mf{B b:Nat}{p:Value}{bs:List Value}{w:World}(h:Lib.BuilderAt 120 5 B b p bs w)(o:Obj):Lib.BuilderAt 120 5 B b p bs (w.alloc o):=by
 obtain⟨hB,v,hb,dk,dh⟩:=h;exact⟨hB,v,by rw[a9D w o b (bn hb)];exact hb,dk.alloc _,dh⟩
abbrev nZ(B b:Nat)(l:List UInt8)(w:World):Prop:=Lib.IsBuilder 120 5 B b (Lib.byteCells l) w
def iC{B b:Nat}{l:List UInt8}{w:World}(h:nZ B b l w)(o:Obj):nZ B b l (w.alloc o):=h.imp (λ h=>Mf h o) (λ h=>Mf h o)
def Hk{B b:Nat}{l:List UInt8}{w:World}(h:nZ B b l w):b<w.heap.size:=by
 rcases h with h|h<;>exact h.lt
def mE{B:Nat}{w:World}(h:B<=w.heap.size)(o:Obj):B<=(w.alloc o).heap.size:=by simp;omega
def xi{b:Nat}{w w1:World}{cs:Array Value}(h:gb b (w.alloc (.cells cs 36)) w1)(hb:b<w.heap.size)(j:Nat){v:Value}(hj:cs[j]?=some v):w1.cell? ⟨w.heap.size,j,none⟩=some v:=by
 have e:=h w.heap.size cs 36 (0,0) (a9N w _) (by decide) (by omega);rw[b0B (a:=⟨w.heap.size,j,none⟩) e,b0J (a9N w _)];exact hj
structure Wr(B b:Nat)(l t:List UInt8)(w w':World):Prop where
 Fi:nZ B b (l++t) w'
 cK:Below B w w'
 aE:gb b w w'
def Wr.trans{B b:Nat}{l t u:List UInt8}{w w1 w2:World}(h:Wr B b l t w w1)(k:Wr B b (l++t) u w1 w2):Wr B b l (t++u) w w2 :=
 ⟨by rw[<-a8Y];exact k.Fi,h.cK.trans k.cK,h.aE.trans k.aE⟩
def Wr.alloc{B b:Nat}{l t:List UInt8}{w w1:World}{o:Obj}(h:Wr B b l t (w.alloc o) w1)(gj:B<=w.heap.size):Wr B b l t w w1 :=
 ⟨h.Fi,((b0d B w).alloc gj _).trans h.cK,((gb.refl b w).alloc _).trans h.aE⟩
def ws(B b:Nat)(l:List UInt8)(s:ByteArray)(w:World)(h:nZ B b l w)(hlen:l.length+s.data.toList.length<=140737488355328)(gj:B<=w.heap.size) :
  Calls Tryz.prog 82 #[.pointer (some ⟨b,0,none⟩), .string s] w λ e w'=>e = .returned (.tuple #[.int .i64 s.size, .nilIface])/\Wr B b l s.data.toList w w':=by
 refine (writeString B b _ s w h (by simpa [Lib.byteCells_length] using hlen) gj).mono ?_;rintro e w' ⟨rfl,h1,h2,h3⟩;refine⟨rfl,?_,h2,h3⟩;have:Lib.byteCells l++Lib.strCells s=Lib.byteCells (l++s.data.toList):=by simp[Lib.byteCells,Lib.strCells]
 rw[nZ,<-this];exact h1
abbrev CZ(B b:Nat)(v:Value)(l t:List UInt8)(w:World):Prop :=
 Calls Tryz.prog 105 #[.pointer (some ⟨b,0,none⟩),v] w λ e w'=>e = .returned (.tuple #[])/\Wr B b l t w w'
set_option maxRecDepth 100000 in
def IB(i:Nat)(hi:i<100)(w:World) :
  Calls Tryz.prog 102 #[.int .i64 i, .int .i64 10] w λ e w'=>e = .returned (.string ⟨(Lib.decDigits i).toArray⟩)/\w'=w:=by
 go_enter Tryz.func102,Tryz.ntmps102;go_wp2_with (go_at_call 113;refine (Tryz.internal_strconv_FormatInt_10_small i hi _).mono ?_);rintro e w1 ⟨he,hw⟩;subst he hw;go_wp2;go_ret;exact⟨rfl,rfl⟩
set_option maxRecDepth 100000 in
def mY(i:Nat)(hi:i<100)(w:World) :
  Calls Tryz.prog 83 #[.int .i64 i] w λ e w'=>e = .returned (.string ⟨(Lib.decDigits i).toArray⟩)/\w'=w:=by
 go_enter Tryz.func83,Tryz.ntmps83;go_wp2_with (go_at_call 102;refine (IB i hi _).mono ?_);rintro e w1 ⟨he,hw⟩;subst he hw;go_wp2;go_ret;exact⟨rfl,rfl⟩
set_option maxRecDepth 100000 in
def we1(B b:Nat)(l:List UInt8)(n:Int)(sl:Value)(w:World)(h:nZ B b l w)(hlen:l.length+1<=140737488355328)(gj:B<=w.heap.size) :
  CZ B b (.agg #[.int .i64 1, .int .i64 n,sl]) l [48] w:=by
 go_enter Tryz.func105,Tryz.ntmps105;go_wp2_with (go_at_call 82;refine (ws B b l _ _ (iC h _) (by exact hlen) (mE gj _)).mono ?_);intro e w1 he h1;subst he;go_wp2;go_end0;exact⟨rfl,h1.alloc gj⟩
set_option maxRecDepth 100000 in
def we2(B b:Nat)(l:List UInt8)(n:Int)(sl:Value)(w:World)(h:nZ B b l w)(hlen:l.length+1<=140737488355328)(gj:B<=w.heap.size) :
  CZ B b (.agg #[.int .i64 2, .int .i64 n,sl]) l [49] w:=by
 go_enter Tryz.func105,Tryz.ntmps105;go_wp2_with (go_at_call 82;refine (ws B b l _ _ (iC h _) (by exact hlen) (mE gj _)).mono ?_);intro e w1 he h1;subst he;go_wp2;go_end0;exact⟨rfl,h1.alloc gj⟩
set_option maxRecDepth 100000 in
def we3(B b:Nat)(l:List UInt8)(i:Nat)(hi:i<100)(sl:Value)(w:World)(h:nZ B b l w)(hlen:l.length+((Lib.decDigits i).length+1)<=140737488355328)(gj:B<=w.heap.size) :
  CZ B b (.agg #[.int .i64 3, .int .i64 i,sl]) l (116::Lib.decDigits i) w:=by
 go_enter Tryz.func105,Tryz.ntmps105;go_wp2_with (go_at_call 83;refine (mY i hi _).mono ?_);rintro e w1 ⟨he,hw⟩;subst he hw;go_wp2_with (go_at_call 82;refine (ws B b l _ _ (iC h _) (by simp;omega) (mE gj _)).mono ?_);rintro e w1 ⟨he,h1⟩;subst he;go_wp2;go_end0;exact⟨rfl,by simpa using h1.alloc gj⟩
set_option maxRecDepth 100000 in
def we4(B b:Nat)(l:List UInt8)(i:Nat)(hi:i<100)(sl:Value)(w:World)(h:nZ B b l w)(hlen:l.length+((Lib.decDigits i).length+1)<=140737488355328)(gj:B<=w.heap.size) :
  CZ B b (.agg #[.int .i64 4, .int .i64 i,sl]) l (97::Lib.decDigits i) w:=by
 go_enter Tryz.func105,Tryz.ntmps105;go_wp2_with (go_at_call 83;refine (mY i hi _).mono ?_);rintro e w1 ⟨he,hw⟩;subst he hw;go_wp2_with (go_at_call 82;refine (ws B b l _ _ (iC h _) (by simp;omega) (mE gj _)).mono ?_);rintro e w1 ⟨he,h1⟩;subst he;go_wp2;go_end0;exact⟨rfl,by simpa using h1.alloc gj⟩
set_option maxRecDepth 100000 in
def we5(B b:Nat)(l t:List UInt8)(n:Int)(kb ko cap:Nat)(c0 c1 c2:Value)(w:World)(h:nZ B b l w)(hlen:l.length+(t.length+1)<=140737488355328)(gj:B<=w.heap.size)
  (pK:∀ w1,Below B w w1->∀ j v,[c0,c1,c2][j]?=some v->w1.cell? ⟨kb,ko+0+j,none⟩=some v)
  (U4:∀ w1 l1,Below B w w1->nZ B b l1 w1->B<=w1.heap.size->l1.length+t.length<=140737488355328->CZ B b (.agg #[c0,c1,c2]) l1 t w1)
  : CZ B b (.agg #[.int .i64 5, .int .i64 n, .slice (some ⟨kb,ko,none⟩) 1 cap]) l (126::t) w:=by
 go_enter Tryz.func105,Tryz.ntmps105;go_wp2_with (go_at_call 82;refine (ws B b l _ _ (iC h _) (by simp;omega) (mE gj _)).mono ?_);intro e w1 he h1;subst he;have c2':=xi h1.aE (Hk h) 2 rfl;have q00:w1.cell? ⟨kb,ko,none⟩=some c0:=by simpa [Nat.add_assoc] using pK w1 (h1.alloc gj).cK 0 _ rfl
 have q01:w1.cell? ⟨kb,ko+1,none⟩=some c1:=by simpa [Nat.add_assoc] using pK w1 (h1.alloc gj).cK 1 _ rfl
 have q02:w1.cell? ⟨kb,ko+2,none⟩=some c2:=by simpa [Nat.add_assoc] using pK w1 (h1.alloc gj).cK 2 _ rfl
 go_wp2_with (go_at_call 105;refine (U4 w1 _ (h1.alloc gj).cK h1.Fi (by have:=(h1.alloc gj).cK.size;omega) (by simp;omega)).mono ?_);rintro e w2 ⟨he,h2⟩;subst he;go_wp2;go_end0;exact⟨rfl,((h1.alloc gj).trans h2)⟩
set_option maxRecDepth 100000 in
def we8(B b:Nat)(l t:List UInt8)(n:Int)(kb ko cap:Nat)(c0 c1 c2:Value)(w:World)(h:nZ B b l w)(hlen:l.length+(t.length+1)<=140737488355328)(gj:B<=w.heap.size)
  (pK:∀ w1,Below B w w1->∀ j v,[c0,c1,c2][j]?=some v->w1.cell? ⟨kb,ko+0+j,none⟩=some v)
  (U4:∀ w1 l1,Below B w w1->nZ B b l1 w1->B<=w1.heap.size->l1.length+t.length<=140737488355328->CZ B b (.agg #[c0,c1,c2]) l1 t w1)
  : CZ B b (.agg #[.int .i64 8, .int .i64 n, .slice (some ⟨kb,ko,none⟩) 1 cap]) l (t++[42]) w:=by
 have IJ:Below B w (w.alloc (.cells #[.int .i64 8, .int .i64 n, .slice (some ⟨kb,ko,none⟩) 1 cap] 36)):=(Below.refl B w).alloc gj _;have q00:(w.alloc (.cells #[.int .i64 8, .int .i64 n, .slice (some ⟨kb,ko,none⟩) 1 cap] 36)).cell? ⟨kb,ko,none⟩=some c0:=by simpa [Nat.add_assoc] using pK (w.alloc (.cells #[.int .i64 8, .int .i64 n, .slice (some ⟨kb,ko,none⟩) 1 cap] 36)) IJ 0 _ rfl
 have q01:(w.alloc (.cells #[.int .i64 8, .int .i64 n, .slice (some ⟨kb,ko,none⟩) 1 cap] 36)).cell? ⟨kb,ko+1,none⟩=some c1:=by simpa [Nat.add_assoc] using pK (w.alloc (.cells #[.int .i64 8, .int .i64 n, .slice (some ⟨kb,ko,none⟩) 1 cap] 36)) IJ 1 _ rfl
 have q02:(w.alloc (.cells #[.int .i64 8, .int .i64 n, .slice (some ⟨kb,ko,none⟩) 1 cap] 36)).cell? ⟨kb,ko+2,none⟩=some c2:=by simpa [Nat.add_assoc] using pK (w.alloc (.cells #[.int .i64 8, .int .i64 n, .slice (some ⟨kb,ko,none⟩) 1 cap] 36)) IJ 2 _ rfl
 go_enter Tryz.func105,Tryz.ntmps105;go_wp2_with (go_at_call 105;refine (U4 _ _ IJ (iC h _) (mE gj _) (by omega)).mono ?_);rintro e w1 ⟨he,h1⟩;subst he;go_wp2_with (go_at_call 82;refine (ws B b _ _ _ h1.Fi (by simp;omega) (by have:=(h1.alloc gj).cK.size;omega)).mono ?_);intro e w2 he h2;subst he;go_wp2;go_end0;exact⟨rfl,((h1.alloc gj).trans h2)⟩
set_option maxRecDepth 100000 in
def we6(B b:Nat)(l t u:List UInt8)(n:Int)(kb ko cap:Nat)(c0 c1 c2 d0 d1 d2:Value)(w:World)(h:nZ B b l w)(hlen:l.length+(t.length+u.length+5)<=140737488355328)(gj:B<=w.heap.size)
  (pK:∀ w1,Below B w w1->∀ j v,[c0,c1,c2][j]?=some v->w1.cell? ⟨kb,ko+0+j,none⟩=some v)
  (U4:∀ w1 l1,Below B w w1->nZ B b l1 w1->B<=w1.heap.size->l1.length+t.length<=140737488355328->CZ B b (.agg #[c0,c1,c2]) l1 t w1)
  (rR:∀ w1,Below B w w1->∀ j v,[d0,d1,d2][j]?=some v->w1.cell? ⟨kb,ko+3+j,none⟩=some v)
  (ih1:∀ w1 l1,Below B w w1->nZ B b l1 w1->B<=w1.heap.size->l1.length+u.length<=140737488355328->CZ B b (.agg #[d0,d1,d2]) l1 u w1)
  : CZ B b (.agg #[.int .i64 6, .int .i64 n, .slice (some ⟨kb,ko,none⟩) 2 cap]) l ([40]++(t++([32,43,32]++(u++[41])))) w:=by
 go_enter Tryz.func105,Tryz.ntmps105;go_wp2_with (go_at_call 82;refine (ws B b l _ _ (iC h _) (by simp;omega) (mE gj _)).mono ?_);intro e w1 he h1;subst he;have e1:=xi h1.aE (Hk h) 2 rfl;have q00:w1.cell? ⟨kb,ko,none⟩=some c0:=by simpa [Nat.add_assoc] using pK w1 (h1.alloc gj).cK 0 _ rfl
 have q01:w1.cell? ⟨kb,ko+1,none⟩=some c1:=by simpa [Nat.add_assoc] using pK w1 (h1.alloc gj).cK 1 _ rfl
 have q02:w1.cell? ⟨kb,ko+2,none⟩=some c2:=by simpa [Nat.add_assoc] using pK w1 (h1.alloc gj).cK 2 _ rfl
 have g1:=h1.alloc gj;have s1:B<=w1.heap.size:=by have:=g1.cK.size;omega
 go_wp2_with (go_at_call 105;refine (U4 w1 _ g1.cK h1.Fi s1 (by simp;omega)).mono ?_);rintro e w2 ⟨he,h2⟩;subst he;have s2:B<=w2.heap.size:=by have:=h2.cK.size;omega
 go_wp2_with (go_at_call 82;refine (ws B b _ _ _ h2.Fi (by simp;omega) s2).mono ?_);intro e w3 he h3;subst he;have e3:=xi (h1.aE.trans (h2.aE.trans h3.aE)) (Hk h) 2 rfl;have g3:=g1.cK.trans (h2.cK.trans h3.cK);have q10:w3.cell? ⟨kb,ko+3,none⟩=some d0:=by simpa [Nat.add_assoc] using rR w3 g3 0 _ rfl
 have q11:w3.cell? ⟨kb,ko+4,none⟩=some d1:=by simpa [Nat.add_assoc] using rR w3 g3 1 _ rfl
 have q12:w3.cell? ⟨kb,ko+5,none⟩=some d2:=by simpa [Nat.add_assoc] using rR w3 g3 2 _ rfl
 have s3:B<=w3.heap.size:=by have:=h3.cK.size;omega
 go_wp2_with (go_at_call 105;refine (ih1 w3 _ g3 h3.Fi s3 (by simp;omega)).mono ?_);rintro e w4 ⟨he,h4⟩;subst he;have s4:B<=w4.heap.size:=by have:=h4.cK.size;omega
 go_wp2_with (go_at_call 82;refine (ws B b _ _ _ h4.Fi (by simp;omega) s4).mono ?_);intro e w5 he h5;subst he;go_wp2;go_end0;have j2:Wr B b (l++[40]) t w1 w2:=by simpa using h2
 have j3:Wr B b (l++[40]++t) [32,43,32] w2 w3:=by simpa using h3
 have j4:Wr B b (l++[40]++t++[32,43,32]) u w3 w4:=by simpa using h4
 have j5:Wr B b (l++[40]++t++[32,43,32]++u) [41] w4 w5:=by simpa using h5
 exact⟨rfl,g1.trans (j2.trans (j3.trans (j4.trans j5)))⟩
set_option maxRecDepth 100000 in
def we7(B b:Nat)(l t u:List UInt8)(n:Int)(kb ko cap:Nat)(c0 c1 c2 d0 d1 d2:Value)(w:World)(h:nZ B b l w)(hlen:l.length+(t.length+u.length+3)<=140737488355328)(gj:B<=w.heap.size)
  (pK:∀ w1,Below B w w1->∀ j v,[c0,c1,c2][j]?=some v->w1.cell? ⟨kb,ko+0+j,none⟩=some v)
  (U4:∀ w1 l1,Below B w w1->nZ B b l1 w1->B<=w1.heap.size->l1.length+t.length<=140737488355328->CZ B b (.agg #[c0,c1,c2]) l1 t w1)
  (rR:∀ w1,Below B w w1->∀ j v,[d0,d1,d2][j]?=some v->w1.cell? ⟨kb,ko+3+j,none⟩=some v)
  (ih1:∀ w1 l1,Below B w w1->nZ B b l1 w1->B<=w1.heap.size->l1.length+u.length<=140737488355328->CZ B b (.agg #[d0,d1,d2]) l1 u w1)
  : CZ B b (.agg #[.int .i64 7, .int .i64 n, .slice (some ⟨kb,ko,none⟩) 2 cap]) l ([40]++(t++([32]++(u++[41])))) w:=by
 go_enter Tryz.func105,Tryz.ntmps105;go_wp2_with (go_at_call 82;refine (ws B b l _ _ (iC h _) (by simp;omega) (mE gj _)).mono ?_);intro e w1 he h1;subst he;have e1:=xi h1.aE (Hk h) 2 rfl;have q00:w1.cell? ⟨kb,ko,none⟩=some c0:=by simpa [Nat.add_assoc] using pK w1 (h1.alloc gj).cK 0 _ rfl
 have q01:w1.cell? ⟨kb,ko+1,none⟩=some c1:=by simpa [Nat.add_assoc] using pK w1 (h1.alloc gj).cK 1 _ rfl
 have q02:w1.cell? ⟨kb,ko+2,none⟩=some c2:=by simpa [Nat.add_assoc] using pK w1 (h1.alloc gj).cK 2 _ rfl
 have g1:=h1.alloc gj;have s1:B<=w1.heap.size:=by have:=g1.cK.size;omega
 go_wp2_with (go_at_call 105;refine (U4 w1 _ g1.cK h1.Fi s1 (by simp;omega)).mono ?_);rintro e w2 ⟨he,h2⟩;subst he;have s2:B<=w2.heap.size:=by have:=h2.cK.size;omega
 go_wp2_with (go_at_call 82;refine (ws B b _ _ _ h2.Fi (by simp;omega) s2).mono ?_);intro e w3 he h3;subst he;have e3:=xi (h1.aE.trans (h2.aE.trans h3.aE)) (Hk h) 2 rfl;have g3:=g1.cK.trans (h2.cK.trans h3.cK);have q10:w3.cell? ⟨kb,ko+3,none⟩=some d0:=by simpa [Nat.add_assoc] using rR w3 g3 0 _ rfl
 have q11:w3.cell? ⟨kb,ko+4,none⟩=some d1:=by simpa [Nat.add_assoc] using rR w3 g3 1 _ rfl
 have q12:w3.cell? ⟨kb,ko+5,none⟩=some d2:=by simpa [Nat.add_assoc] using rR w3 g3 2 _ rfl
 have s3:B<=w3.heap.size:=by have:=h3.cK.size;omega
 go_wp2_with (go_at_call 105;refine (ih1 w3 _ g3 h3.Fi s3 (by simp;omega)).mono ?_);rintro e w4 ⟨he,h4⟩;subst he;have s4:B<=w4.heap.size:=by have:=h4.cK.size;omega
 go_wp2_with (go_at_call 82;refine (ws B b _ _ _ h4.Fi (by simp;omega) s4).mono ?_);intro e w5 he h5;subst he;go_wp2;go_end0;have j2:Wr B b (l++[40]) t w1 w2:=by simpa using h2
 have j3:Wr B b (l++[40]++t) [32] w2 w3:=by simpa using h3
 have j4:Wr B b (l++[40]++t++[32]) u w3 w4:=by simpa using h4
 have j5:Wr B b (l++[40]++t++[32]++u) [41] w4 w5:=by simpa using h5
 exact⟨rfl,g1.trans (j2.trans (j3.trans (j4.trans j5)))⟩
end Go.Proofs.YtncejbehidimmaaGreatDoor

namespace Go.Proofs.YtncejbehidimmaaGreatDoor
noncomputable section
open Go.RowKit Go.Proofs
def iL(n:Int):List UInt8:=Lib.decDigits n.toNat
def O7(k n:Int)(p q:List UInt8):List UInt8:=if k=1 then [48] else if k=2 then [49] else if k=3 then 116::iL n else if k=4 then 97::iL n else if k=5 then 126::p
 else if k=6 then [40]++(p++([32,43,32]++(q++[41]))) else if k=7 then [40]++(p++([32]++(q++[41]))) else p++[42]
mutual
def bC:J->List UInt8
 | ⟨k,n,ks⟩=>O7 k n ((Kx ks).getD 0 []) ((Kx ks).getD 1 [])
def Kx:List J->List (List UInt8)
 | []=>[]
 | k::ks=>bC k::Kx ks
end
def mC(z:J):∀ (xs:List J) (i:Nat),i<xs.length->(Kx xs).getD i []=bC (xs.getD i z)
 | [],i,h=>by simp at h
 | x::xs,0,h=>by simp[Kx]
 | x::xs,i+1,h=>by
  have:=mC z xs i (by simpa using h);simpa [Kx] using this
def a2c(x:J):bC x=O7 x.ah x.aZ ((Kx x.U).getD 0 []) ((Kx x.U).getD 1 []):=by
 cases x;rfl
def az(x:J):Bool:=bP 9 9 x
def Cu(x:J)(i:Nat):Prop:=az (x.U.getD i zE)=true/\bo (x.U.getD i zE)<bo x
def UA(x:J)(h:az x=true)(i:Nat)(hi:i<x.U.length):Cu x i:=by
 unfold Cu;simp only[az] at h ⊢;rw[iV] at h;simp only[Bool.and_eq_true] at h;refine⟨Co _ _ _ _ hi h.2,?_⟩;have:=bX (zE:J) x.U i hi;have:=dZ x;omega
def dw(x:J)(h:az x=true):((x.ah=3\/x.ah=4)->0<=x.aZ/\x.aZ<=9) /\
  ((x.ah=5\/x.ah=8)->x.U.length=1/\Cu x 0)/\((x.ah=6\/x.ah=7)->x.U.length=2/\Cu x 0/\Cu x 1) /\
  (x.ah=1\/x.ah=2\/x.ah=3\/x.ah=4\/x.ah=5\/x.ah=6\/x.ah=7\/x.ah=8):=by
 have hk:=UA x h;simp only[az] at h;rw[iV,mG] at h;simp only[a8I,a8z] at h;obtain⟨⟨⟨h1,h2⟩,_⟩,_⟩:=h;refine⟨λ e=>?_,λ e=>?_,λ e=>?_,?_⟩
 .rcases e with e|e<;>simpa [yW,e] using h2
 .have uw:x.U.length=1:=by
   rcases e with e|e<;>rw[e] at h1<;>simp[cr] at h1<;>omega
  exact⟨uw,hk 0 (by omega)⟩
 .have uw:x.U.length=2:=by
   rcases e with e|e<;>rw[e] at h1<;>simp[cr] at h1<;>omega
  exact⟨uw,hk 0 (by omega),hk 1 (by omega)⟩
 .unfold cr at h1;split at h1
  .omega
  .split at h1
   .omega
   .split at h1<;>omega
def dD(x:J)(h:az x=true):(x.ah=1->bC x=[48])/\(x.ah=2->bC x=[49])/\(x.ah=3->bC x=116::iL x.aZ)/\(x.ah=4->bC x=97::iL x.aZ) /\
  (x.ah=5->bC x=126::bC (x.U.getD 0 zE)) /\
  (x.ah=6->bC x=[40]++(bC (x.U.getD 0 zE)++([32,43,32]++(bC (x.U.getD 1 zE)++[41])))) /\
  (x.ah=7->bC x=[40]++(bC (x.U.getD 0 zE)++([32]++(bC (x.U.getD 1 zE)++[41])))) /\
  (x.ah=8->bC x=bC (x.U.getD 0 zE)++[42]):=by
 have hf:=dw x h;rw[a2c];refine⟨λ e=>?_,λ e=>?_,λ e=>?_,λ e=>?_,λ e=>?_,λ e=>?_,λ e=>?_,λ e=>?_⟩
 .simp[O7,e]
 .simp[O7,e]
 .simp[O7,e]
 .simp[O7,e]
 .have:=(hf.2.1 (.inl e)).1;rw[mC zE x.U 0 (by omega)];simp[O7,e]
 .have:=(hf.2.2.1 (.inl e)).1;rw[mC zE x.U 0 (by omega),mC zE x.U 1 (by omega)];simp[O7,e]
 .have:=(hf.2.2.1 (.inr e)).1;rw[mC zE x.U 0 (by omega),mC zE x.U 1 (by omega)];simp[O7,e]
 .have:=(hf.2.1 (.inr e)).1;rw[mC zE x.U 0 (by omega)];simp[O7,e]
def AZ(n:Int)(h:0<=n/\n<=9):(iL n).length=1:=by
 unfold iL;rw[Lib.decDigits_one (by omega)];rfl
def a0X(f:J->Nat)(z:J)(xs:List J)(h:xs.length=2):cm f xs=f (xs.getD 0 z)+f (xs.getD 1 z):=by
 match xs,h with
 | [a,b],_=>simp[cm]
def a0W(f:J->Nat)(z:J)(xs:List J)(h:xs.length=1):cm f xs=f (xs.getD 0 z):=by
 match xs,h with
 | [a],_=>simp[cm]
def uk:∀ (N:Nat) (x:J),bo x<N->az x=true->(bC x).length<=5 * aj x
 | 0,x,h,_=>by omega
 | N+1,x,hN,h=>by
  have hf:=dw x h;have ht:=dD x h;have hn:=gv x;rcases hf.2.2.2 with e|e|e|e|e|e|e|e
  .rw[ht.1 e];simp;omega
  .rw[ht.2.1 e];simp;omega
  .rw[ht.2.2.1 e];have:=AZ _ (hf.1 (.inl e));simp;omega
  .rw[ht.2.2.2.1 e];have:=AZ _ (hf.1 (.inr e));simp;omega
  .rw[ht.2.2.2.2.1 e];obtain⟨hl,h0⟩:=hf.2.1 (.inl e);have i0:=uk N _ (by have:=h0.2;omega) h0.1;rw[a0W _ zE _ hl] at hn;simp only[a8F];omega
  .rw[ht.2.2.2.2.2.1 e];obtain⟨hl,h0,h1⟩:=hf.2.2.1 (.inl e);have i0:=uk N _ (by have:=h0.2;omega) h0.1;have i1:=uk N _ (by have:=h1.2;omega) h1.1;rw[a0X _ zE _ hl] at hn;simp only[a8E,a8F,a8R];omega
  .rw[ht.2.2.2.2.2.2.1 e];obtain⟨hl,h0,h1⟩:=hf.2.2.1 (.inr e);have i0:=uk N _ (by have:=h0.2;omega) h0.1;have i1:=uk N _ (by have:=h1.2;omega) h1.1;rw[a0X _ zE _ hl] at hn;simp only[a8E,a8F,a8R];omega
  .rw[ht.2.2.2.2.2.2.2 e];obtain⟨hl,h0⟩:=hf.2.1 (.inr e);have i0:=uk N _ (by have:=h0.2;omega) h0.1;rw[a0W _ zE _ hl] at hn;simp only[a8E,a8F,a8R];omega
def nH{w:World}{S:Nat->Prop}{x:J}{cs:List Value}(h:Rd w S x.aD cs):∃ a cap,cs=[.int .i64 x.ah, .int .i64 x.aZ, .slice a x.U.length cap] /\
  (x.U=[]\/∃ b o,a=some ⟨b,o,none⟩/\S b/\cv w S (x.U.map J.aD) b o):=by
 cases x with
 | mk k n ks =>
  simp only[J.aD,Rd,cR] at h;obtain⟨v0,r0,rfl,⟨h0,_⟩,v1,r1,rfl,⟨h1,_⟩,v2,r2,rfl,⟨a,cap,h2,_,_,_,h3⟩,rfl⟩:=h;simp only[a8x,a8T] at h0 h1 h2;subst h0 h1 h2;rw[J.H7] at *
  refine⟨a,cap,by simp,h3.imp (λ h=>by simpa using h) id⟩
def HL{w:World}{S:Nat->Prop}{x:J}{b o:Nat}(h:cv w S (x.U.map J.aD) b o)(i:Nat)(hi:i<x.U.length) :
  ∃ c0 c1 c2,Rd w S (x.U.getD i zE).aD [c0,c1,c2]/\bh w b (o+3 * i) [c0,c1,c2]:=by
 obtain⟨cs,h1,h2,h3⟩:=cv.at_ (n:=3) _ b o h (λ d hd=>by
  obtain⟨y,_,rfl⟩:=a8w.1 hd;cases y;rfl) i (x.U.getD i zE).aD (by simp[a9R,a8D,a8H hi])
 match cs,h1 with
 | [c0,c1,c2],_=>exact⟨c0,c1,c2,h2,by rw[Nat.mul_comm];exact h3⟩
def Ed(B b:Nat)(S:Nat->Prop)(hS:∀ k,S k->k<B):∀ (N:Nat) (x:J),bo x<N->az x=true->∀ (l:List UInt8) (w:World) (cs:List Value),nZ B b l w->B<=w.heap.size ->
  l.length+(bC x).length<=140737488355328->Rd w S x.aD cs->CZ B b (.agg cs.toArray) l (bC x) w
 | 0,x,h,_=>by omega
 | N+1,x,hN,h=>by
  intro l w cs hI hB hl hr;have hf:=dw x h;have ht:=dD x h;obtain⟨a,cap,rfl,hk⟩:=nH hr;have Xe:∀ i,i<x.U.length->Cu x i->∃ kb ko c0 c1 c2,a=some ⟨kb,ko,none⟩/\(∀ j,j≠i->True)/\(∀ w1,Below B w w1->∀ j v,[c0,c1,c2][j]?=some v->w1.cell? ⟨kb,ko+3 * i+j,none⟩=some v) /\
    (∀ w1 l1,Below B w w1->nZ B b l1 w1->B<=w1.heap.size->l1.length+(bC (x.U.getD i zE)).length<=140737488355328->CZ B b (.agg #[c0,c1,c2]) l1 (bC (x.U.getD i zE)) w1):=by
   intro i hi hg;rcases hk with hk|⟨kb,ko,rfl,WS,eG⟩
   .rw[hk] at hi;simp at hi
   .obtain⟨c0,c1,c2,h1,h2⟩:=HL eG i hi;refine⟨kb,ko,c0,c1,c2,rfl,λ _ _=>trivial,λ w1 hw j v hj=>?_,λ w1 l1 hw hI1 hB1 QQ=>?_⟩
    .exact h2.aE (hw.block kb (hS kb WS)) j v hj
    .exact Ed B b S hS N _ (by have:=hg.2;omega) hg.1 l1 w1 [c0,c1,c2] hI1 hB1 QQ (h1.aE (λ _ h=>h) (λ k hk=>hw.block k (hS k hk)))
  rcases hf.2.2.2 with e|e|e|e|e|e|e|e
  .rw[ht.1 e] at hl ⊢;rw[e];exact we1 B b l _ _ w hI hl hB
  .rw[ht.2.1 e] at hl ⊢;rw[e];exact we2 B b l _ _ w hI hl hB
  .have hn:=hf.1 (.inl e);rw[ht.2.2.1 e] at hl ⊢;rw[e,show x.aZ=((x.aZ.toNat:Nat):Int) by omega];exact we3 B b l _ (by omega) _ w hI (by simpa [iL] using hl) hB
  .have hn:=hf.1 (.inr e);rw[ht.2.2.2.1 e] at hl ⊢;rw[e,show x.aZ=((x.aZ.toNat:Nat):Int) by omega];exact we4 B b l _ (by omega) _ w hI (by simpa [iL] using hl) hB
  .obtain⟨hn,h0⟩:=hf.2.1 (.inl e);obtain⟨kb,ko,c0,c1,c2,rfl,_,q1,q2⟩:=Xe 0 (by omega) h0;rw[ht.2.2.2.2.1 e] at hl ⊢;rw[e,hn];exact we5 B b l _ _ kb ko cap c0 c1 c2 w hI (by simpa using hl) hB q1 q2
  .obtain⟨hn,h0,h1⟩:=hf.2.2.1 (.inl e);obtain⟨kb,ko,c0,c1,c2,rfl,_,q1,q2⟩:=Xe 0 (by omega) h0;obtain⟨kb',ko',d0,d1,d2,eq,_,p1,p2⟩:=Xe 1 (by omega) h1;cases eq;rw[ht.2.2.2.2.2.1 e] at hl ⊢;rw[e,hn];exact we6 B b l _ _ _ kb ko cap c0 c1 c2 d0 d1 d2 w hI (by simp at hl ⊢;omega) hB q1 q2 p1 p2
  .obtain⟨hn,h0,h1⟩:=hf.2.2.1 (.inr e);obtain⟨kb,ko,c0,c1,c2,rfl,_,q1,q2⟩:=Xe 0 (by omega) h0;obtain⟨kb',ko',d0,d1,d2,eq,_,p1,p2⟩:=Xe 1 (by omega) h1;cases eq;rw[ht.2.2.2.2.2.2.1 e] at hl ⊢;rw[e,hn];exact we7 B b l _ _ _ kb ko cap c0 c1 c2 d0 d1 d2 w hI (by simp at hl ⊢;omega) hB q1 q2 p1 p2
  .obtain⟨hn,h0⟩:=hf.2.1 (.inr e);obtain⟨kb,ko,c0,c1,c2,rfl,_,q1,q2⟩:=Xe 0 (by omega) h0;rw[ht.2.2.2.2.2.2.2 e] at hl ⊢;rw[e,hn];exact we8 B b l _ _ kb ko cap c0 c1 c2 w hI (by simpa using hl) hB q1 q2
def Bw:aQ:=⟨BL,[.v (.st .expr)],λ (x:J)=>⟨(some (az x=true/\(bC x).length<=1000000),[⟨.str,bC x⟩])⟩⟩
set_option maxRecDepth 100000 in
def H6(x:J)(w:World)(S:Nat->Prop)(hS:∀ b,S b->b<w.heap.size)(hg:az x=true)(hl:(bC x).length<=1000000)(cs:List Value)(hr:Rd w S x.aD cs) :
  Calls Tryz.prog 90 #[.agg cs.toArray] w λ e w'=>e = .returned (.string ⟨(bC x).toArray⟩)/\Below w.heap.size w w':=by
 obtain⟨a,cap,rfl,hk⟩:=nH hr;have hI:∀ o:Obj,nZ (w.heap.size+1) (w.heap.size+1) [] ((w.alloc o).alloc (.cells #[.pointer none, .slice none 0 0] 120)):=λ o=>by
  have:=b2E 120 5 (w.alloc o);rw[show (w.alloc o).heap.size=w.heap.size+1 by simp] at this;exact this
 have hB:∀ o p:Obj,w.heap.size+1<=((w.alloc o).alloc p).heap.size:=λ o p=>by simp
 have hw:∀ o p:Obj,Below w.heap.size w ((w.alloc o).alloc p):=λ o p=>((Below.refl _ w).alloc (Nat.le_refl _) o).alloc (by simp) p;go_enter Tryz.func90,Tryz.ntmps90;go_wp2_with (go_at_call 105;refine (Ed (w.heap.size+1) (w.heap.size+1) S (λ k hk=>Nat.lt_succ_of_lt (hS k hk)) (bo x+1) x (Nat.lt_succ_self _) hg [] _ _ (hI _) (hB _ _) (by simp;omega) (hr.aE (λ _ h=>h) (λ k hk=>(hw _ _).block k (hS k hk)))).mono ?_);rintro e w1 ⟨he,h1⟩;subst he;have b1:Below w.heap.size w w1:=(hw _ _).trans (h1.cK.mono (Nat.le_succ _));have g1:nZ (w.heap.size+1) (w.heap.size+1) (bC x) w1:=by simpa using h1.Fi
 have z1:w.heap.size+1<=w1.heap.size:=a9v (hB _ _) h1.cK.size;clear h1;go_wp2_with (go_at_call 84;refine (Tryz.Builder_String_any (w.heap.size+1) (w.heap.size+1) (bC x) w1 g1 z1).mono ?_);rintro e w2 ⟨he,h2⟩;subst he;go_wp2;go_ret;exact⟨rfl,b1.trans (h2.mono (b2L _))⟩
def yl{w w':World}(h:Below w.heap.size w w'):bH (λ _=>False) w w':=⟨h.os,h.tape,h.output,h.size,λ b hb _=>h.block b hb⟩
def Rn{w:World}{S:Nat->Prop}(l:List UInt8)(h:l.length<=140737488355328):dv w S ⟨.str,l⟩ (.string ⟨l.toArray⟩) :=
 ⟨⟨l.toArray⟩,rfl,by simp,by simpa [ByteArray.size] using h⟩
def GN:aQ.Good Bw:=by
 refine⟨aB Kz rfl (by decide),?_⟩;intro x hp w S cC ⟨hS,_⟩ ha;match cC,ha with
 | [v],ha =>
  obtain⟨⟨cs,rfl,hr⟩,_⟩:=ha;refine (H6 x w S hS hp.1 hp.2 cs hr).mono ?_;rintro e w' ⟨rfl,hb⟩;exact⟨_,S,_,rfl,rfl,yl hb,λ _ _=>b0G,λ b h=>a8B (hS b h) hb.size,Rn (w:=w') (S:=S) _ (by have:=hp.2;omega)⟩
def qK:aQ:=⟨zZ,[.v (.int .i64)],λ (n:Int)=>⟨(some (0<=n/\n<=9),[⟨.str,iL n⟩])⟩⟩
set_option maxRecDepth 100000 in
def OA(n:Nat)(h:n<10)(w:World) :
  Calls Tryz.prog 114 #[.int .i64 n] w λ e w'=>e = .returned (.string ⟨(Lib.decDigits n).toArray⟩)/\Below w.heap.size w w':=by
 rw[Lib.decDigits_one h];have hn:¬ (10:Int)<=(n:Int):=by omega
 go_enter Tryz.func114,Tryz.ntmps114;go_wp2;rw[show (convert 118 9 (.slice (some ⟨w.heap.size,0,none⟩) 1 1)).run Tryz.prog (w.alloc (.cells #[.int .u8 (48+(n:Int))] 5))=_ from run_convert_bytes_back _ 118 9 5 ⟨w.heap.size,0,none⟩ 1 [UInt8.ofNat (48+n)] Tryz.underlying118 Tryz.underlying5 Tryz.underlying9 (by
  intro j hj;have hj0:j=0:=by simpa using hj
  subst hj0;show World.cell? _ ⟨w.heap.size,0,none⟩=_;rw[b0J (a9N w _)];have e:(UInt8.ofNat (48+n)).toNat=48+n:=by rw[UInt8.toNat_ofNat'];omega
  simp[e];omega)]
 simp only[Result.andThen];rw[b1x];go_wp2;go_ret;exact⟨by first|rfl|(simp;done)|(show Ending.returned (.string ⟨#[48+UInt8.ofNat n]⟩)=_;rw[UInt8.ofNat_add];rfl),(b0d _ w).alloc (a8C _) _⟩
def ET:aQ.Good qK:=by
 refine⟨aB Im rfl (by decide),?_⟩;intro (n:Int) hp w S cC ⟨hS,_⟩ ha;match cC,ha with
 | [v],ha =>
  obtain⟨⟨hv,_⟩,_⟩:=ha;simp only[a8x,a8T] at hv;have hp:0<=n/\n<=9:=hp;subst hv;have:=OA n.toNat (by omega) w;rw[show ((n.toNat:Nat):Int)=n by omega] at this;refine this.mono ?_;rintro e w' ⟨rfl,hb⟩;exact⟨_,S,_,rfl,rfl,yl hb,λ _ _=>b0G,λ b h=>a8B (hS b h) hb.size,Rn (w:=w') (S:=S) (iL n) (by rw[AZ n hp];decide)⟩
def tk(x:J)(i:Nat):J:=x.U.getD i zE
structure TK(x:J)(i:Nat):Prop where
 rp:az (x.U.getD i zE)=true
 less:bo (x.U.getD i zE)<bo x
 len:(bC (x.U.getD i zE)).length<=(bC x).length
def Ws(x:J)(h:az x=true)(e:x.ah=3):0<=x.aZ/\x.aZ<=9/\(iL x.aZ).length=1/\bC x=[116]++iL x.aZ:=by
 have:=(dw x h).1 (.inl e);exact⟨this.1,this.2,AZ _ this,(dD x h).2.2.1 e⟩
def Wt(x:J)(h:az x=true)(e:x.ah=4):0<=x.aZ/\x.aZ<=9/\(iL x.aZ).length=1/\bC x=[97]++iL x.aZ:=by
 have:=(dw x h).1 (.inr e);exact⟨this.1,this.2,AZ _ this,(dD x h).2.2.2.1 e⟩
def Wu(x:J)(h:az x=true)(e:x.ah=5):x.U.length=1/\TK x 0/\bC x=[126]++bC (x.U.getD 0 zE):=by
 have hk:=(dw x h).2.1 (.inl e);have ht:=(dD x h).2.2.2.2.1 e;exact⟨hk.1,⟨hk.2.1,hk.2.2,by rw[ht];simp⟩,ht⟩
def P6(x:J)(h:az x=true)(e:x.ah=6):x.U.length=2/\TK x 0/\TK x 1/\bC x=[40]++bC (x.U.getD 0 zE)++[32,43,32]++bC (x.U.getD 1 zE)++[41]:=by
 have hk:=(dw x h).2.2.1 (.inl e);have ht:=(dD x h).2.2.2.2.2.1 e;exact⟨hk.1,⟨hk.2.1.1,hk.2.1.2,by rw[ht];simp;omega⟩,⟨hk.2.2.1,hk.2.2.2,by rw[ht];simp;omega⟩,by rw[ht];simp⟩
def P7(x:J)(h:az x=true)(e:x.ah=7):x.U.length=2/\TK x 0/\TK x 1/\bC x=[40]++bC (x.U.getD 0 zE)++[32]++bC (x.U.getD 1 zE)++[41]:=by
 have hk:=(dw x h).2.2.1 (.inr e);have ht:=(dD x h).2.2.2.2.2.2.1 e;exact⟨hk.1,⟨hk.2.1.1,hk.2.1.2,by rw[ht];simp;omega⟩,⟨hk.2.2.1,hk.2.2.2,by rw[ht];simp;omega⟩,by rw[ht];simp⟩
def a3t(x:J)(h:az x=true)(e1:¬ x.ah=1)(e2:¬ x.ah=2)(e3:¬ x.ah=3)(e4:¬ x.ah=4)(e5:¬ x.ah=5)(e6:¬ x.ah=6)(e7:¬ x.ah=7):x.U.length=1/\TK x 0/\bC x=bC (x.U.getD 0 zE)++[42]:=by
 have e:x.ah=8:=by have:=(dw x h).2.2.2;omega
 have hk:=(dw x h).2.1 (.inr e);have ht:=(dD x h).2.2.2.2.2.2.2 e;exact⟨hk.1,⟨hk.2.1,hk.2.2,by rw[ht];simp⟩,ht⟩
def kr(n:Nat):aQ:=⟨lX,[.r (.st .expr)],λ (x:J)=>⟨(some (bo x<n/\az x=true/\(bC x).length<=1000000),[⟨.str,bC x⟩])⟩⟩
def KU:aQ:=⟨lX,[.r (.st .expr)],λ (x:J)=>⟨(some (az x=true/\(bC x).length<=1000000),[⟨.str,bC x⟩])⟩⟩
def K9(x:J):Nat->aG:=cf
def Js(n:Nat)(hE:bf [kr n,qK]):aQ.Good (kr (n+1)):=by
 refine⟨aB jW,?_⟩;intro (x:J) (hp:bo x<n+1/\az x=true/\(bC x).length<=1000000);refine aP [kr n,qK] [] [] [] hE jW Ez (K9 x) (let v0:=x.U.getD 0 zE;let v1:=x.U.getD 1 zE;let v5:=bC v0;let v2:=bo v0<n/\az v0=true/\v5.length<=1000000;let v3:=([40])++v5;let v6:=iL x.aZ;let v7:=bC v1;let v4:=bo v1<n/\az v1=true/\v7.length<=1000000;let v8:=v3++([32,43,32]);((ai x.ah->(((decide (x.ah=(1:Int)))=true->([48])=(bC x))/\((decide (x.ah=(1:Int)))=false->(((decide (x.ah=(2:Int)))=true->([49])=(bC x))/\((decide (x.ah=(2:Int)))=false->(((decide (x.ah=(3:Int)))=true->(ai x.aZ->((0<=x.aZ/\x.aZ<=9)/\(v6.length<=140737488355328->(([116]).length+v6.length<=140737488355328/\(([116])++v6)=(bC x))))))/\((decide (x.ah=(3:Int)))=false->(((decide (x.ah=(4:Int)))=true->(ai x.aZ->((0<=x.aZ/\x.aZ<=9)/\(v6.length<=140737488355328->(([97]).length+v6.length<=140737488355328/\(([97])++v6)=(bC x))))))/\((decide (x.ah=(4:Int)))=false->(((decide (x.ah=(5:Int)))=true->(x.U.length<=140737488355328->(av (0:Int) x.U.length/\(v2/\(v5.length<=140737488355328->(([126]).length+v5.length<=140737488355328/\(([126])++v5)=(bC x)))))))/\((decide (x.ah=(5:Int)))=false->(((decide (x.ah=(6:Int)))=true->(av (0:Int) x.U.length/\(v2/\(([40]).length+v5.length<=140737488355328/\(v3.length+([32,43,32]).length<=140737488355328/\(av (1:Int) x.U.length/\(v4/\(x.U.length<=140737488355328->(v5.length<=140737488355328->(x.U.length<=140737488355328->(v7.length<=140737488355328->(v8.length+v7.length<=140737488355328/\((v8++v7).length+([41]).length<=140737488355328/\((v8++v7)++([41]))=(bC x))))))))))))))/\((decide (x.ah=(6:Int)))=false->(((decide (x.ah=(7:Int)))=true->(av (0:Int) x.U.length/\(v2/\(([40]).length+v5.length<=140737488355328/\(v3.length+([32]).length<=140737488355328/\(av (1:Int) x.U.length/\(v4/\(x.U.length<=140737488355328->(v5.length<=140737488355328->(x.U.length<=140737488355328->(v7.length<=140737488355328->((v3++([32])).length+v7.length<=140737488355328/\(((v3++([32]))++v7).length+([41]).length<=140737488355328/\(((v3++([32]))++v7)++([41]))=(bC x))))))))))))))/\((decide (x.ah=(7:Int)))=false->(x.U.length<=140737488355328->(av (0:Int) x.U.length/\(v2/\(v5.length<=140737488355328->(v5.length+([42]).length<=140737488355328/\(v5++([42]))=(bC x))))))))))))))))))))))) ?_;obtain⟨hm,hg,hl⟩:=hp;have f1:=(dD x hg).1;have f2:=(dD x hg).2.1;have f3:=Ws x hg;have f4:=Wt x hg;have f5:=Wu x hg;have f6:=P6 x hg;have f7:=P7 x hg;have f8:=a3t x hg;refine λ _=>⟨λ _=>?_,λ _=>⟨λ _=>?_,λ _=>⟨λ a3 a4=>⟨?_,λ a5=>⟨?_,?_⟩⟩,λ a3=>⟨λ a4 a5=>⟨?_,λ a6=>⟨?_,?_⟩⟩,λ a4=>⟨λ a5 a6=>⟨?_,?_,λ a7=>⟨?_,?_⟩⟩,λ a5=>⟨λ a6=>⟨?_,?_,?_,?_,?_,?_,λ a7 a8 _ _=>⟨?_,?_,?_⟩⟩,λ a6=>⟨λ a7=>⟨?_,?_,?_,?_,?_,?_,λ a8 _ _ _=>⟨?_,?_,?_⟩⟩,λ a7 a8=>⟨?_,?_,λ _=>⟨?_,?_⟩⟩⟩⟩⟩⟩⟩⟩⟩;all_goals try and_intros
 all_goals ((try simp only[a8z,a8y,av] at *);(first|replace f1:=f1 (by with_reducible assumption)|clear f1);(first|replace f2:=f2 (by with_reducible assumption)|clear f2);(first|replace f3:=f3 (by with_reducible assumption)|clear f3);(first|replace f4:=f4 (by with_reducible assumption)|clear f4);(first|replace f5:=f5 (by with_reducible assumption)|clear f5);(first|replace f6:=f6 (by with_reducible assumption)|clear f6);(first|replace f7:=f7 (by with_reducible assumption)|clear f7);(first|replace f8:=f8 (by with_reducible assumption) (by with_reducible assumption) (by with_reducible assumption) (by with_reducible assumption) (by with_reducible assumption) (by with_reducible assumption) (by with_reducible assumption)|clear f8);(try obtain⟨a5,b5,c5⟩:=f5);(try obtain⟨a8,b8,c8⟩:=f8);(try obtain⟨a3,b3,b3b,c3⟩:=f3);(try obtain⟨a4,b4,b4b,c4⟩:=f4);(try obtain⟨a6,b6,b6b,c6⟩:=f6);(try obtain⟨a7,b7,b7b,c7⟩:=f7);  first|rfl|omega|exact TK.rp (by assumption)|exact f1.symm|exact f2.symm|(have t0:=TK.len ‹TK x 0›;have t1:=TK.less ‹TK x 0›;omega)|(have t0:=TK.len ‹TK x 1›;have t1:=TK.less ‹TK x 1›;omega)|exact (Eq.symm (by assumption))|(simp only[a8E,a8F,a8R];have t0:=TK.len ‹TK x 0›;first|omega|(have t1:=TK.len ‹TK x 1›;omega))|(simp only[a8E,a8F,a8R];omega))
def JP :∀ n,bf [kr n]
 | 0=>⟨⟨aB jW,λ _ h=>absurd h.1 (a8X _)⟩,ae⟩
 | n+1=>by
  have ih:=JP  n;exact⟨Js n ⟨ih.1,ET,ae⟩,ae⟩
def EX :aQ.Good KU :=
 ⟨aB jW,λ x hp=>(JP  (bo x+1)).1.2 x (⟨a8K _,hp⟩)⟩
end
end Go.Proofs.YtncejbehidimmaaGreatDoor

namespace Go.Proofs.YtncejbehidimmaaGreatDoor
noncomputable section
def WJ(x y:J):eg x y=(decide (x.ah=y.ah)&&decide (x.aZ=y.aZ)&&eg x.U y.U):=by
 refine b1u.2 ?_;cases x;cases y;simp[and_assoc]
def kp(n:Nat):aQ:=⟨lW,[.r (.st .expr), .r (.st .expr)],λ (x:J) (y:J)=>⟨(some (bo x<n),[⟨.bool,eg x y⟩])⟩⟩
def zK:aQ:=⟨lW,[.r (.st .expr), .r (.st .expr)],λ (x:J) (y:J)=>⟨(none,[⟨.bool,eg x y⟩])⟩⟩
def K7(x:J)(y:J):Nat->aG:=(dU 0 (.b (Nat) (λ k=>k<=x.U.length/\x.U.length=y.U.length/\x.U.take k=y.U.take k/\x.ah=y.ah/\x.aZ=y.aZ) (λ k=>x.U.length - k) [6,7,8,9,10,11,12,13,14,15,16,17,18,19,20,21,22,23,24,25,26,27,28,29,30,31,32,33,34,35,36,37,38] (λ k=>[(5, .aK ⟨(.int .i64),((k:Int):Int)⟩)])) cf)
abbrev nv(n:Nat)(x:J)(y:J):Prop:=(let v0:=(x.U.length:Int);((∃ k1:Nat,((k1<=x.U.length/\x.U.length=y.U.length/\x.U.take k1=y.U.take k1/\x.ah=y.ah/\x.aZ=y.aZ)/\((x=x/\(y=y/\((0:Int)=(k1:Int)/\True)))/\True)))/\(∀ k1:Nat,let v1 := !(eg (x.U.getD k1 zE) (y.U.getD k1 zE));let v2:=(k1:Int);((k1<=x.U.length/\x.U.length=y.U.length/\x.U.take k1=y.U.take k1/\x.ah=y.ah/\x.aZ=y.aZ) ->
 (x.U.length<=140737488355328 ->
 (ai v0 ->
 (((decide (v2<v0))=true ->
 (av v2 x.U.length/\(av v2 y.U.length/\(x.U.length<=140737488355328 ->
 (y.U.length<=140737488355328 ->
 (bo (x.U.getD k1 zE)<n/\((v1=true ->
 false=(eg x y))/\(v1=false ->
 (ai (v2+(1:Int))/\(∃ k2:Nat,((k2<=x.U.length/\x.U.length=y.U.length/\x.U.take k2=y.U.take k2/\x.ah=y.ah/\x.aZ=y.aZ)/\(x.U.length - k2<x.U.length - k1/\((x=x/\(y=y/\((v2+(1:Int))=(k2:Int)/\True)))/\True)))))))))))))/\((decide (v2<v0))=false ->
 true=(eg x y)))))))))
abbrev vC(n:Nat)(x:J)(y:J):Prop:=(let v0 := !(decide (((x.U.length:Int))=((y.U.length:Int))));(x.U.length<=140737488355328 ->
 (ai ((x.U.length:Int)) ->
 (y.U.length<=140737488355328 ->
 (ai ((y.U.length:Int)) ->
 ((v0=true ->
 false=(eg x y))/\(v0=false ->
 (nv n x y))))))))
def Jq(n:Nat)(hE:bf [kp n]):aQ.Good (kp (n+1)):=by
 refine⟨aB jU,?_⟩;intro (x:J) (y:J) (hp:bo x<n+1);refine aP [kp n] [] [] [] hE jU Ex (K7 x y) ((((!(decide (x.ah=y.ah)))=false->(((!(decide (x.aZ=y.aZ)))=false->(ai x.ah->(ai y.ah->(ai x.aZ->(ai y.aZ->(vC n x y))))))/\((!(decide (x.aZ=y.aZ)))=(!false)->(ai x.ah->(ai y.ah->(ai x.aZ->(ai y.aZ->((true=true->false=(eg x y))/\(true=false->(nv n x y))))))))))/\((!(decide (x.ah=y.ah)))=(!false)->((true=false->(ai x.ah->(ai y.ah->(vC n x y))))/\(true=(!false)->(ai x.ah->(ai y.ah->((true=true->false=(eg x y))/\(true=false->(nv n x y)))))))))) ?_;have f0:=dZ x;have f3:=WJ x y;refine⟨λ _=>⟨λ _ _ _ _ _ _ _ _ _=>⟨λ _=>?_,λ _=>⟨⟨0,?_,⟨rfl,rfl,?_,ae⟩,ae⟩,λ k1 _=>have T9:=pe zE x.U y.U k1;have Ua:=ib x.U y.U k1;have Ub:=bX zE x.U k1;λ _ _=>⟨λ _=>⟨?_,?_,λ _ _=>⟨?_,λ _=>?_,λ _=>⟨?_,k1+1,?_,?_,⟨rfl,rfl,?_,ae⟩,ae⟩⟩⟩,λ _=>?_⟩⟩⟩,λ _ _ _ _ _=>⟨λ _=>?_,λ _=>⟨⟨0,?_,⟨rfl,rfl,?_,ae⟩,ae⟩,λ k1 _=>have Yc:=pe zE x.U y.U k1;have Yd:=ib x.U y.U k1;have Ye:=bX zE x.U k1;λ _ _=>⟨λ _=>⟨?_,?_,λ _ _=>⟨?_,λ _=>?_,λ _=>⟨?_,k1+1,?_,?_,⟨rfl,rfl,?_,ae⟩,ae⟩⟩⟩,λ _=>?_⟩⟩⟩⟩,λ _=>⟨λ _ _ _ _ _ _ _=>⟨λ _=>?_,λ _=>⟨⟨0,?_,⟨rfl,rfl,?_,ae⟩,ae⟩,λ k1 _=>have a2q:=pe zE x.U y.U k1;have a2r:=ib x.U y.U k1;have a2s:=bX zE x.U k1;λ _ _=>⟨λ _=>⟨?_,?_,λ _ _=>⟨?_,λ _=>?_,λ _=>⟨?_,k1+1,?_,?_,⟨rfl,rfl,?_,ae⟩,ae⟩⟩⟩,λ _=>?_⟩⟩⟩,λ _ _ _=>⟨λ _=>?_,λ _=>⟨⟨0,?_,⟨rfl,rfl,?_,ae⟩,ae⟩,λ k1 _=>have a5B:=pe zE x.U y.U k1;have a5C:=ib x.U y.U k1;have a5D:=bX zE x.U k1;λ _ _=>⟨λ _=>⟨?_,?_,λ _ _=>⟨?_,λ _=>?_,λ _=>⟨?_,k1+1,?_,?_,⟨rfl,rfl,?_,ae⟩,ae⟩⟩⟩,λ _=>?_⟩⟩⟩⟩⟩;all_goals try and_intros
 all_goals first|rfl|trivial|(simp only[decide_eq_true_eq,decide_eq_false_iff_not,Bool.not_eq_false',Bool.not_eq_true',decide_not,av,ai] at *;first|omega|grind)|grind [My,Pr]
def JL :∀ n,bf [kp n]
 | 0=>⟨⟨aB jU,λ _ _ h=>absurd h (a8X _)⟩,ae⟩
 | n+1=>by
  have ih:=JL  n;exact⟨Jq n ⟨ih.1,ae⟩,ae⟩
def tu :aQ.Good zK :=
 ⟨aB jU,λ x y hp=>(JL  (bo x+1)).1.2 x y (a8K _)⟩
def TG(bj:List Int)(pos:Int):Int:=if pos<(bj.length:Int) then bj.getD pos.toNat 0 else 0
def HX(bj:List Int)(pos dV:Int):Int:=IntKind.u64.wrap (IntKind.u64.wrap (IntKind.u64.wrap (dV * 6364136223846793005)+TG bj pos)+1442695040888963407)
def Wp(s:Int):Int:=(((s.fdiv (2 ^ Int.toNat 40)).toNat &&& Int.toNat 255:Nat):Int)
def HW(bj:List Int)(pos dV:Int):Int:=if pos+1<=(bj.length:Int) then TG bj pos else Wp (HX bj pos dV)
def Gm(bj:List Int):Prop:=∀ i,i<bj.length->0<=bj.getD i 0/\bj.getD i 0<=255
def XN(n:Int):0<=IntKind.u64.wrap n/\IntKind.u64.wrap n<=18446744073709551615:=by
 simp[IntKind.wrap,IntKind.signed,IntKind.bits];omega
def TI(bj:List Int)(pos dV:Int):0<=HX bj pos dV/\HX bj pos dV<=18446744073709551615:=XN _
def a0E(bj:List Int)(pos:Int)(h:Gm bj)(h0:0<=pos):0<=TG bj pos/\TG bj pos<=255:=by
 unfold TG;split
 .exact h _ (by omega)
 .omega
def a0F(s:Int):0<=Wp s/\Wp s<=255:=by
 have:(s.fdiv (2 ^ Int.toNat 40)).toNat &&& Int.toNat 255<=255:=Nat.and_le_right;unfold Wp;omega
def TH(bj:List Int)(pos dV:Int)(h:Gm bj)(h0:0<=pos):0<=HW bj pos dV/\HW bj pos dV<=255:=by
 unfold HW;split
 .exact a0E bj pos h h0
 .exact a0F _
def pkX(bj:List Int)(pos dV n:Int):Int:=if 200<n then HW bj pos dV * 256+HW bj (pos+1) (HX bj pos dV) else HW bj pos dV
def pkV(bj:List Int)(pos dV n:Int):Int:=if n<=1 then 0 else (pkX bj pos dV n).tmod n
def Xp(pos n:Int):Int:=if n<=1 then pos else if 200<n then pos+1+1 else pos+1
def pkS(bj:List Int)(pos dV n:Int):Int:=if n<=1 then dV else if 200<n then HX bj (pos+1) (HX bj pos dV) else HX bj pos dV
def TS(a n:Int)(h:0<=a)(hn:0<n):0<=a.tmod n/\a.tmod n<n:=by
 rw[Int.tmod_eq_emod_of_nonneg h];exact⟨Int.emod_nonneg _ (by omega),Int.emod_lt_of_pos _ hn⟩
def a1X(bj:List Int)(pos dV n:Int)(h:Gm bj)(h0:0<=pos):0<=pkV bj pos dV n/\(pkV bj pos dV n=0\/pkV bj pos dV n<n):=by
 have h1:=TH bj pos dV h h0;have h2:=TH bj (pos+1) (HX bj pos dV) h (by omega);unfold pkV pkX;split
 .omega
 .split
  .have:=TS (HW bj pos dV * 256+HW bj (pos+1) (HX bj pos dV)) n (by omega) (by omega);omega
  .have:=TS (HW bj pos dV) n (by omega) (by omega);omega
structure Sr where
 pos:Int
 dV:Int
def pkN(bj:List Int)(s:Sr)(n:Int):Sr:=⟨Xp s.pos n,pkS bj s.pos s.dV n⟩
def pk(bj:List Int)(s:Sr)(n:Int):Int:=pkV bj s.pos s.dV n
structure ze(bj:List Int)(s:Sr)(m:Int):Prop where
 c:Gm bj
 p:0<=s.pos
 m:s.pos<=m
 l:bj.length<=1000000
 s0:0<=s.dV
 s1:s.dV<=18446744073709551615
def a1W(bj:List Int)(pos dV n:Int)(h:0<=dV/\dV<=18446744073709551615):0<=pkS bj pos dV n/\pkS bj pos dV n<=18446744073709551615:=by
 unfold pkS;split
 .exact h
 .split
  .exact TI _ _ _
  .exact TI _ _ _
def a1V(pos n:Int):pos<=Xp pos n/\Xp pos n<=pos+2:=by
 unfold Xp;split
 .omega
 .split<;>omega
def ze.next{bj:List Int}{s:Sr}{m:Int}(h:ze bj s m)(n:Int):ze bj (pkN bj s n) (m+2):=by
 have h1:=a1V s.pos n;have h2:=a1W bj s.pos s.dV n ⟨h.s0,h.s1⟩;have:=h.p;have:=h.m;exact⟨h.c,by show 0<=Xp s.pos n;omega,by show Xp s.pos n<=m+2;omega,h.l,h2.1,h2.2⟩
def ze.mono{bj:List Int}{s:Sr}{m k:Int}(h:ze bj s m)(hk:m<=k):ze bj s k:=⟨h.c,h.p,by have:=h.m;omega,h.l,h.s0,h.s1⟩
def ze.pk{bj:List Int}{s:Sr}{m:Int}(h:ze bj s m)(n:Int):0<=pk bj s n/\(pk bj s n=0\/pk bj s n<n):=a1X bj s.pos s.dV n h.c h.p
def a6N(bj:List Int)(s:Sr)(n:Int):Bool:=decide (pk bj s n=0)
def iF(n:Nat):aQ:=⟨oU,[.v (.st .expr)],λ (e:J)=>⟨(some (bo e<n/\aY e<=1048576),[⟨(.st .expr),e⟩])⟩⟩
def jq:aQ:=⟨oU,[.v (.st .expr)],λ (e:J)=>⟨(some (aY e<=1048576),[⟨(.st .expr),e⟩])⟩⟩
def Hu(e:J):Nat->aG:=(dU 0 (.a (Nat) (λ i=>i<=e.U.length) (λ i=>e.U.length - i) [0,1,6,7,8,9,10,11] (λ i=>[(14, .aK ⟨(.int .i64),((i:Int):Int)⟩)]) [2] (λ i=>[(3, .box [.aK ⟨(.int .i64),(e.ah:Int)⟩, .aK ⟨(.int .i64),(e.aZ:Int)⟩, .aA 2400]),(2400, .aA (.st .expr) (e.U.take i:List J))])) cf)
def Ft(n:Nat)(hE:bf [])(hO:AB [iF n])(hM:FJ [])(hS:FK []):aQ.wq (iF (n+1)):=by
 refine⟨aB jg,?_⟩;intro (e:J) (hp:bo e<n+1/\aY e<=1048576);refine yZ [] [iF n] [] [] [21,22,23] [] [] [1] hE hO hM hS jg C4 (Hu e) (let v0:=(e.U.length:Int);let v1:=((0:Int)=(0:Int)/\((0:Int)=(0:Int)/\(True/\True)))/\True;let v2:=(3:Nat)=3/\(2:Nat)=2;let v3:=e.ah=e.ah/\(e.aZ=e.aZ/\(True/\True));((ai e.ah->(ai e.aZ->(e.U.length<=140737488355328->(ai v0->((∃ i1:Nat,(i1<=e.U.length/\((True/\(True/\(e.U=e.U/\(v0=v0/\((0:Int)=(i1:Int)/\True)))))/\(v3/\((e.U.take i1)=[]/\v1)))))/\(∀ i1:Nat,let v4:=e.U.getD i1 zE;(i1<=e.U.length->(((decide ((i1:Int)<v0))=true->(av (i1:Int) e.U.length/\(v2/\((2400:Nat)=2400/\((v4.ah=v4.ah/\(v4.aZ=v4.aZ/\(v4.U=v4.U/\True)))/\((bo (bc v4)<n/\aY (bc v4)<=1048576)/\(v2/\((2400:Nat)=2400/\(v2/\((2400:Nat)=2400/\(aX ((e.U.take i1).length+([(bc v4)]).length) 40/\(ai ((i1:Int)+(1:Int))/\(∃ i2:Nat,(i2<=e.U.length/\(e.U.length - i2<e.U.length - i1/\((True/\(True/\(e.U=e.U/\(v0=v0/\(((i1:Int)+(1:Int))=(i2:Int)/\True)))))/\(v3/\(((e.U.take i1)++([(bc v4)]))=(e.U.take i2)/\v1))))))))))))))))))/\((decide ((i1:Int)<v0))=false->(J.mk e.ah e.aZ (e.U.take i1))=e))))))))))) ?_;rw[wg] at hp;have f0:=dZ e;have f1:=λ i (h:i<e.U.length)=>CL aY zE e.U i h;have f2:=λ i (h:i<e.U.length)=>bX zE e.U i h;have f3:=λ i (h:i<e.U.length)=>fE zE e.U i h;have f4:e.U.take 0=[]:=by simp
 have f5:∀ i,e.U.length<=i->e.U.take i=e.U:=λ i h=>a9f h;have f6:∀ i,(e.U.take i).length<=e.U.length:=λ i=>by simp;omega
 have f7:∀ ks,ks=e.U->J.mk e.ah e.aZ ks=e:=λ ks h=>by subst h;cases e;rfl
 refine λ _ _ _ _=>⟨⟨0,?_,⟨ae,ae,rfl,rfl,?_,ae⟩,⟨rfl,rfl,ae,ae⟩,?_,⟨rfl,rfl,ae,ae⟩,ae⟩,λ i1 _=>⟨λ _=>⟨?_,⟨?_,?_⟩,?_,⟨rfl,rfl,rfl,?_⟩,?_,⟨?_,?_⟩,?_,⟨?_,?_⟩,?_,?_,?_,i1+1,?_,?_,⟨ae,ae,rfl,rfl,?_,ae⟩,⟨rfl,rfl,ae,ae⟩,?_,⟨rfl,rfl,ae,ae⟩,ae⟩,λ _=>?_⟩⟩;all_goals try and_intros
 all_goals try (first|with_reducible rfl|with_reducible assumption)
 all_goals try simp only[J.eta,cW] at *
 all_goals first|rfl|trivial|omega|(simp only[a8z,a8y,av,ai,aX,a8F,a8R] at *;first|omega|(have:=f6 i1;omega)|exact f7 _ (f5 _ (by omega))|grind)|grind
def JR:∀ n,AB [iF n]
 | 0=>⟨⟨aB jg,λ _ h=>absurd h.1 (a8X _)⟩,ae⟩
 | n+1=>by
  have ih:=JR n;exact⟨Ft n trivial ⟨ih.1,ae⟩ trivial trivial,ae⟩
def BW:aQ.wq jq :=
 ⟨aB jg,λ e hp=>(JR (bo e+1)).1.2 e (⟨a8K _,hp⟩)⟩
def kz(n:Nat):aQ:=⟨nE,[.r (.st .expr)],λ (e:J)=>⟨(some (bo e<n/\aY e<=1048576),[⟨(.st .expr),e⟩])⟩⟩
def eV:aQ:=⟨nE,[.r (.st .expr)],λ (e:J)=>⟨(some (aY e<=1048576),[⟨(.st .expr),e⟩])⟩⟩
def Lq(e:J):Nat->aG:=(dU 0 (.a (Nat) (λ i=>i<=e.U.length) (λ i=>e.U.length - i) [5,6,7,8,9,10,11,12,13] (λ i=>[(4, .aK ⟨(.int .i64),((i:Int):Int)⟩)]) [2] (λ i=>[(3, .box [.aK ⟨(.int .i64),(e.ah:Int)⟩, .aK ⟨(.int .i64),(e.aZ:Int)⟩, .aA 3400]),(3400, .aA (.st .expr) (e.U.take i:List J))])) cf)
def Jx(n:Nat)(hE:bf [])(hO:AB [kz n])(hM:FJ [])(hS:FK []):aQ.wq (kz (n+1)):=by
 refine⟨aB lI,?_⟩;intro (e:J) (hp:bo e<n+1/\aY e<=1048576);refine yZ [] [kz n] [] [] [31,32,33] [] [] [] hE hO hM hS lI Gg (Lq e) (let v0:=((0:Int)=(0:Int)/\((0:Int)=(0:Int)/\(True/\True)))/\True;let v1:=(3:Nat)=3/\(2:Nat)=2;let v2:=e.ah=e.ah/\(e.aZ=e.aZ/\(True/\True));let v3:=(e.U.length:Int);((ai e.ah->(ai e.aZ->((∃ i1:Nat,(i1<=e.U.length/\((e=e/\(True/\(True/\((0:Int)=(i1:Int)/\True))))/\(v2/\((e.U.take i1)=[]/\v0)))))/\(∀ i1:Nat,let v4:=e.U.getD i1 zE;let v5:=(i1:Int);(i1<=e.U.length->(e.U.length<=140737488355328->(ai v3->(((decide (v5<v3))=true->(e.U.length<=140737488355328->(ai v5->(av v5 e.U.length/\(v1/\((3400:Nat)=3400/\(e=e/\(e=e/\(e.U=e.U/\(e.U=e.U/\(v5=v5/\(av v5 e.U.length/\(v4=v4/\((bo v4<n/\aY v4<=1048576)/\(v1/\((3400:Nat)=3400/\(v1/\((3400:Nat)=3400/\(aX ((e.U.take i1).length+([(bc v4)]).length) 40/\(ai (v5+(1:Int))/\(∃ i2:Nat,(i2<=e.U.length/\(e.U.length - i2<e.U.length - i1/\((e=e/\(True/\(True/\((v5+(1:Int))=(i2:Int)/\True))))/\(v2/\(((e.U.take i1)++([(bc v4)]))=(e.U.take i2)/\v0))))))))))))))))))))))))))/\((decide (v5<v3))=false->(J.mk e.ah e.aZ (e.U.take i1))=e))))))))))) ?_;rw[wg] at hp;have f0:=dZ e;have f1:=λ i (h:i<e.U.length)=>CL aY zE e.U i h;have f2:=λ i (h:i<e.U.length)=>bX zE e.U i h;have f3:=λ i (h:i<e.U.length)=>fE zE e.U i h;have f4:e.U.take 0=[]:=by simp
 have f5:∀ i,e.U.length<=i->e.U.take i=e.U:=λ i h=>a9f h;have f6:∀ i,(e.U.take i).length<=e.U.length:=λ i=>by simp;omega
 have f7:∀ ks,ks=e.U->J.mk e.ah e.aZ ks=e:=λ ks h=>by subst h;cases e;rfl
 refine λ _ _=>⟨⟨0,?_,⟨rfl,ae,ae,?_,ae⟩,⟨rfl,rfl,ae,ae⟩,?_,⟨rfl,rfl,ae,ae⟩,ae⟩,λ i1 _ _ _=>⟨λ _ _ _=>⟨?_,⟨?_,?_⟩,?_,rfl,rfl,rfl,rfl,rfl,?_,rfl,?_,⟨?_,?_⟩,?_,⟨?_,?_⟩,?_,?_,?_,i1+1,?_,?_,⟨rfl,ae,ae,?_,ae⟩,⟨rfl,rfl,ae,ae⟩,?_,⟨rfl,rfl,ae,ae⟩,ae⟩,λ _=>?_⟩⟩;all_goals try and_intros
 all_goals try (first|with_reducible rfl|with_reducible assumption)
 all_goals try simp only[J.eta,cW] at *
 all_goals first|rfl|trivial|omega|(simp only[a8z,a8y,av,ai,aX,a8F,a8R] at *;first|omega|(have:=f6 i1;omega)|exact f7 _ (f5 _ (by omega))|grind)|grind
def L7:∀ n,AB [kz n]
 | 0=>⟨⟨aB lI,λ _ h=>absurd h.1 (a8X _)⟩,ae⟩
 | n+1=>by
  have ih:=L7 n;exact⟨Jx n trivial ⟨ih.1,ae⟩ trivial trivial,ae⟩
def Fs:aQ.wq eV :=
 ⟨aB lI,λ e hp=>(L7 (bo e+1)).1.2 e (⟨a8K _,hp⟩)⟩
def jk:aQ.Good eV:=Fs.plain
mutual
def P3:∀ x:J,aY x+1=aj x
 | ⟨_,_,ks⟩=>by
  have:=Oo ks;simp only[aY,aj];omega
def Oo:∀ xs:List J,xs.length+sq xs=jJ xs
 | []=>rfl
 | x::xs=>by
  have h1:=P3 x;have h2:=Oo xs;simp only[sq,jJ,a8F];omega
end
structure Gn where
 e:J
 s:Sr
 left:Int
def gnS(bj:List Int)(c:Bool)(s:Sr)(n:Int):Sr:=if c=true then s else pkN bj s n
def wG:Nat->Nat
 | 0=>1
 | d+1=>1+wG d+wG d
structure a7C(bj:List Int)(t a:Int)(d:Nat)(c:Bool)(m left:Int)(r:Gn):Prop where
 tr:bP (t - 1) (a - 1) r.e=true
 cn:c=true->bF r.e=true
 nd:aj r.e<=wG d
 dp:bI r.e<=d+1
 sr:ze bj r.s (m+16 * wG d)
 l0:left - wG d<=r.left
 l1:r.left<=left
def XL(t a:Int)(x:J)(k:Int)(h:bP t a x=true)(hk:(k=5/\bF x=true)\/k=8):bP t a (J.mk k 0 [x])=true:=by
 simp only[bP,rZ,oG,h,b1J];rcases hk with ⟨rfl,hc⟩|rfl
 .simp[cr,hc]
 .simp[cr]
def XM(t a:Int)(x y:J)(k:Int)(h1:bP t a x=true)(h2:bP t a y=true)(hk:k=6\/k=7):bP t a (J.mk k 0 [x,y])=true:=by
 simp only[bP,rZ,oG,h1,h2,b1J];rcases hk with rfl|rfl<;>simp[cr]
structure InG(bj:List Int)(Ms left:Int)(s:Sr):Prop where
 d:¬ Ms<1
 l:¬ left - 1<1
 o:a6N bj s 6=false
structure GnB(bj:List Int)(Ms left:Int)(s:Sr)(k:Int):Prop where
 s:ze bj s (980000000 - 16 * (wG (Ms - 1).toNat:Int) - k)
 l0 : -1000000+(wG (Ms - 1).toNat:Int)<=left
 l1:left<=1000000
def a1A(bj:List Int)(c:Bool)(s:Sr)(n k:Int)(h:ze bj s k):ze bj (gnS bj c s n) (k+2):=by
 unfold gnS;split
 .exact h.mono (by omega)
 .exact h.next n
def GnB.go{bj:List Int}{Ms left:Int}{s:Sr}(h:GnB bj Ms left s 8)(c:Bool)(n:Int):GnB bj Ms left (gnS bj c s n) 0:=⟨(a1A bj c s n _ h.s).mono (by omega),h.l0,h.l1⟩
mutual
def yC{α:Type}(f:J->List α->α):J->α
 | ⟨k,n,ks⟩=>f ⟨k,n,ks⟩ (jj f ks)
def jj{α:Type}(f:J->List α->α):List J->List α
 | []=>[]
 | x::xs=>yC f x::jj f xs
end
def eI{α:Type}(f:J->List α->α)(d:α)(z:J):∀ (xs:List J) (i:Nat),i<xs.length->(jj f xs).getD i d=yC f (xs.getD i z)
 | [],i,h=>by simp at h
 | x::xs,0,h=>by simp[jj]
 | x::xs,i+1,h=>by
  have:=eI f d z xs i (by simpa using h);simpa [jj] using this
def j9{α:Type}(f:J->List α->α)(x:J):yC f x=f x (jj f x.U):=by
 cases x;rfl
structure B2(x:J):Prop where
 len:x.U.length=2
 g0:az (x.U.getD 0 zE)=true
 g1:az (x.U.getD 1 zE)=true
 l0:bo (x.U.getD 0 zE)<bo x
 l1:bo (x.U.getD 1 zE)<bo x
 nd:aj x=1+aj (x.U.getD 0 zE)+aj (x.U.getD 1 zE)
structure B1(x:J):Prop where
 len:x.U.length=1
 g0:az (x.U.getD 0 zE)=true
 l0:bo (x.U.getD 0 zE)<bo x
 nd:aj x=1+aj (x.U.getD 0 zE)
def cD(x:J)(h:az x=true)(e:x.ah=6\/x.ah=7):B2 x:=by
 obtain⟨h1,h2,h3⟩:=(dw x h).2.2.1 e;have hn:=gv x;rw[a0X aj zE _ h1] at hn;exact⟨h1,h2.1,h3.1,h2.2,h3.2,by omega⟩
def jC(x:J)(h:az x=true)(e:x.ah=5\/x.ah=8):B1 x:=by
 obtain⟨h1,h2⟩:=(dw x h).2.1 e;have hn:=gv x;rw[a0W aj zE _ h1] at hn;exact⟨h1,h2.1,h2.2,by omega⟩
def Fq(x:J):1<=aj x:=by rw[gv];omega
def ed(x:J)(h:az x=true):x.ah=1\/x.ah=2\/x.ah=3\/x.ah=4\/x.ah=5\/x.ah=6\/x.ah=7\/x.ah=8:=(dw x h).2.2.2
def VY(x:J)(h:az x=true)(e:x.ah=1\/x.ah=2\/x.ah=3\/x.ah=5):gM x=true:=by
 have h':=h;unfold gM;rw[Cj 9 9 62 62 (by decide) (by decide) x (by simpa [az] using h),Bool.true_and,sb,Bool.and_eq_true];simp only[az] at h;rw[iV,mG] at h;simp only[Bool.and_eq_true,decide_eq_true_eq] at h;refine⟨by rcases e with e|e|e|e<;>rw[e]<;>decide,?_⟩;by_cases h5:x.ah=5
 .have hl:=(jC x h' (.inl h5)).len;have hc:bF (x.U.getD 0 zE)=true:=by simpa [h5] using h.1.2
  match hk:x.U,hl with
  | [a],_ =>
   rw[hk] at hc;simp only[dL,Bool.and_true];simpa using hc
 .have:x.U.length=0:=by
   have h1:=h.1.1.1;rcases e with e|e|e|e
   .rw[e] at h1;simp[cr] at h1;omega
   .rw[e] at h1;simp[cr] at h1;omega
   .rw[e] at h1;simp[cr] at h1;omega
   .exact absurd e h5
  rw[a9s this];rfl
def gi(a b:J)(k:Int)(h1:az a=true)(h2:az b=true)(hk:k=6\/k=7):az (J.mk k 0 [a,b])=true:=XM 9 9 a b k h1 h2 hk
def UB(a:J)(h1:az a=true):az (J.mk 8 0 [a])=true:=XL 9 9 a 8 h1 (.inr rfl)
def PB:az (J.mk 2 0 [])=true:=by decide
def E5:az (J.mk 1 0 [])=true:=by decide
def jK(k:Int)(a b:J):aj (J.mk k 0 [a,b])=1+aj a+aj b:=by simp[aj,jJ];omega
def Te(k:Int)(a:J):aj (J.mk k 0 [a])=1+aj a:=by simp[aj,jJ]
def BV(k n:Int):aj (J.mk k n [])=1:=by simp[aj,jJ]
def Qw(a:Int)(x:J)(bs:List Bool):Bool:=if x.ah=4 then false else if x.ah=6 then bs.getD 0 false||bs.getD 1 false else if x.ah=7 then bs.getD 0 false&&bs.getD 1 false else if x.ah=8 then true else fL a x
def eo(a:Int)(x:J):Bool:=yC (Qw a) x
def Mx(a:Int)(x:J):eo a x=Qw a x (jj (Qw a) x.U):=j9 _ x
def VT(a:Int)(x:J)(i:Nat)(h:i<x.U.length):(jj (Qw a) x.U).getD i false=eo a (x.U.getD i zE):=eI _ _ _ _ i h
def a2C(a:Int)(x:J)(h:x.ah=4):false=eo a x:=by rw[Mx];simp[Qw,h]
def a2D(a:Int)(x:J)(h:x.ah=6)(b:B2 x):eo a x=(eo a (x.U.getD 0 zE)||eo a (x.U.getD 1 zE)):=by
 rw[Mx];simp only[Qw,h];rw[VT a x 0 (by have:=b.len;omega),VT a x 1 (by have:=b.len;omega)];rfl
def a2E(a:Int)(x:J)(h:x.ah=7)(b:B2 x):eo a x=(eo a (x.U.getD 0 zE)&&eo a (x.U.getD 1 zE)):=by
 rw[Mx];simp only[Qw,h];rw[VT a x 0 (by have:=b.len;omega),VT a x 1 (by have:=b.len;omega)];rfl
def a2F(a:Int)(x:J)(h:x.ah=8):true=eo a x:=by rw[Mx];simp[Qw,h]
def VS(a:Int)(x:J)(h4:¬ x.ah=4)(h6:¬ x.ah=6)(h7:¬ x.ah=7)(h8:¬ x.ah=8):fL a x=eo a x:=by rw[Mx];simp[Qw,h4,h6,h7,h8]
noncomputable def Rt(x:J)(fs:List (List J->List J))(out:List J):List J :=
 if x.ah=1 then out else if x.ah=6 then fs.getD 1 id (fs.getD 0 id out) else if out.any (λ y=>eg y x)=true then out else out++[x]
noncomputable def dC(x:J)(out:List J):List J:=yC Rt x out
def Ru(x:J)(out:List J):dC x out=Rt x (jj Rt x.U) out:=congrFun (j9 _ x) out
def a0q(x:J)(out:List J)(h:x.ah=1):dC x out=out:=by rw[Ru];simp[Rt,h]
def a0r(x:J)(out:List J)(h:x.ah=6)(b:B2 x):dC x out=dC (x.U.getD 1 zE) (dC (x.U.getD 0 zE) out):=by
 rw[Ru];simp only[Rt,h];rw[eI Rt id zE x.U 0 (by have:=b.len;omega),eI Rt id zE x.U 1 (by have:=b.len;omega)];rfl
def a0t(x:J)(out:List J)(h1:¬ x.ah=1)(h6:¬ x.ah=6)(ha:out.any (λ y=>eg y x)=true):dC x out=out:=by
 rw[Ru,Rt,a8v h1,a8v h6,a8A ha]
def a0s(x:J)(out:List J)(h1:¬ x.ah=1)(h6:¬ x.ah=6)(ha:out.any (λ y=>eg y x)=false):dC x out=out++[x]:=by
 rw[Ru,Rt,a8v h1,a8v h6,a8v (by rw[ha];decide)]
def ez(xs:List J):Nat:=cm aj xs+xs.length
def jB(xs:List J):Prop:=∀ y∈xs,az y=true
def x9{α:Type}(f:α->Nat):∀ xs ys:List α,cm f (xs++ys)=cm f xs+cm f ys
 | [],ys=>by simp[cm]
 | x::xs,ys=>by simp only[a9i,cm,x9 f xs ys];omega
def FB:∀ (N:Nat) (x:J),bo x<N->az x=true->∀ out,jB out->jB (dC x out)/\ez (dC x out)<=ez out+aj x+1
 | 0,x,h,_=>by omega
 | N+1,x,hN,h=>by
  intro out ho;by_cases h1:x.ah=1
  .rw[a0q x out h1];exact⟨ho,by omega⟩
  by_cases h6:x.ah=6
  .have b:=cD x h (.inl h6);rw[a0r x out h6 b];obtain⟨a1,a2⟩:=FB N (x.U.getD 0 zE) (by have:=b.l0;omega) b.g0 out ho;obtain⟨c1,c2⟩:=FB N (x.U.getD 1 zE) (by have:=b.l1;omega) b.g1 _ a1;exact⟨c1,by have:=b.nd;omega⟩
  rcases a9E (out.any (λ y=>eg y x)) with e|e
  .rw[a0t x out h1 h6 e];exact⟨ho,by omega⟩
  .rw[a0s x out h1 h6 e];refine⟨λ y hy=>?_,?_⟩
   .rcases a8t.1 hy with q|q
    .exact ho y q
    .rw[a8L] at q;rw[q];exact h
   .simp only[ez,x9,cm,a8E,a8F,a8R];omega
def OX(y x:J):Bool:=Op.bytesLess (bC y) (bC x)
def fj(x:J):List J->List J
 | []=>[x]
 | y::ys=>if OX y x=true then y::fj x ys else x::y::ys
def Na(x:J):∀ (ys:List J) (k:Nat),k<=ys.length->(∀ j y,j<k->ys[j]?=some y->OX y x=true)->(∀ y,ys[k]?=some y->OX y x=false)->fj x ys=ys.take k++x::ys.drop k
 | [],0,_,_,_=>rfl
 | y::ys,0,_,_,h=>by
  have:=h y rfl;rw[fj,a8v (by rw[this];decide)];rfl
 | y::ys,k+1,hk,h1,h2=>by
  have h0:=h1 0 y (by omega) rfl;have ih:=Na x ys k (by simpa using hk) (λ j z hj e=>h1 (j+1) z (by omega) e) (λ z e=>h2 z e);rw[fj,if_pos h0,ih];rfl
 | [],k+1,hk,_,_=>by simp at hk
def SQ(x:J):∀ ys y,y∈fj x ys↔y=x\/y∈ys
 | [],y=>by simp[fj]
 | z::zs,y=>by
  rw[fj];split
  .simp only[a8G,SQ x zs y];constructor
   .rintro (h|h|h)
    .exact .inr (.inl h)
    .exact .inl h
    .exact .inr (.inr h)
   .rintro (h|h|h)
    .exact .inr (.inl h)
    .exact .inl h
    .exact .inr (.inr h)
  .simp only[a8G]
def SS(x:J):∀ ys,ez (fj x ys)=ez ys+aj x+1
 | []=>by simp[fj,ez,cm]
 | z::zs=>by
  have ih:=SS x zs;rw[fj];split
  .simp only[ez,cm,a8F] at ih ⊢;omega
  .simp only[ez,cm,a8F];omega
def y9(xs:List J):List J:=xs.foldl (λ out x=>fj x out) []
def RA(xs:List J)(k:Nat):List J:=y9 (xs.take k)
def XG(xs:List J)(k:Nat)(x:J)(h:xs[k]?=some x):RA xs (k+1)=fj x (RA xs k):=by
 have e:xs.take (k+1)=xs.take k++[x]:=by rw[b0U,h];rfl
 simp only[RA,y9,e,b0T,b0x,b1E]
def RC:∀ (xs acc:List J),(∀ y,y∈xs.foldl (λ out x=>fj x out) acc↔y∈xs\/y∈acc)/\ez (xs.foldl (λ out x=>fj x out) acc)=ez xs+ez acc/\(xs.foldl (λ out x=>fj x out) acc).length=xs.length+acc.length
 | [],acc=>by simp[ez,cm]
 | x::xs,acc=>by
  obtain⟨h1,h2,h3⟩:=RC xs (fj x acc);have ht:=SS x acc;have hl:∀ ys:List J,(fj x ys).length=ys.length+1:=by
   intro ys;induction ys with
   | nil=>rfl
   | cons y ys ih=>rw[fj];split<;>simp[ih]
  refine⟨λ y=>?_,?_,?_⟩
  .rw[b0x,h1,SQ,a8G];constructor
   .rintro (h|h|h)
    .exact .inl (.inr h)
    .exact .inl (.inl h)
    .exact .inr h
   .rintro ((h|h)|h)
    .exact .inr (.inl h)
    .exact .inl h
    .exact .inr (.inr h)
  .rw[b0x,h2,ht];simp only[ez,cm,a8F];omega
  .rw[b0x,h3,hl,a8F];omega
def mu:List J->J
 | []=>J.mk 1 0 []
 | x::xs=>xs.foldl (λ o y=>J.mk 6 0 [o,y]) x
noncomputable def Ly(a b:J):J:=mu (y9 (dC b (dC a [])))
def SV:∀ (xs:List J) (o:J),az o=true->jB xs->az (xs.foldl (λ o y=>J.mk 6 0 [o,y]) o)=true/\aj (xs.foldl (λ o y=>J.mk 6 0 [o,y]) o)=aj o+ez xs
 | [],o,h,_=>⟨h,by simp[ez,cm]⟩
 | x::xs,o,h,hx=>by
  obtain⟨h1,h2⟩:=SV xs (J.mk 6 0 [o,x]) (gi o x 6 h (hx x (by simp)) (.inl rfl)) (λ y hy=>hx y (by simp[hy]));refine⟨h1,?_⟩;rw[b0x,h2,jK];simp only[ez,cm,a8F];omega
structure X4(a b r:J):Prop where
 g:az r=true
 n:aj r<=aj a+aj b+1
def a0J(a b:J)(h1:az a=true)(h2:az b=true):jB (y9 (dC b (dC a [])))/\ez (y9 (dC b (dC a [])))<=aj a+aj b+2:=by
 obtain⟨a1,a2⟩:=FB _ a (a8K _) h1 [] (λ y hy=>by cases hy);obtain⟨b1,b2⟩:=FB _ b (a8K _) h2 _ a1;obtain⟨c1,c2,_⟩:=RC (dC b (dC a [])) [];have e0:ez []=0:=rfl;refine⟨λ y hy=>?_,?_⟩
 .rcases (c1 y).1 hy with q|q
  .exact b1 y q
  .cases q
 .unfold y9;omega
def a4X(a b:J)(h1:az a=true)(h2:az b=true):X4 a b (Ly a b):=by
 obtain⟨g,t⟩:=a0J a b h1 h2;unfold Ly;generalize y9 (dC b (dC a []))=L at g t;match L with
 | []=>exact⟨E5,by show aj (J.mk 1 0 [])<=_;rw[BV];omega⟩
 | x::xs =>
  obtain⟨q1,q2⟩:=SV xs x (g x (by simp)) (λ y hy=>g y (by simp[hy]));refine⟨q1,?_⟩;show aj (xs.foldl _ x)<=_;rw[q2];simp only[ez,cm,a8F] at t ⊢;omega
def OC(x:J)(fs:List (J->J))(b:J):J :=
 if x.ah=1\/b.ah=1 then J.mk 1 0 [] else if x.ah=2 then b else if b.ah=2 then x else if x.ah=7 then fs.getD 0 id (fs.getD 1 id b) else J.mk 7 0 [x,b]
def ju(x b:J):J:=yC OC x b
def Mv(x b:J):ju x b=OC x (jj OC x.U) b:=congrFun (j9 _ x) b
def Gu(x b:J)(h:x.ah=1\/b.ah=1):ju x b=J.mk 1 0 []:=by rw[Mv,OC,a8A h]
def Gv(x b:J)(h:¬ (x.ah=1\/b.ah=1))(h2:x.ah=2):ju x b=b:=by rw[Mv,OC,a8v h,a8A h2]
def Gw(x b:J)(h:¬ (x.ah=1\/b.ah=1))(h2:¬ x.ah=2)(h3:b.ah=2):ju x b=x:=by rw[Mv,OC,a8v h,a8v h2,a8A h3]
def Gx(x b:J)(h:¬ (x.ah=1\/b.ah=1))(h2:¬ x.ah=2)(h3:¬ b.ah=2)(h7:x.ah=7)(g:B2 x):ju x b=ju (x.U.getD 0 zE) (ju (x.U.getD 1 zE) b):=by
 rw[Mv,OC,a8v h,a8v h2,a8v h3,a8A h7];rw[eI OC id zE x.U 0 (by have:=g.len;omega),eI OC id zE x.U 1 (by have:=g.len;omega)];rfl
def Gy(x b:J)(h:¬ (x.ah=1\/b.ah=1))(h2:¬ x.ah=2)(h3:¬ b.ah=2)(h7:¬ x.ah=7):ju x b=J.mk 7 0 [x,b]:=by rw[Mv,OC,a8v h,a8v h2,a8v h3,a8v h7]
def Qu:∀ (N:Nat) (x:J),bo x<N->az x=true->∀ b,az b=true->X4 x b (ju x b)
 | 0,x,h,_=>by omega
 | N+1,x,hN,h=>by
  intro b hb;have hx:=Fq x;have UG:=Fq b;by_cases h1:x.ah=1\/b.ah=1
  .rw[Gu x b h1];exact⟨E5,by rw[BV];omega⟩
  by_cases h2:x.ah=2
  .rw[Gv x b h1 h2];exact⟨hb,by omega⟩
  by_cases h3:b.ah=2
  .rw[Gw x b h1 h2 h3];exact⟨h,by omega⟩
  by_cases h7:x.ah=7
  .have g:=cD x h (.inr h7);rw[Gx x b h1 h2 h3 h7 g];have r:=Qu N (x.U.getD 1 zE) (by have:=g.l1;omega) g.g1 b hb;have q:=Qu N (x.U.getD 0 zE) (by have:=g.l0;omega) g.g0 _ r.g;exact⟨q.g,by have:=q.n;have:=r.n;have:=g.nd;omega⟩
  .rw[Gy x b h1 h2 h3 h7];exact⟨gi x b 7 h hb (.inr rfl),by rw[jK];omega⟩
def Cd(a:J):J:=if bF a=true then J.mk 2 0 [] else if a.ah=8 then a else J.mk 8 0 [a]
def a4V(a:J)(h:az a=true):az (Cd a)=true/\aj (Cd a)<=aj a+1:=by
 have:=Fq a;unfold Cd;split
 .exact⟨PB,by rw[BV];omega⟩
 .split
  .exact⟨h,by omega⟩
  .exact⟨UB a h,by rw[Te];omega⟩
noncomputable def XK(x:J)(ys:List J):J :=
 if x.ah=6 then Ly (ys.getD 0 x) (ys.getD 1 x) else if x.ah=7 then ju (ys.getD 0 x) (ys.getD 1 x) else if x.ah=8 then Cd (ys.getD 0 x) else x
noncomputable def eF(x:J):J:=yC XK x
def TO(x:J)(i:Nat)(h:i<x.U.length):(jj XK x.U).getD i x=eF (x.U.getD i zE):=eI _ _ _ _ i h
def a1a(x:J)(h:x.ah=6)(b:B2 x):eF x=Ly (eF (x.U.getD 0 zE)) (eF (x.U.getD 1 zE)):=by
 rw[eF,j9];simp only[XK,h];rw[TO x 0 (by have:=b.len;omega),TO x 1 (by have:=b.len;omega)];rfl
def a1b(x:J)(h:x.ah=7)(b:B2 x):eF x=ju (eF (x.U.getD 0 zE)) (eF (x.U.getD 1 zE)):=by
 rw[eF,j9];simp only[XK,h];rw[TO x 0 (by have:=b.len;omega),TO x 1 (by have:=b.len;omega)];rfl
def a1c(x:J)(h:x.ah=8)(b:B1 x):eF x=Cd (eF (x.U.getD 0 zE)):=by
 rw[eF,j9];simp only[XK,h];rw[TO x 0 (by have:=b.len;omega)];rfl
def a1d(x:J)(h6:¬ x.ah=6)(h7:¬ x.ah=7)(h8:¬ x.ah=8):eF x=x:=by
 rw[eF,j9];simp[XK,h6,h7,h8]
structure a2h(x r:J):Prop where
 g:az r=true
 n:aj r<=aj x
def JE:∀ (N:Nat) (x:J),bo x<N->az x=true->a2h x (eF x)
 | 0,x,h,_=>by omega
 | N+1,x,hN,h=>by
  by_cases h6:x.ah=6
  .have b:=cD x h (.inl h6);rw[a1a x h6 b];have p:=JE N (x.U.getD 0 zE) (by have:=b.l0;omega) b.g0;have q:=JE N (x.U.getD 1 zE) (by have:=b.l1;omega) b.g1;have r:=a4X _ _ p.g q.g;exact⟨r.g,by have:=r.n;have:=p.n;have:=q.n;have:=b.nd;omega⟩
  by_cases h7:x.ah=7
  .have b:=cD x h (.inr h7);rw[a1b x h7 b];have p:=JE N (x.U.getD 0 zE) (by have:=b.l0;omega) b.g0;have q:=JE N (x.U.getD 1 zE) (by have:=b.l1;omega) b.g1;have r:=Qu _ _ (a8K _) p.g _ q.g;exact⟨r.g,by have:=r.n;have:=p.n;have:=q.n;have:=b.nd;omega⟩
  by_cases h8:x.ah=8
  .have b:=jC x h (.inr h8);rw[a1c x h8 b];have p:=JE N (x.U.getD 0 zE) (by have:=b.l0;omega) b.g0;have r:=a4V _ p.g;exact⟨r.1,by have:=r.2;have:=p.n;have:=b.nd;omega⟩
  .rw[a1d x h6 h7 h8];exact⟨h,a8C _⟩
def Cg(x:J)(h:az x=true):a2h x (eF x):=JE _ x (a8K _) h
def dtT(x b:J)(h:az x=true)(hb:az b=true):X4 x b (ju x b):=Qu _ x (a8K _) h b hb
def oY(x:J)(h:aj x<=9000):aY x<=1048576:=by have:=P3 x;omega
def RM(x:J)(h:az x=true)(hn:aj x<=9000):(bC x).length<=1000000:=by have:=uk _ x (a8K _) h;omega
def nz:aQ:=⟨BR,[],⟨(none,[⟨(.st .expr),J.mk 2 0 []⟩])⟩⟩
def Nr :Nat->aG:=cf
def uW:aQ.Good nz:=by
 refine⟨aB zq,?_⟩;intro  _;refine aP [] [] [] [] trivial zq Gk (Nr ) ((J.mk (2:Int) (0:Int) [])=(J.mk 2 0 [])) ?_;refine ?_;all_goals try and_intros
 all_goals first|rfl|trivial|omega|(simp only[a8z,a8y,av,ai,cH,iy,cB,aX] at *;omega)|(simp[av,ai] at *;omega)|grind
def iP:aQ:=⟨rh,[],⟨(none,[⟨(.st .expr),J.mk 1 0 []⟩])⟩⟩
def Lj :Nat->aG:=cf
def mi:aQ.Good iP:=by
 refine⟨aB xf,?_⟩;intro  _;refine aP [] [] [] [] trivial xf EJ (Lj ) ((J.mk (1:Int) (0:Int) [])=(J.mk 1 0 [])) ?_;refine ?_;all_goals try and_intros
 all_goals first|rfl|trivial|omega|(simp only[a8z,a8y,av,ai,cH,iy,cB,aX] at *;omega)|(simp[av,ai] at *;omega)|grind
def iO:aQ:=⟨ra,[.v (.int .i64), .v (.st .expr), .v (.st .expr)],λ (k:Int) (a:J) (b:J)=>⟨(none,[⟨(.st .expr),J.mk k 0 [a,b]⟩])⟩⟩
def Lf(k:Int)(a:J)(b:J):Nat->aG:=cf
def mh:aQ.Good iO:=by
 refine⟨aB xd,?_⟩;intro (k:Int) (a:J) (b:J) _;refine aP [] [] [] [4,5] trivial xd EF (Lf k a b) ((J.mk k (0:Int) ([a,b]))=(J.mk k 0 [a,b])) ?_;refine ?_;all_goals try and_intros
 all_goals first|rfl|trivial|omega|(simp only[a8z,a8y,av,ai,cH,iy,cB,aX] at *;omega)|(simp[av,ai] at *;omega)|grind
def jo(n:Nat):aQ:=⟨oW,[.r (.st .expr), .v (.int .i64)],λ (x:J) (atom:Int)=>⟨(some (bo x<n/\az x=true/\0<=atom/\atom<=4096),[⟨.bool,eo atom x⟩])⟩⟩
def kf:aQ:=⟨oW,[.r (.st .expr), .v (.int .i64)],λ (x:J) (atom:Int)=>⟨(some (az x=true/\0<=atom/\atom<=4096),[⟨.bool,eo atom x⟩])⟩⟩
def I9(x:J)(atom:Int):Nat->aG:=cf
abbrev tJ(n:Nat)(x:J)(atom:Int):Prop:=(let v0:=x.U.getD 1 zE;(x.U.length<=140737488355328 ->
 (av (1:Int) x.U.length/\((bo v0<n/\az v0=true/\0<=atom/\atom<=4096)/\(eo atom v0)=(eo atom x)))))
def HG(n:Nat)(hE:bf [jo n,qN]):aQ.Good (jo (n+1)):=by
 refine⟨aB ji,?_⟩;intro (x:J) (atom:Int) (hp:bo x<n+1/\az x=true/\0<=atom/\atom<=4096);refine aP [jo n,qN] [] [] [] hE ji Db (I9 x atom) (let v0:=x.U.getD 0 zE;let v1:=bo v0<n/\az v0=true/\0<=atom/\atom<=4096;let v2:=eo atom x;let v3:=eo atom v0;((ai x.ah->(((decide (x.ah=(4:Int)))=true->false=v2)/\((decide (x.ah=(4:Int)))=false->(((decide (x.ah=(6:Int)))=true->(x.U.length<=140737488355328->(av (0:Int) x.U.length/\(v1/\((v3=false->(tJ n x atom))/\(v3=(!false)->true=v2))))))/\((decide (x.ah=(6:Int)))=false->(((decide (x.ah=(7:Int)))=true->(x.U.length<=140737488355328->(av (0:Int) x.U.length/\(v1/\((v3=true->(tJ n x atom))/\(v3=(!true)->false=v2))))))/\((decide (x.ah=(7:Int)))=false->(((decide (x.ah=(8:Int)))=true->true=v2)/\((decide (x.ah=(8:Int)))=false->((gM x=true/\0<=atom/\atom<=4096)/\(fL atom x)=v2)))))))))))) ?_;obtain⟨hm,hg,h0,h1⟩:=hp;refine λ _=>⟨λ _=>?_,λ _=>⟨λ _ _=>⟨?_,?_,λ _ _=>⟨?_,?_,?_⟩,λ _=>?_⟩,λ _=>⟨λ _ _=>⟨?_,?_,λ _ _=>⟨?_,?_,?_⟩,λ _=>?_⟩,λ _=>⟨λ _=>?_,λ _=>⟨?_,?_⟩⟩⟩⟩⟩;all_goals try and_intros
 all_goals first|rfl|trivial|omega|((try simp only[a8z,a8y,av,Bool.true_or,b2w,b2x,b2n,Bool.or_true,b1J] at *);first|rfl|omega|exact a2C atom x (by omega)|exact a2F atom x (by omega)|exact VS atom x (by omega) (by omega) (by omega) (by omega)|exact VY x hg (by have:=ed x hg;omega)|(have b:=cD x hg (by omega);first|(have:=b.len;omega)|exact b.g0|exact b.g1|(have:=b.l0;omega)|(have:=b.l1;omega)|(rw[a2D atom x (by omega) b];simp_all;done)|(rw[a2E atom x (by omega) b];simp_all;done)))
def RV :∀ n,bf [jo n]
 | 0=>⟨⟨aB ji,λ _ _ h=>absurd h.1 (a8X _)⟩,ae⟩
 | n+1=>by
  have ih:=RV  n;exact⟨HG n ⟨ih.1,EZ,ae⟩,ae⟩
def rA :aQ.Good kf :=
 ⟨aB ji,λ x atom hp=>(RV  (bo x+1)).1.2 x atom (⟨a8K _,hp⟩)⟩
def kq(n:Nat):aQ:=⟨qX,[.r (.st .expr)],λ (x:J)=>⟨(some (bo x<n/\aj x<=1048576),[⟨(.int .i64),(aj x:Int)⟩])⟩⟩
def qM:aQ:=⟨qX,[.r (.st .expr)],λ (x:J)=>⟨(some (aj x<=1048576),[⟨(.int .i64),(aj x:Int)⟩])⟩⟩
def K8(x:J):Nat->aG:=(dU 0 (.b (Nat) (λ k=>k<=x.U.length) (λ k=>x.U.length - k) [2] (λ k=>[(4, .aK ⟨(.int .i64),((k:Int):Int)⟩),(3, .aK ⟨(.int .i64),((1+cm aj (x.U.take k):Int):Int)⟩)])) cf)
def Jr(n:Nat)(hE:bf [kq n]):aQ.Good (kq (n+1)):=by
 refine⟨aB jV,?_⟩;intro (x:J) (hp:bo x<n+1/\aj x<=1048576);refine aP [kq n] [] [] [] hE jV Ey (K8 x) (let v0:=(x.U.length:Int);(((∃ k1:Nat,(k1<=x.U.length/\((x=x/\((1:Int)=(1+cm aj (x.U.take k1):Int)/\((0:Int)=(k1:Int)/\True)))/\True)))/\(∀ k1:Nat,let v2:=x.U.getD k1 zE;let v3:=(1+cm aj (x.U.take k1):Int);let v1:=v3+((aj v2:Int));(k1<=x.U.length->(x.U.length<=140737488355328->(ai v0->(((decide ((k1:Int)<v0))=true->(x.U.length<=140737488355328->(av (k1:Int) x.U.length/\((bo v2<n/\aj v2<=1048576)/\(ai ((aj v2:Int))->(ai v1/\(ai ((k1:Int)+(1:Int))/\(∃ k2:Nat,(k2<=x.U.length/\(x.U.length - k2<x.U.length - k1/\((x=x/\(v1=(1+cm aj (x.U.take k2):Int)/\(((k1:Int)+(1:Int))=(k2:Int)/\True)))/\True)))))))))))/\((decide ((k1:Int)<v0))=false->v3=(aj x:Int)))))))))) ?_;rw[gv x] at hp;have f0:=dZ x;have f1:=ya aj x.U;refine⟨⟨0,?_,⟨rfl,?_,?_,ae⟩,ae⟩,λ k1 _=>have a2k:=kE aj zE x.U k1;have a2l:=dz aj x.U k1;have a2m:=dz aj x.U (k1+1);have a2n:=pQ aj x.U k1;have a2o:=bX zE x.U k1;λ _ _=>⟨λ _ _=>⟨?_,?_,λ _=>⟨?_,?_,k1+1,?_,?_,⟨rfl,?_,?_,ae⟩,ae⟩⟩,λ _=>?_⟩⟩;all_goals try and_intros
 all_goals try rw[gv x]
 all_goals first|rfl|trivial|omega|(simp only[a8z,a8y,av,ai,cH,iy,cB,aX] at *;omega)|(simp[av,ai] at *;omega)|grind
def L6 :∀ n,bf [kq n]
 | 0=>⟨⟨aB jV,λ _ h=>absurd h.1 (a8X _)⟩,ae⟩
 | n+1=>by
  have ih:=L6  n;exact⟨Jr n ⟨ih.1,ae⟩,ae⟩
def EW :aQ.Good qM :=
 ⟨aB jV,λ x hp=>(L6  (bo x+1)).1.2 x (⟨a8K _,hp⟩)⟩
def lV(n:Nat):aQ:=⟨tY,[.r (.st .expr), .r (.st .expr)],λ (x:J) (b:J)=>⟨(some (bo x<n/\az x=true/\az b=true/\aj x+aj b<=4000),[⟨(.st .expr),ju x b⟩])⟩⟩
def tP:aQ:=⟨tY,[.r (.st .expr), .r (.st .expr)],λ (x:J) (b:J)=>⟨(some (az x=true/\az b=true/\aj x+aj b<=4000),[⟨(.st .expr),ju x b⟩])⟩⟩
def Nq(x:J)(b:J):Nat->aG:=cf
abbrev xF(n:Nat)(x:J)(b:J):Prop:=(let v0:=x.U.getD 1 zE;let v1:=x.U.getD 0 zE;let v2:=bc (ju v0 b);(ai x.ah ->
 (((decide (x.ah=(2:Int)))=true ->
 (aY b<=1048576/\(bc b)=(ju x b)))/\((decide (x.ah=(2:Int)))=false ->
 (ai b.ah ->
 (((decide (b.ah=(2:Int)))=true ->
 (aY x<=1048576/\(bc x)=(ju x b)))/\((decide (b.ah=(2:Int)))=false ->
 (ai x.ah ->
 (((decide (x.ah=(7:Int)))=true ->
 (x.U.length<=140737488355328 ->
 (av (1:Int) x.U.length/\((bo v0<n/\az v0=true/\az b=true/\aj v0+aj b<=4000)/\(x.U.length<=140737488355328 ->
 (av (0:Int) x.U.length/\((bo v1<n/\az v1=true/\az v2=true/\aj v1+aj v2<=4000)/\(bc (ju v1 v2))=(ju x b))))))))/\((decide (x.ah=(7:Int)))=false ->
 (aY x<=1048576/\(aY b<=1048576/\(bc (J.mk (7:Int) 0 [x,b]))=(ju x b)))))))))))))
def Lw(n:Nat)(hE:bf [lV n,eV,iP,iO]):aQ.Good (lV (n+1)):=by
 refine⟨aB lJ,?_⟩;intro (x:J) (b:J) (hp:bo x<n+1/\az x=true/\az b=true/\aj x+aj b<=4000);refine aP [lV n,eV,iP,iO] [] [] [] hE lJ Gj (Nq x b) ((ai x.ah->(((decide (x.ah=(1:Int)))=false->(ai b.ah->(((decide (b.ah=(1:Int)))=true->(bc (J.mk 1 0 []))=(ju x b))/\((decide (b.ah=(1:Int)))=false->(xF n x b)))))/\((decide (x.ah=(1:Int)))=(!false)->((true=true->(bc (J.mk 1 0 []))=(ju x b))/\(true=false->(xF n x b))))))) ?_;obtain⟨hm,hg,hb,hn⟩:=hp;refine λ _=>⟨λ _ _=>⟨λ _=>?_,λ _ _=>⟨λ _=>⟨?_,?_⟩,λ _ _=>⟨λ _=>⟨?_,?_⟩,λ _ _=>⟨λ _ _=>⟨?_,?_,λ _=>⟨?_,?_,?_⟩⟩,λ _=>⟨?_,?_,?_⟩⟩⟩⟩⟩,λ _=>⟨λ _=>?_,λ _ _=>⟨λ _=>⟨?_,?_⟩,λ _ _=>⟨λ _=>⟨?_,?_⟩,λ _ _=>⟨λ _ _=>⟨?_,?_,λ _=>⟨?_,?_,?_⟩⟩,λ _=>⟨?_,?_,?_⟩⟩⟩⟩⟩⟩;all_goals try and_intros
 all_goals try (first|with_reducible rfl|with_reducible assumption)
 all_goals try simp only[J.eta,cW] at *
 all_goals (try simp only[a9r,a9y,a8z,a8y,av,J.eta] at *);first|rfl|trivial|omega|exact oY _ (by omega)|exact (Gu x b (by omega)).symm|exact (Gv x b (by omega) (by omega)).symm|exact (Gw x b (by omega) (by omega) (by omega)).symm|exact (Gy x b (by omega) (by omega) (by omega) (by omega)).symm|with_reducible assumption|(have g:=cD x hg (by omega);first|(have:=g.len;omega)|exact g.g0|exact g.g1|(have:=g.l0;omega)|(have:=g.l1;omega)|exact (dtT _ b g.g1 hb).g|(have:=g.nd;omega)|(have:=g.nd;have:=(dtT _ b g.g1 hb).n;omega)|exact (Gx x b (by omega) (by omega) (by omega) (by omega) g).symm)|exact congrArg J.ah (Gu x b (by omega)).symm|exact congrArg J.ah (Gv x b (by omega) (by omega)).symm|exact congrArg J.ah (Gw x b (by omega) (by omega) (by omega)).symm|exact congrArg J.ah (Gy x b (by omega) (by omega) (by omega) (by omega)).symm|exact congrArg J.ah (Gx x b (by omega) (by omega) (by omega) (by omega) (cD x hg (by omega))).symm|exact congrArg J.aZ (Gu x b (by omega)).symm|exact congrArg J.aZ (Gv x b (by omega) (by omega)).symm|exact congrArg J.aZ (Gw x b (by omega) (by omega) (by omega)).symm|exact congrArg J.aZ (Gy x b (by omega) (by omega) (by omega) (by omega)).symm|exact congrArg J.aZ (Gx x b (by omega) (by omega) (by omega) (by omega) (cD x hg (by omega))).symm|exact congrArg J.U (Gu x b (by omega)).symm|exact congrArg J.U (Gv x b (by omega) (by omega)).symm|exact congrArg J.U (Gw x b (by omega) (by omega) (by omega)).symm|exact congrArg J.U (Gy x b (by omega) (by omega) (by omega) (by omega)).symm|exact congrArg J.U (Gx x b (by omega) (by omega) (by omega) (by omega) (cD x hg (by omega))).symm
def Pf :∀ n,bf [lV n]
 | 0=>⟨⟨aB lJ,λ _ _ h=>absurd h.1 (a8X _)⟩,ae⟩
 | n+1=>by
  have ih:=Pf  n;exact⟨Lw n ⟨ih.1,jk,mi,mh,ae⟩,ae⟩
def GU :aQ.Good tP :=
 ⟨aB lJ,λ x b hp=>(Pf  (bo x+1)).1.2 x b (⟨a8K _,hp⟩)⟩
def qO:aQ:=⟨Ac,[.r (.st .expr)],λ (x:J)=>⟨(some (az x=true/\aj x<=4000),[⟨(.st .expr),Cd x⟩])⟩⟩
def Lg(x:J):Nat->aG:=cf
def E3:aQ.Good qO:=by
 refine⟨aB xe,?_⟩;intro (x:J) (hp:az x=true/\aj x<=4000);refine aP [fX,eV,nz] [] [] [] ⟨mF,jk,uW,ae⟩ xe EG (Lg x) ((((bF x)=true->(bc (J.mk 2 0 []))=(Cd x))/\((bF x)=false->(ai x.ah->(((decide (x.ah=(8:Int)))=true->(aY x<=1048576/\(bc x)=(Cd x)))/\((decide (x.ah=(8:Int)))=false->(aY x<=1048576/\(J.mk (8:Int) (0:Int) ([x]))=(Cd x)))))))) ?_;obtain⟨hg,hn⟩:=hp;refine⟨λ _=>?_,λ _ _=>⟨λ _=>⟨?_,?_⟩,λ _=>⟨?_,?_⟩⟩⟩;all_goals try and_intros
 all_goals try (first|with_reducible rfl|with_reducible assumption)
 all_goals try simp only[J.eta,cW] at *
 all_goals (try simp only[decide_eq_true_eq,decide_eq_false_iff_not,av,J.eta] at *);first|rfl|trivial|omega|exact oY _ (by omega)|(unfold Cd;first|(rw[if_pos (by with_reducible assumption)];done)|(rw[if_neg (by simp_all),if_pos (by with_reducible assumption)];done)|(rw[if_neg (by simp_all),if_neg (by with_reducible assumption)];done))
open Go.RowKit Go.Proofs
def a0u{w0 w:World}{S:Nat->Prop}(hS:iX w0 S)(hb:Below w0.heap.size w0 w):iX w S :=
 ⟨λ b h=>a8B (hS.1 b h) hb.size,hS.2.mono (λ _ h=>h) λ b h=>hb.block b (hS.1 b h)⟩
def Wg{w0 w:World}{S:Nat->Prop}(hS:iX w0 S)(hb:Below w0.heap.size w0 w){d:D}{cs:List Value}(r:Rd w0 S d cs):Rd w S d cs:=Rd.aE (λ _ h=>h) (λ b h=>hb.block b (hS.1 b h)) _ r
def pE{B:Nat}{w w':World}(h:bH (λ _=>False) w w')(hB:B<=w.heap.size):Below B w w':=⟨h.os,h.tape,h.output,h.size,λ k hk=>h.block k (by omega) id⟩
def Vr{w0 w:World}{S:Nat->Prop}(hS:iX w0 S)(hb:Below w0.heap.size w0 w)(x y:J)(b o b' o':Nat)(cx cy:List Value)(h1:b<w.heap.size)(h2:bh w b o cx)(rx:Rd w0 S x.aD cx)
  (uw:b'<w.heap.size) (xx:bh w b' o' cy) (ry:Rd w0 S y.aD cy) :
  Calls prog lW #[.pointer (some ⟨b,o,none⟩), .pointer (some ⟨b',o',none⟩)] w λ e w'=>e = .returned (.bool (eg x y))/\bH (λ _=>False) w w':=by
 refine (tu.2 x y trivial w _ [_,_] (a0u hS hb) ⟨⟨b,o,cx,rfl,h1,h2,Wg hS hb rx⟩,⟨b',o',cy,rfl,uw,xx,Wg hS hb ry⟩,ae⟩).mono ?_;rintro e w' ⟨v,S',res,rfl,rfl,fe,_,_,hr⟩;have hr:[v]=[.bool (eg x y)]:=hr;simp only[a8x,a8T] at hr;subst hr;exact⟨rfl,fe⟩
structure AE(q:Nat)(v v':Value)(w w':World):Prop where
 os:w'.os=w.os
 tape:w'.tape=w.tape
 output:w'.output=w.output
 size:w.heap.size<=w'.heap.size
 block:∀ k,k<w.heap.size->k≠q->v.ownBlock≠some k->w'.heap[k]?=w.heap[k]?
 own:∀ k,v'.ownBlock=some k->v.ownBlock=some k\/w.heap.size<=k
def AE.trans{q:Nat}{v v' v'':Value}{w w' O8:World}(h:AE q v v' w w')(g:AE q v' v'' w' O8):AE q v v'' w O8:=by
 refine⟨g.os.trans h.os,g.tape.trans h.tape,g.output.trans h.output,a9v h.size g.size,λ k h1 h2 h3=>?_,λ k hk=>?_⟩
 .rw[g.block k (a8B h1 h.size) h2 λ e=>?_,h.block k h1 h2 h3];rcases h.own k e with q|q
  .exact h3 q
  .omega
 .rcases g.own k hk with q|q
  .exact h.own k q
  .exact .inr (a9v h.size q)
def AE.below{q B:Nat}{v v':Value}{w w':World}(h:AE q v v' w w')(hB:B<=w.heap.size)(hq:B<=q)(hv:∀ k,v.ownBlock=some k->B<=k):Below B w w' :=
 ⟨h.os,h.tape,h.output,h.size,λ k hk=>h.block k (by omega) (by omega) λ e=>by have:=hv k e;omega⟩
def AE.same{q:Nat}{v:Value}{w w':World}(h:bH (λ _=>False) w w'):AE q v v w w':=⟨h.os,h.tape,h.output,h.size,λ k hk _ _=>h.block k hk id,λ k e => .inl e⟩
structure CU(w0:World)(S:Nat->Prop)(q:Nat)(w:World)(v:Value)(ys:List J)(L:List Value):Prop where
 cK:Below w0.heap.size w0 w
 q0:w0.heap.size<=q
 var:w.heap[q]?=some (.cells #[v] 33 (0,0))
 own:w.ownsRow w0.heap.size 36 3 v ys.length L
 rd:cP w0 S (ys.map J.aD) L
 ne:v.ownBlock≠some q
 nn:v ≠ .slice none 0 0
def CU.lt{w0:World}{S:Nat->Prop}{q:Nat}{w:World}{v:Value}{ys:List J}{L:List Value}(h:CU w0 S q w v ys L):q<w.heap.size:=bn h.var
def CU.form{w0:World}{S:Nat->Prop}{q:Nat}{w:World}{v:Value}{ys:List J}{L:List Value}(h:CU w0 S q w v ys L):∃ g cap cur,v = .slice (some ⟨g,0,none⟩) ys.length cap/\w0.heap.size<=g/\g≠q/\w.heap[g]?=some (.cells cur 36 (0,0))/\ys.length<=cap/\cap<=maxLen/\cur.toList.take (ys.length * 3)=L:=by
 rcases h.own.2 with ⟨e,_⟩|⟨g,cap,cur,rfl,h1,h2,h3,h4,h5,h6⟩
 .exact absurd e h.nn
 .exact⟨g,cap,cur,rfl,h1,λ e=>h.ne (by rw[e];rfl),h2,h3,h4,h6⟩
def CU.aE{w0:World}{S:Nat->Prop}{q:Nat}{w w':World}{v:Value}{ys:List J}{L:List Value}(h:CU w0 S q w v ys L)(hk:bH (λ _=>False) w w'):CU w0 S q w' v ys L :=
 ⟨h.cK.trans (pE hk h.cK.size),h.q0,(hk.block q h.lt id).trans h.var,h.own.kept (row:=none) ⟨hk.os,hk.tape,hk.output,hk.size,λ k h1 _=>hk.block k h1 id⟩ (by cases hv:v.ownBlock<;>simp),h.rd,h.ne,h.nn⟩
def Mz(ys:List J):∀ d∈ys.map J.aD,d.size=3:=λ d hd=>by
 obtain⟨y,_,rfl⟩:=a8w.1 hd;cases y;rfl
def B9{w0:World}{S:Nat->Prop}{ys:List J}{L:List Value}{w:World}{g:Nat}{cur:Array Value}(hg:w.heap[g]?=some (.cells cur 36 (0,0)))(ht:cur.toList.take (ys.length * 3)=L)(hr:cP w0 S (ys.map J.aD) L)
  (k:Nat) (y:J) (hy:ys[k]?=some y):∃ c0 c1 c2,bh w g (k * 3) [c0,c1,c2]/\Rd w0 S y.aD [c0,c1,c2]:=by
 have hk:k<ys.length:=(a8P.1 hy).1;have r:=cP.at_ (n:=3) _ hr (Mz ys) k y.aD (by simp[hy]);have hl:=cP.length (n:=3) _ hr (Mz ys);rw[a8W] at hl;have h3:((L.drop (k * 3)).take 3).length=3:=by rw[a9t,a9C];omega
 match hm:(L.drop (k * 3)).take 3,h3 with
 | [c0,c1,c2],_ =>
  rw[hm] at r;refine⟨c0,c1,c2,λ j v hj=>?_,r⟩;rw[<-hm] at hj;have Y9:j<3:=by have:=(a8P.1 hj).1;omega
  rw[List.getElem?_take_of_lt Y9,List.getElem?_drop,<-ht,List.getElem?_take_of_lt (by omega)] at hj;rw[cell_of_row w g (k * 3+j) cur 36 (0,0) hg];simpa using hj
def Nz{w0:World}{S:Nat->Prop}{q:Nat}{w:World}{v:Value}{ys:List J}{L:List Value}(h:CU w0 S q w v ys L):w.cell? ⟨q,0,none⟩=some v:=by simp[World.cell?,h.var]
def xl{w0 w:World}(hb:Below w0.heap.size w0 w){b o:Nat}{cs:List Value}(h:bh w0 b o cs)(h1:b<w0.heap.size):bh w b o cs:=h.aE (hb.block b h1)
abbrev Pc(w0:World)(S:Nat->Prop)(x:J)(b o q:Nat)(v:Value)(ys:List J)(w:World):Prop :=
 Calls prog 85 #[.pointer (some ⟨b,o,none⟩), .pointer (some ⟨q,0,none⟩)] w λ e w'=>e = .returned (.tuple #[])/\∃ v' L',CU w0 S q w' v' (dC x ys) L'/\AE q v v' w w'
def kN:Value->Nat
 | .int _ k=>k.toNat
 | _=>0
set_option maxRecDepth 100000 in
def a7e(w0:World)(S:Nat->Prop)(x:J)(h1:x.ah=1)(b o q:Nat)(v:Value)(ys:List J)(L:List Value)(w:World)(hl:CU w0 S q w v ys L)(hc:w.cell? ⟨b,o,none⟩=some (.int .i64 1)):Pc w0 S x b o q v ys w:=by
 go_enter Tryz.func85,Tryz.ntmps85;go_wp2;(try simp only[Exit.inBlock,Exit.then]);refine bodyPost_ret (results_none rfl _ _ _) rfl ?_;rw[a0q x ys h1];exact⟨rfl,v,L,hl,AE.same (bH.refl _ w)⟩
set_option maxRecDepth 100000 in
def a7f(w0:World)(S:Nat->Prop)(x:J)(h6:x.ah=6)(b2:B2 x)(b o q kb ko cap:Nat)(v:Value)(ys:List J)(w:World)(c0:w.cell? ⟨b,o,none⟩=some (.int .i64 6))
  (c2:∀ w',(∃ v',AE q v v' w w')->w'.cell? ⟨b,o+2,none⟩=some (.slice (some ⟨kb,ko,none⟩) 2 cap))
  (i0:Pc w0 S (x.U.getD 0 zE) kb ko q v ys w)
  (i1:∀ w' v' L',CU w0 S q w' v' (dC (x.U.getD 0 zE) ys) L'->AE q v v' w w'->Pc w0 S (x.U.getD 1 zE) kb (ko+3) q v' (dC (x.U.getD 0 zE) ys) w'):Pc w0 S x b o q v ys w:=by
 have c2':=c2 w ⟨v,AE.same (bH.refl _ w)⟩;go_enter Tryz.func85,Tryz.ntmps85;go_wp2_with (go_at_call 85;refine i0.mono ?_);rintro e w1 ⟨he,v1,L1,l1,f1⟩;subst he;have a8a:=c2 w1 ⟨v1,f1⟩;go_wp2_with (go_at_call 85;refine (i1 w1 v1 L1 l1 f1).mono ?_);rintro e w2 ⟨he,v2,L2,l2,f2⟩;subst he;go_wp2;(try simp only[Exit.inBlock,Exit.then]);refine b2a (b2I rfl _ _ _) rfl ?_;rw[a0r x ys h6 b2];exact⟨rfl,v2,L2,l2,f1.trans f2⟩
def a7b(L:List Value)(z0 z1 z2 a b c:Value)(n:Nat)(h:L.length=n):(((L++[z0,z1,z2]).set n a).set (n+1) b).set (n+2) c=L++[a,b,c]:=by
 subst h;rw[b0Y _ _ (by omega),b0Y _ _ (by omega),b0Y _ _ (by omega)];simp
def a0K{w0 w wr w2 W:World}{S:Nat->Prop}{q g gg Ec GJ:Nat}{x:J}{ys:List J}{L:List Value}{a b c:Value}{cur3:Array Value}{o1:Obj}(lr:CU w0 S q wr (.slice (some ⟨g,0,none⟩) ys.length Ec) ys L)
  (jv:bH (λ _=>False) w wr) (hqw:q<w.heap.size) (hgw:g<w.heap.size) (cU:(wr.alloc o1).grownBy w2 (some g)) (II:some g=some gg\/gg=wr.heap.size+1) (a2U:gg<w2.heap.size) (gq2:gg≠q)
  (s3:w2.heap[gg]?=some (.cells cur3 36 (0,0))) (s4:cur3.size=GJ * 3) (s5:ys.length+1<=GJ) (s6:GJ<=maxLen) (s7:w0.heap.size<=gg) (s8:cur3.toList.take ((ys.length+1) * 3)=L++[.int .i64 0, .int .i64 0, .slice none 0 0])
  (rx:Rd w0 S x.aD [a,b,c]) (k1:W.os=w2.os) (k2:W.tape=w2.tape) (k3:W.output=w2.output) (k4:W.heap.size=w2.heap.size) (k5:∀ k,k≠q->k≠gg->W.heap[k]?=w2.heap[k]?)
  (k6:W.heap[q]?=some (.cells #[.slice (some ⟨gg,0,none⟩) (ys.length+1) GJ] 33 (0,0)))
  (k7:W.heap[gg]?=some (.cells (((cur3.setIfInBounds (ys.length * 3) a).setIfInBounds (ys.length * 3+1) b).setIfInBounds (ys.length * 3+2) c) 36 (0,0))) :
  CU w0 S q W (.slice (some ⟨gg,0,none⟩) (ys.length+1) GJ) (ys++[x]) (L++[a,b,c])/\AE q (.slice (some ⟨g,0,none⟩) ys.length Ec) (.slice (some ⟨gg,0,none⟩) (ys.length+1) GJ) w W:=by
 have YM:L.length=ys.length * 3:=lr.own.1;have hg0:w0.heap.size<=g:=(lr.own.lt g rfl).1;have sz:(wr.alloc o1).heap.size=wr.heap.size+1:=by simp
 have dt:∀ k,k<wr.heap.size->k≠q->k≠g->W.heap[k]?=wr.heap[k]?:=λ k h1 h2 h3=>by
  rw[k5 k h2 (λ e=>by rcases II with r|r<;>first|omega|(cases r;exact h3 e)),cU.block k (by omega) (λ e=>h3 (by cases e;rfl)),a9D _ _ _ h1]
 have fr:AE q (.slice (some ⟨g,0,none⟩) ys.length Ec) (.slice (some ⟨gg,0,none⟩) (ys.length+1) GJ) w W:=by
  refine⟨k1.trans (cU.os.trans jv.os),k2.trans (cU.tape.trans jv.tape),k3.trans (cU.output.trans jv.output),by have:=cU.size;have:=jv.size;omega,λ k h1 h2 h3=>?_,λ k hk=>?_⟩
  .have hk:k<wr.heap.size:=a8B h1 jv.size;rw[dt k hk h2 (λ e=>h3 (by rw[e];rfl)),jv.block k h1 id]
  .simp only[Value.ownBlock,a8r] at hk ⊢;subst hk;rcases II with e|e
   .cases e;exact .inl rfl
   .exact .inr (by have:=jv.size;omega)
 refine⟨⟨?_,lr.q0,k6,⟨?_, .inr ⟨gg,GJ,_,?_,s7,k7,by simpa using s5,s6,by simpa using s4,?_⟩⟩,?_,λ e=>gq2 (by simpa [Value.ownBlock] using e),by simp⟩,fr⟩
 .refine lr.cK.trans ⟨k1.trans cU.os,k2.trans cU.tape,k3.trans cU.output,by have:=cU.size;omega,λ k hk=>dt k ?_ ?_ ?_⟩
  .have:=lr.cK.size;omega
  .have:=lr.q0;omega
  .omega
 .simp[YM];omega
 .simp
 .simp only[Array.toList_setIfInBounds,List.take_set,a8E,a8F,a8R,a9I,s8];exact a7b L _ _ _ a b c _ YM
 .rw[a9F];exact cP.append _ _ lr.rd ⟨_,[],by simp,rx,rfl⟩
def Q1:(Tryz.prog.info? 36).map (λ i=>(i.zero,i.size,i.bytes))=some (some (.agg #[.int .i64 0, .int .i64 0, .slice none 0 0]),3,40):=by kernel_rfl
def NW{w:World}{base e n g cap:Nat}{L:List Value}{c0 c1 c2:Value}(h:w.ownsRow base e 3 (.slice (some ⟨g,0,none⟩) (n+1) cap) (n+1) (L++[c0,c1,c2]))(hl:L.length=n * 3) :
  (w.cell? ⟨g,n * 3,none⟩=some c0/\w.cell? ⟨g,n * 3+1,none⟩=some c1/\w.cell? ⟨g,n * 3+2,none⟩=some c2)/\∃ cur,w.heap[g]?=some (.cells cur e (0,0))/\cur.size=cap * 3/\n+1<=cap/\cap<=maxLen/\base<=g/\cur.toList.take ((n+1) * 3)=L++[c0,c1,c2]:=by
 have hc:=h.cells (g:=g) rfl;refine⟨⟨?_,?_,?_⟩,?_⟩
 .have:=hc (n * 3) c0 (by rw[List.getElem?_append_right (by omega),hl];simp);simpa [Addr.add_lit] using this
 .have:=hc (n * 3+1) c1 (by rw[List.getElem?_append_right (by omega),hl];simp);simpa [Addr.add_lit] using this
 .have:=hc (n * 3+2) c2 (by rw[List.getElem?_append_right (by omega),hl];simp);simpa [Addr.add_lit] using this
 .rcases h.2 with ⟨e,_⟩|⟨g',Mm,cur,e,h1,h2,h3,h4,h5,h6⟩
  .cases e
  .cases e;exact⟨cur,h2,h5,h3,h4,h1,h6⟩
def QD{w:World}{g e j:Nat}{cur:Array Value}(h:w.heap[g]?=some (.cells cur e (0,0))):w.frozen? ⟨g,j,none⟩=false:=by simp[World.frozen?,h]
set_option maxRecDepth 100000 in
def a7g(w0:World)(S:Nat->Prop)(hS:iX w0 S)(x:J)(hg:az x=true)(n1:¬ x.ah=1)(n6:¬ x.ah=6)(b o q:Nat)(cs:List Value)(v:Value)(ys:List J)(L:List Value)(w:World)(hl:CU w0 S q w v ys L)
  (hb:b<w0.heap.size) (hc:bh w0 b o cs) (hr:Rd w0 S x.aD cs) (hn:ys.length<=8000):Pc w0 S x b o q v ys w:=by
 obtain⟨a,cap,rfl,_⟩:=nH hr;have Bk:b<w.heap.size:=Nat.lt_of_lt_of_le hb hl.cK.size;have d0:w.cell? ⟨b,o,none⟩=some (.int .i64 x.ah):=xl hl.cK hc hb 0 _ rfl;obtain⟨g,Ec,cur,rfl,hg0,hgq,nk,hgc,hgm,hgt⟩:=hl.form;have hv:=Nz hl;have kb1:(x.ah == 1)=false:=by simpa using n1
 have kb6:(x.ah == 6)=false:=by simpa using n6
 go_enter Tryz.func85,Tryz.ntmps85;go_wp2;go_loopw [4] (λ i wr=>∃ k:Nat,i = .int .i64 k/\k<=ys.length/\bH (λ _=>False) w wr/\∀ j y,j<k->ys[j]?=some y->eg y x=false) (λ i wr=>ys.length - kN i)
 .exact⟨0,rfl,a9l _,bH.refl _ w,λ j y h=>absurd h (a8X _)⟩
 obtain⟨k,rfl,hk,jv,dh⟩:=hrel;have lr:=hl.aE jv;have M6:=Nz lr;have hbr:b<wr.heap.size:=a8B Bk jv.size;have a2S:wr.heap[g]?=some (.cells cur 36 (0,0)):=(jv.block g (bn nk) id).trans nk;by_cases bm:k<ys.length
 .obtain⟨y,hy⟩:∃ y,ys[k]?=some y:=⟨_,a8H bm⟩;obtain⟨e0,e1,e2,ce,re⟩:=B9 a2S hgt hl.rd k y hy;go_wp2_with (go_at_call 103;refine (Vr hS lr.cK y x g (k * 3) b o _ _ (bn a2S) ce re hbr (xl lr.cK hc hb) hr).mono ?_);rintro e w1 ⟨he,h1⟩;subst he;go_wp2
  .rename_i he;(try simp only[Exit.inBlock,Exit.then]);refine b2a (b2I rfl _ _ _) rfl ?_;have ha:ys.any (λ z=>eg z x)=true:=b1Y.2 ⟨y,a9h hy,he⟩;rw[a0t x ys n1 n6 ha];exact⟨rfl,_,L,lr.aE h1,AE.same (jv.trans h1 λ _ _ h=>h)⟩
  .rename_i he;refine⟨⟨k+1,by first|rfl|simp,bm,jv.trans h1 λ _ _ h=>h,λ j z hj hz=>?_⟩,?_⟩
   .rcases a8Q j k with q|q
    .exact dh j z q hz
    .have:j=k:=by omega
     subst this;rw[hy] at hz;cases hz;simpa using he
   .simp only[kN];omega
 .have ha:ys.any (λ z=>eg z x)=false:=by
   rw[b1o];intro z hz;obtain⟨j,hj,e⟩:=b0L hz;have:=dh j z (by omega) (by rw[a8H hj,e]);rw[this];decide
  have hek:k=ys.length:=by omega
  subst hek;clear dh bm hk;have cb:=xl lr.cK hc hb;have r0:wr.cell? ⟨b,o,none⟩=some (.int .i64 x.ah):=cb 0 _ rfl;have r1:wr.cell? ⟨b,o+1,none⟩=some (.int .i64 x.aZ):=cb 1 _ rfl;have r2:wr.cell? ⟨b,o+2,none⟩=some (.slice a x.U.length cap):=cb 2 _ rfl;have r3:wr.cell? ⟨q,0,none⟩=some (.slice (some ⟨g,0,none⟩) ys.length Ec):=by simp[World.cell?,lr.var]
  have gq:g≠q:=hgq;obtain⟨i0,Bo,KS,IQ,Hi⟩:=b2u Q1;have hlq:=lr.lt;have dk:=lr.own;have YM:L.length=ys.length * 3:=dk.1;have Yh:(0:Int)<=(ys.length:Int):=by omega
  have WB:(ys.length:Int)<(ys.length:Int)+1:=by omega
  have bi2:(ys.length:Int)<((ys.length+1:Nat):Int):=by omega
  have bq:b≠q:=by have:=lr.q0;omega
  have qb:q≠b:=b2J bq;have bg:b≠g:=by omega
  have aq:some q≠(Value.slice (some ⟨g,0,none⟩) ys.length Ec).ownBlock:=λ e=>hgq (by simpa [Value.ownBlock] using e.symm);have ab:some b≠(Value.slice (some ⟨g,0,none⟩) ys.length Ec).ownBlock:=λ e=>by
   have:b=g:=by simpa [Value.ownBlock] using e
   omega
  go_wp2_with fail;go_region_law
   ((
    refine step_append_lies _ (by rfl) _ _ _ (by rfl) w0.heap.size 36 i0 _ 3 40 Tryz.underlying33 Bo KS IQ Hi rfl (by omega) _ ys.length L (by rfl) ((dk.alloc _).drew)
      ⟨wr.heap.size,0,none⟩ 1 1 [.int .i64 0, .int .i64 0, .slice none 0 0] (by rfl) (by rfl) (b1A (cs := #[.int .i64 0, .int .i64 0, .slice none 0 0]) (t:=36) (fr:=(0,0)) (a9N wr _)) (by simp[Value.oneCell'])
      (by omega) (by simp[maxLen];omega) (by omega) (by simp;have:=lr.cK.size;omega) (wr.heap.size+1) (by simp) ?_;intro gg GJ w2 Zn cU II a2U
    have gq2:gg≠q:=by
     rcases II with e|e
     .exact λ h=>aq (by rw[<-h,e])
     .omega
    have gb2:gg≠b:=by
     rcases II with e|e
     .exact λ h=>ab (by rw[<-h,e])
     .omega
    obtain⟨⟨s0,s1,s2⟩,cur3,s3,s4,s5,s6,s7,s8⟩:=NW Zn YM
    have z0:=QD (j:=ys.length * 3) s3
    have z1:=QD (j:=ys.length * 3+1) s3
    have z2:=QD (j:=ys.length * 3+2) s3
    have tE:w2.heap[q]?=some (.cells #[.slice (some ⟨g,0,none⟩) ys.length Ec] 33 (0,0)):=(cU.block q (by simp;omega) aq).trans ((show _=wr.heap[q]? from a9D wr _ q hlq).trans lr.var)
    have fq2:=QD (j:=0) tE
    have vq:w2.cell? ⟨q,0,none⟩=some (.slice (some ⟨g,0,none⟩) ys.length Ec):=by simp[World.cell?,tE]))
  all_goals
   (try simp only[Exit.inBlock,Exit.then])
   refine bodyPost_end (b2I rfl _ _ _) rfl ?_
   rw[a0s x ys n1 n6 ha]
   obtain⟨⟨s0,s1,s2⟩,cur3,s3,s4,s5,s6,s7,s8⟩:=NW Zn YM
   have tE:w2.heap[q]?=some (.cells #[.slice (some ⟨g,0,none⟩) ys.length Ec] 33 (0,0)):=(cU.block q (by simp;omega) aq).trans ((show _=wr.heap[q]? from a9D wr _ q hlq).trans lr.var)
   have gq3:q≠gg:=b2J gq2
   refine⟨rfl,_,_,a0K (cur3:=cur3) lr jv hl.lt (bn nk) ⟨cU.os,cU.tape,cU.output,cU.size,cU.block⟩ II a2U gq2 s3 s4 s5 s6 s7 s8 hr rfl rfl rfl (by simp) (λ k e1 e2=>?_) ?_ ?_⟩
   .repeat rw[a9W _ _ _ _ (by assumption)]
   .first
     | (rw[a9J _ _ _ _ _ _ (by (repeat rw[a9W _ _ _ _ (by assumption)]);exact tE)];rfl)
     | (
       repeat rw[a9W _ _ _ _ (by assumption)]
       rw[a9J _ _ _ _ _ _ tE];rfl)
   .first
     | (
       rw[a9W _ _ _ _ (by assumption)]
       exact a9J _ _ _ _ _ _ (a9J _ _ _ _ _ _ (a9J _ _ _ _ _ _ s3)))
     | exact a9J _ _ _ _ _ _ (a9J _ _ _ _ _ _ (a9J _ _ _ _ _ _ ((a9W _ _ _ _ (by assumption)).trans s3)))
def CJ(w0:World)(S:Nat->Prop)(hS:iX w0 S):∀ (N:Nat) (x:J),bo x<N->az x=true->∀ (b o q:Nat) (cs:List Value) (v:Value) (ys:List J) (L:List Value) (w:World),CU w0 S q w v ys L->b<w0.heap.size->bh w0 b o cs->Rd w0 S x.aD cs ->
  jB ys->ez ys+aj x<=8000->Pc w0 S x b o q v ys w
 | 0,x,h,_=>by omega
 | N+1,x,hN,hg=>by
  intro b o q cs v ys L w hl hb hc hr OI hn;by_cases h1:x.ah=1
  .obtain⟨a,cap,rfl,_⟩:=nH hr;exact a7e w0 S x h1 b o q v ys L w hl (by rw[<-h1];exact xl hl.cK hc hb 0 _ rfl)
  by_cases h6:x.ah=6
  .have b2:=cD x hg (.inl h6);obtain⟨a,cap,rfl,hk⟩:=nH hr;obtain⟨kb,ko,rfl,WS,eG⟩:∃ kb ko,a=some ⟨kb,ko,none⟩/\S kb/\cv w0 S (x.U.map J.aD) kb ko:=by
    rcases hk with hk|hk
    .have:=b2.len;rw[hk] at this;cases this
    .obtain⟨kb,ko,e1,e2,e3⟩:=hk;exact⟨kb,ko,e1,e2,e3⟩
   obtain⟨c0,c1,c2,r0,q0⟩:=HL eG 0 (by have:=b2.len;omega);obtain⟨d0,d1,d2,r1,q1⟩:=HL eG 1 (by have:=b2.len;omega);have a6k:∀ w',(∃ v',AE q v v' w w')->Below w0.heap.size w0 w':=λ w' ⟨v',f⟩=>hl.cK.trans (f.below hl.cK.size hl.q0 λ k hk=>(hl.own.lt k hk).1);obtain⟨g1,t1⟩:=FB _ (x.U.getD 0 zE) (a8K _) b2.g0 ys OI;have nd:=b2.nd;refine a7f w0 S x h6 b2 b o q kb ko cap v ys w (by rw[<-h6];exact xl hl.cK hc hb 0 _ rfl) (λ w' xC=>by have:=xl (a6k w' xC) hc hb 2 _ rfl;rw[b2.len] at this;exact this)
    (CJ w0 S hS N _ (by have:=b2.l0;omega) b2.g0 kb ko q _ v ys L w hl (hS.1 kb WS) (by simpa using q0) r0 OI (by omega)) λ w' v' L' l' f' =>
    CJ w0 S hS N _ (by have:=b2.l1;omega) b2.g1 kb (ko+3) q _ v' _ L' w' l' (hS.1 kb WS) (by simpa using q1) r1 g1 (by omega)
  .exact a7g w0 S hS x hg h1 h6 b o q cs v ys L w hl hb hc hr (by have:ez ys=cm aj ys+ys.length:=rfl;omega)
def Vx{w0 w:World}{S:Nat->Prop}(hS:iX w0 S)(hb:Below w0.heap.size w0 w)(x:J)(hg:az x=true)(hl:(bC x).length<=1000000)(b o:Nat)(cx:List Value)(h1:b<w.heap.size)(h2:bh w b o cx)(rx:Rd w0 S x.aD cx) :
  Calls prog lX #[.pointer (some ⟨b,o,none⟩)] w λ e w'=>e = .returned (.string ⟨(bC x).toArray⟩)/\bH (λ _=>False) w w':=by
 refine (EX.2 x ⟨hg,hl⟩ w _ [_] (a0u hS hb) ⟨⟨b,o,cx,rfl,h1,h2,Wg hS hb rx⟩,ae⟩).mono ?_;rintro e w' ⟨v,S',res,rfl,rfl,fe,_,_,hr⟩;obtain⟨s,hs,nm,_⟩:=(show ∃ s:ByteArray,[v]=[.string s]/\s.data.toList=bC x/\s.size<=140737488355328 from hr);simp only[a8x,a8T] at hs;subst hs;refine⟨?_,fe⟩;rw[<-nm]
def strs(ys:List J):List Value:=ys.map λ y => .string ⟨(bC y).toArray⟩
def XI(ys:List J)(k:Nat)(y:J)(h:ys[k]?=some y):(strs ys)[k]?=some (.string ⟨(bC y).toArray⟩):=by simp[strs,h]
def TF(xs:List J)(k:Nat)(h:k<=xs.length):(RA xs k).length=k:=by
 have:=(RC (xs.take k) []).2.2;unfold RA y9;rw[this,List.length_take,List.length_nil];omega
def xw{w w':World}(h:Below w.heap.size w w'):w.grownBy w' none:=⟨h.os,h.tape,h.output,h.size,λ k h1 _=>h.block k h1⟩
def Kq{w:World}{B e sz g n c k:Nat}{xs:List Value}(h:w.ownsRow B e sz (.slice (some ⟨g,0,none⟩) n c) n xs)(hk:k<=n):w.ownsRow B e sz (.slice (some ⟨g,0,none⟩) k c) k (xs.take (k * sz)):=by
 obtain⟨h1,h2⟩:=h;have hm:=a9X sz hk;refine⟨by rw[a9t];omega,?_⟩;rcases h2 with ⟨q,_⟩|⟨g',c',cur,q,q1,q2,q3,q4,q5,q6⟩
 .cases q
 .cases q;exact .inr ⟨g,c,cur,rfl,q1,q2,by omega,q4,q5,by rw[<-q6,List.take_take,b2f hm]⟩
structure SrR(w0:World)(S:Nat->Prop)(B:Nat)(w wr:World)(ys:List J)(gt ct go co:Nat)(Lo:List Value):Prop where
 cK:Below B w wr
 t:wr.ownsRow B 9 1 (.slice (some ⟨gt,0,none⟩) ys.length ct) ys.length (strs ys)
 o:wr.ownsRow B 36 3 (.slice (some ⟨go,0,none⟩) ys.length co) ys.length Lo
 rd:cP w0 S (ys.map J.aD) Lo
 ne:gt≠go
def a4s:(Tryz.prog.info? 9).map (λ i=>(i.zero,i.size,i.bytes))=some (some (.string ⟨#[]⟩),1,16):=by kernel_rfl
def N0{w:World}{S:Nat->Prop}:∀ (ds es:List D) {l:List Value},cP w S (ds++es) l->∃ l1 l2,l=l1++l2/\cP w S ds l1/\cP w S es l2
 | [],es,l,h=>⟨[],l,rfl,rfl,h⟩
 | d::ds,es,l,h=>by
  obtain⟨c,r,rfl,h1,h2⟩:=h;obtain⟨l1,l2,rfl,h3,h4⟩:=N0 ds es h2;exact⟨c++l1,l2,by simp,⟨c,l1,rfl,h1,h3⟩,h4⟩
def a0f{w0:World}{S:Nat->Prop}{ys:List J}{Lo:List Value}{x:J}{c0 c1 c2:Value}{k:Nat}(h:cP w0 S (ys.map J.aD) Lo)(hx:Rd w0 S x.aD [c0,c1,c2])(hk:k<=ys.length) :
  cP w0 S ((ys.take k++x::ys.drop k).map J.aD) (Lo.take (k * 3)++[c0,c1,c2]++Lo.drop (k * 3)):=by
 have e:ys.map J.aD=(ys.take k).map J.aD++(ys.drop k).map J.aD:=by rw[<-a9F,a9Q]
 rw[e] at h;obtain⟨l1,l2,rfl,h1,h2⟩:=N0 _ _ h;have hl:=cP.length (n:=3) _ h1 (Mz _);rw[a8W,a9t,b2f hk] at hl;rw[List.take_left' hl,List.drop_left' hl,a9F,a9a,a8Y];exact cP.append _ _ h1 ⟨[c0,c1,c2],l2,rfl,hx,h2⟩
def Af{P:Program}{w:World}{ops:Array Oper}{o:Oper}{a:Act}{K:Act->World->Prop}{Q:Exit->Act->World->Prop}{E:Prop}(hgd:o.guard=none)(s x:Operand)(t:TypeId)
  (ho:o.op = .call { callee := .builtin .append,args := #[s,x],argTypes := #[t,t] })
  (base:Nat) (e:TypeId) (i:TypeInfo) (z:Value) (size bytes:Nat) (ht:P.underlying t=some (.slice e)) (hi:P.info? e=some i) (hz:i.zero=some z)
  (wJ:i.size=size) (YX:i.bytes=bytes) (IS:z.cells.size=size) (bW:0<size)
  (v:Value) (n:Nat) (xs:List Value) (hs:a.eval s=v) (dk:w.ownsRow base e size v n xs)
  (ad:Addr) (m c:Nat) (news:List Value) (hx:a.eval x = .slice (some ad) m c) (hl:news.length=m * size) (yJ:∀ j u,news[j]?=some u->w.cell? (ad.add j)=some u) (h1:∀ u∈news,u.oneCell'=true)
  (h63:n+m<=maxLen) (QL:(n+m) * bytes<=140737488355328) (IK:base<=w.heap.size)
  (h:∀ v' w',w'.ownsRow base e size v' (n+m) (xs++news)->w.grownBy w' v.ownBlock->(v'.ownBlock=v.ownBlock\/v'.ownBlock=some w.heap.size)->K (a.put o.dst v') w') :
  if Region.wanted o (yielded ops a.tmps)=true then Oper.wp P o a w K Q else E:=by
 have hw:Region.wanted o (yielded ops a.tmps)=true:=by simp[Region.wanted,hgd]
 rw[if_pos hw];obtain⟨v',w',hr,h2,h3,h4,h5⟩:=run_append_own_at (P:=P) w base t o.type e i z size bytes ht hi hz wJ YX IS bW v n xs dk ad m c news hl yJ h1 h63 QL IK;unfold Oper.wp execOp;simp only[ho,resolve,invoke,builtin,Sem.run_bind,Sem.run_pure,Result.andThen_ok,List.map_toArray,List.map_cons,List.map_nil,hs,hx,hr];exact h v' w' h2 h3 h5
set_option maxRecDepth 100000 in
def Rx(
           w0:World) (S:Nat->Prop) (hS:iX w0 S) (xs:List J) (hx:jB xs) (hn:ez xs<=9000) (w:World) (hb:Below w0.heap.size w0 w) (g cap:Nat) (hgw:g<w.heap.size)
  (hc:∀ k y,xs[k]?=some y->∃ c0 c1 c2,bh w g (k * 3) [c0,c1,c2]/\Rd w0 S y.aD [c0,c1,c2]) :
  Calls prog 86 #[.slice (some ⟨g,0,none⟩) xs.length cap] w λ e w'=>∃ g' c' L',e = .returned (.slice (some ⟨g',0,none⟩) xs.length c')/\w'.ownsRow w.heap.size 36 3 (.slice (some ⟨g',0,none⟩) xs.length c') xs.length L'/\cP w0 S ((y9 xs).map J.aD) L'/\Below w.heap.size w w':=by
 have hlen:xs.length<=9000:=by have:ez xs=cm aj xs+xs.length:=rfl;omega
 have B0:Below w.heap.size w ((w.alloc (.cells #[] 9)).alloc (.cells #[] 36)):=((b0d _ w).alloc (a8C _) _).alloc (by simp) _;have T0:((w.alloc (.cells #[] 9)).alloc (.cells #[] 36)).ownsRow w.heap.size 9 1 (.slice (some ⟨w.heap.size,0,none⟩) 0 0) 0 []:=(b0v w #[] 0 (a8C _) (a9l _) (by simp)).alloc _;have O0:((w.alloc (.cells #[] 9)).alloc (.cells #[] 36)).ownsRow w.heap.size 36 3 (.slice (some ⟨w.heap.size+1,0,none⟩) 0 0) 0 []:=by
  have:=World.ownsRow_made (base:=w.heap.size) (e:=36) (size:=3) (w.alloc (.cells #[] 9)) #[] 0 (by simp) (Nat.zero_le _) (by simp);simpa using this
 go_enter Tryz.func86,Tryz.ntmps86;go_wp2;go_loopw [3,4,5] (λ vt vo i wr=>∃ (k gt ct go co:Nat) (Lo:List Value),i = .int .i64 k/\k<=xs.length/\vt = .slice (some ⟨gt,0,none⟩) k ct/\vo = .slice (some ⟨go,0,none⟩) k co/\SrR w0 S w.heap.size w wr (RA xs k) gt ct go co Lo) (λ vt vo i wr=>xs.length - kN i)
 .exact⟨0,_,_,_,_,[],rfl,a9l _,rfl,rfl,⟨B0,T0,O0,rfl,by simp⟩⟩
 obtain⟨i,gt,ct,go,co,Lo,rfl,hi,rfl,rfl,hR⟩:=hrel;clear B0 T0 O0;by_cases bm:i<xs.length
 .obtain⟨x,Dr⟩:∃ x,xs[i]?=some x:=⟨_,a8H bm⟩;have hgx:az x=true:=hx x (a9h Dr);obtain⟨c0,c1,c2,hcx,hrx⟩:=hc i x Dr;have Ds:=TF xs i hi;have ux:aj x<=9000:=by
   have:aj x<=cm aj xs:=by
    obtain⟨a,b,rfl⟩:=b1I (a9h Dr);rw[x9];simp[cm];omega
   have:ez xs=cm aj xs+xs.length:=rfl;omega
  have hbr:Below w0.heap.size w0 wr:=hb.trans (hR.cK.mono hb.size);have nk:g<wr.heap.size:=a8B hgw hR.cK.size;have QN:bh wr g (i * 3) [c0,c1,c2]:=hcx.aE (hR.cK.block g hgw);have a6E:=XG xs i x Dr;generalize hY:RA xs i=ys at *
  go_wp2_with (go_at_call 104;refine (Vx hS hbr x hgx (RM x hgx ux) g (i * 3) _ nk QN hrx).mono ?_);rintro e w1 ⟨he,rR⟩;subst he;have b1:Below w.heap.size w w1:=hR.cK.trans (pE rR hR.cK.size);have gk:wr.grownBy w1 none:=⟨rR.os,rR.tape,rR.output,rR.size,λ k h1 _=>rR.block k h1 id⟩;have t1:=hR.t.kept gk (.inr (by simp[Value.ownBlock]));have o1:=hR.o.kept gk (.inr (by simp[Value.ownBlock]));have QY:bh w1 g (i * 3) [c0,c1,c2]:=QN.aE (rR.block g nk id);have dh:=hR.ne;have eO:=hR.rd;rw[Ds] at t1 o1;clear hR rR gk QN nk hbr;have tc:=t1.cells (g:=gt) rfl;obtain⟨i9,h9,h90,h91,h92⟩:=b2u a4s;obtain⟨i0,Bo,KS,IQ,Hi⟩:=b2u Q1;have kt:i<=ct:=by
   rcases t1.2 with ⟨e,_⟩|⟨_,_,_,e,_,_,e1,_⟩
   .cases e
   .cases e;exact e1
  have ko:i<=co:=by
   rcases o1.2 with ⟨e,_⟩|⟨_,_,_,e,_,_,e1,_⟩
   .cases e
   .cases e;exact e1
  have oc:=o1.cells (g:=go) rfl;have hLo:Lo.length=i * 3:=o1.1;have bQ:(strs ys).length=i:=by rw[strs,a8W,Ds]
  have hB1:=b1.size;go_upto_block 2 with fail;go_cut [7] (λ s7 wx=>wx=w1/\∃ k:Nat,s7 = .int .i64 k/\k<=i/\fj x ys=ys.take k++x::ys.drop k);case first =>
   go_wp2;go_loopw [7] (λ a wr'=>wr'=w1/\∃ k:Nat,a = .int .i64 k/\k<=i/\∀ j y,j<k->ys[j]?=some y->OX y x=true) (λ a wr'=>i - kN a)
   .exact⟨rfl,0,rfl,a9l _,λ j y h=>absurd h (a8X _)⟩
   obtain⟨rfl,k,rfl,hk,Zg⟩:=hrel;by_cases Fc:k<i
   .obtain⟨y,hy⟩:∃ y,ys[k]?=some y:=⟨_,a8H (by omega)⟩;have ck:wr.cell? ⟨gt,k,none⟩=some (.string ⟨(bC y).toArray⟩):=by
     have:=tc k _ (XI ys k y hy);simpa [Addr.add_lit] using this
    have Kf:Op.bytesLess (bC y) (bC x)=OX y x:=rfl;cases hL:OX y x
    .rw[hL] at Kf;go_wp2;go_meet;refine⟨rfl,k,rfl,hk,Na x ys k (by omega) Zg λ z hz=>?_⟩;rw[hy] at hz;cases hz;exact hL
    .rw[hL] at Kf;go_wp2;refine⟨⟨ae,k+1,by simp,by omega,λ j z hj hz=>?_⟩,?_⟩
     .rcases a8Q j k with q|q
      .exact Zg j z q hz
      .have:j=k:=by omega
       subst this;rw[hy] at hz;cases hz;exact hL
     .simp only[kN];omega
   .go_wp2;go_meet;refine⟨rfl,k,rfl,hk,Na x ys k (by omega) Zg λ z hz=>?_⟩;have:=(a8P.1 hz).1;omega
  case rest =>
   obtain⟨rfl,k,rfl,hk,Y6⟩:=hcut;obtain⟨w1,rfl⟩:∃ w1,w1=wc:=⟨_,rfl⟩;have b1:Below w.heap.size w w1:=by assumption
   go_upto_region 10 with fail;go_cut [8] (λ s8 wx=>∃ g8 c8,s8 = .slice (some ⟨g8,0,none⟩) (i - k) c8/\wx.ownsRow w1.heap.size 9 1 (.slice (some ⟨g8,0,none⟩) (i - k) c8) (i - k) ((strs ys).drop k)/\Below w1.heap.size w1 wx);case first =>
    have hd:((strs ys).drop k).length=(i - k) * 1:=by rw[a9C,bQ,Nat.mul_one]
    have tD:∀ u∈(strs ys).drop k,u.oneCell'=true:=λ u hu=>by
     obtain⟨y,_,rfl⟩:=a8w.1 (b1f hu);rfl
    by_cases hck:ct=k
    .subst hck;go_wp2_with (at_builtin;refine b0V _ rfl _ _ 152 rfl w1.heap.size 9 i9 _ 1 16 Tryz.underlying152 h9 h90 h91 h92 rfl (by decide) _ _ _ rfl (b0v w1 #[] 0 (a8C _) (a9l _) (by simp)) ⟨gt,0,none⟩ 0 0 [] rfl rfl (λ j u hj=>by simp at hj) (λ u hu=>by simp at hu) (by simp[maxLen]) (by omega) (by simp) ?_);intro v' w2 dk cU gO;go_wp2;go_meet;try simp only[a9I,a9e] at dk
     have e1:i - ct=0:=by omega
     have e2:(strs ys).drop ct=[]:=b0p (by omega);rw[e1,e2];rcases dk.2 with ⟨e,_⟩|⟨g8,c8,a5O,e,q1,q2,q3,q4,q5,q6⟩
     .exact absurd e gO
     .subst e;exact⟨g8,c8,rfl,dk,((b0d _ w1).alloc (a8C _) _).grown cU (by simp) (by intro k hk;simp[Value.ownBlock] at hk;omega)⟩
    .go_wp2_with (at_builtin;refine b0V _ rfl _ _ 152 rfl w1.heap.size 9 i9 _ 1 16 Tryz.underlying152 h9 h90 h91 h92 rfl (by decide) _ _ _ rfl (b0v w1 #[] 0 (a8C _) (a9l _) (by simp)) ⟨gt,k,none⟩ (i - k) (ct - k) ((strs ys).drop k) rfl hd ?qb tD (by simp[maxLen];omega) (by omega) (by simp) ?_);case qb =>
      intro j u hj;rw[List.getElem?_drop] at hj;have:=tc _ _ hj;rw[Addr.add_lit];rw[Addr.add_lit] at this;simpa using Lib.cell?_alloc_some _ this
     .intro v' w2 dk cU gO;go_wp2;go_meet;try simp only[a9I,a9e] at dk
      rcases dk.2 with ⟨e,_⟩|⟨g8,c8,a5O,e,q1,q2,q3,q4,q5,q6⟩
      .exact absurd e gO
      .subst e;exact⟨g8,c8,rfl,dk,((b0d _ w1).alloc (a8C _) _).grown cU (by simp) (by intro k hk;simp[Value.ownBlock] at hk;omega)⟩
   case rest =>
    obtain⟨g8,c8,hs8,a3l,J1⟩:=hcut;have A8:Aside (_=Value.slice (some ⟨g8,0,none⟩) (i - k) c8):=hs8;clear hs8;obtain⟨w2,rfl⟩:∃ w2,w2=wc:=⟨_,rfl⟩;have t2:=t1.kept (xw J1) (.inr (by simp[Value.ownBlock]));have o2:=o1.kept (xw J1) (.inr (by simp[Value.ownBlock]));have hx2:bh w2 g (i * 3) [c0,c1,c2]:=QY.aE (J1.block g (by omega));have n8:=(a3l.lt g8 rfl);have oc:=o2.cells (g:=go) rfl;go_upto_region 11 with fail;go_cut [9] (λ s9 wx=>∃ g9 c9,s9 = .slice (some ⟨g9,0,none⟩) (i - k) c9/\wx.ownsRow w2.heap.size 36 3 (.slice (some ⟨g9,0,none⟩) (i - k) c9) (i - k) (Lo.drop (k * 3))/\Below w2.heap.size w2 wx);case first =>
     have hd:(Lo.drop (k * 3)).length=(i - k) * 3:=by rw[a9C,hLo,Nat.sub_mul]
     have tD:∀ u∈Lo.drop (k * 3),u.oneCell'=true:=λ u hu=>cP.gX (τ := .st .expr) eO u (b1f hu);by_cases hck:co=k
     .subst hck;go_wp2_with (at_builtin;refine b0V _ rfl _ _ 33 rfl w2.heap.size 36 i0 _ 3 40 Tryz.underlying33 Bo KS IQ Hi rfl (by decide) _ _ _ rfl (b0v w2 #[] 0 (a8C _) (a9l _) (by simp)) ⟨go,0,none⟩ 0 0 [] rfl rfl (λ j u hj=>by simp at hj) (λ u hu=>by simp at hu) (by simp[maxLen]) (by omega) (by simp) ?_);intro v' w3 dk cU gO;go_wp2;go_meet;try simp only[a9I,a9e] at dk
      have e1:i - co=0:=by omega
      have e2:Lo.drop (co * 3)=[]:=b0p (by omega);rw[e1,e2];rcases dk.2 with ⟨e,_⟩|⟨g9,c9,a5P,e,q1,q2,q3,q4,q5,q6⟩
      .exact absurd e gO
      .subst e;exact⟨g9,c9,rfl,dk,((b0d _ w2).alloc (a8C _) _).grown cU (by simp) (by intro k hk;simp[Value.ownBlock] at hk;omega)⟩
     .go_wp2_with (at_builtin;refine b0V _ rfl _ _ 33 rfl w2.heap.size 36 i0 _ 3 40 Tryz.underlying33 Bo KS IQ Hi rfl (by decide) _ _ _ rfl (b0v w2 #[] 0 (a8C _) (a9l _) (by simp)) ⟨go,k * 3,none⟩ (i - k) (co - k) (Lo.drop (k * 3)) rfl hd ?qb tD (by simp[maxLen];omega) (by omega) (by simp) ?_);case qb =>
       intro j u hj;rw[List.getElem?_drop] at hj;have:=oc _ _ hj;rw[Addr.add_lit];rw[Addr.add_lit] at this;simpa using Lib.cell?_alloc_some _ this
      .intro v' w3 dk cU gO;go_wp2;go_meet;try simp only[a9I,a9e] at dk
       rcases dk.2 with ⟨e,_⟩|⟨g9,c9,a5P,e,q1,q2,q3,q4,q5,q6⟩
       .exact absurd e gO
       .subst e;exact⟨g9,c9,rfl,dk,((b0d _ w2).alloc (a8C _) _).grown cU (by simp) (by intro k hk;simp[Value.ownBlock] at hk;omega)⟩
    case rest =>
     obtain⟨g9,c9,hs9,a3m,Mg⟩:=hcut;have A9:Aside (_=Value.slice (some ⟨g9,0,none⟩) (i - k) c9):=hs9;clear hs9;obtain⟨w3,rfl⟩:∃ w3,w3=wc:=⟨_,rfl⟩;have t3:=t2.kept (xw Mg) (.inr (by simp[Value.ownBlock]));have o3:=o2.kept (xw Mg) (.inr (by simp[Value.ownBlock]));have Z8:=a3l.kept (xw Mg) (.inr (by simp[Value.ownBlock]));have hx3:bh w3 g (i * 3) [c0,c1,c2]:=hx2.aE (Mg.block g (by have:=J1.size;omega));have n9:=(a3m.lt g9 rfl);obtain rfl:=A8.out;obtain rfl:=A9.out;clear A8 A9;have s2:=J1.size;have s3:=Mg.size;have q8:=Z8.cells (g:=g8) rfl;have h8:g8<w3.heap.size:=by omega
     have ng8:g8≠gt:=by
      have:=(t1.lt gt rfl).2;omega
     have E12:Aside ((strs ys).take k ++ .string ⟨(bC x).toArray⟩::(strs ys).drop k=strs (fj x ys)):=show _=_ by
      rw[Y6];simp[strs,List.map_take,List.map_drop]
     have a2e:Aside (fj x ys=ys.take k++x::ys.drop k):=Y6;clear Y6;go_upto_region 12 with fail;go_cut [3] (λ s3 wx=>∃ g3 c3,s3 = .slice (some ⟨g3,0,none⟩) (i+1) c3/\wx.ownsRow w.heap.size 9 1 (.slice (some ⟨g3,0,none⟩) (i+1) c3) (i+1) (strs (fj x ys))/\w3.grownBy wx (some gt)/\(g3=gt\/w3.heap.size<=g3));case first =>
      have pt:=(Kq t3 hk).alloc (.cells #[.string ⟨(bC x).toArray⟩] 9);go_wp2_with (at_builtin;refine b2v _ rfl _ _ 152 rfl w.heap.size 9 i9 _ 1 16 Tryz.underlying152 h9 h90 h91 h92 rfl (by decide) _ k _ rfl pt ⟨w3.heap.size,0,none⟩ 1 1 [.string ⟨(bC x).toArray⟩] rfl rfl (cell_one_new _ _ _) (by simp[Value.oneCell']) (by simp[maxLen];omega) (by omega) (by simp;omega) ?_);intro v51 w4 a4o Cv a7z a6g;have a4J:=(Z8.alloc (.cells #[.string ⟨(bC x).toArray⟩] 9)).kept Cv (.inr (by simp[Value.ownBlock];omega));have SN:=Cv.size;go_wp2_with (at_builtin;refine b2v _ rfl _ _ 152 rfl w.heap.size 9 i9 _ 1 16 Tryz.underlying152 h9 h90 h91 h92 rfl (by decide) v51 (k+1) _ rfl a4o ⟨g8,0,none⟩ (i - k) c8 ((strs ys).drop k) rfl (by rw[a9C,bQ,Nat.mul_one]) (a4J.cells (g:=g8) rfl) (λ u hu=>?_) (by simp[maxLen];omega) (by omega) (by simp at SN;omega) ?_)
      .obtain⟨y,_,rfl⟩:=a8w.1 (b1f hu);rfl
      .intro v53 w5 yL Hb a7A a6h;go_wp2;go_meet;have hi1:k+1+(i - k)=i+1:=by omega
       rw[hi1,E12.out] at yL;rcases yL.2 with ⟨e,_⟩|⟨g3,c3,cur3,e,q1,q2,q3,q4,q5,q6⟩
       .have:=yL.1;rw[e] at yL;simp at *
       .subst e;have a1:∀ j,v51.ownBlock=some j->j=gt\/j=w3.heap.size+1:=λ j hj=>by
         rcases a6g with h|h
         .rw[h] at hj;left;simpa [Value.ownBlock] using hj.symm
         .rw[h] at hj;right;simpa using hj.symm
        refine⟨g3,c3,rfl,yL,⟨Hb.os.trans Cv.os,Hb.tape.trans Cv.tape,Hb.output.trans Cv.output,by have:=Hb.size;simp at SN;omega,λ j h1 h2=>?_⟩,?_⟩
        .rw[Hb.block j (by simp at SN;omega) λ e=>?_,Cv.block j (by simp;omega) h2]
         .exact a9D _ _ _ h1
         .rcases a1 j e.symm with h|h
          .exact h2 (congrArg some h)
          .omega
        .rcases a6h with h|h
         .rcases a1 g3 (h.symm.trans rfl) with h|h
          .exact .inl h
          .exact .inr (by omega)
         .right;have:g3=w4.heap.size:=by simpa [Value.ownBlock] using h
          simp at SN;omega
     case rest =>
      obtain⟨g3,c3,rfl,t4,Sm,hg3⟩:=hcut;obtain⟨w4,rfl⟩:∃ w4,w4=wc:=⟨_,rfl⟩;have ngo:go≠gt:=b2J dh;have o4:=o3.kept Sm (.inr (by simp[Value.ownBlock];exact ngo));have ng9:g9≠gt:=by have:=(t1.lt gt rfl).2;omega
      have a0a:=a3m.kept Sm (.inr (by simp[Value.ownBlock];exact ng9));have a6u:=(t1.lt gt rfl).1;have hx4:bh w4 g (i * 3) [c0,c1,c2]:=hx3.aE (Sm.block g (by omega) λ e=>by cases e;omega);have q9:=a0a.cells (g:=g9) rfl;have E34:Aside ((ys.take k).map J.aD++x.aD::(ys.drop k).map J.aD=(fj x ys).map J.aD):=show _=_ by
       rw[a2e.out];simp
      have OI:g<w4.heap.size:=by have:=Sm.size;omega
      have r0:w4.cell? ⟨g,i * 3,none⟩=some c0:=hx4 0 _ rfl;have r1:w4.cell? ⟨g,i * 3+1,none⟩=some c1:=hx4 1 _ rfl;have r2:w4.cell? ⟨g,i * 3+2,none⟩=some c2:=hx4 2 _ rfl;have Yh:(0:Int)<=(i:Int):=by omega
      have WB:(i:Int)<(xs.length:Int):=by omega
      have bk0:(0:Int)<=(k:Int):=by omega
      have bk1:(k:Int)<=(co:Int):=by omega
      have a4m:∀ u∈[c0,c1,c2],u.oneCell'=true:=cP.gX (τ := .st .expr) (xs:=[x]) (S:=S) (w:=w0) ⟨[c0,c1,c2],[],rfl,hrx,rfl⟩;have a4n:∀ u∈Lo.drop (k * 3),u.oneCell'=true:=λ u hu=>cP.gX (τ := .st .expr) eO u (b1f hu);go_wp2_with fail;have gog:some g≠some go:=λ e=>by cases e;have:=(o1.lt g rfl).1;omega
      have po:=((Kq o4 hk).alloc (.cells #[c0,c1,c2] 36)).drew;have a8q:g9≠go:=by have:=(o1.lt go rfl).2;have:=J1.size;omega
      go_region_held3 (λ w'=>w'.cell? ⟨g,i * 3,none⟩=some c0/\w'.cell? ⟨g,i * 3+1,none⟩=some c1/\w'.cell? ⟨g,i * 3+2,none⟩=some c2)
       (first
        | go_keep
        | (
          go_split_ands
          refine⟨?_,?_,?_⟩
          ·(rw[Cw.cell_far _ (by simp at *;omega) gg6];assumption)
          ·(rw[Cw.cell_far _ (by simp at *;omega) gg6];assumption)
          ·(rw[Cw.cell_far _ (by simp at *;omega) gg6];assumption))
        | (
          go_split_ands
          refine⟨?_,?_,?_⟩
          ·(rw[gC.cell_far _ (by simp;omega) gog];assumption)
          ·(rw[gC.cell_far _ (by simp;omega) gog];assumption)
          ·(rw[gC.cell_far _ (by simp;omega) gog];assumption)))
       ((first
         | (
           refine Af (by rfl) _ _ _ (by rfl) w.heap.size 36 i0 _ 3 40 Tryz.underlying33 Bo KS IQ Hi rfl (by omega) _ k _ (by rfl) po ⟨w4.heap.size,0,none⟩ 1 1 [c0,c1,c2] (by rfl) (by rfl) (b1A (cs := #[c0,c1,c2]) (t:=36) (fr:=(0,0)) (a9N w4 _)) a4m (by simp[maxLen];omega) (by omega) (by simp;have:=Sm.size;omega) ?_
           intro v62 w6 UR gC YU
           have a6:∀ j,v62.ownBlock=some j->j=go\/j=w4.heap.size+1:=λ j hj=>by
            rcases YU with h|h
            .rw[h] at hj;left;simpa [Value.ownBlock] using hj.symm
            .rw[h] at hj;right;simpa using hj.symm
           have gg6:some g≠v62.ownBlock:=λ e=>by
            rcases a6 g e.symm with h|h
            .exact gog (congrArg some h)
            .omega
           have hw6:w4.heap.size+1<=w6.heap.size:=by simpa using gC.size
           have a4K:w6.ownsRow w2.heap.size 36 3 (Value.slice (some ⟨g9,0,none⟩) (i - k) c9) (i - k) (Lo.drop (k * 3)):=((a0a.alloc (.cells #[c0,c1,c2] 36)).drew).kept gC (.inr (by simp[Value.ownBlock];omega))
           have q96:=a4K.cells (g:=g9) rfl)
         | (
           refine Af (by rfl) _ _ _ (by rfl) w.heap.size 36 i0 _ 3 40 Tryz.underlying33 Bo KS IQ Hi rfl (by omega) v62 (k+1) _ (by rfl) UR ⟨g9,0,none⟩ (i - k) c9 (Lo.drop (k * 3)) (by rfl) (by rw[a9C,hLo,Nat.sub_mul]) q96 a4n (by simp[maxLen];omega) (by omega) (by have:=Sm.size;omega) ?_
           intro v64 w7 QU Cw a6i)))
      go_wp2;have hz4:=Sm.size;have hz6:w4.heap.size+1<=w6.heap.size:=by simpa using gC.size
      have hz7:=Cw.size;have hc7:v64.ownBlock=some go\/v64.ownBlock=some (w4.heap.size+1)\/v64.ownBlock=some w6.heap.size:=by
       rcases a6i with h|h
       .rcases YU with h'|h'
        .exact .inl (h.trans (h'.trans rfl))
        .exact .inr (.inl (h.trans (by simpa using h')))
       .exact .inr (.inr h)
      have hc6:v62.ownBlock=some go\/v62.ownBlock=some (w4.heap.size+1):=by
       rcases YU with h'|h'
       .exact .inl (h'.trans rfl)
       .exact .inr (by simpa using h')
      have a8i:=o1.lt go rfl;have a8f:=(t4.lt g3 rfl);have a6a:g3≠go:=by rcases hg3 with h|h<;>omega
      have hik:k+1+(i - k)=i+1:=by omega
      have Zo:w7.ownsRow w.heap.size 36 3 v64 (i+1) (Lo.take (k * 3)++[c0,c1,c2]++Lo.drop (k * 3)):=by
       rw[hik] at QU;simpa using QU
      have u1:=b1.size;have u2:=J1.size;have u3:=Mg.size;have u5:w.heap.size<=gt:=a6u;have hB:Below w.heap.size w w7:=by
       have h1:Below w.heap.size w w4:=(b1.trans ((J1.mono hB1).trans (Mg.mono (by omega)))).grown Sm (by omega) (by intro j e;cases e;omega);exact ((h1.alloc (by omega) _).grown ⟨gC.os,gC.tape,gC.output,gC.size,gC.block⟩ (by simp;omega) (λ j e=>by have e':go=j:=a9A e;omega)).grown Cw (by omega) (by
        intro j e;rcases hc6 with h|h
        .have:go=j:=a9A (h.symm.trans e);omega
        .have:w4.heap.size+1=j:=a9A (h.symm.trans e);omega)
      have t7:=((t4.alloc (.cells #[c0,c1,c2] 36)).kept ⟨gC.os,gC.tape,gC.output,gC.size,gC.block⟩ (.inr (by simp[Value.ownBlock];omega))).kept Cw (.inr (by
       intro e;rcases hc6 with h|h
       .rw[h] at e;exact a6a (by simpa [Value.ownBlock] using e)
       .rw[h] at e;have:g3=w4.heap.size+1:=by simpa [Value.ownBlock] using e
        omega))
      rcases Zo.2 with ⟨_,e⟩|⟨g10,c10,a7x,e,q1,q2,q3,q4,q5,q6⟩
      .omega
      .subst e;have Y7:=a2e.out;have il:(fj x ys).length=i+1:=by rw[Y7];simp;omega
       refine⟨⟨i+1,g3,c3,g10,c10,Lo.take (k * 3)++[c0,c1,c2]++Lo.drop (k * 3),by simp,by omega,by first|rfl|simp,by first|rfl|simp,?_⟩,?_⟩
       .rw[a6E];refine⟨hB,by rw[il];exact t7,by rw[il];exact Zo,?_,?_⟩
        .rw[Y7];exact a0f eO hrx (by omega)
        .rcases hc7 with h|h|h
         .have:g10=go:=by simpa [Value.ownBlock] using h
          omega
         .have:g10=w4.heap.size+1:=by simpa [Value.ownBlock] using h
          omega
         .have:g10=w6.heap.size:=by simpa [Value.ownBlock] using h
          omega
       .simp only[kN];omega
 .have mn:i=xs.length:=by omega
  subst mn;have hl:=TF xs _ hi;have mo:RA xs xs.length=y9 xs:=by unfold RA;rw[List.take_length]
  have hro:=hR.o;have OM:=hR.rd;have hrb:=hR.cK;rw[hl] at hro;rw[mo] at OM;clear hR;go_wp2;go_ret;exact⟨go,co,Lo,rfl,hro,OM,hrb⟩
def Sx(w0:World)(S Z:Nat->Prop)(w:World):Nat->Prop:=λ b=>S b\/(w0.heap.size<=b/\b<w.heap.size/\¬ Z b)
def JD{w0 w:World}{S:Nat->Prop}(Z:Nat->Prop)(hS:iX w0 S)(hb:Below w0.heap.size w0 w):iX w (Sx w0 S Z w) :=
 ⟨λ b h=>h.elim (λ h=>a8B (hS.1 b h) hb.size) (λ h=>h.2.1),hS.2.mono (λ _ h => .inl h) λ b h=>hb.block b (hS.1 b h)⟩
def pP{w0 w w':World}{S Z Z':Nat->Prop}(hS:iX w0 S)(hb:Below w0.heap.size w0 w)(hz:w.heap.size<=w'.heap.size)(WT:∀ b,Z b->w0.heap.size<=b)(hk:∀ b,b<w.heap.size->¬ Z b->w'.heap[b]?=w.heap[b]?)(hZ:∀ b,b<w.heap.size->Z' b->Z b){d:D}{cs:List Value}(r:Rd w (Sx w0 S Z w) d cs):Rd w' (Sx w0 S Z' w') d cs :=
 Rd.aE (λ b h=>h.imp id λ h=>⟨h.1,a8B h.2.1 hz,λ q=>h.2.2 (hZ b h.2.1 q)⟩) (λ b h=>by
  rcases h with h|h
  .have:=hS.1 b h;exact hk b (a8B this hb.size) λ q=>by have:=WT b q;omega
  .exact hk b h.2.1 h.2.2) _ r
def On{w0 w w':World}{S Z:Nat->Prop}(hS:iX w0 S)(hb:Below w0.heap.size w0 w)(hk:bH (λ _=>False) w w'){d:D}{cs:List Value}(r:Rd w (Sx w0 S Z w) d cs):Rd w' (Sx w0 S Z w') d cs :=
 Rd.aE (λ b h=>h.imp id λ h=>⟨h.1,a8B h.2.1 hk.size,h.2.2⟩) (λ b h=>hk.block b ((JD Z hS hb).1 b h) id) _ r
def RH{w0 w:World}{S:Nat->Prop}(Z:Nat->Prop)(hS:iX w0 S)(hb:Below w0.heap.size w0 w){d:D}{cs:List Value}(r:Rd w0 S d cs):Rd w (Sx w0 S Z w) d cs :=
 Rd.aE (λ b h => .inl h) (λ b h=>hb.block b (hS.1 b h)) _ r
def H0{w0 w w':World}{S S' Z:Nat->Prop}(hS:iX w0 S)(hb:Below w0.heap.size w0 w)(hZ:∀ b,Z b->b<w.heap.size)(hk:bH (λ _=>False) w w')(h1:∀ b,b<w.heap.size->(S' b↔Sx w0 S Z w b))(h2:∀ b,S' b->b<w'.heap.size){d:D}{cs:List Value}(r:Rd w' S' d cs):Rd w' (Sx w0 S Z w') d cs :=
 Rd.aE (λ b h=>by
  rcases a8Q b w.heap.size with q|q
  .exact ((h1 b q).1 h).imp id λ h=>⟨h.1,by have:=hk.size;omega,h.2.2⟩
  .exact .inr ⟨by have:=hb.size;omega,h2 b h,λ z=>by have:=hZ b z;omega⟩) (λ _ _=>rfl) _ r
def JH{w:World}{S:Nat->Prop}{x:J}{cs:List Value}(h:Rd w S x.aD cs):∃ (k n:Int) (a:Option Addr) (l c:Nat),cs=[.int .i64 k, .int .i64 n, .slice a l c]:=by
 obtain⟨a,cap,rfl,_⟩:=nH h;exact⟨_,_,_,_,_,rfl⟩
def NV{w0 w:World}{S Z:Nat->Prop}(hS:iX w0 S)(hb:Below w0.heap.size w0 w)(hZ:∀ b,Z b->b<w.heap.size)(x:J)(hx:aY x<=1048576)(b o:Nat)(cx:List Value)(h1:b<w.heap.size)(h2:bh w b o cx)(rx:Rd w (Sx w0 S Z w) x.aD cx) :
  Calls prog nE #[.pointer (some ⟨b,o,none⟩)] w λ e w'=>∃ (k' n':Int) (a':Option Addr) (l' c':Nat),e = .returned (.agg #[.int .i64 k', .int .i64 n', .slice a' l' c'])/\bH (λ _=>False) w w'/\Rd w' (Sx w0 S Z w') x.aD [.int .i64 k', .int .i64 n', .slice a' l' c']:=by
 refine (jk.2 x hx w _ [_] (JD Z hS hb) ⟨⟨b,o,cx,rfl,h1,h2,rx⟩,ae⟩).mono ?_;rintro e w' ⟨v,S',res,rfl,rfl,fe,uw,xx,hr⟩;obtain⟨cs,rfl,uy⟩:=(show ∃ cs,v = .agg cs.toArray/\Rd w' S' x.aD cs from hr);obtain⟨_,_,_,_,_,rfl⟩:=JH uy;exact⟨_,_,_,_,_,rfl,fe,H0 hS hb hZ fe uw xx uy⟩
def Tk{w0 w:World}{S Z:Nat->Prop}(hS:iX w0 S)(hb:Below w0.heap.size w0 w)(hZ:∀ b,Z b->b<w.heap.size)(x y:J)(a0 a1 a2 b0 b1 b2:Value)(rx:Rd w (Sx w0 S Z w) x.aD [a0,a1,a2])(ry:Rd w (Sx w0 S Z w) y.aD [b0,b1,b2]) :
  Calls prog ra #[.int .i64 6, .agg #[a0,a1,a2], .agg #[b0,b1,b2]] w λ e w'=>∃ (k' n':Int) (a':Option Addr) (l' c':Nat),e = .returned (.agg #[.int .i64 k', .int .i64 n', .slice a' l' c'])/\bH (λ _=>False) w w'/\Rd w' (Sx w0 S Z w') (J.mk 6 0 [x,y]).aD [.int .i64 k', .int .i64 n', .slice a' l' c']:=by
 refine (mh.2 (6:Int) x y trivial w _ [_,_,_] (JD Z hS hb) ⟨⟨rfl,by decide,by decide⟩,⟨[a0,a1,a2],rfl,rx⟩,⟨[b0,b1,b2],rfl,ry⟩,ae⟩).mono ?_;rintro e w' ⟨v,S',res,rfl,rfl,fe,uw,xx,hr⟩;obtain⟨cs,rfl,uy⟩:=(show ∃ cs,v = .agg cs.toArray/\Rd w' S' (J.mk 6 0 [x,y]).aD cs from hr);obtain⟨_,_,_,_,_,rfl⟩:=JH uy;exact⟨_,_,_,_,_,rfl,fe,H0 hS hb hZ fe uw xx uy⟩
def TY{w0 w:World}{S Z:Nat->Prop}(hS:iX w0 S)(hb:Below w0.heap.size w0 w)(hZ:∀ b,Z b->b<w.heap.size) :
  Calls prog rh #[] w λ e w'=>∃ (k' n':Int) (a':Option Addr) (l' c':Nat),e = .returned (.agg #[.int .i64 k', .int .i64 n', .slice a' l' c'])/\bH (λ _=>False) w w'/\Rd w' (Sx w0 S Z w') (J.mk 1 0 []).aD [.int .i64 k', .int .i64 n', .slice a' l' c']:=by
 refine (mi.2 trivial w _ [] (JD Z hS hb) trivial).mono ?_;rintro e w' ⟨v,S',res,rfl,rfl,fe,uw,xx,hr⟩;obtain⟨cs,rfl,uy⟩:=(show ∃ cs,v = .agg cs.toArray/\Rd w' S' (J.mk 1 0 []).aD cs from hr);obtain⟨_,_,_,_,_,rfl⟩:=JH uy;exact⟨_,_,_,_,_,rfl,fe,H0 hS hb hZ fe uw xx uy⟩
def pW{w:World}{b t:Nat}{u0 u1 u2:Value}(h:w.heap[b]?=some (.cells #[u0,u1,u2] t (0,0))):(w.cell? ⟨b,0,none⟩=some u0/\w.cell? ⟨b,1,none⟩=some u1/\w.cell? ⟨b,2,none⟩=some u2)/\w.frozen? ⟨b,0,none⟩=false/\w.frozen? ⟨b,1,none⟩=false/\w.frozen? ⟨b,2,none⟩=false :=
 ⟨⟨by simp[World.cell?,h],by simp[World.cell?,h],by simp[World.cell?,h]⟩,QD h,QD h,QD h⟩
def Oh{w:World}{b t:Nat}{u0 u1 u2:Value}(c0 c1 c2:Value)(h:w.heap[b]?=some (.cells #[u0,u1,u2] t (0,0))):(((w.setCell ⟨b,0,none⟩ c0).setCell ⟨b,1,none⟩ c1).setCell ⟨b,2,none⟩ c2).heap[b]?=some (.cells #[c0,c1,c2] t (0,0)) /\
  ∀ k,k≠b->(((w.setCell ⟨b,0,none⟩ c0).setCell ⟨b,1,none⟩ c1).setCell ⟨b,2,none⟩ c2).heap[k]?=w.heap[k]? :=
 ⟨a9J _ _ _ _ _ _ (a9J _ _ _ _ _ _ (a9J _ _ _ _ _ _ h)),λ k hk=>by rw[a9W _ _ _ _ hk,a9W _ _ _ _ hk,a9W _ _ _ _ hk]⟩
def HZ{a:Act}{w:World}{b:Nat}{cs:List Value}{t:TypeId}(h4:a.tmps.getD 4 undef = .pointer (some ⟨b,0,none⟩))(hb:w.heap[b]?=some (.cells cs.toArray t (0,0)))(hl:cs.length=3)(hd:a.defers=[])
  {R:Ending->World->Prop} (hR:R (.returned (.agg cs.toArray)) w):bodyPost prog Tryz.f59 R .ret a w:=by
 refine b2a ?_ hd hR;have cz:(Instr.loadAt 36 (.pointer (some ⟨b,0,none⟩))).run prog w = .ok (.agg cs.toArray) w:=ga (Cr (l:=[]) (wr:=[]) (cl:=[]) (ro:=[]) trivial) (T:=36) (τ := .st .expr) rfl (λ j v hj=>by simp[World.cell?,hb,hj]) hl;simp only[Instr.loadAt,Instr.sureAddr,a8N,a8O,a8J] at cz;rw[wb,b0E];simp only[a8N,b2h,Tryz.f59,b0H,List.mapM_nil,kB,h4,asAddr,a8O,a8J,cz];rfl
def SU(L:List J)(z:J)(h:0<L.length):mu (L++[z])=J.mk 6 0 [mu L,z]:=by
 match L,h with
 | x::xs,_=>simp[mu,b0T]
def Kh(ZS:List J)(k:Nat)(z:J)(h1:1<=k)(hz:ZS[k]?=some z):mu (ZS.take (k+1))=J.mk 6 0 [mu (ZS.take k),z]:=by
 have:=(a8P.1 hz).1;rw[b0U,hz];exact SU _ z (by rw[a9t];omega)
def YI(ZS:List J)(N:Nat)(hN:N<=9000)(h:ez ZS<=N)(k:Nat)(z:J)(hz:ZS[k]?=some z):aY z<=1048576:=by
 have:aj z<=cm aj ZS:=by
  obtain⟨a,b,rfl⟩:=b1I (a9h hz);rw[x9];simp[cm];omega
 have:ez ZS=cm aj ZS+ZS.length:=rfl;exact oY z (by omega)
set_option maxRecDepth 100000 in
def Q3(w:World)(S:Nat->Prop)(hS:iX w S)(x y:J)(hx:az x=true)(hy:az y=true)(hn:aj x+aj y<=7000)(bx ox bY oy:Nat)(cx cy:List Value)(QK:bx<w.heap.size)(hcx:bh w bx ox cx)(rx:Rd w S x.aD cx)
  (YX:bY<w.heap.size) (hcy:bh w bY oy cy) (ry:Rd w S y.aD cy) :
  Calls prog ua #[.pointer (some ⟨bx,ox,none⟩), .pointer (some ⟨bY,oy,none⟩)] w λ e w'=>∃ cs,e = .returned (.agg cs.toArray)/\Rd w' (Sx w S (λ _=>False) w') (Ly x y).aD cs/\bH (λ _=>False) w w':=by
 have l0:CU w S (w.heap.size+1+1) (((w.alloc (.cells #[.int .i64 0, .int .i64 0, .slice none 0 0] 36)).alloc (.cells #[] 36)).alloc (.cells #[.slice (some ⟨w.heap.size+1,0,none⟩) 0 0] 33)) (.slice (some ⟨w.heap.size+1,0,none⟩) 0 0) [] []:=by
  refine⟨(((b0d _ w).alloc (a8C _) _).alloc (by simp) _).alloc (by simp;omega) _,by omega,?_,?_,rfl,by simp[Value.ownBlock],by simp⟩
  .have:=heap_alloc_new ((w.alloc (.cells #[.int .i64 0, .int .i64 0, .slice none 0 0] 36)).alloc (.cells #[] 36)) (.cells #[.slice (some ⟨w.heap.size+1,0,none⟩) 0 0] 33);simpa using this
  .have:=(World.ownsRow_made (base:=w.heap.size) (e:=36) (size:=3) (w.alloc (.cells #[.int .i64 0, .int .i64 0, .slice none 0 0] 36)) #[] 0 (by simp) (Nat.zero_le _) (by simp)).alloc (.cells #[.slice (some ⟨w.heap.size+1,0,none⟩) 0 0] 33);simpa using this
 have z0:(((w.alloc (.cells #[.int .i64 0, .int .i64 0, .slice none 0 0] 36)).alloc (.cells #[] 36)).alloc (.cells #[.slice (some ⟨w.heap.size+1,0,none⟩) 0 0] 33)).heap[w.heap.size]?=some (.cells #[.int .i64 0, .int .i64 0, .slice none 0 0] 36 (0,0)):=by
  rw[a9D _ _ _ (by simp;omega),a9D _ _ _ (by simp)];exact a9N w _
 have tx:=FB _ x (a8K _) hx [] (λ y hy=>by cases hy);have t0:ez []=0:=rfl;go_enter Tryz.func59,Tryz.ntmps59;go_wp2_with (go_at_call 85;refine (CJ w S hS _ x (a8K _) hx bx ox _ cx _ [] [] _ l0 QK hcx rx (λ y hy=>by cases hy) (by omega)).mono ?_);rintro e w1 ⟨he,v1,L1,l1,f1⟩;subst he;have z1:w1.heap[w.heap.size]?=some (.cells #[.int .i64 0, .int .i64 0, .slice none 0 0] 36 (0,0)):=(f1.block _ (by simp;omega) (by omega) (by simp[Value.ownBlock])).trans z0;have n1:v1.ownBlock≠some w.heap.size:=λ e=>by
  rcases f1.own _ e with h|h
  .simp[Value.ownBlock] at h
  .simp at h;omega
 go_wp2_with (go_at_call 85;refine (CJ w S hS _ y (a8K _) hy bY oy _ cy v1 _ L1 _ l1 YX hcy ry tx.1 (by omega)).mono ?_);rintro e w2 ⟨he,v2,L2,l2,f2⟩;subst he;have s1:=f1.size;have z2:w2.heap[w.heap.size]?=some (.cells #[.int .i64 0, .int .i64 0, .slice none 0 0] 36 (0,0)):=(f2.block _ (bn z1) (by omega) n1).trans z1;have ty:=FB _ y (a8K _) hy _ tx.1;obtain⟨g,cap,cur,rfl,q1,q2,q3,q4,q5,q6⟩:=l2.form;have vq:=Nz l2;go_wp2_with (go_at_call 86;refine (Rx w S hS (dC y (dC x [])) ty.1 (by omega) w2 l2.cK g cap (bn q3) (λ k z hz=>B9 q3 q6 l2.rd k z hz)).mono ?_);rintro e w3 ⟨g3,c3,L3,he,a3j,rd3,b3⟩;subst he;have s2:=f2.size;have sb3:=b3.size;have sl:=bn z2;have lq2:=l2.lt;have b3w:Below w.heap.size w w3:=l2.cK.trans (b3.mono (by omega));have z3:=(b3.block _ sl).trans z2;have vq3:=(b3.block _ lq2).trans l2.var;have vc3:w3.cell? ⟨w.heap.size+1+1,0,none⟩=some (.slice (some ⟨g,0,none⟩) (dC y (dC x [])).length cap):=by simp[World.cell?,vq3]
 have vf3:=QD (j:=0) vq3;have a8d:=a3j.lt g3 rfl;have ngq:g3≠w.heap.size+1+1:=by omega
 have ngr:g3≠w.heap.size:=by omega
 have heq:∀ k,k≠w.heap.size+1+1->(w3.setCell ⟨w.heap.size+1+1,0,none⟩ (.slice (some ⟨g3,0,none⟩) (dC y (dC x [])).length c3)).heap[k]?=w3.heap[k]?:=λ k hk=>a9W _ _ _ _ hk;have vq4:(w3.setCell ⟨w.heap.size+1+1,0,none⟩ (.slice (some ⟨g3,0,none⟩) (dC y (dC x [])).length c3)).heap[w.heap.size+1+1]?=some (.cells #[.slice (some ⟨g3,0,none⟩) (dC y (dC x [])).length c3] 33 (0,0)):=a9J _ _ _ _ _ _ vq3;have b4:Below w.heap.size w (w3.setCell ⟨w.heap.size+1+1,0,none⟩ (.slice (some ⟨g3,0,none⟩) (dC y (dC x [])).length c3)):=b3w.setCell (by show w.heap.size<=w.heap.size+1+1;omega) _;have sz4:(w3.setCell ⟨w.heap.size+1+1,0,none⟩ (.slice (some ⟨g3,0,none⟩) (dC y (dC x [])).length c3)).heap.size=w3.heap.size:=by simp
 have vc4:(w3.setCell ⟨w.heap.size+1+1,0,none⟩ (.slice (some ⟨g3,0,none⟩) (dC y (dC x [])).length c3)).cell? ⟨w.heap.size+1+1,0,none⟩=some (.slice (some ⟨g3,0,none⟩) (dC y (dC x [])).length c3):=by simp[World.cell?,vq4]
 have a3k:=a3j.kept (row:=some (w.heap.size+1+1)) (w':=w3.setCell ⟨w.heap.size+1+1,0,none⟩ (.slice (some ⟨g3,0,none⟩) (dC y (dC x [])).length c3)) ⟨rfl,rfl,rfl,by simp,λ k _ h=>heq k λ e=>h (by rw[e])⟩ (.inr (by simp[Value.ownBlock];exact ngq));have z4:=(heq w.heap.size (by omega)).trans z3;have hlen:=(RC (dC y (dC x [])) []).2.2;have hsu:=a0J x y hx hy;have W7:Ly x y=mu (y9 (dC y (dC x []))):=rfl;have hlr:(y9 (dC y (dC x []))).length=(dC y (dC x [])).length:=by rw[show y9 (dC y (dC x []))=_ from rfl] at *;simpa [y9] using hlen
 clear hlen heq;go_upto_region 5 with fail;generalize (dC y (dC x [])).length=n at *
 generalize y9 (dC y (dC x []))=ZS at *
 generalize w3.setCell ⟨w.heap.size+1+1,0,none⟩ (.slice (some ⟨g3,0,none⟩) n c3)=w4 at *
 have WT:∀ b,b=w.heap.size->w.heap.size<=b:=λ b h=>by omega
 have ZQ:=bn z4;by_cases hn0:n=0
 .subst hn0;have e0:ZS=[]:=List.eq_nil_of_length_eq_zero hlr;go_wp2_with (go_at_call 17;refine (TY (Z:=λ b=>b=w.heap.size) hS b4 (λ b hb=>by have hb:b=w.heap.size:=hb;omega)).mono ?_);rintro e w5 ⟨ek,en,ea,em,ec,he,MY,r5⟩;subst he;have z5:=(MY.block _ ZQ id).trans z4;have b5:=b4.trans (pE MY b4.size);obtain⟨⟨k0,k1,k2⟩,g0,g1,g2⟩:=pW z5;go_wp2;obtain⟨z6,o6⟩:=Oh (.int .i64 ek) (.int .i64 en) (.slice ea em ec) z5;refine HZ (cs:=[.int .i64 ek, .int .i64 en, .slice ea em ec]) rfl z6 rfl rfl ?_;refine⟨[.int .i64 ek, .int .i64 en, .slice ea em ec],rfl,?_,b5.os,b5.tape,b5.output,by simpa using b5.size,λ b hb _=>(o6 b (by omega)).trans (b5.block b hb)⟩;rw[W7,e0];exact pP hS b5 (by simp) WT (λ b _ h=>o6 b h) (λ b _ h=>h.elim) r5
 .have dk:=a3k;rcases a3k.2 with ⟨e,_⟩|⟨g',c',cur3,e,p1,p2,p3,p4,p5,p6⟩
  .cases e
  cases e;rw[<-hlr] at p6;have el:=λ k z hz=>B9 p2 p6 rd3 k z hz;obtain⟨z,hz⟩:∃ z,ZS[0]?=some z:=⟨_,a8H (by omega)⟩;obtain⟨a0,a1,a2,hca,hra⟩:=el 0 z hz;have hga:=bn p2;have bW:=YI ZS _ (by omega) hsu.2;have Yh:(0:Int)<(n:Int):=by omega
  have hn9:n<=8000:=by have:ez ZS=cm aj ZS+ZS.length:=rfl;omega
  go_wp2_with (go_at_call 19;refine (NV (Z:=λ b=>b=w.heap.size) hS b4 (λ b hb=>by have hb:b=w.heap.size:=hb;omega) z (bW 0 z hz) g3 0 _ hga (by simpa using hca) (RH _ hS b4 hra)).mono ?_);rintro e w5 ⟨ek,en,ea,em,ec,he,MY,r5⟩;subst he;have b5:=b4.trans (pE MY b4.size);have z5:=(MY.block _ ZQ id).trans z4;have sz5:=MY.size;have vq5:=(MY.block _ (bn vq4) id).trans vq4;have p25:=(MY.block _ hga id).trans p2;have ha:=heap_alloc_new w5 (.cells #[.int .i64 0, .int .i64 0, .slice none 0 0] 36);obtain⟨⟨k0,k1,k2⟩,g0,g1,g2⟩:=pW ha;obtain⟨z6,o6⟩:=Oh (.int .i64 ek) (.int .i64 en) (.slice ea em ec) ha;go_upto_block 0 with fail;have b6:Below w.heap.size w (w5.alloc (.cells #[.int .i64 ek, .int .i64 en, .slice ea em ec] 36)):=b5.alloc (by omega) _;have t6:=heap_alloc_new w5 (.cells #[.int .i64 ek, .int .i64 en, .slice ea em ec] 36);have m6:∀ b,b<w5.heap.size->(w5.alloc (.cells #[.int .i64 ek, .int .i64 en, .slice ea em ec] 36)).heap[b]?=w5.heap[b]?:=λ b hb=>Lib.alloc_old _ _ _ hb;have lt5:=bn z5;have lq5:=bn vq5;have lg5:=bn p25;have z6r:=(m6 _ lt5).trans z5;have vq6:=(m6 _ lq5).trans vq5;have p26:=(m6 _ lg5).trans p25;have s6:(w5.alloc (.cells #[.int .i64 ek, .int .i64 en, .slice ea em ec] 36)).heap.size=w5.heap.size+1:=by simp
  have r6:Rd (w5.alloc (.cells #[.int .i64 ek, .int .i64 en, .slice ea em ec] 36)) (Sx w S (λ b=>b=w.heap.size\/b=w5.heap.size) (w5.alloc (.cells #[.int .i64 ek, .int .i64 en, .slice ea em ec] 36))) (mu (ZS.take 1)).aD [.int .i64 ek, .int .i64 en, .slice ea em ec]:=by
   have:mu (ZS.take 1)=z:=by
    match ZS,hz with
    | z'::_,hz=>cases hz;rfl
   rw[this];exact pP hS b5 (by omega) WT (λ b hb _=>m6 b hb) (λ b hb h=>h.elim id λ h=>by omega) r5
  generalize w5.alloc (.cells #[.int .i64 ek, .int .i64 en, .slice ea em ec] 36)=w6 at *
  generalize hT:w5.heap.size=T at *
  have hT0:w.heap.size<=T:=by have:=b5.size;omega
  have nTq:T≠w.heap.size+1+1:=by omega
  have nTg:g3≠T:=by omega
  clear k0 k1 k2 g0 g1 g2 z6 o6 m6 ha;go_wp2;go_loopw [7] (λ i wr=>∃ (k:Nat) (k' n':Int) (a':Option Addr) (l' c':Nat),i = .int .i64 k/\1<=k/\k<=n/\w6.grownBy wr (some T)/\wr.heap[T]?=some (.cells #[.int .i64 k', .int .i64 n', .slice a' l' c'] 36 (0,0)) /\
   Rd wr (Sx w S (λ b=>b=w.heap.size\/b=T) wr) (mu (ZS.take k)).aD [.int .i64 k', .int .i64 n', .slice a' l' c']) (λ i wr=>n - kN i)
  .exact⟨1,ek,en,ea,em,ec,rfl,a8C _,by omega,⟨rfl,rfl,rfl,a8C _,λ _ _ _=>rfl⟩,t6,r6⟩
  obtain⟨k,ak,an,aa,al,ac,rfl,rR,hkn,nk,nR,OM⟩:=hrel;have nB:w.heap.size≠T:=by omega
  have br:Below w.heap.size w wr:=b6.grown nk (by omega) (λ j e=>by have e':T=j:=a9A e;omega);have vqr:=(nk.block _ (by omega) (λ e=>nTq (a9A e).symm)).trans vq6;have vqc:wr.cell? ⟨w.heap.size+1+1,0,none⟩=some (.slice (some ⟨g3,0,none⟩) n c3):=by simp[World.cell?,vqr]
  have pr:=(nk.block _ (by omega) (λ e=>nTg (a9A e))).trans p26;have ltr:=bn nR;have lqr:=bn vqr;have szr:=nk.size;by_cases IM:k<n
  .obtain⟨y',M7⟩:∃ y',ZS[k]?=some y':=⟨_,a8H (by omega)⟩;obtain⟨d0,d1,d2,hcd,eO⟩:=B9 pr p6 rd3 k y' M7;obtain⟨⟨k0,k1,k2⟩,g0,g1,g2⟩:=pW nR;have bk0:(0:Int)<=(k:Int):=by omega
   have bk1:(k:Int)<(n:Int):=by omega
   have hj:=Kh ZS k y' rR M7;have hZr:∀ b,(b=w.heap.size\/b=T)->b<wr.heap.size:=λ b h=>by rcases h with h|h<;>omega
   have Yi:Below w.heap.size w wr.drew:=br.drew;have a6C:Rd wr.drew (Sx w S (λ b=>b=w.heap.size\/b=T) wr.drew) (mu (ZS.take k)).aD [.int .i64 ak, .int .i64 an, .slice aa al ac] :=
    pP (w':=wr.drew) (Z:=λ b=>b=w.heap.size\/b=T) (Z':=λ b=>b=w.heap.size\/b=T) hS br (a8C _) (λ b h=>by rcases h with h|h<;>omega) (λ _ _ _=>rfl) (λ _ _ h=>h) OM
   have a6F:wr.drew.heap[T]?=some (.cells #[.int .i64 ak, .int .i64 an, .slice aa al ac] 36 (0,0)):=nR;have a1g:wr.drew.heap[w.heap.size+1+1]?=some (.cells #[.slice (some ⟨g3,0,none⟩) n c3] 33 (0,0)):=vqr;have a2M:∀ b,(b=w.heap.size\/b=T)->b<wr.drew.heap.size:=hZr;have prd:g3<wr.drew.heap.size:=bn pr;have a6m:bh wr.drew g3 (k * 3) [d0,d1,d2]:=hcd;go_wp2_with fail;go_region_with
    (first
     | (
       go_at_call 19
       refine (NV (w:=wr.drew) (Z:=λ b=>b=w.heap.size\/b=T) hS Yi a2M y' (bW k y' M7) g3 (k * 3) _ prd a6m (RH _ hS Yi eO)).mono ?_
       rintro e w7 ⟨fk,fn,fa,fm,fc,he,KO,r7⟩
       subst he
       have b7:=Yi.trans (pE KO Yi.size)
       have t7:=(KO.block _ ltr id).trans a6F
       obtain⟨⟨u0,u1,u2⟩,v0,v1,v2⟩:=pW t7
       have vq7:w7.cell? ⟨w.heap.size+1+1,0,none⟩=some (.slice (some ⟨g3,0,none⟩) n c3):=by simp[World.cell?,(KO.block _ lqr id).trans a1g]
       have rr7:=On hS Yi KO a6C
       have hZ7:∀ b,(b=w.heap.size\/b=T)->b<w7.heap.size:=λ b h=>a8B (a2M b h) KO.size)
     | (
       go_at_call 18
       refine (Tk (w:=w7) (Z:=λ b=>b=w.heap.size\/b=T) hS b7 hZ7 _ y' _ _ _ _ _ _ rr7 r7).mono ?_
       rintro e w8 ⟨hk,rS,ha',hm,IL,he,SD,r8⟩
       subst he
       have t8:=(SD.block _ (bn t7) id).trans t7
       obtain⟨⟨x0,x1,x2⟩,y0,y1,y2⟩:=pW t8
       have vq8:w8.cell? ⟨w.heap.size+1+1,0,none⟩=some (.slice (some ⟨g3,0,none⟩) n c3):=by simp[World.cell?,(SD.block _ (bn ((KO.block _ lqr id).trans a1g)) id).trans ((KO.block _ lqr id).trans a1g)]))
   all_goals
    go_wp2
    obtain⟨z9,o9⟩:=Oh (.int .i64 hk) (.int .i64 rS) (.slice ha' hm IL) t8
    have b8:=b7.trans (pE SD b7.size)
    have s7:wr.heap.size<=w7.heap.size:=KO.size
    have s8:=SD.size
    refine⟨⟨k+1,hk,rS,ha',hm,IL,by simp,by omega,by omega,⟨SD.os.trans (KO.os.trans nk.os),SD.tape.trans (KO.tape.trans nk.tape),SD.output.trans (KO.output.trans nk.output),by simp;omega,λ j hj dh=>?_⟩,z9,?_⟩,?_⟩
    .exact (o9 j (λ e=>dh (by rw[e]))).trans ((SD.block j (by omega) id).trans ((KO.block j (by show j<wr.heap.size;omega) id).trans (nk.block j hj dh)))
    .rw[hj];exact pP (Z:=λ b=>b=w.heap.size\/b=T) hS b8 (by simp) (λ b h=>by rcases h with h|h<;>omega) (λ b _ hb=>o9 b λ e=>hb (.inr e)) (λ _ _ h=>h) r8
    .simp only[kN];omega
  .have a6w:k=n:=by omega
   subst a6w;have zr:=(nk.block _ (by omega) (λ e=>nB (Option.some.inj e))).trans z6r;obtain⟨⟨k0,k1,k2⟩,g0,g1,g2⟩:=pW nR;obtain⟨⟨x0,x1,x2⟩,y0,y1,y2⟩:=pW zr;obtain⟨z9,o9⟩:=Oh (.int .i64 ak) (.int .i64 an) (.slice aa al ac) zr;go_wp2;refine HZ (cs:=[.int .i64 ak, .int .i64 an, .slice aa al ac]) rfl z9 rfl rfl ?_;refine⟨[.int .i64 ak, .int .i64 an, .slice aa al ac],rfl,?_,br.os,br.tape,br.output,by simpa using br.size,λ b hb _=>(o9 b (by omega)).trans (br.block b hb)⟩;rw[W7];rw[show ZS.take k=ZS from by rw[<-hlr,List.take_length]] at OM;exact pP (Z:=λ b=>b=w.heap.size\/b=T) hS br (by simp) (λ b h=>by rcases h with h|h<;>omega) (λ b _ hb=>o9 b λ e=>hb (.inl e)) (λ b _ h=>h.elim) OM
def tR:aQ:=⟨ua,[.r (.st .expr), .r (.st .expr)],λ (x:J) (b:J)=>⟨(some (az x=true/\az b=true/\aj x+aj b<=7000),[⟨(.st .expr),Ly x b⟩])⟩⟩
def GW:aQ.Good tR:=by
 refine⟨aB KA rfl (by decide),?_⟩;intro x y hp w S cC hS ha;match cC,ha with
 | [v1,v2],ha =>
  obtain⟨⟨bx,ox,cx,rfl,h1,h2,rx⟩,⟨b',oy,cy,rfl,uw,xx,ry⟩,_⟩:=ha;refine (Q3 w S hS x y hp.1 hp.2.1 hp.2.2 bx ox b' oy cx cy h1 h2 rx uw xx ry).mono ?_;rintro e w' ⟨cs,rfl,hr,hk⟩;exact⟨_,Sx w S (λ _=>False) w',_,rfl,rfl,hk,λ b hb=>⟨λ h=>h.elim id λ h=>by omega, .inl⟩,λ b h=>h.elim (λ h=>a8B (hS.1 b h) hk.size) λ h=>h.2.1,⟨cs,rfl,hr⟩⟩
end
end Go.Proofs.YtncejbehidimmaaGreatDoor

namespace Go.Proofs.YtncejbehidimmaaGreatDoor
noncomputable section
def ky(n:Nat):aQ:=⟨rf,[.r (.st .expr)],λ (x:J)=>⟨(some (bo x<n/\az x=true/\aj x<=3000),[⟨(.st .expr),eF x⟩])⟩⟩
def lQ:aQ:=⟨rf,[.r (.st .expr)],λ (x:J)=>⟨(some (az x=true/\aj x<=3000),[⟨(.st .expr),eF x⟩])⟩⟩
def Li(x:J):Nat->aG:=cf
abbrev vK(n:Nat)(x:J):Prop:=(let v2:=x.U.getD 0 zE;let v0:=bc (eF v2);let v3:=x.U.getD 1 zE;let v1:=bc (eF v3);(x.U.length<=140737488355328 ->
 (av (0:Int) x.U.length/\((bo v2<n/\az v2=true/\aj v2<=3000)/\(x.U.length<=140737488355328 ->
 (av (1:Int) x.U.length/\((bo v3<n/\az v3=true/\aj v3<=3000)/\(ai x.ah ->
 (((decide (x.ah=(6:Int)))=true ->
 ((az v0=true/\az v1=true/\aj v0+aj v1<=7000)/\(bc (Ly v0 v1))=(eF x)))/\((decide (x.ah=(6:Int)))=false ->
 ((az v0=true/\az v1=true/\aj v0+aj v1<=4000)/\(bc (ju v0 v1))=(eF x))))))))))))
abbrev vL(n:Nat)(x:J):Prop:=(let v0:=x.U.getD 0 zE;let v1:=bc (eF v0);(((decide (x.ah=(8:Int)))=true ->
 (x.U.length<=140737488355328 ->
 (av (0:Int) x.U.length/\((bo v0<n/\az v0=true/\aj v0<=3000)/\((az v1=true/\aj v1<=4000)/\(bc (Cd v1))=(eF x))))))/\((decide (x.ah=(8:Int)))=false ->
 (aY x<=1048576/\(bc x)=(eF x)))))
def Jw(n:Nat)(hE:bf [ky n,tR,tP,qO,eV]):aQ.Good (ky (n+1)):=by
 refine⟨aB j0,?_⟩;intro (x:J) (hp:bo x<n+1/\az x=true/\aj x<=3000);refine aP [ky n,tR,tP,qO,eV] [] [] [] hE j0 EI (Li x) (let v0:=decide (x.ah=(6:Int));((ai x.ah->((v0=true->((v0=true->(vK n x))/\(v0=false->(vL n x))))/\(v0=false->(((decide (x.ah=(7:Int)))=true->(vK n x))/\((decide (x.ah=(7:Int)))=false->(vL n x)))))))) ?_;obtain⟨hm,hg,hn⟩:=hp;refine λ _=>⟨λ _=>⟨λ _ _=>⟨?_,?_,λ _=>⟨?_,?_,λ _=>⟨λ _=>⟨?_,?_⟩,λ _=>⟨?_,?_⟩⟩⟩⟩,λ _=>⟨λ _ _=>⟨?_,?_,?_,?_⟩,λ _=>⟨?_,?_⟩⟩⟩,λ _=>⟨λ _ _=>⟨?_,?_,λ _=>⟨?_,?_,λ _=>⟨λ _=>⟨?_,?_⟩,λ _=>⟨?_,?_⟩⟩⟩⟩,λ _=>⟨λ _ _=>⟨?_,?_,?_,?_⟩,λ _=>⟨?_,?_⟩⟩⟩⟩;all_goals try and_intros
 all_goals try (first|with_reducible rfl|with_reducible assumption)
 all_goals try simp only[J.eta,cW] at *
 all_goals (try simp only[a9r,a9y,a8z,a8y,av,J.eta] at *);first|rfl|trivial|omega|exact oY _ (by omega)|(have g:=jC x hg (.inr (by omega));first|(have:=g.len;omega)|exact g.g0|(have:=g.l0;omega)|(have:=g.nd;omega)|exact (Cg _ g.g0).g|(have:=(Cg _ g.g0).n;have:=g.nd;omega)|(rw[a1c x (by omega) g]<;>rfl))|(have g:=cD x hg (by omega);first|(have:=g.len;omega)|exact g.g0|exact g.g1|(have:=g.l0;omega)|(have:=g.l1;omega)|(have:=g.nd;omega)|exact (Cg _ g.g0).g|exact (Cg _ g.g1).g|(have:=(Cg _ g.g0).n;have:=(Cg _ g.g1).n;have:=g.nd;omega)|(rw[a1a x (by omega) g]<;>rfl)|(rw[a1b x (by omega) g]<;>rfl))|(rw[a1d x (by omega) (by omega) (by omega)]<;>rfl)
def Pk :∀ n,bf [ky n]
 | 0=>⟨⟨aB j0,λ _ h=>absurd h.1 (a8X _)⟩,ae⟩
 | n+1=>by
  have ih:=Pk  n;exact⟨Jw n ⟨ih.1,GW,GU,E3,jk,ae⟩,ae⟩
def tv :aQ.Good lQ :=
 ⟨aB j0,λ x hp=>(Pk  (bo x+1)).1.2 x (⟨a8K _,hp⟩)⟩
noncomputable def HV(raw:J):J×Bool:=if 800<aj raw then (raw,false) else (eF raw,true)
def Tu(x a b:J)(em:Bool):J:=if x.ah=6 then J.mk 6 0 [a,b] else if x.ah=7 then (if em=true then J.mk 6 0 [J.mk 7 0 [a,(x.U.getD 1 zE)],b] else J.mk 7 0 [a,(x.U.getD 1 zE)]) else J.mk 7 0 [a,x]
noncomputable def O4(a c:Int)(x:J)(rs:List (J×Bool)):J×Bool :=
 if x.ah=4 then (if x.aZ=c then J.mk 2 0 [] else J.mk 1 0 [],true)
 else if x.ah=6 then (if ((rs.getD 0 (x,false)).2&&(rs.getD 1 (x,false)).2)=true then HV (Tu x (rs.getD 0 (x,false)).1 (rs.getD 1 (x,false)).1 (eo a (x.U.getD 0 zE))) else (J.mk 1 0 [],false))
 else if x.ah=7 then (if (rs.getD 0 (x,false)).2=true then (if (eo a (x.U.getD 0 zE) && !(rs.getD 1 (x,false)).2)=true then (J.mk 7 0 [(rs.getD 0 (x,false)).1,(x.U.getD 1 zE)],false) else HV (Tu x (rs.getD 0 (x,false)).1 (rs.getD 1 (x,false)).1 (eo a (x.U.getD 0 zE)))) else (J.mk 1 0 [],false))
 else if x.ah=8 then (if (rs.getD 0 (x,false)).2=true then HV (Tu x (rs.getD 0 (x,false)).1 (rs.getD 1 (x,false)).1 (eo a (x.U.getD 0 zE))) else (J.mk 1 0 [],false))
 else (J.mk 1 0 [],true)
noncomputable def bN(a c:Int)(x:J):J×Bool:=yC (O4 a c) x
def JB(a c:Int)(x:J):bN a c x=O4 a c x (jj (O4 a c) x.U):=j9 _ x
def TD(a c:Int)(x:J)(i:Nat)(h:i<x.U.length):(jj (O4 a c) x.U).getD i (x,false)=bN a c (x.U.getD i zE):=eI _ _ _ _ i h
noncomputable def lh(a c:Int)(x:J):J:=if x.ah=8 then J.mk 7 0 [(bN a c (x.U.getD 0 zE)).1,x] else Tu x (bN a c (x.U.getD 0 zE)).1 (bN a c (x.U.getD 1 zE)).1 (eo a (x.U.getD 0 zE))
def FE(a c:Int)(x:J)(h:x.ah=4)(e:x.aZ=c):bN a c x=(J.mk 2 0 [],true):=by rw[JB,O4,a8A h,a8A e]
def FD(a c:Int)(x:J)(h:x.ah=4)(e:¬ x.aZ=c):bN a c x=(J.mk 1 0 [],true):=by rw[JB,O4,a8A h,a8v e]
def a3p(a c:Int)(x:J)(h:x.ah=6)(g:B2 x):bN a c x=if ((bN a c (x.U.getD 0 zE)).2&&(bN a c (x.U.getD 1 zE)).2)=true then HV (lh a c x) else (J.mk 1 0 [],false):=by
 rw[JB,O4,a8v (by omega),a8A h,TD a c x 0 (by have:=g.len;omega),TD a c x 1 (by have:=g.len;omega),show lh a c x=_ from a8v (by omega)]
def nL(a c:Int)(x:J)(h:x.ah=6)(g:B2 x)(e:(bN a c (x.U.getD 0 zE)).2=false\/(bN a c (x.U.getD 1 zE)).2=false):bN a c x=(J.mk 1 0 [],false):=by
 rw[a3p a c x h g,a8v];rcases e with e|e<;>rw[e]<;>simp
def a0z(a c:Int)(x:J)(h:x.ah=6)(g:B2 x)(e:(bN a c (x.U.getD 0 zE)).2=true)(e':(bN a c (x.U.getD 1 zE)).2=true):bN a c x=HV (lh a c x):=by
 rw[a3p a c x h g,a8A (by rw[e,e'];rfl)]
def a0A(a c:Int)(x:J)(h:x.ah=7)(g:B2 x):bN a c x=if (bN a c (x.U.getD 0 zE)).2=true then (if (eo a (x.U.getD 0 zE) && !(bN a c (x.U.getD 1 zE)).2)=true then (J.mk 7 0 [(bN a c (x.U.getD 0 zE)).1,(x.U.getD 1 zE)],false) else HV (lh a c x)) else (J.mk 1 0 [],false):=by
 rw[JB,O4,a8v (by omega),a8v (by omega),a8A h,TD a c x 0 (by have:=g.len;omega),TD a c x 1 (by have:=g.len;omega),show lh a c x=_ from a8v (by omega)]
def FF(a c:Int)(x:J)(h:x.ah=7)(g:B2 x)(e:(bN a c (x.U.getD 0 zE)).2=false):bN a c x=(J.mk 1 0 [],false):=by
 rw[a0A a c x h g,a8v (by rw[e];decide)]
def FG(a c:Int)(x:J)(h:x.ah=7)(g:B2 x)(e:(bN a c (x.U.getD 0 zE)).2=true)(m:eo a (x.U.getD 0 zE)=true)(e':(bN a c (x.U.getD 1 zE)).2=false):bN a c x=(J.mk 7 0 [(bN a c (x.U.getD 0 zE)).1,(x.U.getD 1 zE)],false):=by
 rw[a0A a c x h g,a8A e,a8A (by rw[m,e'];rfl)]
def Rz(a c:Int)(x:J)(h:x.ah=7)(g:B2 x)(e:(bN a c (x.U.getD 0 zE)).2=true)(m:eo a (x.U.getD 0 zE)=false\/(bN a c (x.U.getD 1 zE)).2=true):bN a c x=HV (lh a c x):=by
 rw[a0A a c x h g,a8A e,a8v];rcases m with m|m<;>rw[m]<;>simp
def a3q(a c:Int)(x:J)(h:x.ah=8)(g:B1 x):bN a c x=if (bN a c (x.U.getD 0 zE)).2=true then HV (lh a c x) else (J.mk 1 0 [],false):=by
 rw[JB,O4,a8v (by omega),a8v (by omega),a8v (by omega),a8A h,TD a c x 0 (by have:=g.len;omega),show lh a c x=_ from a8A h,show Tu x _ _ _=J.mk 7 0 [_,x] from (a8v (by omega)).trans (a8v (by omega))]
def FH(a c:Int)(x:J)(h:x.ah=8)(g:B1 x)(e:(bN a c (x.U.getD 0 zE)).2=false):bN a c x=(J.mk 1 0 [],false):=by
 rw[a3q a c x h g,a8v (by rw[e];decide)]
def a0B(a c:Int)(x:J)(h:x.ah=8)(g:B1 x)(e:(bN a c (x.U.getD 0 zE)).2=true):bN a c x=HV (lh a c x):=by
 rw[a3q a c x h g,a8A e]
def Og(a c:Int)(x:J)(h4:¬ x.ah=4)(h6:¬ x.ah=6)(h7:¬ x.ah=7)(h8:¬ x.ah=8):bN a c x=(J.mk 1 0 [],true):=by
 rw[JB,O4,a8v h4,a8v h6,a8v h7,a8v h8]
def Tv(a c:Int)(x:J)(h:x.ah=6):lh a c x=J.mk 6 0 [(bN a c (x.U.getD 0 zE)).1,(bN a c (x.U.getD 1 zE)).1]:=by rw[lh,a8v (by omega),Tu,a8A h]
def N8(a c:Int)(x:J)(h:x.ah=7)(m:eo a (x.U.getD 0 zE)=true):lh a c x=J.mk 6 0 [J.mk 7 0 [(bN a c (x.U.getD 0 zE)).1,(x.U.getD 1 zE)],(bN a c (x.U.getD 1 zE)).1]:=by rw[lh,a8v (by omega),Tu,a8v (by omega),a8A h,a8A m]
def N7(a c:Int)(x:J)(h:x.ah=7)(m:eo a (x.U.getD 0 zE)=false):lh a c x=J.mk 7 0 [(bN a c (x.U.getD 0 zE)).1,(x.U.getD 1 zE)]:=by rw[lh,a8v (by omega),Tu,a8v (by omega),a8A h,a8v (by rw[m];decide)]
def Tw(a c:Int)(x:J)(h:x.ah=8):lh a c x=J.mk 7 0 [(bN a c (x.U.getD 0 zE)).1,x]:=by rw[lh,a8A h]
structure RU(r:J×Bool):Prop where
 g:r.2=true->az r.1=true
 n:r.2=true->aj r.1<=800
def LO(x:J)(h:az x=true):RU (HV x):=by
 unfold HV;split
 .exact⟨nofun,nofun⟩
 .have:=Cg x h;exact⟨λ _=>this.g,λ _=>by have:=this.n;show aj (eF x)<=800;omega⟩
structure CV(a c:Int)(x:J):Prop where
 e:bN a c x=HV (lh a c x)
 g:az (lh a c x)=true
 n:aj (lh a c x)<=3000
def JC(a c:Int):∀ (N:Nat) (x:J),bo x<N->az x=true->RU (bN a c x)
 | 0,x,h,_=>by omega
 | N+1,x,hN,h=>by
  have z1:RU (J.mk 1 0 [],true):=⟨λ _=>E5,λ _=>by decide⟩;have zf:∀ y,RU (y,false):=λ y=>⟨nofun,nofun⟩;by_cases h4:x.ah=4
  .by_cases e:x.aZ=c
   .rw[FE a c x h4 e];exact⟨λ _=>PB,λ _=>by decide⟩
   .rw[FD a c x h4 e];exact z1
  by_cases h6:x.ah=6
  .have g:=cD x h (.inl h6);have p:=JC a c N (x.U.getD 0 zE) (by have:=g.l0;omega) g.g0;have q:=JC a c N (x.U.getD 1 zE) (by have:=g.l1;omega) g.g1;rcases a9E (bN a c (x.U.getD 0 zE)).2 with e|e
   .rcases a9E (bN a c (x.U.getD 1 zE)).2 with e'|e'
    .rw[a0z a c x h6 g e e',Tv a c x h6];exact LO _ (gi _ _ 6 (p.g e) (q.g e') (.inl rfl))
    .rw[nL a c x h6 g (.inr e')];exact zf _
   .rw[nL a c x h6 g (.inl e)];exact zf _
  by_cases h7:x.ah=7
  .have g:=cD x h (.inr h7);have p:=JC a c N (x.U.getD 0 zE) (by have:=g.l0;omega) g.g0;have q:=JC a c N (x.U.getD 1 zE) (by have:=g.l1;omega) g.g1;rcases a9E (bN a c (x.U.getD 0 zE)).2 with e|e
   .have b:=gi _ _ 7 (p.g e) g.g1 (.inr rfl);rcases a9E (eo a (x.U.getD 0 zE)) with m|m
    .rcases a9E (bN a c (x.U.getD 1 zE)).2 with e'|e'
     .rw[Rz a c x h7 g e (.inr e'),N8 a c x h7 m];exact LO _ (gi _ _ 6 b (q.g e') (.inl rfl))
     .rw[FG a c x h7 g e m e'];exact zf _
    .rw[Rz a c x h7 g e (.inl m),N7 a c x h7 m];exact LO _ b
   .rw[FF a c x h7 g e];exact zf _
  by_cases h8:x.ah=8
  .have g:=jC x h (.inr h8);have p:=JC a c N (x.U.getD 0 zE) (by have:=g.l0;omega) g.g0;rcases a9E (bN a c (x.U.getD 0 zE)).2 with e|e
   .rw[a0B a c x h8 g e,Tw a c x h8];exact LO _ (gi _ _ 7 (p.g e) h (.inr rfl))
   .rw[FH a c x h8 g e];exact zf _
  .rw[Og a c x h4 h6 h7 h8];exact z1
def XD(a c:Int)(x:J)(h:az x=true):RU (bN a c x):=JC a c _ x (a8K _) h
def a0v(a c:Int)(x:J)(hg:az x=true)(hn:aj x<=1000)(h:x.ah=6)(e:(bN a c (x.U.getD 0 zE)).2=true)(e':(bN a c (x.U.getD 1 zE)).2=true):CV a c x:=by
 have g:=cD x hg (.inl h);have p:=XD a c _ g.g0;have q:=XD a c _ g.g1;refine⟨a0z a c x h g e e',?_,?_⟩
 .rw[Tv a c x h];exact gi _ _ 6 (p.g e) (q.g e') (.inl rfl)
 .rw[Tv a c x h,jK];have:=p.n e;have:=q.n e';omega
def Ry(a c:Int)(x:J)(hg:az x=true)(hn:aj x<=1000)(h:x.ah=7)(e:(bN a c (x.U.getD 0 zE)).2=true)(m:eo a (x.U.getD 0 zE)=false\/(eo a (x.U.getD 0 zE)=true/\(bN a c (x.U.getD 1 zE)).2=true)):CV a c x:=by
 have g:=cD x hg (.inr h);have p:=XD a c _ g.g0;have q:=XD a c _ g.g1;have b:=gi _ _ 7 (p.g e) g.g1 (.inr rfl);have nd:=g.nd;have n0:=p.n e;rcases m with m|⟨m,e'⟩
 .refine⟨Rz a c x h g e (.inl m),?_,?_⟩
  .rw[N7 a c x h m];exact b
  .rw[N7 a c x h m,jK];omega
 .refine⟨Rz a c x h g e (.inr e'),?_,?_⟩
  .rw[N8 a c x h m];exact gi _ _ 6 b (q.g e') (.inl rfl)
  .rw[N8 a c x h m,jK,jK];have:=q.n e';omega
def a0w(a c:Int)(x:J)(hg:az x=true)(hn:aj x<=1000)(h:x.ah=8)(e:(bN a c (x.U.getD 0 zE)).2=true):CV a c x:=by
 have g:=jC x hg (.inr h);have p:=XD a c _ g.g0;refine⟨a0B a c x h g e,?_,?_⟩
 .rw[Tw a c x h];exact gi _ _ 7 (p.g e) hg (.inr rfl)
 .rw[Tw a c x h,jK];have:=p.n e;omega
def a0y(a c:Int)(x:J)(j:CV a c x)(h:800<aj (lh a c x)):bN a c x=(lh a c x,false):=by rw[j.e,HV,a8A h]
def a0x(a c:Int)(x:J)(j:CV a c x)(h:¬ 800<aj (lh a c x)):bN a c x=(eF (lh a c x),true):=by rw[j.e,HV,a8v h]
def kx(n:Nat):aQ:=⟨rb,[.r (.st .expr), .v (.int .i64), .v (.int .i64)],λ (x:J) (atom:Int) (act:Int)=>⟨(some (bo x<n/\az x=true/\aj x<=1000/\0<=atom/\atom<=4096),[⟨(.st .expr),(bN atom act x).1⟩,⟨.bool,(bN atom act x).2⟩])⟩⟩
def zP:aQ:=⟨rb,[.r (.st .expr), .v (.int .i64), .v (.int .i64)],λ (x:J) (atom:Int) (act:Int)=>⟨(some (az x=true/\aj x<=1000/\0<=atom/\atom<=4096),[⟨(.st .expr),(bN atom act x).1⟩,⟨.bool,(bN atom act x).2⟩])⟩⟩
def Lh(x:J)(atom:Int)(act:Int):Nat->aG:=(dU 100029 (.u (CV atom act x) [0,1,2,19] [] [6] [(8, .box [.aK ⟨(.int .i64),((lh atom act x).ah:Int)⟩, .aK ⟨(.int .i64),((lh atom act x).aZ:Int)⟩, .aK ⟨(.slice (.st .expr)),((lh atom act x).U:List J)⟩])] cf) cf)
abbrev vI(x:J)(atom:Int)(act:Int):Prop:=(let v0:=J.mk (6:Int) 0 [(bc ((bN atom act (x.U.getD 0 zE)).1)),(bc ((bN atom act (x.U.getD 1 zE)).1))];(∃ u1:Unit,(CV atom act x/\((True/\(True/\True))/\((v0.ah=((lh atom act x).ah)/\(v0.aZ=((lh atom act x).aZ)/\(v0.U=((lh atom act x).U)/\True)))/\(((0:Int)=(0:Int)/\((0:Int)=(0:Int)/\(True/\True)))/\True))))))
abbrev vJ(x:J)(atom:Int)(act:Int):Prop:=((!((bN atom act (x.U.getD 0 zE)).2))=true ->
 ((bc (J.mk 1 0 []))=((bN atom act x).1)/\false=((bN atom act x).2)))
def Jv(n:Nat)(hE:bf [kx n,iP,nz,iO,kf,qM,lQ]):aQ.Good (kx (n+1)):=by
 refine⟨aB jZ,?_⟩;intro (x:J) (atom:Int) (act:Int) (hp:bo x<n+1/\az x=true/\aj x<=1000/\0<=atom/\atom<=4096);refine aP [kx n,iP,nz,iO,kf,qM,lQ] [] [] [] hE jZ EH (Lh x atom act) (let v2:=x.U.getD 0 zE;let v3:=x.U.getD 1 zE;let v4:=bN atom act x;let v5:=bo v2<n/\az v2=true/\aj v2<=1000/\0<=atom/\atom<=4096;let v7:=lh atom act x;let v0:=J.mk (v7.ah) (v7.aZ) (v7.U);let va:=bo v3<n/\az v3=true/\aj v3<=1000/\0<=atom/\atom<=4096;let vb:=bN atom act v2;let v1:=J.mk (7:Int) 0 [(bc (vb.1)),v3];let v8:=J.mk (6:Int) 0 [(bc v1),(bc ((bN atom act v3).1))];let v9:=J.mk (7:Int) 0 [(bc (vb.1)),x];let vc:=bc (J.mk 1 0 []);let vd := !((bN atom act v3).2);let ve:=True/\(True/\True);let vf:=decide ((800:Int)<((aj v0:Int)));let vg:=(0:Int);let v6:=(vg=vg/\(vg=vg/\(True/\True)))/\True;let vh:=vc=(v4.1)/\false=(v4.2);let vi:=vc=(v4.1)/\true=(v4.2);(((ai x.ah->(((decide (x.ah=(4:Int)))=true->(ai x.aZ->(((decide (x.aZ=act))=true->((bc (J.mk 2 0 []))=(v4.1)/\true=(v4.2)))/\((decide (x.aZ=act))=false->vi))))/\((decide (x.ah=(4:Int)))=false->(((decide (x.ah=(6:Int)))=true->(x.U.length<=140737488355328->(av vg x.U.length/\(v5/\(x.U.length<=140737488355328->(av (1:Int) x.U.length/\(va/\(((!(vb.2))=false->((vd=true->vh)/\(vd=false->(vI x atom act))))/\((!(vb.2))=(!false)->((true=true->vh)/\(true=false->(vI x atom act))))))))))))/\((decide (x.ah=(6:Int)))=false->(((decide (x.ah=(7:Int)))=true->(x.U.length<=140737488355328->(av vg x.U.length/\(v5/\((vJ x atom act)/\((!(vb.2))=false->(av (1:Int) x.U.length/\(x.U.length<=140737488355328->(x.U.length<=140737488355328->(av vg x.U.length/\((az v2=true/\0<=atom/\atom<=4096)/\(((eo atom v2)=true->(x.U.length<=140737488355328->(av (1:Int) x.U.length/\(va/\((vd=true->((bc v1)=(v4.1)/\false=(v4.2)))/\(vd=false->(∃ u1:Unit,(CV atom act x/\(ve/\((v8.ah=(v7.ah)/\(v8.aZ=(v7.aZ)/\(v8.U=(v7.U)/\True)))/\v6))))))))))/\((eo atom v2)=false->(∃ u1:Unit,(CV atom act x/\(ve/\((v1.ah=(v7.ah)/\(v1.aZ=(v7.aZ)/\(v1.U=(v7.U)/\True)))/\v6)))))))))))))))))/\((decide (x.ah=(7:Int)))=false->(((decide (x.ah=(8:Int)))=true->(x.U.length<=140737488355328->(av vg x.U.length/\(v5/\((vJ x atom act)/\((!(vb.2))=false->(∃ u1:Unit,(CV atom act x/\(ve/\((v9.ah=(v7.ah)/\(v9.aZ=(v7.aZ)/\(v9.U=(v7.U)/\True)))/\v6))))))))))/\((decide (x.ah=(8:Int)))=false->vi)))))))))/\(∀ u1:Unit,(CV atom act x->(aj v0<=1048576/\(ai ((aj v0:Int))->((vf=true->(v0=(v4.1)/\false=(v4.2)))/\(vf=false->((az v0=true/\aj v0<=3000)/\((bc (eF v0))=(v4.1)/\true=(v4.2)))))))))))) ?_;obtain⟨hm,hg,hn,h0,h1⟩:=hp;refine⟨λ _=>⟨λ _ _=>⟨λ _=>⟨?_,?_⟩,λ _=>⟨?_,?_⟩⟩,λ _=>⟨λ _ _=>⟨?_,?_,λ _=>⟨?_,?_,λ _=>⟨λ _=>⟨?_,?_⟩,λ _=>⟨(),?_,⟨ae,ae,ae⟩,⟨?_,?_,?_,ae⟩,⟨rfl,rfl,ae,ae⟩,ae⟩⟩,λ _=>⟨λ _=>⟨?_,?_⟩,λ _=>⟨(),?_,⟨ae,ae,ae⟩,⟨?_,?_,?_,ae⟩,⟨rfl,rfl,ae,ae⟩,ae⟩⟩⟩⟩,λ _=>⟨λ _ _=>⟨?_,?_,λ _=>⟨?_,?_⟩,λ _=>⟨?_,λ _ _=>⟨?_,?_,λ _ _=>⟨?_,?_,λ _=>⟨?_,?_⟩,λ _=>⟨(),?_,⟨ae,ae,ae⟩,⟨?_,?_,?_,ae⟩,⟨rfl,rfl,ae,ae⟩,ae⟩⟩,λ _=>⟨(),?_,⟨ae,ae,ae⟩,⟨?_,?_,?_,ae⟩,⟨rfl,rfl,ae,ae⟩,ae⟩⟩⟩⟩,λ _=>⟨λ _ _=>⟨?_,?_,λ _=>⟨?_,?_⟩,λ _=>⟨(),?_,⟨ae,ae,ae⟩,⟨?_,?_,?_,ae⟩,⟨rfl,rfl,ae,ae⟩,ae⟩⟩,λ _=>⟨?_,?_⟩⟩⟩⟩⟩,λ u1 _=>⟨?_,λ _=>⟨λ _=>⟨?_,?_⟩,λ _=>⟨?_,?_,?_⟩⟩⟩⟩;all_goals try and_intros
 all_goals try (first|with_reducible rfl|with_reducible assumption)
 all_goals try simp only[J.eta,cW] at *
 all_goals (try simp only[a9r,a9y,a8S,a9b,a8z,a8y,av,J.eta] at *);first|rfl|trivial|omega|with_reducible assumption|(rw[FE atom act x (by omega) (by omega)]<;>rfl)|(rw[FD atom act x (by omega) (by omega)]<;>rfl)|(rw[Og atom act x (by omega) (by omega) (by omega) (by omega)]<;>rfl)|exact a0v atom act x hg hn (by omega) (by with_reducible assumption) (by with_reducible assumption)|exact Ry atom act x hg hn (by omega) (by with_reducible assumption) (.inl (by with_reducible assumption))|exact Ry atom act x hg hn (by omega) (by with_reducible assumption) (.inr ⟨(by with_reducible assumption),(by with_reducible assumption)⟩)|exact a0w atom act x hg hn (by omega) (by with_reducible assumption)|(rw[a0y atom act x (by with_reducible assumption) (by omega)]<;>rfl)|(rw[a0x atom act x (by with_reducible assumption) (by omega)]<;>rfl)|exact CV.g (by with_reducible assumption)|exact CV.n (by with_reducible assumption)|(have q:=CV.n (show CV atom act x by assumption);omega)|(have g:=cD x hg (by omega);first|(have:=g.len;omega)|exact g.g0|exact g.g1|(have:=g.l0;omega)|(have:=g.l1;omega)|(have:=g.nd;omega)|(rw[nL atom act x (by omega) g (.inl (by with_reducible assumption))]<;>rfl)|(rw[nL atom act x (by omega) g (.inr (by with_reducible assumption))]<;>rfl)|(rw[FF atom act x (by omega) g (by with_reducible assumption)]<;>rfl)|(rw[FG atom act x (by omega) g (by with_reducible assumption) (by with_reducible assumption) (by with_reducible assumption)]<;>rfl)|(rw[Tv atom act x (by omega)]<;>rfl)|(rw[N8 atom act x (by omega) (by with_reducible assumption)]<;>rfl)|(rw[N7 atom act x (by omega) (by with_reducible assumption)]<;>rfl))|(have g:=jC x hg (by omega);first|(have:=g.len;omega)|exact g.g0|(have:=g.l0;omega)|(have:=g.nd;omega)|(rw[FH atom act x (by omega) g (by with_reducible assumption)]<;>rfl)|(rw[Tw atom act x (by omega)]<;>rfl))
def Ph :∀ n,bf [kx n]
 | 0=>⟨⟨aB jZ,λ _ _ _ h=>absurd h.1 (a8X _)⟩,ae⟩
 | n+1=>by
  have ih:=Ph  n;exact⟨Jv n ⟨ih.1,mi,uW,mh,rA,EW,tv,ae⟩,ae⟩
def E4 :aQ.Good zP :=
 ⟨aB jZ,λ x atom act hp=>(Ph  (bo x+1)).1.2 x atom act (⟨a8K _,hp⟩)⟩
def Oi:Nat->J->J
 | 0,x=>x
 | m+1,x=>Oi m (J.mk 8 0 [x])
def Oj:∀ (m:Nat) (x:J),Oi (m+1) x=J.mk 8 0 [Oi m x]
 | 0,x=>rfl
 | m+1,x=>Oj m (J.mk 8 0 [x])
def TJ{x y:J}(hx:¬ x.ah=8)(hy:¬ y.ah=8):∀ (m n:Nat),Oi m x=Oi n y->x=y/\m=n
 | 0,0,h=>⟨h,rfl⟩
 | 0,n+1,h=>by rw[Oj] at h;exact absurd (by rw[show x=_ from h]) hx
 | m+1,0,h=>by rw[Oj] at h;exact absurd (by rw[show y=_ from h.symm]) hy
 | m+1,n+1,h=>by
  rw[Oj,Oj] at h;simp only[J.mk.injEq,a8x,a8T,b0e] at h;obtain⟨h1,h2⟩:=TJ hx hy m n h;exact⟨h1,by rw[h2]⟩
def NS(r:List UInt8):Prop:=∀ b t,r=b::t->¬ b=42
def NS.of{b:UInt8}{t:List UInt8}(h:¬ b=42):NS (b::t):=λ c u e=>by cases e;exact h
def NS.nil:NS []:=λ _ _ e=>nomatch e
def Tp:∀ (m n:Nat) {r s:List UInt8},NS r->NS s->List.replicate m (42:UInt8)++r=List.replicate n 42++s->m=n/\r=s
 | 0,0,r,s,_,_,h=>⟨rfl,h⟩
 | 0,n+1,r,s,hr,_,h=>absurd rfl (hr 42 (List.replicate n 42++s) (by simpa [List.replicate_succ] using h))
 | m+1,0,r,s,_,hs,h=>absurd rfl (hs 42 (List.replicate m 42++r) (by simpa [List.replicate_succ] using h.symm))
 | m+1,n+1,r,s,hr,hs,h=>by
  obtain⟨h1,h2⟩:=Tp m n hr hs (by simpa [List.replicate_succ] using h);exact⟨by rw[h1],h2⟩
def gN(x:J)(h:az x=true)(h3:¬ x.ah=3)(h4:¬ x.ah=4):x.aZ=0:=by
 simp only[az] at h;rw[iV,mG] at h;simp only[Bool.and_eq_true,decide_eq_true_eq] at h;have:=h.1.1.2;rw[yW,if_neg h3,if_neg h4] at this;simpa using this
def MN(x:J)(h:az x=true)(h5:x.ah=5):¬ (x.U.getD 0 zE).ah=8:=by
 simp only[az] at h;rw[iV,mG] at h;simp only[Bool.and_eq_true,decide_eq_true_eq] at h;have:bF (x.U.getD 0 zE)=true:=by simpa [h5] using h.1.2
 rw[sb] at this;intro e;rw[e] at this;simp[AT] at this
def jD(x:J)(h:az x=true)(e:x.ah=1\/x.ah=2\/x.ah=3\/x.ah=4):x.U=[]:=by
 simp only[az] at h;rw[iV,mG] at h;simp only[a8I,a8z] at h;have h1:=h.1.1.1;apply a9s;rcases e with e|e|e|e<;>rw[e] at h1<;>simp[cr] at h1<;>omega
def YC(x:J)(h:x.U.length=1):x=J.mk x.ah x.aZ [(x.U.getD 0 zE)]:=by
 obtain⟨k,n,ks⟩:=x;match ks,h with
 | [a],_=>rfl
def VU(x:J)(h:x.U.length=2):x=J.mk x.ah x.aZ [(x.U.getD 0 zE),(x.U.getD 1 zE)]:=by
 obtain⟨k,n,ks⟩:=x;match ks,h with
 | [a,b],_=>rfl
def J9(x:J)(h:x.U=[]):x=J.mk x.ah x.aZ []:=by
 obtain⟨k,n,ks⟩:=x;cases h;rfl
def fbE(k:Int):UInt8:=if k=1 then 48 else if k=2 then 49 else if k=3 then 116 else if k=4 then 97 else if k=5 then 126 else 40
def VA(x:J)(h:az x=true)(h8:¬ x.ah=8):∃ t,bC x=fbE x.ah::t:=by
 rcases ed x h with e|e|e|e|e|e|e|e
 .exact⟨_,by rw[(dD x h).1 e,e];rfl⟩
 .exact⟨_,by rw[(dD x h).2.1 e,e];rfl⟩
 .exact⟨_,by rw[(Ws x h e).2.2.2,e];rfl⟩
 .exact⟨_,by rw[(Wt x h e).2.2.2,e];rfl⟩
 .exact⟨_,by rw[(Wu x h e).2.2,e];rfl⟩
 .exact⟨_,by rw[(P6 x h e).2.2.2,e];rfl⟩
 .exact⟨_,by rw[(P7 x h e).2.2.2,e];rfl⟩
 .exact absurd e h8
def Vz(x:J)(h:az x=true)(e:x.ah=8):az (x.U.getD 0 zE)=true/\bo (x.U.getD 0 zE)<bo x/\x=J.mk 8 0 [(x.U.getD 0 zE)]/\bC x=bC (x.U.getD 0 zE)++[42]:=by
 have b:=jC x h (.inr e);have g:=a3t x h (by omega) (by omega) (by omega) (by omega) (by omega) (by omega) (by omega);have hx:=YC x b.len;rw[gN x h (by omega) (by omega),e] at hx;exact⟨b.g0,b.l0,hx,by rw[g.2.2]⟩
def JF:∀ (N:Nat) (x:J),bo x<N->az x=true->∃ b t,bC x=b::t/\¬ b=42/\¬ b=43
 | 0,x,h,_=>by omega
 | N+1,x,hN,h=>by
  by_cases h8:x.ah=8
  .obtain⟨g,l,_,e⟩:=Vz x h h8;obtain⟨b,t,h1,h2⟩:=JF N (x.U.getD 0 zE) (by omega) g;exact⟨b,t++[42],by rw[e,h1];rfl,h2⟩
  .obtain⟨t,e⟩:=VA x h h8;refine⟨_,t,e,?_⟩;unfold fbE;repeat' split
   all_goals decide
def Yv:∀ a b:Fin 10,iL (a.val:Int)=iL (b.val:Int)->a=b:=by decide +kernel
def VO{a b:Int}(ha:0<=a/\a<=9)(hb:0<=b/\b<=9)(h:iL a=iL b):a=b:=by
 have:=Yv ⟨a.toNat,by omega⟩ ⟨b.toNat,by omega⟩ (by rw[show ((a.toNat:Nat):Int)=a by omega,show ((b.toNat:Nat):Int)=b by omega];exact h);simp only[Fin.mk.injEq] at this;omega
def px:∀ (N:Nat) (x y:J),bo x+bo y<N->az x=true->az y=true->∀ (m n:Nat) (r s:List UInt8),NS r->NS s ->
  bC x++(List.replicate m (42:UInt8)++r)=bC y++(List.replicate n 42++s)->Oi m x=Oi n y/\r=s
 | 0,x,y,h,_,_=>by omega
 | N+1,x,y,hN,hx,hy=>by
  intro m n r s hr hs h;by_cases h8:x.ah=8
  .obtain⟨g,l,e1,e2⟩:=Vz x hx h8;have ih:=px N (x.U.getD 0 zE) y (by omega) g hy (m+1) n r s hr hs (by rw[<-h,e2];simp[b1z]);refine⟨?_,ih.2⟩;rw[<-ih.1];show Oi m x=Oi m (J.mk 8 0 [(x.U.getD 0 zE)]);rw[<-e1]
  by_cases QE:y.ah=8
  .obtain⟨g,l,e1,e2⟩:=Vz y hy QE;have ih:=px N x (y.U.getD 0 zE) (by omega) hx g m (n+1) r s hr hs (by rw[h,e2];simp[b1z]);refine⟨?_,ih.2⟩;rw[ih.1];show Oi n (J.mk 8 0 [y.U.getD 0 zE])=Oi n y;rw[<-e1]
  suffices q:x=y/\List.replicate m (42:UInt8)++r=List.replicate n 42++s by
   obtain⟨q1,q2⟩:=q;obtain⟨q3,q4⟩:=Tp m n hr hs q2;exact⟨by rw[q1,q3],q4⟩
  obtain⟨t1,e1⟩:=VA x hx h8;obtain⟨t2,e2⟩:=VA y hy QE;have hb:fbE x.ah=fbE y.ah:=by
   have:=h;rw[e1,e2] at this;simp only[a9i,a8x] at this;exact this.1
  clear e1 e2 t1 t2;have n32:∀ t:List UInt8,NS (32::t):=λ t=>NS.of (by decide);have n41:∀ t:List UInt8,NS (41::t):=λ t=>NS.of (by decide);rcases ed x hx with e|e|e|e|e|e|e|e
  .rcases ed y hy with f|f|f|f|f|f|f|f
   .rw[(dD x hx).1 e,(dD y hy).1 f] at h;refine⟨?_,by simpa using h⟩;rw[J9 x (jD x hx (by omega)),J9 y (jD y hy (by omega)),gN x hx (by omega) (by omega),gN y hy (by omega) (by omega),e,f]
   all_goals first|exact absurd f QE|(rw[e,f] at hb;exact absurd hb (by decide))
  .rcases ed y hy with f|f|f|f|f|f|f|f
   .rw[e,f] at hb;exact absurd hb (by decide)
   .rw[(dD x hx).2.1 e,(dD y hy).2.1 f] at h;refine⟨?_,by simpa using h⟩;rw[J9 x (jD x hx (by omega)),J9 y (jD y hy (by omega)),gN x hx (by omega) (by omega),gN y hy (by omega) (by omega),e,f]
   all_goals first|exact absurd f QE|(rw[e,f] at hb;exact absurd hb (by decide))
  .rcases ed y hy with f|f|f|f|f|f|f|f
   .rw[e,f] at hb;exact absurd hb (by decide)
   .rw[e,f] at hb;exact absurd hb (by decide)
   .obtain⟨a1,a2,a3,a4⟩:=Ws x hx e;obtain⟨b1,b2,b3,b4⟩:=Ws y hy f;rw[a4,b4] at h;simp only[a9i,a9e,a8x,b0e] at h;obtain⟨d1,d2⟩:=List.append_inj h (by rw[a3,b3]);refine⟨?_,d2⟩;rw[J9 x (jD x hx (by omega)),J9 y (jD y hy (by omega)),VO ⟨a1,a2⟩ ⟨b1,b2⟩ d1,e,f]
   all_goals first|exact absurd f QE|(rw[e,f] at hb;exact absurd hb (by decide))
  .rcases ed y hy with f|f|f|f|f|f|f|f
   .rw[e,f] at hb;exact absurd hb (by decide)
   .rw[e,f] at hb;exact absurd hb (by decide)
   .rw[e,f] at hb;exact absurd hb (by decide)
   .obtain⟨a1,a2,a3,a4⟩:=Wt x hx e;obtain⟨b1,b2,b3,b4⟩:=Wt y hy f;rw[a4,b4] at h;simp only[a9i,a9e,a8x,b0e] at h;obtain⟨d1,d2⟩:=List.append_inj h (by rw[a3,b3]);refine⟨?_,d2⟩;rw[J9 x (jD x hx (by omega)),J9 y (jD y hy (by omega)),VO ⟨a1,a2⟩ ⟨b1,b2⟩ d1,e,f]
   all_goals first|exact absurd f QE|(rw[e,f] at hb;exact absurd hb (by decide))
  .have f:y.ah=5:=by
    rcases ed y hy with f|f|f|f|f|f|f|f;all_goals first|exact f|exact absurd f QE|(rw[e,f] at hb;exact absurd hb (by decide))
   have bx:=jC x hx (.inl e);have An:=jC y hy (.inl f);rw[(Wu x hx e).2.2,(Wu y hy f).2.2] at h;simp only[a9i,a9e,a8x,b0e] at h;obtain⟨i1,i2⟩:=px N (x.U.getD 0 zE) (y.U.getD 0 zE) (by have:=bx.l0;have:=An.l0;omega) bx.g0 An.g0 m n r s hr hs h;obtain⟨j1,j2⟩:=TJ (MN x hx e) (MN y hy f) m n i1;refine⟨?_,by rw[j2,i2]⟩;rw[YC x bx.len,YC y An.len,gN x hx (by omega) (by omega),gN y hy (by omega) (by omega),e,f,j1]
  .have f:y.ah=6\/y.ah=7:=by
    rcases ed y hy with f|f|f|f|f|f|f|f;all_goals first|exact .inl f|exact .inr f|exact absurd f QE|(rw[e,f] at hb;exact absurd hb (by decide))
   have bx:=cD x hx (.inl e);have An:=cD y hy f;have Zb:bo (x.U.getD 0 zE)+bo (y.U.getD 0 zE)<N:=by have:=bx.l0;have:=An.l0;omega
   have QQ:bo (x.U.getD 1 zE)+bo (y.U.getD 1 zE)<N:=by have:=bx.l1;have:=An.l1;omega
   rcases f with f|f
   .rw[(P6 x hx e).2.2.2,(P6 y hy f).2.2.2] at h;simp only[a9i,a9e,a8x,b0e,a8Y] at h;obtain⟨i1,i2⟩:=px N _ _ Zb bx.g0 An.g0 0 0 _ _ (n32 _) (n32 _) h;simp only[a8x,b0e] at i2;obtain⟨j1,j2⟩:=px N _ _ QQ bx.g1 An.g1 0 0 _ _ (n41 _) (n41 _) i2;simp only[a8x,b0e] at j2;refine⟨?_,j2⟩;rw[VU x bx.len,VU y An.len,gN x hx (by omega) (by omega),gN y hy (by omega) (by omega),e,f];rw[show (x.U.getD 0 zE)=_ from i1,show (x.U.getD 1 zE)=_ from j1];rfl
   .rw[(P6 x hx e).2.2.2,(P7 y hy f).2.2.2] at h;simp only[a9i,a9e,a8x,b0e,a8Y] at h;obtain⟨i1,i2⟩:=px N _ _ Zb bx.g0 An.g0 0 0 _ _ (n32 _) (n32 _) h;obtain⟨b,t,q1,q2,q3⟩:=JF _ _ (a8K _) An.g1;rw[q1] at i2;simp only[a9i,a8x,b0e] at i2;exact absurd i2.1.symm q3
  .have f:y.ah=6\/y.ah=7:=by
    rcases ed y hy with f|f|f|f|f|f|f|f;all_goals first|exact .inl f|exact .inr f|exact absurd f QE|(rw[e,f] at hb;exact absurd hb (by decide))
   have bx:=cD x hx (.inr e);have An:=cD y hy f;have Zb:bo (x.U.getD 0 zE)+bo (y.U.getD 0 zE)<N:=by have:=bx.l0;have:=An.l0;omega
   have QQ:bo (x.U.getD 1 zE)+bo (y.U.getD 1 zE)<N:=by have:=bx.l1;have:=An.l1;omega
   rcases f with f|f
   .rw[(P7 x hx e).2.2.2,(P6 y hy f).2.2.2] at h;simp only[a9i,a9e,a8x,b0e,a8Y] at h;obtain⟨i1,i2⟩:=px N _ _ Zb bx.g0 An.g0 0 0 _ _ (n32 _) (n32 _) h;obtain⟨b,t,q1,q2,q3⟩:=JF _ _ (a8K _) bx.g1;rw[q1] at i2;simp only[a9i,a8x,b0e] at i2;exact absurd i2.1 q3
   .rw[(P7 x hx e).2.2.2,(P7 y hy f).2.2.2] at h;simp only[a9i,a9e,a8x,b0e,a8Y] at h;obtain⟨i1,i2⟩:=px N _ _ Zb bx.g0 An.g0 0 0 _ _ (n32 _) (n32 _) h;simp only[a8x,b0e] at i2;obtain⟨j1,j2⟩:=px N _ _ QQ bx.g1 An.g1 0 0 _ _ (n41 _) (n41 _) i2;simp only[a8x,b0e] at j2;refine⟨?_,j2⟩;rw[VU x bx.len,VU y An.len,gN x hx (by omega) (by omega),gN y hy (by omega) (by omega),e,f];rw[show (x.U.getD 0 zE)=_ from i1,show (x.U.getD 1 zE)=_ from j1];rfl
  .exact absurd e h8
def Oy{x y:J}(hx:az x=true)(hy:az y=true)(h:bC x=bC y):x=y :=
 (px _ x y (Nat.lt_succ_self _) hx hy 0 0 [] [] NS.nil NS.nil (by simpa using h)).1
def Sj(x:J)(fs:List (List J->List J))(out:List J):List J :=
 if x.ah=1 then out else if x.ah=6 then fs.getD 1 id (fs.getD 0 id out) else out++[x]
def xp(x:J)(out:List J):List J:=yC Sj x out
def Uq(x:J)(out:List J):xp x out=Sj x (jj Sj x.U) out:=congrFun (j9 _ x) out
def YF(x:J)(out:List J)(h:x.ah=1):xp x out=out:=by rw[Uq];simp[Sj,h]
def YG(x:J)(out:List J)(h:x.ah=6)(b:B2 x):xp x out=xp (x.U.getD 1 zE) (xp (x.U.getD 0 zE) out):=by
 rw[Uq];simp only[Sj,h];rw[eI Sj id zE x.U 0 (by have:=b.len;omega),eI Sj id zE x.U 1 (by have:=b.len;omega)];rfl
def YH(x:J)(out:List J)(h1:¬ x.ah=1)(h6:¬ x.ah=6):xp x out=out++[x]:=by
 rw[Uq,Sj,a8v h1,a8v h6]
def MG:∀ (N:Nat) (x:J),bo x<N->az x=true->∀ out,jB out->jB (xp x out)/\ez (xp x out)<=ez out+aj x+1
 | 0,x,h,_=>by omega
 | N+1,x,hN,h=>by
  intro out ho;by_cases h1:x.ah=1
  .rw[YF x out h1];exact⟨ho,by omega⟩
  by_cases h6:x.ah=6
  .have b:=cD x h (.inl h6);rw[YG x out h6 b];obtain⟨a1,a2⟩:=MG N (x.U.getD 0 zE) (by have:=b.l0;omega) b.g0 out ho;obtain⟨c1,c2⟩:=MG N (x.U.getD 1 zE) (by have:=b.l1;omega) b.g1 _ a1;exact⟨c1,by have:=b.nd;omega⟩
  rw[YH x out h1 h6];refine⟨λ y hy=>?_,?_⟩
  .rcases a8t.1 hy with q|q
   .exact ho y q
   .rw[a8L] at q;rw[q];exact h
  .simp only[ez,x9,cm,a8E,a8F,a8R];omega
noncomputable def Gs(out:List J)(x:J):List J:=if out.any (λ y=>eg y x)=true then out else out++[x]
def Rv:∀ (N:Nat) (x:J),bo x<N->az x=true->∀ ys out,dC x (ys.foldl Gs out)=(xp x ys).foldl Gs out
 | 0,x,h,_=>by omega
 | N+1,x,hN,h=>by
  intro ys out;by_cases h1:x.ah=1
  .rw[a0q x _ h1,YF x _ h1]
  by_cases h6:x.ah=6
  .have b:=cD x h (.inl h6);rw[a0r x _ h6 b,YG x _ h6 b,Rv N (x.U.getD 0 zE) (by have:=b.l0;omega) b.g0,Rv N (x.U.getD 1 zE) (by have:=b.l1;omega) b.g1]
  rw[YH x _ h1 h6,b0T];show _=Gs _ x;rcases a9E ((ys.foldl Gs out).any (λ y=>eg y x)) with e|e
  .rw[a0t x _ h1 h6 e,Gs,a8A e]
  .rw[a0s x _ h1 h6 e,Gs,a8v (by rw[e];decide)]
noncomputable def uu(L:List J)(k:Nat):List J:=(L.take k).foldl Gs []
def Mu(L:List J)(k:Nat)(x:J)(h:L[k]?=some x):uu L (k+1)=Gs (uu L k) x:=by
 rw[uu,b0U,h];simp only[Option.toList_some,b0T,b0x,b1E];rfl
def a1r(x y:J)(hx:az x=true)(hy:az y=true)(k:Nat)(h:(xp y (xp x [])).length<=k):uu (xp y (xp x [])) k=dC y (dC x []):=by
 rw[uu,a9f h,<-Rv _ y (a8K _) hy,<-Rv _ x (a8K _) hx];rfl
def a1q(out:List J)(x:J)(hx:az x=true)(ho:jB out):out.any (λ y=>eg y x)=true↔∃ z∈out,bC z=bC x:=by
 rw[b1Y];constructor
 .rintro⟨z,h1,h2⟩;exact⟨z,h1,by rw[My.1 h2]⟩
 .rintro⟨z,h1,h2⟩;exact⟨z,h1,My.2 (Oy (ho z h1) hx h2)⟩
def A1(L:List J)(h:jB L):∀ k,jB (uu L k)
 | 0=>λ y hy=>by simp[uu] at hy
 | k+1=>by
  cases hk:L[k]? with
  | none =>
   have e:uu L (k+1)=uu L k:=by rw[uu,uu,b0U,hk];simp
   rw[e];exact A1 L h k
  | some x =>
   rw[Mu L k x hk,Gs];split
   .exact A1 L h k
   .intro y hy;rcases a8t.1 hy with q|q
    .exact A1 L h k y q
    .rw[a8L] at q;rw[q];exact h x (a9h hk)
def Qt(L:List J):∀ k,(uu L k).length<=k
 | 0=>by simp[uu]
 | k+1=>by
  have ih:=Qt L k;cases hk:L[k]? with
  | none =>
   have e:uu L (k+1)=uu L k:=by rw[uu,uu,b0U,hk];simp
   rw[e];omega
  | some x =>
   rw[Mu L k x hk,Gs];split
   .omega
   .simp;omega
def Ek:∀ x:List UInt8,Op.bytesLess x x=false
 | []=>rfl
 | a::x=>by simp[Op.bytesLess,Ek x]
def Qj:∀ x y:List UInt8,Op.bytesLess x y=false->Op.bytesLess y x=false->x=y
 | [],[],_,_=>rfl
 | [],_::_,h,_=>by simp[Op.bytesLess] at h
 | _::_,[],_,h=>by simp[Op.bytesLess] at h
 | a::x,b::y,h,k=>by
  simp only[Op.bytesLess,b2t,Bool.and_eq_false_iff,a8y,a9G] at h k;have e:a=b:=UInt8.le_antisymm (b2b.1 k.1) (b2b.1 h.1);subst e;rw[Qj x y (h.2.resolve_left λ q=>q rfl) (k.2.resolve_left λ q=>q rfl)]
def Cp:∀ x y z:List UInt8,Op.bytesLess x y=true->Op.bytesLess y z=true->Op.bytesLess x z=true
 | _,[],_,h,_=>by cases (by simpa [Op.bytesLess] using h:False)
 | _,_::_,[],_,h=>by cases (by simpa [Op.bytesLess] using h:False)
 | [],_::_,_::_,_,_=>rfl
 | a::x,b::y,c::z,h,k=>by
  simp only[Op.bytesLess,a9O,a8I,a8z,b0r] at h k ⊢;rcases h with h|⟨rfl,h⟩
  .rcases k with k|⟨rfl,k⟩
   .exact .inl (UInt8.lt_trans h k)
   .exact .inl h
  .rcases k with k|⟨rfl,k⟩
   .exact .inl k
   .exact .inr ⟨rfl,Cp x y z h k⟩
def Mi(x y z:List UInt8)(h:Op.bytesLess x y=false)(k:Op.bytesLess y z=false):Op.bytesLess x z=false:=by
 cases hxz:Op.bytesLess x z with
 | false=>rfl
 | true =>
  cases hzy:Op.bytesLess z y with
  | true=>rw[Cp x z y hxz hzy] at h;cases h
  | false =>
   have e:=Qj y z k hzy;subst e;rw[h] at hxz;cases hxz
def D4(xs:List J):Prop:=xs.Pairwise λ a b=>OX b a=false
def IT(x:J):∀ ys,(fj x ys).Perm (x::ys)
 | [] => .refl _
 | y::ys=>by
  rw[fj];split
  .exact ((IT x ys).cons y).trans (.swap x y ys)
  .exact .refl _
def SR(x:J):∀ ys,D4 ys->D4 (fj x ys)
 | [],_=>by simp[fj,D4]
 | y::ys,h=>by
  have ⟨h1,h2⟩:=a9V.1 h;rw[fj];split
  .rename_i hl;refine a9V.2 ⟨λ z hz=>?_,SR x ys h2⟩;rcases a8G.1 ((IT x ys).mem_iff.1 hz) with rfl|q
   .cases hzy:OX z y with
    | false=>rfl
    | true=>have:=Cp _ _ _ hl hzy;rw[Ek] at this;cases this
   .exact h1 z q
  .rename_i hl;have hl:OX y x=false:=by simpa using hl
   refine a9V.2 ⟨λ z hz=>?_,h⟩;rcases a8G.1 hz with rfl|q
   .exact hl
   .exact Mi _ _ _ (h1 z q) hl
def Wo:∀ (xs acc:List J),D4 acc->D4 (xs.foldl (λ out x=>fj x out) acc)/\(xs.foldl (λ out x=>fj x out) acc).Perm (xs++acc)
 | [],acc,h=>⟨h, .refl _⟩
 | x::xs,acc,h=>by
  obtain⟨h1,h2⟩:=Wo xs (fj x acc) (SR x acc h);refine⟨h1,h2.trans ?_⟩;exact ((IT x acc).append_left xs).trans b1Z
def PT:∀ xs ys:List J,xs.Perm ys->D4 xs->D4 ys->jB xs->xs=ys
 | [],ys,h,_,_,_=>(List.nil_perm.1 h).symm
 | x::xs,[],h,_,_,_=>absurd h.length_eq (by simp)
 | x::xs,y::ys,h,hx,hy,hg=>by
  obtain⟨x1,x2⟩:=a9V.1 hx;obtain⟨y1,y2⟩:=a9V.1 hy;have e:x=y:=by
   rcases a8G.1 (h.mem_iff.1 (b0u)) with q|q
   .exact q
   rcases a8G.1 (h.mem_iff.2 (b0u)) with p|p
   .exact p.symm
   .exact Oy (hg x (by simp)) (hg y (by simp[p])) (Qj _ _ (y1 x q) (x1 y p))
  subst e;rw[PT xs ys h.cons_inv x2 y2 λ z hz=>hg z (by simp[hz])]
def a0D(xs zs:List J)(hg:jB xs)(hp:zs.Perm xs)(ho:D4 zs):zs=y9 xs:=by
 obtain⟨h1,h2⟩:=Wo xs [] (by simp[D4]);rw[a9B] at h2;exact PT zs _ (hp.trans h2.symm) ho h1 λ z hz=>hg z (hp.mem_iff.1 hz)
def kd:aQ:=⟨Hz,[.v (.int .i64), .v (.int .i64)],λ (k:Int) (m:Int)=>⟨(none,[⟨(.st .expr),J.mk k m []⟩])⟩⟩
def Q4(k:Int)(m:Int):Nat->aG:=cf
def lL:aQ.Good kd:=by
 refine⟨aB DE,?_⟩;intro (k:Int) (m:Int) _;refine aP [] [] [] [] trivial DE KD (Q4 k m) ((J.mk k m [])=(J.mk k m [])) ?_;refine rfl;all_goals try and_intros
 all_goals first|rfl|trivial|omega|(simp only[a8z,a8y,av,ai,cH,iy,cB,aX] at *;omega)|(simp[av,ai] at *;omega)|grind
def ke:aQ:=⟨HA,[.v (.int .i64), .v (.slice (.st .expr))],λ (k:Int) (ks:List J)=>⟨(none,[⟨(.st .expr),J.mk k 0 ks⟩])⟩⟩
def Q6(k:Int)(ks:List J):Nat->aG:=cf
def lM:aQ.Good ke:=by
 refine⟨aB DF,?_⟩;intro (k:Int) (ks:List J) _;refine aP [] [] [] [] trivial DF KF (Q6 k ks) ((J.mk k (0:Int) ks)=(J.mk k 0 ks)) ?_;refine ?_;all_goals try and_intros
 all_goals first|rfl|trivial|omega|(simp only[a8z,a8y,av,ai,cH,iy,cB,aX] at *;omega)|(simp[av,ai] at *;omega)|grind
end
end Go.Proofs.YtncejbehidimmaaGreatDoor

namespace Go.Proofs
open Go.Shelf
def Tryz.Q7:Go.Shelf.Ren:=⟨λ|106=>93|213=>108|265=>125|n=>n,λ|9=>9|3=>3|n=>n,λ|n=>n⟩
def Tryz.ZG:Go.Proofs.Lays.n106 Tryz.prog Tryz.Q7:={
 mixed:=by kernel_rfl
 f106:=Tryz.func93.trans (congrArg some (by kernel_rfl))
 f213:=Tryz.func108.trans (congrArg some (by kernel_rfl))
 f265:=Tryz.func125.trans (congrArg some (by kernel_rfl))
 t3:=Tryz.underlying3
 a3:=Tryz.isAgg3
 z3:=Tryz.sizeOf3
 v3:=Tryz.zeroValue3
 t9:=Tryz.underlying9
 a9:=Tryz.isAgg9
 z9:=Tryz.sizeOf9
 v9:=Tryz.zeroValue9 }
open Go.RowKit in
def Tryz.strings_Compare(a b:ByteArray)(w:World) :
  Calls Tryz.prog 93 #[.string a, .string b] w λ e w'=>e = .returned (.int .i64 (Lib.compareBytes a.data.toList b.data.toList))/\w'=w:=Any.strings_Compare Tryz.ZG a b w
def Tryz.TB:Go.Shelf.Ren:=⟨λ|6=>91|15=>107|14=>106|28=>123|29=>124|20=>115|21=>116|22=>117|23=>118|24=>119|25=>120|26=>121|27=>122|46=>131|47=>132|48=>133|49=>134|50=>135|57=>140|n=>n,λ|22=>133|24=>138|25=>141|3=>3|39=>132|0=>0|53=>170|55=>172|4=>4|46=>163|45=>162|50=>167|5=>5|9=>9|66=>178|70=>182|76=>189|77=>190|n=>n,λ|n=>n⟩
def Tryz.a2a:Go.Proofs.SlLaysF0.n6 Tryz.prog Tryz.TB:={
 mixed:=by kernel_rfl
 f6:=⟨Tryz.f91.name,by decide,Tryz.func91.trans (congrArg some (by kernel_rfl))⟩
 f14:=⟨Tryz.f106.name,by decide,Tryz.func106.trans (congrArg some (by kernel_rfl))⟩
 f15:=Tryz.func107.trans (congrArg some (by kernel_rfl))
 f20:=⟨Tryz.f115.name,by decide,Tryz.func115.trans (congrArg some (by kernel_rfl))⟩
 f21:=⟨Tryz.f116.name,by decide,Tryz.func116.trans (congrArg some (by kernel_rfl))⟩
 f22:=⟨Tryz.f117.name,by decide,Tryz.func117.trans (congrArg some (by kernel_rfl))⟩
 f23:=⟨Tryz.f118.name,by decide,Tryz.func118.trans (congrArg some (by kernel_rfl))⟩
 f24:=⟨Tryz.f119.name,by decide,Tryz.func119.trans (congrArg some (by kernel_rfl))⟩
 f25:=⟨Tryz.f120.name,by decide,Tryz.func120.trans (congrArg some (by kernel_rfl))⟩
 f26:=⟨Tryz.f121.name,by decide,Tryz.func121.trans (congrArg some (by kernel_rfl))⟩
 f27:=⟨Tryz.f122.name,by decide,Tryz.func122.trans (congrArg some (by kernel_rfl))⟩
 f28:=Tryz.func123.trans (congrArg some (by kernel_rfl))
 f29:=Tryz.func124.trans (congrArg some (by kernel_rfl))
 f46:=⟨Tryz.f131.name,by decide,Tryz.func131.trans (congrArg some (by kernel_rfl))⟩
 f47:=Tryz.func132.trans (congrArg some (by kernel_rfl))
 f48:=Tryz.func133.trans (congrArg some (by kernel_rfl))
 f49:=⟨Tryz.f134.name,by decide,Tryz.func134.trans (congrArg some (by kernel_rfl))⟩
 f50:=⟨Tryz.f135.name,by decide,Tryz.func135.trans (congrArg some (by kernel_rfl))⟩
 f57:=⟨Tryz.f140.name,by decide,Tryz.func140.trans (congrArg some (by kernel_rfl))⟩
 t0:=Tryz.underlying0
 a0:=Tryz.isAgg0
 z0:=Tryz.sizeOf0
 v0:=Tryz.zeroValue0
 t3:=Tryz.underlying3
 a3:=Tryz.isAgg3
 z3:=Tryz.sizeOf3
 v3:=Tryz.zeroValue3
 t4:=Tryz.underlying4
 a4:=Tryz.isAgg4
 z4:=Tryz.sizeOf4
 v4:=Tryz.zeroValue4
 t5:=Tryz.underlying5
 a5:=Tryz.isAgg5
 z5:=Tryz.sizeOf5
 v5:=Tryz.zeroValue5
 t9:=Tryz.underlying9
 a9:=Tryz.isAgg9
 z9:=Tryz.sizeOf9
 v9:=Tryz.zeroValue9
 t22:=Tryz.underlying133
 a22:=Tryz.isAgg133
 z22:=Tryz.sizeOf133
 v22:=Tryz.zeroValue133
 t25:=Tryz.underlying141
 a25:=Tryz.isAgg141
 z25:=Tryz.sizeOf141
 v25:=Tryz.zeroValue141
 t39:=Tryz.underlying132
 a39:=Tryz.isAgg132
 z39:=Tryz.sizeOf132
 v39:=Tryz.zeroValue132
 t45:=Tryz.underlying162
 a45:=Tryz.isAgg162
 z45:=Tryz.sizeOf162
 v45:=Tryz.zeroValue162
 t46:=Tryz.underlying163
 a46:=Tryz.isAgg163
 z46:=Tryz.sizeOf163
 v46:=Tryz.zeroValue163
 t50:=Tryz.underlying167
 a50:=Tryz.isAgg167
 z50:=Tryz.sizeOf167
 v50:=Tryz.zeroValue167
 t53:=Tryz.underlying170
 a53:=Tryz.isAgg170
 z53:=Tryz.sizeOf170
 v53:=Tryz.zeroValue170
 t55:=Tryz.underlying172
 a55:=Tryz.isAgg172
 z55:=Tryz.sizeOf172
 v55:=Tryz.zeroValue172
 t66:=Tryz.underlying178
 a66:=Tryz.isAgg178
 z66:=Tryz.sizeOf178
 v66:=Tryz.zeroValue178
 t70:=Tryz.underlying182
 a70:=Tryz.isAgg182
 z70:=Tryz.sizeOf182
 v70:=Tryz.zeroValue182
 t76:=Tryz.underlying189
 a76:=Tryz.isAgg189
 z76:=Tryz.sizeOf189
 v76:=Tryz.zeroValue189
 t77:=Tryz.underlying190
 a77:=Tryz.isAgg190
 z77:=Tryz.sizeOf190
 v77:=Tryz.zeroValue190 }
end Go.Proofs

namespace Go.Proofs.YtncejbehidimmaaGreatDoor
noncomputable section
open Go.RowKit Go.Proofs
def wj{P:Program}{w:World}{ops:Array Oper}{rest:List Oper}{o:Oper}{a:Act}{Q:Exit->Act->World->Prop}(hgd:o.guard=none)(s x:Operand)(t:TypeId)
  (ho:o.op = .call { callee := .builtin .append,args := #[s,x],argTypes := #[t,t] })
  (base:Nat) (e:TypeId) (i:TypeInfo) (z:Value) (size bytes:Nat) (ht:P.underlying t=some (.slice e)) (hi:P.info? e=some i) (hz:i.zero=some z)
  (wJ:i.size=size) (YX:i.bytes=bytes) (IS:z.cells.size=size) (bW:0<size)
  (v:Value) (n:Nat) (xs:List Value) (hs:a.eval s=v) (dk:w.ownsRow base e size v n xs)
  (ad:Addr) (m c:Nat) (news:List Value) (hx:a.eval x = .slice (some ad) m c) (hl:news.length=m * size) (yJ:∀ j u,news[j]?=some u->w.cell? (ad.add j)=some u) (h1:∀ u∈news,u.oneCell'=true)
  (h63:n+m<=maxLen) (QL:(n+m) * bytes<=140737488355328) (IK:base<=w.heap.size)
  (h:∀ v' w',w'.ownsRow base e size v' (n+m) (xs++news)->w.grownBy w' v.ownBlock->(v'.ownBlock=v.ownBlock\/v'.ownBlock=some w.heap.size)->(v' = .slice none 0 0↔v = .slice none 0 0/\m=0)->wpList P ops Q rest (a.put o.dst v') w'):wpList P ops Q (o::rest) a w :=
 wpList_plain hgd λ K hK=>by
  obtain⟨v',w',hr,h2,h3,h4,h5⟩:=run_append_own_at (P:=P) w base t o.type e i z size bytes ht hi hz wJ YX IS bW v n xs dk ad m c news hl yJ h1 h63 QL IK;unfold Oper.wp execOp;simp only[ho,resolve,invoke,builtin,Sem.run_bind,Sem.run_pure,Result.andThen_ok,List.map_toArray,List.map_cons,List.map_nil,hs,hx,hr];exact hK _ _ (h v' w' h2 h3 h5 h4)
structure FQ(w0:World)(S:Nat->Prop)(B:Nat)(w:World)(v:Value)(ys:List J)(L:List Value):Prop where
 cK:Below w0.heap.size w0 w
 b0:w0.heap.size<=B
 bw:B<=w.heap.size
 own:w.ownsRow B 36 3 v ys.length L
 rd:cP w0 S (ys.map J.aD) L
structure wo(v v':Value)(w w':World):Prop where
 g:w.grownBy w' v.ownBlock
 own:∀ k,v'.ownBlock=some k->v.ownBlock=some k\/w.heap.size<=k
def wo.trans{v v' v'':Value}{w w' O8:World}(h:wo v v' w w')(k:wo v' v'' w' O8):wo v v'' w O8:=by
 refine⟨⟨k.g.os.trans h.g.os,k.g.tape.trans h.g.tape,k.g.output.trans h.g.output,a9v h.g.size k.g.size,λ q h1 h2=>?_⟩,λ q hq=>?_⟩
 .rw[k.g.block q (a8B h1 h.g.size) λ e=>?_,h.g.block q h1 h2];rcases h.own q e.symm with r|r
  .exact h2 r.symm
  .omega
 .rcases k.own q hq with r|r
  .exact h.own q r
  .exact .inr (a9v h.g.size r)
def wo.alloc{v:Value}(w:World)(o:Obj):wo v v w (w.alloc o):=⟨⟨rfl,rfl,rfl,by simp,λ k h _=>a9D w o k h⟩,λ k h => .inl h⟩
def FQ.alloc{w0:World}{S:Nat->Prop}{B:Nat}{w:World}{v:Value}{ys:List J}{L:List Value}(h:FQ w0 S B w v ys L)(o:Obj):FQ w0 S B (w.alloc o) v ys L :=
 ⟨h.cK.alloc h.cK.size o,h.b0,by have:=h.bw;simp;omega,h.own.alloc o,h.rd⟩
def FQ.drew{w0:World}{S:Nat->Prop}{B:Nat}{w:World}{v:Value}{ys:List J}{L:List Value}(h:FQ w0 S B w v ys L):FQ w0 S B w.drew v ys L :=
 ⟨h.cK.drew,h.b0,h.bw,h.own.drew,h.rd⟩
def wo.drew{v v':Value}{w w':World}(h:wo v v' w w'):wo v v' w w'.drew:=⟨⟨h.g.os,h.g.tape,h.g.output,h.g.size,h.g.block⟩,h.own⟩
abbrev Ww(w0:World)(S:Nat->Prop)(B:Nat)(x:J)(cs:List Value)(v:Value)(ys:List J)(w:World):Prop :=
 Calls prog 89 #[v, .agg cs.toArray] w λ e w'=>∃ v' L',e = .returned v'/\FQ w0 S B w' v' (xp x ys) L'/\wo v v' w w'
def HI{w:World}{B e sz n:Nat}{v:Value}{L:List Value}(h:w.ownsRow B e sz v n L):∀ k,v.ownBlock=some k->B<=k/\k<w.heap.size:=λ k hk=>h.lt k hk
def wo.below{v v':Value}{w0 w w':World}{B e sz n:Nat}{L:List Value}(h:wo v v' w w')(hb:Below w0.heap.size w0 w)(h0:w0.heap.size<=B)(ho:w.ownsRow B e sz v n L):Below w0.heap.size w0 w' :=
 hb.trans ⟨h.g.os,h.g.tape,h.g.output,h.g.size,λ k hk=>h.g.block k (a8B hk hb.size) λ q=>by
  have:=(HI ho k q.symm).1;omega⟩
set_option maxRecDepth 100000 in
def a5X(w0:World)(S:Nat->Prop)(B:Nat)(x:J)(h1:x.ah=1)(n:Int)(sl v:Value)(ys:List J)(L:List Value)(w:World)(hl:FQ w0 S B w v ys L):Ww w0 S B x [.int .i64 1, .int .i64 n,sl] v ys w:=by
 go_enter Tryz.func89,Tryz.ntmps89;go_wp2;go_ret;rw[YF x ys h1];exact⟨v,L,rfl,hl.alloc _,wo.alloc _ _⟩
set_option maxRecDepth 100000 in
def a5Y(w0:World)(S:Nat->Prop)(B:Nat)(x:J)(h6:x.ah=6)(b2:B2 x)(n:Int)(kb ko cap:Nat)(c0 c1 c2 d0 d1 d2:Value)(v:Value)(ys:List J)(L:List Value)(w:World)(hl:FQ w0 S B w v ys L)(hkb:kb<w0.heap.size)
  (pK:bh w0 kb ko [c0,c1,c2]) (rR:bh w0 kb (ko+3) [d0,d1,d2])
  (i0:∀ w',FQ w0 S B w' v ys L->Ww w0 S B (x.U.getD 0 zE) [c0,c1,c2] v ys w')
  (i1:∀ w' v' L',FQ w0 S B w' v' (xp (x.U.getD 0 zE) ys) L'->Ww w0 S B (x.U.getD 1 zE) [d0,d1,d2] v' (xp (x.U.getD 0 zE) ys) w') :
  Ww w0 S B x [.int .i64 6, .int .i64 n, .slice (some ⟨kb,ko,none⟩) 2 cap] v ys w:=by
 have l0:=hl.alloc (.cells #[.int .i64 6, .int .i64 n, .slice (some ⟨kb,ko,none⟩) 2 cap] 36);have f0:wo v v w (w.alloc (.cells #[.int .i64 6, .int .i64 n, .slice (some ⟨kb,ko,none⟩) 2 cap] 36)):=wo.alloc _ _;have e0:=a9N w (.cells #[.int .i64 6, .int .i64 n, .slice (some ⟨kb,ko,none⟩) 2 cap] 36);have vb:v.ownBlock≠some w.heap.size:=λ e=>by have:=(HI hl.own _ e).2;omega
 go_enter Tryz.func89,Tryz.ntmps89;go_upto_region 1 with fail;generalize hb:w.heap.size=bx at *
 generalize w.alloc (.cells #[.int .i64 6, .int .i64 n, .slice (some ⟨kb,ko,none⟩) 2 cap] 36)=w1 at *
 have cl:=λ (W:World) (h:Below w0.heap.size w0 W)=>(⟨pK.aE (h.block kb hkb),rR.aE (h.block kb hkb)⟩:bh W kb ko [c0,c1,c2]/\bh W kb (ko+3) [d0,d1,d2]);have q0:w1.cell? ⟨kb,ko,none⟩=some c0:=(cl w1 l0.cK).1 0 _ rfl;have q1:w1.cell? ⟨kb,ko+1,none⟩=some c1:=(cl w1 l0.cK).1 1 _ rfl;have q2:w1.cell? ⟨kb,ko+2,none⟩=some c2:=(cl w1 l0.cK).1 2 _ rfl;have r0:w1.cell? ⟨kb,ko+3,none⟩=some d0:=(cl w1 l0.cK).2 0 _ rfl;have r1:w1.cell? ⟨kb,ko+4,none⟩=some d1:=(cl w1 l0.cK).2 1 _ rfl;have r2:w1.cell? ⟨kb,ko+5,none⟩=some d2:=(cl w1 l0.cK).2 2 _ rfl;obtain⟨⟨k0,k1,k2⟩,g0,g1,g2⟩:=pW e0;have QK:=bn e0;have vb':some bx≠v.ownBlock:=λ e=>vb e.symm;go_wp2_with fail;go_region_held3 (λ w'=>w'.cell? ⟨bx,2,none⟩=some (.slice (some ⟨kb,ko,none⟩) 2 cap)/\w'.cell? ⟨kb,ko,none⟩=some c0/\w'.cell? ⟨kb,ko+1,none⟩=some c1/\w'.cell? ⟨kb,ko+2,none⟩=some c2/\w'.cell? ⟨kb,ko+3,none⟩=some d0/\w'.cell? ⟨kb,ko+4,none⟩=some d1/\w'.cell? ⟨kb,ko+5,none⟩=some d2) (go_keep)
  (first
   | (
     go_at_call_of 89 c0
     refine (i0 _ l0.drew).mono ?_
     rintro e w2 ⟨v1,L1,he,l1,f1⟩
     subst he
     have e2:w2.heap[bx]?=some (.cells #[.int .i64 6, .int .i64 n, .slice (some ⟨kb,ko,none⟩) 2 cap] 36 (0,0)):=(f1.g.block bx QK vb').trans e0
     obtain⟨⟨k3,k4,k5⟩,g3,g4,g5⟩:=pW e2
     have p3:w2.cell? ⟨kb,ko,none⟩=some c0:=(cl w2 l1.cK).1 0 _ rfl
     have p4:w2.cell? ⟨kb,ko+1,none⟩=some c1:=(cl w2 l1.cK).1 1 _ rfl
     have p5:w2.cell? ⟨kb,ko+2,none⟩=some c2:=(cl w2 l1.cK).1 2 _ rfl
     have r3:w2.cell? ⟨kb,ko+3,none⟩=some d0:=(cl w2 l1.cK).2 0 _ rfl
     have r4:w2.cell? ⟨kb,ko+4,none⟩=some d1:=(cl w2 l1.cK).2 1 _ rfl
     have r5:w2.cell? ⟨kb,ko+5,none⟩=some d2:=(cl w2 l1.cK).2 2 _ rfl)
   | (
     go_at_call_of 89 d0
     refine (i1 _ _ _ l1).mono ?_
     rintro e w3 ⟨v2,L2,he,l2,f2⟩
     subst he
     have e3:w3.heap[bx]?=some (.cells #[.int .i64 6, .int .i64 n, .slice (some ⟨kb,ko,none⟩) 2 cap] 36 (0,0)):=(f2.g.block bx (bn e2) (λ e=>(f1.own bx e.symm).elim (λ q=>vb q) λ q=>by have q:w1.heap.size<=bx:=q;omega)).trans e2
     obtain⟨⟨k6,k7,k8⟩,g6,g7,g8⟩:=pW e3
     have p6:w3.cell? ⟨kb,ko,none⟩=some c0:=(cl w3 l2.cK).1 0 _ rfl
     have p7:w3.cell? ⟨kb,ko+1,none⟩=some c1:=(cl w3 l2.cK).1 1 _ rfl
     have p8:w3.cell? ⟨kb,ko+2,none⟩=some c2:=(cl w3 l2.cK).1 2 _ rfl
     have r6:w3.cell? ⟨kb,ko+3,none⟩=some d0:=(cl w3 l2.cK).2 0 _ rfl
     have r7:w3.cell? ⟨kb,ko+4,none⟩=some d1:=(cl w3 l2.cK).2 1 _ rfl
     have r8:w3.cell? ⟨kb,ko+5,none⟩=some d2:=(cl w3 l2.cK).2 2 _ rfl))
 all_goals
  go_wp2
  go_ret
  rw[YG x ys h6 b2]
  exact⟨v2,L2,rfl,l2,f0.trans ((wo.trans (show wo v v w1 w1.drew from ⟨⟨rfl,rfl,rfl,a8C _,λ _ _ _=>rfl⟩,λ k h => .inl h⟩) f1).trans f2)⟩
set_option maxRecDepth 100000 in
def a5Z(w0:World)(S:Nat->Prop)(B:Nat)(x:J)(n1:¬ x.ah=1)(n6:¬ x.ah=6)(cs:List Value)(v:Value)(ys:List J)(L:List Value)(w:World)(hl:FQ w0 S B w v ys L)(hr:Rd w0 S x.aD cs)(hn:ys.length<=8000) :
  Ww w0 S B x cs v ys w:=by
 obtain⟨a,cap,rfl,_⟩:=nH hr;have kb1:(x.ah == 1)=false:=by simpa using n1
 have kb6:(x.ah == 6)=false:=by simpa using n6
 have l0:=(hl.alloc (.cells #[.int .i64 x.ah, .int .i64 x.aZ, .slice a x.U.length cap] 36)).alloc (.cells #[.int .i64 x.ah, .int .i64 x.aZ, .slice a x.U.length cap] 36);have f0:wo v v w ((w.alloc (.cells #[.int .i64 x.ah, .int .i64 x.aZ, .slice a x.U.length cap] 36)).alloc (.cells #[.int .i64 x.ah, .int .i64 x.aZ, .slice a x.U.length cap] 36)):=(wo.alloc _ _).trans (wo.alloc _ _);obtain⟨i0,Bo,KS,IQ,Hi⟩:=info_parts Q1;go_enter Tryz.func89,Tryz.ntmps89;go_wp2_with (at_builtin;refine wj rfl _ _ 33 rfl B 36 i0 _ 3 40 Tryz.underlying33 Bo KS IQ Hi rfl (by decide) v ys.length L rfl l0.own ⟨w.heap.size+1,0,none⟩ 1 1 [.int .i64 x.ah, .int .i64 x.aZ, .slice a x.U.length cap] (by first|rfl|simp) (by rfl) (World.news_of_block (cs := #[.int .i64 x.ah, .int .i64 x.aZ, .slice a x.U.length cap]) (t:=36) (fr:=(0,0)) (by simpa using heap_alloc_new (w.alloc _) (.cells #[.int .i64 x.ah, .int .i64 x.aZ, .slice a x.U.length cap] 36))) (by simp[Value.oneCell']) (by simp[maxLen];omega) (by omega) l0.bw ?_);intro v' w' dk cU II gO;go_wp2;go_ret;rw[YH x ys n1 n6];have fr:wo v v' _ w':=⟨cU,λ k hk=>by
  rcases II with e|e
  .exact .inl (by rw[<-e];exact hk)
  .rw[e] at hk;cases hk;exact .inr (by simp)⟩
 refine⟨v',_,rfl,⟨fr.below l0.cK l0.b0 l0.own,l0.b0,Nat.le_trans l0.bw cU.size,by simpa using dk,?_⟩,f0.trans fr⟩;rw[List.map_append];exact cP.append _ _ l0.rd ⟨_,[],by simp,hr,rfl⟩
def GF(w0:World)(S:Nat->Prop)(hS:iX w0 S)(B:Nat):∀ (N:Nat) (x:J),bo x<N->az x=true->∀ (cs:List Value) (v:Value) (ys:List J) (L:List Value) (w:World),FQ w0 S B w v ys L->Rd w0 S x.aD cs->jB ys->ez ys+aj x<=8000->Ww w0 S B x cs v ys w
 | 0,x,h,_=>by omega
 | N+1,x,hN,hg=>by
  intro cs v ys L w hl hr OI hn;by_cases h1:x.ah=1
  .obtain⟨a,cap,rfl,_⟩:=nH hr;rw[h1];exact a5X w0 S B x h1 _ _ v ys L w hl
  by_cases h6:x.ah=6
  .have b2:=cD x hg (.inl h6);obtain⟨a,cap,rfl,hk⟩:=nH hr;obtain⟨kb,ko,rfl,WS,eG⟩:∃ kb ko,a=some ⟨kb,ko,none⟩/\S kb/\cv w0 S (x.U.map J.aD) kb ko:=by
    rcases hk with hk|hk
    .have:=b2.len;rw[hk] at this;cases this
    .obtain⟨kb,ko,e1,e2,e3⟩:=hk;exact⟨kb,ko,e1,e2,e3⟩
   obtain⟨c0,c1,c2,r0,q0⟩:=HL eG 0 (by have:=b2.len;omega);obtain⟨d0,d1,d2,r1,q1⟩:=HL eG 1 (by have:=b2.len;omega);obtain⟨g1,t1⟩:=MG _ (x.U.getD 0 zE) (Nat.lt_succ_self _) b2.g0 ys OI;have nd:=b2.nd;rw[h6,b2.len];refine a5Y w0 S B x h6 b2 _ kb ko cap _ _ _ _ _ _ v ys L w hl (hS.1 kb WS) (by simpa using q0) (by simpa using q1)
    (λ w' l'=>GF w0 S hS B N _ (by have:=b2.l0;omega) b2.g0 _ v ys L w' l' r0 OI (by omega)) λ w' v' L' l' =>
    GF w0 S hS B N _ (by have:=b2.l1;omega) b2.g1 _ v' _ L' w' l' r1 g1 (by omega)
  .exact a5Z w0 S B x h1 h6 cs v ys L w hl hr (by have:ez ys=cm aj ys+ys.length:=rfl;omega)
def Rb{T:TypeId}(W:World):(Instr.makeMap T none).run prog W = .ok (.map (some W.heap.size)) (W.alloc (.map #[] 0)):=by simp[Instr.makeMap]
abbrev Nm:=J×Int×Int×Option Addr×Nat×Nat
instance a7B:Inhabited Nm:=⟨(J.mk (0:Int) (0:Int) [],0,0,none,0,0)⟩
def Pp(x:Nm):List Value:=[.int .i64 x.2.1, .int .i64 x.2.2.1, .slice x.2.2.2.1 x.2.2.2.2.1 x.2.2.2.2.2]
def mZ(x:Nm):List Value := .string ⟨(bC x.1).toArray⟩::Pp x
def sg(x:Nm):(mZ x).length=4:=rfl
def WI(x:Nm):∀ v∈mZ x,v.oneCell'=true:=λ v hv=>by
 simp[mZ,Pp] at hv;rcases hv with rfl|rfl|rfl|rfl<;>rfl
def Px:∀ (T:List Nm) (i q:Nat) (t:Nm),T[i]?=some t->q<4->(T.flatMap mZ)[i * 4+q]?=(mZ t)[q]?
 | [],i,q,t,h,_=>by simp at h
 | u::T,0,q,t,h,hq=>by
  simp only[b1n,a8r] at h;subst h;rw[b0a,a9K (by rw[sg];omega)];simp
 | u::T,i+1,q,t,h,hq=>by
  rw[List.flatMap_cons,List.getElem?_append_right (by rw[sg];omega),sg,show (i+1) * 4+q - 4=i * 4+q by omega];exact Px T i q t (by simpa using h) hq
structure LZ(w:World)(mb:Nat)(L:List J)(i:Nat):Prop where
 ex:∃ (f:List UInt8->Option Bool) (n:Nat) (es:Array MapEntry) (clock:Nat),w.heap[mb]?=some (.map es clock)/\uF ⟨.str, .bool,f,n⟩ es/\n<=i/\∀ t,(f t).getD false=true↔∃ z∈L,bC z=t
structure NmX(w0:World)(S:Nat->Prop)(w:World)(v:Value)(T:List Nm):Prop where
 own:w.ownsRow w0.heap.size 138 4 v T.length (T.flatMap mZ)
 rd:∀ t∈T,Rd w0 S t.1.aD (Pp t)
def a4t:(Tryz.prog.info? 138).map (λ i=>(i.zero,i.size,i.bytes))=some (some (.agg #[.string ⟨#[]⟩, .int .i64 0, .int .i64 0, .slice none 0 0]),4,56):=by kernel_rfl
def Xo{w:World}{B e sz n:Nat}{v:Value}{L:List Value}(h:w.ownsRow B e sz v n L):∃ ad cp,v = .slice ad n cp/\(n=0\/∃ g cur,ad=some ⟨g,0,none⟩/\B<=g/\w.heap[g]?=some (.cells cur e (0,0))/\cur.toList.take (n * sz)=L):=by
 rcases h.2 with ⟨e1,e2⟩|⟨g,cp,cur,e1,e2,e3,_,_,_,e4⟩
 .exact⟨none,0,by rw[e1,e2], .inl e2⟩
 .exact⟨_,cp,e1, .inr ⟨g,cur,rfl,e2,e3,e4⟩⟩
def a1k(w:World)(o1 o2 o3 o4 o5:Obj):(((((w.alloc o1).alloc o2).alloc o3).alloc o4).alloc o5).heap[w.heap.size]?=some o1/\(((((w.alloc o1).alloc o2).alloc o3).alloc o4).alloc o5).heap[w.heap.size+1]?=some o2 /\
  (((((w.alloc o1).alloc o2).alloc o3).alloc o4).alloc o5).heap[w.heap.size+1+1]?=some o3/\(((((w.alloc o1).alloc o2).alloc o3).alloc o4).alloc o5).heap[w.heap.size+1+1+1]?=some o4/\(((((w.alloc o1).alloc o2).alloc o3).alloc o4).alloc o5).heap[w.heap.size+1+1+1+1]?=some o5:=by
 have nw:=λ (w:World) (o:Obj)=>(b2H w o).1;refine⟨?_,?_,?_,?_,?_⟩
 .rw[a9D _ _ _ (by simp<;>omega),a9D _ _ _ (by simp<;>omega),a9D _ _ _ (by simp<;>omega),a9D _ _ _ (by simp)];exact nw w o1
 .rw[Lib.alloc_old _ _ _ (by simp<;>omega),Lib.alloc_old _ _ _ (by simp<;>omega),Lib.alloc_old _ _ _ (by simp)];exact (by simpa using nw (w.alloc o1) o2)
 .rw[Lib.alloc_old _ _ _ (by simp<;>omega),Lib.alloc_old _ _ _ (by simp)];exact (by simpa using nw ((w.alloc o1).alloc o2) o3)
 .rw[Lib.alloc_old _ _ _ (by simp)];exact (by simpa using nw (((w.alloc o1).alloc o2).alloc o3) o4)
 .exact (by simpa using nw ((((w.alloc o1).alloc o2).alloc o3).alloc o4) o5)
structure FM(b3 b4:Nat)(w w':World):Prop where
 os:w'.os=w.os
 tape:w'.tape=w.tape
 output:w'.output=w.output
 size:w.heap.size<=w'.heap.size
 block:∀ k,k<w.heap.size->k≠b3->k≠b4->w'.heap[k]?=w.heap[k]?
def FM.refl(b3 b4:Nat)(w:World):FM b3 b4 w w:=⟨rfl,rfl,rfl,a8C _,λ _ _ _ _=>rfl⟩
def FM.trans{b3 b4:Nat}{w w' O8:World}(h:FM b3 b4 w w')(k:FM b3 b4 w' O8):FM b3 b4 w O8 :=
 ⟨k.os.trans h.os,k.tape.trans h.tape,k.output.trans h.output,a9v h.size k.size,λ q h1 h2 h3=>(k.block q (a8B h1 h.size) h2 h3).trans (h.block q h1 h2 h3)⟩
def FM.cK{b3 b4 B:Nat}{w0 w w':World}(h:FM b3 b4 w w')(hb:Below B w0 w)(hB:B<=w0.heap.size)(h3:B<=b3)(h4:B<=b4):Below B w0 w' :=
 hb.trans ⟨h.os,h.tape,h.output,h.size,λ k hk=>h.block k (a8B hk (a9v hB hb.size)) (by omega) (by omega)⟩
def FM.of{b3 b4:Nat}{w w':World}(h:Below w.heap.size w w'):FM b3 b4 w w':=⟨h.os,h.tape,h.output,h.size,λ k hk _ _=>h.block k hk⟩
def LZ.none{w:World}{mb:Nat}(h:w.heap[mb]?=some (.map #[] 0)):LZ w mb [] 0 :=
 ⟨gV _ _,0,#[],0,h,uF.empty rfl rfl,a8C _,λ t=>by simp[gV]⟩
def LZ.aE{w w':World}{mb i j:Nat}{L:List J}(h:LZ w mb L i)(nQ:i<=j)(hw:w'.heap[mb]?=w.heap[mb]?):LZ w' mb L j:=by
 obtain⟨f,n,es,c,h1,h2,h3,h4⟩:=h.ex;exact⟨f,n,es,c,hw.trans h1,h2,by omega,h4⟩
def a0m(l:List UInt8)(h:l.length<=140737488355328):nN .str l (.string ⟨l.toArray⟩):=λ w S=>⟨⟨l.toArray⟩,rfl,by simp,by simpa [ByteArray.size] using h⟩
def PY(b:Bool):nN .bool b (.bool b):=λ w S=>rfl
def CN:prog.underlying 134=some (.map 9 4)/\prog.underlying 9=some (descOf .str):=⟨by kernel_rfl,by kernel_rfl⟩
def VC(w:World):(zeroValue 4).run prog w = .ok (.bool false) w:=by
 have h:(Tryz.prog.info? 4).map (λ i=>i.zero)=some (some (.bool false)):=by kernel_rfl
 match hq:Tryz.prog.info? 4,h with
 | some i,h =>
  simp only[b0N,a8r] at h;simp[zeroValue,typeInfo,show prog.info? 4=some i from hq,h,Result.andThen]
def LZ.af{w:World}{mb i:Nat}{L:List J}(h:LZ w mb L i)(x:J)(hl:(bC x).length<=1000000)(hg:az x=true)(hL:jB L)(hi:i<1000000000) :
  (Instr.lookup 134 (.map (some mb)) (.string ⟨(bC x).toArray⟩) false).run prog w = .ok (.bool (L.any λ y=>eg y x)) w /\
  ((L.any λ y=>eg y x)=false->∃ w',(Instr.mapUpdate 134 (.map (some mb)) (.string ⟨(bC x).toArray⟩) (.bool true)).run prog w = .ok () w'/\LZ w' mb (L++[x]) (i+1)/\w'.os=w.os/\w'.tape=w.tape/\w'.output=w.output/\w'.heap.size=w.heap.size/\∀ k,k≠mb->w'.heap[k]?=w.heap[k]?):=by
 obtain⟨f,n,es,c,h1,h2,h3,h4⟩:=h.ex;have hk:=a0m (bC x) (by omega);obtain⟨u,u1,u2⟩:=h2.af (P:=prog) CN.1 CN.2 h1 (VC w) (PY false) (k:=bC x) hk false;have hu:[u]=[.bool ((f (bC x)).getD false)]:=u1 w (λ _=>False);simp only[a8x,a8T] at hu;subst hu;have hb:(f (bC x)).getD false=(L.any λ y=>eg y x):=by
  have e:=a1q L x hg hL;rw[<-h4] at e;cases h5:(f (bC x)).getD false<;>cases h6:L.any (λ y=>eg y x)<;>simp_all
 rw[hb] at u2;refine⟨u2,λ hf=>?_⟩;obtain⟨Sf,c',m1,m2⟩:=h2.store (P:=prog) CN.1 CN.2 h1 (k:=bC x) hk (x:=true) (PY true) (show n<1000000000 by omega);obtain⟨q1,q2⟩:=MapKept.heap_set (o' := .map Sf c') h1;refine⟨_,m1,⟨_,_,Sf,c',q1,m2,?_,λ t=>?_⟩,rfl,rfl,rfl,by simp,q2⟩
 .show gB _ n<=_;unfold gB;cases (f (bC x)).isSome<;>simp<;>omega
 .show (
     fK f (bC x) true t).getD false=true↔_
  by_cases ht:t=bC x
  .subst ht;rw[gu];simp
  .rw[eL _ _ _ ht,h4];constructor
   .rintro⟨z,hz,e⟩;exact⟨z,a9Y _ hz,e⟩
   .rintro⟨z,hz,e⟩;rcases a8t.1 hz with q|q
    .exact⟨z,q,e⟩
    .rw[a8L] at q;exact absurd (by rw[<-e,q]) ht
open Go.Shelf Go.Lib Go.Sort
def VL:∀ a b:List UInt8,decide (Lib.compareBytes a b<0)=Op.bytesLess a b
 | [],[]=>rfl
 | [],_::_=>rfl
 | _::_,[]=>rfl
 | a::x,b::y=>by
  have ih:=VL x y;unfold Lib.compareBytes Op.bytesLess;by_cases h1:a<b
  .simp[h1]
  .by_cases h2:b<a
   .have h3:¬ a=b:=λ e=>by subst e;exact absurd h2 h1
    simp[h1,h2,h3]
   .have h3:a=b:=UInt8.le_antisymm (b2b.1 h2) (b2b.1 h1);subst h3;simp only[h1,b1q,ih];simp
abbrev Uf(x y:Nm):Int:=Lib.compareBytes (bC x.1) (bC y.1)
def ltN(x y:Nm):ltOf Uf x y=OX x.1 y.1:=VL _ _
def a7h:SWO (ltOf Uf) where
 irrefl x:=by rw[ltN];exact Ek _
 trans x y z h1 h2:=by rw[ltN] at *;exact Cp _ _ _ h1 h2
 ntrans x y z h1 h2:=by rw[ltN] at *;exact Mi _ _ _ h1 h2
set_option maxRecDepth 100000 in
def WD(x y:Nm)(W:World):Calls prog 92 #[.agg (mZ x).toArray, .agg (mZ y).toArray] W λ e w'=>e = .returned (.int .i64 (Uf x y))/\∃ q os',w'=grow (W.drewN q) os':=by
 have PI:=λ W'=>Tryz.strings_Compare ⟨(bC x.1).toArray⟩ ⟨(bC y.1).toArray⟩ W';simp only at PI;show Calls prog 92 #[.agg #[.string ⟨(bC x.1).toArray⟩, .int .i64 x.2.1, .int .i64 x.2.2.1, .slice x.2.2.2.1 x.2.2.2.2.1 x.2.2.2.2.2], .agg #[.string ⟨(bC y.1).toArray⟩, .int .i64 y.2.1, .int .i64 y.2.2.1, .slice y.2.2.2.1 y.2.2.2.2.1 y.2.2.2.2.2]] W _;unfold Uf;generalize Lib.compareBytes (bC x.1) (bC y.1)=r at PI ⊢;go_enter Tryz.func92,Tryz.ntmps92;go_wp2_with (go_at_call 93;refine (PI _).mono ?_;rintro e w' ⟨rfl,rfl⟩);go_ret;exact⟨rfl,0,_,by rw[alloc_eq_grow,alloc_eq_grow,grow_grow];rfl⟩
def a1t:∀ args w,(callFunc 92 args).run prog w = .ok (.enter 92 args) w:=enters_of Tryz.func92 (by kernel_rfl) rfl
def a5m:∀ w,(isAgg (138)).run prog w = .ok true w:=Tryz.isAgg138
def a7d:∀ w,(Go.sizeOf (138)).run prog w = .ok 4 w:=Tryz.sizeOf138
def UK(w:World)(os:Array Obj)(k:Nat)(h:k<w.heap.size):(grow w os).heap[k]?=w.heap[k]?:=by
 unfold grow;simp only;rw[Array.getElem?_append_left h]
def TC(w:World)(dt off n:Nat)(d:Array Nm)(os:Array Obj):bH (λ b=>b=dt) w (sortWorldK mZ 4 w dt off n d os):=by
 refine⟨rfl,rfl,rfl,size_sortWorldK_c _ _ _ _ _ _ _ _,λ b hb dh=>?_⟩;unfold sortWorldK;rw[UK _ _ _ (by rw[size_putRowK];exact hb)];unfold putRowK putRow mapBlock;simp only[Sort.ahead];rw[Array.getElem?_modify,if_neg λ e=>dh e.symm]
def V5{w0 w:World}{S:Nat->Prop}{gl cl:Nat}{T:List Nm}(h:NmX w0 S w (.slice (some ⟨gl,0,none⟩) T.length cl) T):HoldsK mZ 4 w gl 0 T.toArray:=by
 intro j hj;rw[size_flatK] at hj;have hj:j<T.length * 4:=by simpa using hj
 obtain⟨cur,hc⟩:∃ cur,w.heap[gl]?=some (.cells cur 138 (0,0)):=by
  rcases h.own.2 with ⟨e,_⟩|⟨g',c',cur,e,_,h2,_⟩
  .cases e
  .cases e;exact⟨cur,h2⟩
 have hi:j / 4<T.length:=by omega
 refine⟨?_,QD hc⟩;have k9:=h.own.cells (g:=gl) rfl j (id ((flatK mZ 4 T.toArray)[j]!)) (by
  have:=Px T (j / 4) (j % 4) _ (List.getElem?_eq_getElem hi) (by omega);rw[show j / 4 * 4+j % 4=j by omega] at this;rw[this,get_flatK _ _ _ _ (by simpa using hj)];have e:T.toArray[j / 4]! = T[j / 4]:=getElem!_pos T.toArray (j / 4) (by simpa using hi);rw[e];have hl:j % 4<(mZ T[j / 4]).length:=by rw[sg];omega
  simp[hl])
 simpa [Addr.add_lit] using k9
def UP{w:World}{gl:Nat}{d:Array Nm}(h:HoldsK mZ 4 w gl 0 d)(i:Nat)(t:Nm)(ht:d.toList[i]?=some t):bh w gl (i * 4) (mZ t):=by
 intro q v hv;have hq:q<4:=by have:=(a8P.1 hv).1;rwa [sg] at this
 have hi:i<d.size:=by have:=(List.getElem?_eq_some_iff.1 ht).1;simpa using this
 have:=(h (i * 4+q) (by rw[size_flatK];omega)).1;rw[get_flatK _ _ _ _ (by omega),show (i * 4+q) / 4=i by omega,show (i * 4+q) % 4=q by omega] at this;have e:d[i]! = t:=by
  have h1:d[i]?=some t:=by simpa using ht
  rw[getElem!_pos d i hi];exact a9A ((a9n hi).symm.trans h1)
 rw[e] at this;have h2:(mZ t)[q]! = v:=by simp[hv]
 rw[h2] at this;simpa using this
def XC{T:List Nm}{d':Array Nm}{M:List J}(hM:T.map (·.1)=M)(hg:jB M)(hp:PermIn 0 T.toArray.size T.toArray d')(hs:SortedIn (ltOf Uf) 0 T.toArray.size d'):d'.toList.map (·.1)=y9 M/\d'.toList.Perm T:=by
 obtain⟨h1,_,h3⟩:=hp;have h3:d'.toList.Perm T:=by
  have e1:T.toArray.extract 0 T.toArray.size=T.toArray:=by simp
  have e2:d'.extract 0 T.toArray.size=d':=by rw[<-h1];simp
  rw[e1,e2] at h3;simpa using h3
 refine⟨a0D M _ hg (by rw[<-hM];exact h3.map _) ?_,h3⟩;unfold D4;rw[List.pairwise_map,List.pairwise_iff_getElem];intro i j hi hj nQ;have:=hs i j (Nat.zero_le _) nQ (by rw[<-h1];simpa using hj);rw[ltN] at this;have e1:d'[i]! = d'.toList[i]:=getElem!_pos d' i (by simpa using hi);have e2:d'[j]! = d'.toList[j]:=getElem!_pos d' j (by simpa using hj);rw[e1,e2] at this;exact this
def S5{w0 w:World}{S Z:Nat->Prop}(hS:iX w0 S)(hb:Below w0.heap.size w0 w)(hZ:∀ b,Z b->b<w.heap.size) :
  Calls prog 41 #[.int .i64 1, .int .i64 0] w λ e w'=>∃ (k' n':Int) (a':Option Addr) (l' c':Nat),e = .returned (.agg #[.int .i64 k', .int .i64 n', .slice a' l' c'])/\bH (λ _=>False) w w'/\Rd w' (Sx w0 S Z w') (J.mk 1 0 []).aD [.int .i64 k', .int .i64 n', .slice a' l' c']:=by
 refine (lL.2 (1:Int) (0:Int) trivial w _ [_,_] (JD Z hS hb) ⟨⟨rfl,by decide,by decide⟩,⟨rfl,by decide,by decide⟩,ae⟩).mono ?_;rintro e w' ⟨v,S',res,rfl,rfl,fe,uw,xx,hr⟩;obtain⟨cs,rfl,uy⟩:=(show ∃ cs,v = .agg cs.toArray/\Rd w' S' (J.mk 1 0 []).aD cs from hr);obtain⟨_,_,_,_,_,rfl⟩:=JH uy;exact⟨_,_,_,_,_,rfl,fe,H0 hS hb hZ fe uw xx uy⟩
def TU{w0 w:World}{S Z:Nat->Prop}(hS:iX w0 S)(hb:Below w0.heap.size w0 w)(hZ:∀ b,Z b->b<w.heap.size)(x y:J)(a0 a1 a2 b0 b1 b2:Value)(rx:Rd w (Sx w0 S Z w) x.aD [a0,a1,a2])(ry:Rd w (Sx w0 S Z w) y.aD [b0,b1,b2])
  (bk:Nat) (UF:w.heap[bk]?=some (.cells #[a0,a1,a2,b0,b1,b2] 36 (0,0))) (h0:w0.heap.size<=bk) (hz:¬ Z bk) :
  Calls prog 24 #[.int .i64 6, .slice (some ⟨bk,0,none⟩) 2 2] w λ e w'=>∃ (k' n':Int) (a':Option Addr) (l' c':Nat),e = .returned (.agg #[.int .i64 k', .int .i64 n', .slice a' l' c'])/\bH (λ _=>False) w w'/\Rd w' (Sx w0 S Z w') (J.mk 6 0 [x,y]).aD [.int .i64 k', .int .i64 n', .slice a' l' c']:=by
 have hc:∀ (o:Nat) (v:Value),(#[a0,a1,a2,b0,b1,b2]:Array Value)[o]?=some v->w.cell? ⟨bk,o,none⟩=some v:=λ o v h=>by simp[World.cell?,UF,h]
 have r1:bh w bk 0 [a0,a1,a2]:=λ j v hj=>by
  have Y9:j<3:=(a8P.1 hj).1;match j,Y9 with
  | 0,_=>exact hc 0 v hj
  | 1,_=>exact hc 1 v hj
  | 2,_=>exact hc 2 v hj
 have r2:bh w bk 3 [b0,b1,b2]:=λ j v hj=>by
  have Y9:j<3:=(a8P.1 hj).1;match j,Y9 with
  | 0,_=>exact hc 3 v hj
  | 1,_=>exact hc 4 v hj
  | 2,_=>exact hc 5 v hj
 have sx:x.aD.size=3:=by cases x;rfl
 have sy:y.aD.size=3:=by cases y;rfl
 have q1:[a0,a1,a2].length=x.aD.size:=by rw[sx];rfl
 have q2:[b0,b1,b2].length=y.aD.size:=by rw[sy];rfl
 have q3:bh w bk (0+x.aD.size) [b0,b1,b2]:=by rw[sx];exact r2
 refine (lM.2 (6:Int) [x,y] trivial w _ [_,_] (JD Z hS hb) ⟨⟨rfl,by decide,by decide⟩,⟨some ⟨bk,0,none⟩,2,rfl,a8C 2,(show (2:Nat)<=maxLen by decide),(show (2:Nat)<=140737488355328 by decide), .inr ⟨bk,0,rfl, .inr ⟨h0,bn UF,hz⟩,⟨[a0,a1,a2],q1,rx,r1⟩,⟨[b0,b1,b2],q2,ry,q3⟩,ae⟩⟩,ae⟩).mono ?_;rintro e w' ⟨v,S',res,rfl,rfl,fe,uw,xx,hr⟩;obtain⟨cs,rfl,uy⟩:=(show ∃ cs,v = .agg cs.toArray/\Rd w' S' (J.mk 6 0 [x,y]).aD cs from hr);obtain⟨_,_,_,_,_,rfl⟩:=JH uy;exact⟨_,_,_,_,_,rfl,fe,H0 hS hb hZ fe uw xx uy⟩
def Ea{a:Act}{w:World}{b:Nat}{cs:List Value}{t:TypeId}(h4:a.tmps.getD 4 undef = .pointer (some ⟨b,0,none⟩))(hb:w.heap[b]?=some (.cells cs.toArray t (0,0)))(hl:cs.length=3)(hd:a.defers=[])
  {R:Ending->World->Prop} (hR:R (.returned (.agg cs.toArray)) w):bodyPost prog Tryz.f66 R .ret a w:=by
 refine b2a ?_ hd hR;have cz:(Instr.loadAt 36 (.pointer (some ⟨b,0,none⟩))).run prog w = .ok (.agg cs.toArray) w:=ga (Cr (l:=[]) (wr:=[]) (cl:=[]) (ro:=[]) trivial) (T:=36) (τ := .st .expr) rfl (λ j v hj=>by simp[World.cell?,hb,hj]) hl;simp only[Instr.loadAt,Instr.sureAddr,a8N,a8O,a8J] at cz;rw[wb,b0E];simp only[a8N,b2h,Tryz.f66,b0H,List.mapM_nil,kB,h4,asAddr,a8O,a8J,cz];rfl
set_option maxRecDepth 100000 in
def O6(w:World)(S:Nat->Prop)(hS:iX w S)(x y:J)(hx:az x=true)(hy:az y=true)(hn:aj x+aj y<=7000)(cx cy:List Value)(rx:Rd w S x.aD cx)(ry:Rd w S y.aD cy) :
  Calls prog 66 #[.agg cx.toArray, .agg cy.toArray] w λ e w'=>∃ cs,e = .returned (.agg cs.toArray)/\Rd w' (Sx w S (λ _=>False) w') (Ly x y).aD cs/\bH (λ _=>False) w w':=by
 obtain⟨k1,n1,a1,l1,p1,rfl⟩:=JH rx;obtain⟨k2,n2,a2,l2,p2,rfl⟩:=JH ry;have hmk:=Rb (T:=134);have X1:∃ W,W=((((w.alloc (.cells #[.int .i64 k1, .int .i64 n1, .slice a1 l1 p1] 36)).alloc (.cells #[.int .i64 k2, .int .i64 n2, .slice a2 l2 p2] 36)).alloc (.cells #[.int .i64 0, .int .i64 0, .slice none 0 0] 36)).alloc (.cells #[] 138)).alloc (.map #[] 0):=⟨_,rfl⟩;obtain⟨W,hW⟩:=X1;have B0:Below w.heap.size w W:=by
  rw[hW];exact (((((b0d _ w).alloc (a8C _) _).alloc (by simp) _).alloc (by simp;omega) _).alloc (by simp;omega) _).alloc (by simp;omega) _
 have Wz:W.heap.size=w.heap.size+5:=by rw[hW];simp
 obtain⟨e1,e2,e3,e4,e5⟩:=a1k w (.cells #[.int .i64 k1, .int .i64 n1, .slice a1 l1 p1] 36) (.cells #[.int .i64 k2, .int .i64 n2, .slice a2 l2 p2] 36) (.cells #[.int .i64 0, .int .i64 0, .slice none 0 0] 36) (.cells #[] 138) (.map #[] 0);rw[<-hW] at e1 e2 e3 e4 e5;go_enter Tryz.func66,Tryz.ntmps66;go_upto_region 3 with fail;rw[<-hW];clear hW hmk;have b1:w.heap.size<W.heap.size:=bn e1;have b2:w.heap.size+1<W.heap.size:=bn e2;obtain⟨⟨q0,q1,q2⟩,_,_,_⟩:=pW e1;obtain⟨⟨r0,r1,r2⟩,_,_,_⟩:=pW e2;have l0:FQ w S W.heap.size W.drew (.slice none 0 0) [] []:=⟨B0.drew,B0.size,a8C _,⟨rfl, .inl ⟨rfl,rfl⟩⟩,rfl⟩;have t0:ez []=0:=rfl;have gn:jB []:=λ _ h=>by cases h
 obtain⟨g1,t1⟩:=MG _ x (a8K _) hx [] gn;obtain⟨g2,t2⟩:=MG _ y (a8K _) hy _ g1;go_wp2_with fail;go_region_held3 (λ w'=>w'.cell? ⟨w.heap.size,0,none⟩=some (.int .i64 k1)/\w'.cell? ⟨w.heap.size,1,none⟩=some (.int .i64 n1)/\w'.cell? ⟨w.heap.size,2,none⟩=some (.slice a1 l1 p1)/\w'.cell? ⟨w.heap.size+1,0,none⟩=some (.int .i64 k2)/\w'.cell? ⟨w.heap.size+1,1,none⟩=some (.int .i64 n2)/\w'.cell? ⟨w.heap.size+1,2,none⟩=some (.slice a2 l2 p2)) (go_keep)
  (first
   | (
     go_at_call_of 89 k1
     refine (GF w S hS W.heap.size _ x (a8K _) hx _ (.slice none 0 0) [] [] _ l0 rx gn (by omega)).mono ?_
     rintro e w2 ⟨v1,L1,he,l1,f1⟩
     subst he
     have m1:∀ k,k<W.heap.size->w2.heap[k]?=W.heap[k]?:=λ k hk=>f1.g.block k hk (by simp[Value.ownBlock])
     obtain⟨⟨q3,q4,q5⟩,_,_,_⟩:=pW ((m1 _ b1).trans e1)
     obtain⟨⟨r3,r4,r5⟩,_,_,_⟩:=pW ((m1 _ b2).trans e2))
   | (
     go_at_call_of 89 k2
     refine (GF w S hS W.heap.size _ y (a8K _) hy _ v1 _ L1 _ l1 ry g1 (by omega)).mono ?_
     rintro e w3 ⟨v2,L2,he,l2,f2⟩
     subst he
     have m2:∀ k,k<W.heap.size->w3.heap[k]?=W.heap[k]?:=λ k hk=>(f2.g.block k (a8B hk f1.g.size) (λ e=>(f1.own k e.symm).elim (λ q=>by simp[Value.ownBlock] at q) λ q=>by have q:W.heap.size<=k:=q;omega)).trans (m1 k hk)
     obtain⟨⟨q6,q7,q8⟩,_,_,_⟩:=pW ((m2 _ b1).trans e1)
     obtain⟨⟨r6,r7,r8⟩,_,_,_⟩:=pW ((m2 _ b2).trans e2)
     obtain⟨ad,cp,rfl,hFL⟩:=Xo l2.own))
 obtain⟨iN,hN,hN0,hN1,hN2⟩:=b2u a4t;have hdk:=a1r x y hx hy;have hsu:=a0J x y hx hy;have W7:Ly x y=mu (y9 (dC y (dC x []))):=rfl;have a3n:=l2.rd;have Yg:=l2.cK;have s3:=l2.bw;have hFg:=g2;have hFt:ez (xp y (xp x []))<=7002:=by omega
 have f3:=(m2 _ (bn e3)).trans e3;have f4:=(m2 _ (bn e4)).trans e4;have f5:=(m2 _ (bn e5)).trans e5;clear t1 t2 g1 g2 t0 gn q0 q1 q2 r0 r1 r2 q3 q4 q5 r3 r4 r5 q6 q7 q8 r6 r7 r8 l0 e1 e2 e3 e4 e5 f1 f2 m1 l1 l2 b1 b2;generalize xp y (xp x [])=FL at *
 have hFn:FL.length<=7002:=by have:ez FL=cm aj FL+FL.length:=rfl;omega
 rename_i a4f;clear a4f;go_wp2_with fail;go_loopw [5,20] (λ vl i wr=>∃ (k:Nat) (T:List Nm) (g c:Nat),i = .int .i64 k/\k<=FL.length/\T.map (·.1)=uu FL k/\vl = .slice (some ⟨g,0,none⟩) T.length c/\NmX w S wr vl T/\LZ wr (w.heap.size+1+1+1+1) (uu FL k) k /\
   FM (w.heap.size+1+1+1) (w.heap.size+1+1+1+1) w3 wr/\(g=w.heap.size+1+1+1\/w3.heap.size<=g)) (λ vl i wr=>FL.length - kN i)
 .refine⟨0,[],w.heap.size+1+1+1,0,rfl,a9l _,rfl,rfl,⟨⟨rfl, .inr ⟨w.heap.size+1+1+1,0,#[],rfl,by omega,f4,a8C _,by simp[maxLen],rfl,rfl⟩⟩,λ t ht=>by cases ht⟩,LZ.none f5,FM.refl _ _ _, .inl rfl⟩
 obtain⟨k,T,gl,cl,rfl,hk,hT,rfl,OF,hSe,Sn,OI⟩:=hrel;by_cases bm:k<FL.length
 .obtain⟨z,hz⟩:∃ z,FL[k]?=some z:=⟨_,a8H bm⟩;have hgz:az z=true:=hFg z (a9h hz);have hnz:aj z<=9000:=by
   have:aj z<=cm aj FL:=by
    obtain⟨a,b,rfl⟩:=b1I (a9h hz);rw[x9];simp[cm];omega
   have:ez FL=cm aj FL+FL.length:=rfl;omega
  have SE:=RM z hgz hnz;have hdz:=Mu FL k z hz;have hdg:=A1 FL hFg k;have Y0:=Qt FL k;obtain⟨g,cur,rfl,hgW,nk,hgt⟩:=hFL.resolve_left (by omega);have a6t:wr.heap[g]?=some (.cells cur 36 (0,0)):=(Sn.block g (bn nk) (by omega) (by omega)).trans nk;obtain⟨c0,c1,c2,hcz,hrz⟩:=B9 a6t hgt a3n k z hz;obtain⟨zk,zn,za,zl,zc,hce⟩:=JH hrz;simp only[a8x,a8T] at hce;obtain⟨rfl,rfl,rfl⟩:=hce;have z0:wr.cell? ⟨g,k * 3,none⟩=some (.int .i64 zk):=hcz 0 _ rfl;have z1:wr.cell? ⟨g,k * 3+1,none⟩=some (.int .i64 zn):=hcz 1 _ rfl;have z2:wr.cell? ⟨g,k * 3+2,none⟩=some (.slice za zl zc):=hcz 2 _ rfl;have bk0:(0:Int)<=(k:Int):=by omega
  have bk1:(k:Int)<(FL.length:Int):=by omega
  have Mh:Below w.heap.size w wr:=Sn.cK Yg (a8C _) (by omega) (by omega);have srw:=Sn.size;go_upto_region 6 with fail;have n4:=a9N wr (.cells #[.int .i64 zk, .int .i64 zn, .slice za zl zc] 36);have b4:Below wr.heap.size wr (wr.alloc (.cells #[.int .i64 zk, .int .i64 zn, .slice za zl zc] 36)):=(b0d _ wr).alloc (a8C _) _;have sz4:(wr.alloc (.cells #[.int .i64 zk, .int .i64 zn, .slice za zl zc] 36)).heap.size=wr.heap.size+1:=by simp
  generalize wr.alloc (.cells #[.int .i64 zk, .int .i64 zn, .slice za zl zc] 36)=w4 at *
  have Yf:Below w.heap.size w w4:=Mh.trans (b4.mono Mh.size);obtain⟨⟨o0,o1,o2⟩,_,_,_⟩:=pW n4;go_wp2_with (go_at_call 90;refine (H6 z w4 S (λ b hb=>a8B (hS.1 b hb) Yf.size) hgz SE _ (Wg hS Yf hrz)).mono ?_);rintro e w5 ⟨he,b5⟩;subst he;have b45:Below wr.heap.size wr w5:=b4.trans (b5.mono (by omega));have a7w:Below w.heap.size w w5:=Mh.trans (b45.mono Mh.size);have n5:=(b5.block _ (bn n4)).trans n4;obtain⟨⟨m0,m1,m2'⟩,_,_,_⟩:=pW n5;have Kc:FM (w.heap.size+1+1+1) (w.heap.size+1+1+1+1) w3 w5:=Sn.trans (FM.of b45);have a8p:w.heap.size+1+1+1+1<w3.heap.size:=bn f5;have a2K:LZ w5 (w.heap.size+1+1+1+1) (uu FL k) k:=hSe.aE (a8C _) (b45.block _ (by omega));have yL:=OF.own.kept (xw b45) (.inr (by simp[Value.ownBlock]));have hs5:=b5.size;obtain⟨Ze,xB⟩:=a2K.af z SE hgz hdg (by omega);rcases a9E ((uu FL k).any λ y=>eg y z) with ha|ha
  .rw[ha] at Ze;go_wp2;refine⟨⟨k+1,T,gl,cl,by first|rfl|simp,bm,?_,rfl,⟨yL,OF.rd⟩,?_,Kc,OI⟩,?_⟩
   .rw[hT,hdz,Gs,a8A ha]
   .rw[hdz,Gs,a8A ha];exact a2K.aE (b2L _) rfl
   .simp only[kN];omega
  .rw[ha] at Ze;obtain⟨w6,a8o,a6d,u1,u2,u3,u4,u5⟩:=xB ha;have n6:=(u5 wr.heap.size (by omega)).trans n5;obtain⟨⟨m3,m4,m5⟩,_,_,_⟩:=pW n6;have hg6:w5.grownBy w6 (some (w.heap.size+1+1+1+1)):=⟨u1,u2,u3,by omega,λ q h1 h2=>u5 q λ e=>h2 (by rw[e])⟩;have UR:=yL.kept hg6 (.inr (by simp[Value.ownBlock];omega));have QU:=UR.alloc (.cells #[.string ⟨(bC z).toArray⟩, .int .i64 zk, .int .i64 zn, .slice za zl zc] 138);have hTl:(uu FL k).length=T.length:=by rw[<-hT,a8W]
   have Zu:w5.heap.size=w6.heap.size:=u4.symm;clear u4;go_wp2_with (at_builtin;refine wj rfl _ _ 133 rfl w.heap.size 138 iN _ 4 56 Tryz.underlying133 hN hN0 hN1 hN2 rfl (by decide) _ T.length _ rfl QU ⟨w6.heap.size,0,none⟩ 1 1 [.string ⟨(bC z).toArray⟩, .int .i64 zk, .int .i64 zn, .slice za zl zc] (by first|rfl|simp) (by rfl) (b1A (cs := #[.string ⟨(bC z).toArray⟩, .int .i64 zk, .int .i64 zn, .slice za zl zc]) (t:=138) (fr:=(0,0)) (a9N w6 _)) (by simp[Value.oneCell']) (by simp[maxLen];omega) (by omega) (by simp;omega) ?_);intro v' w7 dk cU II gO;go_wp2;rcases dk.2 with ⟨e,_⟩|⟨g',c',a8c,rfl,o1',o2',o3',o4',o5',o6'⟩
   .exact (gO e).elim
   have a8n:w6.heap.size+1<=w7.heap.size:=by simpa using cU.size
   have a2t:∀ q,q<w6.heap.size->q≠gl->w7.heap[q]?=w6.heap[q]?:=λ q h1 h2=>(cU.block q (by simp;omega) (λ e=>h2 (a9A e))).trans (a9D _ _ _ h1);have a8g:gl<w5.heap.size:=(HI yL gl rfl).2;refine⟨⟨k+1,T++[(z,zk,zn,za,zl,zc)],g',c',by first|rfl|simp,bm,?_,by simp,⟨?_,λ t ht=>?_⟩,?_,?_,?_⟩,?_⟩
   .rw[hdz,Gs,a8v (by rw[ha];decide),a9F,hT];rfl
   .rw[a8E,List.flatMap_append];exact dk
   .rcases a8t.1 ht with q|q
    .exact OF.rd t q
    .rw[a8L] at q;rw[q];exact hrz
   .rw[hdz,Gs,a8v (by rw[ha];decide)];exact a6d.aE (a8C _) (a2t _ (by omega) (by omega))
   .exact⟨cU.os.trans (u1.trans Kc.os),cU.tape.trans (u2.trans Kc.tape),cU.output.trans (u3.trans Kc.output),by have:=Kc.size;omega,λ q h1 h2 h3=>(a2t q (by have:=Kc.size;omega) (by rintro rfl;exact OI.elim (λ e=>h2 e) λ e=>by omega)).trans ((u5 q h3).trans (Kc.block q h1 h2 h3))⟩
   .rcases II with e|e
    .have e:g'=gl:=by simpa [Value.ownBlock] using e
     rw[e];exact OI
    .have e:g'=w6.heap.size+1:=by simpa [Value.ownBlock] using e
     exact .inr (by have:=Kc.size;omega)
   .simp only[kN];omega
 .have UN:k=FL.length:=by omega
  have hM:=hdk k (by omega);rw[hM] at hT;have hMg:=hM ▸ A1 FL hFg k;clear hdk hSe hFL a3n hFg hFt;have hTl:T.length<=7002:=by
   have h1:T.length=(dC y (dC x [])).length:=by rw[<-hT,a8W]
   have h2:=Qt FL k;rw[hM] at h2;omega
  have MQ:T.toArray.size<4611686018427387904:=by rw[b1O];omega
  have PI:Calls prog 91 #[.slice (some ⟨gl,0,none⟩) T.length cl, .func (.func 92) #[] #[]] wr λ e w'=>e = .returned (.tuple #[])/\∃ d' n os,PermIn 0 T.toArray.size T.toArray d'/\SortedIn (ltOf Uf) 0 T.toArray.size d'/\w'=sortWorldK mZ 4 wr gl 0 n d' os :=
   AnyQ.slices_SortFunc Tryz.a2a 4 a5m a7d mZ sg WI Uf a7h 92 #[] gl 0 cl T.toArray wr a1t (λ _ _ _ _ x y=>WD x y _) (V5 OF) (HI OF.own gl rfl).2 MQ
  go_wp2_with (go_at_call 91;refine PI.mono ?_);rintro e w4 ⟨he,d',nn,os,hp,W5,SN⟩;subst he;obtain⟨hsr,hpm⟩:=XC hT hMg hp W5;have Y4:=(HI OF.own gl rfl);have SC:bH (λ b=>b=gl) wr w4:=by rw[SN];exact TC _ _ _ _ _ _
  have hH4:HoldsK mZ 4 w4 gl 0 d':=by rw[SN];exact holdsK_sortWorldK_c _ _ _ _ _ _ _ _ _ (V5 OF) Y4.2 hp.1
  have Ar:=λ i t h=>UP hH4 i t h;have a3a:∀ t∈d'.toList,Rd w S t.1.aD (Pp t):=λ t ht=>OF.rd t (hpm.mem_iff.1 ht);have hDl:d'.toList.length=T.length:=hpm.length_eq;have Mh:Below w.heap.size w wr:=Sn.cK Yg (a8C _) (by omega) (by omega);have b4:Below w.heap.size w w4:=Mh.trans ⟨SC.os,SC.tape,SC.output,SC.size,λ q hq=>SC.block q (a8B hq Mh.size) (by omega)⟩;have hw3:=bn f3;have hLs:=Sn.size;have z4:w4.heap[w.heap.size+1+1]?=some (.cells #[.int .i64 0, .int .i64 0, .slice none 0 0] 36 (0,0)):=(SC.block _ (by omega) (by omega)).trans ((Sn.block _ hw3 (by omega) (by omega)).trans f3);have a6s:gl<w4.heap.size:=a8B Y4.2 SC.size;have a8h:gl≠w.heap.size+1+1:=by omega
  have a8e:T.length<=cl:=by
   rcases OF.own.2 with ⟨e,_⟩|⟨_,_,_,e,_,_,h,_⟩
   .cases e
   .cases e;exact h
  clear PI SN hH4 hp W5 OF hpm SC hLs Y4;generalize d'.toList=D at *
  have hZS:y9 (dC y (dC x []))=D.map (·.1):=hsr.symm;rw[hZS] at hsu W7;generalize dC y (dC x [])=M at *
  clear hM hsr hZS hT hMg Sn f3 f4 f5 m2;have WT:∀ b,b=w.heap.size+1+1->w.heap.size<=b:=λ b h=>by omega
  have ZQ:=bn z4;go_upto_region 12 with fail;generalize hnT:T.length=n at *
  by_cases hn0:n=0
  .subst hn0;have e0:D=[]:=List.eq_nil_of_length_eq_zero hDl;go_wp2_with (go_at_call 41;refine (S5 (Z:=λ b=>b=w.heap.size+1+1) hS b4 (λ b hb=>by have hb:b=w.heap.size+1+1:=hb;omega)).mono ?_);rintro e w5 ⟨ek,en,ea,em,ec,he,MY,r5⟩;subst he;have z5:=(MY.block _ ZQ id).trans z4;have b5:=b4.trans (pE MY b4.size);obtain⟨⟨k0,k1,k2⟩,g0,g1,g2⟩:=pW z5;go_wp2;obtain⟨z6,o6⟩:=Oh (.int .i64 ek) (.int .i64 en) (.slice ea em ec) z5;refine Ea (cs:=[.int .i64 ek, .int .i64 en, .slice ea em ec]) rfl z6 rfl rfl ?_;refine⟨[.int .i64 ek, .int .i64 en, .slice ea em ec],rfl,?_,b5.os,b5.tape,b5.output,by simpa using b5.size,λ b hb _=>(o6 b (by omega)).trans (b5.block b hb)⟩;rw[W7,e0];exact pP hS b5 (by simp) WT (λ b _ h=>o6 b h) (λ b _ h=>h.elim) r5
  .obtain⟨t0,Zs⟩:∃ t,D[0]?=some t:=⟨_,List.getElem?_eq_getElem (by omega)⟩;have c0:=Ar 0 t0 Zs;have a0:w4.cell? ⟨gl,0,none⟩=some (.string ⟨(bC t0.1).toArray⟩):=by simpa using c0 0 _ rfl
   have a1':w4.cell? ⟨gl,1,none⟩=some (.int .i64 t0.2.1):=by simpa using c0 1 _ rfl
   have a2':w4.cell? ⟨gl,2,none⟩=some (.int .i64 t0.2.2.1):=by simpa using c0 2 _ rfl
   have a3':w4.cell? ⟨gl,3,none⟩=some (.slice t0.2.2.2.1 t0.2.2.2.2.1 t0.2.2.2.2.2):=by simpa using c0 3 _ rfl
   have bn0:(0:Int)<(n:Int):=by omega
   have bn1:(1:Int)<=(n:Int):=by omega
   have bn2:(n:Int)<=(cl:Int):=by omega
   go_upto_region 15 with fail;have r0':Rd w S t0.1.aD (Pp t0):=a3a t0 (a9h Zs);have n4:=a9N w4 (.cells #[.int .i64 t0.2.1, .int .i64 t0.2.2.1, .slice t0.2.2.2.1 t0.2.2.2.2.1 t0.2.2.2.2.2] 36);have m6:∀ b,b<w4.heap.size->(w4.alloc (.cells #[.int .i64 t0.2.1, .int .i64 t0.2.2.1, .slice t0.2.2.2.1 t0.2.2.2.2.1 t0.2.2.2.2.2] 36)).heap[b]?=w4.heap[b]?:=λ b hb=>a9D _ _ _ hb;have b6:Below w.heap.size w (w4.alloc (.cells #[.int .i64 t0.2.1, .int .i64 t0.2.2.1, .slice t0.2.2.2.1 t0.2.2.2.2.1 t0.2.2.2.2.2] 36)):=b4.alloc (by omega) _;have s6:(w4.alloc (.cells #[.int .i64 t0.2.1, .int .i64 t0.2.2.1, .slice t0.2.2.2.1 t0.2.2.2.2.1 t0.2.2.2.2.2] 36)).heap.size=w4.heap.size+1:=by simp
   generalize w4.alloc (.cells #[.int .i64 t0.2.1, .int .i64 t0.2.2.1, .slice t0.2.2.2.1 t0.2.2.2.2.1 t0.2.2.2.2.2] 36)=w6 at *
   have z6:=(m6 _ ZQ).trans z4;have a6n:∀ i t,D[i]?=some t->bh w6 gl (i * 4) (mZ t):=λ i t h=>(Ar i t h).aE (m6 _ a6s);have r6:Rd w6 (Sx w S (λ b=>b=w.heap.size+1+1\/b=w4.heap.size) w6) (mu ((D.map (·.1)).take 1)).aD [.int .i64 t0.2.1, .int .i64 t0.2.2.1, .slice t0.2.2.2.1 t0.2.2.2.2.1 t0.2.2.2.2.2]:=by
    have:mu ((D.map (·.1)).take 1)=t0.1:=by
     match D,Zs with
     | t::_,Zs=>cases Zs;rfl
    rw[this];exact RH _ hS b6 r0'
   clear Ar m6 a0 a1' a2' a3' c0 z4;generalize hT0:w4.heap.size=T0 at *
   go_cut [50,51,52] (λ s50 s51 s52 wx=>wx=w6/\s51 = .int .i64 ((n - 1:Nat):Int)/\s52 = .int .i64 0/\∃ o c,s50 = .slice (some ⟨gl,o,none⟩) (n - 1) c/\(n - 1=0\/o=4));case first =>
    have e1:(n:Int) - 1=((n - 1:Nat):Int):=by omega
    by_cases MS:cl=1
    .subst MS;have MZ:n=1:=by omega
     subst MZ;go_wp2;go_meet;exact⟨rfl,rfl,rfl,_,_,rfl, .inl (by simp)⟩
    .go_wp2;go_meet;exact⟨rfl,rfl,rfl,_,_,rfl, .inr rfl⟩
   case rest =>
    obtain⟨hwc,rfl,rfl,o,c,rfl,ho⟩:=hcut;cases hwc;go_wp2;go_loopw [52] (λ i wr=>∃ (j:Nat) (k' n':Int) (a':Option Addr) (l' c':Nat),i = .int .i64 j/\1+j<=n/\w6.grownBy wr (some T0)/\wr.heap[T0]?=some (.cells #[.int .i64 k', .int .i64 n', .slice a' l' c'] 36 (0,0)) /\
     Rd wr (Sx w S (λ b=>b=w.heap.size+1+1\/b=T0) wr) (mu ((D.map (·.1)).take (j+1))).aD [.int .i64 k', .int .i64 n', .slice a' l' c']) (λ i wr=>n - kN i)
    .exact⟨0,_,_,_,_,_,rfl,by omega,⟨rfl,rfl,rfl,a8C _,λ _ _ _=>rfl⟩,n4,r6⟩
    obtain⟨j,ak,an,aa,al,ac,rfl,hjn,nk,nR,OM⟩:=hrel;have br:RowKit.Below w.heap.size w wr:=b6.grown nk (by omega) (λ q e=>by have e':T0=q:=a9A e;omega);have ltr:=bn nR;have szr:=nk.size;by_cases Za:1+j<n
    .have ho4:o=4:=ho.resolve_left (by omega);subst ho4;obtain⟨t,ht⟩:∃ t,D[j+1]?=some t:=⟨_,a8H (by omega)⟩;have hct:=(a6n (j+1) t ht).aE (nk.block gl (by omega) (λ e=>by have e':gl=T0:=a9A e;omega));have y0:wr.cell? ⟨gl,4+j * 4,none⟩=some (.string ⟨(bC t.1).toArray⟩):=by have:=hct 0 _ rfl;rwa [show (j+1) * 4+0=4+j * 4 by omega] at this
     have y1:wr.cell? ⟨gl,4+j * 4+1,none⟩=some (.int .i64 t.2.1):=by have:=hct 1 _ rfl;rwa [show (j+1) * 4+1=4+j * 4+1 by omega] at this
     have y2:wr.cell? ⟨gl,4+j * 4+2,none⟩=some (.int .i64 t.2.2.1):=by have:=hct 2 _ rfl;rwa [show (j+1) * 4+2=4+j * 4+2 by omega] at this
     have y3:wr.cell? ⟨gl,4+j * 4+3,none⟩=some (.slice t.2.2.2.1 t.2.2.2.2.1 t.2.2.2.2.2):=by have:=hct 3 _ rfl;rwa [show (j+1) * 4+3=4+j * 4+3 by omega] at this
     have bj0:(0:Int)<=(j:Int):=by omega
     have bj1:(j:Int)<((n - 1:Nat):Int):=by omega
     obtain⟨⟨v0,v1',v2⟩,_,_,_⟩:=pW nR;go_upto_region 18 with fail;have rt:Rd w S t.1.aD (Pp t):=a3a t (a9h ht);have n7:=a9N wr (.cells #[.string ⟨(bC t.1).toArray⟩, .int .i64 t.2.1, .int .i64 t.2.2.1, .slice t.2.2.2.1 t.2.2.2.2.1 t.2.2.2.2.2] 138);have b7:RowKit.Below w.heap.size w (wr.alloc (.cells #[.string ⟨(bC t.1).toArray⟩, .int .i64 t.2.1, .int .i64 t.2.2.1, .slice t.2.2.2.1 t.2.2.2.2.1 t.2.2.2.2.2] 138)):=br.alloc (by omega) _;have k7:bH (λ _=>False) wr (wr.alloc (.cells #[.string ⟨(bC t.1).toArray⟩, .int .i64 t.2.1, .int .i64 t.2.2.1, .slice t.2.2.2.1 t.2.2.2.2.1 t.2.2.2.2.2] 138)):=⟨rfl,rfl,rfl,by simp,λ b hb _=>a9D _ _ _ hb⟩;have s7:(wr.alloc (.cells #[.string ⟨(bC t.1).toArray⟩, .int .i64 t.2.1, .int .i64 t.2.2.1, .slice t.2.2.2.1 t.2.2.2.2.1 t.2.2.2.2.2] 138)).heap.size=wr.heap.size+1:=by simp
     generalize wr.alloc (.cells #[.string ⟨(bC t.1).toArray⟩, .int .i64 t.2.1, .int .i64 t.2.2.1, .slice t.2.2.2.1 t.2.2.2.2.1 t.2.2.2.2.2] 138)=w7 at *
     have q0:w7.cell? ⟨wr.heap.size,1,none⟩=some (.int .i64 t.2.1):=by simp[World.cell?,n7]
     have q1:w7.cell? ⟨wr.heap.size,2,none⟩=some (.int .i64 t.2.2.1):=by simp[World.cell?,n7]
     have q2:w7.cell? ⟨wr.heap.size,3,none⟩=some (.slice t.2.2.2.1 t.2.2.2.2.1 t.2.2.2.2.2):=by simp[World.cell?,n7]
     have t7:=(k7.block _ ltr id).trans nR;obtain⟨⟨v3,v4,v5⟩,_,_,_⟩:=pW t7;have n8:=a9N w7 (.cells #[.int .i64 ak, .int .i64 an, .slice aa al ac, .int .i64 t.2.1, .int .i64 t.2.2.1, .slice t.2.2.2.1 t.2.2.2.2.1 t.2.2.2.2.2] 36);rw[s7] at n8;have sbr:=br.size;have b8:RowKit.Below w.heap.size w (w7.alloc (.cells #[.int .i64 ak, .int .i64 an, .slice aa al ac, .int .i64 t.2.1, .int .i64 t.2.2.1, .slice t.2.2.2.1 t.2.2.2.2.1 t.2.2.2.2.2] 36)):=b7.alloc (by omega) _;have k8:bH (λ _=>False) w7 (w7.alloc (.cells #[.int .i64 ak, .int .i64 an, .slice aa al ac, .int .i64 t.2.1, .int .i64 t.2.2.1, .slice t.2.2.2.1 t.2.2.2.2.1 t.2.2.2.2.2] 36)):=⟨rfl,rfl,rfl,by simp,λ b hb _=>a9D _ _ _ hb⟩;have s8:(w7.alloc (.cells #[.int .i64 ak, .int .i64 an, .slice aa al ac, .int .i64 t.2.1, .int .i64 t.2.2.1, .slice t.2.2.2.1 t.2.2.2.2.1 t.2.2.2.2.2] 36)).heap.size=w7.heap.size+1:=by simp
     have rr8:=On hS b7 k8 (On hS br k7 OM);have ry8:=RH (λ b=>b=w.heap.size+1+1\/b=T0) hS b8 rt;have hZ8:∀ b,(b=w.heap.size+1+1\/b=T0)->b<(w7.alloc (.cells #[.int .i64 ak, .int .i64 an, .slice aa al ac, .int .i64 t.2.1, .int .i64 t.2.2.1, .slice t.2.2.2.1 t.2.2.2.2.1 t.2.2.2.2.2] 36)).heap.size:=λ b h=>by rw[s8];rcases h with h|h<;>omega
     go_wp2_with (go_at_call 24;refine (TU (Z:=λ b=>b=w.heap.size+1+1\/b=T0) hS b8 hZ8 _ t.1 _ _ _ _ _ _ rr8 ry8 (wr.heap.size+1) n8 (by omega) (by omega)).mono ?_);intro e w9 fk fn fa fm fc he UM r9;subst he;have t9:=(UM.block T0 (by rw[s8];omega) id).trans ((k8.block _ (by omega) id).trans t7);obtain⟨⟨x0,x1,x2⟩,y0',y1',y2'⟩:=pW t9;have b9:=b8.trans (pE UM b8.size);go_wp2;obtain⟨z9,o9⟩:=Oh (.int .i64 fk) (.int .i64 fn) (.slice fa fm fc) t9;have s9:=UM.size;have hj:=Kh (D.map (·.1)) (j+1) t.1 (by omega) (by rw[a9R,ht];rfl);refine⟨⟨j+1,fk,fn,fa,fm,fc,by simp,by omega,⟨UM.os.trans (k7.os.trans nk.os),UM.tape.trans (k7.tape.trans nk.tape),UM.output.trans (k7.output.trans nk.output),by simp;omega,λ q hq dh=>?_⟩,z9,?_⟩,?_⟩
     .have Av:q<wr.heap.size:=by omega
      exact (o9 q (λ e=>dh (by rw[e]))).trans ((UM.block q (by rw[s8];omega) id).trans ((k8.block q (by omega) id).trans ((k7.block q Av id).trans (nk.block q hq dh))))
     .rw[hj];exact pP (Z:=λ b=>b=w.heap.size+1+1\/b=T0) hS b9 (by simp) (λ b h=>by rcases h with h|h<;>omega) (λ b _ hb=>o9 b λ e=>hb (.inr e)) (λ _ _ h=>h) r9
     .simp only[kN];omega
    .have a8j:1+j=n:=by omega
     have bjn:¬ (j:Int)<((n - 1:Nat):Int):=by omega
     have zr:=(nk.block (w.heap.size+1+1) (by omega) (λ e=>by have e':=Option.some.inj e;omega)).trans z6;obtain⟨⟨k0,k1',k2'⟩,g0,g1,g2⟩:=pW nR;obtain⟨⟨x0,x1,x2⟩,y0,y1,y2⟩:=pW zr;obtain⟨z9,o9⟩:=Oh (.int .i64 ak) (.int .i64 an) (.slice aa al ac) zr;go_wp2;refine Ea (cs:=[.int .i64 ak, .int .i64 an, .slice aa al ac]) rfl z9 rfl rfl ?_;refine⟨[.int .i64 ak, .int .i64 an, .slice aa al ac],rfl,?_,br.os,br.tape,br.output,by simpa using br.size,λ b hb _=>(o9 b (by omega)).trans (br.block b hb)⟩;(try rw[W7]);rw[show (D.map (·.1)).take (j+1)=D.map (·.1) from List.take_of_length_le (by rw[List.length_map];omega)] at OM;exact pP (Z:=λ b=>b=w.heap.size+1+1\/b=T0) hS br (by simp) (λ b h=>by rcases h with h|h<;>omega) (λ b _ hb=>o9 b λ e=>hb (.inl e)) (λ b _ h=>h.elim) OM
def qJ:aQ:=⟨zV,[.v (.st .expr), .v (.st .expr)],λ (x:J) (b:J)=>⟨(some (az x=true/\az b=true/\aj x+aj b<=7000),[⟨(.st .expr),Ly x b⟩])⟩⟩
def ES:aQ.Good qJ:=by
 refine⟨aB Il rfl (by decide),?_⟩;intro x y hp w S cC hS ha;match cC,ha with
 | [v1,v2],ha =>
  obtain⟨⟨cx,rfl,rx⟩,⟨cy,rfl,ry⟩,_⟩:=ha;refine (O6 w S hS x y hp.1 hp.2.1 hp.2.2 cx cy rx ry).mono ?_;rintro e w' ⟨cs,rfl,hr,hk⟩;exact⟨_,Sx w S (λ _=>False) w',_,rfl,rfl,hk,λ b hb=>⟨λ h=>h.elim id λ h=>by omega, .inl⟩,λ b h=>h.elim (λ h=>a8B (hS.1 b h) hk.size) λ h=>h.2.1,⟨cs,rfl,hr⟩⟩
end
end Go.Proofs.YtncejbehidimmaaGreatDoor

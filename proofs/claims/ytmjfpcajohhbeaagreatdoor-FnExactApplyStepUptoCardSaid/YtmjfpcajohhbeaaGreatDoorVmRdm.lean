/- VmShelf, VmShelf2, VmBw, VmSplit, VmWord, VmPf1, VmSame2, VmShelf3, VmCut, VmWe, VmText, VmWord2, VmRExpr, VmRExpr2, VmRdm. -/
import Derived.Test.YtmjfpcajohhbeaaGreatDoorVmBld2
import Derived.Shelf.Strings.Builder1
import Derived.Shelf.Strconv.Itoa0
import Derived.Shelf.Strconv.Itoa1
import Derived.Shelf.LaysM
import Derived.Shelf.Strconv.Itoa2
import Derived.Shelf.Strconv.Itoa3
import Derived.Shelf.Strings.Search1
import Derived.Shelf.Strings.Search2
import Derived.Shelf.Strings.Cut
import Derived.Shelf.Strings.Shaped
import Derived.Shelf.Strings.Prefix
import Derived.Test.YtmjfpcajohhbeaaGreatDoorProg
import Derived.WalkKit
import Derived.Lib.Builder
import Derived.Lib.AppendStr
import Derived.Lib.UnsafeStr
import Derived.Lib.Walk
import Derived.Lib.Strings
import Derived.Lib.Slices
import Derived.Lib.MakeNoZero
import Derived.Laws.Externs
import Derived.Laws.IdiomCopy
import Derived.BigCall
import Derived.OwnWalk
set_option linter.all false
namespace Go.Proofs
open Go.Shelf
def Tryz.OX:Go.Shelf.Ren:=⟨λ|169=>157|n=>n,λ|70=>193|9=>9|0=>0|72=>196|37=>194|127=>212|3=>3|5=>5|n=>n,λ|n=>n⟩
def Tryz.a5x:Go.Proofs.Lays.n169 Tryz.prog Tryz.OX:={
 mixed:=by kernel_rfl
 f169:=Tryz.func157.trans (congrArg some (by kernel_rfl))
 t0:=Tryz.underlying0
 a0:=Tryz.isAgg0
 z0:=Tryz.sizeOf0
 v0:=Tryz.zeroValue0
 t3:=Tryz.underlying3
 a3:=Tryz.isAgg3
 z3:=Tryz.sizeOf3
 v3:=Tryz.zeroValue3
 t9:=Tryz.underlying9
 a9:=Tryz.isAgg9
 z9:=Tryz.sizeOf9
 v9:=Tryz.zeroValue9
 t37:=Tryz.underlying194
 a37:=Tryz.isAgg194
 z37:=Tryz.sizeOf194
 v37:=Tryz.zeroValue194
 t70:=Tryz.underlying193
 a70:=Tryz.isAgg193
 z70:=Tryz.sizeOf193
 v70:=Tryz.zeroValue193
 t72:=Tryz.underlying196
 a72:=Tryz.isAgg196
 z72:=Tryz.sizeOf196
 v72:=Tryz.zeroValue196
 t127:=Tryz.underlying212
 a127:=Tryz.isAgg212
 z127:=Tryz.sizeOf212
 v127:=Tryz.zeroValue212 }
def Tryz.Lt:Builder.Extra Tryz.prog Tryz.OX:={
 sizeBuilder:=by kernel_rfl
 liesBuilder:=by kernel_rfl
 t5:=Tryz.underlying5
 a5:=Tryz.isAgg5
 z5:=Tryz.sizeOf5
 v5:=Tryz.zeroValue5
 infoByte:=by kernel_rfl
 cellsByte:=by kernel_rfl
 sizeByte:=by kernel_rfl
 neB5:=by decide }
open Go.RowKit in
def Tryz.Builder_String_any(B b:Nat)(l:List UInt8)(w:World)(h:Lib.IsBuilder 196 5 B b (Lib.byteCells l) w)(mL:B<=w.heap.size) :
  Calls Tryz.prog 157 #[.pointer (some ⟨b,0,none⟩)] w λ e w'=>e = .returned (.string ⟨l.toArray⟩)/\Below B w w':=Any.Builder_String_any Tryz.a5x Tryz.Lt B b l w h mL
def Tryz.Y9:Go.Shelf.Ren:=⟨λ|246=>175|283=>176|284=>177|285=>178|286=>179|129=>181|317=>180|318=>182|319=>183|320=>184|337=>185|338=>186|n=>n,λ|2=>2|3=>3|9=>9|4=>4|171=>220|0=>0|53=>221|37=>194|5=>5|173=>224|212=>227|51=>213|20=>20|213=>228|46=>203|232=>232|233=>233|n=>n,λ|17=>1|18=>2|19=>3|n=>n⟩
def Tryz.a5y:Go.Proofs.Lays.n246 Tryz.prog Tryz.Y9:={
 mixed:=by kernel_rfl
 f129:=Tryz.func181.trans (congrArg some (by kernel_rfl))
 f246:=Tryz.func175.trans (congrArg some (by kernel_rfl))
 f283:=Tryz.func176.trans (congrArg some (by kernel_rfl))
 f284:=Tryz.func177.trans (congrArg some (by kernel_rfl))
 f285:=Tryz.func178.trans (congrArg some (by kernel_rfl))
 f286:=Tryz.func179.trans (congrArg some (by kernel_rfl))
 f317:=Tryz.func180.trans (congrArg some (by kernel_rfl))
 f318:=Tryz.func182.trans (congrArg some (by kernel_rfl))
 f319:=Tryz.func183.trans (congrArg some (by kernel_rfl))
 f320:=Tryz.func184.trans (congrArg some (by kernel_rfl))
 f337:=Tryz.func185.trans (congrArg some (by kernel_rfl))
 f338:=Tryz.func186.trans (congrArg some (by kernel_rfl))
 t0:=Tryz.underlying0
 a0:=Tryz.isAgg0
 z0:=Tryz.sizeOf0
 v0:=Tryz.zeroValue0
 t2:=Tryz.underlying2
 a2:=Tryz.isAgg2
 z2:=Tryz.sizeOf2
 v2:=Tryz.zeroValue2
 t3:=Tryz.underlying3
 a3:=Tryz.isAgg3
 z3:=Tryz.sizeOf3
 v3:=Tryz.zeroValue3
 t4:=Tryz.underlying4
 a4:=Tryz.isAgg4
 z4:=Tryz.sizeOf4
 v4:=Tryz.zeroValue4
 t5:=Tryz.underlying5
 a5:=Tryz.isAgg5
 z5:=Tryz.sizeOf5
 v5:=Tryz.zeroValue5
 t9:=Tryz.underlying9
 a9:=Tryz.isAgg9
 z9:=Tryz.sizeOf9
 v9:=Tryz.zeroValue9
 t20:=Tryz.underlying20
 a20:=Tryz.isAgg20
 z20:=Tryz.sizeOf20
 v20:=Tryz.zeroValue20
 t37:=Tryz.underlying194
 a37:=Tryz.isAgg194
 z37:=Tryz.sizeOf194
 v37:=Tryz.zeroValue194
 t46:=Tryz.underlying203
 a46:=Tryz.isAgg203
 z46:=Tryz.sizeOf203
 v46:=Tryz.zeroValue203
 t51:=Tryz.underlying213
 a51:=Tryz.isAgg213
 z51:=Tryz.sizeOf213
 v51:=Tryz.zeroValue213
 t53:=Tryz.underlying221
 a53:=Tryz.isAgg221
 z53:=Tryz.sizeOf221
 v53:=Tryz.zeroValue221
 t171:=Tryz.underlying220
 a171:=Tryz.isAgg220
 z171:=Tryz.sizeOf220
 v171:=Tryz.zeroValue220
 t173:=Tryz.underlying224
 a173:=Tryz.isAgg224
 z173:=Tryz.sizeOf224
 v173:=Tryz.zeroValue224
 t212:=Tryz.underlying227
 a212:=Tryz.isAgg227
 z212:=Tryz.sizeOf227
 v212:=Tryz.zeroValue227
 t213:=Tryz.underlying228
 a213:=Tryz.isAgg228
 z213:=Tryz.sizeOf228
 t232:=Tryz.underlying232
 a232:=Tryz.isAgg232
 z232:=Tryz.sizeOf232
 v232:=Tryz.zeroValue232
 t233:=Tryz.underlying233
 a233:=Tryz.isAgg233
 z233:=Tryz.sizeOf233
 v233:=Tryz.zeroValue233
 g17:=by kernel_rfl
 g18:=by kernel_rfl
 g19:=by kernel_rfl }
open Go.RowKit Go.Sort Go.Lib in
def Tryz.internal_strconv_FormatInt_10_small(i:Nat)(hi:i<100)(w:World) :
  Calls Tryz.prog 175 #[.int .i64 i, .int .i64 10] w λ e w'=>e = .returned (.string ⟨(Lib.decDigits i).toArray⟩)/\w'=w:=Any.internal_strconv_FormatInt_10_small Tryz.a5y i hi w
end Go.Proofs



set_option maxRecDepth 4000
set_option maxHeartbeats 4000000
namespace Go.Proofs.YtmjfpcajohhbeaaGreatDoor
open Go.RowKit Go.Proofs
def b4q:=@Go.Oper.upon_value
def b3u:=@Go.Lib.cell_of_heap
def b3m:=@Bool.and_eq_false_iff
def b0W:=@Bool.true_eq_false
def b4J:=@Go.Lib.size_eq
def b4K:=@Nat.le_succ
def b3X:=@UInt8.toNat_ofNat'
def b3x:=@List.drop_succ_cons
def b1y:=@decide_true
def b4b:=@Bool.and_self
def b3Y:=@cond_true
def b1s:=@decide_false
def b1g:=@not_true_eq_false
def b1h:=@not_false_eq_true
def b1m:=@false_implies
def b1t:=@true_implies
def b1O:=@Bool.eq_false_or_eq_true
def b3d:=@Bool.and_true
def ZN:(Tryz.prog.info? 196).map (·.size)=some 2:=by kernel_rfl
def a4H:liesAt Tryz.prog Tryz.prog.depth 196 (2 / Tryz.prog.cellsOf 196) 0 196 1=true:=by kernel_rfl
def a4G:(Tryz.prog.info? 5).map (λ i=>(i.zero,i.size,i.bytes))=some (some (.int .u8 0),1,1):=by kernel_rfl
def mV(b:Nat)(w w':World):Prop:=∀ k cs T fz,w.heap[k]?=some (.cells cs T fz)->T≠5->k≠b->w'.heap[k]?=w.heap[k]?
def mV.refl(b:Nat)(w:World):mV b w w:=λ _ _ _ _ _ _ _=>rfl
def mV.trans{b:Nat}{w w1 w2:World}(h:mV b w w1)(k:mV b w1 w2):mV b w w2:=λ i cs T fz hi hT hb=>by
 have e:=h i cs T fz hi hT hb;rw[k i cs T fz (e.trans hi) hT hb,e]
def mV.setCell{b:Nat}{w w1:World}(h:mV b w w1)(o:Nat)(v:Value):mV b w (w1.setCell ⟨b,o,none⟩ v):=λ i cs T fz hi hT hb=>by
 rw[Below.heap_setCell w1 _ v i hb];exact h i cs T fz hi hT hb
def bP{w:World}{k:Nat}{x:Obj}(h:w.heap[k]?=some x):k<w.heap.size:=by
 rcases b1R k w.heap.size with h'|h'
 .exact h'
 .simp[b2j h'] at h
def mV.alloc{b:Nat}{w w1:World}(h:mV b w w1)(o:Obj):mV b w (w1.alloc o):=λ i cs T fz hi hT hb=>by
 have e:=h i cs T fz hi hT hb;rw[<-e];exact Lib.alloc_old w1 o i (bP (e.trans hi))
set_option maxRecDepth 100000 in
def SO(b:Nat)(w:World)(h0:w.cell? ⟨b,0,none⟩=some (.pointer (some ⟨b,0,none⟩))) :
  Calls Tryz.prog 172 #[.pointer (some ⟨b,0,none⟩)] w λ e w'=>e = .returned (.tuple #[])/\w'=w:=by
 obtain⟨j,hj,_⟩:=b1M.1 ZN;go_enter Tryz.func172,Tryz.ntmps172;go_wp2;rw[Lib.run_neq_ptr_same w _ Tryz.underlying193 hj];go_wp2;go_end0;exact⟨rfl,rfl⟩
set_option maxRecDepth 100000 in
def Qn(b:Nat)(w:World)(h0:w.cell? ⟨b,0,none⟩=some (.pointer none))(Kj:w.shape? b=some (196,2))(hfz:w.frozen? ⟨b,0,none⟩=false) :
  Calls Tryz.prog 172 #[.pointer (some ⟨b,0,none⟩)] w λ e w'=>e = .returned (.tuple #[])/\w'=w.setCell ⟨b,0,none⟩ (.pointer (some ⟨b,0,none⟩)):=by
 obtain⟨j,hj,hjs⟩:=b1M.1 ZN;go_enter Tryz.func172,Tryz.ntmps172;go_wp2;rw[Lib.run_to_unsafe w ⟨b,0,none⟩ Tryz.underlying193 Tryz.underlying217 hj (by rw[hjs];decide) Kj (Nat.zero_lt_succ 1)];simp only[Result.andThen];rw[b4q];go_wp2;rw[run_callFunc_extern Tryz.func174 (by kernel_rfl) (by kernel_rfl) (by kernel_rfl) (e:=Extern.AbiNoEscape.same) (by kernel_rfl)];rw[Lib.run_noEscape];simp only[Result.andThen];rw[b4q];go_wp2;rw[Lib.run_from_unsafe w ⟨b,0,none⟩ Tryz.underlying217 Tryz.underlying193 hj Kj a4H];simp only[Result.andThen];rw[b4q];go_wp2;go_end0;exact⟨rfl,rfl⟩
def a1j(B b:Nat)(bs:List Value)(w:World)(h:Lib.IsBuilder 196 5 B b bs w) :
  Calls Tryz.prog 172 #[.pointer (some ⟨b,0,none⟩)] w λ e w'=>e = .returned (.tuple #[])/\(Lib.BuilderAt 196 5 B b (.pointer (some ⟨b,0,none⟩)) bs w'/\Below B w w'/\mV b w w'):=by
 rcases h with h|h
 .refine (Qn b w h.cell0 h.shape h.frozen0).mono ?_;rintro e w' ⟨rfl,rfl⟩;exact⟨rfl,h.used _,(Below.refl B w).setCell (p:=⟨b,0,none⟩) h.1 _,(mV.refl b w).setCell 0 _⟩
 .refine (SO b w h.cell0).mono ?_;rintro e w' ⟨rfl,rfl⟩;exact⟨rfl,h,Below.refl B _,mV.refl b _⟩
set_option maxRecDepth 100000 in
def writeString(B b:Nat)(bs:List Value)(s:ByteArray)(w:World)(h:Lib.IsBuilder 196 5 B b bs w)(hlen:bs.length+s.size<=140737488355328)(mL:B<=w.heap.size) :
  Calls Tryz.prog 167 #[.pointer (some ⟨b,0,none⟩), .string s] w λ e w'=>e = .returned (.tuple #[.int .i64 s.size, .nilIface])/\(Lib.IsBuilder 196 5 B b (bs++Lib.strCells s) w'/\Below B w w'/\mV b w w'):=by
 obtain⟨i0,hi,hz⟩:=b1M.1 a4G;simp only[b0O] at hz;obtain⟨hz0,hz1,hz2⟩:=hz;go_enter Tryz.func167,Tryz.ntmps167;go_wp2_with (go_at_call 172;refine (a1j B b bs _ h).mono ?_);rintro e w1 ⟨rfl,h1,E7,QB⟩;obtain⟨hB,v,hbk,wU,gU⟩:=h1;have c0:w1.cell? ⟨b,0,none⟩=some (.pointer (some ⟨b,0,none⟩)):=by rw[b3u hbk];rfl
 have c1:w1.cell? ⟨b,1,none⟩=some v:=by rw[b3u hbk];rfl
 go_wp2_with (at_builtin;refine Lib.wpList_append_own_string _ rfl _ _ 194 9 rfl B 5 i0 Tryz.underlying194 Tryz.underlying9 hi hz0 hz1 hz2 _ _ _ rfl wU s rfl ?c3 ?c4 ?c5 ?_);case c3=>unfold maxLen;omega
 case c4=>omega
 case c5=>have:=E7.size;omega
 intro v' w2 a5j a1z _;have bX:b<w1.heap.size:=bP hbk;have Mn:w2.heap[b]?=some (.cells #[.pointer (some ⟨b,0,none⟩),v] 196 (0,0)):=by
  rw[a1z.block b bX (λ e=>gU e.symm)];exact hbk
 have d0:w2.cell? ⟨b,0,none⟩=some (.pointer (some ⟨b,0,none⟩)):=by rw[b3u Mn];rfl
 have d1:w2.cell? ⟨b,1,none⟩=some v:=by rw[b3u Mn];rfl
 have f1:w2.frozen? ⟨b,1,none⟩=false:=Lib.frozen_of_heap Mn 1;have hk2:mV b w1 w2:=λ i cs T fz hi hT hib=>a1z.block i (bP hi) λ e=>by
  rcases wU.2 with ⟨hv,_⟩|⟨g,cap,cur,hv,_,hg,_⟩
  .rw[hv] at e;cases e
  .rw[hv] at e;injection e with e;subst e;rw[hg] at hi;simp only[b0L,Obj.cells.injEq] at hi;exact hT hi.2.1.symm
 obtain⟨ao,n',cap,rfl⟩:∃ ao n' cap,v' = .slice ao n' cap:=by
  rcases a5j.2 with ⟨hv,_⟩|⟨g,cap,cur,hv,_⟩
  .exact⟨_,_,_,hv⟩
  .exact⟨_,_,_,hv⟩
 go_wp2;go_ret2;refine⟨rfl,?_,?_,?_⟩
 .exact Or.inr (Lib.BuilderAt.put (T:=196) (e:=5) hB Mn (bs':=bs++Lib.strCells s) (by simpa [Lib.strCells_length] using a5j) (by decide))
 .exact (E7.grown a1z (by have:=E7.size;omega) (λ k hk=>(wU.lt k hk).1)).setCell (p:=⟨b,1,none⟩) hB _
 .exact (QB.trans hk2).setCell 1 _
end Go.Proofs.YtmjfpcajohhbeaaGreatDoor

set_option maxRecDepth 4000
set_option maxHeartbeats 4000000
namespace Go.Proofs.YtmjfpcajohhbeaaGreatDoor
noncomputable section
open Go.RowKit Go.Proofs
def bt(n:Int):UInt8:=UInt8.ofNat n.toNat
def dA:aQ:=⟨gN,[.v .str, .v .str],λ (s:List UInt8) (p:List UInt8)=>⟨(none,[⟨.bool,decide (p.length<=s.length)&&decide (s.take p.length=p)⟩])⟩⟩
def lG(s:List UInt8)(p:List UInt8):Nat->aM:=λ _ => .none
def tE(s:List UInt8)(p:List UInt8):ck (aZ []) (az c7) (lG s p) 0 (bx (aZ []) c7 λ r=>bB r [⟨.bool,decide (p.length<=s.length)&&decide (s.take p.length=p)⟩]) (aL c7 [.val ⟨.str,s⟩, .val ⟨.str,p⟩]) =
 ((U ((s.length:Int)) ->
 (U ((p.length:Int)) ->
 (((decide (((p.length:Int))<=((s.length:Int))))=true ->
 (U ((p.length:Int)) ->
 (cM (0:Int) ((p.length:Int)) s.length/\(decide (((s.take (Int.toNat ((p.length:Int)))).drop 0)=p))=(decide (p.length<=s.length)&&decide (s.take p.length=p)))))/\((decide (((p.length:Int))<=((s.length:Int))))=(!true) ->
 false=(decide (p.length<=s.length)&&decide (s.take p.length=p))))))):=by kernel_rfl
def tz(hE:aI []):aQ.Good dA:=by
 refine⟨aA kP rfl (by decide),?_⟩;show ∀ (s:List UInt8) (p:List UInt8),True->bC prog gN [.val ⟨.str,s⟩, .val ⟨.str,p⟩] (·=[⟨.bool,decide (p.length<=s.length)&&decide (s.take p.length=p)⟩]);intro s p _;refine bg (wr:=[]) (cl:=[]) (ro:=[]) hE kP rQ (lG s p) ?_;rewrite [tE s p];refine λ _ _=>⟨λ _ _=>⟨?_,?_⟩,λ _=>?_⟩;all_goals try and_intros
 all_goals first|rfl|trivial|omega|(simp only[b0N,b0M,aC,U,cM,bF,b1l,b0Z,b1n] at *;first|omega|grind)|grind
def rS:aQ.Good dA:=tz trivial
def je:aQ:=⟨qR,[.v .str, .v .str],λ (s:List UInt8) (p:List UInt8)=>⟨(none,[⟨.bool,decide (p.length<=s.length)&&decide (s.take p.length=p)⟩])⟩⟩
def xo(s:List UInt8)(p:List UInt8):Nat->aM:=λ _ => .none
def Hn(s:List UInt8)(p:List UInt8):ck (aZ [dA]) (az gG) (xo s p) 0 (bx (aZ [dA]) gG λ r=>bB r [⟨.bool,decide (p.length<=s.length)&&decide (s.take p.length=p)⟩]) (aL gG [.val ⟨.str,s⟩, .val ⟨.str,p⟩]) =
 ((decide (p.length<=s.length)&&decide (s.take p.length=p))=(decide (p.length<=s.length)&&decide (s.take p.length=p))):=by kernel_rfl
def Hd(hE:aI [dA]):aQ.Good je:=by
 refine⟨aA vu rfl (by decide),?_⟩;show ∀ (s:List UInt8) (p:List UInt8),True->bC prog qR [.val ⟨.str,s⟩, .val ⟨.str,p⟩] (·=[⟨.bool,decide (p.length<=s.length)&&decide (s.take p.length=p)⟩]);intro s p _;refine bg (wr:=[]) (cl:=[]) (ro:=[]) hE vu DE (xo s p) ?_;rewrite [Hn s p];refine ?_;all_goals try and_intros
 all_goals first|rfl|trivial|omega|(simp only[b0N,b0M,aC,U,cb,cM,ca,bF] at *;omega)|(simp[aC,U] at *;omega)|grind
def DS:aQ.Good je:=Hd ⟨rS,af⟩
end
end Go.Proofs.YtmjfpcajohhbeaaGreatDoor

set_option maxRecDepth 4000
set_option maxHeartbeats 4000000
namespace Go.Proofs.YtmjfpcajohhbeaaGreatDoor
noncomputable section
def iR(b:UInt8):Bool:=decide (48<=b.toNat)&&decide (b.toNat<=57)
def jm(s:List UInt8):Int:=s.foldl (λ n b=>n * 10+((b.toNat:Int) - 48)) 0
def mD(m:Int)(s:List UInt8):Bool:=decide (1<=s.length)&&decide ((s.length:Int)<=m) && !(decide (1<s.length)&&decide ((s.getD 0 0).toNat=48))&&bE iR s
def jz(m:Int)(s:List UInt8):Int:=bif mD m s then jm s else 0
def UC(s:List UInt8)(k:Nat)(h:k<s.length):jm (s.take (k+1))=jm (s.take k) * 10+(((s.getD k 0).toNat:Int) - 48):=by
 rw[fM 0 s k h];simp[jm,List.foldl_append]
def ZU:∀ (k:Nat) (s:List UInt8),k<=s.length->bE iR (s.take k)=true->0<=jm (s.take k)/\jm (s.take k)<10 ^ k
 | 0,s,_,_=>by simp[jm]
 | k+1,s,h,ha=>by
  have h1:=dU iR 0 s k (by omega);rw[ha] at h1;have h1':=h1.symm;simp only[b0R] at h1';obtain⟨h2,h3⟩:=h1';have ih:=ZU k s (by omega) h2;rw[UC s k (by omega)];simp only[iR,b0R,b0N] at h3;have:(10:Int) ^ (k+1)=10 ^ k * 10:=by rw[Int.pow_succ]
  omega
def ZV(s:List UInt8)(k:Nat)(h:k<=s.length)(h9:s.length<=9)(ha:bE iR (s.take k)=true):0<=jm (s.take k)/\jm (s.take k)<=1000000000:=by
 have:=ZU k s h ha;have h2:(10:Int) ^ k<=10 ^ 9:=by
  have:(10:Nat) ^ k<=10 ^ 9:=Nat.pow_le_pow_right (by decide) (by omega);exact_mod_cast this
 omega
def a2y(s:List UInt8)(k:Nat):iR (s.getD k 0)=(decide (48<=(s.getD k 0).toNat)&&decide ((s.getD k 0).toNat<=57)):=rfl
def a6V:IntKind.u8.min=0:=rfl
def a6U:IntKind.u8.max=255:=rfl
def a1D(n:Int):cb .u8 n↔0<=n/\n<=255:=b2L
def Y3(n:Int):cb .i64 n↔U n:=b2L
def Eu(m:Int)(s:List UInt8):mD m s=(decide (1<=s.length)&&decide ((s.length:Int)<=m) && !(decide (1<s.length)&&decide ((s.getD 0 0).toNat=48))&&bE iR s):=rfl
def a2P(m:Int)(s:List UInt8)(h:¬ (1<=s.length/\(s.length:Int)<=m/\¬ (1<s.length/\(s.getD 0 0).toNat=48))):jz m s=0/\mD m s=false:=by
 have e:mD m s=false:=by
  cases hb:mD m s with
  | false=>rfl
  | true =>
   rw[Eu] at hb;simp only[b0R,b0N,b1i,b3m,b0M] at hb;exact absurd ⟨hb.1.1.1,hb.1.1.2,λ h=>by rcases hb.1.2 with g|g<;>omega⟩ h
 exact⟨by simp[jz,e],e⟩
structure IL(m:Int)(s:List UInt8)(k:Nat):Prop where
 len:k<=s.length/\s.length<=9
 ok:1<=s.length/\(s.length:Int)<=m/\¬ (1<s.length/\(s.getD 0 0).toNat=48)
 all:bE iR (s.take k)=true
def a3I(m:Int)(s:List UInt8)(h:1<=s.length/\(s.length:Int)<=m/\¬ (1<s.length/\(s.getD 0 0).toNat=48))(hm:m<=9):IL m s 0 :=
 ⟨⟨by omega,by omega⟩,h,by simp[bE]⟩
def a0u(m:Int)(s:List UInt8)(k:Nat)(h:IL m s k)(hk:k<s.length)(hb:(s.getD k 0).toNat<48\/57<(s.getD k 0).toNat):jz m s=0/\mD m s=false:=by
 have e:bE iR s=false:=eZ iR 0 s k hk (by rw[a2y,b3m,b0M,b0M];omega);have e':mD m s=false:=by rw[Eu,e];simp
 exact⟨by simp[jz,e'],e'⟩
def QO(m:Int)(s:List UInt8)(k:Nat)(h:IL m s k)(hk:k<s.length)(h1:48<=(s.getD k 0).toNat)(h2:(s.getD k 0).toNat<=57):IL m s (k+1)/\jm (s.take (k+1))=jm (s.take k) * 10+(((s.getD k 0).toNat:Int) - 48) :=
 ⟨⟨⟨hk,h.len.2⟩,h.ok,by rw[dU iR 0 s k hk,h.all,a2y,b1A h1,b1A h2];rfl⟩,UC s k hk⟩
def a0v(m:Int)(s:List UInt8)(k:Nat)(h:IL m s k)(hk:s.length<=k):jz m s=jm (s.take k)/\mD m s=true:=by
 have e:s.take k=s:=b1v hk;have ha:=h.all;rw[e] at ha;have e':mD m s=true:=by
  rw[Eu,ha];have:=h.ok;simp only[b0R,b0N,b1i,b3m,b0M];exact⟨⟨⟨this.1,this.2.1⟩,(b1R 1 s.length).elim (λ g => .inr (by omega)) (λ g => .inl (by omega))⟩,af⟩
 exact⟨by rw[e];simp[jz,e'],e'⟩
def a6H(m:Int)(s:List UInt8)(k:Nat)(h:IL m s k):k<=s.length/\0<=jm (s.take k)/\jm (s.take k)<=1000000000 :=
 ⟨h.len.1,ZV s k h.len.1 h.len.2 h.all⟩
def mo:aQ:=⟨vf,[.v .str],λ (s:List UInt8)=>⟨(none,[⟨(.int .i64),jz 9 s⟩,⟨.bool,mD 9 s⟩])⟩⟩
def B4(s:List UInt8):Nat->aM:=(λ zb=>if Nat.beq zb 0 then .mk (Nat) (λ k=>IL 9 s k) (λ k=>s.length - k) [] [1,6,7,8,9,10,11,12,13,14,15,16,17,18,19,20,21,22,23] (λ k=>[(5, .aT ⟨(.int .i64),((k:Int):Int)⟩),(4, .aT ⟨(.int .i64),(jm (s.take k):Int)⟩)]) [0,2,3,4,5,24,25,26,27,28,29,30,31,32,33,34,35,36,37,38,39,40,41,42,43,44,45,46,47,48] (λ k=>[]) [] [] (λ k=>λ _ => .none) else .none)
abbrev yw(s:List UInt8)(k1:Nat):Prop:=(U ((jm (s.take k1)) * (10:Int))/\(aC (k1:Int) s.length/\(cb .u8 ((((s.getD k1 0).toNat:Int)) - (48:Int))/\(U ((((s.getD k1 0).toNat:Int)) - (48:Int))/\(U (((jm (s.take k1)) * (10:Int))+((((s.getD k1 0).toNat:Int)) - (48:Int)))/\(U ((k1:Int)+(1:Int))/\(∃ k2:Nat,(IL 9 s k2/\(s.length - k2<s.length - k1/\((s=s/\((((jm (s.take k1)) * (10:Int))+((((s.getD k1 0).toNat:Int)) - (48:Int)))=(jm (s.take k2))/\(((k1:Int)+(1:Int))=(k2:Int)/\True)))/\True))))))))))
abbrev mS(s:List UInt8):Prop:=((∃ k1:Nat,(IL 9 s k1/\((s=s/\((0:Int)=(jm (s.take k1))/\((0:Int)=(k1:Int)/\True)))/\True)))/\(∀ k1:Nat,(IL 9 s k1 ->
 (U ((s.length:Int)) ->
 (((decide ((k1:Int)<((s.length:Int))))=true ->
 (aC (k1:Int) s.length/\(((decide ((((s.getD k1 0).toNat:Int))<(48:Int)))=false ->
 (aC (k1:Int) s.length/\(((decide ((57:Int)<(((s.getD k1 0).toNat:Int))))=true ->
 ((0:Int)=(jz 9 s)/\false=(mD 9 s)))/\((decide ((57:Int)<(((s.getD k1 0).toNat:Int))))=false ->
 (yw s k1)))))/\((decide ((((s.getD k1 0).toNat:Int))<(48:Int)))=(!false) ->
 ((true=true ->
 ((0:Int)=(jz 9 s)/\false=(mD 9 s)))/\(true=false ->
 (yw s k1)))))))/\((decide ((k1:Int)<((s.length:Int))))=false ->
 ((jm (s.take k1))=(jz 9 s)/\true=(mD 9 s))))))))
abbrev yx(s:List UInt8):Prop:=(aC (0:Int) s.length/\(((decide ((((s.getD 0 0).toNat:Int))=(48:Int)))=true ->
 (U ((s.length:Int)) ->
 (((decide ((1:Int)<((s.length:Int))))=true ->
 ((0:Int)=(jz 9 s)/\false=(mD 9 s)))/\((decide ((1:Int)<((s.length:Int))))=false ->
 (mS s)))))/\((decide ((((s.getD 0 0).toNat:Int))=(48:Int)))=(!true) ->
 ((false=true ->
 ((0:Int)=(jz 9 s)/\false=(mD 9 s)))/\(false=false ->
 (mS s))))))
def Nc(s:List UInt8):ck (aZ []) (az jv) (B4 s) 0 (bx (aZ []) jv λ r=>bB r [⟨(.int .i64),jz 9 s⟩,⟨.bool,mD 9 s⟩]) (aL jv [.val ⟨.str,s⟩]) =
 ((U ((s.length:Int)) ->
 (((decide (((s.length:Int))<(1:Int)))=false ->
 (U ((s.length:Int)) ->
 (((decide ((9:Int)<((s.length:Int))))=false ->
 (yx s))/\((decide ((9:Int)<((s.length:Int))))=(!false) ->
 ((true=true ->
 ((0:Int)=(jz 9 s)/\false=(mD 9 s)))/\(true=false ->
 (mS s)))))))/\((decide (((s.length:Int))<(1:Int)))=(!false) ->
 ((true=false ->
 (yx s))/\(true=(!false) ->
 ((true=true ->
 ((0:Int)=(jz 9 s)/\false=(mD 9 s)))/\(true=false ->
 (mS s))))))))):=by kernel_rfl
def MM(hE:aI []):aQ.Good mo:=by
 refine⟨aA zr rfl (by decide),?_⟩;show ∀ (s:List UInt8),True->bC prog vf [.val ⟨.str,s⟩] (·=[⟨(.int .i64),jz 9 s⟩,⟨.bool,mD 9 s⟩]);intro s _;refine bg (wr:=[]) (cl:=[]) (ro:=[]) hE zr HL (B4 s) ?_;rewrite [Nc s];have f1:jm (s.take 0)=0:=by simp[jm]
 refine λ _=>⟨λ _ _=>⟨λ _=>⟨?_,λ _ _=>⟨λ _=>⟨?_,?_⟩,λ _=>⟨⟨0,?_,⟨rfl,?_,?_,af⟩,af⟩,λ k1 _ _=>⟨λ _=>⟨?_,λ _=>⟨?_,λ _=>⟨?_,?_⟩,λ _=>⟨?_,?_,?_,?_,?_,?_,k1+1,?_,?_,⟨rfl,?_,?_,af⟩,af⟩⟩,λ _=>⟨λ _=>⟨?_,?_⟩,λ _=>⟨?_,?_,?_,?_,?_,?_,k1+1,?_,?_,⟨rfl,?_,?_,af⟩,af⟩⟩⟩,λ _=>⟨?_,?_⟩⟩⟩⟩,λ _=>⟨λ _=>⟨?_,?_⟩,λ _=>⟨⟨0,?_,⟨rfl,?_,?_,af⟩,af⟩,λ k1 _ _=>⟨λ _=>⟨?_,λ _=>⟨?_,λ _=>⟨?_,?_⟩,λ _=>⟨?_,?_,?_,?_,?_,?_,k1+1,?_,?_,⟨rfl,?_,?_,af⟩,af⟩⟩,λ _=>⟨λ _=>⟨?_,?_⟩,λ _=>⟨?_,?_,?_,?_,?_,?_,k1+1,?_,?_,⟨rfl,?_,?_,af⟩,af⟩⟩⟩,λ _=>⟨?_,?_⟩⟩⟩⟩⟩,λ _=>⟨λ _=>⟨?_,?_⟩,λ _=>⟨⟨0,?_,⟨rfl,?_,?_,af⟩,af⟩,λ k1 _ _=>⟨λ _=>⟨?_,λ _=>⟨?_,λ _=>⟨?_,?_⟩,λ _=>⟨?_,?_,?_,?_,?_,?_,k1+1,?_,?_,⟨rfl,?_,?_,af⟩,af⟩⟩,λ _=>⟨λ _=>⟨?_,?_⟩,λ _=>⟨?_,?_,?_,?_,?_,?_,k1+1,?_,?_,⟨rfl,?_,?_,af⟩,af⟩⟩⟩,λ _=>⟨?_,?_⟩⟩⟩⟩⟩,λ _=>⟨λ _=>⟨?_,λ _ _=>⟨λ _=>⟨?_,?_⟩,λ _=>⟨⟨0,?_,⟨rfl,?_,?_,af⟩,af⟩,λ k1 _ _=>⟨λ _=>⟨?_,λ _=>⟨?_,λ _=>⟨?_,?_⟩,λ _=>⟨?_,?_,?_,?_,?_,?_,k1+1,?_,?_,⟨rfl,?_,?_,af⟩,af⟩⟩,λ _=>⟨λ _=>⟨?_,?_⟩,λ _=>⟨?_,?_,?_,?_,?_,?_,k1+1,?_,?_,⟨rfl,?_,?_,af⟩,af⟩⟩⟩,λ _=>⟨?_,?_⟩⟩⟩⟩,λ _=>⟨λ _=>⟨?_,?_⟩,λ _=>⟨⟨0,?_,⟨rfl,?_,?_,af⟩,af⟩,λ k1 _ _=>⟨λ _=>⟨?_,λ _=>⟨?_,λ _=>⟨?_,?_⟩,λ _=>⟨?_,?_,?_,?_,?_,?_,k1+1,?_,?_,⟨rfl,?_,?_,af⟩,af⟩⟩,λ _=>⟨λ _=>⟨?_,?_⟩,λ _=>⟨?_,?_,?_,?_,?_,?_,k1+1,?_,?_,⟨rfl,?_,?_,af⟩,af⟩⟩⟩,λ _=>⟨?_,?_⟩⟩⟩⟩⟩,λ _=>⟨λ _=>⟨?_,?_⟩,λ _=>⟨⟨0,?_,⟨rfl,?_,?_,af⟩,af⟩,λ k1 _ _=>⟨λ _=>⟨?_,λ _=>⟨?_,λ _=>⟨?_,?_⟩,λ _=>⟨?_,?_,?_,?_,?_,?_,k1+1,?_,?_,⟨rfl,?_,?_,af⟩,af⟩⟩,λ _=>⟨λ _=>⟨?_,?_⟩,λ _=>⟨?_,?_,?_,?_,?_,?_,k1+1,?_,?_,⟨rfl,?_,?_,af⟩,af⟩⟩⟩,λ _=>⟨?_,?_⟩⟩⟩⟩⟩⟩;all_goals try and_intros
 all_goals first|rfl|trivial|omega|((try simp only[b0X,b0U,b0N,b0M,aC,a1D,Y3,U,a6V,a6U] at *);first|omega|exact (a2P 9 s (by omega)).1.symm|exact (a2P 9 s (by omega)).2.symm|exact a3I 9 s (by omega) (by omega)|(have hq:IL 9 s k1:=(by with_reducible assumption);have hl:=a6H 9 s k1 hq;first|omega|exact (a0u 9 s k1 hq (by omega) (by omega)).1.symm|exact (a0u 9 s k1 hq (by omega) (by omega)).2.symm|exact (QO 9 s k1 hq (by omega) (by omega) (by omega)).1|exact (QO 9 s k1 hq (by omega) (by omega) (by omega)).2.symm|(rw[(QO 9 s k1 hq (by omega) (by omega) (by omega)).2];omega)|exact (a0v 9 s k1 hq (by omega)).1.symm|exact (a0v 9 s k1 hq (by omega)).2.symm))
def H6:aQ.Good mo:=MM trivial
def rM(b n:Int):Bool:=decide (0<=n/\n<=b - 1)
def a5n(b n:Int):rM b n=decide (0<=n/\n<=b - 1):=rfl
def pk:aQ:=⟨xT,[.v (.slice (.int .i64)), .v (.int .i64)],λ (xs:List Int) (below:Int)=>⟨(some (0<=below/\below<=4096),[⟨.bool,bE (rM below) xs⟩])⟩⟩
def Gc(xs:List Int)(below:Int):Nat->aM:=(λ zb=>if Nat.beq zb 0 then .mk (Nat) (λ k=>k<=xs.length/\bE (rM below) (xs.take k)=true) (λ k=>xs.length - k) [] [0,2,3,5] (λ k=>[(9, .aT ⟨(.int .i64),((k:Int):Int)⟩)]) [1,4,6,7,8,9,10,11,12,13,14,15,16,17,18] (λ k=>[]) [] [] (λ k=>λ _ => .none) else .none)
def Ro(xs:List Int)(below:Int):ck (aZ [cu]) (az lI) (Gc xs below) 0 (bx (aZ [cu]) lI λ r=>bB r [⟨.bool,bE (rM below) xs⟩]) (aL lI [.val ⟨(.slice (.int .i64)),xs⟩, .val ⟨(.int .i64),below⟩]) =
 ((U ((xs.length:Int)) ->
 ((∃ k1:Nat,((k1<=xs.length/\bE (rM below) (xs.take k1)=true)/\((below=below/\(xs=xs/\(((xs.length:Int))=((xs.length:Int))/\((0:Int)=(k1:Int)/\True))))/\True)))/\(∀ k1:Nat,((k1<=xs.length/\bE (rM below) (xs.take k1)=true) ->
 (((decide ((k1:Int)<((xs.length:Int))))=true ->
 (aC (k1:Int) xs.length/\(U (xs.getD k1 (0:Int)) ->
 (U (below - (1:Int))/\((((!(decide ((0:Int)<=(xs.getD k1 (0:Int))/\(xs.getD k1 (0:Int))<=(below - (1:Int)))))=true) ->
 false=(bE (rM below) xs))/\(((!(decide ((0:Int)<=(xs.getD k1 (0:Int))/\(xs.getD k1 (0:Int))<=(below - (1:Int)))))=false) ->
 (U ((k1:Int)+(1:Int))/\(∃ k2:Nat,((k2<=xs.length/\bE (rM below) (xs.take k2)=true)/\(xs.length - k2<xs.length - k1/\((below=below/\(xs=xs/\(((xs.length:Int))=((xs.length:Int))/\(((k1:Int)+(1:Int))=(k2:Int)/\True))))/\True)))))))))))/\((decide ((k1:Int)<((xs.length:Int))))=false ->
 true=(bE (rM below) xs)))))))):=by kernel_rfl
def QR(hE:aI [cu]):aQ.Good pk:=by
 refine⟨aA Dl rfl (by decide),?_⟩;show ∀ (xs:List Int) (below:Int),(0<=below/\below<=4096)->bC prog xT [.val ⟨(.slice (.int .i64)),xs⟩, .val ⟨(.int .i64),below⟩] (·=[⟨.bool,bE (rM below) xs⟩]);intro xs below hp;refine bg (wr:=[]) (cl:=[]) (ro:=[]) hE Dl Lz (Gc xs below) ?_;rewrite [Ro xs below];have f0:=all_zero (rM below) xs;refine λ _=>⟨⟨0,?_,⟨rfl,rfl,rfl,?_,af⟩,af⟩,λ k1 _=>have HA:=dU (rM below) 0 xs k1;have HB:=eZ (rM below) 0 xs k1;have HC:=fR (rM below) xs k1;have Up:=a5n below (xs.getD k1 0);⟨λ _=>⟨?_,λ _=>⟨?_,λ _=>?_,λ _=>⟨?_,k1+1,?_,?_,⟨rfl,rfl,rfl,?_,af⟩,af⟩⟩⟩,λ _=>?_⟩⟩;all_goals try and_intros
 all_goals first|rfl|trivial|omega|(simp only[decide_eq_true_eq,decide_eq_false_iff_not,aC,U] at *;first|omega|grind)|grind [aC,U]
def L2:aQ.Good pk:=QR ⟨gS,af⟩
end
end Go.Proofs.YtmjfpcajohhbeaaGreatDoor

set_option maxRecDepth 4000
set_option maxHeartbeats 4000000
namespace Go.Proofs.YtmjfpcajohhbeaaGreatDoor
noncomputable section
def A7(x:J)(ps:List Int):J:=bif fP x ps then dD x ps else J.mk (0:Int) (0:Int) []
def yU(x:J)(ps:List Int):Bool:=fP x ps&&sb x ps
def Dg.no{x:J}{ks:List Int}{k:Nat}(h:Dg x ks k)(hk:k<ks.length)(hb:¬ (0<=ks.getD k 0/\ks.getD k 0<=((dD x (ks.take k)).M.length:Int) - 1)):A7 x ks=J.mk (0:Int) (0:Int) []/\yU x ks=false/\fP x ks=false:=by
 have:=h.bad hk hb;unfold A7 yU;rw[this];exact⟨rfl,rfl,rfl⟩
def Dg.yes{x:J}{ks:List Int}{k:Nat}(h:Dg x ks k)(hk:ks.length<=k):A7 x ks=dD x (ks.take k)/\yU x ks=sb x (ks.take k)/\fP x ks=true:=by
 have:=h.done hk;have e:=Zd x ks k hk;unfold A7 yU;rw[this,e.2.1,e.2.2];exact⟨rfl,rfl,rfl⟩
def iZ:aQ:=⟨As,[.v (.st .expr), .v (.slice (.int .i64))],λ (x:J) (ps:List Int)=>⟨(none,[⟨(.st .expr),A7 x ps⟩,⟨.bool,yU x ps⟩,⟨.bool,fP x ps⟩])⟩⟩
def Iq(x:J)(ps:List Int):Nat->aM:=(λ zb=>if Nat.beq zb 0 then .mk (Nat) (λ k=>Dg x ps k) (λ k=>ps.length - k) [] [0,1,3,7] (λ k=>[(11, .aT ⟨(.int .i64),((k:Int):Int)⟩),(5, .aT ⟨.bool,(sb x (ps.take k):Bool)⟩)]) [4,5,6,8,9,10,11,12,13,14,15,16,17,18,19,20,21,22,23,24,25,26,27,28,29,30,31,32,33,34,35,36] (λ k=>[(2, .box [.aT ⟨(.int .i64),((dD x (ps.take k)).au:Int)⟩, .aT ⟨(.int .i64),((dD x (ps.take k)).aO:Int)⟩, .aT ⟨(.slice (.st .expr)),((dD x (ps.take k)).M:List J)⟩])]) [] [] (λ k=>λ _ => .none) else .none)
abbrev D4(x:J)(ps:List Int)(k1:Nat)(k2:Nat):Prop:=(((((dD x (ps.take k1)).M).getD (Int.toNat (ps.getD k1 (0:Int))) zE).au=((dD x (ps.take k2)).au)/\((((dD x (ps.take k1)).M).getD (Int.toNat (ps.getD k1 (0:Int))) zE).aO=((dD x (ps.take k2)).aO)/\((((dD x (ps.take k1)).M).getD (Int.toNat (ps.getD k1 (0:Int))) zE).M=((dD x (ps.take k2)).M)/\True)))/\(((0:Int)=(0:Int)/\((0:Int)=(0:Int)/\(True/\True)))/\True))
def Tr(x:J)(ps:List Int):ck (aZ [cu]) (az nj) (Iq x ps) 0 (bx (aZ [cu]) nj λ r=>bB r [⟨(.st .expr),A7 x ps⟩,⟨.bool,yU x ps⟩,⟨.bool,fP x ps⟩]) (aL nj [.val ⟨(.st .expr),x⟩, .val ⟨(.slice (.int .i64)),ps⟩]) =
 ((U ((ps.length:Int)) ->
 ((∃ k1:Nat,(Dg x ps k1/\((True/\(True/\(false=(sb x (ps.take k1))/\(ps=ps/\(((ps.length:Int))=((ps.length:Int))/\((0:Int)=(k1:Int)/\True))))))/\((x.au=((dD x (ps.take k1)).au)/\(x.aO=((dD x (ps.take k1)).aO)/\(x.M=((dD x (ps.take k1)).M)/\True)))/\(((0:Int)=(0:Int)/\((0:Int)=(0:Int)/\(True/\True)))/\True)))))/\(∀ k1:Nat,(Dg x ps k1 ->
 (((decide ((k1:Int)<((ps.length:Int))))=true ->
 (aC (k1:Int) ps.length/\(U (ps.getD k1 (0:Int)) ->
 (((dD x (ps.take k1)).M).length<=140737488355328 ->
 (U ((((dD x (ps.take k1)).M).length:Int)) ->
 (U (((((dD x (ps.take k1)).M).length:Int)) - (1:Int))/\((((!(decide ((0:Int)<=(ps.getD k1 (0:Int))/\(ps.getD k1 (0:Int))<=(((((dD x (ps.take k1)).M).length:Int)) - (1:Int)))))=true) ->
 (zE=(A7 x ps)/\(false=(yU x ps)/\false=(fP x ps))))/\(((!(decide ((0:Int)<=(ps.getD k1 (0:Int))/\(ps.getD k1 (0:Int))<=(((((dD x (ps.take k1)).M).length:Int)) - (1:Int)))))=false) ->
 (((sb x (ps.take k1))=false ->
 (U ((dD x (ps.take k1)).au) ->
 (((dD x (ps.take k1)).M).length<=140737488355328 ->
 (aC (ps.getD k1 (0:Int)) ((dD x (ps.take k1)).M).length/\(U ((k1:Int)+(1:Int))/\(∃ k2:Nat,(Dg x ps k2/\(ps.length - k2<ps.length - k1/\((True/\(True/\((decide (((dD x (ps.take k1)).au)=(5:Int)))=(sb x (ps.take k2))/\(ps=ps/\(((ps.length:Int))=((ps.length:Int))/\(((k1:Int)+(1:Int))=(k2:Int)/\True))))))/\(D4 x ps k1 k2))))))))))/\((sb x (ps.take k1))=(!false) ->
 (((dD x (ps.take k1)).M).length<=140737488355328 ->
 (aC (ps.getD k1 (0:Int)) ((dD x (ps.take k1)).M).length/\(U ((k1:Int)+(1:Int))/\(∃ k2:Nat,(Dg x ps k2/\(ps.length - k2<ps.length - k1/\((True/\(True/\(true=(sb x (ps.take k2))/\(ps=ps/\(((ps.length:Int))=((ps.length:Int))/\(((k1:Int)+(1:Int))=(k2:Int)/\True))))))/\(D4 x ps k1 k2))))))))))))))))))/\((decide ((k1:Int)<((ps.length:Int))))=false ->
 ((J.mk ((dD x (ps.take k1)).au) ((dD x (ps.take k1)).aO) ((dD x (ps.take k1)).M))=(A7 x ps)/\((sb x (ps.take k1))=(yU x ps)/\true=(fP x ps)))))))))):=by kernel_rfl
def Tc(hE:aI [cu]):aQ.Good iZ:=by
 refine⟨aA F0 rfl (by decide),?_⟩;show ∀ (x:J) (ps:List Int),True->bC prog As [.val ⟨(.st .expr),x⟩, .val ⟨(.slice (.int .i64)),ps⟩] (·=[⟨(.st .expr),A7 x ps⟩,⟨.bool,yU x ps⟩,⟨.bool,fP x ps⟩]);intro x ps _;refine bg (wr:=[]) (cl:=[]) (ro:=[]) hE F0 NR (Iq x ps) ?_;rewrite [Tr x ps];have f0:dD x (ps.take 0)=x:=by rw[b1V];rfl
 have f1:sb x (ps.take 0)=false:=by rw[b1V];rfl
 refine λ _=>⟨⟨0,?_,⟨af,af,?_,rfl,rfl,?_,af⟩,⟨?_,?_,?_,af⟩,⟨rfl,rfl,af,af⟩,af⟩,λ k1 _=>⟨λ _=>⟨?_,λ _ _ _=>⟨?_,λ _=>⟨?_,?_,?_⟩,λ _=>⟨λ _ _ _=>⟨?_,?_,k1+1,?_,?_,⟨af,af,?_,rfl,rfl,?_,af⟩,⟨?_,?_,?_,af⟩,⟨rfl,rfl,af,af⟩,af⟩,λ _ _=>⟨?_,?_,k1+1,?_,?_,⟨af,af,?_,rfl,rfl,?_,af⟩,⟨?_,?_,?_,af⟩,⟨rfl,rfl,af,af⟩,af⟩⟩⟩⟩,λ _=>⟨?_,?_,?_⟩⟩⟩;all_goals try and_intros
 all_goals first|with_reducible rfl|with_reducible assumption|exact True.intro|((try simp only[b1F,J.eta,b0N,b0M,b0X,b0U,b1i,b1B,aC,U,bF,b1l,b0Z,b1n,b1o,b1C] at *);first|exact True.intro|omega|exact Dg.zero _ _|(rw[f0];done)|(rw[f1];done)|(have h:Dg x ps k1:=(by with_reducible assumption);first|exact (h.no (by omega) (by with_reducible assumption)).1|exact ((h.no (by omega) (by with_reducible assumption)).1).symm|exact (h.no (by omega) (by with_reducible assumption)).2.1|exact ((h.no (by omega) (by with_reducible assumption)).2.1).symm|exact (h.no (by omega) (by with_reducible assumption)).2.2|exact ((h.no (by omega) (by with_reducible assumption)).2.2).symm|exact h.next (by omega) (by with_reducible assumption)|exact (h.yes (by omega)).1|exact ((h.yes (by omega)).1).symm|exact (h.yes (by omega)).2.1|exact ((h.yes (by omega)).2.1).symm|exact (h.yes (by omega)).2.2|exact ((h.yes (by omega)).2.2).symm|(rw[(AD x ps k1 (by omega)).2.1];done)|(rw[(AD x ps k1 (by omega)).2.2];simp only[isN, *,Bool.true_or,b4B];done)|(rw[(AD x ps k1 (by omega)).2.2];simp only[isN, *,Bool.true_or,b4B];simp[*];done)))
def BC:aQ.Good iZ:=Tc ⟨gS,af⟩
def wv{t a:Int}{x:J}(h:br t a x=true)(i:Nat)(hi:i<x.M.length):br t a (x.M.getD i zE)=true:=by
 rw[l5,b0R] at h;have hm:x.M.getD i zE∈x.M:=by
  rw[b1f,b1p hi];exact b2d _
 have:∀ xs:List J,bE (br t a) xs=true->∀ y∈xs,br t a y=true:=by
  intro xs;induction xs with
  | nil=>intro _ y hy;cases hy
  | cons z zs ih =>
   intro h y hy;simp only[bE,b0R] at h;rcases b1e.1 hy with rfl|hy
   .exact h.1
   .exact ih h.2 y hy
 exact this _ h.2 _ hm
def Wp{t a:Int}{x:J}(h:br t a x=true):x.M.length<=2:=by
 rw[l5,Bool.and_eq_true] at h;have h1:=h.1;unfold tj at h1;simp only[Bool.and_eq_true,decide_eq_true_eq] at h1;have h2:=h1.1.1;unfold de at h2;split at h2
 .omega
 .split at h2
  .omega
  .split at h2<;>omega
def pV{x:J}(h:br 62 62 x=true)(hk:x.au=3\/x.au=4):0<=x.aO/\x.aO<=62:=by
 rw[l5,Bool.and_eq_true] at h;have h1:=h.1;unfold tj at h1;rcases hk with hk|hk<;>simp[hk] at h1<;>omega
def SB:∀ (xs:List J) (y:J),bW (xs++[y])=(max (bW xs).1 (cT y).1,max (bW xs).2 (cT y).2)
 | [],y=>by
  rw[b1F];simp only[bW];rw[Int.max_comm,Int.max_comm (cT y).2]
 | x::xs,y=>by
  rw[b1Z,bW,SB xs y,bW];simp only[Int.max_assoc]
def SC(x:J)(i:Nat)(hi:i<x.M.length):bW (x.M.take (i+1))=(max (bW (x.M.take i)).1 (cT (x.M.getD i zE)).1,max (bW (x.M.take i)).2 (cT (x.M.getD i zE)).2):=by
 rw[fM zE x.M i hi,SB]
def a5W(x:J)(h:x.au=3):cT x=(x.aO+1,0):=by rw[EC,b1q h]
def a5X(x:J)(h3:¬ x.au=3)(h:x.au=4):cT x=(0,x.aO+1):=by rw[EC,b0Y h3,b1q h]
def a2d(x:J)(h3:¬ x.au=3)(h:¬ x.au=4)(i:Nat)(hi:x.M.length<=i):cT x=bW (x.M.take i):=by rw[EC,b0Y h3,b0Y h,b1v hi]
def a9g{ts as_:List J}{x:J}(h:x.au=3):dC ts as_ x=ts.getD x.aO.toNat zE:=by rw[YF,b1q h]
def a9h{ts as_:List J}{x:J}(h3:¬ x.au=3)(h:x.au=4):dC ts as_ x=as_.getD x.aO.toNat zE:=by rw[YF,b0Y h3,b1q h]
def a9i{ts as_:List J}{x:J}(h3:¬ x.au=3)(h:¬ x.au=4)(i:Nat)(hi:x.M.length<=i):dC ts as_ x=J.mk x.au x.aO ((x.M.take i).map (dC ts as_)):=by rw[YF,b0Y h3,b0Y h,b1v hi]
def Z3(ts as_:List J)(x:J)(i:Nat)(hi:i<x.M.length):(x.M.take (i+1)).map (dC ts as_)=(x.M.take i).map (dC ts as_)++[dC ts as_ (x.M.getD i zE)]:=by
 rw[fM zE x.M i hi];simp
def Xz{ts as_:List J}{x:J}(h:jE ts as_ x)(h3:¬ x.au=3)(h4:¬ x.au=4)(i:Nat)(hi:i<x.M.length):jE ts as_ (x.M.getD i zE) :=
 XA (a1n h h3 h4) _ (by
  rw[b1f,b1p hi];exact b2d _)
structure Np(ts as_:List J):Prop where
 t:∀ y∈ts,aw y<=1048576
 a:∀ y∈as_,aw y<=1048576
def Np.gt{ts as_:List J}(h:Np ts as_){n:Int}(h0:0<=n)(h1:n<(ts.length:Int)):aw (ts.getD n.toNat zE)<=1048576:=h.t _ (by
 rw[b1f,b1p (by omega)];exact b2d _)
def Np.ga{ts as_:List J}(h:Np ts as_){n:Int}(h0:0<=n)(h1:n<(as_.length:Int)):aw (as_.getD n.toNat zE)<=1048576:=h.a _ (by
 rw[b1f,b1p (by omega)];exact b2d _)
def uL:aQ:=⟨uY,[.v (.int .i64), .v (.slice (.st .expr))],λ (k:Int) (ks:List J)=>⟨(none,[⟨(.st .expr),J.mk k 0 ks⟩])⟩⟩
def OW(k:Int)(ks:List J):Nat->aM:=λ _ => .none
def W7(k:Int)(ks:List J):ck (aZ []) (az jV) (OW k ks) 0 (bx (aZ []) jV λ r=>bB r [⟨(.st .expr),J.mk k 0 ks⟩]) (aL jV [.val ⟨(.int .i64),k⟩, .val ⟨(.slice (.st .expr)),ks⟩]) =
 ((J.mk k (0:Int) ks)=(J.mk k 0 ks)):=by kernel_rfl
def WZ(hE:aI []):aQ.Good uL:=by
 refine⟨aA wy rfl (by decide),?_⟩;show ∀ (k:Int) (ks:List J),True->bC prog uY [.val ⟨(.int .i64),k⟩, .val ⟨(.slice (.st .expr)),ks⟩] (·=[⟨(.st .expr),J.mk k 0 ks⟩]);intro k ks _;refine bg (wr:=[]) (cl:=[]) (ro:=[]) hE wy F7 (OW k ks) ?_;rewrite [W7 k ks];refine ?_;all_goals try and_intros
 all_goals first|rfl|trivial|omega|(simp only[b0N,b0M,aC,U,cb,cM,ca,bF] at *;omega)|(simp[aC,U] at *;omega)|grind
def SQ:aQ.Good uL:=WZ trivial
mutual
def PH:∀ x:J,br 62 62 x=true->(0<=(cT x).1/\(cT x).1<=63)/\0<=(cT x).2/\(cT x).2<=63
 | ⟨k,n,ks⟩=>λ h=>by
  have h1:=pV h;rw[br,Bool.and_eq_true] at h;have h2:=M8 ks h.2;rw[cT];dsimp only at h1;by_cases h3:k=3
  .have:=h1 (.inl h3);rw[if_pos h3];dsimp only;omega
  .by_cases h4:k=4
   .have:=h1 (.inr h4);rw[if_neg h3,if_pos h4];dsimp only;omega
   .rw[b0Y h3,b0Y h4];exact h2
def M8:∀ xs:List J,rH 62 62 xs=true->(0<=(bW xs).1/\(bW xs).1<=63)/\0<=(bW xs).2/\(bW xs).2<=63
 | []=>λ _=>by rw[bW];dsimp only;omega
 | x::xs=>λ h=>by
  rw[rH,Bool.and_eq_true] at h;have h1:=PH x h.1;have h2:=M8 xs h.2;rw[bW];dsimp only;omega
end
def PJ{t a:Int}:∀ (xs:List J) (i:Nat),rH t a xs=true->rH t a (xs.take i)=true
 | _,0,_=>by rw[b1V];rfl
 | [],i+1,_=>by rw[List.take_nil];rfl
 | x::xs,i+1,h=>by
  rw[rH,b0R] at h;rw[b3P,rH,h.1,PJ xs i h.2];rfl
def Rm(x:J)(h:br 62 62 x=true)(i:Nat):(0<=(bW (x.M.take i)).1/\(bW (x.M.take i)).1<=63)/\0<=(bW (x.M.take i)).2/\(bW (x.M.take i)).2<=63:=by
 cases x with
 | mk k n ks =>
  rw[br,b0R] at h;exact M8 _ (PJ ks i h.2)
def sy(n:Nat):aQ:=⟨yT,[.v (.st .expr)],λ (x:J)=>⟨(some (cA x<n/\br 62 62 x=true),[⟨(.int .i64),(cT x).1⟩,⟨(.int .i64),(cT x).2⟩])⟩⟩
def yR:aQ:=⟨yT,[.v (.st .expr)],λ (x:J)=>⟨(some (br 62 62 x=true),[⟨(.int .i64),(cT x).1⟩,⟨(.int .i64),(cT x).2⟩])⟩⟩
def OV(x:J):Nat->aM:=(λ zb=>if Nat.beq zb 1 then .mk (Nat) (λ i=>i<=x.M.length) (λ i=>x.M.length - i) [] [0,1,6,10,11,12,13,14,15,16,17,18,19,20,21,22] (λ i=>[(25, .aT ⟨(.int .i64),((i:Int):Int)⟩),(4, .aT ⟨(.int .i64),((bW (x.M.take i)).1:Int)⟩),(5, .aT ⟨(.int .i64),((bW (x.M.take i)).2:Int)⟩)]) [2,3,4,5,7,8,9,23,24,25,26,27,28,29,30,31,32,33,34,35,36,37,38,39,40,41,42] (λ i=>[]) [] [] (λ i=>λ _ => .none) else .none)
def W6(n:Nat)(x:J):ck (aZ [sy n] [] [] [1]) (az rm) (OV x) 0 (bx (aZ [sy n] [] [] [1]) rm λ r=>bB r [⟨(.int .i64),(cT x).1⟩,⟨(.int .i64),(cT x).2⟩]) (aL rm [.val ⟨(.st .expr),x⟩]) =
 ((U x.au ->
 (((decide (x.au=(3:Int)))=true ->
 (U x.aO ->
 (U (x.aO+(1:Int))/\((x.aO+(1:Int))=((cT x).1)/\(0:Int)=((cT x).2)))))/\((decide (x.au=(3:Int)))=false ->
 (((decide (x.au=(4:Int)))=true ->
 (U (x.aO+(1:Int))/\(U x.aO ->
 ((0:Int)=((cT x).1)/\(x.aO+(1:Int))=((cT x).2)))))/\((decide (x.au=(4:Int)))=false ->
 (x.M.length<=140737488355328 ->
 (U ((x.M.length:Int)) ->
 ((∃ i1:Nat,(i1<=x.M.length/\(((0:Int)=(0:Int)/\((0:Int)=(0:Int)/\((0:Int)=((bW (x.M.take i1)).1)/\((0:Int)=((bW (x.M.take i1)).2)/\(x.M=x.M/\(((x.M.length:Int))=((x.M.length:Int))/\((0:Int)=(i1:Int)/\True)))))))/\True)))/\(∀ i1:Nat,(i1<=x.M.length ->
 (((decide ((i1:Int)<((x.M.length:Int))))=true ->
 (aC (i1:Int) x.M.length/\((cA (ag (x.M.getD i1 zE))<n/\br 62 62 (ag (x.M.getD i1 zE))=true)/\(U ((cT (ag (x.M.getD i1 zE))).1) ->
 (U ((cT (ag (x.M.getD i1 zE))).2) ->
 (U (max ((bW (x.M.take i1)).1) ((cT (ag (x.M.getD i1 zE))).1)) ->
 (U (max ((bW (x.M.take i1)).2) ((cT (ag (x.M.getD i1 zE))).2)) ->
 (U ((i1:Int)+(1:Int))/\(∃ i2:Nat,(i2<=x.M.length/\(x.M.length - i2<x.M.length - i1/\(((0:Int)=(0:Int)/\((0:Int)=(0:Int)/\((max ((bW (x.M.take i1)).1) ((cT (ag (x.M.getD i1 zE))).1))=((bW (x.M.take i2)).1)/\((max ((bW (x.M.take i1)).2) ((cT (ag (x.M.getD i1 zE))).2))=((bW (x.M.take i2)).2)/\(x.M=x.M/\(((x.M.length:Int))=((x.M.length:Int))/\(((i1:Int)+(1:Int))=(i2:Int)/\True)))))))/\True))))))))))))/\((decide ((i1:Int)<((x.M.length:Int))))=false ->
 (((bW (x.M.take i1)).1)=((cT x).1)/\((bW (x.M.take i1)).2)=((cT x).2))))))))))))))):=by kernel_rfl
def WY(n:Nat)(hE:aI [sy n]):aQ.Good (sy (n+1)):=by
 refine⟨aA wx rfl (by decide),?_⟩;show ∀ (x:J),(cA x<n+1/\br 62 62 x=true)->bC prog yT [.val ⟨(.st .expr),x⟩] (·=[⟨(.int .i64),(cT x).1⟩,⟨(.int .i64),(cT x).2⟩]);intro x hp;refine bg (wr:=[]) (cl:=[]) (ro:=[1]) hE wx SM (OV x) ?_;rewrite [W6 n x];have f0:=λ i (h:i<x.M.length)=>cx zE x.M i h;have f1:=dX x;have f2:bW (x.M.take 0)=(0,0):=by rw[b1V];rfl
 refine λ _=>⟨λ _ _=>⟨?_,?_,?_⟩,λ _=>⟨λ _=>⟨?_,λ _=>⟨?_,?_⟩⟩,λ _ _ _=>⟨⟨0,?_,⟨rfl,rfl,?_,?_,rfl,rfl,?_,af⟩,af⟩,λ i1 _=>⟨λ _=>⟨?_,?_,λ _ _ _ _=>⟨?_,i1+1,?_,?_,⟨rfl,rfl,?_,?_,rfl,rfl,?_,af⟩,af⟩⟩,λ _=>⟨?_,?_⟩⟩⟩⟩⟩;all_goals try and_intros
 all_goals try (first|with_reducible rfl|with_reducible assumption)
 all_goals try simp only[J.eta,ae.eta,aH.eta,aU,bM,ct] at *
 all_goals first|with_reducible rfl|with_reducible assumption|exact True.intro|(simp only[b0W,b0V,b0X,b0U] at *;done)|((try simp only[b1F,J.eta,b0N,b0M,b0X,b0U,b1i,b1B,aC,U,bF,b1l,b0Z,b1n,b1o,b1C] at *);first|exact True.intro|omega|(rw[f2];done)|(rw[a5W x (by with_reducible assumption)];done)|(rw[a5X x (by with_reducible assumption) (by with_reducible assumption)];done)|(have h1:=pV hp.2 (.inl (by with_reducible assumption));omega)|(have h1:=pV hp.2 (.inr (by with_reducible assumption));omega)|(rw[a2d x (by with_reducible assumption) (by with_reducible assumption) i1 (by omega)];done)|exact wv hp.2 _ (by omega)|(have h1:=f0 i1 (by omega);omega)|(rw[SC x i1 (by omega)];done)|(have h1:=PH _ (wv hp.2 i1 (by omega));have h2:=Rm x hp.2 i1;omega))
def T6 :∀ n,aI [sy n]
 | 0=>⟨⟨aA wx rfl (by decide),λ _ h=>absurd h.1 (b1H _)⟩,af⟩
 | n+1=>by
  have ih:=T6  n;exact⟨WY n ⟨ih.1,af⟩,af⟩
def SP :aQ.Good yR :=
 ⟨aA wx rfl (by decide),λ x hp=>(T6  (cA x+1)).1.2 x (⟨b1D _,hp⟩)⟩
def n6(n:Nat):aQ:=⟨uV,[.v (.st .expr), .v (.slice (.st .expr)), .v (.slice (.st .expr))],λ (x:J) (ts:List J) (as_:List J)=>⟨(some (cA x<n/\jE ts as_ x/\br 62 62 x=true/\Np ts as_),[⟨(.st .expr),dC ts as_ x⟩])⟩⟩
def sZ:aQ:=⟨uV,[.v (.st .expr), .v (.slice (.st .expr)), .v (.slice (.st .expr))],λ (x:J) (ts:List J) (as_:List J)=>⟨(some (jE ts as_ x/\br 62 62 x=true/\Np ts as_),[⟨(.st .expr),dC ts as_ x⟩])⟩⟩
def Gy(x:J)(ts:List J)(as_:List J):Nat->aM:=(λ zb=>if Nat.beq zb 1 then .mk (Nat) (λ i=>i<=x.M.length) (λ i=>x.M.length - i) [] [0,3,4,5,8,10,11,12,13,14,15,16,17,18,19,20,21,22,23,24,25,26,27,28,29,30,31,32,33,34,35,36,37,38,39,40,41,42,43] (λ i=>[(46, .aT ⟨(.int .i64),((i:Int):Int)⟩)]) [1,2,6,9,44,45,46,47,48,49,50,51,52,53,54,55,56,57,58,59,60] (λ i=>[(7, .box [.aT ⟨(.int .i64),(x.au:Int)⟩, .aT ⟨(.int .i64),(x.aO:Int)⟩, .aD 5800]),(5800, .aD (.st .expr) ((x.M.take i).map (dC ts as_):List J))]) [] [] (λ i=>λ _ => .none) else .none)
abbrev BT(x:J)(ts:List J)(as_:List J):Prop:=(U x.aO ->
 (aC x.aO ts.length/\(aw (ts.getD (Int.toNat x.aO) zE)<=1048576/\(ag (ts.getD (Int.toNat x.aO) zE))=(dC ts as_ x))))
abbrev BU(x:J)(ts:List J)(as_:List J):Prop:=(U x.aO ->
 (aC x.aO as_.length/\(aw (as_.getD (Int.toNat x.aO) zE)<=1048576/\(ag (as_.getD (Int.toNat x.aO) zE))=(dC ts as_ x))))
abbrev BV(n:Nat)(x:J)(ts:List J)(as_:List J):Prop:=(U x.au ->
 (U x.aO ->
 (x.M.length<=140737488355328 ->
 (U ((x.M.length:Int)) ->
 ((∃ i1:Nat,(i1<=x.M.length/\((ts=ts/\(as_=as_/\(True/\(True/\(x.M=x.M/\(((x.M.length:Int))=((x.M.length:Int))/\((0:Int)=(i1:Int)/\True)))))))/\((x.au=x.au/\(x.aO=x.aO/\(True/\True)))/\(((x.M.take i1).map (dC ts as_))=[]/\(((0:Int)=(0:Int)/\((0:Int)=(0:Int)/\(True/\True)))/\True))))))/\(∀ i1:Nat,(i1<=x.M.length ->
 (((decide ((i1:Int)<((x.M.length:Int))))=true ->
 (aC (i1:Int) x.M.length/\(ts.length<=140737488355328 ->
 (as_.length<=140737488355328 ->
 (((7:Nat)=7/\(2:Nat)=2)/\((5800:Nat)=5800/\(((x.M.getD i1 zE).au=(x.M.getD i1 zE).au/\((x.M.getD i1 zE).aO=(x.M.getD i1 zE).aO/\((x.M.getD i1 zE).M=(x.M.getD i1 zE).M/\True)))/\(ts=ts/\(as_=as_/\((cA (ag (x.M.getD i1 zE))<n/\jE ts as_ (ag (x.M.getD i1 zE))/\br 62 62 (ag (x.M.getD i1 zE))=true/\Np ts as_)/\(((7:Nat)=7/\(2:Nat)=2)/\((5800:Nat)=5800/\(((7:Nat)=7/\(2:Nat)=2)/\((5800:Nat)=5800/\(bF (((x.M.take i1).map (dC ts as_)).length+([(ag (dC ts as_ (ag (x.M.getD i1 zE))))]).length) 40/\(U ((i1:Int)+(1:Int))/\(∃ i2:Nat,(i2<=x.M.length/\(x.M.length - i2<x.M.length - i1/\((ts=ts/\(as_=as_/\(True/\(True/\(x.M=x.M/\(((x.M.length:Int))=((x.M.length:Int))/\(((i1:Int)+(1:Int))=(i2:Int)/\True)))))))/\((x.au=x.au/\(x.aO=x.aO/\(True/\True)))/\((((x.M.take i1).map (dC ts as_))++([(ag (dC ts as_ (ag (x.M.getD i1 zE))))]))=((x.M.take i2).map (dC ts as_))/\(((0:Int)=(0:Int)/\((0:Int)=(0:Int)/\(True/\True)))/\True)))))))))))))))))))))))/\((decide ((i1:Int)<((x.M.length:Int))))=false ->
 (J.mk x.au x.aO ((x.M.take i1).map (dC ts as_)))=(dC ts as_ x))))))))))
abbrev BW(n:Nat)(x:J)(ts:List J)(as_:List J):Prop:=(U x.au ->
 (((decide (x.au=(4:Int)))=true ->
 (1<=as_.length/\((true=true ->
 (BU x ts as_))/\(true=false ->
 (BV n x ts as_)))))/\((decide (x.au=(4:Int)))=(!true) ->
 ((false=true ->
 (BU x ts as_))/\(false=false ->
 (BV n x ts as_))))))
def RL(n:Nat)(x:J)(ts:List J)(as_:List J):ck (cg [] [n6 n,gW] [] [23,37,55,56,57] [] [] [3]) (az na) (Gy x ts as_) 0 (dN (cg [] [n6 n,gW] [] [23,37,55,56,57] [] [] [3]) na λ r=>bB r [⟨(.st .expr),dC ts as_ x⟩]) (fE na [.val ⟨(.st .expr),x⟩, .val ⟨(.slice (.st .expr)),ts⟩, .val ⟨(.slice (.st .expr)),as_⟩]) =
 ((U x.au ->
 (((decide (x.au=(3:Int)))=true ->
 (1<=ts.length/\((true=true ->
 (BT x ts as_))/\(true=false ->
 (BW n x ts as_)))))/\((decide (x.au=(3:Int)))=(!true) ->
 ((false=true ->
 (BT x ts as_))/\(false=false ->
 (BW n x ts as_))))))):=by kernel_rfl
def Rb(n:Nat)(hE:aI [])(hO:dL [n6 n,gW])(hM:ed [])(hS:dP []):aQ.df (n6 (n+1)):=by
 refine⟨aA sJ rfl (by decide),?_⟩;show ∀ (x:J) (ts:List J) (as_:List J),(cA x<n+1/\jE ts as_ x/\br 62 62 x=true/\Np ts as_)->fH prog uV [.val ⟨(.st .expr),x⟩, .val ⟨(.slice (.st .expr)),ts⟩, .val ⟨(.slice (.st .expr)),as_⟩] [⟨(.st .expr),dC ts as_ x⟩];intro x ts as_ hp;refine cV (own:=[23,37,55,56,57]) (wr:=[]) (cl:=[]) (ro:=[3]) hE hO hM hS sJ NM (Gy x ts as_) ?_;rewrite [RL n x ts as_];obtain⟨hm,g0,g1,g2⟩:=hp;have f0:=λ i (h:i<x.M.length)=>cx zE x.M i h;have f1:=dX x;have f2:(x.M.take 0).map (dC ts as_)=[]:=by simp
 have f3:=Wp g1;refine λ _=>⟨λ _=>⟨?_,λ _ _=>⟨?_,?_,?_⟩,λ _ _=>⟨λ _=>⟨?_,λ _ _=>⟨?_,?_,?_⟩,λ _ _ _ _ _=>⟨⟨0,?_,⟨rfl,rfl,af,af,rfl,rfl,?_,af⟩,⟨rfl,rfl,af,af⟩,?_,⟨rfl,rfl,af,af⟩,af⟩,λ i1 _=>⟨λ _=>⟨?_,λ _ _=>⟨⟨?_,?_⟩,?_,⟨rfl,rfl,rfl,?_⟩,rfl,rfl,?_,⟨?_,?_⟩,?_,⟨?_,?_⟩,?_,?_,?_,i1+1,?_,?_,⟨rfl,rfl,af,af,rfl,rfl,?_,af⟩,⟨rfl,rfl,af,af⟩,?_,⟨rfl,rfl,af,af⟩,af⟩⟩,λ _=>?_⟩⟩⟩,λ _=>⟨λ _ _=>⟨?_,?_,?_⟩,λ _ _ _ _ _=>⟨⟨0,?_,⟨rfl,rfl,af,af,rfl,rfl,?_,af⟩,⟨rfl,rfl,af,af⟩,?_,⟨rfl,rfl,af,af⟩,af⟩,λ i1 _=>⟨λ _=>⟨?_,λ _ _=>⟨⟨?_,?_⟩,?_,⟨rfl,rfl,rfl,?_⟩,rfl,rfl,?_,⟨?_,?_⟩,?_,⟨?_,?_⟩,?_,?_,?_,i1+1,?_,?_,⟨rfl,rfl,af,af,rfl,rfl,?_,af⟩,⟨rfl,rfl,af,af⟩,?_,⟨rfl,rfl,af,af⟩,af⟩⟩,λ _=>?_⟩⟩⟩⟩⟩,λ _=>⟨λ _ _=>⟨?_,?_,?_⟩,λ _ _=>⟨λ _=>⟨?_,λ _ _=>⟨?_,?_,?_⟩,λ _ _ _ _ _=>⟨⟨0,?_,⟨rfl,rfl,af,af,rfl,rfl,?_,af⟩,⟨rfl,rfl,af,af⟩,?_,⟨rfl,rfl,af,af⟩,af⟩,λ i1 _=>⟨λ _=>⟨?_,λ _ _=>⟨⟨?_,?_⟩,?_,⟨rfl,rfl,rfl,?_⟩,rfl,rfl,?_,⟨?_,?_⟩,?_,⟨?_,?_⟩,?_,?_,?_,i1+1,?_,?_,⟨rfl,rfl,af,af,rfl,rfl,?_,af⟩,⟨rfl,rfl,af,af⟩,?_,⟨rfl,rfl,af,af⟩,af⟩⟩,λ _=>?_⟩⟩⟩,λ _=>⟨λ _ _=>⟨?_,?_,?_⟩,λ _ _ _ _ _=>⟨⟨0,?_,⟨rfl,rfl,af,af,rfl,rfl,?_,af⟩,⟨rfl,rfl,af,af⟩,?_,⟨rfl,rfl,af,af⟩,af⟩,λ i1 _=>⟨λ _=>⟨?_,λ _ _=>⟨⟨?_,?_⟩,?_,⟨rfl,rfl,rfl,?_⟩,rfl,rfl,?_,⟨?_,?_⟩,?_,⟨?_,?_⟩,?_,?_,?_,i1+1,?_,?_,⟨rfl,rfl,af,af,rfl,rfl,?_,af⟩,⟨rfl,rfl,af,af⟩,?_,⟨rfl,rfl,af,af⟩,af⟩⟩,λ _=>?_⟩⟩⟩⟩⟩⟩;all_goals try and_intros
 all_goals try (first|with_reducible rfl|with_reducible assumption)
 all_goals try simp only[J.eta,ae.eta,aH.eta,aU,bM,ct] at *
 all_goals first|with_reducible rfl|with_reducible assumption|exact True.intro|(simp only[b0W,b0V,b0X,b0U] at *;done)|((try simp only[b1F,J.eta,b0N,b0M,b0X,b0U,b1i,b1B,aC,U,bF,b1l,b0Z,b1n,b1o,b1C] at *);first|exact True.intro|omega|(rw[f2];done)|(rw[a9g (by with_reducible assumption)];done)|(rw[a9h (by with_reducible assumption) (by with_reducible assumption)];done)|(have h1:=pV g1 (.inl (by with_reducible assumption));have h2:=a2A g0 (by with_reducible assumption);first|omega|exact g2.gt h1.1 h2)|(have h1:=pV g1 (.inr (by with_reducible assumption));have h2:=a2z g0 (by with_reducible assumption);first|omega|exact g2.ga h1.1 h2)|(rw[a9i (by with_reducible assumption) (by with_reducible assumption) i1 (by omega)];done)|exact wv g1 _ (by omega)|(have h1:=f0 i1 (by omega);omega)|exact Xz g0 (by with_reducible assumption) (by with_reducible assumption) i1 (by omega)|exact Z3 _ _ _ _ (by omega)|exact (Z3 _ _ _ _ (by omega)).symm)
def RZ:∀ n,dL [n6 n]
 | 0=>⟨⟨aA sJ rfl (by decide),λ _ _ _ h=>absurd h.1 (b1H _)⟩,af⟩
 | n+1=>by
  have ih:=RZ n;exact⟨Rb n trivial ⟨ih.1,xx,af⟩ trivial trivial,af⟩
def MG:aQ.df sZ :=
 ⟨aA sJ rfl (by decide),λ x ts as_ hp=>(RZ (cA x+1)).1.2 x ts as_ (⟨b1D _,hp⟩)⟩
def a4b{l r:J}(h1:br 62 62 l=true)(h2:br 62 62 r=true):br 62 62 (J.mk 6 0 [l,r])=true:=by
 rw[l5];simp only[bE,h1,h2,tj,de];simp
def a5Y(l r:J):cT (J.mk 6 0 [l,r])=bW [l,r]:=by rw[cT];simp
def lF(gg:aX)(x:J)(ts as_:List J):J:=bif cC gg (dC ts as_ x) then dC ts as_ x else J.mk (0:Int) (0:Int) []
def pj(gg:aX)(x:J)(ts as_:List J):Int:=bif cC gg (dC ts as_ x) then 0 else 3
def Y5{gg:aX}{x:J}{ts as_:List J}(h:cC gg (dC ts as_ x)=true):lF gg x ts as_=dC ts as_ x/\pj gg x ts as_=0:=by unfold lF pj;rw[h];exact⟨rfl,rfl⟩
def a1E{gg:aX}{x:J}{ts as_:List J}(h:cC gg (dC ts as_ x)=false):lF gg x ts as_=J.mk (0:Int) (0:Int) []/\pj gg x ts as_=3:=by unfold lF pj;rw[h];exact⟨rfl,rfl⟩
def KA(y x:J)(ps:List Int):List J:=(iL y x ps).M
def a9Y(y x:J)(ps:List Int)(h:ps.length=0):iL y x ps=y:=by rw[b1X h];rfl
def a5P(y x:J)(ps:List Int)(h:¬ ps.length=0):KA y x ps=x.M.set (ps.getD 0 0).toNat (iL y (x.M.getD (ps.getD 0 0).toNat zE) (ps.drop 1))/\iL y x ps=J.mk x.au x.aO (KA y x ps):=by
 match ps,h with
 | k::ks,_=>exact⟨rfl,rfl⟩
def a0H(y x:J)(ps:List Int)(h:¬ ps.length=0):(KA y x ps).length=x.M.length:=by rw[(a5P y x ps h).1,b2k]
def a2Z(y x:J)(ps:List Int)(h:¬ ps.length=0)(i:Nat)(hi:i<x.M.length)(h0:0<=ps.getD 0 0):(KA y x ps).take (i+1)=(KA y x ps).take i++[if (i:Int)=ps.getD 0 0 then iL y (x.M.getD i zE) (ps.drop 1) else x.M.getD i zE]:=by
 rw[fM zE _ i (by rw[a0H y x ps h];exact hi)];congr 2;rw[(a5P y x ps h).1,b1f,b3G];by_cases e:(i:Int)=ps.getD 0 0
 .rw[b1q e];have e2:(ps.getD 0 0).toNat=i:=by omega
  rw[b1q e2,e2,b1q hi];rfl
 .rw[b0Y e,b0Y (by omega),b1f]
def a0G(y x:J)(ps:List Int)(h:¬ ps.length=0)(i:Nat)(hi:x.M.length<=i):iL y x ps=J.mk x.au x.aO ((KA y x ps).take i):=by
 rw[b1v (by rw[a0H y x ps h];exact hi)];exact (a5P y x ps h).2
def a1M{x:J}{ps:List Int}(h:¬ ps.length=0)(ho:fP x ps=true):(0<=ps.getD 0 0/\ps.getD 0 0<=(x.M.length:Int) - 1)/\fP (x.M.getD (ps.getD 0 0).toNat zE) (ps.drop 1)=true:=by
 match ps,h with
 | k::ks,_ =>
  simp only[fP,b0R,QG,b0N] at ho;exact ho
def yc(gg:aX)(x:J)(ps:List Int)(y:J):J:=bif fP x ps && !(sb x ps && !bu y)&&cC gg (iL y x ps) then iL y x ps else J.mk (0:Int) (0:Int) []
def sd(gg:aX)(x:J)(ps:List Int)(y:J):Int:=bif fP x ps then (bif sb x ps && !bu y then 4 else (bif cC gg (iL y x ps) then 0 else 3)) else 2
def a5O{gg:aX}{x y:J}{ps:List Int}(h:fP x ps=false):yc gg x ps y=J.mk (0:Int) (0:Int) []/\sd gg x ps y=2:=by unfold yc sd;rw[h];exact⟨rfl,rfl⟩
def a1Y{gg:aX}{x y:J}{ps:List Int}(h:fP x ps=true)(h2:yU x ps=true)(h3:bu y=false):yc gg x ps y=J.mk (0:Int) (0:Int) []/\sd gg x ps y=4:=by
 unfold yU at h2;rw[h,Bool.true_and] at h2;unfold yc sd;rw[h,h2,h3];exact⟨rfl,rfl⟩
def I4{gg:aX}{x y:J}{ps:List Int}(h:fP x ps=true)(h2:yU x ps=false\/bu y=true)(b:Bool)(h3:cC gg (iL y x ps)=b):yc gg x ps y=(bif b then iL y x ps else J.mk (0:Int) (0:Int) [])/\sd gg x ps y=bif b then 0 else 3:=by
 have e:(sb x ps && !bu y)=false:=by
  unfold yU at h2;rw[h,Bool.true_and] at h2;rcases h2 with g|g<;>rw[g]<;>simp
 unfold yc sd;rw[h,e,h3];exact⟨rfl,rfl⟩
def qG:aQ:=⟨Ao,[.v (.st .equation)],λ (q:aH)=>⟨(some (br 62 62 q.left=true/\br 62 62 q.right=true),[⟨(.int .i64),(bW [q.left,q.right]).1⟩,⟨(.int .i64),(bW [q.left,q.right]).2⟩])⟩⟩
def Il(q:aH):Nat->aM:=λ _ => .none
def Tn(q:aH):ck (aZ [yR,uL] [] [] [1]) (az nf) (Il q) 0 (bx (aZ [yR,uL] [] [] [1]) nf λ r=>bB r [⟨(.int .i64),(bW [q.left,q.right]).1⟩,⟨(.int .i64),(bW [q.left,q.right]).2⟩]) (aL nf [.val ⟨(.st .equation),q⟩]) =
 ((br 62 62 (J.mk (6:Int) 0 ([q.left,q.right]))=true/\(U ((cT (J.mk (6:Int) 0 ([q.left,q.right]))).1) ->
 (U ((cT (J.mk (6:Int) 0 ([q.left,q.right]))).2) ->
 (((cT (J.mk (6:Int) 0 ([q.left,q.right]))).1)=((bW [q.left,q.right]).1)/\((cT (J.mk (6:Int) 0 ([q.left,q.right]))).2)=((bW [q.left,q.right]).2)))))):=by kernel_rfl
def S8(hE:aI [yR,uL]):aQ.Good qG:=by
 refine⟨aA FW rfl (by decide),?_⟩;show ∀ (q:aH),(br 62 62 q.left=true/\br 62 62 q.right=true)->bC prog Ao [.val ⟨(.st .equation),q⟩] (·=[⟨(.int .i64),(bW [q.left,q.right]).1⟩,⟨(.int .i64),(bW [q.left,q.right]).2⟩]);intro q hp;refine bg (wr:=[]) (cl:=[]) (ro:=[1]) hE FW NN (Il q) ?_;rewrite [Tn q];have f0:=a4b hp.1 hp.2;have f1:=a5Y q.left q.right;refine⟨?_,λ _ _=>⟨?_,?_⟩⟩;all_goals try and_intros
 all_goals first|with_reducible rfl|trivial|exact f0|omega|(rw[f1];done)|(simp only[b1F,J.eta,b0N,b0M,b0X,b0U,b1i,b1B,aC,U,bF,b1l,b0Z,b1n,b1o,b1C] at *;omega)
def On:aQ.Good qG:=S8 ⟨SP,SQ,af⟩
def jx:aQ:=⟨vU,[.v (.st .sig), .v (.st .expr), .v (.slice (.st .expr)), .v (.slice (.st .expr))],λ (gg:aX) (x:J) (ts:List J) (as_:List J)=>⟨(some (jE ts as_ x/\br 62 62 x=true/\Np ts as_/\ts.length<=1000/\as_.length<=1000),[⟨(.st .expr),lF gg x ts as_⟩,⟨(.int .i64),pj gg x ts as_⟩])⟩⟩
def B7(gg:aX)(x:J)(ts:List J)(as_:List J):Nat->aM:=λ _ => .none
abbrev rX(gg:aX)(x:J)(ts:List J)(as_:List J):Prop:=(x=x/\(as_=as_/\(bF ((@List.nil J).length+as_.length) 40/\(x=x/\((jE ([]++ts) ([]++as_) x/\br 62 62 x=true/\Np ([]++ts) ([]++as_))/\(((!(cC gg (ag (dC ([]++ts) ([]++as_) x))))=true ->
 (zE=(lF gg x ts as_)/\(3:Int)=(pj gg x ts as_)))/\((!(cC gg (ag (dC ([]++ts) ([]++as_) x))))=false ->
 ((ag (dC ([]++ts) ([]++as_) x))=(lF gg x ts as_)/\(0:Int)=(pj gg x ts as_)))))))))
def Nh(gg:aX)(x:J)(ts:List J)(as_:List J):ck (cg [dc] [sZ] [] [18] [] [] [4,5]) (az kr) (B7 gg x ts as_) 0 (dN (cg [dc] [sZ] [] [18] [] [] [4,5]) kr λ r=>bB r [⟨(.st .expr),lF gg x ts as_⟩,⟨(.int .i64),pj gg x ts as_⟩]) (fE kr [.val ⟨(.st .sig),gg⟩, .val ⟨(.st .expr),x⟩, .val ⟨(.slice (.st .expr)),ts⟩, .val ⟨(.slice (.st .expr)),as_⟩]) =
 ((ts.length<=140737488355328 ->
 (as_.length<=140737488355328 ->
 (x=x/\(ts=ts/\(as_=as_/\((x=x/\(ts=ts/\(as_=as_/\((bF ((@List.nil J).length+ts.length) 40/\(x=x/\(as_=as_/\(rX gg x ts as_))))/\((x=x/\(ts=ts/\(as_=as_/\(bF ((@List.nil J).length+ts.length) 40/\(rX gg x ts as_)))))/\True)))))/\((x=x/\(ts=ts/\(as_=as_/\(x=x/\(ts=ts/\(as_=as_/\(bF ((@List.nil J).length+ts.length) 40/\(rX gg x ts as_))))))))/\True)))))))):=by kernel_rfl
def MP(hE:aI [dc])(hO:dL [sZ])(hM:ed [])(hS:dP []):aQ.df jx:=by
 refine⟨aA Bl rfl (by decide),?_⟩;show ∀ (gg:aX) (x:J) (ts:List J) (as_:List J),(jE ts as_ x/\br 62 62 x=true/\Np ts as_/\ts.length<=1000/\as_.length<=1000)->fH prog vU [.val ⟨(.st .sig),gg⟩, .val ⟨(.st .expr),x⟩, .val ⟨(.slice (.st .expr)),ts⟩, .val ⟨(.slice (.st .expr)),as_⟩] [⟨(.st .expr),lF gg x ts as_⟩,⟨(.int .i64),pj gg x ts as_⟩];intro gg x ts as_ hp;refine cV (own:=[18]) (wr:=[]) (cl:=[]) (ro:=[4,5]) hE hO hM hS Bl JM (B7 gg x ts as_) ?_;rewrite [Nh gg x ts as_];refine λ _ _=>⟨rfl,rfl,rfl,⟨rfl,rfl,rfl,⟨?_,rfl,rfl,rfl,rfl,?_,rfl,?_,λ _=>⟨?_,?_⟩,λ _=>⟨?_,?_⟩⟩,⟨rfl,rfl,rfl,?_,rfl,rfl,?_,rfl,?_,λ _=>⟨?_,?_⟩,λ _=>⟨?_,?_⟩⟩,af⟩,⟨rfl,rfl,rfl,rfl,rfl,rfl,?_,rfl,rfl,?_,rfl,?_,λ _=>⟨?_,?_⟩,λ _=>⟨?_,?_⟩⟩,af⟩;all_goals try and_intros
 all_goals try (first|with_reducible rfl|with_reducible assumption)
 all_goals try simp only[J.eta,ae.eta,aH.eta,aU,bM,ct] at *
 all_goals first|with_reducible rfl|with_reducible assumption|exact True.intro|omega|((first|have Q:=Y5 (gg:=gg) (x:=x) (ts:=ts) (as_:=as_) (by with_reducible assumption)|have Q:=a1E (gg:=gg) (x:=x) (ts:=ts) (as_:=as_) (by with_reducible assumption));first|exact Q.1|exact Q.2|exact Q.1.symm|exact Q.2.symm)|exact hp.1|exact hp.2.1|exact hp.2.2.1|(simp only[b1F,J.eta,b0N,b0M,b0X,b0U,b1i,b1B,aC,U,bF,b1l,b0Z,b1n,b1o,b1C] at *;first|omega|((first|have Q:=Y5 (gg:=gg) (x:=x) (ts:=ts) (as_:=as_) (by with_reducible assumption)|have Q:=a1E (gg:=gg) (x:=x) (ts:=ts) (as_:=as_) (by with_reducible assumption));first|exact Q.1|exact Q.2|exact Q.1.symm|exact Q.2.symm))
def IM:aQ.df jx:=MP ⟨mg,af⟩ ⟨MG,af⟩ trivial trivial
def lh(n:Nat):aQ:=⟨rC,[.v (.st .expr), .v (.slice (.int .i64)), .v (.st .expr)],λ (x:J) (ps:List Int) (y:J)=>⟨(some (ps.length<n/\fP x ps=true/\aw x<=1048576/\aw y<=1048576/\ps.length<=1000),[⟨(.st .expr),iL y x ps⟩])⟩⟩
def ql:aQ:=⟨rC,[.v (.st .expr), .v (.slice (.int .i64)), .v (.st .expr)],λ (x:J) (ps:List Int) (y:J)=>⟨(some (fP x ps=true/\aw x<=1048576/\aw y<=1048576/\ps.length<=1000),[⟨(.st .expr),iL y x ps⟩])⟩⟩
def B9(x:J)(ps:List Int)(y:J):Nat->aM:=(λ zb=>if Nat.beq zb 0 then .mk (Nat) (λ i=>i<=x.M.length) (λ i=>x.M.length - i) [] [0,2,3,4,10,11,12,13,14,15,16,17,18,19,20] (λ i=>[(23, .aT ⟨(.int .i64),((i:Int):Int)⟩)]) [1,5,6,8,9,21,22,23,24,25,26,27,28,29,30,31,32,33,34,35,36,37,38,39,40,41,42,43,44,45,46,47,48,49,50,51] (λ i=>[(7, .box [.aT ⟨(.int .i64),(x.au:Int)⟩, .aT ⟨(.int .i64),(x.aO:Int)⟩, .aD 5800]),(5800, .aD (.st .expr) ((KA y x ps).take i:List J))]) [] [] (λ i=>λ _ => .none) else .none)
abbrev rY(x:J)(i1:Nat):Prop:=((x.M.getD i1 zE).au=(x.M.getD i1 zE).au/\((x.M.getD i1 zE).aO=(x.M.getD i1 zE).aO/\((x.M.getD i1 zE).M=(x.M.getD i1 zE).M/\True)))
abbrev yy(x:J)(ps:List Int)(y:J)(i1:Nat)(i2:Nat):Prop:=(ps=ps/\(y=y/\(True/\(True/\(x.M=x.M/\(((x.M.length:Int))=((x.M.length:Int))/\(((i1:Int)+(1:Int))=(i2:Int)/\True)))))))
def Nj(n:Nat)(x:J)(ps:List Int)(y:J):ck (cg [] [lh n,gW] [] [14,39,40,41,46,47,48] [] [] [3,5]) (az ku) (B9 x ps y) 0 (dN (cg [] [lh n,gW] [] [14,39,40,41,46,47,48] [] [] [3,5]) ku λ r=>bB r [⟨(.st .expr),iL y x ps⟩]) (fE ku [.val ⟨(.st .expr),x⟩, .val ⟨(.slice (.int .i64)),ps⟩, .val ⟨(.st .expr),y⟩]) =
 ((U ((ps.length:Int)) ->
 (((decide (((ps.length:Int))=(0:Int)))=true ->
 (aw y<=1048576/\(ag y)=(iL y x ps)))/\((decide (((ps.length:Int))=(0:Int)))=false ->
 (U x.au ->
 (U x.aO ->
 (x.M.length<=140737488355328 ->
 (U ((x.M.length:Int)) ->
 ((∃ i1:Nat,(i1<=x.M.length/\((ps=ps/\(y=y/\(True/\(True/\(x.M=x.M/\(((x.M.length:Int))=((x.M.length:Int))/\((0:Int)=(i1:Int)/\True)))))))/\((x.au=x.au/\(x.aO=x.aO/\(True/\True)))/\(((KA y x ps).take i1)=[]/\(((0:Int)=(0:Int)/\((0:Int)=(0:Int)/\(True/\True)))/\True))))))/\(∀ i1:Nat,(i1<=x.M.length ->
 (((decide ((i1:Int)<((x.M.length:Int))))=true ->
 (aC (i1:Int) x.M.length/\(aC (0:Int) ps.length/\(U (ps.getD 0 (0:Int)) ->
 (((decide ((i1:Int)=(ps.getD 0 (0:Int))))=true ->
 (ps.length<=140737488355328 ->
 (((7:Nat)=7/\(2:Nat)=2)/\((5800:Nat)=5800/\((rY x i1)/\(ps=ps/\(y=y/\(cM (1:Int) ((ps.length:Int)) ps.length/\(((7:Nat)=7/\(2:Nat)=2)/\((5800:Nat)=5800/\((rY x i1)/\(y=y/\((((ps.take (Int.toNat ((ps.length:Int)))).drop 1).length<n/\fP (ag (x.M.getD i1 zE)) ((ps.take (Int.toNat ((ps.length:Int)))).drop 1)=true/\aw (ag (x.M.getD i1 zE))<=1048576/\aw y<=1048576/\((ps.take (Int.toNat ((ps.length:Int)))).drop 1).length<=1000)/\(((7:Nat)=7/\(2:Nat)=2)/\((5800:Nat)=5800/\(((7:Nat)=7/\(2:Nat)=2)/\((5800:Nat)=5800/\(bF (((KA y x ps).take i1).length+([(ag (iL y (ag (x.M.getD i1 zE)) ((ps.take (Int.toNat ((ps.length:Int)))).drop 1)))]).length) 40/\(U ((i1:Int)+(1:Int))/\(∃ i2:Nat,(i2<=x.M.length/\(x.M.length - i2<x.M.length - i1/\((yy x ps y i1 i2)/\((x.au=x.au/\(x.aO=x.aO/\(True/\True)))/\((((KA y x ps).take i1)++([(ag (iL y (ag (x.M.getD i1 zE)) ((ps.take (Int.toNat ((ps.length:Int)))).drop 1)))]))=((KA y x ps).take i2)/\(((0:Int)=(0:Int)/\((0:Int)=(0:Int)/\(True/\True)))/\True))))))))))))))))))))))))))/\((decide ((i1:Int)=(ps.getD 0 (0:Int))))=false ->
 (((7:Nat)=7/\(2:Nat)=2)/\((5800:Nat)=5800/\((rY x i1)/\(aw (ag (x.M.getD i1 zE))<=1048576/\(((7:Nat)=7/\(2:Nat)=2)/\((5800:Nat)=5800/\(((7:Nat)=7/\(2:Nat)=2)/\((5800:Nat)=5800/\(bF (((KA y x ps).take i1).length+([(ag (x.M.getD i1 zE))]).length) 40/\(U ((i1:Int)+(1:Int))/\(∃ i2:Nat,(i2<=x.M.length/\(x.M.length - i2<x.M.length - i1/\((yy x ps y i1 i2)/\((x.au=x.au/\(x.aO=x.aO/\(True/\True)))/\((((KA y x ps).take i1)++([(ag (x.M.getD i1 zE))]))=((KA y x ps).take i2)/\(((0:Int)=(0:Int)/\((0:Int)=(0:Int)/\(True/\True)))/\True)))))))))))))))))))))))/\((decide ((i1:Int)<((x.M.length:Int))))=false ->
 (J.mk x.au x.aO ((KA y x ps).take i1))=(iL y x ps)))))))))))))):=by kernel_rfl
def MR(n:Nat)(hE:aI [])(hO:dL [lh n,gW])(hM:ed [])(hS:dP []):aQ.df (lh (n+1)):=by
 refine⟨aA qd rfl (by decide),?_⟩;show ∀ (x:J) (ps:List Int) (y:J),(ps.length<n+1/\fP x ps=true/\aw x<=1048576/\aw y<=1048576/\ps.length<=1000)->fH prog rC [.val ⟨(.st .expr),x⟩, .val ⟨(.slice (.int .i64)),ps⟩, .val ⟨(.st .expr),y⟩] [⟨(.st .expr),iL y x ps⟩];intro x ps y hp;refine cV (own:=[14,39,40,41,46,47,48]) (wr:=[]) (cl:=[]) (ro:=[3,5]) hE hO hM hS qd JO (B9 x ps y) ?_;rewrite [Nj n x ps y];obtain⟨hm,g0,g1,g2,g3⟩:=hp;rw[qU] at g1;have f1:=λ i (h:i<x.M.length)=>pS aw zE x.M i h;have f9:ps.take (Int.toNat (ps.length:Int))=ps:=by simp
 have f8:(KA y x ps).take 0=[]:=b1V;refine λ _=>⟨λ _=>⟨?_,?_⟩,λ _ _ _ _ _=>⟨⟨0,?_,⟨rfl,rfl,af,af,rfl,rfl,?_,af⟩,⟨rfl,rfl,af,af⟩,?_,⟨rfl,rfl,af,af⟩,af⟩,λ i1 _=>⟨λ _=>⟨?_,?_,λ _=>⟨λ _ _=>⟨⟨?_,?_⟩,?_,⟨rfl,rfl,rfl,?_⟩,rfl,rfl,?_,⟨?_,?_⟩,?_,⟨rfl,rfl,rfl,?_⟩,rfl,?_,⟨?_,?_⟩,?_,⟨?_,?_⟩,?_,?_,?_,i1+1,?_,?_,⟨rfl,rfl,af,af,rfl,rfl,?_,af⟩,⟨rfl,rfl,af,af⟩,?_,⟨rfl,rfl,af,af⟩,af⟩,λ _=>⟨⟨?_,?_⟩,?_,⟨rfl,rfl,rfl,?_⟩,?_,⟨?_,?_⟩,?_,⟨?_,?_⟩,?_,?_,?_,i1+1,?_,?_,⟨rfl,rfl,af,af,rfl,rfl,?_,af⟩,⟨rfl,rfl,af,af⟩,?_,⟨rfl,rfl,af,af⟩,af⟩⟩⟩,λ _=>?_⟩⟩⟩;all_goals try and_intros
 all_goals try (first|with_reducible rfl|with_reducible assumption)
 all_goals try simp only[J.eta,ae.eta,aH.eta,aU,bM,ct] at *
 all_goals first|with_reducible rfl|with_reducible assumption|exact True.intro|((try simp only[b1F,J.eta,b0N,b0M,b0X,b0U,b1i,b1B,aC,U,bF,b1l,b0Z,b1n,b1o,b1C] at *);(try simp only[f9]);first|exact True.intro|omega|exact f8.symm|(rw[b1Y];omega)|(rw[a9Y y x ps (by omega)];done)|(rw[a2Z y x ps (by omega) i1 (by omega) (a1M (by omega) g0).1.1,b1q (by omega)];done)|(rw[a2Z y x ps (by omega) i1 (by omega) (a1M (by omega) g0).1.1,b0Y (by omega)];done)|exact a0G y x ps (by omega) i1 (by omega)|exact (a0G y x ps (by omega) i1 (by omega)).symm|(have h1:=(a1M (by omega) g0).2;rw[show (ps.getD 0 0).toNat=i1 by omega] at h1;exact h1)|(have h1:=f1 i1 (by omega);omega)|(have h1:=b1Y (l:=ps) (i:=1);omega)|(rw[b1Y];omega))
def T9:∀ n,dL [lh n]
 | 0=>⟨⟨aA qd rfl (by decide),λ _ _ _ h=>absurd h.1 (b1H _)⟩,af⟩
 | n+1=>by
  have ih:=T9 n;exact⟨MR n trivial ⟨ih.1,xx,af⟩ trivial trivial,af⟩
def IP:aQ.df ql :=
 ⟨aA qd rfl (by decide),λ x ps y hp=>(T9 (ps.length+1)).1.2 x ps y (⟨b1D _,hp⟩)⟩
def lf:aQ:=⟨uW,[.v (.st .sig), .v (.st .expr), .v (.slice (.int .i64)), .v (.st .expr)],λ (gg:aX) (x:J) (ps:List Int) (y:J)=>⟨(some (aw x<=1048576/\aw y<=1048576/\ps.length<=1000),[⟨(.st .expr),yc gg x ps y⟩,⟨(.int .i64),sd gg x ps y⟩])⟩⟩
def Aj(gg:aX)(x:J)(ps:List Int)(y:J):Nat->aM:=λ _ => .none
abbrev xj(gg:aX)(x:J)(ps:List Int)(y:J):Prop:=((fP x ps=true/\aw x<=1048576/\aw y<=1048576/\ps.length<=1000)/\(((!(cC gg (ag (iL y x ps))))=true ->
 (zE=(yc gg x ps y)/\(3:Int)=(sd gg x ps y)))/\((!(cC gg (ag (iL y x ps))))=false ->
 ((ag (iL y x ps))=(yc gg x ps y)/\(0:Int)=(sd gg x ps y)))))
def KI(gg:aX)(x:J)(ps:List Int)(y:J):ck (cg [dc,iZ,cK] [ql] [] [34] [] [] [4,5,7]) (az jr) (Aj gg x ps y) 0 (dN (cg [dc,iZ,cK] [ql] [] [34] [] [] [4,5,7]) jr λ r=>bB r [⟨(.st .expr),yc gg x ps y⟩,⟨(.int .i64),sd gg x ps y⟩]) (fE jr [.val ⟨(.st .sig),gg⟩, .val ⟨(.st .expr),x⟩, .val ⟨(.slice (.int .i64)),ps⟩, .val ⟨(.st .expr),y⟩]) =
 ((((!(fP x ps))=true ->
 (zE=(yc gg x ps y)/\(2:Int)=(sd gg x ps y)))/\((!(fP x ps))=false ->
 (((yU x ps)=true ->
 (((!(bu y))=true ->
 (zE=(yc gg x ps y)/\(4:Int)=(sd gg x ps y)))/\((!(bu y))=false ->
 (xj gg x ps y))))/\((yU x ps)=(!true) ->
 ((false=true ->
 (zE=(yc gg x ps y)/\(4:Int)=(sd gg x ps y)))/\(false=false ->
 (xj gg x ps y)))))))):=by kernel_rfl
def Ky(hE:aI [dc,iZ,cK])(hO:dL [ql])(hM:ed [])(hS:dP []):aQ.df lf:=by
 refine⟨aA zn rfl (by decide),?_⟩;show ∀ (gg:aX) (x:J) (ps:List Int) (y:J),(aw x<=1048576/\aw y<=1048576/\ps.length<=1000)->fH prog uW [.val ⟨(.st .sig),gg⟩, .val ⟨(.st .expr),x⟩, .val ⟨(.slice (.int .i64)),ps⟩, .val ⟨(.st .expr),y⟩] [⟨(.st .expr),yc gg x ps y⟩,⟨(.int .i64),sd gg x ps y⟩];intro gg x ps y hp;refine cV (own:=[34]) (wr:=[]) (cl:=[]) (ro:=[4,5,7]) hE hO hM hS zn HG (Aj gg x ps y) ?_;rewrite [KI gg x ps y];refine⟨λ _=>⟨?_,?_⟩,λ _=>⟨λ _=>⟨λ _=>⟨?_,?_⟩,λ _=>⟨?_,λ _=>⟨?_,?_⟩,λ _=>⟨?_,?_⟩⟩⟩,λ _=>⟨λ _=>⟨?_,?_⟩,λ _=>⟨?_,λ _=>⟨?_,?_⟩,λ _=>⟨?_,?_⟩⟩⟩⟩⟩;all_goals try and_intros
 all_goals try (first|with_reducible rfl|with_reducible assumption)
 all_goals try simp only[J.eta,ae.eta,aH.eta,aU,bM,ct] at *
 all_goals first|with_reducible rfl|with_reducible assumption|exact True.intro|(simp only[b0W,b0V,b0X,b0U] at *;done)|((try simp only[b1F,J.eta,b0N,b0M,b0X,b0U,b1i,b1B,aC,U,bF,b1l,b0Z,b1n,b1o,b1C] at *);first|exact True.intro|omega|((first|have Q:=a5O (gg:=gg) (x:=x) (y:=y) (ps:=ps) (by with_reducible assumption)|have Q:=a1Y (gg:=gg) (x:=x) (y:=y) (ps:=ps) (by with_reducible assumption) (by with_reducible assumption) (by with_reducible assumption));first|exact Q.1|exact Q.2|exact Q.1.symm|exact Q.2.symm)|((first|have Q:=I4 (gg:=gg) (x:=x) (y:=y) (ps:=ps) (by with_reducible assumption) (.inl (by with_reducible assumption)) true (by with_reducible assumption)|have Q:=I4 (gg:=gg) (x:=x) (y:=y) (ps:=ps) (by with_reducible assumption) (.inl (by with_reducible assumption)) false (by with_reducible assumption)|have Q:=I4 (gg:=gg) (x:=x) (y:=y) (ps:=ps) (by with_reducible assumption) (.inr (by with_reducible assumption)) true (by with_reducible assumption)|have Q:=I4 (gg:=gg) (x:=x) (y:=y) (ps:=ps) (by with_reducible assumption) (.inr (by with_reducible assumption)) false (by with_reducible assumption));first|exact Q.1|exact Q.2|exact Q.1.symm|exact Q.2.symm))
def G8:aQ.df lf:=Ky ⟨mg,BC,jX,af⟩ ⟨IP,af⟩ trivial trivial
end
end Go.Proofs.YtmjfpcajohhbeaaGreatDoor

set_option maxRecDepth 4000
set_option maxHeartbeats 4000000
namespace Go.Proofs.YtmjfpcajohhbeaaGreatDoor
noncomputable section
def ZJ{α:Type}(F:α->α->Prop×Bool)(z:α)(xs ys:List α):Prop:=∀ i,i<xs.length->i<ys.length->(F (xs.getD i z) (ys.getD i z)).1
def eL{α:Type}(f:α->α->Bool):List α->List α->Bool
 | [],[]=>true
 | x::xs,y::ys=>f x y&&eL f xs ys
 | _,_=>false
def Xd{α:Type}(f:α->α->Bool):∀ xs ys:List α,eL f xs ys=true->xs.length=ys.length
 | [],[],_=>rfl
 | x::xs,y::ys,h=>by
  simp only[eL,b0R] at h;simp[Xd f xs ys h.2]
 | [],_::_,h=>by cases h
 | _::_,[],h=>by cases h
def a4n{α:Type}(f:α->α->Bool)(xs ys:List α)(h:xs.length≠ys.length):eL f xs ys=false:=by
 cases hb:eL f xs ys
 .rfl
 .exact absurd (Xd f xs ys hb) h
def Qd{α:Type}(f:α->α->Bool)(z:α):∀ xs ys:List α,eL f xs ys=true↔xs.length=ys.length/\∀ i,i<xs.length->f (xs.getD i z) (ys.getD i z)=true
 | [],[]=>by simp[eL]
 | [],_::_=>by simp[eL]
 | _::_,[]=>by simp[eL]
 | x::xs,y::ys=>by
  simp only[eL,b0R,Qd f z xs ys,b0Z,Nat.add_right_cancel_iff];constructor
  .rintro⟨h1,h2,h3⟩;refine⟨h2,λ i hi=>?_⟩;cases i with
   | zero=>simpa using h1
   | succ i=>simpa using h3 i (by omega)
  .rintro⟨h1,h2⟩;exact⟨by simpa using h2 0 (by omega),h1,λ i hi=>by simpa using h2 (i+1) (by omega)⟩
def a4m{α:Type}(f:α->α->Bool)(z:α)(xs ys:List α)(k:Nat)(h:xs.length=ys.length)(hk:k<xs.length)(hf:f (xs.getD k z) (ys.getD k z)=false):eL f xs ys=false:=by
 cases hb:eL f xs ys
 .rfl
 .have:=((Qd f z xs ys).1 hb).2 k hk;rw[this] at hf;cases hf
def a0U{α:Type}(f:α->α->Bool)(z:α)(xs ys:List α)(k:Nat)(h:xs.length=ys.length)(hk:xs.length<=k)(ha:eL f (xs.take k) (ys.take k)=true):eL f xs ys=true:=by
 rwa [b1v hk,b1v (by omega)] at ha
def a0T{α:Type}(f:α->α->Bool)(z:α)(xs ys:List α)(k:Nat)(h1:k<xs.length)(h2:k<ys.length)(ha:eL f (xs.take k) (ys.take k)=true)(hf:f (xs.getD k z) (ys.getD k z)=true):eL f (xs.take (k+1)) (ys.take (k+1))=true:=by
 rw[Qd f z] at ha ⊢;simp only[b1C,b1f] at ha hf ⊢;refine⟨by omega,λ i hi=>?_⟩;rcases b1R i k with hik|hik
 .have:=ha.2 i (by omega);simpa [List.getElem?_take,hik,show i<k+1 by omega] using this
 .have:i=k:=by omega
  subst this;simpa [List.getElem?_take] using hf
def Xc{α:Type}:∀ xs ys:List α,eL bT xs ys=bT xs ys
 | [],[]=>by simp[eL]
 | [],_::_=>by simp[eL,bT]
 | _::_,[]=>by simp[eL,bT]
 | x::xs,y::ys=>by
  rw[eL,Xc xs ys];refine b3z.2 ?_;simp
def Xu(x y:J):bT x y=(decide (x.au=y.au)&&decide (x.aO=y.aO)&&bT x.M y.M):=by
 refine b3z.2 ?_;cases x;cases y;simp[and_assoc]
def gb:aQ:=⟨mP,[.v (.slice (.st .expr)), .v (.slice (.st .expr)), .c [(.st .expr),(.st .expr)] .bool],λ (xs:List J) (ys:List J) (F:J->J->Prop×Bool)=>⟨(some (ZJ F zE xs ys),[⟨.bool,eL (λ x y=>(F x y).2) xs ys⟩])⟩⟩
def sC(xs:List J)(ys:List J)(F:J->J->Prop×Bool):Nat->aM:=(λ zb=>if Nat.beq zb 0 then .mk (Nat) (λ k=>k<=xs.length/\xs.length=ys.length/\eL (λ x y=>(F x y).2) (xs.take k) (ys.take k)=true) (λ k=>xs.length - k) [] [0,3,4,5,10,11,12,13,14] (λ k=>[(17, .aT ⟨(.int .i64),((k:Int):Int)⟩)]) [1,2,6,7,8,9,15,16,17,18,19,20,21,22,23,24,25,26,27,28,29,30,31] (λ k=>[]) [] [] (λ k=>λ _ => .none) else .none)
def Bd(xs:List J)(ys:List J)(F:J->J->Prop×Bool):ck (aZ []) (az eC) (sC xs ys F) 0 (bx (aZ []) eC λ r=>bB r [⟨.bool,eL (λ x y=>(F x y).2) xs ys⟩]) (aL eC [.val ⟨(.slice (.st .expr)),xs⟩, .val ⟨(.slice (.st .expr)),ys⟩, .dO ⟨[(.st .expr),(.st .expr)], .bool,F⟩]) =
 ((U ((xs.length:Int)) ->
 (U ((ys.length:Int)) ->
 (((!(decide (((xs.length:Int))=((ys.length:Int)))))=true ->
 false=(eL (λ x y=>(F x y).2) xs ys))/\((!(decide (((xs.length:Int))=((ys.length:Int)))))=false ->
 (U ((xs.length:Int)) ->
 ((∃ k1:Nat,((k1<=xs.length/\xs.length=ys.length/\eL (λ x y=>(F x y).2) (xs.take k1) (ys.take k1)=true)/\((ys=ys/\(F=F/\(xs=xs/\(((xs.length:Int))=((xs.length:Int))/\((0:Int)=(k1:Int)/\True)))))/\True)))/\(∀ k1:Nat,((k1<=xs.length/\xs.length=ys.length/\eL (λ x y=>(F x y).2) (xs.take k1) (ys.take k1)=true) ->
 (((decide ((k1:Int)<((xs.length:Int))))=true ->
 (aC (k1:Int) xs.length/\(aC (k1:Int) ys.length/\((F (ag (xs.getD k1 zE)) (ag (ys.getD k1 zE))).1/\(((!((F (ag (xs.getD k1 zE)) (ag (ys.getD k1 zE))).2))=true ->
 false=(eL (λ x y=>(F x y).2) xs ys))/\((!((F (ag (xs.getD k1 zE)) (ag (ys.getD k1 zE))).2))=false ->
 (U ((k1:Int)+(1:Int))/\(∃ k2:Nat,((k2<=xs.length/\xs.length=ys.length/\eL (λ x y=>(F x y).2) (xs.take k2) (ys.take k2)=true)/\(xs.length - k2<xs.length - k1/\((ys=ys/\(F=F/\(xs=xs/\(((xs.length:Int))=((xs.length:Int))/\(((k1:Int)+(1:Int))=(k2:Int)/\True)))))/\True)))))))))))/\((decide ((k1:Int)<((xs.length:Int))))=false ->
 true=(eL (λ x y=>(F x y).2) xs ys)))))))))))):=by kernel_rfl
def Ba(hE:aI []):aQ.Good gb:=by
 refine⟨aA rL rfl (by decide),?_⟩;show ∀ (xs:List J) (ys:List J) (F:J->J->Prop×Bool),(ZJ F zE xs ys)->bC prog mP [.val ⟨(.slice (.st .expr)),xs⟩, .val ⟨(.slice (.st .expr)),ys⟩, .dO ⟨[(.st .expr),(.st .expr)], .bool,F⟩] (·=[⟨.bool,eL (λ x y=>(F x y).2) xs ys⟩]);intro xs ys F hp;refine bg (wr:=[]) (cl:=[]) (ro:=[]) hE rL yL (sC xs ys F) ?_;rewrite [Bd xs ys F];have f0:=a4n (λ x y=>(F x y).2) xs ys;refine λ _ _=>⟨λ _=>?_,λ _ _=>⟨⟨0,?_,⟨rfl,rfl,rfl,rfl,?_,af⟩,af⟩,λ k1 _=>have a8L:=hp k1;have a8M:=a4m (λ x y=>(F x y).2) zE xs ys k1;have a8N:=a0U (λ x y=>(F x y).2) zE xs ys k1;have a8O:=a0T (λ x y=>(F x y).2) zE xs ys k1;⟨λ _=>⟨?_,?_,?_,λ _=>?_,λ _=>⟨?_,k1+1,?_,?_,⟨rfl,rfl,rfl,rfl,?_,af⟩,af⟩⟩,λ _=>?_⟩⟩⟩;all_goals try and_intros
 all_goals try (first|with_reducible rfl|with_reducible assumption)
 all_goals try simp only[J.eta,ae.eta,aH.eta,aU,bM,ct] at *
 all_goals first|rfl|trivial|(simp only[b0N,b0M,aC,U] at *;first|omega|grind)|(simp[eL];done)|grind
def yO:aQ.Good gb:=Ba trivial
def oL(n:Nat):J->J->Prop×Bool:=λ (x:J) (y:J)=>((cA x<n),bT x y)
def wm:Nat×FO:=(oi,⟨[(.st .expr),(.st .expr)], .bool,[]⟩)
def a0Y(n:Nat)(xs ys:List J)(h:cA xs<=n):ZJ (oL n) zE xs ys:=λ i hi _=>by
 have:=cx zE xs i hi;show cA (xs.getD i _)<n;omega
def a0V(n:Nat)(xs ys:List J):eL (λ x y=>(oL n x y).2) xs ys=bT xs ys:=Xc xs ys
def mq(n:Nat):aQ:=⟨oi,[.v (.st .expr), .v (.st .expr)],λ (x:J) (y:J)=>⟨(some (cA x<n),[⟨.bool,bT x y⟩])⟩⟩
def ry:aQ:=⟨oi,[.v (.st .expr), .v (.st .expr)],λ (x:J) (y:J)=>⟨(none,[⟨.bool,bT x y⟩])⟩⟩
def D9(x:J)(y:J):Nat->aM:=λ _ => .none
abbrev zW(n:Nat)(x:J)(y:J):Prop:=(x.M.length<=140737488355328 ->
 (y.M.length<=140737488355328 ->
 (ZJ (oL n) zE x.M y.M/\(eL (λ x y=>((oL n) x y).2) x.M y.M)=(bT x y))))
def PO(n:Nat)(x:J)(y:J):ck (aZ [mq n,gb] [] [wm] [2,3]) (az km) (D9 x y) 0 (bx (aZ [mq n,gb] [] [wm] [2,3]) km λ r=>bB r [⟨.bool,bT x y⟩]) (aL km [.val ⟨(.st .expr),x⟩, .val ⟨(.st .expr),y⟩]) =
 ((U x.au ->
 (U y.au ->
 (((decide (x.au=y.au))=true ->
 (U x.aO ->
 (U y.aO ->
 (((decide (x.aO=y.aO))=true ->
 (zW n x y))/\((decide (x.aO=y.aO))=(!true) ->
 false=(bT x y))))))/\((decide (x.au=y.au))=(!true) ->
 ((false=true ->
 (zW n x y))/\(false=(!true) ->
 false=(bT x y)))))))):=by kernel_rfl
def O5(n:Nat)(hE:aI [mq n,gb]):aQ.Good (mq (n+1)):=by
 refine⟨aA qb rfl (by decide),?_⟩;show ∀ (x:J) (y:J),(cA x<n+1)->bC prog oi [.val ⟨(.st .expr),x⟩, .val ⟨(.st .expr),y⟩] (·=[⟨.bool,bT x y⟩]);intro x y hp;refine bg (wr:=[]) (cl:=[wm]) (ro:=[2,3]) hE qb JJ (D9 x y) ?_;rewrite [PO n x y];have f0:=dX x;have f1:=a0Y n x.M y.M;have f2:=a0V n x.M y.M;have f3:=Xu x y;refine λ _ _=>⟨λ _ _ _=>⟨λ _ _ _=>⟨?_,?_⟩,λ _=>?_⟩,λ _=>⟨λ _ _ _=>⟨?_,?_⟩,λ _=>?_⟩⟩;all_goals try and_intros
 all_goals first|rfl|trivial|(simp only[decide_eq_true_eq,decide_eq_false_iff_not,aC,U] at *;first|omega|grind)|grind [ZJ]
def RV :∀ n,aI [mq n]
 | 0=>⟨⟨aA qb rfl (by decide),λ _ _ h=>absurd h (b1H _)⟩,af⟩
 | n+1=>by
  have ih:=RV  n;exact⟨O5 n ⟨ih.1,yO,af⟩,af⟩
def J2 :aQ.Good ry :=
 ⟨aA qb rfl (by decide),λ x y hp=>(RV  (cA x+1)).1.2 x y (b1D _)⟩
def nW(n:Nat):aQ:=⟨td,[.r (.st .expr), .r (.st .expr)],λ (x:J) (y:J)=>⟨(some (cA x<n),[⟨.bool,bT x y⟩])⟩⟩
def sV:aQ:=⟨td,[.r (.st .expr), .r (.st .expr)],λ (x:J) (y:J)=>⟨(none,[⟨.bool,bT x y⟩])⟩⟩
def Gq(x:J)(y:J):Nat->aM:=(λ zb=>if Nat.beq zb 0 then .mk (Nat) (λ k=>k<=x.M.length/\x.M.length=y.M.length/\x.M.take k=y.M.take k/\x.au=y.au/\x.aO=y.aO) (λ k=>x.M.length - k) [] [2,3,6,7,8,9,10,11,12,13,14,15,16,17,18,19,20,21,22,23,24,25,26,27,28,29,30,31,32,33,34,35,36,37,38] (λ k=>[(5, .aT ⟨(.int .i64),((k:Int):Int)⟩)]) [0,1,4,5,39,40,41,42,43,44,45,46,47,48,49,50,51,52,53,54,55,56,57,58,59,60,61] (λ k=>[]) [] [] (λ k=>λ _ => .none) else .none)
abbrev uG(n:Nat)(x:J)(y:J):Prop:=((∃ k1:Nat,((k1<=x.M.length/\x.M.length=y.M.length/\x.M.take k1=y.M.take k1/\x.au=y.au/\x.aO=y.aO)/\((x=x/\(y=y/\((0:Int)=(k1:Int)/\True)))/\True)))/\(∀ k1:Nat,((k1<=x.M.length/\x.M.length=y.M.length/\x.M.take k1=y.M.take k1/\x.au=y.au/\x.aO=y.aO) ->
 (x.M.length<=140737488355328 ->
 (U ((x.M.length:Int)) ->
 (((decide ((k1:Int)<((x.M.length:Int))))=true ->
 (aC (k1:Int) x.M.length/\(aC (k1:Int) y.M.length/\(x.M.length<=140737488355328 ->
 (y.M.length<=140737488355328 ->
 (cA (x.M.getD k1 zE)<n/\(((!(bT (x.M.getD k1 zE) (y.M.getD k1 zE)))=true ->
 false=(bT x y))/\((!(bT (x.M.getD k1 zE) (y.M.getD k1 zE)))=false ->
 (U ((k1:Int)+(1:Int))/\(∃ k2:Nat,((k2<=x.M.length/\x.M.length=y.M.length/\x.M.take k2=y.M.take k2/\x.au=y.au/\x.aO=y.aO)/\(x.M.length - k2<x.M.length - k1/\((x=x/\(y=y/\(((k1:Int)+(1:Int))=(k2:Int)/\True)))/\True)))))))))))))/\((decide ((k1:Int)<((x.M.length:Int))))=false ->
 true=(bT x y))))))))
abbrev BO(n:Nat)(x:J)(y:J):Prop:=(x.M.length<=140737488355328 ->
 (U ((x.M.length:Int)) ->
 (y.M.length<=140737488355328 ->
 (U ((y.M.length:Int)) ->
 (((!(decide (((x.M.length:Int))=((y.M.length:Int)))))=true ->
 false=(bT x y))/\((!(decide (((x.M.length:Int))=((y.M.length:Int)))))=false ->
 (uG n x y)))))))
def RA(n:Nat)(x:J)(y:J):ck (aZ [nW n]) (az lR) (Gq x y) 0 (bx (aZ [nW n]) lR λ r=>bB r [⟨.bool,bT x y⟩]) (aL lR [.ref ⟨(.st .expr),x⟩, .ref ⟨(.st .expr),y⟩]) =
 ((((!(decide (x.au=y.au)))=false ->
 (((!(decide (x.aO=y.aO)))=false ->
 (U x.au ->
 (U y.au ->
 (U x.aO ->
 (U y.aO ->
 (BO n x y))))))/\((!(decide (x.aO=y.aO)))=(!false) ->
 (U x.au ->
 (U y.au ->
 (U x.aO ->
 (U y.aO ->
 ((true=true ->
 false=(bT x y))/\(true=false ->
 (uG n x y))))))))))/\((!(decide (x.au=y.au)))=(!false) ->
 ((true=false ->
 (U x.au ->
 (U y.au ->
 (BO n x y))))/\(true=(!false) ->
 (U x.au ->
 (U y.au ->
 ((true=true ->
 false=(bT x y))/\(true=false ->
 (uG n x y)))))))))):=by kernel_rfl
def Q3(n:Nat)(hE:aI [nW n]):aQ.Good (nW (n+1)):=by
 refine⟨aA rf rfl (by decide),?_⟩;show ∀ (x:J) (y:J),(cA x<n+1)->bC prog td [.ref ⟨(.st .expr),x⟩, .ref ⟨(.st .expr),y⟩] (·=[⟨.bool,bT x y⟩]);intro x y hp;refine bg (wr:=[]) (cl:=[]) (ro:=[]) hE rf LJ (Gq x y) ?_;rewrite [RA n x y];have f0:=dX x;have f3:=Xu x y;refine⟨λ _=>⟨λ _ _ _ _ _ _ _ _ _=>⟨λ _=>?_,λ _=>⟨⟨0,?_,⟨rfl,rfl,?_,af⟩,af⟩,λ k1 _=>have a1b:=jM zE x.M y.M k1;have a1c:=eA x.M y.M k1;have a1d:=cx zE x.M k1;λ _ _=>⟨λ _=>⟨?_,?_,λ _ _=>⟨?_,λ _=>?_,λ _=>⟨?_,k1+1,?_,?_,⟨rfl,rfl,?_,af⟩,af⟩⟩⟩,λ _=>?_⟩⟩⟩,λ _ _ _ _ _=>⟨λ _=>?_,λ _=>⟨⟨0,?_,⟨rfl,rfl,?_,af⟩,af⟩,λ k1 _=>have a4D:=jM zE x.M y.M k1;have a4E:=eA x.M y.M k1;have a4F:=cx zE x.M k1;λ _ _=>⟨λ _=>⟨?_,?_,λ _ _=>⟨?_,λ _=>?_,λ _=>⟨?_,k1+1,?_,?_,⟨rfl,rfl,?_,af⟩,af⟩⟩⟩,λ _=>?_⟩⟩⟩⟩,λ _=>⟨λ _ _ _ _ _ _ _=>⟨λ _=>?_,λ _=>⟨⟨0,?_,⟨rfl,rfl,?_,af⟩,af⟩,λ k1 _=>have a7c:=jM zE x.M y.M k1;have a7d:=eA x.M y.M k1;have a7e:=cx zE x.M k1;λ _ _=>⟨λ _=>⟨?_,?_,λ _ _=>⟨?_,λ _=>?_,λ _=>⟨?_,k1+1,?_,?_,⟨rfl,rfl,?_,af⟩,af⟩⟩⟩,λ _=>?_⟩⟩⟩,λ _ _ _=>⟨λ _=>?_,λ _=>⟨⟨0,?_,⟨rfl,rfl,?_,af⟩,af⟩,λ k1 _=>have a8P:=jM zE x.M y.M k1;have a8Q:=eA x.M y.M k1;have a8R:=cx zE x.M k1;λ _ _=>⟨λ _=>⟨?_,?_,λ _ _=>⟨?_,λ _=>?_,λ _=>⟨?_,k1+1,?_,?_,⟨rfl,rfl,?_,af⟩,af⟩⟩⟩,λ _=>?_⟩⟩⟩⟩⟩;all_goals try and_intros
 all_goals first|rfl|trivial|(simp only[decide_eq_true_eq,decide_eq_false_iff_not,Bool.not_eq_false',Bool.not_eq_true',decide_not,aC,U] at *;first|omega|grind)|grind [zH,a3r]
def RW :∀ n,aI [nW n]
 | 0=>⟨⟨aA rf rfl (by decide),λ _ _ h=>absurd h (b1H _)⟩,af⟩
 | n+1=>by
  have ih:=RW  n;exact⟨Q3 n ⟨ih.1,af⟩,af⟩
def Me :aQ.Good sV :=
 ⟨aA rf rfl (by decide),λ x y hp=>(RW  (cA x+1)).1.2 x y (b1D _)⟩
end
end Go.Proofs.YtmjfpcajohhbeaaGreatDoor

namespace Go.Proofs
open Go.Shelf
def Tryz.Y8:Go.Shelf.Ren:=⟨λ|145=>144|220=>148|219=>153|217=>160|225=>161|224=>162|267=>163|266=>169|314=>170|n=>n,λ|9=>9|4=>4|59=>175|3=>3|5=>5|46=>203|146=>214|51=>213|n=>n,λ|1=>0|n=>n⟩
def Tryz.a5w:Go.Proofs.Lays.n145 Tryz.prog Tryz.Y8:={
 mixed:=by kernel_rfl
 f145:=Tryz.func144.trans (congrArg some (by kernel_rfl))
 f217:=Tryz.func160.trans (congrArg some (by kernel_rfl))
 f219:=Tryz.func153.trans (congrArg some (by kernel_rfl))
 f220:=Tryz.func148.trans (congrArg some (by kernel_rfl))
 f224:=Tryz.func162.trans (congrArg some (by kernel_rfl))
 f225:=Tryz.func161.trans (congrArg some (by kernel_rfl))
 f266:=Tryz.func169.trans (congrArg some (by kernel_rfl))
 f267:=Tryz.func163.trans (congrArg some (by kernel_rfl))
 f314:=Tryz.func170.trans (congrArg some (by kernel_rfl))
 t3:=Tryz.underlying3
 a3:=Tryz.isAgg3
 z3:=Tryz.sizeOf3
 v3:=Tryz.zeroValue3
 t4:=Tryz.underlying4
 a4:=Tryz.isAgg4
 z4:=Tryz.sizeOf4
 v4:=Tryz.zeroValue4
 t5:=Tryz.underlying5
 a5:=Tryz.isAgg5
 z5:=Tryz.sizeOf5
 v5:=Tryz.zeroValue5
 t9:=Tryz.underlying9
 a9:=Tryz.isAgg9
 z9:=Tryz.sizeOf9
 v9:=Tryz.zeroValue9
 t46:=Tryz.underlying203
 a46:=Tryz.isAgg203
 z46:=Tryz.sizeOf203
 v46:=Tryz.zeroValue203
 t51:=Tryz.underlying213
 a51:=Tryz.isAgg213
 z51:=Tryz.sizeOf213
 v51:=Tryz.zeroValue213
 t59:=Tryz.underlying175
 a59:=Tryz.isAgg175
 z59:=Tryz.sizeOf175
 v59:=Tryz.zeroValue175
 t146:=Tryz.underlying214
 a146:=Tryz.isAgg214
 z146:=Tryz.sizeOf214
 v146:=Tryz.zeroValue214
 g1:=by kernel_rfl }
open Go.RowKit Go.Lib in
def Tryz.strings_Cut(s sep:ByteArray)(m:Int)(w:World)(hs:s.size<4294967281)(hm:w.cell? ⟨0,0,none⟩=some (.int .i64 m)) :
  Calls Tryz.prog 144 #[.string s, .string sep] w λ e w'=>e = .returned (.tuple #[.string ⟨(Lib.cut s.data.toList sep.data.toList).1.toArray⟩, .string ⟨(Lib.cut s.data.toList sep.data.toList).2.1.toArray⟩, .bool (Lib.cut s.data.toList sep.data.toList).2.2])/\∃ n,w'=w.drewN n:=Any.strings_Cut Tryz.a5w s sep m w hs hm
end Go.Proofs

set_option maxRecDepth 4000
set_option maxHeartbeats 4000000
namespace Go.Proofs.YtmjfpcajohhbeaaGreatDoor
noncomputable section
open Go.RowKit Go.Proofs
def tM(s p:List UInt8):List UInt8:=(Lib.cut s p).1
def lC(s p:List UInt8):List UInt8:=(Lib.cut s p).2.1
def uw(s p:List UInt8):Bool:=(Lib.cut s p).2.2
def wQ(s p:List UInt8):List UInt8:=bif uw s p then tM s p else []
def a0w(s p:List UInt8)(i:Nat):Lib.occAt s p i=true↔(s.take (i+p.length)).drop i=p:=by
 unfold Lib.occAt;rw[List.isPrefixOf_iff_prefix,List.prefix_iff_eq_take,List.drop_take,Nat.add_sub_cancel_left];exact eq_comm
def a4N(s p:List UInt8)(i:Nat)(h:Lib.NoOcc s p i)(hi:i+p.length<=s.length)(e:(s.take (i+p.length)).drop i=p):wQ s p=s.take i/\lC s p=s.drop (i+p.length)/\uw s p=true:=by
 have hx:=Lib.index_hit h (by omega) ((a0w s p i).2 e);have hc:Lib.cut s p=(s.take i,s.drop (i+p.length),true):=by
  unfold Lib.cut;rw[hx,if_pos (by omega),Int.toNat_natCast]
 simp[wQ,lC,uw,tM,hc]
def a6n(s p:List UInt8)(i:Nat)(h:Lib.NoOcc s p i)(e:¬ (s.take (i+p.length)).drop i=p):Lib.NoOcc s p (i+1) :=
 h.succ (by
  cases q:Lib.occAt s p i with
  | false=>rfl
  | true=>exact absurd ((a0w s p i).1 q) e)
def a4M(s p:List UInt8)(i:Nat)(h:Lib.NoOcc s p i)(hp:1<=p.length)(hi:s.length<i+p.length):wQ s p=[]/\lC s p=[]/\uw s p=false:=by
 have hx:=Lib.index_past (λ e=>by rw[e] at hp;simp at hp) h hi;have hc:Lib.cut s p=(s,[],false):=by
  unfold Lib.cut;rw[hx];rfl
 simp[wQ,lC,uw,tM,hc]
def natAdd(a b:Nat):((a:Int)+(b:Int)).toNat=a+b:=by omega
def Xs(s p:List UInt8):(tM s p).length<=s.length/\(lC s p).length<=s.length:=by
 unfold tM lC Lib.cut;split
 .simp only[b1C,b1Y];omega
 .simp
def qJ:aQ:=⟨AA,[.v .str, .v .str],λ (s:List UInt8) (p:List UInt8)=>⟨(some (s.length<=1048576/\1<=p.length/\p.length<=100),[⟨.str,wQ s p⟩,⟨.str,lC s p⟩,⟨.bool,uw s p⟩])⟩⟩
def Iz(s:List UInt8)(p:List UInt8):Nat->aM:=(λ zb=>if Nat.beq zb 0 then .mk (Nat) (λ i=>Lib.NoOcc s p i/\i<=s.length) (λ i=>s.length - i) [] [2,3] (λ i=>[(7, .aT ⟨(.int .i64),((i:Int):Int)⟩)]) [0,1,4,5,6,7,8,9,10,11,12,13,14,15,16,17,18,19,20,21,22,23,24,25,26,27,28,29,30,31,32,33,34] (λ i=>[]) [] [] (λ i=>λ _ => .none) else .none)
def TC(s:List UInt8)(p:List UInt8):ck (aZ []) (az ny) (Iz s p) 0 (bx (aZ []) ny λ r=>bB r [⟨.str,wQ s p⟩,⟨.str,lC s p⟩,⟨.bool,uw s p⟩]) (aL ny [.val ⟨.str,s⟩, .val ⟨.str,p⟩]) =
 (((∃ i1:Nat,((Lib.NoOcc s p i1/\i1<=s.length)/\((s=s/\(p=p/\((0:Int)=(i1:Int)/\True)))/\True)))/\(∀ i1:Nat,((Lib.NoOcc s p i1/\i1<=s.length) ->
 (U ((p.length:Int)) ->
 (U ((i1:Int)+((p.length:Int)))/\(U ((s.length:Int)) ->
 (((decide (((i1:Int)+((p.length:Int)))<=((s.length:Int))))=true ->
 (U ((p.length:Int)) ->
 (U ((i1:Int)+((p.length:Int)))/\(cM (i1:Int) ((i1:Int)+((p.length:Int))) s.length/\(((decide (((s.take (Int.toNat ((i1:Int)+((p.length:Int))))).drop i1)=p))=true ->
 (cM (0:Int) (i1:Int) s.length/\(U ((i1:Int)+((p.length:Int)))/\(cM ((i1:Int)+((p.length:Int))) ((s.length:Int)) s.length/\(U ((p.length:Int)) ->
 (((s.take i1).drop 0)=(wQ s p)/\(((s.take (Int.toNat ((s.length:Int)))).drop (Int.toNat ((i1:Int)+((p.length:Int)))))=(lC s p)/\true=(uw s p))))))))/\((decide (((s.take (Int.toNat ((i1:Int)+((p.length:Int))))).drop i1)=p))=false ->
 (U ((i1:Int)+(1:Int))/\(∃ i2:Nat,((Lib.NoOcc s p i2/\i2<=s.length)/\(s.length - i2<s.length - i1/\((s=s/\(p=p/\(((i1:Int)+(1:Int))=(i2:Int)/\True)))/\True)))))))))))/\((decide (((i1:Int)+((p.length:Int)))<=((s.length:Int))))=false ->
 ([]=(wQ s p)/\([]=(lC s p)/\false=(uw s p)))))))))))):=by kernel_rfl
def Tl(hE:aI []):aQ.Good qJ:=by
 refine⟨aA F6 rfl (by decide),?_⟩;show ∀ (s:List UInt8) (p:List UInt8),(s.length<=1048576/\1<=p.length/\p.length<=100)->bC prog AA [.val ⟨.str,s⟩, .val ⟨.str,p⟩] (·=[⟨.str,wQ s p⟩,⟨.str,lC s p⟩,⟨.bool,uw s p⟩]);intro s p hp;refine bg (wr:=[]) (cl:=[]) (ro:=[]) hE F6 N1 (Iz s p) ?_;rewrite [TC s p];have f0:=Lib.NoOcc.zero s p;refine⟨⟨0,?_,⟨rfl,rfl,?_,af⟩,af⟩,λ i1 _=>have KO:=a4N s p i1;have yj:=a6n s p i1;have Dy:=a4M s p i1;λ _=>⟨?_,λ _=>⟨λ _ _=>⟨?_,?_,λ _=>⟨?_,?_,?_,λ _=>⟨?_,?_,?_⟩⟩,λ _=>⟨?_,i1+1,?_,?_,⟨rfl,rfl,?_,af⟩,af⟩⟩,λ _=>⟨?_,?_,?_⟩⟩⟩⟩;all_goals try and_intros
 all_goals first|rfl|trivial|omega|(simp only[b0N,b0M,aC,U,cM,natAdd,b1d,b3p] at *;first|omega|grind)|grind
def Ov:aQ.Good qJ:=Tl trivial
def uN:aQ:=⟨IG,[.v .str, .v .str],λ (s:List UInt8) (p:List UInt8)=>⟨(some (s.length<=1048576),[⟨.str,tM s p⟩,⟨.str,lC s p⟩,⟨.bool,uw s p⟩])⟩⟩
def Oy:aQ.Good uN:=by
 refine⟨aA SI rfl (by decide),?_⟩;intro (s:List UInt8) (p:List UInt8) hp w S dm hS ha;match dm,ha with
 | [v,u],ha =>
  obtain⟨⟨x,hv,hx,xQ⟩,⟨y,hu,hy,hyl⟩,_⟩:=ha;simp only[b0T,b1b] at hv hu;subst hv hu;have hp2:s.length<=1048576:=hp;obtain⟨_,m,hm⟩:=hS.2 0 (b1x.2 rfl);have pX:x.size<4294967281:=by
   have:x.data.toList.length=s.length:=congrArg List.length hx;rw[b4J,this];omega
  have hl:=Xs s p;have ex:x.data.toList=s:=hx;have ey:y.data.toList=p:=hy;refine (Tryz.strings_Cut x y m w pX hm).mono ?_;rw[ex,ey];rintro e w' ⟨rfl,n,rfl⟩;refine⟨_,S,_,rfl,rfl,⟨rfl,rfl,rfl,b1E _,λ b _ _=>rfl⟩,λ b _=>b2L,λ b h=>hS.1 b h,[_,_,_],rfl,?_,?_,rfl,af⟩
  .refine⟨_,rfl,rfl,?_⟩;have:(⟨(Lib.cut s p).1.toArray⟩:ByteArray).size=(tM s p).length:=by rw[b4J];rfl
   rw[this];omega
  .refine⟨_,rfl,rfl,?_⟩;have:(⟨(Lib.cut s p).2.1.toArray⟩:ByteArray).size=(lC s p).length:=by rw[b4J];rfl
   rw[this];omega
end
end Go.Proofs.YtmjfpcajohhbeaaGreatDoor

set_option maxRecDepth 4000
set_option maxHeartbeats 4000000
namespace Go.Proofs.YtmjfpcajohhbeaaGreatDoor
open Go.RowKit Go.Proofs
def Uq{B b:Nat}{p:Value}{bs:List Value}{w:World}(h:Lib.BuilderAt 196 5 B b p bs w)(o:Obj):Lib.BuilderAt 196 5 B b p bs (w.alloc o):=by
 obtain⟨hB,v,hb,wU,gU⟩:=h;exact⟨hB,v,by rw[Lib.alloc_old w o b (bP hb)];exact hb,wU.alloc _,gU⟩
abbrev yH(B b:Nat)(l:List UInt8)(w:World):Prop:=Lib.IsBuilder 196 5 B b (Lib.byteCells l) w
def qz{B b:Nat}{l:List UInt8}{w:World}(h:yH B b l w)(o:Obj):yH B b l (w.alloc o):=h.imp (λ h=>Uq h o) (λ h=>Uq h o)
def OU{B b:Nat}{l:List UInt8}{w:World}(h:yH B b l w):b<w.heap.size:=by
 rcases h with h|h<;>exact h.lt
def tN{B:Nat}{w:World}(h:B<=w.heap.size)(o:Obj):B<=(w.alloc o).heap.size:=by simp;omega
def DF{b:Nat}{w w1:World}{cs:Array Value}(h:mV b (w.alloc (.cells cs 38)) w1)(hb:b<w.heap.size)(j:Nat){v:Value}(hj:cs[j]?=some v):w1.cell? ⟨w.heap.size,j,none⟩=some v:=by
 have e:=h w.heap.size cs 38 (0,0) (b3S w _) (by decide) (by omega);rw[b3o (a:=⟨w.heap.size,j,none⟩) e,b3u (b3S w _)];exact hj
structure Wr(B b:Nat)(l t:List UInt8)(w w':World):Prop where
 QH:yH B b (l++t) w'
 rP:Below B w w'
 bd:mV b w w'
def Wr.trans{B b:Nat}{l t u:List UInt8}{w w1 w2:World}(h:Wr B b l t w w1)(k:Wr B b (l++t) u w1 w2):Wr B b l (t++u) w w2 :=
 ⟨by rw[<-b1P];exact k.QH,h.rP.trans k.rP,h.bd.trans k.bd⟩
def Wr.alloc{B b:Nat}{l t:List UInt8}{w w1:World}{o:Obj}(h:Wr B b l t (w.alloc o) w1)(mL:B<=w.heap.size):Wr B b l t w w1 :=
 ⟨h.QH,((Below.refl B w).alloc mL _).trans h.rP,((mV.refl b w).alloc _).trans h.bd⟩
def ws(B b:Nat)(l:List UInt8)(s:ByteArray)(w:World)(h:yH B b l w)(hlen:l.length+s.data.toList.length<=140737488355328)(mL:B<=w.heap.size) :
  Calls Tryz.prog 167 #[.pointer (some ⟨b,0,none⟩), .string s] w λ e w'=>e = .returned (.tuple #[.int .i64 s.size, .nilIface])/\Wr B b l s.data.toList w w':=by
 refine (writeString B b _ s w h (by simpa [Lib.byteCells_length] using hlen) mL).mono ?_;rintro e w' ⟨rfl,h1,h2,h3⟩;refine⟨rfl,?_,h2,h3⟩;have:Lib.byteCells l++Lib.strCells s=Lib.byteCells (l++s.data.toList):=by simp[Lib.byteCells,Lib.strCells]
 rw[yH,<-this];exact h1
abbrev JH(B b:Nat)(v:Value)(l t:List UInt8)(w:World):Prop :=
 Calls Tryz.prog 156 #[.pointer (some ⟨b,0,none⟩),v] w λ e w'=>e = .returned (.tuple #[])/\Wr B b l t w w'
set_option maxRecDepth 100000 in
def Qu(i:Nat)(hi:i<100)(w:World) :
  Calls Tryz.prog 173 #[.int .i64 i, .int .i64 10] w λ e w'=>e = .returned (.string ⟨(Lib.decDigits i).toArray⟩)/\w'=w:=by
 go_enter Tryz.func173,Tryz.ntmps173;go_wp2_with (go_at_call 175;refine (Tryz.internal_strconv_FormatInt_10_small i hi _).mono ?_);rintro e w1 ⟨he,hw⟩;subst he hw;go_wp2;go_ret;exact⟨rfl,rfl⟩
set_option maxRecDepth 100000 in
def HR(i:Nat)(hi:i<100)(w:World) :
  Calls Tryz.prog 168 #[.int .i64 i] w λ e w'=>e = .returned (.string ⟨(Lib.decDigits i).toArray⟩)/\w'=w:=by
 go_enter Tryz.func168,Tryz.ntmps168;go_wp2_with (go_at_call 173;refine (Qu i hi _).mono ?_);rintro e w1 ⟨he,hw⟩;subst he hw;go_wp2;go_ret;exact⟨rfl,rfl⟩
set_option maxRecDepth 100000 in
def we1(B b:Nat)(l:List UInt8)(n:Int)(sl:Value)(w:World)(h:yH B b l w)(hlen:l.length+1<=140737488355328)(mL:B<=w.heap.size) :
  JH B b (.agg #[.int .i64 1, .int .i64 n,sl]) l [48] w:=by
 go_enter Tryz.func156,Tryz.ntmps156;go_wp2_with (go_at_call 167;refine (ws B b l _ _ (qz h _) (by exact hlen) (tN mL _)).mono ?_);intro e w1 he h1;subst he;go_wp2;go_end0;exact⟨rfl,h1.alloc mL⟩
set_option maxRecDepth 100000 in
def we2(B b:Nat)(l:List UInt8)(n:Int)(sl:Value)(w:World)(h:yH B b l w)(hlen:l.length+1<=140737488355328)(mL:B<=w.heap.size) :
  JH B b (.agg #[.int .i64 2, .int .i64 n,sl]) l [49] w:=by
 go_enter Tryz.func156,Tryz.ntmps156;go_wp2_with (go_at_call 167;refine (ws B b l _ _ (qz h _) (by exact hlen) (tN mL _)).mono ?_);intro e w1 he h1;subst he;go_wp2;go_end0;exact⟨rfl,h1.alloc mL⟩
set_option maxRecDepth 100000 in
def we3(B b:Nat)(l:List UInt8)(i:Nat)(hi:i<100)(sl:Value)(w:World)(h:yH B b l w)(hlen:l.length+((Lib.decDigits i).length+1)<=140737488355328)(mL:B<=w.heap.size) :
  JH B b (.agg #[.int .i64 3, .int .i64 i,sl]) l (116::Lib.decDigits i) w:=by
 go_enter Tryz.func156,Tryz.ntmps156;go_wp2_with (go_at_call 168;refine (HR i hi _).mono ?_);rintro e w1 ⟨he,hw⟩;subst he hw;go_wp2_with (go_at_call 167;refine (ws B b l _ _ (qz h _) (by simp;omega) (tN mL _)).mono ?_);rintro e w1 ⟨he,h1⟩;subst he;go_wp2;go_end0;exact⟨rfl,by simpa using h1.alloc mL⟩
set_option maxRecDepth 100000 in
def we4(B b:Nat)(l:List UInt8)(i:Nat)(hi:i<100)(sl:Value)(w:World)(h:yH B b l w)(hlen:l.length+((Lib.decDigits i).length+1)<=140737488355328)(mL:B<=w.heap.size) :
  JH B b (.agg #[.int .i64 4, .int .i64 i,sl]) l (97::Lib.decDigits i) w:=by
 go_enter Tryz.func156,Tryz.ntmps156;go_wp2_with (go_at_call 168;refine (HR i hi _).mono ?_);rintro e w1 ⟨he,hw⟩;subst he hw;go_wp2_with (go_at_call 167;refine (ws B b l _ _ (qz h _) (by simp;omega) (tN mL _)).mono ?_);rintro e w1 ⟨he,h1⟩;subst he;go_wp2;go_end0;exact⟨rfl,by simpa using h1.alloc mL⟩
set_option maxRecDepth 100000 in
def we5(B b:Nat)(l t:List UInt8)(n:Int)(kb ko cap:Nat)(c0 c1 c2:Value)(w:World)(h:yH B b l w)(hlen:l.length+(t.length+1)<=140737488355328)(mL:B<=w.heap.size)
  (wT:∀ w1,Below B w w1->∀ j v,[c0,c1,c2][j]?=some v->w1.cell? ⟨kb,ko+0+j,none⟩=some v)
  (ih0:∀ w1 l1,Below B w w1->yH B b l1 w1->B<=w1.heap.size->l1.length+t.length<=140737488355328->JH B b (.agg #[c0,c1,c2]) l1 t w1)
  : JH B b (.agg #[.int .i64 5, .int .i64 n, .slice (some ⟨kb,ko,none⟩) 1 cap]) l (126::t) w:=by
 go_enter Tryz.func156,Tryz.ntmps156;go_wp2_with (go_at_call 167;refine (ws B b l _ _ (qz h _) (by simp;omega) (tN mL _)).mono ?_);intro e w1 he h1;subst he;have c2':=DF h1.bd (OU h) 2 rfl;have q00:w1.cell? ⟨kb,ko,none⟩=some c0:=by simpa [Nat.add_assoc] using wT w1 (h1.alloc mL).rP 0 _ rfl
 have q01:w1.cell? ⟨kb,ko+1,none⟩=some c1:=by simpa [Nat.add_assoc] using wT w1 (h1.alloc mL).rP 1 _ rfl
 have q02:w1.cell? ⟨kb,ko+2,none⟩=some c2:=by simpa [Nat.add_assoc] using wT w1 (h1.alloc mL).rP 2 _ rfl
 go_wp2_with (go_at_call 156;refine (ih0 w1 _ (h1.alloc mL).rP h1.QH (by have:=(h1.alloc mL).rP.size;omega) (by simp;omega)).mono ?_);rintro e w2 ⟨he,h2⟩;subst he;go_wp2;go_end0;exact⟨rfl,((h1.alloc mL).trans h2)⟩
set_option maxRecDepth 100000 in
def we8(B b:Nat)(l t:List UInt8)(n:Int)(kb ko cap:Nat)(c0 c1 c2:Value)(w:World)(h:yH B b l w)(hlen:l.length+(t.length+1)<=140737488355328)(mL:B<=w.heap.size)
  (wT:∀ w1,Below B w w1->∀ j v,[c0,c1,c2][j]?=some v->w1.cell? ⟨kb,ko+0+j,none⟩=some v)
  (ih0:∀ w1 l1,Below B w w1->yH B b l1 w1->B<=w1.heap.size->l1.length+t.length<=140737488355328->JH B b (.agg #[c0,c1,c2]) l1 t w1)
  : JH B b (.agg #[.int .i64 8, .int .i64 n, .slice (some ⟨kb,ko,none⟩) 1 cap]) l (t++[42]) w:=by
 have OF:Below B w (w.alloc (.cells #[.int .i64 8, .int .i64 n, .slice (some ⟨kb,ko,none⟩) 1 cap] 38)):=(Below.refl B w).alloc mL _;have q00:(w.alloc (.cells #[.int .i64 8, .int .i64 n, .slice (some ⟨kb,ko,none⟩) 1 cap] 38)).cell? ⟨kb,ko,none⟩=some c0:=by simpa [Nat.add_assoc] using wT (w.alloc (.cells #[.int .i64 8, .int .i64 n, .slice (some ⟨kb,ko,none⟩) 1 cap] 38)) OF 0 _ rfl
 have q01:(w.alloc (.cells #[.int .i64 8, .int .i64 n, .slice (some ⟨kb,ko,none⟩) 1 cap] 38)).cell? ⟨kb,ko+1,none⟩=some c1:=by simpa [Nat.add_assoc] using wT (w.alloc (.cells #[.int .i64 8, .int .i64 n, .slice (some ⟨kb,ko,none⟩) 1 cap] 38)) OF 1 _ rfl
 have q02:(w.alloc (.cells #[.int .i64 8, .int .i64 n, .slice (some ⟨kb,ko,none⟩) 1 cap] 38)).cell? ⟨kb,ko+2,none⟩=some c2:=by simpa [Nat.add_assoc] using wT (w.alloc (.cells #[.int .i64 8, .int .i64 n, .slice (some ⟨kb,ko,none⟩) 1 cap] 38)) OF 2 _ rfl
 go_enter Tryz.func156,Tryz.ntmps156;go_wp2_with (go_at_call 156;refine (ih0 _ _ OF (qz h _) (tN mL _) (by omega)).mono ?_);rintro e w1 ⟨he,h1⟩;subst he;go_wp2_with (go_at_call 167;refine (ws B b _ _ _ h1.QH (by simp;omega) (by have:=(h1.alloc mL).rP.size;omega)).mono ?_);intro e w2 he h2;subst he;go_wp2;go_end0;exact⟨rfl,((h1.alloc mL).trans h2)⟩
set_option maxRecDepth 100000 in
def we6(B b:Nat)(l t u:List UInt8)(n:Int)(kb ko cap:Nat)(c0 c1 c2 d0 d1 d2:Value)(w:World)(h:yH B b l w)(hlen:l.length+(t.length+u.length+5)<=140737488355328)(mL:B<=w.heap.size)
  (wT:∀ w1,Below B w w1->∀ j v,[c0,c1,c2][j]?=some v->w1.cell? ⟨kb,ko+0+j,none⟩=some v)
  (ih0:∀ w1 l1,Below B w w1->yH B b l1 w1->B<=w1.heap.size->l1.length+t.length<=140737488355328->JH B b (.agg #[c0,c1,c2]) l1 t w1)
  (QB:∀ w1,Below B w w1->∀ j v,[d0,d1,d2][j]?=some v->w1.cell? ⟨kb,ko+3+j,none⟩=some v)
  (ih1:∀ w1 l1,Below B w w1->yH B b l1 w1->B<=w1.heap.size->l1.length+u.length<=140737488355328->JH B b (.agg #[d0,d1,d2]) l1 u w1)
  : JH B b (.agg #[.int .i64 6, .int .i64 n, .slice (some ⟨kb,ko,none⟩) 2 cap]) l ([40]++(t++([32,43,32]++(u++[41])))) w:=by
 go_enter Tryz.func156,Tryz.ntmps156;go_wp2_with (go_at_call 167;refine (ws B b l _ _ (qz h _) (by simp;omega) (tN mL _)).mono ?_);intro e w1 he h1;subst he;have e1:=DF h1.bd (OU h) 2 rfl;have q00:w1.cell? ⟨kb,ko,none⟩=some c0:=by simpa [Nat.add_assoc] using wT w1 (h1.alloc mL).rP 0 _ rfl
 have q01:w1.cell? ⟨kb,ko+1,none⟩=some c1:=by simpa [Nat.add_assoc] using wT w1 (h1.alloc mL).rP 1 _ rfl
 have q02:w1.cell? ⟨kb,ko+2,none⟩=some c2:=by simpa [Nat.add_assoc] using wT w1 (h1.alloc mL).rP 2 _ rfl
 have g1:=h1.alloc mL;have s1:B<=w1.heap.size:=by have:=g1.rP.size;omega
 go_wp2_with (go_at_call 156;refine (ih0 w1 _ g1.rP h1.QH s1 (by simp;omega)).mono ?_);rintro e w2 ⟨he,h2⟩;subst he;have s2:B<=w2.heap.size:=by have:=h2.rP.size;omega
 go_wp2_with (go_at_call 167;refine (ws B b _ _ _ h2.QH (by simp;omega) s2).mono ?_);intro e w3 he h3;subst he;have e3:=DF (h1.bd.trans (h2.bd.trans h3.bd)) (OU h) 2 rfl;have g3:=g1.rP.trans (h2.rP.trans h3.rP);have q10:w3.cell? ⟨kb,ko+3,none⟩=some d0:=by simpa [Nat.add_assoc] using QB w3 g3 0 _ rfl
 have q11:w3.cell? ⟨kb,ko+4,none⟩=some d1:=by simpa [Nat.add_assoc] using QB w3 g3 1 _ rfl
 have q12:w3.cell? ⟨kb,ko+5,none⟩=some d2:=by simpa [Nat.add_assoc] using QB w3 g3 2 _ rfl
 have s3:B<=w3.heap.size:=by have:=h3.rP.size;omega
 go_wp2_with (go_at_call 156;refine (ih1 w3 _ g3 h3.QH s3 (by simp;omega)).mono ?_);rintro e w4 ⟨he,h4⟩;subst he;have s4:B<=w4.heap.size:=by have:=h4.rP.size;omega
 go_wp2_with (go_at_call 167;refine (ws B b _ _ _ h4.QH (by simp;omega) s4).mono ?_);intro e w5 he h5;subst he;go_wp2;go_end0;have j2:Wr B b (l++[40]) t w1 w2:=by simpa using h2
 have j3:Wr B b (l++[40]++t) [32,43,32] w2 w3:=by simpa using h3
 have j4:Wr B b (l++[40]++t++[32,43,32]) u w3 w4:=by simpa using h4
 have j5:Wr B b (l++[40]++t++[32,43,32]++u) [41] w4 w5:=by simpa using h5
 exact⟨rfl,g1.trans (j2.trans (j3.trans (j4.trans j5)))⟩
set_option maxRecDepth 100000 in
def we7(B b:Nat)(l t u:List UInt8)(n:Int)(kb ko cap:Nat)(c0 c1 c2 d0 d1 d2:Value)(w:World)(h:yH B b l w)(hlen:l.length+(t.length+u.length+3)<=140737488355328)(mL:B<=w.heap.size)
  (wT:∀ w1,Below B w w1->∀ j v,[c0,c1,c2][j]?=some v->w1.cell? ⟨kb,ko+0+j,none⟩=some v)
  (ih0:∀ w1 l1,Below B w w1->yH B b l1 w1->B<=w1.heap.size->l1.length+t.length<=140737488355328->JH B b (.agg #[c0,c1,c2]) l1 t w1)
  (QB:∀ w1,Below B w w1->∀ j v,[d0,d1,d2][j]?=some v->w1.cell? ⟨kb,ko+3+j,none⟩=some v)
  (ih1:∀ w1 l1,Below B w w1->yH B b l1 w1->B<=w1.heap.size->l1.length+u.length<=140737488355328->JH B b (.agg #[d0,d1,d2]) l1 u w1)
  : JH B b (.agg #[.int .i64 7, .int .i64 n, .slice (some ⟨kb,ko,none⟩) 2 cap]) l ([40]++(t++([32]++(u++[41])))) w:=by
 go_enter Tryz.func156,Tryz.ntmps156;go_wp2_with (go_at_call 167;refine (ws B b l _ _ (qz h _) (by simp;omega) (tN mL _)).mono ?_);intro e w1 he h1;subst he;have e1:=DF h1.bd (OU h) 2 rfl;have q00:w1.cell? ⟨kb,ko,none⟩=some c0:=by simpa [Nat.add_assoc] using wT w1 (h1.alloc mL).rP 0 _ rfl
 have q01:w1.cell? ⟨kb,ko+1,none⟩=some c1:=by simpa [Nat.add_assoc] using wT w1 (h1.alloc mL).rP 1 _ rfl
 have q02:w1.cell? ⟨kb,ko+2,none⟩=some c2:=by simpa [Nat.add_assoc] using wT w1 (h1.alloc mL).rP 2 _ rfl
 have g1:=h1.alloc mL;have s1:B<=w1.heap.size:=by have:=g1.rP.size;omega
 go_wp2_with (go_at_call 156;refine (ih0 w1 _ g1.rP h1.QH s1 (by simp;omega)).mono ?_);rintro e w2 ⟨he,h2⟩;subst he;have s2:B<=w2.heap.size:=by have:=h2.rP.size;omega
 go_wp2_with (go_at_call 167;refine (ws B b _ _ _ h2.QH (by simp;omega) s2).mono ?_);intro e w3 he h3;subst he;have e3:=DF (h1.bd.trans (h2.bd.trans h3.bd)) (OU h) 2 rfl;have g3:=g1.rP.trans (h2.rP.trans h3.rP);have q10:w3.cell? ⟨kb,ko+3,none⟩=some d0:=by simpa [Nat.add_assoc] using QB w3 g3 0 _ rfl
 have q11:w3.cell? ⟨kb,ko+4,none⟩=some d1:=by simpa [Nat.add_assoc] using QB w3 g3 1 _ rfl
 have q12:w3.cell? ⟨kb,ko+5,none⟩=some d2:=by simpa [Nat.add_assoc] using QB w3 g3 2 _ rfl
 have s3:B<=w3.heap.size:=by have:=h3.rP.size;omega
 go_wp2_with (go_at_call 156;refine (ih1 w3 _ g3 h3.QH s3 (by simp;omega)).mono ?_);rintro e w4 ⟨he,h4⟩;subst he;have s4:B<=w4.heap.size:=by have:=h4.rP.size;omega
 go_wp2_with (go_at_call 167;refine (ws B b _ _ _ h4.QH (by simp;omega) s4).mono ?_);intro e w5 he h5;subst he;go_wp2;go_end0;have j2:Wr B b (l++[40]) t w1 w2:=by simpa using h2
 have j3:Wr B b (l++[40]++t) [32] w2 w3:=by simpa using h3
 have j4:Wr B b (l++[40]++t++[32]) u w3 w4:=by simpa using h4
 have j5:Wr B b (l++[40]++t++[32]++u) [41] w4 w5:=by simpa using h5
 exact⟨rfl,g1.trans (j2.trans (j3.trans (j4.trans j5)))⟩
end Go.Proofs.YtmjfpcajohhbeaaGreatDoor

set_option maxRecDepth 4000
set_option maxHeartbeats 4000000
namespace Go.Proofs.YtmjfpcajohhbeaaGreatDoor
noncomputable section
open Go.RowKit Go.Proofs
def A4(n:Int):List UInt8:=Lib.decDigits n.toNat
def W5(k n:Int)(p q:List UInt8):List UInt8:=if k=1 then [48] else if k=2 then [49] else if k=3 then 116::A4 n else if k=4 then 97::A4 n else if k=5 then 126::p
 else if k=6 then [40]++(p++([32,43,32]++(q++[41]))) else if k=7 then [40]++(p++([32]++(q++[41]))) else p++[42]
mutual
def cd:J->List UInt8
 | ⟨k,n,ks⟩=>W5 k n ((SD ks).getD 0 []) ((SD ks).getD 1 [])
def SD:List J->List (List UInt8)
 | []=>[]
 | k::ks=>cd k::SD ks
end
def tD(z:J):∀ (xs:List J) (i:Nat),i<xs.length->(SD xs).getD i []=cd (xs.getD i z)
 | [],i,h=>by simp at h
 | x::xs,0,h=>by simp[SD]
 | x::xs,i+1,h=>by
  have:=tD z xs i (by simpa using h);simpa [SD] using this
def a6T(x:J):cd x=W5 x.au x.aO ((SD x.M).getD 0 []) ((SD x.M).getD 1 []):=by
 cases x;rfl
def eR(x:J):Bool:=br 9 9 x
def BA(x:J)(i:Nat):Prop:=eR (x.M.getD i zE)=true/\cA (x.M.getD i zE)<cA x
def zJ(x:J)(h:eR x=true)(i:Nat)(hi:i<x.M.length):BA x i:=by
 unfold BA;simp only[eR] at h ⊢;rw[l5] at h;simp only[Bool.and_eq_true] at h;refine⟨Xf _ _ _ _ hi h.2,?_⟩;have:=cx (zE:J) x.M i hi;have:=dX x;omega
def jW(x:J)(h:eR x=true):((x.au=3\/x.au=4)->0<=x.aO/\x.aO<=9) /\
  ((x.au=5\/x.au=8)->x.M.length=1/\BA x 0)/\((x.au=6\/x.au=7)->x.M.length=2/\BA x 0/\BA x 1) /\
  (x.au=1\/x.au=2\/x.au=3\/x.au=4\/x.au=5\/x.au=6\/x.au=7\/x.au=8):=by
 have hk:=zJ x h;simp only[eR] at h;rw[l5,zc] at h;simp only[b0R,b0N] at h;obtain⟨⟨⟨h1,h2⟩,_⟩,_⟩:=h;refine⟨λ e=>?_,λ e=>?_,λ e=>?_,?_⟩
 .rcases e with e|e<;>simpa [IK,e] using h2
 .have h1':x.M.length=1:=by
   rcases e with e|e<;>rw[e] at h1<;>simp[de] at h1<;>omega
  exact⟨h1',hk 0 (by omega)⟩
 .have h1':x.M.length=2:=by
   rcases e with e|e<;>rw[e] at h1<;>simp[de] at h1<;>omega
  exact⟨h1',hk 0 (by omega),hk 1 (by omega)⟩
 .unfold de at h1;split at h1
  .omega
  .split at h1
   .omega
   .split at h1<;>omega
def gv(x:J)(h:eR x=true):(x.au=1->cd x=[48])/\(x.au=2->cd x=[49])/\(x.au=3->cd x=116::A4 x.aO)/\(x.au=4->cd x=97::A4 x.aO) /\
  (x.au=5->cd x=126::cd (x.M.getD 0 zE)) /\
  (x.au=6->cd x=[40]++(cd (x.M.getD 0 zE)++([32,43,32]++(cd (x.M.getD 1 zE)++[41])))) /\
  (x.au=7->cd x=[40]++(cd (x.M.getD 0 zE)++([32]++(cd (x.M.getD 1 zE)++[41])))) /\
  (x.au=8->cd x=cd (x.M.getD 0 zE)++[42]):=by
 have hf:=jW x h;rw[a6T];refine⟨λ e=>?_,λ e=>?_,λ e=>?_,λ e=>?_,λ e=>?_,λ e=>?_,λ e=>?_,λ e=>?_⟩
 .simp[W5,e]
 .simp[W5,e]
 .simp[W5,e]
 .simp[W5,e]
 .have:=(hf.2.1 (.inl e)).1;rw[tD zE x.M 0 (by omega)];simp[W5,e]
 .have:=(hf.2.2.1 (.inl e)).1;rw[tD zE x.M 0 (by omega),tD zE x.M 1 (by omega)];simp[W5,e]
 .have:=(hf.2.2.1 (.inr e)).1;rw[tD zE x.M 0 (by omega),tD zE x.M 1 (by omega)];simp[W5,e]
 .have:=(hf.2.1 (.inr e)).1;rw[tD zE x.M 0 (by omega)];simp[W5,e]
def ZW(n:Int)(h:0<=n/\n<=9):(A4 n).length=1:=by
 unfold A4;rw[Lib.decDigits_one (by omega)];rfl
def a7C(f:J->Nat)(z:J)(xs:List J)(h:xs.length=2):aj f xs=f (xs.getD 0 z)+f (xs.getD 1 z):=by
 match xs,h with
 | [a,b],_=>simp[aj]
def a7B(f:J->Nat)(z:J)(xs:List J)(h:xs.length=1):aj f xs=f (xs.getD 0 z):=by
 match xs,h with
 | [a],_=>simp[aj]
def AT:∀ (N:Nat) (x:J),cA x<N->eR x=true->(cd x).length<=5 * aN x
 | 0,x,h,_=>by omega
 | N+1,x,hN,h=>by
  have hf:=jW x h;have ht:=gv x h;have hn:=AE x;rcases hf.2.2.2 with e|e|e|e|e|e|e|e
  .rw[ht.1 e];simp;omega
  .rw[ht.2.1 e];simp;omega
  .rw[ht.2.2.1 e];have:=ZW _ (hf.1 (.inl e));simp;omega
  .rw[ht.2.2.2.1 e];have:=ZW _ (hf.1 (.inr e));simp;omega
  .rw[ht.2.2.2.2.1 e];obtain⟨hl,h0⟩:=hf.2.1 (.inl e);have i0:=AT N _ (by have:=h0.2;omega) h0.1;rw[a7B _ zE _ hl] at hn;simp only[b0Z];omega
  .rw[ht.2.2.2.2.2.1 e];obtain⟨hl,h0,h1⟩:=hf.2.2.1 (.inl e);have i0:=AT N _ (by have:=h0.2;omega) h0.1;have i1:=AT N _ (by have:=h1.2;omega) h1.1;rw[a7C _ zE _ hl] at hn;simp only[b1l,b0Z,b1n];omega
  .rw[ht.2.2.2.2.2.2.1 e];obtain⟨hl,h0,h1⟩:=hf.2.2.1 (.inr e);have i0:=AT N _ (by have:=h0.2;omega) h0.1;have i1:=AT N _ (by have:=h1.2;omega) h1.1;rw[a7C _ zE _ hl] at hn;simp only[b1l,b0Z,b1n];omega
  .rw[ht.2.2.2.2.2.2.2 e];obtain⟨hl,h0⟩:=hf.2.1 (.inr e);have i0:=AT N _ (by have:=h0.2;omega) h0.1;rw[a7B _ zE _ hl] at hn;simp only[b1l,b0Z,b1n];omega
def a0D{w:World}{S:Nat->Prop}{x:J}{cs:List Value}(h:Rd w S x.bc cs):∃ a cap,cs=[.int .i64 x.au, .int .i64 x.aO, .slice a x.M.length cap] /\
  (x.M=[]\/∃ b o,a=some ⟨b,o,none⟩/\S b/\eH w S (x.M.map J.bc) b o):=by
 cases x with
 | mk k n ks =>
  simp only[J.bc,Rd,eb] at h;obtain⟨v0,r0,rfl,⟨h0,_⟩,v1,r1,rfl,⟨h1,_⟩,v2,r2,rfl,⟨a,cap,h2,_,_,_,h3⟩,rfl⟩:=h;simp only[b0T,b1b] at h0 h1 h2;subst h0 h1 h2;rw[J.xF] at *
  refine⟨a,cap,by simp,h3.imp (λ h=>by simpa using h) id⟩
def a6M{w:World}{S:Nat->Prop}{x:J}{b o:Nat}(h:eH w S (x.M.map J.bc) b o)(i:Nat)(hi:i<x.M.length) :
  ∃ c0 c1 c2,Rd w S (x.M.getD i zE).bc [c0,c1,c2]/\cG w b (o+3 * i) [c0,c1,c2]:=by
 obtain⟨cs,h1,h2,h3⟩:=eH.at_ (n:=3) _ b o h (λ d hd=>by
  obtain⟨y,_,rfl⟩:=b0S.1 hd;cases y;rfl) i (x.M.getD i zE).bc (by simp[b2F,b1f,b1p hi])
 match cs,h1 with
 | [c0,c1,c2],_=>exact⟨c0,c1,c2,h2,by rw[Nat.mul_comm];exact h3⟩
def Lr(B b:Nat)(S:Nat->Prop)(hS:∀ k,S k->k<B):∀ (N:Nat) (x:J),cA x<N->eR x=true->∀ (l:List UInt8) (w:World) (cs:List Value),yH B b l w->B<=w.heap.size ->
  l.length+(cd x).length<=140737488355328->Rd w S x.bc cs->JH B b (.agg cs.toArray) l (cd x) w
 | 0,x,h,_=>by omega
 | N+1,x,hN,h=>by
  intro l w cs hI hB hl hr;have hf:=jW x h;have ht:=gv x h;obtain⟨a,cap,rfl,hk⟩:=a0D hr;have Kl:∀ i,i<x.M.length->BA x i->∃ kb ko c0 c1 c2,a=some ⟨kb,ko,none⟩/\(∀ j,j≠i->True)/\(∀ w1,Below B w w1->∀ j v,[c0,c1,c2][j]?=some v->w1.cell? ⟨kb,ko+3 * i+j,none⟩=some v) /\
    (∀ w1 l1,Below B w w1->yH B b l1 w1->B<=w1.heap.size->l1.length+(cd (x.M.getD i zE)).length<=140737488355328->JH B b (.agg #[c0,c1,c2]) l1 (cd (x.M.getD i zE)) w1):=by
   intro i hi hg;rcases hk with hk|⟨kb,ko,rfl,hSk,gO⟩
   .rw[hk] at hi;simp at hi
   .obtain⟨c0,c1,c2,h1,h2⟩:=a6M gO i hi;refine⟨kb,ko,c0,c1,c2,rfl,λ _ _=>trivial,λ w1 hw j v hj=>?_,λ w1 l1 hw hI1 hB1 hl1=>?_⟩
    .exact h2.bd (hw.block kb (hS kb hSk)) j v hj
    .exact Lr B b S hS N _ (by have:=hg.2;omega) hg.1 l1 w1 [c0,c1,c2] hI1 hB1 hl1 (h1.bd (λ _ h=>h) (λ k hk=>hw.block k (hS k hk)))
  rcases hf.2.2.2 with e|e|e|e|e|e|e|e
  .rw[ht.1 e] at hl ⊢;rw[e];exact we1 B b l _ _ w hI hl hB
  .rw[ht.2.1 e] at hl ⊢;rw[e];exact we2 B b l _ _ w hI hl hB
  .have hn:=hf.1 (.inl e);rw[ht.2.2.1 e] at hl ⊢;rw[e,show x.aO=((x.aO.toNat:Nat):Int) by omega];exact we3 B b l _ (by omega) _ w hI (by simpa [A4] using hl) hB
  .have hn:=hf.1 (.inr e);rw[ht.2.2.2.1 e] at hl ⊢;rw[e,show x.aO=((x.aO.toNat:Nat):Int) by omega];exact we4 B b l _ (by omega) _ w hI (by simpa [A4] using hl) hB
  .obtain⟨hn,h0⟩:=hf.2.1 (.inl e);obtain⟨kb,ko,c0,c1,c2,rfl,_,q1,q2⟩:=Kl 0 (by omega) h0;rw[ht.2.2.2.2.1 e] at hl ⊢;rw[e,hn];exact we5 B b l _ _ kb ko cap c0 c1 c2 w hI (by simpa using hl) hB q1 q2
  .obtain⟨hn,h0,h1⟩:=hf.2.2.1 (.inl e);obtain⟨kb,ko,c0,c1,c2,rfl,_,q1,q2⟩:=Kl 0 (by omega) h0;obtain⟨kb',ko',d0,d1,d2,eq,_,p1,p2⟩:=Kl 1 (by omega) h1;cases eq;rw[ht.2.2.2.2.2.1 e] at hl ⊢;rw[e,hn];exact we6 B b l _ _ _ kb ko cap c0 c1 c2 d0 d1 d2 w hI (by simp at hl ⊢;omega) hB q1 q2 p1 p2
  .obtain⟨hn,h0,h1⟩:=hf.2.2.1 (.inr e);obtain⟨kb,ko,c0,c1,c2,rfl,_,q1,q2⟩:=Kl 0 (by omega) h0;obtain⟨kb',ko',d0,d1,d2,eq,_,p1,p2⟩:=Kl 1 (by omega) h1;cases eq;rw[ht.2.2.2.2.2.2.1 e] at hl ⊢;rw[e,hn];exact we7 B b l _ _ _ kb ko cap c0 c1 c2 d0 d1 d2 w hI (by simp at hl ⊢;omega) hB q1 q2 p1 p2
  .obtain⟨hn,h0⟩:=hf.2.1 (.inr e);obtain⟨kb,ko,c0,c1,c2,rfl,_,q1,q2⟩:=Kl 0 (by omega) h0;rw[ht.2.2.2.2.2.2.2 e] at hl ⊢;rw[e,hn];exact we8 B b l _ _ kb ko cap c0 c1 c2 w hI (by simpa using hl) hB q1 q2
def uK:aQ:=⟨IF,[.v (.st .expr)],λ (x:J)=>⟨(some (eR x=true/\(cd x).length<=1000000),[⟨.str,cd x⟩])⟩⟩
set_option maxRecDepth 100000 in
def Zt(x:J)(w:World)(S:Nat->Prop)(hS:∀ b,S b->b<w.heap.size)(hg:eR x=true)(hl:(cd x).length<=1000000)(cs:List Value)(hr:Rd w S x.bc cs) :
  Calls Tryz.prog 150 #[.agg cs.toArray] w λ e w'=>e = .returned (.string ⟨(cd x).toArray⟩)/\Below w.heap.size w w':=by
 obtain⟨a,cap,rfl,hk⟩:=a0D hr;have hI:∀ o:Obj,yH (w.heap.size+1) (w.heap.size+1) [] ((w.alloc o).alloc (.cells #[.pointer none, .slice none 0 0] 196)):=λ o=>by
  have:=Lib.fresh_isBuilder 196 5 (w.alloc o);rw[show (w.alloc o).heap.size=w.heap.size+1 by simp] at this;exact this
 have hB:∀ o p:Obj,w.heap.size+1<=((w.alloc o).alloc p).heap.size:=λ o p=>by simp
 have hw:∀ o p:Obj,Below w.heap.size w ((w.alloc o).alloc p):=λ o p=>((Below.refl _ w).alloc (Nat.le_refl _) o).alloc (by simp) p;go_enter Tryz.func150,Tryz.ntmps150;go_wp2_with (go_at_call 156;refine (Lr (w.heap.size+1) (w.heap.size+1) S (λ k hk=>Nat.lt_succ_of_lt (hS k hk)) (cA x+1) x (Nat.lt_succ_self _) hg [] _ _ (hI _) (hB _ _) (by simp;omega) (hr.bd (λ _ h=>h) (λ k hk=>(hw _ _).block k (hS k hk)))).mono ?_);rintro e w1 ⟨he,h1⟩;subst he;have b1:Below w.heap.size w w1:=(hw _ _).trans (h1.rP.mono (Nat.le_succ _));have g1:yH (w.heap.size+1) (w.heap.size+1) (cd x) w1:=by simpa using h1.QH
 have z1:w.heap.size+1<=w1.heap.size:=b3a (hB _ _) h1.rP.size;clear h1;go_wp2_with (go_at_call 157;refine (Tryz.Builder_String_any (w.heap.size+1) (w.heap.size+1) (cd x) w1 g1 z1).mono ?_);rintro e w2 ⟨he,h2⟩;subst he;go_wp2;go_ret;exact⟨rfl,b1.trans (h2.mono (b4K _))⟩
def Yu{w w':World}(h:Below w.heap.size w w'):bV (λ _=>False) w w':=⟨h.os,h.tape,h.output,h.size,λ b hb _=>h.block b hb⟩
def a6N{w:World}{S:Nat->Prop}(l:List UInt8)(h:l.length<=140737488355328):gM w S ⟨.str,l⟩ (.string ⟨l.toArray⟩) :=
 ⟨⟨l.toArray⟩,rfl,by simp,by simpa [ByteArray.size] using h⟩
def Ot:aQ.Good uK:=by
 refine⟨aA SG rfl (by decide),?_⟩;intro x hp w S dm ⟨hS,_⟩ ha;match dm,ha with
 | [v],ha =>
  obtain⟨⟨cs,rfl,hr⟩,_⟩:=ha;refine (Zt x w S hS hp.1 hp.2 cs hr).mono ?_;rintro e w' ⟨rfl,hb⟩;exact⟨_,S,_,rfl,rfl,Yu hb,λ _ _=>b2L,λ b h=>b1c (hS b h) hb.size,a6N (w:=w') (S:=S) _ (by have:=hp.2;omega)⟩
def tk(x:J)(i:Nat):J:=x.M.getD i zE
structure TK(x:J)(i:Nat):Prop where
 b0H:eR (x.M.getD i zE)=true
 less:cA (x.M.getD i zE)<cA x
 len:(cd (x.M.getD i zE)).length<=(cd x).length
end
end Go.Proofs.YtmjfpcajohhbeaaGreatDoor

namespace Go.Proofs.YtmjfpcajohhbeaaGreatDoor
noncomputable section
def a3H(s:List UInt8)(h:mD 9 s=true)(h9:jm s<=9):mD 1 s=true:=by
 rw[Eu] at h ⊢;simp only[b0R,b0N,b1i,b3m,b0M] at h ⊢;obtain⟨⟨⟨h1,h2⟩,h3⟩,h4⟩:=h;refine⟨⟨⟨h1,?_⟩,h3⟩,h4⟩;rcases b1R 1 s.length with hl|hl
 .exfalso;match s,hl,h3,h4,h9 with
  | a::b::r,_,h3,h4,h9 =>
   have ha:iR a=true:=by simp[bE] at h4;exact h4.1
   have ha':=ha;simp only[iR,b0R,b0N] at ha;have h3':a.toNat≠48:=by rcases h3 with h3|h3<;>simp at h3<;>omega
   have key:∀ (r:List UInt8) (n:Int),1<=n->bE iR r=true->n<=r.foldl (λ n b=>n * 10+((b.toNat:Int) - 48)) n:=by
    intro r;induction r with
    | nil=>intro n _ _;exact Int.le_refl _
    | cons c r ih =>
     intro n hn hr;simp only[bE,b0R] at hr;have hc:=hr.1;simp only[iR,b0R,b0N] at hc;have:=ih (n * 10+((c.toNat:Int) - 48)) (by omega) hr.2;simp only[b3N];omega
   simp only[bE,b0R] at h4;have hb:=h4.2.1;simp only[iR,b0R,b0N] at hb;have:=key r (((0 * 10+((a.toNat:Int) - 48)) * 10)+((b.toNat:Int) - 48)) (by omega) h4.2.2;simp only[jm,b3N] at h9;omega
 .omega
def y8{α:Type}(f:α->Bool):∀ (xs:List α),bE f xs=true->∀ x∈xs,f x=true
 | x::xs,h,y,hy=>by
  simp only[bE,b0R] at h;rcases b1e.1 hy with e|e
  .rw[e];exact h.1
  .exact y8 f xs h.2 y e
abbrev zX:J:=J.mk (0:Int) (0:Int) []
def dd(t:List UInt8)(a:Nat)(s:List UInt8):Bool:=decide (s.length<=(t.drop a).length)&&decide ((t.drop a).take s.length=s)
def qW{t:List UInt8}{a:Nat}{s r:List UInt8}(h:t.drop a=s++r):dd t a s=true:=by
 unfold dd;rw[h];simp
def PG(t:List UInt8)(a:Nat)(s:List UInt8):dd t a s=true↔∃ r,t.drop a=s++r:=by
 constructor
 .intro h;simp only[dd,b0R,b0N] at h;refine⟨(t.drop a).drop s.length,?_⟩;conv=>rhs;lhs;rw[<-h.2]
  rw[b2f]
 .rintro⟨r,h⟩;exact qW h
def qo{t:List UInt8}{a:Nat}{b c:UInt8}{r:List UInt8}(h:t.drop a=b::r)(hn:b≠c)(s:List UInt8):dd t a (c::s)=false:=by
 cases e:dd t a (c::s) with
 | false=>rfl
 | true =>
  obtain⟨r',h'⟩:=(PG _ _ _).1 e;rw[h] at h';simp only[b1Z,b0T] at h';exact absurd h'.1 hn
def fG(c:UInt8):List UInt8->Nat
 | []=>0
 | b::l=>if b=c then fG c l+1 else 0
def noB(c:UInt8)(r:List UInt8):Prop:=∀ b l,r=b::l->b≠c
def N7(c:UInt8)(r:List UInt8)(h:noB c r):∀ n,fG c (List.replicate n c++r)=n
 | 0=>by
  cases r with
  | nil=>rfl
  | cons b l=>simp[fG,h b l rfl]
 | n+1=>by simp[b2H,fG,N7 c r h n]
def cH{t w r:List UInt8}{a:Nat}(h:t.drop a=w++r):t.drop (a+w.length)=r:=by
 rw[<-b2u,h];simp
structure RI where
 e:J
 ok:Bool
 a:Nat
def bp(k:Int):Nat->J->J
 | 0,e=>e
 | n+1,e=>bp k n (J.mk k 0 [e])
def fi(k:Int):∀ (n:Nat) (e:J),bp k (n+1) e=J.mk k 0 [bp k n e]
 | 0,e=>rfl
 | n+1,e=>by
  show bp k (n+1) (J.mk k 0 [e])=_;rw[fi k n (J.mk k 0 [e])];rfl
def mY(core:Nat->RI)(t:List UInt8)(a:Nat):RI :=
 if 40<fG 126 (t.drop a) then ⟨zX,false,a+fG 126 (t.drop a)⟩ else
 if 41<fG 42 (t.drop (core (a+fG 126 (t.drop a))).a) then ⟨zX,false,(core (a+fG 126 (t.drop a))).a+42⟩ else
 ⟨bp 8 (fG 42 (t.drop (core (a+fG 126 (t.drop a))).a)) (bp 5 (fG 126 (t.drop a)) (core (a+fG 126 (t.drop a))).e),(core (a+fG 126 (t.drop a))).ok,(core (a+fG 126 (t.drop a))).a+fG 42 (t.drop (core (a+fG 126 (t.drop a))).a)⟩
def lD(t:List UInt8)(a:Nat):Bool:=decide (a<t.length)&&decide (48<=(t.getD a 0).toNat)&&decide ((t.getD a 0).toNat<=57)
def vQ(k:Int)(t:List UInt8)(a:Nat):RI:=bif lD t a then ⟨J.mk k (((t.getD a 0).toNat:Int) - 48) [],true,a+1⟩ else ⟨J.mk k 0 [],false,a⟩
def vj(k:Int)(t:List UInt8)(x y:RI):RI:=bif x.ok&&y.ok&&dd t y.a [41] then ⟨J.mk k 0 [x.e,y.e],true,y.a+1⟩ else ⟨J.mk k 0 [x.e,y.e],false,y.a⟩
def eI(t:List UInt8):Nat->Nat->RI
 | 0,a=>⟨zX,false,a⟩
 | d+1,a=>if dd t a [48]=true then ⟨J.mk 1 0 [],true,a+1⟩ else if dd t a [49]=true then ⟨J.mk 2 0 [],true,a+1⟩ else
  if dd t a [116]=true then vQ 3 t (a+1) else if dd t a [97]=true then vQ 4 t (a+1) else if dd t a [40]=false then ⟨zX,false,a⟩ else
  if dd t (mY (eI t d) t (a+1)).a [32,43,32]=true then vj 6 t (mY (eI t d) t (a+1)) (mY (eI t d) t ((mY (eI t d) t (a+1)).a+3)) else
  if dd t (mY (eI t d) t (a+1)).a [32]=true then vj 7 t (mY (eI t d) t (a+1)) (mY (eI t d) t ((mY (eI t d) t (a+1)).a+1)) else
  ⟨zX,false,(mY (eI t d) t (a+1)).a⟩
def Qp(k:Int):Prop:=k=1\/k=2\/k=3\/k=4\/k=6\/k=7
def pR(x:J)(h:eR x=true)(e:¬ x.au=3)(e':¬ x.au=4):x.aO=0:=by
 simp only[eR] at h;rw[l5,zc] at h;simp only[Bool.and_eq_true,decide_eq_true_eq] at h;have:=h.1.1.2;rw[IK,if_neg e,if_neg e'] at this;simpa using this
def ti(x:J)(h:eR x=true)(e:x.au=1\/x.au=2\/x.au=3\/x.au=4):x.M=[]:=by
 simp only[eR] at h;rw[l5,zc] at h;simp only[b0R,b0N] at h;have h1:=h.1.1.1;have:x.M.length=0:=by rcases e with e|e|e|e<;>rw[e] at h1<;>simp[de] at h1<;>omega
 exact b1X this
def a3y(x:J)(h:eR x=true)(e:x.au=5):bu (x.M.getD 0 zE)=true:=by
 simp only[eR] at h;rw[l5,zc] at h;simp only[Bool.and_eq_true,decide_eq_true_eq] at h;have:=h.1.2;simpa [e] using this
def Pp(x:J)(h:x.M.length=1):x.M=[x.M.getD 0 zE]:=by
 cases x with
 | mk k n ks =>
  match ks,h with
  | [a],_=>rfl
def JF(x:J)(h:x.M.length=2):x.M=[x.M.getD 0 zE,x.M.getD 1 zE]:=by
 cases x with
 | mk k n ks =>
  match ks,h with
  | [a,b],_=>rfl
def kj(x:J)(k n:Int)(ks:List J)(h1:x.au=k)(h2:x.aO=n)(h3:x.M=ks):x=J.mk k n ks:=by
 cases x;simp at h1 h2 h3;simp[h1,h2,h3]
def V5:∀ (N:Nat) (x:J),cA x<N->eR x=true->∃ m n c,x=bp 8 m (bp 5 n c)/\eR c=true/\Qp c.au/\cA c<=cA x/\bR c+m+n=bR x /\
  cd x=List.replicate n 126++(cd c++List.replicate m 42)
 | 0,x,h,_=>by omega
 | N+1,x,hN,h=>by
  have hf:=jW x h;have ht:=gv x h;by_cases h8:x.au=8
  .obtain⟨hl,hk⟩:=hf.2.1 (.inr h8);obtain⟨m,n,c,e1,e2,e3,e4,e5,e6⟩:=V5 N _ (by have:=hk.2;omega) hk.1;have hx:x=J.mk 8 0 [x.M.getD 0 zE]:=kj x 8 0 _ h8 (pR x h (by omega) (by omega)) (Pp x hl);refine⟨m+1,n,c,?_,e2,e3,by have:=hk.2;omega,?_,?_⟩
   .rw[fi,<-e1];exact hx
   .rw[kQ x,Pp x hl];simp only[kf];omega
   .rw[ht.2.2.2.2.2.2.2 h8,e6,b3q];simp
  .by_cases h5:x.au=5
   .obtain⟨hl,hk⟩:=hf.2.1 (.inl h5);obtain⟨m,n,c,e1,e2,e3,e4,e5,e6⟩:=V5 N _ (by have:=hk.2;omega) hk.1;have hx:x=J.mk 5 0 [x.M.getD 0 zE]:=kj x 5 0 _ h5 (pR x h (by omega) (by omega)) (Pp x hl);have hm:m=0:=by
     cases m with
     | zero=>rfl
     | succ m =>
      have hc:=a3y x h h5;rw[e1,fi,Qm] at hc;simp[LW] at hc
    subst hm;refine⟨0,n+1,c,?_,e2,e3,by have:=hk.2;omega,?_,?_⟩
    .show x=bp 5 (n+1) c;rw[fi];have e1':x.M.getD 0 zE=bp 5 n c:=e1;rw[<-e1'];exact hx
    .rw[kQ x,Pp x hl];simp only[kf];omega
    .rw[ht.2.2.2.2.1 h5,e6,b2H];simp
   .exact⟨0,0,x,rfl,h,by have:=hf.2.2.2;unfold Qp;omega,Nat.le_refl _,by omega,by simp⟩
def LX{t:List UInt8}{a:Nat}{b:UInt8}{r:List UInt8}(h:t.drop a=b::r):a<t.length/\t.getD a 0=b:=by
 have hl:a<t.length:=by
  rcases b1R a t.length with g|g
  .exact g
  .rw[b2U g] at h;cases h
 refine⟨hl,?_⟩;rw[b2x hl] at h;simp only[b0T] at h;rw[b1f,b1p hl,<-h.1];rfl
def Sb(c:J)(h:eR c=true)(hk:Qp c.au):∃ b l,cd c=b::l/\b≠126/\b≠43:=by
 have ht:=gv c h;rcases hk with e|e|e|e|e|e
 .exact⟨_,_,ht.1 e,by decide,by decide⟩
 .exact⟨_,_,ht.2.1 e,by decide,by decide⟩
 .exact⟨_,_,ht.2.2.1 e,by decide,by decide⟩
 .exact⟨_,_,ht.2.2.2.1 e,by decide,by decide⟩
 .exact⟨_,_,ht.2.2.2.2.2.1 e,by decide,by decide⟩
 .exact⟨_,_,ht.2.2.2.2.2.2.1 e,by decide,by decide⟩
def UK(x:J)(h:eR x=true):∃ b l,cd x=b::l/\b≠43:=by
 obtain⟨m,n,c,_,h2,h3,_,_,h6⟩:=V5 (cA x+1) x (b1D _) h;obtain⟨b,l,g1,_,g3⟩:=Sb c h2 h3;cases n with
 | zero=>exact⟨b,_,by rw[h6,g1];rfl,g3⟩
 | succ n=>exact⟨126,_,by rw[h6,b2H];rfl,by decide⟩
def Xw(core:Nat->RI)(t:List UInt8)(a:Nat)(r:List UInt8)(x c:J)(m n:Nat)(hx:x=bp 8 m (bp 5 n c))(hc:eR c=true)(hk:Qp c.au)
  (htx:cd x=List.replicate n 126++(cd c++List.replicate m 42)) (hm:m<=40) (hn:n<=40) (hr:noB 42 r) (hd:t.drop a=cd x++r)
  (a8b:∀ r',t.drop (a+n)=cd c++r'->core (a+n)=⟨c,true,a+n+(cd c).length⟩):mY core t a=⟨x,true,a+(cd x).length⟩:=by
 obtain⟨b,l,g1,g2,_⟩:=Sb c hc hk;have hd1:t.drop a=List.replicate n 126++(cd c++(List.replicate m 42++r)):=by rw[hd,htx];simp
 have hd2:t.drop (a+n)=cd c++(List.replicate m 42++r):=by
  have:=cH hd1;simpa using this
 have hd3:=cH hd2;have hn1:fG 126 (t.drop a)=n:=by
  rw[hd1];refine N7 126 _ ?_ n;intro b' l' e;rw[g1] at e;simp only[b1Z,b0T] at e;rw[<-e.1];exact g2
 have hm1:fG 42 (t.drop (a+n+(cd c).length))=m:=by rw[hd3];exact N7 42 r hr m
 have hcr:=a8b _ hd2;unfold mY;rw[hn1,hcr];simp only[hm1];rw[if_neg (by omega),if_neg (by omega),<-hx];have:(cd x).length=n+((cd c).length+m):=by rw[htx];simp
 simp only[RI.mk.injEq,b1N];omega
def Xr:∀ (N:Nat) (c:J),cA c<N->eR c=true->Qp c.au->∀ (t:List UInt8) (d a:Nat) (r:List UInt8),bR c<=d->bR c<=40->t.drop a=cd c++r->eI t d a=⟨c,true,a+(cd c).length⟩
 | 0,c,h,_,_=>by omega
 | N+1,c,hN,h,hk=>by
  intro t d a r hd h40 ht;have hf:=jW c h;have hx:=gv c h;have hdp:=kQ c;obtain⟨d,rfl⟩:∃ d',d=d'+1:=⟨d - 1,by omega⟩;have Kl:∀ i,i<c.M.length->BA c i->∀ (a:Nat) (r:List UInt8),noB 42 r->t.drop a=cd (c.M.getD i zE)++r ->
    mY (eI t d) t a=⟨c.M.getD i zE,true,a+(cd (c.M.getD i zE)).length⟩:=by
   intro i hi hg a r hr hda;obtain⟨m,n,c',e1,e2,e3,e4,e5,e6⟩:=V5 _ _ (b1D _) hg.1;have hdk:=vR bR zE c.M i hi;exact Xw (eI t d) t a r _ c' m n e1 e2 e3 e6 (by omega) (by omega) hr hda (λ r' Mx=>Xr N c' (by have:=hg.2;omega) e2 e3 t d (a+n) r' (by omega) (by omega) Mx)
  rcases hk with e|e|e|e|e|e
  .rw[hx.1 e] at ht ⊢;have hc:=kj c 1 0 [] e (pR c h (by omega) (by omega)) (ti c h (by omega));rw[eI,b1q (qW (s:=[48]) ht),<-hc];rfl
  .rw[hx.2.1 e] at ht ⊢;have hc:=kj c 2 0 [] e (pR c h (by omega) (by omega)) (ti c h (by omega));rw[eI,b0Y (by rw[qo (b:=49) ht (by decide)];decide),b1q (qW (s:=[49]) ht),<-hc];rfl
  .have hn:=hf.1 (.inl e);have hg:A4 c.aO=[UInt8.ofNat (48+c.aO.toNat)]:=by unfold A4;rw[Lib.decDigits_one (by omega)]
   rw[hx.2.2.1 e,hg] at ht ⊢;have h2:t.drop (a+1)=UInt8.ofNat (48+c.aO.toNat)::r:=cH (w:=[116]) ht;obtain⟨g1,g2⟩:=LX h2;have hb:(UInt8.ofNat (48+c.aO.toNat)).toNat=48+c.aO.toNat:=by rw[b3X];omega
   rw[eI,if_neg (by rw[qo (b:=116) ht (by decide)];decide),if_neg (by rw[qo (b:=116) ht (by decide)];decide),if_pos (qW (s:=[116]) ht)];have hdb:lD t (a+1)=true:=by unfold lD;rw[g2,hb,decide_eq_true g1,decide_eq_true (by omega),decide_eq_true (by omega)];rfl
   unfold vQ;rw[hdb,g2,hb];have hc:=kj c 3 c.aO [] e rfl (ti c h (by omega));rw[show (((48+c.aO.toNat:Nat):Int) - 48)=c.aO by omega,<-hc];rfl
  .have hn:=hf.1 (.inr e);have hg:A4 c.aO=[UInt8.ofNat (48+c.aO.toNat)]:=by unfold A4;rw[Lib.decDigits_one (by omega)]
   rw[hx.2.2.2.1 e,hg] at ht ⊢;have h2:t.drop (a+1)=UInt8.ofNat (48+c.aO.toNat)::r:=cH (w:=[97]) ht;obtain⟨g1,g2⟩:=LX h2;have hb:(UInt8.ofNat (48+c.aO.toNat)).toNat=48+c.aO.toNat:=by rw[b3X];omega
   rw[eI,if_neg (by rw[qo (b:=97) ht (by decide)];decide),if_neg (by rw[qo (b:=97) ht (by decide)];decide),if_neg (by rw[qo (b:=97) ht (by decide)];decide),if_pos (qW (s:=[97]) ht)];have hdb:lD t (a+1)=true:=by unfold lD;rw[g2,hb,decide_eq_true g1,decide_eq_true (by omega),decide_eq_true (by omega)];rfl
   unfold vQ;rw[hdb,g2,hb];have hc:=kj c 4 c.aO [] e rfl (ti c h (by omega));rw[show (((48+c.aO.toNat:Nat):Int) - 48)=c.aO by omega,<-hc];rfl
  .obtain⟨hl,k0,k1⟩:=hf.2.2.1 (.inl e);have hc:=kj c 6 0 _ e (pR c h (by omega) (by omega)) (JF c hl);rw[hx.2.2.2.2.2.1 e] at ht ⊢;have p0:t.drop a=40::(cd (c.M.getD 0 zE)++([32,43,32]++(cd (c.M.getD 1 zE)++([41]++r)))):=by rw[ht];simp
   have p1:t.drop (a+1)=cd (c.M.getD 0 zE)++([32,43,32]++(cd (c.M.getD 1 zE)++([41]++r))):=cH (w:=[40]) p0;have q1:=Kl 0 (by omega) k0 (a+1) _ (λ b l g=>by simp at g;rw[<-g.1];decide) p1;have p2:=cH p1;have p3:=cH p2;have q2:=Kl 1 (by omega) k1 _ _ (λ b l g=>by simp at g;rw[<-g.1];decide) p3;have p4:=cH p3;rw[eI,b0Y (by rw[qo p0 (by decide)];decide),b0Y (by rw[qo p0 (by decide)];decide),b0Y (by rw[qo p0 (by decide)];decide),b0Y (by rw[qo p0 (by decide)];decide),
    b0Y (by rw[qW (s:=[40]) p0];decide)]
   rw[q1];simp only;rw[if_pos (qW p2)];have q2':mY (eI t d) t (a+1+(cd (c.M.getD 0 zE)).length+3)=_:=q2;rw[q2'];unfold vj;simp only;rw[show dd t _ [41]=true from qW (s:=[41]) p4];simp only[Bool.and_self,cond_true,RI.mk.injEq,true_and,<-hc];simp only[List.length_append,List.length_cons,List.length_nil];omega
  .obtain⟨hl,k0,k1⟩:=hf.2.2.1 (.inr e);have hc:=kj c 7 0 _ e (pR c h (by omega) (by omega)) (JF c hl);rw[hx.2.2.2.2.2.2.1 e] at ht ⊢;have p0:t.drop a=40::(cd (c.M.getD 0 zE)++([32]++(cd (c.M.getD 1 zE)++([41]++r)))):=by rw[ht];simp
   have p1:t.drop (a+1)=cd (c.M.getD 0 zE)++([32]++(cd (c.M.getD 1 zE)++([41]++r))):=cH (w:=[40]) p0;have q1:=Kl 0 (by omega) k0 (a+1) _ (λ b l g=>by simp at g;rw[<-g.1];decide) p1;have p2:=cH p1;have p3:=cH p2;have q2:=Kl 1 (by omega) k1 _ _ (λ b l g=>by simp at g;rw[<-g.1];decide) p3;have p4:=cH p3;have lH:dd t (a+[40].length+(cd (c.M.getD 0 zE)).length) [32,43,32]=false:=by
    cases hb:dd t (a+[40].length+(cd (c.M.getD 0 zE)).length) [32,43,32] with
    | false=>rfl
    | true =>
     obtain⟨r',h'⟩:=(PG _ _ _).1 hb;obtain⟨b,l,f1,f2⟩:=UK _ k1.1;have p2':=p2;rw[f1] at p2';have h3:=p2'.symm.trans h';simp only[b1Z,b1F,b0T,b1N] at h3;exact absurd h3.1 f2
   rw[eI,b0Y (by rw[qo p0 (by decide)];decide),b0Y (by rw[qo p0 (by decide)];decide),b0Y (by rw[qo p0 (by decide)];decide),b0Y (by rw[qo p0 (by decide)];decide),
    b0Y (by rw[qW (s:=[40]) p0];decide)]
   rw[q1];simp only;rw[if_neg (by rw[show dd t (a+1+(cd (c.M.getD 0 zE)).length) [32,43,32]=false from lH];decide),if_pos (qW p2)];have q2':mY (eI t d) t (a+1+(cd (c.M.getD 0 zE)).length+1)=_:=q2;rw[q2'];unfold vj;simp only;rw[show dd t _ [41]=true from qW (s:=[41]) p4];simp only[Bool.and_self,cond_true,RI.mk.injEq,true_and,<-hc];simp only[List.length_append,List.length_cons,List.length_nil];omega
def a3s(x:J)(h:eR x=true)(h40:bR x<=40):mY (eI (cd x) 41) (cd x) 0=⟨x,true,(cd x).length⟩:=by
 obtain⟨m,n,c,e1,e2,e3,e4,e5,e6⟩:=V5 _ _ (Nat.lt_succ_self _) h;have:=Xw (eI (cd x) 41) (cd x) 0 [] x c m n e1 e2 e3 e6 (by omega) (by omega) (λ b l g=>by cases g) (by simp) (λ r' Mx=>Xr _ c (Nat.lt_succ_self _) e2 e3 (cd x) 41 (0+n) r' (by omega) (by omega) Mx);simpa using this
def bY(t:List UInt8)(a:Nat):Int:=if a<t.length then ((t.getD a 0).toNat:Int) else 0
structure RS where
 e:J
 a:Nat
 dp:Nat
 bad:Bool
def sj:List UInt8->Nat
 | []=>0
 | b::l=>if iR b=true then sj l+1 else 0
def VM(t:List UInt8)(a:Nat):List UInt8:=(t.drop (a+1)).take (sj (t.drop (a+1)))
def dr(t:List UInt8)(a dp:Nat):RS:=⟨J.mk (if bY t a=97 then 4 else 3) (jz 9 (VM t a)) [],a+1+sj (t.drop (a+1)),dp,!mD 9 (VM t a)⟩
def bK(t:List UInt8)(a:Nat)(c:Int):Nat:=if bY t a=c then a+1 else a
def bZ(t:List UInt8)(a:Nat)(c:Int)(bad:Bool):Bool:=if bY t a=c then bad else true
def C6(t:List UInt8)(r:RS):RS:=if r.bad=true then ⟨r.e,r.a,r.dp - 1,true⟩ else ⟨bp 8 (fG 42 (t.drop r.a)) r.e,r.a+fG 42 (t.drop r.a),r.dp - 1,false⟩
def fm(inner:Nat->Nat->RS)(t:List UInt8)(a dp:Nat)(bad:Bool):RS:=if bad=true\/100<dp+1 then ⟨zX,a,dp+1,true⟩ else C6 t (inner a (dp+1))
def C2(inner:Nat->Nat->RS)(t:List UInt8)(x:RS)(k:Int)(a:Nat)(bad:Bool):RS :=
 ⟨J.mk k 0 [x.e,(fm inner t a x.dp bad).e],bK t (fm inner t a x.dp bad).a 41,(fm inner t a x.dp bad).dp,bZ t (fm inner t a x.dp bad).a 41 (fm inner t a x.dp bad).bad⟩
def yb(inner:Nat->Nat->RS)(t:List UInt8)(x:RS):RS :=
 if bY t (bK t x.a 32)=43 then C2 inner t x 6 (bK t (bK t x.a 32+1) 32) (bZ t (bK t x.a 32+1) 32 (bZ t x.a 32 x.bad)) else C2 inner t x 7 (bK t x.a 32) (bZ t x.a 32 x.bad)
def cR(t:List UInt8):Nat->Nat->Nat->RS
 | g,a,dp=>if bY t a=48 then ⟨J.mk 1 0 [],a+1,dp,false⟩ else if bY t a=49 then ⟨J.mk 2 0 [],a+1,dp,false⟩ else
  if bY t a=116\/bY t a=97 then dr t a dp else
  if bY t a=126 then (match g with
   | 0=>⟨zX,a+1,dp+1,true⟩
   | g+1=>⟨J.mk 5 0 [(cR t g (a+1) (dp+1)).e],(cR t g (a+1) (dp+1)).a,(cR t g (a+1) (dp+1)).dp - 1,(cR t g (a+1) (dp+1)).bad⟩) else
  if bY t a=40 then (match g with
   | 0=>yb (λ _ _=>⟨zX,0,0,true⟩) t (fm (λ _ _=>⟨zX,0,0,true⟩) t (a+1) dp false)
   | g+1=>yb (cR t g) t (fm (cR t g) t (a+1) dp false)) else ⟨zX,a,dp,true⟩
def jA{t:List UInt8}{a:Nat}{b:UInt8}{r:List UInt8}(h:t.drop a=b::r):bY t a=(b.toNat:Int):=by
 obtain⟨h1,h2⟩:=LX h;unfold bY;rw[if_pos h1,h2]
def xy(t:List UInt8)(a:Nat)(c:UInt8)(hc:c≠0)(h:bY t a=(c.toNat:Int)):∃ r,t.drop a=c::r:=by
 unfold bY at h;split at h
 .rename_i hl;refine⟨t.drop (a+1),?_⟩;rw[List.drop_eq_getElem_cons hl];rw[List.getD_eq_getElem?_getD,List.getElem?_eq_getElem hl] at h;have:t[a]=c:=UInt8.toNat_inj.1 (by simpa using Int.ofNat_inj.1 h);rw[this]
 .exfalso;have:c.toNat=0:=by omega
  exact hc (UInt8.toNat_inj.1 this)
def Zu(t:List UInt8)(a:Nat)(c:UInt8)(hc:c≠0)(bad:Bool)(h:bZ t a (c.toNat:Int) bad=false):bad=false/\bK t a (c.toNat:Int)=a+1/\∃ r,t.drop a=c::r:=by
 unfold bZ at h;unfold bK;split at h
 .rename_i e;rw[b1q e];exact⟨h,rfl,xy t a c hc e⟩
 .cases h
def wI{t:List UInt8}{a:Nat}{c:UInt8}{r:List UInt8}(h:t.drop a=c::r)(bad:Bool):bK t a (c.toNat:Int)=a+1/\bZ t a (c.toNat:Int) bad=bad:=by
 unfold bK bZ;rw[if_pos (jA h),if_pos (jA h)];exact⟨rfl,rfl⟩
def Xq(c:UInt8):∀ l:List UInt8,l=List.replicate (fG c l) c++l.drop (fG c l)
 | []=>rfl
 | b::l=>by
  unfold fG;split
  .rename_i e;subst e;rw[b2H,b3x,b1Z,<-Xq b l]
  .rfl
structure Nu(t:List UInt8)(a dp:Nat)(r:RS):Prop where
 ex:r.bad=false->r.dp=dp/\∃ W,t.drop a=W++t.drop r.a/\(eR r.e=true->W=cd r.e)
def Se:∀ (m:Nat) (e:J),eR (bp 8 m e)=true->eR e=true/\cd (bp 8 m e)=cd e++List.replicate m 42
 | 0,e,h=>⟨h,by simp[bp]⟩
 | m+1,e,h=>by
  rw[fi] at h ⊢;have hk:=zJ _ h 0 (by simp);have hx:=(gv _ h).2.2.2.2.2.2.2 rfl;obtain⟨h1,h2⟩:=Se m e hk.1;refine⟨h1,?_⟩;rw[hx];show cd (bp 8 m e)++[42]=_;rw[h2,b3q,b1P]
def a3W(t:List UInt8)(a dp:Nat)(r:RS)(h:Nu t a (dp+1) r):Nu t a dp (C6 t r):=by
 refine⟨λ hb=>?_⟩;unfold C6 at hb ⊢;cases e:r.bad
 .rw[e] at hb;simp only[b0V,b3I] at hb ⊢;obtain⟨h0,W,h1,h2⟩:=h.ex e;refine⟨by omega,W++List.replicate (fG 42 (t.drop r.a)) 42,?_,λ hg=>?_⟩
  .rw[h1,b1P];congr 1;rw[<-b2u];exact Xq 42 _
  .obtain⟨g1,g2⟩:=Se _ _ hg;rw[g2,h2 g1]
 .rw[e] at hb;simp at hb
def vI(inner:Nat->Nat->RS)(t:List UInt8)(a dp:Nat)(bad:Bool)(h:dp+1<=100->Nu t a (dp+1) (inner a (dp+1))):Nu t a dp (fm inner t a dp bad):=by
 unfold fm;split
 .exact⟨λ hb=>by cases hb⟩
 .rename_i hn;exact a3W t a dp _ (h (by omega))
def a3u(inner:Nat->Nat->RS)(t:List UInt8)(a dp:Nat)(bad:Bool)(h:(fm inner t a dp bad).bad=false):bad=false:=by
 unfold fm at h;split at h
 .cases h
 .rename_i hn;cases bad<;>simp_all
def V2(inner:Nat->Nat->RS)(t:List UInt8)(a0 dp:Nat)(x:RS)(k:Int)(sep:List UInt8)(hk:(k=6/\sep=[32,43,32])\/(k=7/\sep=[32]))(a:Nat)(bad:Bool)(hx:Nu t (a0+1) dp x)
  (h0:∃ r,t.drop a0=40::r) (a9N:bad=false->x.bad=false/\t.drop x.a=sep++t.drop a) (hi:dp+1<=100->Nu t a (dp+1) (inner a (dp+1))):Nu t a0 dp (C2 inner t x k a bad):=by
 refine⟨λ hb=>?_⟩;unfold C2 at hb ⊢;simp only at hb ⊢;obtain⟨h1,h2,r,h3⟩:=Zu t _ 41 (by decide) _ hb;have Mn:=a3u inner t a x.dp bad h1;obtain⟨Y0,hx2⟩:=a9N Mn;obtain⟨wx0,Wx,wx1,wx2⟩:=hx.ex Y0;rw[wx0] at h1 h2 h3 ⊢;obtain⟨wy0,Wy,wy1,wy2⟩:=(vI inner t a dp bad hi).ex h1;obtain⟨r0,Ve⟩:=h0;have S1:t.drop (a0+1)=r0:=cH (w:=[40]) Ve;have h4:t.drop ((fm inner t a dp bad).a+1)=r:=cH (w:=[41]) h3;have e41:bK t (fm inner t a dp bad).a 41=(fm inner t a dp bad).a+1:=h2;refine⟨wy0,[40]++(Wx++(sep++(Wy++[41]))),?_,λ hg=>?_⟩
 .rw[e41,Ve,h4,<-S1,wx1,hx2,wy1,h3];simp
 .have k0:=zJ _ hg 0 (by simp);have k1:=zJ _ hg 1 (by simp);rw[wx2 k0.1,wy2 k1.1];rcases hk with ⟨rfl,rfl⟩|⟨rfl,rfl⟩
  .exact ((gv _ hg).2.2.2.2.2.1 rfl).symm
  .exact ((gv _ hg).2.2.2.2.2.2.1 rfl).symm
def ZX(s:List UInt8)(h:mD 9 s=true)(h9:jm s<=9):A4 (jm s)=s:=by
 have h1:=a3H s h h9;rw[Eu] at h1;simp only[b0R,b0N] at h1;match s,h1 with
 | [b],h1 =>
  have hd:iR b=true:=by have:=h1.2;simpa [bE] using this
  simp only[iR,b0R,b0N] at hd;have hv:jm [b]=(b.toNat:Int) - 48:=by simp[jm]
  rw[hv] at h9 ⊢;unfold A4;rw[Lib.decDigits_one (by omega)];congr 1;apply UInt8.toNat_inj.1;rw[UInt8.toNat_ofNat'];omega
 | [],h1=>simp at h1
 | _::_::_,h1=>simp at h1;omega
def a3F(t:List UInt8)(a dp:Nat)(h:bY t a=116\/bY t a=97):Nu t a dp (dr t a dp):=by
 refine⟨λ hb=>⟨rfl,?_⟩⟩;unfold dr at hb ⊢;simp only[Bool.not_eq_false'] at hb ⊢;have BK:∀ c:UInt8,(∃ r,t.drop a=c::r)->t.drop a=(c::VM t a)++t.drop (a+1+sj (t.drop (a+1))):=by
  rintro c ⟨r,hr⟩;have h1:t.drop (a+1)=r:=cH (w:=[c]) hr;have e:t.drop (a+1+sj (t.drop (a+1)))=(t.drop (a+1)).drop (sj (t.drop (a+1))):=by rw[b2u]
  rw[e,hr,h1,List.cons_append];unfold VM;rw[h1,List.take_append_drop]
 have hv:jz 9 (VM t a)=jm (VM t a):=by unfold jz;rw[hb];rfl
 rcases h with h|h
 .refine⟨_,BK 116 (xy t a 116 (by decide) h),λ hg=>?_⟩;have e:(if bY t a=97 then (4:Int) else 3)=3:=b0Y (by rw[h];decide);rw[e,hv] at hg ⊢;have hn:=(jW _ hg).1 (.inl rfl);rw[(gv _ hg).2.2.1 rfl];show _=116::A4 (jm (VM t a));rw[ZX _ hb hn.2]
 .refine⟨_,BK 97 (xy t a 97 (by decide) h),λ hg=>?_⟩;have e:(if bY t a=97 then (4:Int) else 3)=4:=b1q h;rw[e,hv] at hg ⊢;have hn:=(jW _ hg).1 (.inr rfl);rw[(gv _ hg).2.2.2.1 rfl];show _=97::A4 (jm (VM t a));rw[ZX _ hb hn.2]
def X5(inner:Nat->Nat->RS)(t:List UInt8)(a0 dp:Nat)(x:RS)(hx:Nu t (a0+1) dp x)(h0:∃ r,t.drop a0=40::r)(hi:∀ a,dp+1<=100->Nu t a (dp+1) (inner a (dp+1))):Nu t a0 dp (yb inner t x):=by
 unfold yb;split
 .rename_i hp;refine V2 inner t a0 dp x 6 [32,43,32] (.inl ⟨rfl,rfl⟩) _ _ hx h0 (λ hb=>?_) (hi _);obtain⟨b1,b2,r1,b3⟩:=Zu t _ 32 (by decide) _ hb;obtain⟨c1,c2,r2,c3⟩:=Zu t _ 32 (by decide) _ b1;have c2':bK t x.a 32=x.a+1:=c2;rw[c2'] at hp b2 b3 ⊢;have b2':bK t (x.a+1+1) 32=x.a+1+1+1:=b2;obtain⟨r3,d3⟩:=xy t (x.a+1) 43 (by decide) hp;have e1:t.drop (x.a+1)=r2:=cH (w:=[32]) c3;have e2:t.drop (x.a+1+1)=r3:=cH (w:=[43]) d3;have e3:t.drop (x.a+1+1+1)=r1:=cH (w:=[32]) b3;refine⟨c1,?_⟩;rw[b2',e3,c3,<-e1,d3,<-e2,b3];rfl
 .refine V2 inner t a0 dp x 7 [32] (.inr ⟨rfl,rfl⟩) _ _ hx h0 (λ hb=>?_) (hi _);obtain⟨c1,c2,r2,c3⟩:=Zu t _ 32 (by decide) _ hb;have c2':bK t x.a 32=x.a+1:=c2;have e1:t.drop (x.a+1)=r2:=cH (w:=[32]) c3;exact⟨c1,by rw[c2',e1,c3];rfl⟩
def a0o(t:List UInt8)(a dp:Nat)(k:Int)(c:UInt8)(hc:c≠0)(h:bY t a=(c.toNat:Int))(he:eR (J.mk k 0 [])=true->cd (J.mk k 0 [])=[c]):Nu t a dp ⟨J.mk k 0 [],a+1,dp,false⟩:=by
 obtain⟨r,hr⟩:=xy t a c hc h;have h1:t.drop (a+1)=r:=cH (w:=[c]) hr;exact⟨λ _=>⟨rfl,[c],by rw[h1,hr];rfl,λ hg=>(he hg).symm⟩⟩
def Fe(t:List UInt8):∀ (g a dp:Nat),g+dp=100->Nu t a dp (cR t g a dp)
 | g,a,dp,hgd=>by
  have step:∀ g',g=g'+1->∀ a',Nu t a' (dp+1) (cR t g' a' (dp+1)):=λ g' e a'=>Fe t g' a' (dp+1) (by omega);unfold cR;split
  .rename_i h;exact a0o t a dp 1 48 (by decide) h (λ hg=>(gv _ hg).1 rfl)
  .split
   .rename_i h;exact a0o t a dp 2 49 (by decide) h (λ hg=>(gv _ hg).2.1 rfl)
   .split
    .rename_i h;exact a3F t a dp h
    .split
     .rename_i h;obtain⟨r,hr⟩:=xy t a 126 (by decide) h;have h1:t.drop (a+1)=r:=cH (w:=[126]) hr;cases g with
      | zero=>exact⟨λ hb=>by cases hb⟩
      | succ g =>
       refine⟨λ hb=>?_⟩;obtain⟨e1,W,e2,e3⟩:=(step g rfl (a+1)).ex hb;refine⟨by show _ - 1=dp;omega,126::W,?_,λ hg=>?_⟩
       .show t.drop a=126::W++t.drop (cR t g (a+1) (dp+1)).a;rw[hr,<-h1,e2];rfl
       .have hk:=zJ _ hg 0 (by simp);rw[(gv _ hg).2.2.2.2.1 rfl];show _=126::cd (cR t g (a+1) (dp+1)).e;rw[e3 hk.1]
     .split
      .rename_i h;have h0:=xy t a 40 (by decide) h;cases g with
       | zero =>
        refine X5 _ t a dp _ (vI _ t (a+1) dp false (λ h=>by omega)) h0 (λ a' h=>by omega)
       | succ g=>exact X5 _ t a dp _ (vI _ t (a+1) dp false (λ _=>step g rfl _)) h0 (λ a' _=>step g rfl a')
      .exact⟨λ hb=>by cases hb⟩
 termination_by g=>g
def okR(r:List UInt8):Prop:=∀ b l,r=b::l->b≠42/\iR b=false
def noD(r:List UInt8):Prop:=∀ b l,r=b::l->iR b=false
def a3m(b:UInt8)(r:List UInt8)(hb:iR b=true)(hr:noD r):sj (b::r)=1:=by
 unfold sj;rw[if_pos hb];cases r with
 | nil=>rfl
 | cons c l=>unfold sj;rw[if_neg (by rw[hr c l rfl];decide)]
def a0r(t:List UInt8)(a dp:Nat)(c:J)(h:eR c=true)(e:c.au=3\/c.au=4)(r:List UInt8)(hr:noD r)(ht:t.drop a=cd c++r):dr t a dp=⟨c,a+(cd c).length,dp,false⟩:=by
 have hn:=(jW c h).1 e;have hx:=gv c h;have hg:A4 c.aO=[UInt8.ofNat (48+c.aO.toNat)]:=by unfold A4;rw[Lib.decDigits_one (by omega)]
 have hb:(UInt8.ofNat (48+c.aO.toNat)).toNat=48+c.aO.toNat:=by rw[b3X];omega
 have hd:iR (UInt8.ofNat (48+c.aO.toNat))=true:=by unfold iR;rw[hb,decide_eq_true (by omega),decide_eq_true (by omega)];rfl
 have key:∀ (w:UInt8),cd c=w::A4 c.aO->t.drop (a+1)=UInt8.ofNat (48+c.aO.toNat)::r/\bY t a=(w.toNat:Int)/\(cd c).length=2:=by
  intro w e';rw[e',hg] at ht;exact⟨cH (w:=[w]) ht,jA ht,by rw[e',hg];rfl⟩
 have fin:∀ (w:UInt8),cd c=w::A4 c.aO->(if bY t a=97 then (4:Int) else 3)=c.au->dr t a dp=⟨c,a+(cd c).length,dp,false⟩:=by
  intro w e' ek;obtain⟨k1,k2,k3⟩:=key w e';have hcn:sj (t.drop (a+1))=1:=by rw[k1];exact a3m _ _ hd hr
  have hnm:VM t a=[UInt8.ofNat (48+c.aO.toNat)]:=by unfold VM;rw[hcn,k1];rfl
  have hv:jm [UInt8.ofNat (48+c.aO.toNat)]=c.aO:=by simp only[jm,b3N,b4u,hb];omega
  have hN:mD 9 [UInt8.ofNat (48+c.aO.toNat)]=true:=by rw[Eu];simp only[b0Z,b1n,bE,hd];rfl
  unfold dr;rw[hcn,hnm,ek,hN,k3];have hnv:jz 9 [UInt8.ofNat (48+c.aO.toNat)]=c.aO:=by unfold jz;rw[hN,hv];rfl
  rw[hnv];have hc:=kj c c.au c.aO [] rfl rfl (ti c h (by omega));rw[<-hc];rfl
 rcases e with e|e
 .exact fin 116 (hx.2.2.1 e) (by rw[(key 116 (hx.2.2.1 e)).2.1,e];decide)
 .exact fin 97 (hx.2.2.2.1 e) (by rw[(key 97 (hx.2.2.2.1 e)).2.1,e];decide)
def Xx(inner:Nat->Nat->RS)(t:List UInt8)(a dp:Nat)(r:List UInt8)(x c:J)(m n:Nat)(hx:x=bp 8 m (bp 5 n c))
  (htx:cd x=List.replicate n 126++(cd c++List.replicate m 42)) (hdp:dp+1<=100) (hr:okR r) (hd:t.drop a=cd x++r)
  (gT:∀ r',noD r'->t.drop a=List.replicate n 126++cd c++r'->inner a (dp+1)=⟨bp 5 n c,a+(n+(cd c).length),dp+1,false⟩):fm inner t a dp false=⟨x,a+(cd x).length,dp,false⟩:=by
 have hd1:t.drop a=(List.replicate n 126++cd c)++(List.replicate m 42++r):=by rw[hd,htx];simp
 have lH:noD (List.replicate m 42++r):=by
  intro b l e;cases m with
  | zero=>exact (hr b l e).2
  | succ m =>
   rw[b2H,b1Z] at e;simp only[b0T] at e;rw[<-e.1];decide
 have h1:=gT _ lH hd1;have hd2:=cH hd1;have hl:(List.replicate n 126++cd c).length=n+(cd c).length:=by simp
 rw[hl] at hd2;have hm:fG 42 (t.drop (a+(n+(cd c).length)))=m:=by rw[hd2];exact N7 42 r (λ b l e=>(hr b l e).1) m
 unfold fm;rw[if_neg (by simp;omega),h1];unfold C6;simp only[Bool.false_eq_true,if_false];rw[hm,<-hx];have:(cd x).length=n+((cd c).length+m):=by rw[htx];simp
 simp only[RS.mk.injEq,b1N,b1b];omega
def Mz:∀ (N:Nat) (n:Nat) (c:J),cA c+n<N->eR c=true->Qp c.au->∀ (t:List UInt8) (g a dp:Nat) (r:List UInt8),g+dp=100->dp+n+2 * bR c<=101->noD r ->
  t.drop a=List.replicate n 126++cd c++r->cR t g a dp=⟨bp 5 n c,a+(n+(cd c).length),dp,false⟩
 | 0,n,c,h,_,_=>by omega
 | N+1,n+1,c,hN,h,hk=>by
  intro t g a dp r hg hd hr ht;have hdp:=kQ c;obtain⟨g,rfl⟩:∃ g',g=g'+1:=⟨g - 1,by omega⟩;have S2:t.drop a=126::(List.replicate n 126++cd c++r):=by rw[ht,b2H];rfl
  have h1:t.drop (a+1)=List.replicate n 126++cd c++r:=cH (w:=[126]) S2;have ih:=Mz N n c (by omega) h hk t g (a+1) (dp+1) r (by omega) (by omega) hr h1;have hp:=jA S2;rw[cR.eq_def];dsimp only;rw[if_neg (by rw[hp];decide),if_neg (by rw[hp];decide),if_neg (by rw[hp];decide),if_pos (by rw[hp];decide)];simp only[ih,fi];simp only[RS.mk.injEq,true_and,and_true];omega
 | N+1,0,c,hN,h,hk=>by
  intro t g a dp r hg hd hr ht;have ht:t.drop a=cd c++r:=by rw[ht];rfl
  have hf:=jW c h;have hx:=gv c h;have hdp:=kQ c;show cR t g a dp=⟨c,a+(0+(cd c).length),dp,false⟩;rw[b2W];have Kl:∀ i,i<c.M.length->BA c i->∀ g',g=g'+1->∀ (a:Nat) (r:List UInt8),okR r->t.drop a=cd (c.M.getD i zE)++r ->
    fm (cR t g') t a dp false=⟨c.M.getD i zE,a+(cd (c.M.getD i zE)).length,dp,false⟩:=by
   intro i hi hgk g' eg a r hr hda;obtain⟨m,n,c',e1,e2,e3,e4,e5,e6⟩:=V5 _ _ (b1D _) hgk.1;have hdk:=vR bR zE c.M i hi;have hdc:=kQ c';have hms:cA c'+n<=cA (c.M.getD i zE):=by
    have w:∀ (k:Int) (n:Nat) (e:J),cA (bp k n e)>=cA e+n:=by
     intro k n;induction n with
     | zero=>intro e;exact b1E _
     | succ n ih =>
      intro e;have h1:=ih (J.mk k 0 [e]);have h2:cA [e]<cA (J.mk k 0 [e]):=dX (J.mk k 0 [e]);have h3:cA e<cA [e]:=cx e [e] 0 (by simp);show cA (bp k n (J.mk k 0 [e]))>=_;omega
    have h1:=w 8 m (bp 5 n c');have h2:=w 5 n c';rw[<-e1] at h1;omega
   exact Xx (cR t g') t a dp r _ c' m n e1 e6 (by omega) hr hda (λ r' Mx GU=>Mz N n c' (by have:=hgk.2;omega) e2 e3 t g' a (dp+1) r' (by omega) (by omega) Mx GU)
  rcases hk with e|e|e|e|e|e
  .rw[hx.1 e] at ht ⊢;have hp:=jA (show t.drop a=48::r from ht);have hc:=kj c 1 0 [] e (pR c h (by omega) (by omega)) (ti c h (by omega));rw[cR.eq_def];dsimp only;rw[if_pos (by rw[hp];decide),<-hc];rfl
  .rw[hx.2.1 e] at ht ⊢;have hp:=jA (show t.drop a=49::r from ht);have hc:=kj c 2 0 [] e (pR c h (by omega) (by omega)) (ti c h (by omega));rw[cR.eq_def];dsimp only;rw[if_neg (by rw[hp];decide),if_pos (by rw[hp];decide),<-hc];rfl
  .have hp:=jA (show t.drop a=116::(A4 c.aO++r) by rw[ht,hx.2.2.1 e];rfl);rw[cR.eq_def];dsimp only;rw[if_neg (by rw[hp];decide),if_neg (by rw[hp];decide),if_pos (by rw[hp];decide)];exact a0r t a dp c h (.inl e) r hr ht
  .have hp:=jA (show t.drop a=97::(A4 c.aO++r) by rw[ht,hx.2.2.2.1 e];rfl);rw[cR.eq_def];dsimp only;rw[if_neg (by rw[hp];decide),if_neg (by rw[hp];decide),if_pos (by rw[hp];decide)];exact a0r t a dp c h (.inr e) r hr ht
  .obtain⟨hl,k0,k1⟩:=hf.2.2.1 (.inl e);have hc:=kj c 6 0 _ e (pR c h (by omega) (by omega)) (JF c hl);have hd0:=vR bR zE c.M 0 (by omega);have hd1:=kQ (c.M.getD 0 zE);obtain⟨g,rfl⟩:∃ g',g=g'+1:=⟨g - 1,by omega⟩;rw[hx.2.2.2.2.2.1 e] at ht ⊢;have p0:t.drop a=40::(cd (c.M.getD 0 zE)++([32,43,32]++(cd (c.M.getD 1 zE)++([41]++r)))):=by rw[ht];simp
   have p1:t.drop (a+1)=cd (c.M.getD 0 zE)++([32,43,32]++(cd (c.M.getD 1 zE)++([41]++r))):=cH (w:=[40]) p0;have q1:=Kl 0 (by omega) k0 g rfl (a+1) _ (λ b l g=>by simp at g;rw[<-g.1];decide) p1;have p2:=cH p1;have p2a:t.drop (a+1+(cd (c.M.getD 0 zE)).length+1)=43::(32::(cd (c.M.getD 1 zE)++([41]++r))):=cH (w:=[32]) p2;have p2b:t.drop (a+1+(cd (c.M.getD 0 zE)).length+1+1)=32::(cd (c.M.getD 1 zE)++([41]++r)):=cH (w:=[43]) p2a;have p3:t.drop (a+1+(cd (c.M.getD 0 zE)).length+1+1+1)=cd (c.M.getD 1 zE)++([41]++r):=cH (w:=[32]) p2b;have q2:=Kl 1 (by omega) k1 g rfl _ _ (λ b l g=>by simp at g;rw[<-g.1];decide) p3;have p4:=cH p3;have hp:=jA p0;rw[cR.eq_def];dsimp only;rw[if_neg (by rw[hp];decide),if_neg (by rw[hp];decide),if_neg (by rw[hp];decide),if_neg (by rw[hp];decide),if_pos (by rw[hp];decide)];simp only[q1];unfold yb;have y1:bK t (a+1+(cd (c.M.getD 0 zE)).length) 32=_:=(wI (c:=32) p2 false).1;have y2:bZ t (a+1+(cd (c.M.getD 0 zE)).length) 32 false=false:=(wI (c:=32) p2 false).2;have y3:bK t (a+1+(cd (c.M.getD 0 zE)).length+1+1) 32=_:=(wI (c:=32) p2b false).1;have y4:bZ t (a+1+(cd (c.M.getD 0 zE)).length+1+1) 32 false=false:=(wI (c:=32) p2b false).2;simp only[y1,y2,y3,y4];rw[if_pos (by rw[jA p2a];decide)];unfold C2;simp only[q2];have y5:bK t _ 41=_:=(wI (c:=41) p4 false).1;have y6:bZ t _ 41 false=false:=(wI (c:=41) p4 false).2;rw[y5,y6,<-hc];simp only[RS.mk.injEq,true_and,and_true,List.length_append,List.length_cons,List.length_nil];omega
  .obtain⟨hl,k0,k1⟩:=hf.2.2.1 (.inr e);have hc:=kj c 7 0 _ e (pR c h (by omega) (by omega)) (JF c hl);have hd0:=vR bR zE c.M 0 (by omega);have hd1:=kQ (c.M.getD 0 zE);obtain⟨g,rfl⟩:∃ g',g=g'+1:=⟨g - 1,by omega⟩;rw[hx.2.2.2.2.2.2.1 e] at ht ⊢;have p0:t.drop a=40::(cd (c.M.getD 0 zE)++([32]++(cd (c.M.getD 1 zE)++([41]++r)))):=by rw[ht];simp
   have p1:t.drop (a+1)=cd (c.M.getD 0 zE)++([32]++(cd (c.M.getD 1 zE)++([41]++r))):=cH (w:=[40]) p0;have q1:=Kl 0 (by omega) k0 g rfl (a+1) _ (λ b l g=>by simp at g;rw[<-g.1];decide) p1;have p2:=cH p1;have p3:t.drop (a+1+(cd (c.M.getD 0 zE)).length+1)=cd (c.M.getD 1 zE)++([41]++r):=cH (w:=[32]) p2;have q2:=Kl 1 (by omega) k1 g rfl _ _ (λ b l g=>by simp at g;rw[<-g.1];decide) p3;have p4:=cH p3;obtain⟨b1,l1,f1,f2⟩:=UK _ k1.1;have hp:=jA p0;rw[cR.eq_def];dsimp only;rw[if_neg (by rw[hp];decide),if_neg (by rw[hp];decide),if_neg (by rw[hp];decide),if_neg (by rw[hp];decide),if_pos (by rw[hp];decide)];simp only[q1];unfold yb;have y1:bK t (a+1+(cd (c.M.getD 0 zE)).length) 32=_:=(wI (c:=32) p2 false).1;have y2:bZ t (a+1+(cd (c.M.getD 0 zE)).length) 32 false=false:=(wI (c:=32) p2 false).2;simp only[y1,y2];have a9G:¬ bY t (a+1+(cd (c.M.getD 0 zE)).length+1)=43:=by
    have p3':=p3;rw[f1] at p3';rw[jA p3'];intro hh;exact f2 (UInt8.toNat_inj.1 (by simpa using Int.ofNat_inj.1 hh))
   rw[if_neg a9G];unfold C2;simp only[q2];have y5:bK t _ 41=_:=(wI (c:=41) p4 false).1;have y6:bZ t _ 41 false=false:=(wI (c:=41) p4 false).2;rw[y5,y6,<-hc];simp only[RS.mk.injEq,true_and,and_true,List.length_append,List.length_cons,List.length_nil];omega
def a3t(x:J)(h:eR x=true)(h40:bR x<=40):fm (cR (cd x) 99) (cd x) 0 0 false=⟨x,(cd x).length,0,false⟩:=by
 obtain⟨m,n,c,e1,e2,e3,e4,e5,e6⟩:=V5 _ _ (Nat.lt_succ_self _) h;have:=Xx (cR (cd x) 99) (cd x) 0 0 [] x c m n e1 e6 (by omega) (λ b l g=>by cases g) (by simp) (λ r' Mx GU=>Mz _ n c (Nat.lt_succ_self _) e2 e3 (cd x) 99 0 (0+1) r' (by omega) (by omega) Mx GU);simpa using this
def Ff(gg:aX)(x:J)(hg:bS gg=true)(h:cC gg x=true):eR x=true/\bR x<=40/\(cd x).length<=1000:=by
 rw[zV] at h;rw[Wf] at hg;rw[Fz _ (by omega),Fz _ (by omega)] at h;have ht:=Jb _ _ 9 9 (by omega) (by omega) x h.1;have:=AT (cA x+1) x (b1D _) ht;exact⟨ht,h.2.2,by have:=h.2.1;omega⟩
def Wm(t:List UInt8):RI:=mY (eI t 41) t 0
def AP(t:List UInt8):RS:=fm (cR t 99) t 0 0 false
def dY(gg:aX)(t:List UInt8):Bool:=(Wm t).ok&&decide ((Wm t).a=t.length)&&cC gg (Wm t).e&&decide (cd (Wm t).e=t)
def ll(gg:aX)(t:List UInt8):J:=bif dY gg t then (Wm t).e else zX
def a5L(gg:aX)(t:List UInt8)(hg:bS gg=true):(!(AP t).bad&&decide ((AP t).a=t.length)&&cC gg (AP t).e)=dY gg t/\(dY gg t=true->(AP t).e=ll gg t):=by
 have up:dY gg t=true->AP t=⟨(Wm t).e,t.length,0,false⟩:=by
  intro h;simp only[dY,b0R,b0N] at h;obtain⟨h1,h2,_⟩:=Ff gg _ hg h.1.2;have:=a3t _ h1 h2;rw[h.2] at this;exact this
 have down:(!(AP t).bad&&decide ((AP t).a=t.length)&&cC gg (AP t).e)=true->dY gg t=true:=by
  intro h;simp only[Bool.and_eq_true,decide_eq_true_eq,Bool.not_eq_true'] at h;obtain⟨⟨h1,h2⟩,h3⟩:=h;obtain⟨g1,g2,_⟩:=Ff gg _ hg h3;obtain⟨_,W,w1,w2⟩:=(vI (cR t 99) t 0 0 false (λ _=>Fe t 99 0 1 rfl)).ex h1;have w1':t=W++t.drop (AP t).a:=w1;rw[h2,List.drop_length,List.append_nil] at w1';have w3:t=cd (AP t).e:=w1'.trans (w2 g1);have hi:=a3s _ g1 g2;rw[<-w3] at hi;have rW:Wm t=⟨(AP t).e,true,t.length⟩:=hi;unfold dY;rw[rW];simp only[h3,<-w3,decide_true,Bool.and_self]
 refine⟨?_,λ h=>?_⟩
 .cases hb:dY gg t
  .cases hc:(!(AP t).bad&&decide ((AP t).a=t.length)&&cC gg (AP t).e)
   .rfl
   .rw[down hc] at hb;cases hb
  .have hu:=up hb;have h3:=hb;simp only[dY,b0R] at h3;rw[hu];simp only[h3.1.2,b1y,b4b,b0U]
 .rw[up h];unfold ll;rw[h];rfl
end
end Go.Proofs.YtmjfpcajohhbeaaGreatDoor

set_option maxRecDepth 4000
set_option maxHeartbeats 4000000
namespace Go.Proofs.YtmjfpcajohhbeaaGreatDoor
noncomputable section
def a8D(t:List UInt8)(a:Nat)(s:List UInt8):(decide (s.length<=(t.drop a).length)&&decide ((t.drop a).take s.length=s))=dd t a s:=rfl
def Wl(t:List UInt8)(a:Nat)(s:List UInt8)(h:dd t a s=true):s.length+a<=t.length\/s=[]:=by
 obtain⟨r,hr⟩:=(PG t a s).1 h;have:=congrArg List.length hr;simp only[b1Y,b1l] at this;cases s with
 | nil=>exact .inr rfl
 | cons b l=>left;simp only[b0Z] at this ⊢;omega
def aF(t:List UInt8)(a:Int)(p:List UInt8):Int:=bif dd t a.toNat p then a+(p.length:Int) else a
def E3(t:List UInt8)(a:Int):Int:=bif lD t a.toNat then a+1 else a
def J0(t:List UInt8)(a:Int):Int:=bif lD t a.toNat then ((t.getD a.toNat 0).toNat:Int) - 48 else 0
def a7E:IntKind.u8.min=0:=rfl
def a7D:IntKind.u8.max=255:=rfl
def a7V(b:UInt8):0<=(b.toNat:Int)/\(b.toNat:Int)<=255:=by have:=b.toNat_lt;omega
def eh:jU:=⟨r8,[[.d .str, .d (.int .i64)]],[.b 0, .v .str],[[.str,(.int .i64)]],λ (p:List UInt8) (t:List UInt8) (a:Int)=>⟨(some (0<=a/\a<=(t.length:Int)/\t.length<=10000/\p.length<=10/\1<=p.length),[⟨.bool,dd t a.toNat p⟩],[[⟨.str,t⟩,⟨(.int .i64),aF t a p⟩]])⟩⟩
def xw(p:List UInt8)(t:List UInt8)(a:Int):Nat->aM:=λ _ => .none
def Hr(p:List UInt8)(t:List UInt8)(a:Int):ck (cg [je] [] [] [] []) (az ij) (xw p t a) 0 (mH (cg [je] [] [] [] []) ij [[.d .str, .d (.int .i64)]] λ r ds=>bB r [⟨.bool,dd t a.toNat p⟩]/\oN ds [[⟨.str,t⟩,⟨(.int .i64),aF t a p⟩]]) (dk ij [.box 0, .val ⟨.str,p⟩] [[.d .str, .d (.int .i64)]] [[⟨.str,t⟩,⟨(.int .i64),a⟩]]) =
 ((cM a ((t.length:Int)) t.length/\(t.length<=140737488355328 ->
 (U a ->
 (((!(decide (p.length<=((t.take (Int.toNat ((t.length:Int)))).drop (Int.toNat a)).length)&&decide (((t.take (Int.toNat ((t.length:Int)))).drop (Int.toNat a)).take p.length=p)))=true ->
 (false=(dd t a.toNat p)/\((t=t/\a=(aF t a p))/\True)))/\((!(decide (p.length<=((t.take (Int.toNat ((t.length:Int)))).drop (Int.toNat a)).length)&&decide (((t.take (Int.toNat ((t.length:Int)))).drop (Int.toNat a)).take p.length=p)))=false ->
 (U a ->
 (U ((p.length:Int)) ->
 (U (a+((p.length:Int)))/\(true=(dd t a.toNat p)/\((t=t/\(a+((p.length:Int)))=(aF t a p))/\True))))))))))):=by kernel_rfl
def Hh(hE:aI [je])(hO:dL [])(hM:ed [])(hS:dP []):jU.Good eh:=by
 refine⟨aA wM rfl (by decide),?_⟩;show ∀ (p:List UInt8) (t:List UInt8) (a:Int),(0<=a/\a<=(t.length:Int)/\t.length<=10000/\p.length<=10/\1<=p.length)->vo prog r8 [[.d .str, .d (.int .i64)]] [.box 0, .val ⟨.str,p⟩] [[⟨.str,t⟩,⟨(.int .i64),a⟩]] [⟨.bool,dd t a.toNat p⟩] [[⟨.str,t⟩,⟨(.int .i64),aF t a p⟩]];intro p t a hp;refine jL (own:=[]) (wr:=[]) (cl:=[]) (ro:=[]) hE hO hM hS wM ET (xw p t a) rfl rfl ?_;rewrite [Hr p t a];obtain⟨h1,h2,h3,h4,h5⟩:=hp;have f0:aF t a p=bif dd t a.toNat p then a+(p.length:Int) else a:=rfl
 refine⟨?_,λ _ _=>⟨λ _=>⟨?_,⟨rfl,?_⟩,af⟩,λ _ _ _=>⟨?_,?_,⟨rfl,?_⟩,af⟩⟩⟩;all_goals try and_intros
 all_goals first|rfl|trivial|omega|((try simp only[b0X,b0U,b1i,b1B,b0N,b0M] at *)<;>(try simp only[b1d,b3p,a8D,aC,cM,U] at *)<;>first|with_reducible rfl|omega|(have h1:=Wl _ _ _ (by with_reducible assumption);have h2:p.length<=10:=by omega;omega)|(rw[by with_reducible assumption];done)|(rw[show dd t a.toNat p=_ from by with_reducible assumption];rfl)|simp_all)
def ug:jU.Good eh:=Hh ⟨DS,af⟩ trivial trivial trivial
def iH:jU:=⟨qM,[[.d .str, .d (.int .i64)]],[.b 0],[[.str,(.int .i64)]],λ (t:List UInt8) (a:Int)=>⟨(some (0<=a/\a<=(t.length:Int)/\t.length<=10000),[⟨(.int .i64),J0 t a⟩,⟨.bool,lD t a.toNat⟩],[[⟨.str,t⟩,⟨(.int .i64),E3 t a⟩]])⟩⟩
def vD(t:List UInt8)(a:Int):Nat->aM:=λ _ => .none
abbrev tQ(t:List UInt8)(a:Int):Prop:=(U a ->
 (U (a+(1:Int))/\(U ((a+(1:Int)) - (1:Int))/\(t.length<=140737488355328 ->
 (U (a+(1:Int)) ->
 (aC ((a+(1:Int)) - (1:Int)) t.length/\(cb .u8 ((((t.getD (Int.toNat ((a+(1:Int)) - (1:Int))) 0).toNat:Int)) - (48:Int))/\(U ((((t.getD (Int.toNat ((a+(1:Int)) - (1:Int))) 0).toNat:Int)) - (48:Int))/\((((((t.getD (Int.toNat ((a+(1:Int)) - (1:Int))) 0).toNat:Int)) - (48:Int))=(J0 t a)/\true=(lD t a.toNat))/\((t=t/\(a+(1:Int))=(E3 t a))/\True))))))))))
abbrev tR(t:List UInt8)(a:Int):Prop:=(t.length<=140737488355328 ->
 (U a ->
 (aC a t.length/\(((decide ((((t.getD (Int.toNat a) 0).toNat:Int))<=(57:Int)))=true ->
 (tQ t a))/\((decide ((((t.getD (Int.toNat a) 0).toNat:Int))<=(57:Int)))=false ->
 (((0:Int)=(J0 t a)/\false=(lD t a.toNat))/\((t=t/\a=(E3 t a))/\True)))))))
abbrev tS(t:List UInt8)(a:Int):Prop:=((false=true ->
 (tQ t a))/\(false=false ->
 (((0:Int)=(J0 t a)/\false=(lD t a.toNat))/\((t=t/\a=(E3 t a))/\True))))
def FM(t:List UInt8)(a:Int):ck (cg [] [] [] [] []) (az gC) (vD t a) 0 (mH (cg [] [] [] [] []) gC [[.d .str, .d (.int .i64)]] λ r ds=>bB r [⟨(.int .i64),J0 t a⟩,⟨.bool,lD t a.toNat⟩]/\oN ds [[⟨.str,t⟩,⟨(.int .i64),E3 t a⟩]]) (dk gC [.box 0] [[.d .str, .d (.int .i64)]] [[⟨.str,t⟩,⟨(.int .i64),a⟩]]) =
 ((((decide (a<((t.length:Int))))=true ->
 (aC a t.length/\(((decide ((48:Int)<=(((t.getD (Int.toNat a) 0).toNat:Int))))=true ->
 (U a ->
 (t.length<=140737488355328 ->
 (U ((t.length:Int)) ->
 (t.length<=140737488355328 ->
 (U a ->
 (tR t a)))))))/\((decide ((48:Int)<=(((t.getD (Int.toNat a) 0).toNat:Int))))=(!true) ->
 (U a ->
 (t.length<=140737488355328 ->
 (U ((t.length:Int)) ->
 (t.length<=140737488355328 ->
 (U a ->
 (tS t a))))))))))/\((decide (a<((t.length:Int))))=(!true) ->
 ((false=true ->
 (U a ->
 (t.length<=140737488355328 ->
 (U ((t.length:Int)) ->
 (tR t a)))))/\(false=(!true) ->
 (U a ->
 (t.length<=140737488355328 ->
 (U ((t.length:Int)) ->
 (tS t a))))))))):=by kernel_rfl
def Fy(hE:aI [])(hO:dL [])(hM:ed [])(hS:dP []):jU.Good iH:=by
 refine⟨aA vq rfl (by decide),?_⟩;show ∀ (t:List UInt8) (a:Int),(0<=a/\a<=(t.length:Int)/\t.length<=10000)->vo prog qM [[.d .str, .d (.int .i64)]] [.box 0] [[⟨.str,t⟩,⟨(.int .i64),a⟩]] [⟨(.int .i64),J0 t a⟩,⟨.bool,lD t a.toNat⟩] [[⟨.str,t⟩,⟨(.int .i64),E3 t a⟩]];intro t a hp;refine jL (own:=[]) (wr:=[]) (cl:=[]) (ro:=[]) hE hO hM hS vq DA (vD t a) rfl rfl ?_;rewrite [FM t a];obtain⟨h1,h2,h3⟩:=hp;have f1:=a7V (t.getD a.toNat 0);have f3:E3 t a=bif lD t a.toNat then a+1 else a:=rfl
 have f4:J0 t a=bif lD t a.toNat then ((t.getD a.toNat 0).toNat:Int) - 48 else 0:=rfl
 have f2:lD t a.toNat=(decide (a.toNat<t.length)&&decide (48<=(t.getD a.toNat 0).toNat)&&decide ((t.getD a.toNat 0).toNat<=57)):=rfl;refine⟨λ _=>⟨?_,λ _ _ _ _ _ _ _ _=>⟨?_,λ _ _=>⟨?_,?_,λ _ _=>⟨?_,?_,?_,⟨?_,?_⟩,⟨rfl,?_⟩,af⟩⟩,λ _=>⟨⟨?_,?_⟩,⟨rfl,?_⟩,af⟩⟩,λ _ _ _ _ _ _=>⟨λ _ _=>⟨?_,?_,λ _ _=>⟨?_,?_,?_,⟨?_,?_⟩,⟨rfl,?_⟩,af⟩⟩,λ _=>⟨⟨?_,?_⟩,⟨rfl,?_⟩,af⟩⟩⟩,λ _=>⟨λ _ _ _ _ _ _=>⟨?_,λ _ _=>⟨?_,?_,λ _ _=>⟨?_,?_,?_,⟨?_,?_⟩,⟨rfl,?_⟩,af⟩⟩,λ _=>⟨⟨?_,?_⟩,⟨rfl,?_⟩,af⟩⟩,λ _ _ _ _=>⟨λ _ _=>⟨?_,?_,λ _ _=>⟨?_,?_,?_,⟨?_,?_⟩,⟨rfl,?_⟩,af⟩⟩,λ _=>⟨⟨?_,?_⟩,⟨rfl,?_⟩,af⟩⟩⟩⟩;all_goals try and_intros
 all_goals first|rfl|trivial|omega|(simp only[decide_eq_true_eq,decide_eq_false_iff_not,aC,U,a7E,a7D] at *;first|omega|grind [lD])|grind [lD,a7E,a7D]
def C4:jU.Good iH:=Fy trivial trivial trivial trivial
def nE(t:List UInt8)(a:Int):Nat:=fG 126 (t.drop a.toNat)
def rE(t:List UInt8)(d a:Int):RI:=eI t (d+1).toNat (a.toNat+nE t a)
def mE(t:List UInt8)(d a:Int):Nat:=fG 42 (t.drop (rE t d a).a)
def xE(t:List UInt8)(d a:Int):RI:=mY (eI t (d+1).toNat) t a.toNat
def a2v(c:UInt8):∀ l:List UInt8,fG c l<=l.length
 | []=>b1E _
 | b::l=>by
  have:=a2v c l;unfold fG;split<;>simp<;>omega
def Jo(c:UInt8)(t:List UInt8)(a:Nat)(h:a<=t.length):a+fG c (t.drop a)<=t.length:=by
 have:=a2v c (t.drop a);simp only[b1Y] at this;omega
def pe(t:List UInt8)(a:Nat)(c:UInt8)(s:List UInt8)(h:dd t a (c::s)=true):a+(c::s).length<=t.length:=by
 rcases Wl t a _ h with g|g
 .omega
 .cases g
def Xv(core:Nat->RI)(t:List UInt8)(hc:∀ a,a<=t.length->(core a).a<=t.length)(a:Nat)(h:a<=t.length):(mY core t a).a<=t.length:=by
 have h1:=Jo 126 t a h;have h2:=hc _ h1;have h3:=Jo 42 t _ h2;unfold mY;split
 .exact h1
 .split
  .show (core (a+fG 126 (t.drop a))).a+42<=t.length;omega
  .exact h3
def XU(k:Int)(t:List UInt8)(a:Nat)(h:a<=t.length):(vQ k t a).a<=t.length:=by
 unfold vQ;cases e:lD t a
 .exact h
 .simp only[lD,b0R,b0N] at e;show a+1<=t.length;omega
def X2(k:Int)(t:List UInt8)(x y:RI)(h:y.a<=t.length):(vj k t x y).a<=t.length:=by
 unfold vj;cases e:x.ok&&y.ok&&dd t y.a [41]
 .exact h
 .simp only[Bool.and_eq_true] at e;have:=pe t _ 41 [] e.2;simpa using this
def Qo(t:List UInt8):∀ (D a:Nat),a<=t.length->(eI t D a).a<=t.length
 | 0,a,h=>h
 | D+1,a,h=>by
  have hx:∀ a,a<=t.length->(mY (eI t D) t a).a<=t.length:=Xv (eI t D) t (Qo t D);unfold eI;split
  .rename_i e;exact pe t a 48 [] e
  .split
   .rename_i e;exact pe t a 49 [] e
   .split
    .rename_i e;exact XU 3 t _ (pe t a 116 [] e)
    .split
     .rename_i e;exact XU 4 t _ (pe t a 97 [] e)
     .split
      .exact h
      .rename_i e;have e':dd t a [40]=true:=by simpa using e
       have h1:=hx _ (pe t a 40 [] e');split
       .rename_i e2;exact X2 6 t _ _ (hx _ (pe t _ 32 [43,32] e2))
       .split
        .rename_i e2;exact X2 7 t _ _ (hx _ (pe t _ 32 [] e2))
        .exact h1
def a2g(t:List UInt8)(d a:Int)(h0:0<=a)(h:a<=(t.length:Int)):((xE t d a).a:Int)<=(t.length:Int):=by
 have:=Xv (eI t (d+1).toNat) t (Qo t _) a.toNat (by omega);unfold xE;omega
def a3f(t:List UInt8)(a:Int)(p:List UInt8)(h0:0<=a):0<=aF t a p:=by
 unfold aF;cases dd t a.toNat p<;>simp<;>omega
def a3g(t:List UInt8)(a:Int)(p:List UInt8)(h0:0<=a)(h:a<=(t.length:Int)):aF t a p<=(t.length:Int):=by
 unfold aF;cases e:dd t a.toNat p
 .exact h
 .rcases Wl t _ p e with g|g
  .simp only[b3Y];omega
  .subst g;simpa using h
def Oa(t:List UInt8)(a:Int)(h0:0<=a):0<=E3 t a:=by
 unfold E3;cases lD t a.toNat<;>simp<;>omega
def TJ(t:List UInt8)(a:Int)(h0:0<=a)(h:a<=(t.length:Int)):E3 t a<=(t.length:Int):=by
 unfold E3;cases e:lD t a.toNat
 .exact h
 .simp only[lD,b0R,b0N] at e;simp only[b3Y];omega
def a1k(t:List UInt8)(d a:Int)(h:d<0)(ha:0<=a):(eI t (d+1).toNat a.toNat).e=zX/\(eI t (d+1).toNat a.toNat).ok=false/\((eI t (d+1).toNat a.toNat).a:Int)=a:=by
 rw[show (d+1).toNat=0 by omega];exact⟨rfl,rfl,by show ((a.toNat:Nat):Int)=a;omega⟩
def DJ(t:List UInt8)(d a:Int)(h:¬ d<0)(ha:0<=a):eI t (d+1).toNat a.toNat =
  if dd t a.toNat [48]=true then ⟨J.mk 1 0 [],true,a.toNat+1⟩ else if dd t a.toNat [49]=true then ⟨J.mk 2 0 [],true,a.toNat+1⟩ else
  if dd t a.toNat [116]=true then vQ 3 t (a+1).toNat else if dd t a.toNat [97]=true then vQ 4 t (a+1).toNat else if dd t a.toNat [40]=false then ⟨zX,false,a.toNat⟩ else
  if dd t (xE t (d - 1) (a+1)).a [32,43,32]=true then vj 6 t (xE t (d - 1) (a+1)) (xE t (d - 1) (((xE t (d - 1) (a+1)).a:Int)+3)) else
  if dd t (xE t (d - 1) (a+1)).a [32]=true then vj 7 t (xE t (d - 1) (a+1)) (xE t (d - 1) (((xE t (d - 1) (a+1)).a:Int)+1)) else
  ⟨zX,false,(xE t (d - 1) (a+1)).a⟩:=by
 obtain⟨D,hD⟩:∃ D:Nat,d=(D:Int):=⟨d.toNat,by omega⟩;subst hD;have e1:((D:Int)+1).toNat=D+1:=by omega
 have e2:((D:Int) - 1+1).toNat=D:=by omega
 have e3:(a+1).toNat=a.toNat+1:=by omega
 have e4:∀ n:Nat,((n:Int)+3).toNat=n+3:=λ n=>by omega
 have e5:∀ n:Nat,((n:Int)+1).toNat=n+1:=λ n=>by omega
 unfold xE;rw[e1,e2,e3];simp only[e4,e5];rw[eI]
def FF(t:List UInt8)(a:Int)(p:List UInt8)(h:dd t a.toNat p=false):aF t a p=a:=by unfold aF;rw[h];rfl
def y7(t:List UInt8)(a:Int)(c:UInt8)(h:dd t a.toNat [c]=true):aF t a [c]=a+1:=by unfold aF;rw[h];rfl
def a6S(t:List UInt8)(a:Int)(c d e:UInt8)(h:dd t a.toNat [c,d,e]=true):aF t a [c,d,e]=a+3:=by unfold aF;rw[h];rfl
def a3z(k:Int)(t:List UInt8)(a:Int)(h:0<=a):vQ k t a.toNat=⟨J.mk k (J0 t a) [],lD t a.toNat,(E3 t a).toNat⟩:=by
 unfold vQ J0 E3;cases lD t a.toNat
 .rfl
 .simp only[b3Y,RI.mk.injEq,b1N];omega
def a0z(k:Int)(t:List UInt8)(x y:RI):(vj k t x y).e=J.mk k 0 [x.e,y.e]:=by unfold vj;cases x.ok&&y.ok&&dd t y.a [41]<;>rfl
def X3(k:Int)(t:List UInt8)(x y:RI):(vj k t x y).ok=(x.ok&&y.ok&&dd t y.a [41]):=by unfold vj;cases x.ok&&y.ok&&dd t y.a [41]<;>rfl
def a0y(k:Int)(t:List UInt8)(x y:RI):((vj k t x y).a:Int)=bif x.ok&&y.ok then aF t (y.a:Int) [41] else (y.a:Int):=by
 unfold vj aF;rw[Int.toNat_natCast];cases x.ok<;>cases y.ok<;>cases dd t y.a [41]<;>rfl
def a0n(k:Int)(t:List UInt8)(a:Int)(h:0<=a):(vQ k t (a+1).toNat).e=J.mk k (J0 t (a+1)) []/\(vQ k t (a+1).toNat).ok=lD t (a+1).toNat/\((vQ k t (a+1).toNat).a:Int)=E3 t (a+1):=by
 rw[a3z k t (a+1) (by omega)];have:=Oa t (a+1) (by omega);exact⟨rfl,rfl,by show ((E3 t (a+1)).toNat:Int)=_;omega⟩
def Xp(c:UInt8):∀ (l:List UInt8) (k:Nat),k<=fG c l->(k<fG c l↔∃ r,l.drop k=c::r)
 | [],k,h=>by simp[fG]
 | b::l,k,h=>by
  unfold fG at h ⊢;split at h
  .rename_i e;rw[b1q e];cases k with
   | zero=>exact⟨λ _=>⟨l,by rw[e];rfl⟩,λ _=>by omega⟩
   | succ k =>
    have:=Xp c l k (by omega);rw[b3x,<-this];omega
  .rename_i e;rw[b0Y e];have hk:k=0:=by omega
   subst hk;refine⟨λ h=>by omega,λ ⟨r,hr⟩=>?_⟩;simp only[b2S,b0T] at hr;exact absurd hr.1 e
def a3h(t:List UInt8)(n k:Nat)(c:UInt8)(h:k<=fG c (t.drop n)):dd t (n+k) [c]=decide (k<fG c (t.drop n)):=by
 have h1:=Xp c (t.drop n) k h;rw[b2u] at h1;rw[b3z,b0N,h1,PG];exact⟨λ ⟨r,hr⟩=>⟨r,hr⟩,λ ⟨r,hr⟩=>⟨r,hr⟩⟩
def a8F(t:List UInt8)(a:Int)(k:Nat)(ha:0<=a)(h:k<=nE t a):dd t (a+(k:Int)).toNat [126]=decide (k<nE t a):=by
 rw[show (a+(k:Int)).toNat=a.toNat+k by omega];exact a3h t a.toNat k 126 h
def a8E(t:List UInt8)(d a:Int)(k:Nat)(h:k<=mE t d a):dd t (((rE t d a).a:Int)+(k:Int)).toNat [42]=decide (k<mE t d a):=by
 rw[show (((rE t d a).a:Int)+(k:Int)).toNat=(rE t d a).a+k by omega];exact a3h t _ k 42 h
def a5E(t:List UInt8)(a:Int)(h0:0<=a)(h:a<=(t.length:Int)):a+(nE t a:Int)<=(t.length:Int):=by
 have:=Jo 126 t a.toNat (by omega);unfold nE;omega
def a8w(t:List UInt8)(d a:Int)(h0:0<=a)(h:a<=(t.length:Int)):((rE t d a).a:Int)+(mE t d a:Int)<=(t.length:Int):=by
 have h1:=a5E t a h0 h;have h2:=Qo t (d+1).toNat (a.toNat+nE t a) (by omega);have h3:=Jo 42 t _ h2;have:(rE t d a).a+mE t d a<=t.length:=h3;omega
def a5K(t:List UInt8)(d a:Int)(ha:0<=a):eI t (d+1).toNat (a+(nE t a:Int)).toNat=rE t d a:=by
 rw[show (a+(nE t a:Int)).toNat=a.toNat+nE t a by omega];rfl
def a2f(t:List UInt8)(d a:Int):xE t d a=if 40<nE t a then ⟨zX,false,a.toNat+nE t a⟩ else if 41<mE t d a then ⟨zX,false,(rE t d a).a+42⟩ else
  ⟨bp 8 (mE t d a) (bp 5 (nE t a) (rE t d a).e),(rE t d a).ok,(rE t d a).a+mE t d a⟩:=rfl
def a6e(t:List UInt8)(d a:Int)(ha:0<=a)(h:40<nE t a):(xE t d a).e=zX/\(xE t d a).ok=false/\((xE t d a).a:Int)=a+(nE t a:Int):=by
 rw[a2f,b1q h];exact⟨rfl,rfl,by show ((a.toNat+nE t a:Nat):Int)=_;omega⟩
def a4e(t:List UInt8)(d a:Int)(h:¬ 40<nE t a)(h2:41<mE t d a):(xE t d a).e=zX/\(xE t d a).ok=false/\((xE t d a).a:Int)=((rE t d a).a:Int)+42:=by
 rw[a2f,b0Y h,b1q h2];exact⟨rfl,rfl,rfl⟩
def a6d(t:List UInt8)(d a:Int)(h:¬ 40<nE t a)(h2:¬ 41<mE t d a):(xE t d a).e=bp 8 (mE t d a) (bp 5 (nE t a) (rE t d a).e)/\(xE t d a).ok=(rE t d a).ok/\((xE t d a).a:Int)=((rE t d a).a:Int)+(mE t d a:Int):=by
 rw[a2f,b0Y h,b0Y h2];exact⟨rfl,rfl,rfl⟩
structure Y6(r:RI)(e:J)(ok:Bool)(a:Int):Prop where
 e:r.e=e
 ok:r.ok=ok
 a:(r.a:Int)=a
def dI(t:List UInt8)(d a:Int):RI:=eI t (d+1).toNat a.toNat
def a6m(t:List UInt8)(d a:Int)(h:d<0)(ha:0<=a):Y6 (dI t d a) zX false a:=by
 obtain⟨h1,h2,h3⟩:=a1k t d a h ha;exact⟨h1,h2,h3⟩
def a9b(t:List UInt8)(d a:Int)(h:¬ d<0)(ha:0<=a)(h1:dd t a.toNat [48]=true):Y6 (dI t d a) (J.mk 1 0 []) true (a+1):=by
 unfold dI;rw[DJ t d a h ha,if_pos h1];exact⟨rfl,rfl,by show ((a.toNat+1:Nat):Int)=_;omega⟩
def a9c(t:List UInt8)(d a:Int)(h:¬ d<0)(ha:0<=a)(h1:dd t a.toNat [48]=false)(h2:dd t a.toNat [49]=true):Y6 (dI t d a) (J.mk 2 0 []) true (a+1):=by
 unfold dI;rw[DJ t d a h ha,if_neg (by rw[h1];decide),if_pos h2];exact⟨rfl,rfl,by show ((a.toNat+1:Nat):Int)=_;omega⟩
def a7X(t:List UInt8)(d a:Int)(h:¬ d<0)(ha:0<=a)(h1:dd t a.toNat [48]=false)(h2:dd t a.toNat [49]=false)(h3:dd t a.toNat [116]=true):Y6 (dI t d a) (J.mk 3 (J0 t (a+1)) []) (lD t (a+1).toNat) (E3 t (a+1)):=by
 unfold dI;rw[DJ t d a h ha,if_neg (by rw[h1];decide),if_neg (by rw[h2];decide),if_pos h3];obtain⟨g1,g2,g3⟩:=a0n 3 t a ha;exact⟨g1,g2,g3⟩
def a9d(t:List UInt8)(d a:Int)(h:¬ d<0)(ha:0<=a)(h1:dd t a.toNat [48]=false)(h2:dd t a.toNat [49]=false)(h3:dd t a.toNat [116]=false)(h4:dd t a.toNat [97]=true):Y6 (dI t d a) (J.mk 4 (J0 t (a+1)) []) (lD t (a+1).toNat) (E3 t (a+1)):=by
 unfold dI;rw[DJ t d a h ha,if_neg (by rw[h1];decide),if_neg (by rw[h2];decide),if_neg (by rw[h3];decide),if_pos h4];obtain⟨g1,g2,g3⟩:=a0n 4 t a ha;exact⟨g1,g2,g3⟩
def a9e(t:List UInt8)(d a:Int)(h:¬ d<0)(ha:0<=a)(h1:dd t a.toNat [48]=false)(h2:dd t a.toNat [49]=false)(h3:dd t a.toNat [116]=false)(h4:dd t a.toNat [97]=false)(h5:dd t a.toNat [40]=false):Y6 (dI t d a) zX false a:=by
 unfold dI;rw[DJ t d a h ha,if_neg (by rw[h1];decide),if_neg (by rw[h2];decide),if_neg (by rw[h3];decide),if_neg (by rw[h4];decide),if_pos h5];exact⟨rfl,rfl,by show ((a.toNat:Nat):Int)=_;omega⟩
def prP(t:List UInt8)(x y:RI):Int:=bif x.ok&&y.ok then aF t (y.a:Int) [41] else (y.a:Int)
def TT(t:List UInt8)(x y:RI)(h:x.ok=false\/y.ok=false):prP t x y=(y.a:Int):=by unfold prP;rcases h with h|h<;>rw[h]<;>simp
def a2S(t:List UInt8)(x y:RI)(h:x.ok=true)(h':y.ok=true):prP t x y=aF t (y.a:Int) [41]:=by unfold prP;rw[h,h'];rfl
def a9a(t:List UInt8)(d a:Int)(h:¬ d<0)(ha:0<=a)(h1:dd t a.toNat [48]=false)(h2:dd t a.toNat [49]=false)(h3:dd t a.toNat [116]=false)(h4:dd t a.toNat [97]=false)(h5:dd t a.toNat [40]=true)(X:RI)(hX:X=xE t (d - 1) (a+1)) :
  (dd t X.a [32,43,32]=true->Y6 (dI t d a) (J.mk 6 0 [X.e,(xE t (d - 1) ((X.a:Int)+3)).e]) (X.ok&&(xE t (d - 1) ((X.a:Int)+3)).ok&&dd t (xE t (d - 1) ((X.a:Int)+3)).a [41]) (prP t X (xE t (d - 1) ((X.a:Int)+3)))) /\
  (dd t X.a [32,43,32]=false->dd t X.a [32]=true->Y6 (dI t d a) (J.mk 7 0 [X.e,(xE t (d - 1) ((X.a:Int)+1)).e]) (X.ok&&(xE t (d - 1) ((X.a:Int)+1)).ok&&dd t (xE t (d - 1) ((X.a:Int)+1)).a [41]) (prP t X (xE t (d - 1) ((X.a:Int)+1)))) /\
  (dd t X.a [32,43,32]=false->dd t X.a [32]=false->Y6 (dI t d a) zX false (X.a:Int)):=by
 unfold dI;rw[DJ t d a h ha,if_neg (by rw[h1];decide),if_neg (by rw[h2];decide),if_neg (by rw[h3];decide),if_neg (by rw[h4];decide),if_neg (by rw[h5];decide),<-hX];refine⟨λ e=>?_,λ e e'=>?_,λ e e'=>?_⟩
 .rw[b1q e];exact⟨a0z _ _ _ _,X3 _ _ _ _,a0y _ _ _ _⟩
 .rw[b0Y (by rw[e];decide),b1q e'];exact⟨a0z _ _ _ _,X3 _ _ _ _,a0y _ _ _ _⟩
 .rw[b0Y (by rw[e];decide),b0Y (by rw[e'];decide)];exact⟨rfl,rfl,rfl⟩
def iI(n:Nat):jU:=⟨r7,[[.d .str, .d (.int .i64)]],[.b 0, .v (.int .i64)],[[.str,(.int .i64)]],λ (d:Int) (t:List UInt8) (a:Int)=>⟨(some (2 * (d+1).toNat<n/\0<=a/\a<=(t.length:Int)/\t.length<=10000 /\ -1<=d/\d<=40),[⟨(.st .expr),(dI t d a).e⟩,⟨.bool,(dI t d a).ok⟩],[[⟨.str,t⟩,⟨(.int .i64),((dI t d a).a:Int)⟩]])⟩⟩
def iJ(n:Nat):jU:=⟨mU,[[.d .str, .d (.int .i64)]],[.b 0, .v (.int .i64)],[[.str,(.int .i64)]],λ (d:Int) (t:List UInt8) (a:Int)=>⟨(some (2 * (d+1).toNat+1<n/\0<=a/\a<=(t.length:Int)/\t.length<=10000 /\ -1<=d/\d<=40),[⟨(.st .expr),(xE t d a).e⟩,⟨.bool,(xE t d a).ok⟩],[[⟨.str,t⟩,⟨(.int .i64),((xE t d a).a:Int)⟩]])⟩⟩
def mB:jU:=⟨mU,[[.d .str, .d (.int .i64)]],[.b 0, .v (.int .i64)],[[.str,(.int .i64)]],λ (d:Int) (t:List UInt8) (a:Int)=>⟨(some (0<=a/\a<=(t.length:Int)/\t.length<=10000 /\ -1<=d/\d<=40),[⟨(.st .expr),(xE t d a).e⟩,⟨.bool,(xE t d a).ok⟩],[[⟨.str,t⟩,⟨(.int .i64),((xE t d a).a:Int)⟩]])⟩⟩
def xu(d:Int)(t:List UInt8)(a:Int):Nat->aM:=λ _ => .none
def Hp(n:Nat)(d:Int)(t:List UInt8)(a:Int):ck (cg [] [sA,ke] [] [22,26,36,47,57,70,76,77] [] [] [] [eh,iH,iJ n]) (az ie) (xu d t a) 0 (mH (cg [] [sA,ke] [] [22,26,36,47,57,70,76,77] [] [] [] [eh,iH,iJ n]) ie [[.d .str, .d (.int .i64)]] λ r ds=>bB r [⟨(.st .expr),(dI t d a).e⟩,⟨.bool,(dI t d a).ok⟩]/\oN ds [[⟨.str,t⟩,⟨(.int .i64),((dI t d a).a:Int)⟩]]) (dk ie [.box 0, .val ⟨(.int .i64),d⟩] [[.d .str, .d (.int .i64)]] [[⟨.str,t⟩,⟨(.int .i64),a⟩]]) =
 ((((decide (d<(0:Int)))=true ->
 ((zE=((dI t d a).e)/\false=((dI t d a).ok))/\((t=t/\a=((dI t d a).a:Int))/\True)))/\((decide (d<(0:Int)))=false ->
 ((0<=a/\a<=(t.length:Int)/\t.length<=10000/\([48]).length<=10/\1<=([48]).length)/\(((dd t a.toNat ([48]))=true ->
 (((ag (J.mk (1:Int) (0:Int) []))=((dI t d a).e)/\true=((dI t d a).ok))/\((t=t/\(aF t a ([48]))=((dI t d a).a:Int))/\True)))/\((dd t a.toNat ([48]))=false ->
 ((0<=(aF t a ([48]))/\(aF t a ([48]))<=(t.length:Int)/\t.length<=10000/\([49]).length<=10/\1<=([49]).length)/\(((dd t (aF t a ([48])).toNat ([49]))=true ->
 (((ag (J.mk (2:Int) (0:Int) []))=((dI t d a).e)/\true=((dI t d a).ok))/\((t=t/\(aF t (aF t a ([48])) ([49]))=((dI t d a).a:Int))/\True)))/\((dd t (aF t a ([48])).toNat ([49]))=false ->
 ((0<=(aF t (aF t a ([48])) ([49]))/\(aF t (aF t a ([48])) ([49]))<=(t.length:Int)/\t.length<=10000/\([116]).length<=10/\1<=([116]).length)/\(((dd t (aF t (aF t a ([48])) ([49])).toNat ([116]))=true ->
 ((0<=(aF t (aF t (aF t a ([48])) ([49])) ([116]))/\(aF t (aF t (aF t a ([48])) ([49])) ([116]))<=(t.length:Int)/\t.length<=10000)/\(U (J0 t (aF t (aF t (aF t a ([48])) ([49])) ([116]))) ->
 (((ag (J.mk (3:Int) (J0 t (aF t (aF t (aF t a ([48])) ([49])) ([116]))) []))=((dI t d a).e)/\(lD t (aF t (aF t (aF t a ([48])) ([49])) ([116])).toNat)=((dI t d a).ok))/\((t=t/\(E3 t (aF t (aF t (aF t a ([48])) ([49])) ([116])))=((dI t d a).a:Int))/\True)))))/\((dd t (aF t (aF t a ([48])) ([49])).toNat ([116]))=false ->
 ((0<=(aF t (aF t (aF t a ([48])) ([49])) ([116]))/\(aF t (aF t (aF t a ([48])) ([49])) ([116]))<=(t.length:Int)/\t.length<=10000/\([97]).length<=10/\1<=([97]).length)/\(((dd t (aF t (aF t (aF t a ([48])) ([49])) ([116])).toNat ([97]))=true ->
 ((0<=(aF t (aF t (aF t (aF t a ([48])) ([49])) ([116])) ([97]))/\(aF t (aF t (aF t (aF t a ([48])) ([49])) ([116])) ([97]))<=(t.length:Int)/\t.length<=10000)/\(U (J0 t (aF t (aF t (aF t (aF t a ([48])) ([49])) ([116])) ([97]))) ->
 (((ag (J.mk (4:Int) (J0 t (aF t (aF t (aF t (aF t a ([48])) ([49])) ([116])) ([97]))) []))=((dI t d a).e)/\(lD t (aF t (aF t (aF t (aF t a ([48])) ([49])) ([116])) ([97])).toNat)=((dI t d a).ok))/\((t=t/\(E3 t (aF t (aF t (aF t (aF t a ([48])) ([49])) ([116])) ([97])))=((dI t d a).a:Int))/\True)))))/\((dd t (aF t (aF t (aF t a ([48])) ([49])) ([116])).toNat ([97]))=false ->
 ((0<=(aF t (aF t (aF t (aF t a ([48])) ([49])) ([116])) ([97]))/\(aF t (aF t (aF t (aF t a ([48])) ([49])) ([116])) ([97]))<=(t.length:Int)/\t.length<=10000/\([40]).length<=10/\1<=([40]).length)/\(((!(dd t (aF t (aF t (aF t (aF t a ([48])) ([49])) ([116])) ([97])).toNat ([40])))=true ->
 ((zE=((dI t d a).e)/\false=((dI t d a).ok))/\((t=t/\(aF t (aF t (aF t (aF t (aF t a ([48])) ([49])) ([116])) ([97])) ([40]))=((dI t d a).a:Int))/\True)))/\((!(dd t (aF t (aF t (aF t (aF t a ([48])) ([49])) ([116])) ([97])).toNat ([40])))=false ->
 (U (d - (1:Int))/\((2 * ((d - (1:Int))+1).toNat+1<n/\0<=(aF t (aF t (aF t (aF t (aF t a ([48])) ([49])) ([116])) ([97])) ([40]))/\(aF t (aF t (aF t (aF t (aF t a ([48])) ([49])) ([116])) ([97])) ([40]))<=(t.length:Int)/\t.length<=10000 /\ -1<=(d - (1:Int))/\(d - (1:Int))<=40)/\((0<=(((xE t (d - (1:Int)) (aF t (aF t (aF t (aF t (aF t a ([48])) ([49])) ([116])) ([97])) ([40]))).a:Int))/\(((xE t (d - (1:Int)) (aF t (aF t (aF t (aF t (aF t a ([48])) ([49])) ([116])) ([97])) ([40]))).a:Int))<=(t.length:Int)/\t.length<=10000/\([32,43,32]).length<=10/\1<=([32,43,32]).length)/\(((dd t (((xE t (d - (1:Int)) (aF t (aF t (aF t (aF t (aF t a ([48])) ([49])) ([116])) ([97])) ([40]))).a:Int)).toNat ([32,43,32]))=true ->
 (U (d - (1:Int))/\((2 * ((d - (1:Int))+1).toNat+1<n/\0<=(aF t (((xE t (d - (1:Int)) (aF t (aF t (aF t (aF t (aF t a ([48])) ([49])) ([116])) ([97])) ([40]))).a:Int)) ([32,43,32]))/\(aF t (((xE t (d - (1:Int)) (aF t (aF t (aF t (aF t (aF t a ([48])) ([49])) ([116])) ([97])) ([40]))).a:Int)) ([32,43,32]))<=(t.length:Int)/\t.length<=10000 /\ -1<=(d - (1:Int))/\(d - (1:Int))<=40)/\((((xE t (d - (1:Int)) (aF t (aF t (aF t (aF t (aF t a ([48])) ([49])) ([116])) ([97])) ([40]))).ok)=true ->
 ((((xE t (d - (1:Int)) (aF t (((xE t (d - (1:Int)) (aF t (aF t (aF t (aF t (aF t a ([48])) ([49])) ([116])) ([97])) ([40]))).a:Int)) ([32,43,32]))).ok)=true ->
 ((0<=(((xE t (d - (1:Int)) (aF t (((xE t (d - (1:Int)) (aF t (aF t (aF t (aF t (aF t a ([48])) ([49])) ([116])) ([97])) ([40]))).a:Int)) ([32,43,32]))).a:Int))/\(((xE t (d - (1:Int)) (aF t (((xE t (d - (1:Int)) (aF t (aF t (aF t (aF t (aF t a ([48])) ([49])) ([116])) ([97])) ([40]))).a:Int)) ([32,43,32]))).a:Int))<=(t.length:Int)/\t.length<=10000/\([41]).length<=10/\1<=([41]).length)/\(((ag (J.mk (6:Int) 0 ([(ag ((xE t (d - (1:Int)) (aF t (aF t (aF t (aF t (aF t a ([48])) ([49])) ([116])) ([97])) ([40]))).e)),(ag ((xE t (d - (1:Int)) (aF t (((xE t (d - (1:Int)) (aF t (aF t (aF t (aF t (aF t a ([48])) ([49])) ([116])) ([97])) ([40]))).a:Int)) ([32,43,32]))).e))])))=((dI t d a).e)/\(dd t (((xE t (d - (1:Int)) (aF t (((xE t (d - (1:Int)) (aF t (aF t (aF t (aF t (aF t a ([48])) ([49])) ([116])) ([97])) ([40]))).a:Int)) ([32,43,32]))).a:Int)).toNat ([41]))=((dI t d a).ok))/\((t=t/\(aF t (((xE t (d - (1:Int)) (aF t (((xE t (d - (1:Int)) (aF t (aF t (aF t (aF t (aF t a ([48])) ([49])) ([116])) ([97])) ([40]))).a:Int)) ([32,43,32]))).a:Int)) ([41]))=((dI t d a).a:Int))/\True))))/\(((xE t (d - (1:Int)) (aF t (((xE t (d - (1:Int)) (aF t (aF t (aF t (aF t (aF t a ([48])) ([49])) ([116])) ([97])) ([40]))).a:Int)) ([32,43,32]))).ok)=(!true) ->
 (((ag (J.mk (6:Int) 0 ([(ag ((xE t (d - (1:Int)) (aF t (aF t (aF t (aF t (aF t a ([48])) ([49])) ([116])) ([97])) ([40]))).e)),(ag ((xE t (d - (1:Int)) (aF t (((xE t (d - (1:Int)) (aF t (aF t (aF t (aF t (aF t a ([48])) ([49])) ([116])) ([97])) ([40]))).a:Int)) ([32,43,32]))).e))])))=((dI t d a).e)/\false=((dI t d a).ok))/\((t=t/\(((xE t (d - (1:Int)) (aF t (((xE t (d - (1:Int)) (aF t (aF t (aF t (aF t (aF t a ([48])) ([49])) ([116])) ([97])) ([40]))).a:Int)) ([32,43,32]))).a:Int))=((dI t d a).a:Int))/\True)))))/\(((xE t (d - (1:Int)) (aF t (aF t (aF t (aF t (aF t a ([48])) ([49])) ([116])) ([97])) ([40]))).ok)=(!true) ->
 ((false=true ->
 ((0<=(((xE t (d - (1:Int)) (aF t (((xE t (d - (1:Int)) (aF t (aF t (aF t (aF t (aF t a ([48])) ([49])) ([116])) ([97])) ([40]))).a:Int)) ([32,43,32]))).a:Int))/\(((xE t (d - (1:Int)) (aF t (((xE t (d - (1:Int)) (aF t (aF t (aF t (aF t (aF t a ([48])) ([49])) ([116])) ([97])) ([40]))).a:Int)) ([32,43,32]))).a:Int))<=(t.length:Int)/\t.length<=10000/\([41]).length<=10/\1<=([41]).length)/\(((ag (J.mk (6:Int) 0 ([(ag ((xE t (d - (1:Int)) (aF t (aF t (aF t (aF t (aF t a ([48])) ([49])) ([116])) ([97])) ([40]))).e)),(ag ((xE t (d - (1:Int)) (aF t (((xE t (d - (1:Int)) (aF t (aF t (aF t (aF t (aF t a ([48])) ([49])) ([116])) ([97])) ([40]))).a:Int)) ([32,43,32]))).e))])))=((dI t d a).e)/\(dd t (((xE t (d - (1:Int)) (aF t (((xE t (d - (1:Int)) (aF t (aF t (aF t (aF t (aF t a ([48])) ([49])) ([116])) ([97])) ([40]))).a:Int)) ([32,43,32]))).a:Int)).toNat ([41]))=((dI t d a).ok))/\((t=t/\(aF t (((xE t (d - (1:Int)) (aF t (((xE t (d - (1:Int)) (aF t (aF t (aF t (aF t (aF t a ([48])) ([49])) ([116])) ([97])) ([40]))).a:Int)) ([32,43,32]))).a:Int)) ([41]))=((dI t d a).a:Int))/\True))))/\(false=(!true) ->
 (((ag (J.mk (6:Int) 0 ([(ag ((xE t (d - (1:Int)) (aF t (aF t (aF t (aF t (aF t a ([48])) ([49])) ([116])) ([97])) ([40]))).e)),(ag ((xE t (d - (1:Int)) (aF t (((xE t (d - (1:Int)) (aF t (aF t (aF t (aF t (aF t a ([48])) ([49])) ([116])) ([97])) ([40]))).a:Int)) ([32,43,32]))).e))])))=((dI t d a).e)/\false=((dI t d a).ok))/\((t=t/\(((xE t (d - (1:Int)) (aF t (((xE t (d - (1:Int)) (aF t (aF t (aF t (aF t (aF t a ([48])) ([49])) ([116])) ([97])) ([40]))).a:Int)) ([32,43,32]))).a:Int))=((dI t d a).a:Int))/\True)))))))))/\((dd t (((xE t (d - (1:Int)) (aF t (aF t (aF t (aF t (aF t a ([48])) ([49])) ([116])) ([97])) ([40]))).a:Int)).toNat ([32,43,32]))=false ->
 ((0<=(aF t (((xE t (d - (1:Int)) (aF t (aF t (aF t (aF t (aF t a ([48])) ([49])) ([116])) ([97])) ([40]))).a:Int)) ([32,43,32]))/\(aF t (((xE t (d - (1:Int)) (aF t (aF t (aF t (aF t (aF t a ([48])) ([49])) ([116])) ([97])) ([40]))).a:Int)) ([32,43,32]))<=(t.length:Int)/\t.length<=10000/\([32]).length<=10/\1<=([32]).length)/\(((!(dd t (aF t (((xE t (d - (1:Int)) (aF t (aF t (aF t (aF t (aF t a ([48])) ([49])) ([116])) ([97])) ([40]))).a:Int)) ([32,43,32])).toNat ([32])))=true ->
 ((zE=((dI t d a).e)/\false=((dI t d a).ok))/\((t=t/\(aF t (aF t (((xE t (d - (1:Int)) (aF t (aF t (aF t (aF t (aF t a ([48])) ([49])) ([116])) ([97])) ([40]))).a:Int)) ([32,43,32])) ([32]))=((dI t d a).a:Int))/\True)))/\((!(dd t (aF t (((xE t (d - (1:Int)) (aF t (aF t (aF t (aF t (aF t a ([48])) ([49])) ([116])) ([97])) ([40]))).a:Int)) ([32,43,32])).toNat ([32])))=false ->
 (U (d - (1:Int))/\((2 * ((d - (1:Int))+1).toNat+1<n/\0<=(aF t (aF t (((xE t (d - (1:Int)) (aF t (aF t (aF t (aF t (aF t a ([48])) ([49])) ([116])) ([97])) ([40]))).a:Int)) ([32,43,32])) ([32]))/\(aF t (aF t (((xE t (d - (1:Int)) (aF t (aF t (aF t (aF t (aF t a ([48])) ([49])) ([116])) ([97])) ([40]))).a:Int)) ([32,43,32])) ([32]))<=(t.length:Int)/\t.length<=10000 /\ -1<=(d - (1:Int))/\(d - (1:Int))<=40)/\((((xE t (d - (1:Int)) (aF t (aF t (aF t (aF t (aF t a ([48])) ([49])) ([116])) ([97])) ([40]))).ok)=true ->
 ((((xE t (d - (1:Int)) (aF t (aF t (((xE t (d - (1:Int)) (aF t (aF t (aF t (aF t (aF t a ([48])) ([49])) ([116])) ([97])) ([40]))).a:Int)) ([32,43,32])) ([32]))).ok)=true ->
 ((0<=(((xE t (d - (1:Int)) (aF t (aF t (((xE t (d - (1:Int)) (aF t (aF t (aF t (aF t (aF t a ([48])) ([49])) ([116])) ([97])) ([40]))).a:Int)) ([32,43,32])) ([32]))).a:Int))/\(((xE t (d - (1:Int)) (aF t (aF t (((xE t (d - (1:Int)) (aF t (aF t (aF t (aF t (aF t a ([48])) ([49])) ([116])) ([97])) ([40]))).a:Int)) ([32,43,32])) ([32]))).a:Int))<=(t.length:Int)/\t.length<=10000/\([41]).length<=10/\1<=([41]).length)/\(((ag (J.mk (7:Int) 0 ([(ag ((xE t (d - (1:Int)) (aF t (aF t (aF t (aF t (aF t a ([48])) ([49])) ([116])) ([97])) ([40]))).e)),(ag ((xE t (d - (1:Int)) (aF t (aF t (((xE t (d - (1:Int)) (aF t (aF t (aF t (aF t (aF t a ([48])) ([49])) ([116])) ([97])) ([40]))).a:Int)) ([32,43,32])) ([32]))).e))])))=((dI t d a).e)/\(dd t (((xE t (d - (1:Int)) (aF t (aF t (((xE t (d - (1:Int)) (aF t (aF t (aF t (aF t (aF t a ([48])) ([49])) ([116])) ([97])) ([40]))).a:Int)) ([32,43,32])) ([32]))).a:Int)).toNat ([41]))=((dI t d a).ok))/\((t=t/\(aF t (((xE t (d - (1:Int)) (aF t (aF t (((xE t (d - (1:Int)) (aF t (aF t (aF t (aF t (aF t a ([48])) ([49])) ([116])) ([97])) ([40]))).a:Int)) ([32,43,32])) ([32]))).a:Int)) ([41]))=((dI t d a).a:Int))/\True))))/\(((xE t (d - (1:Int)) (aF t (aF t (((xE t (d - (1:Int)) (aF t (aF t (aF t (aF t (aF t a ([48])) ([49])) ([116])) ([97])) ([40]))).a:Int)) ([32,43,32])) ([32]))).ok)=(!true) ->
 (((ag (J.mk (7:Int) 0 ([(ag ((xE t (d - (1:Int)) (aF t (aF t (aF t (aF t (aF t a ([48])) ([49])) ([116])) ([97])) ([40]))).e)),(ag ((xE t (d - (1:Int)) (aF t (aF t (((xE t (d - (1:Int)) (aF t (aF t (aF t (aF t (aF t a ([48])) ([49])) ([116])) ([97])) ([40]))).a:Int)) ([32,43,32])) ([32]))).e))])))=((dI t d a).e)/\false=((dI t d a).ok))/\((t=t/\(((xE t (d - (1:Int)) (aF t (aF t (((xE t (d - (1:Int)) (aF t (aF t (aF t (aF t (aF t a ([48])) ([49])) ([116])) ([97])) ([40]))).a:Int)) ([32,43,32])) ([32]))).a:Int))=((dI t d a).a:Int))/\True)))))/\(((xE t (d - (1:Int)) (aF t (aF t (aF t (aF t (aF t a ([48])) ([49])) ([116])) ([97])) ([40]))).ok)=(!true) ->
 ((false=true ->
 ((0<=(((xE t (d - (1:Int)) (aF t (aF t (((xE t (d - (1:Int)) (aF t (aF t (aF t (aF t (aF t a ([48])) ([49])) ([116])) ([97])) ([40]))).a:Int)) ([32,43,32])) ([32]))).a:Int))/\(((xE t (d - (1:Int)) (aF t (aF t (((xE t (d - (1:Int)) (aF t (aF t (aF t (aF t (aF t a ([48])) ([49])) ([116])) ([97])) ([40]))).a:Int)) ([32,43,32])) ([32]))).a:Int))<=(t.length:Int)/\t.length<=10000/\([41]).length<=10/\1<=([41]).length)/\(((ag (J.mk (7:Int) 0 ([(ag ((xE t (d - (1:Int)) (aF t (aF t (aF t (aF t (aF t a ([48])) ([49])) ([116])) ([97])) ([40]))).e)),(ag ((xE t (d - (1:Int)) (aF t (aF t (((xE t (d - (1:Int)) (aF t (aF t (aF t (aF t (aF t a ([48])) ([49])) ([116])) ([97])) ([40]))).a:Int)) ([32,43,32])) ([32]))).e))])))=((dI t d a).e)/\(dd t (((xE t (d - (1:Int)) (aF t (aF t (((xE t (d - (1:Int)) (aF t (aF t (aF t (aF t (aF t a ([48])) ([49])) ([116])) ([97])) ([40]))).a:Int)) ([32,43,32])) ([32]))).a:Int)).toNat ([41]))=((dI t d a).ok))/\((t=t/\(aF t (((xE t (d - (1:Int)) (aF t (aF t (((xE t (d - (1:Int)) (aF t (aF t (aF t (aF t (aF t a ([48])) ([49])) ([116])) ([97])) ([40]))).a:Int)) ([32,43,32])) ([32]))).a:Int)) ([41]))=((dI t d a).a:Int))/\True))))/\(false=(!true) ->
 (((ag (J.mk (7:Int) 0 ([(ag ((xE t (d - (1:Int)) (aF t (aF t (aF t (aF t (aF t a ([48])) ([49])) ([116])) ([97])) ([40]))).e)),(ag ((xE t (d - (1:Int)) (aF t (aF t (((xE t (d - (1:Int)) (aF t (aF t (aF t (aF t (aF t a ([48])) ([49])) ([116])) ([97])) ([40]))).a:Int)) ([32,43,32])) ([32]))).e))])))=((dI t d a).e)/\false=((dI t d a).ok))/\((t=t/\(((xE t (d - (1:Int)) (aF t (aF t (((xE t (d - (1:Int)) (aF t (aF t (aF t (aF t (aF t a ([48])) ([49])) ([116])) ([97])) ([40]))).a:Int)) ([32,43,32])) ([32]))).a:Int))=((dI t d a).a:Int))/\True)))))))))))))))))))))))))))))))))):=by kernel_rfl
def Hf(n:Nat)(hE:aI [])(hO:dL [sA,ke])(hM:ed [])(hS:dP [eh,iH,iJ n]):jU.Good (iI (n+1)):=by
 refine⟨aA qt rfl (by decide),?_⟩;show ∀ (d:Int) (t:List UInt8) (a:Int),(2 * (d+1).toNat<n+1/\0<=a/\a<=(t.length:Int)/\t.length<=10000 /\ -1<=d/\d<=40)->vo prog r7 [[.d .str, .d (.int .i64)]] [.box 0, .val ⟨(.int .i64),d⟩] [[⟨.str,t⟩,⟨(.int .i64),a⟩]] [⟨(.st .expr),(dI t d a).e⟩,⟨.bool,(dI t d a).ok⟩] [[⟨.str,t⟩,⟨(.int .i64),((dI t d a).a:Int)⟩]];intro d t a hp;refine jL (own:=[22,26,36,47,57,70,76,77]) (wr:=[]) (cl:=[]) (ro:=[]) hE hO hM hS qt ER (xu d t a) rfl rfl ?_;rewrite [Hp n d t a];obtain⟨hm,h0,h1,h2,h3,h4⟩:=hp;by_cases hd:d<0
 .obtain⟨q1,q2,q3⟩:=a6m t d a hd h0;simp only[b1A hd,q1,q2,q3,b1y,b1s,b0X,b0U,b0W,b0V,b1g,b1h,b1m,b1t,b1b,b1N,b1d,U,aU];repeat' (first|intro _|apply And.intro)
  all_goals first|exact True.intro|omega|with_reducible rfl|decide
 .have GU:=b1a hd;rcases b1O (dd t a.toNat [48]) with CB|CB
  .have k:=pe t a.toNat 48 [] CB;simp only[b0Z,b1n] at k;obtain⟨q1,q2,q3⟩:=a9b t d a hd h0 CB;have b1:=Oa t (a+1) (by omega);have b2:=TJ t (a+1) (by omega) (by omega);simp only[GU,CB,y7 t a 48 CB,q1,q2,q3,b1y,b1s,b0X,b0U,b0W,b0V,b1g,b1h,b1m,b1t,b1b,b1N,b1d,U,aU];repeat' (first|intro _|apply And.intro)
   all_goals first|exact True.intro|omega|with_reducible rfl|decide
  .have f48:=FF t a [48] CB;rcases b1O (dd t a.toNat [49]) with E4|E4
   .have k:=pe t a.toNat 49 [] E4;simp only[b0Z,b1n] at k;obtain⟨q1,q2,q3⟩:=a9c t d a hd h0 CB E4;have b1:=Oa t (a+1) (by omega);have b2:=TJ t (a+1) (by omega) (by omega);simp only[GU,CB,f48,E4,y7 t a 49 E4,q1,q2,q3,b1y,b1s,b0X,b0U,b0W,b0V,b1g,b1h,b1m,b1t,b1b,b1N,b1d,U,aU];repeat' (first|intro _|apply And.intro)
    all_goals first|exact True.intro|omega|with_reducible rfl|decide
   .have f49:=FF t a [49] E4;rcases b1O (dd t a.toNat [116]) with yn|yn
    .have k:=pe t a.toNat 116 [] yn;simp only[b0Z,b1n] at k;obtain⟨q1,q2,q3⟩:=a7X t d a hd h0 CB E4 yn;have b1:=Oa t (a+1) (by omega);have b2:=TJ t (a+1) (by omega) (by omega);simp only[GU,CB,f48,E4,f49,yn,y7 t a 116 yn,q1,q2,q3,b1y,b1s,b0X,b0U,b0W,b0V,b1g,b1h,b1m,b1t,b1b,b1N,b1d,U,aU];repeat' (first|intro _|apply And.intro)
     all_goals first|exact True.intro|omega|with_reducible rfl|decide
    .have f116:=FF t a [116] yn;rcases b1O (dd t a.toNat [97]) with Ob|Ob
     .have k:=pe t a.toNat 97 [] Ob;simp only[b0Z,b1n] at k;obtain⟨q1,q2,q3⟩:=a9d t d a hd h0 CB E4 yn Ob;have b1:=Oa t (a+1) (by omega);have b2:=TJ t (a+1) (by omega) (by omega);simp only[GU,CB,f48,E4,f49,yn,f116,Ob,y7 t a 97 Ob,q1,q2,q3,b1y,b1s,b0X,b0U,b0W,b0V,b1g,b1h,b1m,b1t,b1b,b1N,b1d,U,aU];repeat' (first|intro _|apply And.intro)
      all_goals first|exact True.intro|omega|with_reducible rfl|decide
     .have f97:=FF t a [97] Ob;rcases b1O (dd t a.toNat [40]) with UD|UD
      .have k:=pe t a.toNat 40 [] UD;simp only[b0Z,b1n] at k;have g1:=y7 t a 40 UD;have b1:=a2g t (d - 1) (a+1) (by omega) (by omega);obtain⟨p1,p2,p3⟩:=a9a t d a hd h0 CB E4 yn Ob UD _ rfl;simp only[GU,CB,f48,E4,f49,yn,f116,Ob,f97,UD,g1,b1y,b1s,b0X,b0U,b0W,b0V,b1g,b1h,b1m,b1t,b1b,b1N,b1d,U,aU];generalize xE t (d - 1) (a+1)=X at *
       rcases b1O (dd t X.a [32,43,32]) with eS|eS
       .skip;have k2:=pe t _ 32 [43,32] eS;simp only[b0Z,b1n] at k2;have g2:=a6S t (X.a:Int) 32 43 32 (by rw[b1d];exact eS);obtain⟨q1,q2,q3⟩:=p1 eS;have b2:=a2g t (d - 1) ((X.a:Int)+3) (by omega) (by omega);simp only[eS,g2,q1,q2,q3,b1y,b1s,b0X,b0U,b0W,b0V,b1g,b1h,b1m,b1t,b1b,b1N,b1d,U,aU];generalize xE t (d - 1) ((X.a:Int)+3)=Y at *
        have b3:=a3f t (Y.a:Int) [41] (by omega);have b4:=a3g t (Y.a:Int) [41] (by omega) b2;rcases b1O X.ok with x1|x1
        .rcases b1O Y.ok with y1|y1
         .simp only[x1,y1,a2S t X Y x1 y1,b3d,b2n,b4b,b1y,b1s,b0X,b0U,b0W,b0V,b1g,b1h,b1m,b1t,b1b,b1N,b1d,U,aU];repeat' (first|intro _|apply And.intro)
          all_goals first|exact True.intro|omega|with_reducible rfl|decide
         .simp only[x1,y1,TT t X Y (.inr y1),b3d,b2n,b2E,b2v,b1y,b1s,b0X,b0U,b0W,b0V,b1g,b1h,b1m,b1t,b1b,b1N,b1d,U,aU];repeat' (first|intro _|apply And.intro)
          all_goals first|exact True.intro|omega|with_reducible rfl|decide
        .simp only[x1,TT t X Y (.inl x1),b3d,b2n,b2E,b2v,b1y,b1s,b0X,b0U,b0W,b0V,b1g,b1h,b1m,b1t,b1b,b1N,b1d,U,aU];repeat' (first|intro _|apply And.intro)
         all_goals first|exact True.intro|omega|with_reducible rfl|decide
       .have g3:=FF t (X.a:Int) [32,43,32] (by rw[b1d];exact eS);rcases b1O (dd t X.a [32]) with eD|eD
        .skip;have k2:=pe t _ 32 [] eD;simp only[b0Z,b1n] at k2;have g2:=y7 t (X.a:Int) 32 (by rw[b1d];exact eD);obtain⟨q1,q2,q3⟩:=p2 eS eD;have b2:=a2g t (d - 1) ((X.a:Int)+1) (by omega) (by omega);simp only[eD,eS,g3,g2,q1,q2,q3,b1y,b1s,b0X,b0U,b0W,b0V,b1g,b1h,b1m,b1t,b1b,b1N,b1d,U,aU];generalize xE t (d - 1) ((X.a:Int)+1)=Y at *
         have b3:=a3f t (Y.a:Int) [41] (by omega);have b4:=a3g t (Y.a:Int) [41] (by omega) b2;rcases b1O X.ok with x1|x1
         .rcases b1O Y.ok with y1|y1
          .simp only[x1,y1,a2S t X Y x1 y1,b3d,b2n,b4b,b1y,b1s,b0X,b0U,b0W,b0V,b1g,b1h,b1m,b1t,b1b,b1N,b1d,U,aU];repeat' (first|intro _|apply And.intro)
           all_goals first|exact True.intro|omega|with_reducible rfl|decide
          .simp only[x1,y1,TT t X Y (.inr y1),b3d,b2n,b2E,b2v,b1y,b1s,b0X,b0U,b0W,b0V,b1g,b1h,b1m,b1t,b1b,b1N,b1d,U,aU];repeat' (first|intro _|apply And.intro)
           all_goals first|exact True.intro|omega|with_reducible rfl|decide
         .simp only[x1,TT t X Y (.inl x1),b3d,b2n,b2E,b2v,b1y,b1s,b0X,b0U,b0W,b0V,b1g,b1h,b1m,b1t,b1b,b1N,b1d,U,aU];repeat' (first|intro _|apply And.intro)
          all_goals first|exact True.intro|omega|with_reducible rfl|decide
        .have g4:=FF t (X.a:Int) [32] (by rw[b1d];exact eD);obtain⟨q1,q2,q3⟩:=p3 eS eD;simp only[eS,eD,g3,g4,q1,q2,q3,b1y,b1s,b0X,b0U,b0W,b0V,b1g,b1h,b1m,b1t,b1b,b1N,b1d,U,aU];repeat' (first|intro _|apply And.intro)
         all_goals first|exact True.intro|omega|with_reducible rfl|decide
      .have f40:=FF t a [40] UD;obtain⟨q1,q2,q3⟩:=a9e t d a hd h0 CB E4 yn Ob UD;simp only[GU,CB,f48,E4,f49,yn,f116,Ob,f97,UD,f40,q1,q2,q3,b1y,b1s,b0X,b0U,b0W,b0V,b1g,b1h,b1m,b1t,b1b,b1N,b1d,U,aU];repeat' (first|intro _|apply And.intro)
       all_goals first|exact True.intro|omega|with_reducible rfl|decide
def xv(d:Int)(t:List UInt8)(a:Int):Nat->aM:=(λ zb=>if Nat.beq zb 0 then .mk (Nat) (λ k=>k<=nE t a) (λ k=>nE t a - k) [] [2,3] (λ k=>[(6, .aT ⟨(.int .i64),((k:Int):Int)⟩)]) [0,1,4,5,6,7,8,9,10,11,12,13,14,15,16,17,18,19,20,21,22,23,24,25,26,27,28,29,30,31,32,33,34,35,36,37,38,39,40,41] (λ k=>[(400000, .box [.aT ⟨.str,(t:List UInt8)⟩, .aT ⟨(.int .i64),(a+(k:Int):Int)⟩])]) [] [] (λ k=>λ _ => .none) else if Nat.beq zb 2 then .mk (Nat) (λ j=>j<=nE t a/\nE t a<=40) (λ j=>nE t a - j) [] [1,2,3,10,11,12,13,14,15,16,17,18,19,20,21,22] (λ j=>[(6, .aT ⟨(.int .i64),((nE t a:Int) - (j:Int):Int)⟩)]) [0,4,5,6,8,9,23,24,25,26,27,28,29,30,31,32,33,34,35,36,37,38,39,40,41,400000] (λ j=>[(7, .box [.aT ⟨(.int .i64),((bp 5 j (rE t d a).e).au:Int)⟩, .aT ⟨(.int .i64),((bp 5 j (rE t d a).e).aO:Int)⟩, .aD 7100]),(7100, .aD (.st .expr) ((bp 5 j (rE t d a).e).M:List J))]) [] [] (λ j=>λ _ => .none) else if Nat.beq zb 4 then .mk (Nat) (λ m=>m<=mE t d a/\m<=41/\nE t a<=40) (λ m=>mE t d a - m) [] [1,2,3,6,10,11,12,13,14,15,16,17,18,19,20,21,22,23,24,25,26,27,28,29] (λ m=>[(9, .aT ⟨(.int .i64),((m:Int):Int)⟩)]) [0,4,5,8,9,30,31,32,33,34,35,36,37,38,39,40,41] (λ m=>[(400000, .box [.aT ⟨.str,(t:List UInt8)⟩, .aT ⟨(.int .i64),(((rE t d a).a:Int)+(m:Int):Int)⟩]),(7, .box [.aT ⟨(.int .i64),((bp 8 m (bp 5 (nE t a) (rE t d a).e)).au:Int)⟩, .aT ⟨(.int .i64),((bp 8 m (bp 5 (nE t a) (rE t d a).e)).aO:Int)⟩, .aD 7200]),(7200, .aD (.st .expr) ((bp 8 m (bp 5 (nE t a) (rE t d a).e)).M:List J))]) [] [] (λ m=>λ _ => .none) else .none)
def Hq(n:Nat)(d:Int)(t:List UInt8)(a:Int):ck (cg [] [ke] [] [20,28,29,38,39] [] [] [] [eh,iI n]) (az ig) (xv d t a) 0 (mH (cg [] [ke] [] [20,28,29,38,39] [] [] [] [eh,iI n]) ig [[.d .str, .d (.int .i64)]] λ r ds=>bB r [⟨(.st .expr),(xE t d a).e⟩,⟨.bool,(xE t d a).ok⟩]/\oN ds [[⟨.str,t⟩,⟨(.int .i64),((xE t d a).a:Int)⟩]]) (dk ig [.box 0, .val ⟨(.int .i64),d⟩] [[.d .str, .d (.int .i64)]] [[⟨.str,t⟩,⟨(.int .i64),a⟩]]) =
 (((∃ k1:Nat,(k1<=nE t a/\((True/\(d=d/\(True/\(false=false/\((0:Int)=(k1:Int)/\True)))))/\((t=t/\(a=(a+(k1:Int))/\True))/\(((0:Int)=(0:Int)/\((0:Int)=(0:Int)/\(True/\True)))/\True)))))/\(∀ k1:Nat,(k1<=nE t a ->
 ((0<=(a+(k1:Int))/\(a+(k1:Int))<=(t.length:Int)/\t.length<=10000/\([126]).length<=10/\1<=([126]).length)/\(((dd t (a+(k1:Int)).toNat ([126]))=true ->
 (U ((k1:Int)+(1:Int))/\(∃ k2:Nat,(k2<=nE t a/\(nE t a - k2<nE t a - k1/\((True/\(d=d/\(True/\(false=false/\(((k1:Int)+(1:Int))=(k2:Int)/\True)))))/\((t=t/\((aF t (a+(k1:Int)) ([126]))=(a+(k2:Int))/\True))/\(((0:Int)=(0:Int)/\((0:Int)=(0:Int)/\(True/\True)))/\True))))))))/\((dd t (a+(k1:Int)).toNat ([126]))=false ->
 (((decide ((40:Int)<(k1:Int)))=true ->
 ((zE=((xE t d a).e)/\false=((xE t d a).ok))/\((t=t/\(aF t (a+(k1:Int)) ([126]))=((xE t d a).a:Int))/\True)))/\((decide ((40:Int)<(k1:Int)))=false ->
 ((2 * (d+1).toNat<n/\0<=(aF t (a+(k1:Int)) ([126]))/\(aF t (a+(k1:Int)) ([126]))<=(t.length:Int)/\t.length<=10000 /\ -1<=d/\d<=40)/\((∃ j2:Nat,((j2<=nE t a/\nE t a<=40)/\((True/\(True/\(false=false/\((k1:Int)=((nE t a:Int) - (j2:Int))/\(True/\(((dI t d (aF t (a+(k1:Int)) ([126]))).ok)=((dI t d (aF t (a+(k1:Int)) ([126]))).ok)/\True))))))/\((((dI t d (aF t (a+(k1:Int)) ([126]))).e).au=((bp 5 j2 (rE t d a).e).au)/\(((dI t d (aF t (a+(k1:Int)) ([126]))).e).aO=((bp 5 j2 (rE t d a).e).aO)/\(True/\True)))/\(((dI t d (aF t (a+(k1:Int)) ([126]))).e).M=((bp 5 j2 (rE t d a).e).M)/\((t=t/\((((dI t d (aF t (a+(k1:Int)) ([126]))).a:Int))=(((dI t d (aF t (a+(k1:Int)) ([126]))).a:Int))/\True))/\(((0:Int)=(0:Int)/\((0:Int)=(0:Int)/\(True/\True)))/\True)))))))/\(∀ j2:Nat,((j2<=nE t a/\nE t a<=40) ->
 (((decide ((0:Int)<((nE t a:Int) - (j2:Int))))=true ->
 (U (((nE t a:Int) - (j2:Int)) - (1:Int))/\(∃ j3:Nat,((j3<=nE t a/\nE t a<=40)/\(nE t a - j3<nE t a - j2/\((True/\(True/\(false=false/\((((nE t a:Int) - (j2:Int)) - (1:Int))=((nE t a:Int) - (j3:Int))/\(True/\(((dI t d (aF t (a+(k1:Int)) ([126]))).ok)=((dI t d (aF t (a+(k1:Int)) ([126]))).ok)/\True))))))/\(((J.mk (5:Int) 0 ([(J.mk ((bp 5 j2 (rE t d a).e).au) ((bp 5 j2 (rE t d a).e).aO) ((bp 5 j2 (rE t d a).e).M))])).au=((bp 5 j3 (rE t d a).e).au)/\((J.mk (5:Int) 0 ([(J.mk ((bp 5 j2 (rE t d a).e).au) ((bp 5 j2 (rE t d a).e).aO) ((bp 5 j2 (rE t d a).e).M))])).aO=((bp 5 j3 (rE t d a).e).aO)/\(True/\True)))/\((J.mk (5:Int) 0 ([(J.mk ((bp 5 j2 (rE t d a).e).au) ((bp 5 j2 (rE t d a).e).aO) ((bp 5 j2 (rE t d a).e).M))])).M=((bp 5 j3 (rE t d a).e).M)/\((t=t/\((((dI t d (aF t (a+(k1:Int)) ([126]))).a:Int))=(((dI t d (aF t (a+(k1:Int)) ([126]))).a:Int))/\True))/\(((0:Int)=(0:Int)/\((0:Int)=(0:Int)/\(True/\True)))/\True))))))))))/\((decide ((0:Int)<((nE t a:Int) - (j2:Int))))=false ->
 ((∃ m3:Nat,((m3<=mE t d a/\m3<=41/\nE t a<=40)/\((True/\(True/\(True/\(((dI t d (aF t (a+(k1:Int)) ([126]))).ok)=((dI t d (aF t (a+(k1:Int)) ([126]))).ok)/\((0:Int)=(m3:Int)/\True)))))/\((t=t/\((((dI t d (aF t (a+(k1:Int)) ([126]))).a:Int))=(((rE t d a).a:Int)+(m3:Int))/\True))/\((((bp 5 j2 (rE t d a).e).au)=((bp 8 m3 (bp 5 (nE t a) (rE t d a).e)).au)/\(((bp 5 j2 (rE t d a).e).aO)=((bp 8 m3 (bp 5 (nE t a) (rE t d a).e)).aO)/\(True/\True)))/\(((bp 5 j2 (rE t d a).e).M)=((bp 8 m3 (bp 5 (nE t a) (rE t d a).e)).M)/\(((0:Int)=(0:Int)/\((0:Int)=(0:Int)/\(True/\True)))/\True)))))))/\(∀ m3:Nat,((m3<=mE t d a/\m3<=41/\nE t a<=40) ->
 ((0<=(((rE t d a).a:Int)+(m3:Int))/\(((rE t d a).a:Int)+(m3:Int))<=(t.length:Int)/\t.length<=10000/\([42]).length<=10/\1<=([42]).length)/\(((dd t (((rE t d a).a:Int)+(m3:Int)).toNat ([42]))=true ->
 (((decide ((40:Int)<(m3:Int)))=true ->
 ((zE=((xE t d a).e)/\false=((xE t d a).ok))/\((t=t/\(aF t (((rE t d a).a:Int)+(m3:Int)) ([42]))=((xE t d a).a:Int))/\True)))/\((decide ((40:Int)<(m3:Int)))=false ->
 (U ((m3:Int)+(1:Int))/\(∃ m4:Nat,((m4<=mE t d a/\m4<=41/\nE t a<=40)/\(mE t d a - m4<mE t d a - m3/\((True/\(True/\(True/\(((dI t d (aF t (a+(k1:Int)) ([126]))).ok)=((dI t d (aF t (a+(k1:Int)) ([126]))).ok)/\(((m3:Int)+(1:Int))=(m4:Int)/\True)))))/\((t=t/\((aF t (((rE t d a).a:Int)+(m3:Int)) ([42]))=(((rE t d a).a:Int)+(m4:Int))/\True))/\(((J.mk (8:Int) 0 ([(J.mk ((bp 8 m3 (bp 5 (nE t a) (rE t d a).e)).au) ((bp 8 m3 (bp 5 (nE t a) (rE t d a).e)).aO) ((bp 8 m3 (bp 5 (nE t a) (rE t d a).e)).M))])).au=((bp 8 m4 (bp 5 (nE t a) (rE t d a).e)).au)/\((J.mk (8:Int) 0 ([(J.mk ((bp 8 m3 (bp 5 (nE t a) (rE t d a).e)).au) ((bp 8 m3 (bp 5 (nE t a) (rE t d a).e)).aO) ((bp 8 m3 (bp 5 (nE t a) (rE t d a).e)).M))])).aO=((bp 8 m4 (bp 5 (nE t a) (rE t d a).e)).aO)/\(True/\True)))/\((J.mk (8:Int) 0 ([(J.mk ((bp 8 m3 (bp 5 (nE t a) (rE t d a).e)).au) ((bp 8 m3 (bp 5 (nE t a) (rE t d a).e)).aO) ((bp 8 m3 (bp 5 (nE t a) (rE t d a).e)).M))])).M=((bp 8 m4 (bp 5 (nE t a) (rE t d a).e)).M)/\(((0:Int)=(0:Int)/\((0:Int)=(0:Int)/\(True/\True)))/\True))))))))))))/\((dd t (((rE t d a).a:Int)+(m3:Int)).toNat ([42]))=false ->
 (((J.mk ((bp 8 m3 (bp 5 (nE t a) (rE t d a).e)).au) ((bp 8 m3 (bp 5 (nE t a) (rE t d a).e)).aO) ((bp 8 m3 (bp 5 (nE t a) (rE t d a).e)).M))=((xE t d a).e)/\((dI t d (aF t (a+(k1:Int)) ([126]))).ok)=((xE t d a).ok))/\((t=t/\(aF t (((rE t d a).a:Int)+(m3:Int)) ([42]))=((xE t d a).a:Int))/\True))))))))))))))))))))))):=by kernel_rfl
def Hg(n:Nat)(hE:aI [])(hO:dL [ke])(hM:ed [])(hS:dP [eh,iI n]):jU.Good (iJ (n+1)):=by
 refine⟨aA l9 rfl (by decide),?_⟩;show ∀ (d:Int) (t:List UInt8) (a:Int),(2 * (d+1).toNat+1<n+1/\0<=a/\a<=(t.length:Int)/\t.length<=10000 /\ -1<=d/\d<=40)->vo prog mU [[.d .str, .d (.int .i64)]] [.box 0, .val ⟨(.int .i64),d⟩] [[⟨.str,t⟩,⟨(.int .i64),a⟩]] [⟨(.st .expr),(xE t d a).e⟩,⟨.bool,(xE t d a).ok⟩] [[⟨.str,t⟩,⟨(.int .i64),((xE t d a).a:Int)⟩]];intro d t a hp;refine jL (own:=[20,28,29,38,39]) (wr:=[]) (cl:=[]) (ro:=[]) hE hO hM hS l9 ES (xv d t a) rfl rfl ?_;rewrite [Hq n d t a];obtain⟨hm,h0,h1,h2,h3,h4⟩:=hp;have n1:=a5E t a h0 h1;have n2:=a8w t d a h0 h1;have z1:=λ k h=>a8F t a k h0 h;have z2:=λ k h=>a8E t d a k h;have c1:dI t d (a+(nE t a:Int))=rE t d a:=a5K t d a h0;simp only[b1y,b1s,b0X,b0U,b0W,b0V,b1g,b1h,b1m,b1t,b1b,b1N,b1d,U,aU];refine⟨⟨0,b2b _,by omega⟩,λ k1 hk=>⟨?_,λ e1=>?_,λ e1=>?_⟩⟩
 .repeat' (first|intro _|apply And.intro)
  all_goals first|exact True.intro|omega|with_reducible rfl|decide
 .have g:=z1 k1 hk;rw[e1] at g;have g':=b1z g.symm;rw[y7 t _ 126 e1];exact⟨by omega,k1+1,by omega,by omega,by omega,by omega⟩
 .have g:=z1 k1 hk;rw[e1] at g;have g':=b2C g.symm;have QB:k1=nE t a:=by omega
  subst QB;have f1:=FF t _ [126] e1;by_cases hn:40<nE t a
  .obtain⟨x1,x2,x3⟩:=a6e t d a h0 hn;simp only[f1,(b1A (by omega):decide ((40:Int)<(nE t a:Int))=true),x1,x2,x3,b1y,b1s,b0X,b0U,b0W,b0V,b1g,b1h,b1m,b1t,b1b,b1N,b1d,U,aU];repeat' (first|intro _|apply And.intro)
   all_goals first|exact True.intro|omega|with_reducible rfl|decide
  .simp only[f1,c1,(b1a (by omega):decide ((40:Int)<(nE t a:Int))=false),b1y,b1s,b0X,b0U,b0W,b0V,b1g,b1h,b1m,b1t,b1b,b1N,b1d,U,aU];refine⟨by omega,⟨0,⟨b2b _,by omega⟩,by omega,⟨rfl,rfl⟩,rfl⟩,λ j2 hj=>⟨λ e2=>?_,λ e2=>?_⟩⟩
   .have e2':=b1z e2;exact⟨by omega,j2+1,⟨by omega,by omega⟩,by omega,by omega,⟨by rw[fi],by rw[fi]⟩,by rw[fi,J.eta]⟩
   .have e2':=b2C e2;have hj2:j2=nE t a:=by omega
    subst hj2;refine⟨⟨0,⟨b2b _,by omega,by omega⟩,rfl,by omega,⟨rfl,rfl⟩,rfl⟩,λ m3 hm3=>⟨⟨by omega,by omega,by omega,by decide,by decide⟩,λ e3=>⟨λ e4=>?_,λ e4=>?_⟩,λ e3=>?_⟩⟩
    .have g3:=z2 m3 hm3.1;rw[e3] at g3;have g3':=b1z g3.symm;have e4':=b1z e4;obtain⟨x1,x2,x3⟩:=a4e t d a hn (by omega);rw[y7 t _ 42 e3,x1,x2,x3];exact⟨⟨rfl,rfl⟩,by omega⟩
    .have g3:=z2 m3 hm3.1;rw[e3] at g3;have g3':=b1z g3.symm;have e4':=b2C e4;rw[y7 t _ 42 e3];exact⟨by omega,m3+1,⟨by omega,by omega,by omega⟩,by omega,by omega,by omega,⟨by rw[fi],by rw[fi]⟩,by rw[fi,J.eta]⟩
    .have g3:=z2 m3 hm3.1;rw[e3] at g3;have g3':=b2C g3.symm;have hm:m3=mE t d a:=by omega
     subst hm;obtain⟨x1,x2,x3⟩:=a6d t d a hn (by omega);rw[FF t _ _ e3,x1,x2,x3,J.eta];exact⟨⟨rfl,rfl⟩,rfl⟩
def Xg:∀ n,dP [iI n,iJ n]
 | 0=>⟨⟨aA qt rfl (by decide),λ _ _ _ h=>absurd h.1 (b1H _)⟩,⟨aA l9 rfl (by decide),λ _ _ _ h=>absurd h.1 (b1H _)⟩,af⟩
 | n+1=>by
  have ih:=Xg n;exact⟨Hf n trivial ⟨QP,Ev,af⟩ trivial ⟨ug,C4,ih.2.1,af⟩,Hg n trivial ⟨Ev,af⟩ trivial ⟨ug,ih.1,af⟩,af⟩
def Ez:jU.Good mB :=
 ⟨aA l9 rfl (by decide),λ d t a hp=>(Xg (2 * (d+1).toNat+1+1)).2.1.2 d t a (⟨b1D _,hp⟩)⟩
end
end Go.Proofs.YtmjfpcajohhbeaaGreatDoor

/- VmLib, VmShelf3, VmExpr, VmExpr2, VmShaped, VmTruth, VmValid, VmCut, VmBw, VmShelf, VmWe, VmText, VmShelf2, VmSplit, VmWord, VmWord2, VmRExpr, VmRExpr2, VmSz, VmBld, VmRdm, VmRds, VmRdx, VmEqn, VmTo, VmEq, VmOwnFam. -/
import Derived.Test.YtlpndogmpcolnaaGreatDoorVmRow
import Derived.Shelf.Strings.Builder1
import Derived.Shelf.Small.Bits
import Derived.Shelf.Small.Strs
import Derived.Shelf.Strings.BuilderF
import Derived.Shelf.Strings.BuilderK
import Derived.Shelf.Strconv.Itoa0
import Derived.Shelf.Strconv.Itoa1
import Derived.Shelf.LaysM
import Derived.Shelf.Strconv.Itoa2
import Derived.Shelf.Strconv.Itoa3
import Derived.Shelf.Strconv.Itoa4
import Derived.Shelf.Strings.Search1
import Derived.Shelf.Strings.Search2
import Derived.Shelf.Strings.Cut
import Derived.Shelf.Strings.Shaped
import Derived.Shelf.Strings.Prefix
import Derived.Shelf.Strings.BuilderCap
import Derived.Ground.SlgnProg
import Derived.Shelf.SlicesG.Reverse
import Derived.Shelf.SlicesG.Cells
import Derived.Shelf.SlicesE.Reverse
import Derived.Test.YtlpndogmpcolnaaGreatDoorProg
import Derived.WalkKit
import Derived.Lib.Builder
import Derived.Lib.AppendStr
import Derived.Lib.UnsafeStr
import Derived.Lib.Walk
import Derived.Lib.Strings
import Derived.Lib.Slices
import Derived.Lib.MakeNoZero
import Derived.Laws.Externs
import Derived.Laws.IdiomCopy
import Derived.BigCall
import Derived.OwnWalk
set_option linter.all false
set_option maxHeartbeats 4000000
set_option maxRecDepth 4000
namespace Go.Proofs.YtlpndogmpcolnaaGreatDoor
def b9Q:=@Bool.and_assoc
def b6g:=@Nat.lt_succ_self
def b9f:=@Int.fdiv_eq_ediv_of_nonneg
def b6A:=@Bool.not_eq_false'
def c0h:=@Go.Lib.size_eq
def b7H:=@Go.Lib.alloc_old
def b9J:=@Go.Oper.upon_value
def b9q:=@Go.RowKit.Below.refl
def b8D:=@Go.Lib.cell_of_heap
def b9N:=@Nat.le_succ
def b7U:=@Bool.and_eq_false_iff
def b6I:=@decide_eq_true
def b9c:=@UInt8.toNat_ofNat'
def b8G:=@List.drop_succ_cons
def b6u:=@decide_true
def b9g:=@Bool.and_self
def b9d:=@cond_true
def b6r:=@decide_false
def b5V:=@Bool.true_eq_false
def b6b:=@not_true_eq_false
def b6c:=@not_false_eq_true
def b6m:=@false_implies
def b6s:=@true_implies
def b6f:=@decide_eq_false
def b6h:=@Bool.eq_false_or_eq_true
def b7I:=@Bool.and_true
def b8x:=@Bool.and_false
def b8b:=@Bool.false_and
def b9r:=@cond_false
def dy{α:Type}(f:α->Nat):List α->Nat
 | []=>0
 | x::xs=>f x+dy f xs
section
variable {α:Type} (f:α->Nat)
theorem ri(d:α):∀ (xs:List α) (k:Nat),k<xs.length->dy f (xs.take (k+1))=dy f (xs.take k)+f (xs.getD k d)
 | [],k,h=>by simp at h
 | x::xs,0,h=>by simp[dy]
 | x::xs,k+1,h=>by
  have:=ri d xs k (by simpa using h);simp[dy] at this ⊢;omega
theorem gj:∀ (xs:List α) (k:Nat),dy f (xs.take k)<=dy f xs
 | [],k=>by simp
 | x::xs,0=>by simp[dy]
 | x::xs,k+1=>by
  have:=gj xs k;simp[dy];omega
theorem Bq(xs:List α)(k:Nat):xs.length<=k->dy f (xs.take k)=dy f xs:=λ h=>by rw[b6J h]
theorem Nu(xs:List α):dy f (xs.take 0)=0:=by simp[dy]
theorem UN(d:α):∀ (xs:List α) (k:Nat),k<xs.length->f (xs.getD k d)<=dy f xs
 | [],k,h=>by simp at h
 | x::xs,0,h=>by simp[dy]
 | x::xs,k+1,h=>by
  have:=UN d xs k (by simpa using h);simp[dy] at this ⊢;omega
end
def Hj(t:Nat)(left:Int):Int:=if (t:Int)<=left then left - t else -1
theorem Gx(t:Nat)(left:Int):((t:Int)<=left/\Hj t left=left - t)\/(left<(t:Int)/\Hj t left = -1):=by
 unfold Hj;split
 .exact .inl ⟨by assumption,rfl⟩
 .exact .inr ⟨by omega,rfl⟩
noncomputable def ke{α:Type}(a b:α):Bool := @decide (a=b) (Classical.propDecidable _)
@[simp] theorem Av{α:Type}{a b:α}:ke a b=true↔a=b:=by simp[ke]
@[simp] theorem T3{α:Type}{a b:α}:ke a b=false↔a≠b:=by simp[ke]
@[simp] theorem b2n{α:Type}{a:α}:ke a a=true:=by simp[ke]
section
variable {α:Type}
theorem gL(d:α):∀ (xs:List α) (k:Nat),k<xs.length->xs.take (k+1)=xs.take k++[xs.getD k d]
 | [],k,h=>by simp at h
 | x::xs,0,h=>by simp
 | x::xs,k+1,h=>by
  have:=gL d xs k (by simpa using h);simp at this ⊢;exact this
theorem CL(d:α)(xs ys:List α)(k:Nat)(h1:k<xs.length)(h2:k<ys.length)(h:xs.take k=ys.take k)(e:xs.getD k d=ys.getD k d):xs.take (k+1)=ys.take (k+1):=by
 rw[gL d xs k h1,gL d ys k h2,h,e]
theorem pM(xs ys:List α)(k:Nat)(h1:xs.length<=k)(h2:ys.length<=k)(h:xs.take k=ys.take k):xs=ys:=by
 rwa [b6J h1,b6J h2] at h
def fill(xs:List α)(k:Nat)(z:α):List α:=xs.take k++List.replicate (xs.length - k) z
end
def iw{α:Type}(f:α->Nat):List α->Nat
 | []=>0
 | x::xs=>max (f x) (iw f xs)
section
variable {α:Type} (f:α->Nat)
theorem qM(d:α):∀ (xs:List α) (k:Nat),k<xs.length->iw f (xs.take (k+1))=max (iw f (xs.take k)) (f (xs.getD k d))
 | [],k,h=>by simp at h
 | x::xs,0,h=>by simp[iw]
 | x::xs,k+1,h=>by
  have:=qM d xs k (by simpa using h);simp[iw] at this ⊢;omega
theorem iE:∀ (xs:List α) (k:Nat),iw f (xs.take k)<=iw f xs
 | [],k=>by simp
 | x::xs,0=>by simp[iw]
 | x::xs,k+1=>by
  have:=iE xs k;simp[iw];omega
theorem A1(xs:List α)(k:Nat):xs.length<=k->iw f (xs.take k)=iw f xs:=λ h=>by rw[b6J h]
theorem RA(xs:List α):iw f (xs.take 0)=0:=by simp[iw]
theorem qL(d:α):∀ (xs:List α) (k:Nat),k<xs.length->f (xs.getD k d)<=iw f xs
 | [],k,h=>by simp at h
 | x::xs,0,h=>by simp[iw];omega
 | x::xs,k+1,h=>by
  have:=qL d xs k (by simpa using h);simp[iw] at this ⊢;omega
end
def bH{α:Type}(f:α->Bool):List α->Bool
 | []=>true
 | x::xs=>f x&&bH f xs
section
variable {α:Type} (f:α->Bool)
theorem Bx:∀ (xs ys:List α),bH f (xs++ys)=(bH f xs&&bH f ys)
 | [],ys=>by simp[bH]
 | x::xs,ys=>by simp[bH,Bx xs ys,b9Q]
theorem dM(d:α)(xs:List α)(k:Nat)(h:k<xs.length):bH f (xs.take (k+1))=(bH f (xs.take k)&&f (xs.getD k d)):=by
 rw[gL d xs k h,Bx];simp[bH]
theorem eK(d:α):∀ (xs:List α) (k:Nat),k<xs.length->f (xs.getD k d)=false->bH f xs=false
 | [],k,h,_=>by simp at h
 | x::xs,0,h,e=>by simp at e;simp[bH,e]
 | x::xs,k+1,h,e=>by
  have:=eK d xs k (by simpa using h) (by simpa using e);simp[bH,this]
theorem eE(xs:List α)(k:Nat):xs.length<=k->bH f (xs.take k)=bH f xs:=λ h=>by rw[b6J h]
theorem all_zero(xs:List α):bH f (xs.take 0)=true:=by simp[bH]
theorem zW(d:α):∀ (xs:List α) (k:Nat),k<xs.length->bH f xs=true->f (xs.getD k d)=true
 | [],k,h,_=>by simp at h
 | x::xs,0,h,e=>by simp[bH] at e;simp[e.1]
 | x::xs,k+1,h,e=>by
  simp only[bH,Bool.and_eq_true] at e;have:=zW d xs k (by simpa using h) e.2;simpa using this
end
end Go.Proofs.YtlpndogmpcolnaaGreatDoor

namespace Go.Proofs
open Go.Shelf
def Tryz.Wc:Go.Shelf.Ren:=⟨λ|145=>30|220=>45|219=>60|217=>79|225=>80|224=>81|267=>82|266=>95|314=>96|n=>n,λ|9=>9|4=>4|59=>66|3=>3|5=>5|46=>101|146=>158|51=>157|n=>n,λ|1=>0|n=>n⟩
def Tryz.a5b:Go.Proofs.Lays.n145 Tryz.prog Tryz.Wc:={
 mixed:=by kernel_rfl
 f145:=Tryz.func30.trans (congrArg some (by kernel_rfl))
 f217:=Tryz.func79.trans (congrArg some (by kernel_rfl))
 f219:=Tryz.func60.trans (congrArg some (by kernel_rfl))
 f220:=Tryz.func45.trans (congrArg some (by kernel_rfl))
 f224:=Tryz.func81.trans (congrArg some (by kernel_rfl))
 f225:=Tryz.func80.trans (congrArg some (by kernel_rfl))
 f266:=Tryz.func95.trans (congrArg some (by kernel_rfl))
 f267:=Tryz.func82.trans (congrArg some (by kernel_rfl))
 f314:=Tryz.func96.trans (congrArg some (by kernel_rfl))
 t3:=Tryz.underlying3
 a3:=Tryz.isAgg3
 z3:=Tryz.sizeOf3
 v3:=Tryz.zeroValue3
 t4:=Tryz.underlying4
 a4:=Tryz.isAgg4
 z4:=Tryz.sizeOf4
 v4:=Tryz.zeroValue4
 t5:=Tryz.underlying5
 a5:=Tryz.isAgg5
 z5:=Tryz.sizeOf5
 v5:=Tryz.zeroValue5
 t9:=Tryz.underlying9
 a9:=Tryz.isAgg9
 z9:=Tryz.sizeOf9
 v9:=Tryz.zeroValue9
 t46:=Tryz.underlying101
 a46:=Tryz.isAgg101
 z46:=Tryz.sizeOf101
 v46:=Tryz.zeroValue101
 t51:=Tryz.underlying157
 a51:=Tryz.isAgg157
 z51:=Tryz.sizeOf157
 v51:=Tryz.zeroValue157
 t59:=Tryz.underlying66
 a59:=Tryz.isAgg66
 z59:=Tryz.sizeOf66
 v59:=Tryz.zeroValue66
 t146:=Tryz.underlying158
 a146:=Tryz.isAgg158
 z146:=Tryz.sizeOf158
 v146:=Tryz.zeroValue158
 g1:=by kernel_rfl }
open Go.RowKit Go.Lib in
def Tryz.strings_Cut(s sep:ByteArray)(m:Int)(w:World)(hs:s.size<4294967281)(hm:w.cell? ⟨0,0,none⟩=some (.int .i64 m)) :
  Calls Tryz.prog 30 #[.string s, .string sep] w λ e w'=>e = .returned (.tuple #[.string ⟨(Lib.cut s.data.toList sep.data.toList).1.toArray⟩, .string ⟨(Lib.cut s.data.toList sep.data.toList).2.1.toArray⟩, .bool (Lib.cut s.data.toList sep.data.toList).2.2])/\∃ n,w'=w.drewN n:=Any.strings_Cut Tryz.a5b s sep m w hs hm
end Go.Proofs

namespace Go.Proofs.YtlpndogmpcolnaaGreatDoor
noncomputable section
mutual
def au:J->Nat
 | ⟨_,_,ks⟩=>1+gI ks
def gI:List J->Nat
 | []=>0
 | k::ks=>au k+gI ks
end
def Oe:∀ xs,gI xs=dy au xs
 | []=>rfl
 | x::xs=>by rw[gI,dy,Oe xs]
def lM(x:J):au x=1+dy au x.U:=by
 cases x;simp[au,Oe]
mutual
def bm:J->Nat
 | ⟨_,_,ks⟩=>1+lj ks
def lj:List J->Nat
 | []=>0
 | k::ks=>max (bm k) (lj ks)
end
def NU:∀ xs,lj xs=iw bm xs
 | []=>rfl
 | x::xs=>by rw[lj,iw,NU xs]
def gE(x:J):bm x=1+iw bm x.U:=by
 cases x;simp[bm,NU]
mutual
def Kb:∀ x:J,bm x<=au x
 | ⟨k,n,ks⟩=>by
  have:=Hs ks;simp only[bm,au];omega
def Hs:∀ xs:List J,lj xs<=gI xs
 | []=>by simp[lj]
 | x::xs=>by
  have h1:=Kb x;have h2:=Hs xs;simp only[lj,gI];omega
end
def tg(k:Int):Bool:=decide (k=1)||decide (k=2)||decide (k=3)||decide (k=5)||decide (k=6)||decide (k=7)
mutual
def bj:J->Bool
 | ⟨k,_,ks⟩=>tg k&&BU ks
def BU:List J->Bool
 | []=>true
 | k::ks=>bj k&&BU ks
end
def Qq:∀ xs,BU xs=bH bj xs
 | []=>rfl
 | x::xs=>by rw[BU,bH,Qq xs]
def oi(x:J):bj x=(tg x.aj&&bH bj x.U):=by
 cases x;simp[bj,Qq]
def cm(k:Int):Int:=if k=1\/k=2\/k=3\/k=4 then 0 else if k=5\/k=8 then 1 else if k=6\/k=7 then 2 else -1
def pj:bc:=⟨FC,[.v (.int .i64), .v (.int .i64), .v (.int .i64)],λ (n:Int) (least:Int) (most:Int)=>⟨(none,[⟨.bool,decide (least<=n/\n<=most)⟩])⟩⟩
def Rm(n:Int)(least:Int)(most:Int):Nat->aI:=cf
def x7:bc.Good pj:=by
 refine⟨aG CV,?_⟩;intro (n:Int) (least:Int) (most:Int) _;refine bo [] [] [] [] trivial CV JZ (Rm n least most) (let v0:=decide (least<=n/\n<=most);((((decide (least<=n))=true->((decide (n<=most))=v0))/\((decide (least<=n))=(!true)->(false=v0))))) ?_;refine⟨λ _=>?_,λ _=>?_⟩;all_goals try and_intros
 all_goals first|rfl|trivial|(simp_all;done)|(simp_all;omega)
def kr:bc:=⟨HQ,[.v (.int .i64), .v (.int .i64), .v (.int .i64)],λ (n:Int) (low:Int) (high:Int)=>⟨(none,[⟨.bool,decide (low<=n/\n<=high)⟩])⟩⟩
def S9(n:Int)(low:Int)(high:Int):Nat->aI:=cf
def qB:bc.Good kr:=by
 refine⟨aG Em,?_⟩;intro (n:Int) (low:Int) (high:Int) _;refine bo [] [] [] [] trivial Em L7 (S9 n low high) (let v0:=decide (low<=n/\n<=high);((((decide (low<=n))=true->((decide (n<=high))=v0))/\((decide (low<=n))=(!true)->(false=v0))))) ?_;refine⟨λ _=>?_,λ _=>?_⟩;all_goals try and_intros
 all_goals first|rfl|trivial|(simp_all;done)|(simp_all;omega)
def lG:bc:=⟨FF,[.v (.int .i64), .v (.int .i64)],λ (a:Int) (b:Int)=>⟨(none,[⟨(.int .i64),max a b⟩])⟩⟩
def Ro(a:Int)(b:Int):Nat->aI:=cf
def x8:bc.Good lG:=by
 refine⟨aG CY,?_⟩;intro (a:Int) (b:Int) _;refine bo [] [] [] [] trivial CY J2 (Ro a b) ((((decide (b<a))=true->a=(max a b))/\((decide (b<a))=false->b=(max a b)))) ?_;refine⟨λ _=>?_,λ _=>?_⟩;all_goals try and_intros
 all_goals first|rfl|trivial|(simp_all;omega)
def wN:bc:=⟨Fz,[.v (.int .i64)],λ (k:Int)=>⟨(none,[⟨(.int .i64),cm k⟩])⟩⟩
def Rj(k:Int):Nat->aI:=cf
abbrev AM(k:Int):Prop:=(let v0:=decide (k=(6:Int));((v0=true ->
 ((v0=true ->
 (2:Int)=(cm k))/\(v0=false ->
 (-1:Int)=(cm k))))/\(v0=false ->
 (((decide (k=(7:Int)))=true ->
 (2:Int)=(cm k))/\((decide (k=(7:Int)))=false ->
 (-1:Int)=(cm k))))))
abbrev MF(k:Int):Prop:=(let v0:=decide (k=(5:Int));((v0=true ->
 ((v0=true ->
 (1:Int)=(cm k))/\(v0=false ->
 (AM k))))/\(v0=false ->
 (((decide (k=(8:Int)))=true ->
 (1:Int)=(cm k))/\((decide (k=(8:Int)))=false ->
 (AM k))))))
def Ks:bc.Good wN:=by
 refine⟨aG CT,?_⟩;intro (k:Int) _;refine bo [] [] [] [] trivial CT JW (Rj k) (let v0:=decide (k=(1:Int));let v1:=decide (k=(2:Int));let v2:=decide (k=(3:Int));let v3:=MF k;(((v0=true->((v0=true->(0:Int)=(cm k))/\(v0=false->v3)))/\(v0=false->((v1=true->((v1=true->(0:Int)=(cm k))/\(v1=false->v3)))/\(v1=false->((v2=true->((v2=true->(0:Int)=(cm k))/\(v2=false->v3)))/\(v2=false->(((decide (k=(4:Int)))=true->(0:Int)=(cm k))/\((decide (k=(4:Int)))=false->v3)))))))))) ?_;refine⟨λ _=>⟨λ _=>?_,λ _=>⟨λ _=>⟨λ _=>?_,λ _=>⟨λ _=>⟨λ _=>?_,λ _=>?_⟩,λ _=>⟨λ _=>?_,λ _=>?_⟩⟩⟩,λ _=>⟨λ _=>?_,λ _=>⟨λ _=>⟨λ _=>?_,λ _=>?_⟩,λ _=>⟨λ _=>?_,λ _=>?_⟩⟩⟩⟩⟩,λ _=>⟨λ _=>⟨λ _=>?_,λ _=>⟨λ _=>⟨λ _=>?_,λ _=>⟨λ _=>⟨λ _=>?_,λ _=>?_⟩,λ _=>⟨λ _=>?_,λ _=>?_⟩⟩⟩,λ _=>⟨λ _=>?_,λ _=>⟨λ _=>⟨λ _=>?_,λ _=>?_⟩,λ _=>⟨λ _=>?_,λ _=>?_⟩⟩⟩⟩⟩,λ _=>⟨λ _=>⟨λ _=>?_,λ _=>⟨λ _=>⟨λ _=>?_,λ _=>⟨λ _=>⟨λ _=>?_,λ _=>?_⟩,λ _=>⟨λ _=>?_,λ _=>?_⟩⟩⟩,λ _=>⟨λ _=>?_,λ _=>⟨λ _=>⟨λ _=>?_,λ _=>?_⟩,λ _=>⟨λ _=>?_,λ _=>?_⟩⟩⟩⟩⟩,λ _=>⟨λ _=>?_,λ _=>⟨λ _=>⟨λ _=>?_,λ _=>⟨λ _=>⟨λ _=>?_,λ _=>?_⟩,λ _=>⟨λ _=>?_,λ _=>?_⟩⟩⟩,λ _=>⟨λ _=>?_,λ _=>⟨λ _=>⟨λ _=>?_,λ _=>?_⟩,λ _=>⟨λ _=>?_,λ _=>?_⟩⟩⟩⟩⟩⟩⟩⟩;all_goals try and_intros
 all_goals first|rfl|trivial|(simp only[decide_eq_true_eq,decide_eq_false_iff_not] at *;simp[cm, *];done)|(simp only[decide_eq_true_eq,decide_eq_false_iff_not] at *;unfold cm;repeat (first|omega|split))
def tR:bc:=⟨Dz,[.v (.int .i64)],λ (k:Int)=>⟨(none,[⟨(.int .i64),cm k⟩])⟩⟩
def O0(k:Int):Nat->aI:=cf
abbrev yl(k:Int):Prop:=(let v0:=decide (k=(6:Int));((v0=true ->
 ((v0=true ->
 (2:Int)=(cm k))/\(v0=false ->
 (-1:Int)=(cm k))))/\(v0=false ->
 (((decide (k=(7:Int)))=true ->
 (2:Int)=(cm k))/\((decide (k=(7:Int)))=false ->
 (-1:Int)=(cm k))))))
abbrev KS(k:Int):Prop:=(let v0:=decide (k=(5:Int));((v0=true ->
 ((v0=true ->
 (1:Int)=(cm k))/\(v0=false ->
 (yl k))))/\(v0=false ->
 (((decide (k=(8:Int)))=true ->
 (1:Int)=(cm k))/\((decide (k=(8:Int)))=false ->
 (yl k))))))
def IH:bc.Good tR:=by
 refine⟨aG Ad,?_⟩;intro (k:Int) _;refine bo [] [] [] [] trivial Ad Ij (O0 k) (let v0:=decide (k=(1:Int));let v1:=decide (k=(2:Int));let v2:=decide (k=(3:Int));let v3:=KS k;(((v0=true->((v0=true->(0:Int)=(cm k))/\(v0=false->v3)))/\(v0=false->((v1=true->((v1=true->(0:Int)=(cm k))/\(v1=false->v3)))/\(v1=false->((v2=true->((v2=true->(0:Int)=(cm k))/\(v2=false->v3)))/\(v2=false->(((decide (k=(4:Int)))=true->(0:Int)=(cm k))/\((decide (k=(4:Int)))=false->v3)))))))))) ?_;refine⟨λ _=>⟨λ _=>?_,λ _=>⟨λ _=>⟨λ _=>?_,λ _=>⟨λ _=>⟨λ _=>?_,λ _=>?_⟩,λ _=>⟨λ _=>?_,λ _=>?_⟩⟩⟩,λ _=>⟨λ _=>?_,λ _=>⟨λ _=>⟨λ _=>?_,λ _=>?_⟩,λ _=>⟨λ _=>?_,λ _=>?_⟩⟩⟩⟩⟩,λ _=>⟨λ _=>⟨λ _=>?_,λ _=>⟨λ _=>⟨λ _=>?_,λ _=>⟨λ _=>⟨λ _=>?_,λ _=>?_⟩,λ _=>⟨λ _=>?_,λ _=>?_⟩⟩⟩,λ _=>⟨λ _=>?_,λ _=>⟨λ _=>⟨λ _=>?_,λ _=>?_⟩,λ _=>⟨λ _=>?_,λ _=>?_⟩⟩⟩⟩⟩,λ _=>⟨λ _=>⟨λ _=>?_,λ _=>⟨λ _=>⟨λ _=>?_,λ _=>⟨λ _=>⟨λ _=>?_,λ _=>?_⟩,λ _=>⟨λ _=>?_,λ _=>?_⟩⟩⟩,λ _=>⟨λ _=>?_,λ _=>⟨λ _=>⟨λ _=>?_,λ _=>?_⟩,λ _=>⟨λ _=>?_,λ _=>?_⟩⟩⟩⟩⟩,λ _=>⟨λ _=>?_,λ _=>⟨λ _=>⟨λ _=>?_,λ _=>⟨λ _=>⟨λ _=>?_,λ _=>?_⟩,λ _=>⟨λ _=>?_,λ _=>?_⟩⟩⟩,λ _=>⟨λ _=>?_,λ _=>⟨λ _=>⟨λ _=>?_,λ _=>?_⟩,λ _=>⟨λ _=>?_,λ _=>?_⟩⟩⟩⟩⟩⟩⟩⟩;all_goals try and_intros
 all_goals first|rfl|trivial|(simp only[decide_eq_true_eq,decide_eq_false_iff_not] at *;simp[cm, *];done)|(simp only[decide_eq_true_eq,decide_eq_false_iff_not] at *;unfold cm;repeat (first|omega|split))
def iv(n:Nat):bc:=⟨mY,[.v (.st .expr)],λ (x:J)=>⟨(some (bG x<n),[⟨.bool,bj x⟩])⟩⟩
def fY:bc:=⟨mY,[.v (.st .expr)],λ (x:J)=>⟨(none,[⟨.bool,bj x⟩])⟩⟩
def G9(x:J):Nat->aI:=(fu 1 (.b (Nat) (λ k=>k<=x.U.length/\bH bj (x.U.take k)=true) (λ k=>x.U.length - k) [0,1,5,6,7,8,9,10,11,12,13,14] (λ k=>[(17, .aO ⟨(.int .i64),((k:Int):Int)⟩)])) cf)
abbrev D2(n:Nat)(x:J):Prop:=(let v0:=(x.U.length:Int);(x.U.length<=140737488355328 ->
 (ag v0 ->
 ((∃ k1:Nat,((k1<=x.U.length/\bH bj (x.U.take k1)=true)/\((x.U=x.U/\(v0=v0/\((0:Int)=(k1:Int)/\True)))/\True)))/\(∀ k1:Nat,let v1:=aV (x.U.getD k1 zE);((k1<=x.U.length/\bH bj (x.U.take k1)=true) ->
 (((decide ((k1:Int)<v0))=true ->
 (aJ (k1:Int) x.U.length/\(bG v1<n/\(((!(bj v1))=true ->
 false=(bj x))/\((!(bj v1))=false ->
 (ag ((k1:Int)+(1:Int))/\(∃ k2:Nat,((k2<=x.U.length/\bH bj (x.U.take k2)=true)/\(x.U.length - k2<x.U.length - k1/\((x.U=x.U/\(v0=v0/\(((k1:Int)+(1:Int))=(k2:Int)/\True)))/\True))))))))))/\((decide ((k1:Int)<v0))=false ->
 true=(bj x)))))))))
def FT(n:Nat)(hE:bu [iv n]):bc.Good (iv (n+1)):=by
 refine⟨aG ie,?_⟩;intro (x:J) (hp:bG x<n+1);refine bo [iv n] [] [] [1] hE ie BD (G9 x) (let v0:=D2 n x;let v1:=decide (x.aj=(1:Int));let v2:=decide (x.aj=(2:Int));let v3:=decide (x.aj=(3:Int));let v4:=decide (x.aj=(5:Int));let v5:=decide (x.aj=(6:Int));let v6:=bj x;((ag x.aj->((v1=true->((v1=true->v0)/\(v1=false->false=v6)))/\(v1=false->((v2=true->((v2=true->v0)/\(v2=false->false=v6)))/\(v2=false->((v3=true->((v3=true->v0)/\(v3=false->false=v6)))/\(v3=false->((v4=true->((v4=true->v0)/\(v4=false->false=v6)))/\(v4=false->((v5=true->((v5=true->v0)/\(v5=false->false=v6)))/\(v5=false->(((decide (x.aj=(7:Int)))=true->v0)/\((decide (x.aj=(7:Int)))=false->false=v6))))))))))))))) ?_;have f0:=fh x;have f1:=all_zero bj x.U;refine λ _=>⟨λ _=>⟨λ _ _ _=>⟨⟨0,?_,⟨rfl,rfl,?_,af⟩,af⟩,λ k1 _=>have b2C:=dM bj zE x.U k1;have b2D:=eK bj zE x.U k1;have b2E:=eE bj x.U k1;have b5h:=cz zE x.U k1;⟨λ _=>⟨?_,?_,λ _=>?_,λ _=>⟨?_,k1+1,?_,?_,⟨rfl,rfl,?_,af⟩,af⟩⟩,λ _=>?_⟩⟩,λ _=>?_⟩,λ _=>⟨λ _=>⟨λ _ _ _=>⟨⟨0,?_,⟨rfl,rfl,?_,af⟩,af⟩,λ k1 _=>have b5i:=dM bj zE x.U k1;have b5j:=eK bj zE x.U k1;have b5k:=eE bj x.U k1;have b5l:=cz zE x.U k1;⟨λ _=>⟨?_,?_,λ _=>?_,λ _=>⟨?_,k1+1,?_,?_,⟨rfl,rfl,?_,af⟩,af⟩⟩,λ _=>?_⟩⟩,λ _=>?_⟩,λ _=>⟨λ _=>⟨λ _ _ _=>⟨⟨0,?_,⟨rfl,rfl,?_,af⟩,af⟩,λ k1 _=>have a3O:=dM bj zE x.U k1;have a3P:=eK bj zE x.U k1;have a3Q:=eE bj x.U k1;have a8V:=cz zE x.U k1;⟨λ _=>⟨?_,?_,λ _=>?_,λ _=>⟨?_,k1+1,?_,?_,⟨rfl,rfl,?_,af⟩,af⟩⟩,λ _=>?_⟩⟩,λ _=>?_⟩,λ _=>⟨λ _=>⟨λ _ _ _=>⟨⟨0,?_,⟨rfl,rfl,?_,af⟩,af⟩,λ k1 _=>have b5m:=dM bj zE x.U k1;have b5n:=eK bj zE x.U k1;have b5o:=eE bj x.U k1;have b5p:=cz zE x.U k1;⟨λ _=>⟨?_,?_,λ _=>?_,λ _=>⟨?_,k1+1,?_,?_,⟨rfl,rfl,?_,af⟩,af⟩⟩,λ _=>?_⟩⟩,λ _=>?_⟩,λ _=>⟨λ _=>⟨λ _ _ _=>⟨⟨0,?_,⟨rfl,rfl,?_,af⟩,af⟩,λ k1 _=>have a8W:=dM bj zE x.U k1;have a8X:=eK bj zE x.U k1;have a8Y:=eE bj x.U k1;have b2L:=cz zE x.U k1;⟨λ _=>⟨?_,?_,λ _=>?_,λ _=>⟨?_,k1+1,?_,?_,⟨rfl,rfl,?_,af⟩,af⟩⟩,λ _=>?_⟩⟩,λ _=>?_⟩,λ _=>⟨λ _ _ _=>⟨⟨0,?_,⟨rfl,rfl,?_,af⟩,af⟩,λ k1 _=>have a8W:=dM bj zE x.U k1;have a8X:=eK bj zE x.U k1;have a8Y:=eE bj x.U k1;have b2L:=cz zE x.U k1;⟨λ _=>⟨?_,?_,λ _=>?_,λ _=>⟨?_,k1+1,?_,?_,⟨rfl,rfl,?_,af⟩,af⟩⟩,λ _=>?_⟩⟩,λ _=>?_⟩⟩⟩⟩⟩⟩;all_goals try and_intros
 all_goals try (first|with_reducible rfl|with_reducible assumption)
 all_goals try simp only[J.eta,aE.eta,aQ,bq] at *
 all_goals try rw[oi x]
 all_goals first|rfl|trivial|(simp only[b5K,b5L,aJ,ag] at *;omega)|(simp_all [tg];done)|(simp_all [tg,aJ,ag];omega)
def NB :∀ n,bu [iv n]
 | 0=>⟨⟨aG ie,λ _ h=>absurd h (b6H _)⟩,af⟩
 | n+1=>by
  have ih:=NB  n;exact⟨FT n ⟨ih.1,af⟩,af⟩
def jN :bc.Good fY :=
 ⟨aG ie,λ x hp=>(NB  (bG x+1)).1.2 x (b6g _)⟩
def gQ(n:Nat):bc:=⟨lL,[.r (.st .expr)],λ (x:J)=>⟨(some (bG x<n),[⟨.bool,bj x⟩])⟩⟩
def lH:bc:=⟨lL,[.r (.st .expr)],λ (x:J)=>⟨(none,[⟨.bool,bj x⟩])⟩⟩
def Fg(x:J):Nat->aI:=(fu 0 (.b (Nat) (λ k=>k<=x.U.length/\bH bj (x.U.take k)=true) (λ k=>x.U.length - k) [4,5,6,7,8,9,10,11,12,13,14,15,16] (λ k=>[(3, .aO ⟨(.int .i64),((k:Int):Int)⟩)])) cf)
abbrev pg(n:Nat)(x:J):Prop:=(let v0:=(x.U.length:Int);((∃ k1:Nat,((k1<=x.U.length/\bH bj (x.U.take k1)=true)/\((x=x/\((0:Int)=(k1:Int)/\True))/\True)))/\(∀ k1:Nat,let v1:=x.U.getD k1 zE;((k1<=x.U.length/\bH bj (x.U.take k1)=true) ->
 (x.U.length<=140737488355328 ->
 (ag v0 ->
 (((decide ((k1:Int)<v0))=true ->
 (x.U.length<=140737488355328 ->
 (aJ (k1:Int) x.U.length/\(bG v1<n/\(((!(bj v1))=true ->
 false=(bj x))/\((!(bj v1))=false ->
 (ag ((k1:Int)+(1:Int))/\(∃ k2:Nat,((k2<=x.U.length/\bH bj (x.U.take k2)=true)/\(x.U.length - k2<x.U.length - k1/\((x=x/\(((k1:Int)+(1:Int))=(k2:Int)/\True))/\True)))))))))))/\((decide ((k1:Int)<v0))=false ->
 true=(bj x)))))))))
def D9(n:Nat)(hE:bu [gQ n,kr]):bc.Good (gQ (n+1)):=by
 refine⟨aG gO,?_⟩;intro (x:J) (hp:bG x<n+1);refine bo [gQ n,kr] [] [] [] hE gO Al (Fg x) (let v0 := !(decide ((1:Int)<=x.aj/\x.aj<=(7:Int)));((ag x.aj->(((v0=false)->(ag x.aj->(((decide (x.aj=(4:Int)))=true->false=(bj x))/\((decide (x.aj=(4:Int)))=false->(pg n x)))))/\((v0=(!false))->((true=true->false=(bj x))/\(true=false->(pg n x)))))))) ?_;have f0:=fh x;have f1:=all_zero bj x.U;refine λ _=>⟨λ _ _=>⟨λ _=>?_,λ _=>⟨⟨0,?_,⟨rfl,?_,af⟩,af⟩,λ k1 _=>have a8U:=dM bj zE x.U k1;have b2A:=eK bj zE x.U k1;have b2B:=eE bj x.U k1;have b5g:=cz zE x.U k1;λ _ _=>⟨λ _ _=>⟨?_,?_,λ _=>?_,λ _=>⟨?_,k1+1,?_,?_,⟨rfl,?_,af⟩,af⟩⟩,λ _=>?_⟩⟩⟩,λ _=>⟨λ _=>?_,λ _=>⟨⟨0,?_,⟨rfl,?_,af⟩,af⟩,λ k1 _=>have b5c:=dM bj zE x.U k1;have b5d:=eK bj zE x.U k1;have b5e:=eE bj x.U k1;have b5f:=cz zE x.U k1;λ _ _=>⟨λ _ _=>⟨?_,?_,λ _=>?_,λ _=>⟨?_,k1+1,?_,?_,⟨rfl,?_,af⟩,af⟩⟩,λ _=>?_⟩⟩⟩⟩;all_goals try and_intros
 all_goals try rw[oi x]
 all_goals first|rfl|trivial|(simp only[b5K,b5L,aJ,ag] at *;omega)|(simp_all [tg];done)|(simp_all [tg,aJ,ag];omega)
def NC :∀ n,bu [gQ n]
 | 0=>⟨⟨aG gO,λ _ h=>absurd h (b6H _)⟩,af⟩
 | n+1=>by
  have ih:=NC  n;exact⟨D9 n ⟨ih.1,qB,af⟩,af⟩
def AE :bc.Good lH :=
 ⟨aG gO,λ x hp=>(NC  (bG x+1)).1.2 x (b6g _)⟩
def lB(t a:Int)(x:J):Bool:=decide (cm x.aj=(x.U.length:Int)) &&
 (if x.aj=3 then decide (0<=x.aT/\x.aT<=t) else if x.aj=4 then decide (0<=x.aT/\x.aT<=a) else decide (x.aT=0)) &&
 (!decide (x.aj=5)||bj (x.U.getD 0 ⟨0,0,[]⟩))
mutual
def a8(t a:Int):J->Bool
 | ⟨k,n,ks⟩=>lB t a ⟨k,n,ks⟩&&iW t a ks
def iW(t a:Int):List J->Bool
 | []=>true
 | k::ks=>a8 t a k&&iW t a ks
end
def Sy(t a:Int):∀ xs,iW t a xs=bH (a8 t a) xs
 | []=>rfl
 | x::xs=>by rw[iW,bH,Sy t a xs]
def eH(t a:Int)(x:J):a8 t a x=(lB t a x&&bH (a8 t a) x.U):=by
 cases x;simp[a8,Sy]
def a6(n:Int):Int:=IntKind.wrap .i64 (n - 1)
def iG(n:Int)(h : -9223372036854775807<=n/\n<=9223372036854775807):a6 n=n - 1:=by
 simp[a6,IntKind.wrap,IntKind.signed,IntKind.bits];omega
def mo(n:Nat):bc:=⟨tZ,[.r (.st .expr), .v (.int .i64)],λ (x:J) (left:Int)=>⟨(some (bG x<n/\0<=left/\left<=1048576),[⟨(.int .i64),Hj (au x) left⟩])⟩⟩
def Di:bc:=⟨tZ,[.r (.st .expr), .v (.int .i64)],λ (x:J) (left:Int)=>⟨(some (0<=left/\left<=1048576),[⟨(.int .i64),Hj (au x) left⟩])⟩⟩
def O1(x:J)(left:Int):Nat->aI:=(fu 0 (.b (Nat) (λ k=>k<=x.U.length) (λ k=>x.U.length - k) [4,6,7] (λ k=>[(5, .aO ⟨(.int .i64),((k:Int):Int)⟩),(1, .aO ⟨(.int .i64),(Hj (1+dy au (x.U.take k)) left:Int)⟩)])) cf)
abbrev ym(n:Nat)(x:J)(left:Int)(k1:Nat):Prop:=(let v0:=Hj (1+dy au (x.U.take k1)) left;let v1:=Hj (au (x.U.getD k1 zE)) v0;(x.U.length<=140737488355328 ->
 (aJ (k1:Int) x.U.length/\((bG (x.U.getD k1 zE)<n/\0<=v0/\v0<=1048576)/\(ag v1 ->
 (ag ((k1:Int)+(1:Int))/\(∃ k2:Nat,(k2<=x.U.length/\(x.U.length - k2<x.U.length - k1/\((x=x/\(v1=(Hj (1+dy au (x.U.take k2)) left)/\(((k1:Int)+(1:Int))=(k2:Int)/\True)))/\True))))))))))
def Na(n:Nat)(hE:bu [mo n]):bc.Good (mo (n+1)):=by
 refine⟨aG lY,?_⟩;intro (x:J) (left:Int) (hp:bG x<n+1/\0<=left/\left<=1048576);refine bo [mo n] [] [] [] hE lY Ik (O1 x left) (let v0:=(x.U.length:Int);((ag (left - (1:Int))/\((∃ k1:Nat,(k1<=x.U.length/\((x=x/\((left - (1:Int))=(Hj (1+dy au (x.U.take k1)) left)/\((0:Int)=(k1:Int)/\True)))/\True)))/\(∀ k1:Nat,let v1:=Hj (1+dy au (x.U.take k1)) left;(k1<=x.U.length->(x.U.length<=140737488355328->(ag v0->(((decide ((k1:Int)<v0))=true->(((decide ((0:Int)<=v1))=true->(ym n x left k1))/\((decide ((0:Int)<=v1))=false->v1=(Hj (au x) left))))/\((decide ((k1:Int)<v0))=(!true)->((false=true->(ym n x left k1))/\(false=false->v1=(Hj (au x) left))))))))))))) ?_;have f0:=fh x;have f1:=Nu au x.U;have f2:=Gx (1+dy au (x.U.take 0)) left;refine⟨?_,⟨0,?_,⟨rfl,?_,?_,af⟩,af⟩,λ k1 _=>have a8Q:=ri au zE x.U k1;have a8R:=gj au x.U k1;have a8S:=gj au x.U (k1+1);have b2w:=Bq au x.U k1;have b2x:=cz zE x.U k1;have b2y:=Gx (1+dy au (x.U.take k1)) left;have b4U:=Gx (1+dy au (x.U.take (k1+1))) left;have b4V:=Gx (au (x.U.getD k1 zE)) (Hj (1+dy au (x.U.take k1)) left);have b4W:=Gx (1+dy au x.U) left;λ _ _=>⟨λ _=>⟨λ _ _=>⟨?_,?_,λ _=>⟨?_,k1+1,?_,?_,⟨rfl,?_,?_,af⟩,af⟩⟩,λ _=>?_⟩,λ _=>⟨λ _ _=>⟨?_,?_,λ _=>⟨?_,k1+1,?_,?_,⟨rfl,?_,?_,af⟩,af⟩⟩,λ _=>?_⟩⟩⟩;all_goals try and_intros
 all_goals try rw[lM x]
 all_goals first|rfl|trivial|omega|(simp only[b5K,b5L,aJ,ag,ca,ei,cY,bn] at *;omega)|(simp[aJ,ag] at *;omega)|grind
def ND :∀ n,bu [mo n]
 | 0=>⟨⟨aG lY,λ _ _ h=>absurd h.1 (b6H _)⟩,af⟩
 | n+1=>by
  have ih:=ND  n;exact⟨Na n ⟨ih.1,af⟩,af⟩
def II :bc.Good Di :=
 ⟨aG lY,λ x left hp=>(ND  (bG x+1)).1.2 x left (⟨b6g _,hp⟩)⟩
def kX(n:Nat):bc:=⟨qR,[.r (.st .expr)],λ (x:J)=>⟨(some (bG x<n/\bm x<=1048576),[⟨(.int .i64),(bm x:Int)⟩])⟩⟩
def AT:bc:=⟨qR,[.r (.st .expr)],λ (x:J)=>⟨(some (bm x<=1048576),[⟨(.int .i64),(bm x:Int)⟩])⟩⟩
def MU(x:J):Nat->aI:=(fu 0 (.b (Nat) (λ k=>k<=x.U.length) (λ k=>x.U.length - k) [2] (λ k=>[(4, .aO ⟨(.int .i64),((k:Int):Int)⟩),(3, .aO ⟨(.int .i64),((iw bm (x.U.take k):Int):Int)⟩)])) cf)
def Ld(n:Nat)(hE:bu [kX n,lG]):bc.Good (kX (n+1)):=by
 refine⟨aG kQ,?_⟩;intro (x:J) (hp:bG x<n+1/\bm x<=1048576);refine bo [kX n,lG] [] [] [] hE kQ GO (MU x) (let v0:=(x.U.length:Int);(((∃ k1:Nat,(k1<=x.U.length/\((x=x/\((0:Int)=(iw bm (x.U.take k1):Int)/\((0:Int)=(k1:Int)/\True)))/\True)))/\(∀ k1:Nat,let v1:=(iw bm (x.U.take k1):Int);let v3:=x.U.getD k1 zE;let v2:=(bm v3:Int);(k1<=x.U.length->(x.U.length<=140737488355328->(ag v0->(((decide ((k1:Int)<v0))=true->(x.U.length<=140737488355328->(aJ (k1:Int) x.U.length/\((bG v3<n/\bm v3<=1048576)/\(ag v2->(ag (max v1 v2)->(ag ((k1:Int)+(1:Int))/\(∃ k2:Nat,(k2<=x.U.length/\(x.U.length - k2<x.U.length - k1/\((x=x/\((max v1 v2)=(iw bm (x.U.take k2):Int)/\(((k1:Int)+(1:Int))=(k2:Int)/\True)))/\True)))))))))))/\((decide ((k1:Int)<v0))=false->(ag (v1+(1:Int))/\(v1+(1:Int))=(bm x:Int))))))))))) ?_;rw[gE x] at hp;have f0:=fh x;have f1:=RA bm x.U;refine⟨⟨0,?_,⟨rfl,?_,?_,af⟩,af⟩,λ k1 _=>have a8Q:=qM bm zE x.U k1;have a8R:=iE bm x.U k1;have a8S:=iE bm x.U (k1+1);have b2w:=A1 bm x.U k1;have b2x:=cz zE x.U k1;have b2y:=qL bm zE x.U k1;λ _ _=>⟨λ _ _=>⟨?_,?_,λ _ _=>⟨?_,k1+1,?_,?_,⟨rfl,?_,?_,af⟩,af⟩⟩,λ _=>⟨?_,?_⟩⟩⟩;all_goals try and_intros
 all_goals try rw[gE x]
 all_goals first|rfl|trivial|omega|(simp only[b5K,b5L,aJ,ag,ca,ei,cY,bn] at *;omega)|(simp[aJ,ag] at *;omega)|grind
def JL :∀ n,bu [kX n]
 | 0=>⟨⟨aG kQ,λ _ h=>absurd h.1 (b6H _)⟩,af⟩
 | n+1=>by
  have ih:=JL  n;exact⟨Ld n ⟨ih.1,x8,af⟩,af⟩
def G5 :bc.Good AT :=
 ⟨aG kQ,λ x hp=>(JL  (bG x+1)).1.2 x (⟨b6g _,hp⟩)⟩
def mr(n:Nat):bc:=⟨ub,[.v (.st .sig), .r (.st .expr)],λ (gg:aD) (x:J)=>⟨(some (bG x<n),[⟨.bool,a8 (a6 gg.aY) (a6 gg.aB) x⟩])⟩⟩
def Dk:bc:=⟨ub,[.v (.st .sig), .r (.st .expr)],λ (gg:aD) (x:J)=>⟨(none,[⟨.bool,a8 (a6 gg.aY) (a6 gg.aB) x⟩])⟩⟩
def O3(gg:aD)(x:J):Nat->aI:=(fu 1 (.b (Nat) (λ k=>k<=x.U.length/\bH (a8 (a6 gg.aY) (a6 gg.aB)) (x.U.take k)=true) (λ k=>x.U.length - k) [0,6,7,8,9,10,11,12,13,14,15,16,17,18,19,20,21,22,31,32,41,42,43,44,45,46,47,48,49,50,51,52,53,54,55,56,57,58,59,60,61] (λ k=>[(5, .aO ⟨(.int .i64),((k:Int):Int)⟩)])) cf)
abbrev KU(n:Nat)(gg:aD)(x:J):Prop:=(let v0:=a6 gg.aB;let v1:=a6 gg.aY;let v2:=(x.U.length:Int);((∃ k1:Nat,((k1<=x.U.length/\bH (a8 v1 v0) (x.U.take k1)=true)/\((x=x/\(gg=gg/\((0:Int)=(k1:Int)/\True)))/\True)))/\(∀ k1:Nat,let v3 := !(a8 v1 v0 (x.U.getD k1 zE));((k1<=x.U.length/\bH (a8 v1 v0) (x.U.take k1)=true) ->
 (x.U.length<=140737488355328 ->
 (ag v2 ->
 (((decide ((k1:Int)<v2))=true ->
 (aJ (k1:Int) x.U.length/\(x.U.length<=140737488355328 ->
 (bG (x.U.getD k1 zE)<n/\((v3=true ->
 false=(a8 v1 v0 x))/\(v3=false ->
 (ag ((k1:Int)+(1:Int))/\(∃ k2:Nat,((k2<=x.U.length/\bH (a8 v1 v0) (x.U.take k2)=true)/\(x.U.length - k2<x.U.length - k1/\((x=x/\(gg=gg/\(((k1:Int)+(1:Int))=(k2:Int)/\True)))/\True)))))))))))/\((decide ((k1:Int)<v2))=false ->
 true=(a8 v1 v0 x)))))))))
def Nc(n:Nat)(hE:bu [mr n,tR,kr,lH]):bc.Good (mr (n+1)):=by
 refine⟨aG l9,?_⟩;intro (gg:aD) (x:J) (hp:bG x<n+1);refine bo [mr n,tR,kr,lH] [29,39] [] [2] hE l9 Im (O3 gg x) (let v0:=a8 (a6 gg.aY) (a6 gg.aB) x;let v1 := !(decide (((x.U.length:Int))=(cm x.aj)));let v2:=KU n gg x;let v3 := !(decide (x.aT=(0:Int)));((x.U.length<=140737488355328->(ag ((x.U.length:Int))->(ag x.aj->(ag (cm x.aj)->((v1=true->false=v0)/\(v1=false->(ag x.aj->(((decide (x.aj=(3:Int)))=true->(ag x.aT->(ag gg.aY->((decide ((0:Int)<=x.aT/\x.aT<=(IntKind.wrap .i64 (gg.aY - (1:Int)))))=v0))))/\((decide (x.aj=(3:Int)))=false->(((decide (x.aj=(4:Int)))=true->(ag x.aT->(ag gg.aB->((decide ((0:Int)<=x.aT/\x.aT<=(IntKind.wrap .i64 (gg.aB - (1:Int)))))=v0))))/\((decide (x.aj=(4:Int)))=false->(ag x.aT->((v3=false->(ag x.aj->(((decide (x.aj=(5:Int)))=true->(x.U.length<=140737488355328->(aJ (0:Int) x.U.length/\(((!(bj (x.U.getD 0 zE)))=true->false=v0)/\((!(bj (x.U.getD 0 zE)))=false->v2)))))/\((decide (x.aj=(5:Int)))=(!true)->((false=true->false=v0)/\(false=false->v2))))))/\(v3=(!false)->((true=true->false=v0)/\(true=false->v2)))))))))))))))))) ?_;have f0:=fh x;have f1:=all_zero (a8 (a6 gg.aY) (a6 gg.aB)) x.U;refine λ _ _ _ _=>⟨λ _=>?_,λ _ _=>⟨λ _ _ _=>?_,λ _=>⟨λ _ _ _=>?_,λ _ _=>⟨λ _ _=>⟨λ _ _=>⟨?_,λ _=>?_,λ _=>⟨⟨0,?_,⟨rfl,rfl,?_,af⟩,af⟩,λ k1 _=>have b4M:=dM (a8 (a6 gg.aY) (a6 gg.aB)) zE x.U k1;have b4N:=eK (a8 (a6 gg.aY) (a6 gg.aB)) zE x.U k1;have b4O:=eE (a8 (a6 gg.aY) (a6 gg.aB)) x.U k1;have b4P:=cz zE x.U k1;λ _ _=>⟨λ _=>⟨?_,λ _=>⟨?_,λ _=>?_,λ _=>⟨?_,k1+1,?_,?_,⟨rfl,rfl,?_,af⟩,af⟩⟩⟩,λ _=>?_⟩⟩⟩,λ _=>⟨λ _=>?_,λ _=>⟨⟨0,?_,⟨rfl,rfl,?_,af⟩,af⟩,λ k1 _=>have b4I:=dM (a8 (a6 gg.aY) (a6 gg.aB)) zE x.U k1;have b4J:=eK (a8 (a6 gg.aY) (a6 gg.aB)) zE x.U k1;have b4K:=eE (a8 (a6 gg.aY) (a6 gg.aB)) x.U k1;have b4L:=cz zE x.U k1;λ _ _=>⟨λ _=>⟨?_,λ _=>⟨?_,λ _=>?_,λ _=>⟨?_,k1+1,?_,?_,⟨rfl,rfl,?_,af⟩,af⟩⟩⟩,λ _=>?_⟩⟩⟩⟩,λ _=>⟨λ _=>?_,λ _=>⟨⟨0,?_,⟨rfl,rfl,?_,af⟩,af⟩,λ k1 _=>have Zr:=dM (a8 (a6 gg.aY) (a6 gg.aB)) zE x.U k1;have Zs:=eK (a8 (a6 gg.aY) (a6 gg.aB)) zE x.U k1;have Zt:=eE (a8 (a6 gg.aY) (a6 gg.aB)) x.U k1;have a3N:=cz zE x.U k1;λ _ _=>⟨λ _=>⟨?_,λ _=>⟨?_,λ _=>?_,λ _=>⟨?_,k1+1,?_,?_,⟨rfl,rfl,?_,af⟩,af⟩⟩⟩,λ _=>?_⟩⟩⟩⟩⟩⟩⟩;all_goals try and_intros
 all_goals try rw[eH _ _ x]
 all_goals first|rfl|trivial|(simp only[decide_eq_true_eq,decide_eq_false_iff_not,aJ,ag] at *;omega)|(simp_all [lB,a6];done)|(simp_all [lB,a6,aJ,ag];omega)|grind [lB,a6,cm,aJ,ag]
def NH :∀ n,bu [mr n]
 | 0=>⟨⟨aG l9,λ _ _ h=>absurd h (b6H _)⟩,af⟩
 | n+1=>by
  have ih:=NH  n;exact⟨Nc n ⟨ih.1,IH,qB,AE,af⟩,af⟩
def IK :bc.Good Dk :=
 ⟨aG l9,λ gg x hp=>(NH  (bG x+1)).1.2 gg x (b6g _)⟩
def sigOk(gg:aD):Bool:=decide (0<=gg.aY/\gg.aY<=3)&&decide (0<=gg.aB/\gg.aB<=4)
def Jr(gg:aD)(x:J)(bA depth:Int):Bool:=a8 (a6 gg.aY) (a6 gg.aB) x&&decide ((au x:Int)<=bA)&&decide ((bm x:Int)<=depth)
def Pk(gg:aD)(x:J)(bA depth:Int):Int:=bif Jr gg x bA depth then bA - au x else 0
def qF:bc:=⟨A3,[.v (.st .sig)],λ (gg:aD)=>⟨(none,[⟨.bool,sigOk gg⟩])⟩⟩
def MP(gg:aD):Nat->aI:=cf
def uw:bc.Good qF:=by
 refine⟨aG xP,?_⟩;intro (gg:aD) _;refine bo [pj] [] [] [1] ⟨x7,af⟩ xP GF (MP gg) (let v0:=decide ((0:Int)<=gg.aY/\gg.aY<=(3:Int));((ag gg.aY->(((v0=true)->(ag gg.aB->((decide ((0:Int)<=gg.aB/\gg.aB<=(4:Int)))=(sigOk gg))))/\((v0=(!true))->false=(sigOk gg)))))) ?_;refine λ _=>⟨λ _ _=>?_,λ _=>?_⟩;all_goals try and_intros
 all_goals first|rfl|trivial|(simp_all [sigOk];done)|(simp_all [sigOk];omega)
def wP:bc:=⟨FG,[.v (.st .sig)],λ (gg:aD)=>⟨(none,[⟨.bool,sigOk gg⟩])⟩⟩
def Rp(gg:aD):Nat->aI:=cf
def x9:bc.Good wP:=by
 refine⟨aG CZ,?_⟩;intro (gg:aD) _;refine bo [kr] [] [] [1] ⟨qB,af⟩ CZ J3 (Rp gg) (let v0:=decide ((0:Int)<=gg.aY/\gg.aY<=(3:Int));((ag gg.aY->(((v0=true)->(ag gg.aB->((decide ((0:Int)<=gg.aB/\gg.aB<=(4:Int)))=(sigOk gg))))/\((v0=(!true))->false=(sigOk gg)))))) ?_;refine λ _=>⟨λ _ _=>?_,λ _=>?_⟩;all_goals try and_intros
 all_goals first|rfl|trivial|(simp_all [sigOk];done)|(simp_all [sigOk];omega)
def zD(t a:Int)(x:J):Bool:=if x.aj=3 then decide (0<=x.aT/\x.aT<=t) else if x.aj=4 then decide (0<=x.aT/\x.aT<=a) else decide (x.aT=0)
def jg(t a:Int)(x:J):lB t a x=(decide (cm x.aj=(x.U.length:Int))&&zD t a x&&(!decide (x.aj=5)||bj (x.U.getD 0 ⟨0,0,[]⟩))):=rfl
def xi(gg:aD)(x:J)(bA depth:Int) :
  (a8 (a6 gg.aY) (a6 gg.aB) x=true/\(au x:Int)<=bA/\(bm x:Int)<=depth/\Jr gg x bA depth=true/\Pk gg x bA depth=bA - au x) \/
  ((a8 (a6 gg.aY) (a6 gg.aB) x=false\/bA<(au x:Int)\/depth<(bm x:Int))/\Jr gg x bA depth=false/\Pk gg x bA depth=0):=by
 unfold Pk Jr;cases a8 (a6 gg.aY) (a6 gg.aB) x
 .right;simp
 .rcases Int.lt_or_le bA (au x) with h|h
  .right;simp[h,Int.not_le.2 h]
  .rcases Int.lt_or_le depth (bm x) with h'|h'
   .right;simp[h',Int.not_le.2 h']
   .left;simp[h,h']
def nC(n:Nat):bc:=⟨wY,[.v (.st .sig), .v (.st .expr), .v (.int .i64), .v (.int .i64)],λ (gg:aD) (x:J) (bA:Int) (depth:Int)=>⟨(some (bG x<n/\0<=bA/\bA<=1048576/\0<=depth/\depth<=1048576),[⟨(.int .i64),Pk gg x bA depth⟩,⟨.bool,Jr gg x bA depth⟩])⟩⟩
def Fa:bc:=⟨wY,[.v (.st .sig), .v (.st .expr), .v (.int .i64), .v (.int .i64)],λ (gg:aD) (x:J) (bA:Int) (depth:Int)=>⟨(some (0<=bA/\bA<=1048576/\0<=depth/\depth<=1048576),[⟨(.int .i64),Pk gg x bA depth⟩,⟨.bool,Jr gg x bA depth⟩])⟩⟩
def Rl(gg:aD)(x:J)(bA:Int)(depth:Int):Nat->aI:=(fu 100012 (.u (cm x.aj=(x.U.length:Int)/\1<=bA/\1<=depth/\zD (a6 gg.aY) (a6 gg.aB) x=true) [0,1,14,15,16,17,18,19,20,21,22,23,24,25,26,27,28] [] [] [] (fu 100014 (.u (lB (a6 gg.aY) (a6 gg.aB) x=true/\1<=bA/\1<=depth) [] [] [] [] (fu 1 (.b (Nat) (λ k=>k<=x.U.length/\bH (a8 (a6 gg.aY) (a6 gg.aB)) (x.U.take k)=true/\1+(dy au (x.U.take k):Int)<=bA/\1+(iw bm (x.U.take k):Int)<=depth) (λ k=>x.U.length - k) [5,63,64,65] (λ k=>[(68, .aO ⟨(.int .i64),((k:Int):Int)⟩),(2, .aO ⟨(.int .i64),(bA - (1+(dy au (x.U.take k):Int)):Int)⟩)])) cf)) cf)) cf)
abbrev MG(gg:aD)(x:J)(bA:Int)(depth:Int):Prop:=(∃ u1:Unit,((cm x.aj=(x.U.length:Int)/\1<=bA/\1<=depth/\zD (a6 gg.aY) (a6 gg.aB) x=true)/\((bA=bA/\(depth=depth/\(gg=gg/\(x=x/\True))))/\True)))
abbrev MH(gg:aD)(x:J)(bA:Int)(depth:Int):Prop:=(∃ u2:Unit,((lB (a6 gg.aY) (a6 gg.aB) x=true/\1<=bA/\1<=depth)/\((bA=bA/\(depth=depth/\(gg=gg/\(x=x/\True))))/\True)))
abbrev AN(n:Nat)(gg:aD)(x:J)(bA:Int)(depth:Int):Prop:=(let v1:=(x.U.length:Int);let v6:=MG gg x bA depth;let v7:=(0:Int);let v0:=v7=(Pk gg x bA depth)/\false=(Jr gg x bA depth);let v8:=(1:Int);let v2:=depth - v8;let v3 := !(decide (v7<=x.aT/\x.aT<=(IntKind.wrap .i64 (gg.aB - v8))));let v4 := !(decide (v7<=x.aT/\x.aT<=(IntKind.wrap .i64 (gg.aY - v8))));let v9:=a6 gg.aB;let va:=MH gg x bA depth;let vb:=a6 gg.aY;let v5:=a8 vb v9;((ag x.aj ->
 (((decide (x.aj=(3:Int)))=true ->
 (ag x.aT ->
 (ag gg.aY ->
 (((v4=true) ->
 v0)/\((v4=false) ->
 v6)))))/\((decide (x.aj=(3:Int)))=false ->
 (((decide (x.aj=(4:Int)))=true ->
 (ag x.aT ->
 (ag gg.aB ->
 (((v3=true) ->
 v0)/\((v3=false) ->
 v6)))))/\((decide (x.aj=(4:Int)))=false ->
 (ag x.aT ->
 (((!(decide (x.aT=v7)))=true ->
 v0)/\((!(decide (x.aT=v7)))=false ->
 v6))))))))/\(∀ u1:Unit,((cm x.aj=v1/\1<=bA/\1<=depth/\zD vb v9 x=true) ->
 ((ag x.aj ->
 (((decide (x.aj=(5:Int)))=true ->
 (x.U.length<=140737488355328 ->
 (aJ v7 x.U.length/\(((!(bj (x.U.getD 0 zE)))=true ->
 v0)/\((!(bj (x.U.getD 0 zE)))=false ->
 va)))))/\((decide (x.aj=(5:Int)))=(!true) ->
 ((false=true ->
 v0)/\(false=false ->
 va)))))/\(∀ u2:Unit,((lB vb v9 x=true/\1<=bA/\1<=depth) ->
 (ag (bA - v8)/\(x.U.length<=140737488355328 ->
 (ag (v1) ->
 ((∃ k3:Nat,let vc:=x.U.take k3;((k3<=x.U.length/\bH v5 vc=true/\1+(dy au vc:Int)<=bA/\1+(iw bm vc:Int)<=depth)/\(((bA - v8)=(bA - (1+(dy au vc:Int)))/\(depth=depth/\(gg=gg/\(x.U=x.U/\((v1)=(v1)/\(v7=(k3:Int)/\True))))))/\True)))/\(∀ k3:Nat,let vd:=aV (x.U.getD k3 zE);let ve:=x.U.take k3;let vc:=bA - (1+(dy au ve:Int));((k3<=x.U.length/\bH v5 ve=true/\1+(dy au ve:Int)<=bA/\1+(iw bm ve:Int)<=depth) ->
 (((decide ((k3:Int)<(v1)))=true ->
 (aJ (k3:Int) x.U.length/\(ag v2/\((bG vd<n/\0<=vc/\vc<=1048576/\0<=v2/\v2<=1048576)/\(ag (Pk gg vd vc v2) ->
 (((!(Jr gg vd vc v2))=true ->
 v0)/\((!(Jr gg vd vc v2))=false ->
 (ag ((k3:Int)+v8)/\(∃ k4:Nat,let vf:=x.U.take k4;((k4<=x.U.length/\bH v5 vf=true/\1+(dy au vf:Int)<=bA/\1+(iw bm vf:Int)<=depth)/\(x.U.length - k4<x.U.length - k3/\(((Pk gg vd vc v2)=(bA - (1+(dy au vf:Int)))/\(depth=depth/\(gg=gg/\(x.U=x.U/\((v1)=(v1)/\(((k3:Int)+v8)=(k4:Int)/\True))))))/\True))))))))))))/\((decide ((k3:Int)<(v1)))=false ->
 (vc=(Pk gg x bA depth)/\true=(Jr gg x bA depth)))))))))))))))))
abbrev MI(n:Nat)(gg:aD)(x:J)(bA:Int)(depth:Int):Prop:=(let v0 := !(decide ((cm x.aj)=((x.U.length:Int))));(ag x.aj ->
 (ag (cm x.aj) ->
 (x.U.length<=140737488355328 ->
 (ag ((x.U.length:Int)) ->
 ((v0=true ->
 ((0:Int)=(Pk gg x bA depth)/\false=(Jr gg x bA depth)))/\(v0=false ->
 (AN n gg x bA depth))))))))
abbrev MJ(n:Nat)(gg:aD)(x:J)(bA:Int)(depth:Int):Prop:=((true=true ->
 ((0:Int)=(Pk gg x bA depth)/\false=(Jr gg x bA depth)))/\(true=false ->
 (AN n gg x bA depth)))
def Pg(n:Nat)(hE:bu [nC n,wN,pj,fY]):bc.Good (nC (n+1)):=by
 refine⟨aG nt,?_⟩;intro (gg:aD) (x:J) (bA:Int) (depth:Int) (hp:bG x<n+1/\0<=bA/\bA<=1048576/\0<=depth/\depth<=1048576);refine bo [nC n,wN,pj,fY] [40,49] [] [4,5] hE nt JY (Rl gg x bA depth) (let v0:=MI n gg x bA depth;let v1:=MJ n gg x bA depth;((((decide (bA=(0:Int)))=false->(((decide (depth=(0:Int)))=false->v0)/\((decide (depth=(0:Int)))=(!false)->v1)))/\((decide (bA=(0:Int)))=(!false)->((true=false->v0)/\(true=(!false)->v1)))))) ?_;have fs:=xi gg x bA depth;rw[eH _ _ x,lM x,gE x] at fs;have f0:=fh x;have f1:=Nu au x.U;have f2:=RA bm x.U;have f3:=all_zero (a8 (a6 gg.aY) (a6 gg.aB)) x.U;refine⟨λ _=>⟨λ _ _ _ _ _=>⟨λ _=>⟨?_,?_⟩,λ _=>⟨λ _=>⟨λ _ _ _=>⟨λ _=>⟨?_,?_⟩,λ _=>⟨(),?_,⟨rfl,rfl,rfl,rfl,af⟩,af⟩⟩,λ _=>⟨λ _ _ _=>⟨λ _=>⟨?_,?_⟩,λ _=>⟨(),?_,⟨rfl,rfl,rfl,rfl,af⟩,af⟩⟩,λ _ _=>⟨λ _=>⟨?_,?_⟩,λ _=>⟨(),?_,⟨rfl,rfl,rfl,rfl,af⟩,af⟩⟩⟩⟩,λ u1 _=>⟨λ _=>⟨λ _ _=>⟨?_,λ _=>⟨?_,?_⟩,λ _=>⟨(),?_,⟨rfl,rfl,rfl,rfl,af⟩,af⟩⟩,λ _=>⟨λ _=>⟨?_,?_⟩,λ _=>⟨(),?_,⟨rfl,rfl,rfl,rfl,af⟩,af⟩⟩⟩,λ u2 _=>⟨?_,λ _ _=>⟨⟨0,?_,⟨?_,rfl,rfl,rfl,rfl,?_,af⟩,af⟩,λ k3 _=>have Zr:=dM (a8 (a6 gg.aY) (a6 gg.aB)) zE x.U k3;have Zs:=eK (a8 (a6 gg.aY) (a6 gg.aB)) zE x.U k3;have Zt:=eE (a8 (a6 gg.aY) (a6 gg.aB)) x.U k3;have a3N:=cz zE x.U k3;have b0A:=ri au zE x.U k3;have b0B:=gj au x.U (k3+1);have b0C:=Bq au x.U k3;have b0D:=qM bm zE x.U k3;have b0E:=iE bm x.U (k3+1);have b0F:=A1 bm x.U k3;have a7A:=xi gg (x.U.getD k3 zE) (bA - (1+(dy au (x.U.take k3):Int))) (depth - 1);⟨λ _=>⟨?_,?_,?_,λ _=>⟨λ _=>⟨?_,?_⟩,λ _=>⟨?_,k3+1,?_,?_,⟨?_,rfl,rfl,rfl,rfl,?_,af⟩,af⟩⟩⟩,λ _=>⟨?_,?_⟩⟩⟩⟩⟩⟩⟩,λ _=>⟨λ _=>⟨?_,?_⟩,λ _=>⟨λ _=>⟨λ _ _ _=>⟨λ _=>⟨?_,?_⟩,λ _=>⟨(),?_,⟨rfl,rfl,rfl,rfl,af⟩,af⟩⟩,λ _=>⟨λ _ _ _=>⟨λ _=>⟨?_,?_⟩,λ _=>⟨(),?_,⟨rfl,rfl,rfl,rfl,af⟩,af⟩⟩,λ _ _=>⟨λ _=>⟨?_,?_⟩,λ _=>⟨(),?_,⟨rfl,rfl,rfl,rfl,af⟩,af⟩⟩⟩⟩,λ u1 _=>⟨λ _=>⟨λ _ _=>⟨?_,λ _=>⟨?_,?_⟩,λ _=>⟨(),?_,⟨rfl,rfl,rfl,rfl,af⟩,af⟩⟩,λ _=>⟨λ _=>⟨?_,?_⟩,λ _=>⟨(),?_,⟨rfl,rfl,rfl,rfl,af⟩,af⟩⟩⟩,λ u2 _=>⟨?_,λ _ _=>⟨⟨0,?_,⟨?_,rfl,rfl,rfl,rfl,?_,af⟩,af⟩,λ k3 _=>have a3O:=dM (a8 (a6 gg.aY) (a6 gg.aB)) zE x.U k3;have a3P:=eK (a8 (a6 gg.aY) (a6 gg.aB)) zE x.U k3;have a3Q:=eE (a8 (a6 gg.aY) (a6 gg.aB)) x.U k3;have a8V:=cz zE x.U k3;have b2F:=ri au zE x.U k3;have b2G:=gj au x.U (k3+1);have b2H:=Bq au x.U k3;have b2I:=qM bm zE x.U k3;have b2J:=iE bm x.U (k3+1);have b2K:=A1 bm x.U k3;have b0G:=xi gg (x.U.getD k3 zE) (bA - (1+(dy au (x.U.take k3):Int))) (depth - 1);⟨λ _=>⟨?_,?_,?_,λ _=>⟨λ _=>⟨?_,?_⟩,λ _=>⟨?_,k3+1,?_,?_,⟨?_,rfl,rfl,rfl,rfl,?_,af⟩,af⟩⟩⟩,λ _=>⟨?_,?_⟩⟩⟩⟩⟩⟩⟩⟩,λ _=>⟨λ _ _ _ _ _=>⟨λ _=>⟨?_,?_⟩,λ _=>⟨λ _=>⟨λ _ _ _=>⟨λ _=>⟨?_,?_⟩,λ _=>⟨(),?_,⟨rfl,rfl,rfl,rfl,af⟩,af⟩⟩,λ _=>⟨λ _ _ _=>⟨λ _=>⟨?_,?_⟩,λ _=>⟨(),?_,⟨rfl,rfl,rfl,rfl,af⟩,af⟩⟩,λ _ _=>⟨λ _=>⟨?_,?_⟩,λ _=>⟨(),?_,⟨rfl,rfl,rfl,rfl,af⟩,af⟩⟩⟩⟩,λ u1 _=>⟨λ _=>⟨λ _ _=>⟨?_,λ _=>⟨?_,?_⟩,λ _=>⟨(),?_,⟨rfl,rfl,rfl,rfl,af⟩,af⟩⟩,λ _=>⟨λ _=>⟨?_,?_⟩,λ _=>⟨(),?_,⟨rfl,rfl,rfl,rfl,af⟩,af⟩⟩⟩,λ u2 _=>⟨?_,λ _ _=>⟨⟨0,?_,⟨?_,rfl,rfl,rfl,rfl,?_,af⟩,af⟩,λ k3 _=>have Zr:=dM (a8 (a6 gg.aY) (a6 gg.aB)) zE x.U k3;have Zs:=eK (a8 (a6 gg.aY) (a6 gg.aB)) zE x.U k3;have Zt:=eE (a8 (a6 gg.aY) (a6 gg.aB)) x.U k3;have a3N:=cz zE x.U k3;have b0A:=ri au zE x.U k3;have b0B:=gj au x.U (k3+1);have b0C:=Bq au x.U k3;have b0D:=qM bm zE x.U k3;have b0E:=iE bm x.U (k3+1);have b0F:=A1 bm x.U k3;have a7A:=xi gg (x.U.getD k3 zE) (bA - (1+(dy au (x.U.take k3):Int))) (depth - 1);⟨λ _=>⟨?_,?_,?_,λ _=>⟨λ _=>⟨?_,?_⟩,λ _=>⟨?_,k3+1,?_,?_,⟨?_,rfl,rfl,rfl,rfl,?_,af⟩,af⟩⟩⟩,λ _=>⟨?_,?_⟩⟩⟩⟩⟩⟩⟩,λ _=>⟨λ _=>⟨?_,?_⟩,λ _=>⟨λ _=>⟨λ _ _ _=>⟨λ _=>⟨?_,?_⟩,λ _=>⟨(),?_,⟨rfl,rfl,rfl,rfl,af⟩,af⟩⟩,λ _=>⟨λ _ _ _=>⟨λ _=>⟨?_,?_⟩,λ _=>⟨(),?_,⟨rfl,rfl,rfl,rfl,af⟩,af⟩⟩,λ _ _=>⟨λ _=>⟨?_,?_⟩,λ _=>⟨(),?_,⟨rfl,rfl,rfl,rfl,af⟩,af⟩⟩⟩⟩,λ u1 _=>⟨λ _=>⟨λ _ _=>⟨?_,λ _=>⟨?_,?_⟩,λ _=>⟨(),?_,⟨rfl,rfl,rfl,rfl,af⟩,af⟩⟩,λ _=>⟨λ _=>⟨?_,?_⟩,λ _=>⟨(),?_,⟨rfl,rfl,rfl,rfl,af⟩,af⟩⟩⟩,λ u2 _=>⟨?_,λ _ _=>⟨⟨0,?_,⟨?_,rfl,rfl,rfl,rfl,?_,af⟩,af⟩,λ k3 _=>have a3O:=dM (a8 (a6 gg.aY) (a6 gg.aB)) zE x.U k3;have a3P:=eK (a8 (a6 gg.aY) (a6 gg.aB)) zE x.U k3;have a3Q:=eE (a8 (a6 gg.aY) (a6 gg.aB)) x.U k3;have a8V:=cz zE x.U k3;have b2F:=ri au zE x.U k3;have b2G:=gj au x.U (k3+1);have b2H:=Bq au x.U k3;have b2I:=qM bm zE x.U k3;have b2J:=iE bm x.U (k3+1);have b2K:=A1 bm x.U k3;have b0G:=xi gg (x.U.getD k3 zE) (bA - (1+(dy au (x.U.take k3):Int))) (depth - 1);⟨λ _=>⟨?_,?_,?_,λ _=>⟨λ _=>⟨?_,?_⟩,λ _=>⟨?_,k3+1,?_,?_,⟨?_,rfl,rfl,rfl,rfl,?_,af⟩,af⟩⟩⟩,λ _=>⟨?_,?_⟩⟩⟩⟩⟩⟩⟩⟩⟩;all_goals try and_intros
 all_goals try (first|with_reducible rfl|with_reducible assumption)
 all_goals try simp only[J.eta,aE.eta,aQ,bq] at *
 all_goals ((try simp only[a6] at *);generalize IntKind.wrap .i64 (gg.aY - 1)=T at *;generalize IntKind.wrap .i64 (gg.aB - 1)=A at *;first|rfl|trivial|(simp only[decide_eq_true_eq,decide_eq_false_iff_not,aJ,ag] at *;omega)|(rcases fs with ⟨t1,t2,t3,t4,t5⟩|⟨t1,t4,t5⟩<;>(try rw[t4])<;>(try rw[t5])<;>clear t4 t5<;>simp only[decide_eq_true_eq,decide_eq_false_iff_not,jg,zD,Bool.and_eq_true,Bool.and_eq_false_iff,Bool.not_eq_true',Bool.not_eq_false',ag] at *<;>first|rfl|omega|grind|grind [cm]))
def Hm :∀ n,bu [nC n]
 | 0=>⟨⟨aG nt,λ _ _ _ _ h=>absurd h.1 (b6H _)⟩,af⟩
 | n+1=>by
  have ih:=Hm  n;exact⟨Pg n ⟨ih.1,Ks,x7,jN,af⟩,af⟩
def Ku :bc.Good Fa :=
 ⟨aG nt,λ gg x bA depth hp=>(Hm  (bG x+1)).1.2 gg x bA depth (⟨b6g _,hp⟩)⟩
def Zw(a n:Int):Bool:=decide (((Int.toNat (Int.fdiv a (2 ^ n.toNat)) &&& Int.toNat 1:Nat):Int)=1)
def Jy(k n a:Int)(p q:Bool):Bool:=if k=2 then true else if k=3 then Zw a n else if k=5 then !p else if k=6 then p||q else if k=7 then p&&q else false
mutual
def cv(a:Int):J->Bool
 | ⟨k,n,ks⟩=>Jy k n a ((xm a ks).getD 0 false) ((xm a ks).getD 1 false)
def xm(a:Int):List J->List Bool
 | []=>[]
 | k::ks=>cv a k::xm a ks
end
def oK(a:Int)(z:J):∀ (xs:List J) (i:Nat),i<xs.length->(xm a xs).getD i false=cv a (xs.getD i z)
 | [],i,h=>by simp at h
 | x::xs,0,h=>by simp[xm]
 | x::xs,i+1,h=>by
  have:=oK a z xs i (by simpa using h);simpa [xm] using this
def sY(a:Int)(x:J):cv a x=Jy x.aj x.aT a ((xm a x.U).getD 0 false) ((xm a x.U).getD 1 false):=by
 cases x;rfl
def bY(x:J):Bool:=a8 62 62 x&&bj x
def AA(x:J)(i:Nat):Prop:=bY (x.U.getD i ⟨0,0,[]⟩)=true/\bG (x.U.getD i ⟨0,0,[]⟩)<bG x
def ZX(x:J)(h:bY x=true)(i:Nat)(hi:i<x.U.length):AA x i:=by
 unfold AA;simp only[bY,Bool.and_eq_true] at h ⊢;rw[eH,oi] at h;simp only[Bool.and_eq_true] at h;refine⟨⟨zW _ _ _ _ hi h.1.2,zW _ _ _ _ hi h.2.2⟩,?_⟩;have:=cz (⟨0,0,[]⟩:J) x.U i hi;have:=fh x;omega
def B6(x:J)(h:bY x=true):(x.aj=3->0<=x.aT/\x.aT<=62) /\
  (x.aj=5->x.U.length=1/\AA x 0)/\((x.aj=6\/x.aj=7)->x.U.length=2/\AA x 0/\AA x 1) /\
  (x.aj=1\/x.aj=2\/x.aj=3\/x.aj=5\/x.aj=6\/x.aj=7):=by
 have hk:=ZX x h;simp only[bY,b5M] at h;rw[eH,oi,jg] at h;simp only[b5M,b5K] at h;obtain⟨⟨⟨⟨h1,h2⟩,_⟩,_⟩,h5,_⟩:=h;simp only[tg,b7d,b5K] at h5;refine⟨λ e=>?_,λ e=>?_,λ e=>?_,by omega⟩
 .simpa [zD,e] using h2
 .rw[e] at h1;have IP:x.U.length=1:=by simp[cm] at h1;omega
  exact⟨IP,hk 0 (by omega)⟩
 .have IP:x.U.length=2:=by
   rcases e with e|e<;>rw[e] at h1<;>simp[cm] at h1<;>omega
  exact⟨IP,hk 0 (by omega),hk 1 (by omega)⟩
def yI(a:Int)(x:J)(h:bY x=true):(x.aj=1->cv a x=false)/\(x.aj=2->cv a x=true)/\(x.aj=3->cv a x=Zw a x.aT) /\
  (x.aj=5->cv a x = !cv a (x.U.getD 0 ⟨0,0,[]⟩))/\(x.aj=6->cv a x=(cv a (x.U.getD 0 ⟨0,0,[]⟩)||cv a (x.U.getD 1 ⟨0,0,[]⟩))) /\
  (x.aj=7->cv a x=(cv a (x.U.getD 0 ⟨0,0,[]⟩)&&cv a (x.U.getD 1 ⟨0,0,[]⟩))):=by
 have hf:=B6 x h;rw[sY];refine⟨λ e=>?_,λ e=>?_,λ e=>?_,λ e=>?_,λ e=>?_,λ e=>?_⟩
 .simp[Jy,e]
 .simp[Jy,e]
 .simp[Jy,e]
 .have:=(hf.2.1 e).1;simp only[Jy,e];rw[oK a ⟨0,0,[]⟩ x.U 0 (by omega)];rfl
 .have:=(hf.2.2.1 (.inl e)).1;simp only[Jy,e];rw[oK a ⟨0,0,[]⟩ x.U 0 (by omega),oK a ⟨0,0,[]⟩ x.U 1 (by omega)];rfl
 .have:=(hf.2.2.1 (.inr e)).1;simp only[Jy,e];rw[oK a ⟨0,0,[]⟩ x.U 0 (by omega),oK a ⟨0,0,[]⟩ x.U 1 (by omega)];rfl
def VA(a n:Int)(h:0<=a/\a<=4096):0<=Int.fdiv a (2 ^ n.toNat)/\Int.fdiv a (2 ^ n.toNat)<=4096:=by
 have e:(2:Int) ^ n.toNat=((2 ^ n.toNat:Nat):Int):=by norm_cast
 have hp:0<2 ^ n.toNat:=Nat.pow_pos (by omega);rw[e,b9f _ (by omega)];refine⟨Int.ediv_nonneg h.1 (by omega),?_⟩;have:=Int.ediv_le_self (2 ^ n.toNat:Nat) h.1;omega
def N6(n:Int):ca .u64 n=(0<=n/\n<=18446744073709551615):=rfl
theorem SB:IntKind.u64.min=0:=rfl
theorem SA:IntKind.u64.max=18446744073709551615:=rfl
def N5(n:Int):ca .i64 n=ag n:=rfl
def po(n:Nat):bc:=⟨zC,[.v (.st .expr), .v (.int .i64)],λ (x:J) (atom:Int)=>⟨(some (bG x<n/\bY x=true/\0<=atom/\atom<=4096),[⟨.bool,cv atom x⟩])⟩⟩
def zw:bc:=⟨zC,[.v (.st .expr), .v (.int .i64)],λ (x:J) (atom:Int)=>⟨(some (bY x=true/\0<=atom/\atom<=4096),[⟨.bool,cv atom x⟩])⟩⟩
def S6(x:J)(atom:Int):Nat->aI:=cf
abbrev Dd(n:Nat)(x:J)(atom:Int):Prop:=(let v0:=x.U.getD 1 zE;(x.U.length<=140737488355328 ->
 (aJ (1:Int) x.U.length/\((bG v0<n/\bY v0=true/\0<=atom/\atom<=4096)/\(cv atom v0)=(cv atom x)))))
def RT(n:Nat)(hE:bu [po n]):bc.Good (po (n+1)):=by
 refine⟨aG oU,?_⟩;intro (x:J) (atom:Int) (hp:bG x<n+1/\bY x=true/\0<=atom/\atom<=4096);refine bo [po n] [] [] [2] hE oU L4 (S6 x atom) (let v2:=atom.fdiv (2 ^ x.aT.toNat);let v3:=cv atom x;let v4:=x.U.getD 0 zE;let v0:=bG v4<n/\bY v4=true/\0<=atom/\atom<=4096;let v1:=cv atom v4;let v5:=(0:Int);((ag x.aj->(((decide (x.aj=(2:Int)))=true->true=v3)/\((decide (x.aj=(2:Int)))=false->(((decide (x.aj=(3:Int)))=true->(ag x.aT->((v5<=x.aT/\(x.aT<(64:Int)/\ag v2))/\((v5<=v2/\(v5<=(1:Int)/\(ag v2/\ag (1:Int))))/\(decide ((((v2.toNat &&& (1:Int).toNat:Nat):Int))=(1:Int)))=v3))))/\((decide (x.aj=(3:Int)))=false->(((decide (x.aj=(5:Int)))=true->(x.U.length<=140737488355328->(aJ v5 x.U.length/\(v0/\(!v1)=v3))))/\((decide (x.aj=(5:Int)))=false->(((decide (x.aj=(6:Int)))=true->(x.U.length<=140737488355328->(aJ v5 x.U.length/\(v0/\((v1=false->(Dd n x atom))/\(v1=(!false)->true=v3))))))/\((decide (x.aj=(6:Int)))=false->(((decide (x.aj=(7:Int)))=true->(x.U.length<=140737488355328->(aJ v5 x.U.length/\(v0/\((v1=true->(Dd n x atom))/\(v1=(!true)->false=v3))))))/\((decide (x.aj=(7:Int)))=false->false=v3))))))))))))) ?_;have f1:=B6 x hp.2.1;have f2:=yI atom x hp.2.1;have f3:=VA atom x.aT ⟨hp.2.2.1,hp.2.2.2⟩;refine λ _=>⟨λ _=>?_,λ _=>⟨λ _ _=>⟨⟨?_,?_,?_⟩,⟨?_,?_,?_,?_⟩,?_⟩,λ _=>⟨λ _ _=>⟨?_,?_,?_⟩,λ _=>⟨λ _ _=>⟨?_,?_,λ _ _=>⟨?_,?_,?_⟩,λ _=>?_⟩,λ _=>⟨λ _ _=>⟨?_,?_,λ _ _=>⟨?_,?_,?_⟩,λ _=>?_⟩,λ _=>?_⟩⟩⟩⟩⟩;all_goals try and_intros
 all_goals first|rfl|trivial|omega|(simp only[decide_eq_true_eq,decide_eq_false_iff_not,aJ,ag,N6,N5,SB,SA] at *;omega)|(simp only[AA] at *;grind [aJ,ag,Zw,SB,SA])
def JO :∀ n,bu [po n]
 | 0=>⟨⟨aG oU,λ _ _ h=>absurd h.1 (b6H _)⟩,af⟩
 | n+1=>by
  have ih:=JO  n;exact⟨RT n ⟨ih.1,af⟩,af⟩
def Mp :bc.Good zw :=
 ⟨aG oU,λ x atom hp=>(JO  (bG x+1)).1.2 x atom (⟨b6g _,hp⟩)⟩
def bE(gg:aD):Int:=1 * 2 ^ gg.aY.toNat
def qk(gg:aD)(h:0<=gg.aY/\gg.aY<=3):1<=bE gg/\bE gg<=8:=by
 have:gg.aY=0\/gg.aY=1\/gg.aY=2\/gg.aY=3:=by omega
 unfold bE;rcases this with e|e|e|e<;>rw[e]<;>decide
def dt(gg:aD):sigOk gg=true↔(0<=gg.aY/\gg.aY<=3)/\(0<=gg.aB/\gg.aB<=4):=by
 simp[sigOk]
def isE(gg:aD)(x:J):Bool:=Jr gg x 200 40
def iQ(gg:aD)(x:J):Bool:=sigOk gg&&isE gg x
def isC(gg:aD)(x:J):Bool:=isE gg x&&bj x
def AL(gg:aD)(x:J):isE gg x=true↔a8 (a6 gg.aY) (a6 gg.aB) x=true/\au x<=200/\bm x<=40:=by
 simp only[isE,Jr,b5M,b5K];constructor
 .rintro⟨⟨a,b⟩,c⟩;exact⟨a,by omega,by omega⟩
 .rintro⟨a,b,c⟩;exact⟨⟨a,by omega⟩,by omega⟩
def XJ(t a t' a':Int)(h1:t<=t')(h2:a<=a')(x:J)(h:lB t a x=true):lB t' a' x=true:=by
 rw[jg] at h ⊢;simp only[Bool.and_eq_true] at h ⊢;refine⟨⟨h.1.1,?_⟩,h.2⟩;have:=h.1.2;unfold zD at this ⊢;split
 .rename_i e;rw[b5Q e] at this;simp only[b5K] at this ⊢;omega
 .rename_i e;rw[b5I e] at this;split
  .rename_i e';rw[b5Q e'] at this;simp only[b5K] at this ⊢;omega
  .rename_i e';rw[b5I e'] at this;exact this
mutual
def sV(t a t' a':Int)(h1:t<=t')(h2:a<=a'):∀ x:J,a8 t a x=true->a8 t' a' x=true
 | ⟨k,n,ks⟩=>λ h=>by
  simp only[a8,b5M] at h ⊢;exact⟨XJ t a t' a' h1 h2 _ h.1,LH t a t' a' h1 h2 ks h.2⟩
def LH(t a t' a':Int)(h1:t<=t')(h2:a<=a'):∀ xs:List J,iW t a xs=true->iW t' a' xs=true
 | []=>λ _=>rfl
 | x::xs=>λ h=>by
  simp only[iW,b5M] at h ⊢;exact⟨sV t a t' a' h1 h2 x h.1,LH t a t' a' h1 h2 xs h.2⟩
end
def a2T(gg:aD)(x:J)(hg:sigOk gg=true)(h:isC gg x=true):bY x=true:=by
 simp only[isC,b5M,AL] at h;rw[dt] at hg;rw[iG _ (by omega),iG _ (by omega)] at h;simp only[bY,b5M];exact⟨sV _ _ _ _ (by omega) (by omega) x h.1.1,h.2⟩
def a3F(p:Nat->Bool):Nat->Bool
 | 0=>true
 | n+1=>a3F p n&&p n
def ki:bc:=⟨Du,[.v (.st .sig)],λ (gg:aD)=>⟨(some (0<=gg.aY/\gg.aY<=3),[⟨(.int .i64),bE gg⟩])⟩⟩
def OU(gg:aD):Nat->aI:=cf
def jO:bc.Good ki:=by
 refine⟨aG z8,?_⟩;intro (gg:aD) (hp:0<=gg.aY/\gg.aY<=3);refine bo [] [] [] [1] trivial z8 Ia (OU gg) (let v0:=(1:Int) * 2 ^ gg.aY.toNat;((ag gg.aY->(((0:Int)<=gg.aY/\(gg.aY<(64:Int)/\ag v0))/\v0=(bE gg))))) ?_;have f1:=qk gg hp;refine λ _=>⟨⟨?_,?_,?_⟩,?_⟩;all_goals try and_intros
 all_goals first|rfl|trivial|(simp only[b5K,b5L,aJ,ag,N6,N5,SB,SA,bE] at *;omega)
def lF:bc:=⟨Fy,[.v (.st .sig), .v (.st .expr)],λ (gg:aD) (x:J)=>⟨(none,[⟨.bool,isE gg x⟩])⟩⟩
def Ri(gg:aD)(x:J):Nat->aI:=cf
def kU:bc.Good lF:=by
 refine⟨aG CS,?_⟩;intro (gg:aD) (x:J) _;refine bo [Fa] [] [] [2,3] ⟨Ku,af⟩ CS JV (Ri gg x) (((0<=(200:Int)/\(200:Int)<=1048576/\0<=(40:Int)/\(40:Int)<=1048576)/\(ag (Pk gg x (200:Int) (40:Int))->(Jr gg x (200:Int) (40:Int))=(isE gg x)))) ?_;refine⟨?_,λ _=>?_⟩;all_goals try and_intros
 all_goals first|rfl|trivial|omega|(simp only[b5K,b5L,aJ,ag,ca,ei,cY,bn] at *;omega)|(simp[aJ,ag] at *;omega)|grind
def HG:bc:=⟨HR,[.v (.st .sig), .r (.st .expr)],λ (gg:aD) (x:J)=>⟨(none,[⟨.bool,iQ gg x⟩])⟩⟩
def Ta(gg:aD)(x:J):Nat->aI:=cf
abbrev De(gg:aD)(x:J):Prop:=(let v0:=decide (((bm x:Int))<=(40:Int));(bm x<=1048576/\(ag ((bm x:Int)) ->
 ((v0=true ->
 (a8 (a6 gg.aY) (a6 gg.aB) x)=(iQ gg x))/\(v0=(!true) ->
 false=(iQ gg x))))))
def Mt:bc.Good HG:=by
 refine⟨aG En,?_⟩;intro (gg:aD) (x:J) _;refine bo [wP,Di,AT,Dk] [] [] [2] ⟨x9,II,G5,IK,af⟩ En L8 (Ta gg x) (let v0:=decide ((0:Int)<=(Hj (au x) (200:Int)));let v1:=a8 (a6 gg.aY) (a6 gg.aB) x;((((sigOk gg)=true->((0<=(200:Int)/\(200:Int)<=1048576)/\(ag (Hj (au x) (200:Int))->((v0=true->(De gg x))/\(v0=(!true)->((false=true->v1=(iQ gg x))/\(false=(!true)->false=(iQ gg x))))))))/\((sigOk gg)=(!true)->((false=true->(De gg x))/\(false=(!true)->((false=true->v1=(iQ gg x))/\(false=(!true)->false=(iQ gg x))))))))) ?_;have f1:=Gx (au x) 200;have f2:=Kb x;have f3:iQ gg x=(sigOk gg&&(a8 (a6 gg.aY) (a6 gg.aB) x&&decide ((au x:Int)<=200)&&decide ((bm x:Int)<=40))):=rfl;refine⟨λ _=>⟨?_,λ _=>⟨λ _=>⟨?_,λ _=>⟨λ _=>?_,λ _=>?_⟩⟩,λ _=>⟨λ _=>?_,λ _=>?_⟩⟩⟩,λ _=>⟨λ _=>⟨?_,λ _=>⟨λ _=>?_,λ _=>?_⟩⟩,λ _=>⟨λ _=>?_,λ _=>?_⟩⟩⟩;all_goals try and_intros
 all_goals try rw[f3]
 all_goals first|rfl|trivial|omega|(simp only[b5K,b5L,b6j,b6A] at *;omega)|grind
def nU:bc:=⟨wZ,[.v (.st .sig), .v (.slice (.st .expr))],λ (gg:aD) (xs:List J)=>⟨(none,[⟨.bool,bH (isE gg) xs&&sigOk gg⟩])⟩⟩
def I8(gg:aD)(xs:List J):Nat->aI:=(fu 0 (.b (Nat) (λ k=>k<=xs.length/\bH (isE gg) (xs.take k)=true) (λ k=>xs.length - k) [0,1] (λ k=>[(9, .aO ⟨(.int .i64),((k:Int):Int)⟩)])) cf)
def pX:bc.Good nU:=by
 refine⟨aG uk,?_⟩;intro (gg:aD) (xs:List J) _;refine bo [lF,qF] [] [] [2] ⟨kU,uw,af⟩ uk DO (I8 gg xs) (let v0:=(xs.length:Int);((ag v0->((∃ k1:Nat,((k1<=xs.length/\bH (isE gg) (xs.take k1)=true)/\((gg=gg/\(xs=xs/\(v0=v0/\((0:Int)=(k1:Int)/\True))))/\True)))/\(∀ k1:Nat,let v1 := !(isE gg (aV (xs.getD k1 zE)));((k1<=xs.length/\bH (isE gg) (xs.take k1)=true)->(((decide ((k1:Int)<v0))=true->(aJ (k1:Int) xs.length/\((v1=true->false=(bH (isE gg) xs&&sigOk gg))/\(v1=false->(ag ((k1:Int)+(1:Int))/\(∃ k2:Nat,((k2<=xs.length/\bH (isE gg) (xs.take k2)=true)/\(xs.length - k2<xs.length - k1/\((gg=gg/\(xs=xs/\(v0=v0/\(((k1:Int)+(1:Int))=(k2:Int)/\True))))/\True)))))))))/\((decide ((k1:Int)<v0))=false->(sigOk gg)=(bH (isE gg) xs&&sigOk gg))))))))) ?_;have f1:=all_zero (isE gg) xs;refine λ _=>⟨⟨0,?_,⟨rfl,rfl,rfl,?_,af⟩,af⟩,λ k1 _=>have a1l:=dM (isE gg) zE xs k1;have a1m:=eK (isE gg) zE xs k1;have a1n:=eE (isE gg) xs k1;⟨λ _=>⟨?_,λ _=>?_,λ _=>⟨?_,k1+1,?_,?_,⟨rfl,rfl,rfl,?_,af⟩,af⟩⟩,λ _=>?_⟩⟩;all_goals try and_intros
 all_goals try (first|with_reducible rfl|with_reducible assumption)
 all_goals try simp only[J.eta,aE.eta,aQ,bq] at *
 all_goals first|rfl|trivial|(simp only[b5K,b5L,aJ,ag] at *;omega)|(simp_all;done)|(simp_all [aJ,ag];omega)
open Go.RowKit Go.Proofs
def om(s p:List UInt8):List UInt8:=(Lib.cut s p).1
def kd(s p:List UInt8):List UInt8:=(Lib.cut s p).2.1
def rV(s p:List UInt8):Bool:=(Lib.cut s p).2.2
def Au(s p:List UInt8):List UInt8:=bif rV s p then om s p else []
def Yt(s p:List UInt8)(i:Nat):Lib.occAt s p i=true↔(s.take (i+p.length)).drop i=p:=by
 unfold Lib.occAt;rw[List.isPrefixOf_iff_prefix,List.prefix_iff_eq_take,List.drop_take,Nat.add_sub_cancel_left];exact eq_comm
def a4e(s p:List UInt8)(i:Nat)(h:Lib.NoOcc s p i)(hi:i+p.length<=s.length)(e:(s.take (i+p.length)).drop i=p):Au s p=s.take i/\kd s p=s.drop (i+p.length)/\rV s p=true:=by
 have hx:=Lib.index_hit h (by omega) ((Yt s p i).2 e);have hc:Lib.cut s p=(s.take i,s.drop (i+p.length),true):=by
  unfold Lib.cut;rw[hx,if_pos (by omega),Int.toNat_natCast]
 simp[Au,kd,rV,om,hc]
def a7C(s p:List UInt8)(i:Nat)(h:Lib.NoOcc s p i)(e:¬ (s.take (i+p.length)).drop i=p):Lib.NoOcc s p (i+1) :=
 h.succ (by
  cases q:Lib.occAt s p i with
  | false=>rfl
  | true=>exact absurd ((Yt s p i).1 q) e)
def a4d(s p:List UInt8)(i:Nat)(h:Lib.NoOcc s p i)(hp:1<=p.length)(hi:s.length<i+p.length):Au s p=[]/\kd s p=[]/\rV s p=false:=by
 have hx:=Lib.index_past (λ e=>by rw[e] at hp;simp at hp) h hi;have hc:Lib.cut s p=(s,[],false):=by
  unfold Lib.cut;rw[hx];rfl
 simp[Au,kd,rV,om,hc]
def natAdd(a b:Nat):((a:Int)+(b:Int)).toNat=a+b:=by omega
def TS(s p:List UInt8):(om s p).length<=s.length/\(kd s p).length<=s.length:=by
 unfold om kd Lib.cut;split
 .simp only[b6T,b7e];omega
 .simp
def Fc:bc:=⟨FI,[.v .str, .v .str],λ (s:List UInt8) (p:List UInt8)=>⟨(some (s.length<=1048576/\1<=p.length/\p.length<=100),[⟨.str,Au s p⟩,⟨.str,kd s p⟩,⟨.bool,rV s p⟩])⟩⟩
def Rq(s:List UInt8)(p:List UInt8):Nat->aI:=(fu 0 (.b (Nat) (λ i=>Lib.NoOcc s p i/\i<=s.length) (λ i=>s.length - i) [] (λ i=>[(7, .aO ⟨(.int .i64),((i:Int):Int)⟩)])) cf)
def Kx:bc.Good Fc:=by
 refine⟨aG C2,?_⟩;intro (s:List UInt8) (p:List UInt8) (hp:s.length<=1048576/\1<=p.length/\p.length<=100);refine bo [] [] [] [] trivial C2 J5 (Rq s p) (let v0:=(p.length:Int);let v1:=(s.length:Int);(((∃ i1:Nat,((Lib.NoOcc s p i1/\i1<=s.length)/\((s=s/\(p=p/\((0:Int)=(i1:Int)/\True)))/\True)))/\(∀ i1:Nat,let v2:=(i1:Int)+v0;let v3:=decide (((s.take (Int.toNat v2)).drop i1)=p);((Lib.NoOcc s p i1/\i1<=s.length)->(ag v0->(ag v2/\(ag v1->(((decide (v2<=v1))=true->(ag v0->(ag v2/\(ei (i1:Int) v2 s.length/\((v3=true->(ei (0:Int) (i1:Int) s.length/\(ag v2/\(ei v2 v1 s.length/\(ag v0->(((s.take i1).drop 0)=(Au s p)/\(((s.take (Int.toNat v1)).drop (Int.toNat v2))=(kd s p)/\true=(rV s p))))))))/\(v3=false->(ag ((i1:Int)+(1:Int))/\(∃ i2:Nat,((Lib.NoOcc s p i2/\i2<=s.length)/\(s.length - i2<s.length - i1/\((s=s/\(p=p/\(((i1:Int)+(1:Int))=(i2:Int)/\True)))/\True)))))))))))/\((decide (v2<=v1))=false->([]=(Au s p)/\([]=(kd s p)/\false=(rV s p))))))))))))) ?_;have f0:=Lib.NoOcc.zero s p;refine⟨⟨0,?_,⟨rfl,rfl,?_,af⟩,af⟩,λ i1 _=>have a8Q:=a4e s p i1;have a8R:=a7C s p i1;have a8S:=a4d s p i1;λ _=>⟨?_,λ _=>⟨λ _ _=>⟨?_,?_,λ _=>⟨?_,?_,?_,λ _=>⟨?_,?_,?_⟩⟩,λ _=>⟨?_,i1+1,?_,?_,⟨rfl,rfl,?_,af⟩,af⟩⟩,λ _=>⟨?_,?_,?_⟩⟩⟩⟩;all_goals try and_intros
 all_goals first|rfl|trivial|omega|(simp only[b5K,b5L,aJ,ag,ei,natAdd,b5R,b8P] at *;first|omega|grind)|grind
def Fe:bc:=⟨FJ,[.v .str, .v .str],λ (s:List UInt8) (p:List UInt8)=>⟨(some (s.length<=1048576),[⟨.str,om s p⟩,⟨.str,kd s p⟩,⟨.bool,rV s p⟩])⟩⟩
def Ky:bc.Good Fe:=by
 refine⟨aG Oy rfl (by decide),?_⟩;intro (s:List UInt8) (p:List UInt8) hp w S bK hS ha;match bK,ha with
 | [v,u],ha =>
  obtain⟨⟨x,hv,hx,sd⟩,⟨y,hu,hy,hyl⟩,_⟩:=ha;simp only[b5J,b5W] at hv hu;subst hv hu;have hp2:s.length<=1048576:=hp;obtain⟨_,m,hm⟩:=hS.2 0 (b5Z.2 rfl);have kE:x.size<4294967281:=by
   have:x.data.toList.length=s.length:=congrArg List.length hx;rw[c0h,this];omega
  have hl:=TS s p;have ex:x.data.toList=s:=hx;have ey:y.data.toList=p:=hy;refine (Tryz.strings_Cut x y m w kE hm).mono ?_;rw[ex,ey];rintro e w' ⟨rfl,n,rfl⟩;refine⟨_,S,_,rfl,rfl,⟨rfl,rfl,rfl,b6k _,λ b _ _=>rfl⟩,λ b _=>b7k,λ b h=>hS.1 b h,[_,_,_],rfl,?_,?_,rfl,af⟩
  .refine⟨_,rfl,rfl,?_⟩;have:(⟨(Lib.cut s p).1.toArray⟩:ByteArray).size=(om s p).length:=by rw[c0h];rfl
   rw[this];omega
  .refine⟨_,rfl,rfl,?_⟩;have:(⟨(Lib.cut s p).2.1.toArray⟩:ByteArray).size=(kd s p).length:=by rw[c0h];rfl
   rw[this];omega
end
end Go.Proofs.YtlpndogmpcolnaaGreatDoor

namespace Go.Proofs.YtlpndogmpcolnaaGreatDoor
open Go.RowKit Go.Proofs
def Xb:(Tryz.prog.info? 126).map (·.size)=some 2:=by kernel_rfl
def a3V:liesAt Tryz.prog Tryz.prog.depth 126 (2 / Tryz.prog.cellsOf 126) 0 126 1=true:=by kernel_rfl
def a3U:(Tryz.prog.info? 5).map (λ i=>(i.zero,i.size,i.bytes))=some (some (.int .u8 0),1,1):=by kernel_rfl
def iX(b:Nat)(w w':World):Prop:=∀ k cs T fz,w.heap[k]?=some (.cells cs T fz)->T≠5->k≠b->w'.heap[k]?=w.heap[k]?
def iX.refl(b:Nat)(w:World):iX b w w:=λ _ _ _ _ _ _ _=>rfl
def iX.trans{b:Nat}{w w1 w2:World}(h:iX b w w1)(k:iX b w1 w2):iX b w w2:=λ i cs T fz hi hT hb=>by
 have e:=h i cs T fz hi hT hb;rw[k i cs T fz (e.trans hi) hT hb,e]
def iX.setCell{b:Nat}{w w1:World}(h:iX b w w1)(o:Nat)(v:Value):iX b w (w1.setCell ⟨b,o,none⟩ v):=λ i cs T fz hi hT hb=>by
 rw[Below.heap_setCell w1 _ v i hb];exact h i cs T fz hi hT hb
def cN{w:World}{k:Nat}{x:Obj}(h:w.heap[k]?=some x):k<w.heap.size:=by
 rcases b6E k w.heap.size with h'|h'
 .exact h'
 .simp[b7i h'] at h
def iX.alloc{b:Nat}{w w1:World}(h:iX b w w1)(o:Obj):iX b w (w1.alloc o):=λ i cs T fz hi hT hb=>by
 have e:=h i cs T fz hi hT hb;rw[<-e];exact b7H w1 o i (cN (e.trans hi))
set_option maxRecDepth 100000 in
def OD(b:Nat)(w:World)(h0:w.cell? ⟨b,0,none⟩=some (.pointer (some ⟨b,0,none⟩))) :
  Calls Tryz.prog 98 #[.pointer (some ⟨b,0,none⟩)] w λ e w'=>e = .returned (.tuple #[])/\w'=w:=by
 obtain⟨j,hj,_⟩:=b6C.1 Xb;go_enter Tryz.func98,Tryz.ntmps98;go_wp2;rw[Lib.run_neq_ptr_same w _ Tryz.underlying124 hj];go_wp2;go_end0;exact⟨rfl,rfl⟩
set_option maxRecDepth 100000 in
def Mc(b:Nat)(w:World)(h0:w.cell? ⟨b,0,none⟩=some (.pointer none))(DZ:w.shape? b=some (126,2))(hfz:w.frozen? ⟨b,0,none⟩=false) :
  Calls Tryz.prog 98 #[.pointer (some ⟨b,0,none⟩)] w λ e w'=>e = .returned (.tuple #[])/\w'=w.setCell ⟨b,0,none⟩ (.pointer (some ⟨b,0,none⟩)):=by
 obtain⟨j,hj,hjs⟩:=b6C.1 Xb;go_enter Tryz.func98,Tryz.ntmps98;go_wp2;rw[Lib.run_to_unsafe w ⟨b,0,none⟩ Tryz.underlying124 Tryz.underlying165 hj (by rw[hjs];decide) DZ (Nat.zero_lt_succ 1)];simp only[Result.andThen];rw[b9J];go_wp2;rw[run_callFunc_extern Tryz.func106 (by kernel_rfl) (by kernel_rfl) (by kernel_rfl) (e:=Extern.AbiNoEscape.same) (by kernel_rfl)];rw[Lib.run_noEscape];simp only[Result.andThen];rw[b9J];go_wp2;rw[Lib.run_from_unsafe w ⟨b,0,none⟩ Tryz.underlying165 Tryz.underlying124 hj DZ a3V];simp only[Result.andThen];rw[b9J];go_wp2;go_end0;exact⟨rfl,rfl⟩
def ZF(B b:Nat)(bs:List Value)(w:World)(h:Lib.IsBuilder 126 5 B b bs w) :
  Calls Tryz.prog 98 #[.pointer (some ⟨b,0,none⟩)] w λ e w'=>e = .returned (.tuple #[])/\(Lib.BuilderAt 126 5 B b (.pointer (some ⟨b,0,none⟩)) bs w'/\Below B w w'/\iX b w w'):=by
 rcases h with h|h
 .refine (Mc b w h.cell0 h.shape h.frozen0).mono ?_;rintro e w' ⟨rfl,rfl⟩;exact⟨rfl,h.used _,(b9q B w).setCell (p:=⟨b,0,none⟩) h.1 _,(iX.refl b w).setCell 0 _⟩
 .refine (OD b w h.cell0).mono ?_;rintro e w' ⟨rfl,rfl⟩;exact⟨rfl,h,b9q B _,iX.refl b _⟩
set_option maxRecDepth 100000 in
def writeString(B b:Nat)(bs:List Value)(s:ByteArray)(w:World)(h:Lib.IsBuilder 126 5 B b bs w)(hlen:bs.length+s.size<=140737488355328)(iB:B<=w.heap.size) :
  Calls Tryz.prog 86 #[.pointer (some ⟨b,0,none⟩), .string s] w λ e w'=>e = .returned (.tuple #[.int .i64 s.size, .nilIface])/\(Lib.IsBuilder 126 5 B b (bs++Lib.strCells s) w'/\Below B w w'/\iX b w w'):=by
 obtain⟨i0,hi,hz⟩:=b6C.1 a3U;simp only[b5H] at hz;obtain⟨hz0,hz1,hz2⟩:=hz;go_enter Tryz.func86,Tryz.ntmps86;go_wp2_with (go_at_call 98;refine (ZF B b bs _ h).mono ?_);rintro e w1 ⟨rfl,h1,wv,IW⟩;obtain⟨hB,v,Z2,kV,eu⟩:=h1;have c0:w1.cell? ⟨b,0,none⟩=some (.pointer (some ⟨b,0,none⟩)):=by rw[b8D Z2];rfl
 have c1:w1.cell? ⟨b,1,none⟩=some v:=by rw[b8D Z2];rfl
 go_wp2_with (at_builtin;refine Lib.wpList_append_own_string _ rfl _ _ 22 9 rfl B 5 i0 Tryz.underlying22 Tryz.underlying9 hi hz0 hz1 hz2 _ _ _ rfl kV s rfl ?c3 ?c4 ?c5 ?_);case c3=>unfold maxLen;omega
 case c4=>omega
 case c5=>have:=wv.size;omega
 intro v' w2 a4N tL _;have bp:b<w1.heap.size:=cN Z2;have ET:w2.heap[b]?=some (.cells #[.pointer (some ⟨b,0,none⟩),v] 126 (0,0)):=by
  rw[tL.block b bp (λ e=>eu e.symm)];exact Z2
 have d0:w2.cell? ⟨b,0,none⟩=some (.pointer (some ⟨b,0,none⟩)):=by rw[b8D ET];rfl
 have d1:w2.cell? ⟨b,1,none⟩=some v:=by rw[b8D ET];rfl
 have f1:w2.frozen? ⟨b,1,none⟩=false:=Lib.frozen_of_heap ET 1;have hk2:iX b w1 w2:=λ i cs T fz hi hT hib=>tL.block i (cN hi) λ e=>by
  rcases kV.2 with ⟨hv,_⟩|⟨g,cap,cur,hv,_,hg,_⟩
  .rw[hv] at e;cases e
  .rw[hv] at e;injection e with e;subst e;rw[hg] at hi;simp only[b5E,Obj.cells.injEq] at hi;exact hT hi.2.1.symm
 obtain⟨ao,n',cap,rfl⟩:∃ ao n' cap,v' = .slice ao n' cap:=by
  rcases a4N.2 with ⟨hv,_⟩|⟨g,cap,cur,hv,_⟩
  .exact⟨_,_,_,hv⟩
  .exact⟨_,_,_,hv⟩
 go_wp2;go_ret2;refine⟨rfl,?_,?_,?_⟩
 .exact Or.inr (Lib.BuilderAt.put (T:=126) (e:=5) hB ET (bs':=bs++Lib.strCells s) (by simpa [Lib.strCells_length] using a4N) (by decide))
 .exact (wv.grown tL (by have:=wv.size;omega) (λ k hk=>(kV.lt k hk).1)).setCell (p:=⟨b,1,none⟩) hB _
 .exact (IW.trans hk2).setCell 1 _
end Go.Proofs.YtlpndogmpcolnaaGreatDoor

namespace Go.Proofs
open Go.Shelf
def Tryz.KX:Go.Shelf.Ren:=⟨λ|169=>65|n=>n,λ|70=>124|9=>9|0=>0|72=>126|37=>22|127=>152|3=>3|5=>5|n=>n,λ|n=>n⟩
def Tryz.a5c:Go.Proofs.Lays.n169 Tryz.prog Tryz.KX:={
 mixed:=by kernel_rfl
 f169:=Tryz.func65.trans (congrArg some (by kernel_rfl))
 t0:=Tryz.underlying0
 a0:=Tryz.isAgg0
 z0:=Tryz.sizeOf0
 v0:=Tryz.zeroValue0
 t3:=Tryz.underlying3
 a3:=Tryz.isAgg3
 z3:=Tryz.sizeOf3
 v3:=Tryz.zeroValue3
 t9:=Tryz.underlying9
 a9:=Tryz.isAgg9
 z9:=Tryz.sizeOf9
 v9:=Tryz.zeroValue9
 t37:=Tryz.underlying22
 a37:=Tryz.isAgg22
 z37:=Tryz.sizeOf22
 v37:=Tryz.zeroValue22
 t70:=Tryz.underlying124
 a70:=Tryz.isAgg124
 z70:=Tryz.sizeOf124
 v70:=Tryz.zeroValue124
 t72:=Tryz.underlying126
 a72:=Tryz.isAgg126
 z72:=Tryz.sizeOf126
 v72:=Tryz.zeroValue126
 t127:=Tryz.underlying152
 a127:=Tryz.isAgg152
 z127:=Tryz.sizeOf152
 v127:=Tryz.zeroValue152 }
def Tryz.H3:Builder.Extra Tryz.prog Tryz.KX:={
 sizeBuilder:=by kernel_rfl
 liesBuilder:=by kernel_rfl
 t5:=Tryz.underlying5
 a5:=Tryz.isAgg5
 z5:=Tryz.sizeOf5
 v5:=Tryz.zeroValue5
 infoByte:=by kernel_rfl
 cellsByte:=by kernel_rfl
 sizeByte:=by kernel_rfl
 neB5:=by decide }
open Go.RowKit in
def Tryz.Builder_String_any(B b:Nat)(l:List UInt8)(w:World)(h:Lib.IsBuilder 126 5 B b (Lib.byteCells l) w)(iB:B<=w.heap.size) :
  Calls Tryz.prog 65 #[.pointer (some ⟨b,0,none⟩)] w λ e w'=>e = .returned (.string ⟨l.toArray⟩)/\Below B w w':=Any.Builder_String_any Tryz.a5c Tryz.H3 B b l w h iB
def Tryz.We:Go.Shelf.Ren:=⟨λ|246=>107|283=>113|284=>114|285=>115|286=>116|129=>121|317=>120|318=>122|319=>123|320=>124|337=>135|338=>136|n=>n,λ|2=>2|3=>3|9=>9|4=>4|171=>176|0=>0|53=>63|37=>22|5=>5|173=>179|212=>184|51=>157|20=>20|213=>185|46=>101|232=>202|233=>203|n=>n,λ|17=>1|18=>2|19=>3|n=>n⟩
def Tryz.a5d:Go.Proofs.Lays.n246 Tryz.prog Tryz.We:={
 mixed:=by kernel_rfl
 f129:=Tryz.func121.trans (congrArg some (by kernel_rfl))
 f246:=Tryz.func107.trans (congrArg some (by kernel_rfl))
 f283:=Tryz.func113.trans (congrArg some (by kernel_rfl))
 f284:=Tryz.func114.trans (congrArg some (by kernel_rfl))
 f285:=Tryz.func115.trans (congrArg some (by kernel_rfl))
 f286:=Tryz.func116.trans (congrArg some (by kernel_rfl))
 f317:=Tryz.func120.trans (congrArg some (by kernel_rfl))
 f318:=Tryz.func122.trans (congrArg some (by kernel_rfl))
 f319:=Tryz.func123.trans (congrArg some (by kernel_rfl))
 f320:=Tryz.func124.trans (congrArg some (by kernel_rfl))
 f337:=Tryz.func135.trans (congrArg some (by kernel_rfl))
 f338:=Tryz.func136.trans (congrArg some (by kernel_rfl))
 t0:=Tryz.underlying0
 a0:=Tryz.isAgg0
 z0:=Tryz.sizeOf0
 v0:=Tryz.zeroValue0
 t2:=Tryz.underlying2
 a2:=Tryz.isAgg2
 z2:=Tryz.sizeOf2
 v2:=Tryz.zeroValue2
 t3:=Tryz.underlying3
 a3:=Tryz.isAgg3
 z3:=Tryz.sizeOf3
 v3:=Tryz.zeroValue3
 t4:=Tryz.underlying4
 a4:=Tryz.isAgg4
 z4:=Tryz.sizeOf4
 v4:=Tryz.zeroValue4
 t5:=Tryz.underlying5
 a5:=Tryz.isAgg5
 z5:=Tryz.sizeOf5
 v5:=Tryz.zeroValue5
 t9:=Tryz.underlying9
 a9:=Tryz.isAgg9
 z9:=Tryz.sizeOf9
 v9:=Tryz.zeroValue9
 t20:=Tryz.underlying20
 a20:=Tryz.isAgg20
 z20:=Tryz.sizeOf20
 v20:=Tryz.zeroValue20
 t37:=Tryz.underlying22
 a37:=Tryz.isAgg22
 z37:=Tryz.sizeOf22
 v37:=Tryz.zeroValue22
 t46:=Tryz.underlying101
 a46:=Tryz.isAgg101
 z46:=Tryz.sizeOf101
 v46:=Tryz.zeroValue101
 t51:=Tryz.underlying157
 a51:=Tryz.isAgg157
 z51:=Tryz.sizeOf157
 v51:=Tryz.zeroValue157
 t53:=Tryz.underlying63
 a53:=Tryz.isAgg63
 z53:=Tryz.sizeOf63
 v53:=Tryz.zeroValue63
 t171:=Tryz.underlying176
 a171:=Tryz.isAgg176
 z171:=Tryz.sizeOf176
 v171:=Tryz.zeroValue176
 t173:=Tryz.underlying179
 a173:=Tryz.isAgg179
 z173:=Tryz.sizeOf179
 v173:=Tryz.zeroValue179
 t212:=Tryz.underlying184
 a212:=Tryz.isAgg184
 z212:=Tryz.sizeOf184
 v212:=Tryz.zeroValue184
 t213:=Tryz.underlying185
 a213:=Tryz.isAgg185
 z213:=Tryz.sizeOf185
 t232:=Tryz.underlying202
 a232:=Tryz.isAgg202
 z232:=Tryz.sizeOf202
 v232:=Tryz.zeroValue202
 t233:=Tryz.underlying203
 a233:=Tryz.isAgg203
 z233:=Tryz.sizeOf203
 v233:=Tryz.zeroValue203
 g17:=by kernel_rfl
 g18:=by kernel_rfl
 g19:=by kernel_rfl }
open Go.RowKit Go.Sort Go.Lib in
def Tryz.internal_strconv_FormatInt_10_small(i:Nat)(hi:i<100)(w:World) :
  Calls Tryz.prog 107 #[.int .i64 i, .int .i64 10] w λ e w'=>e = .returned (.string ⟨(Lib.decDigits i).toArray⟩)/\w'=w:=Any.internal_strconv_FormatInt_10_small Tryz.a5d i hi w
end Go.Proofs

namespace Go.Proofs.YtlpndogmpcolnaaGreatDoor
open Go.RowKit Go.Proofs
def Qe{B b:Nat}{p:Value}{bs:List Value}{w:World}(h:Lib.BuilderAt 126 5 B b p bs w)(o:Obj):Lib.BuilderAt 126 5 B b p bs (w.alloc o):=by
 obtain⟨hB,v,hb,kV,eu⟩:=h;exact⟨hB,v,by rw[b7H w o b (cN hb)];exact hb,kV.alloc _,eu⟩
abbrev uN(B b:Nat)(l:List UInt8)(w:World):Prop:=Lib.IsBuilder 126 5 B b (Lib.byteCells l) w
def lE{B b:Nat}{l:List UInt8}{w:World}(h:uN B b l w)(o:Obj):uN B b l (w.alloc o):=h.imp (λ h=>Qe h o) (λ h=>Qe h o)
def KR{B b:Nat}{l:List UInt8}{w:World}(h:uN B b l w):b<w.heap.size:=by
 rcases h with h|h<;>exact h.lt
def oo{B:Nat}{w:World}(h:B<=w.heap.size)(o:Obj):B<=(w.alloc o).heap.size:=by simp;omega
def Ap{b:Nat}{w w1:World}{cs:Array Value}(h:iX b (w.alloc (.cells cs 32)) w1)(hb:b<w.heap.size)(j:Nat){v:Value}(hj:cs[j]?=some v):w1.cell? ⟨w.heap.size,j,none⟩=some v:=by
 have e:=h w.heap.size cs 32 (0,0) (b7L w _) (by decide) (by omega);rw[b8z (a:=⟨w.heap.size,j,none⟩) e,b8D (b7L w _)];exact hj
structure Wr(B b:Nat)(l t:List UInt8)(w w':World):Prop where
 ME:uN B b (l++t) w'
 er:Below B w w'
 keep:iX b w w'
def Wr.trans{B b:Nat}{l t u:List UInt8}{w w1 w2:World}(h:Wr B b l t w w1)(k:Wr B b (l++t) u w1 w2):Wr B b l (t++u) w w2 :=
 ⟨by rw[<-b6v];exact k.ME,h.er.trans k.er,h.keep.trans k.keep⟩
def Wr.alloc{B b:Nat}{l t:List UInt8}{w w1:World}{o:Obj}(h:Wr B b l t (w.alloc o) w1)(iB:B<=w.heap.size):Wr B b l t w w1 :=
 ⟨h.ME,((b9q B w).alloc iB _).trans h.er,((iX.refl b w).alloc _).trans h.keep⟩
def ws(B b:Nat)(l:List UInt8)(s:ByteArray)(w:World)(h:uN B b l w)(hlen:l.length+s.data.toList.length<=140737488355328)(iB:B<=w.heap.size) :
  Calls Tryz.prog 86 #[.pointer (some ⟨b,0,none⟩), .string s] w λ e w'=>e = .returned (.tuple #[.int .i64 s.size, .nilIface])/\Wr B b l s.data.toList w w':=by
 refine (writeString B b _ s w h (by simpa [Lib.byteCells_length] using hlen) iB).mono ?_;rintro e w' ⟨rfl,h1,h2,h3⟩;refine⟨rfl,?_,h2,h3⟩;have:Lib.byteCells l++Lib.strCells s=Lib.byteCells (l++s.data.toList):=by simp[Lib.byteCells,Lib.strCells]
 rw[uN,<-this];exact h1
abbrev GC(B b:Nat)(v:Value)(l t:List UInt8)(w:World):Prop :=
 Calls Tryz.prog 64 #[.pointer (some ⟨b,0,none⟩),v] w λ e w'=>e = .returned (.tuple #[])/\Wr B b l t w w'
set_option maxRecDepth 100000 in
def Mm(i:Nat)(hi:i<100)(w:World) :
  Calls Tryz.prog 99 #[.int .i64 i, .int .i64 10] w λ e w'=>e = .returned (.string ⟨(Lib.decDigits i).toArray⟩)/\w'=w:=by
 go_enter Tryz.func99,Tryz.ntmps99;go_wp2_with (go_at_call 107;refine (Tryz.internal_strconv_FormatInt_10_small i hi _).mono ?_);rintro e w1 ⟨he,hw⟩;subst he hw;go_wp2;go_ret;exact⟨rfl,rfl⟩
set_option maxRecDepth 100000 in
def Ex(i:Nat)(hi:i<100)(w:World) :
  Calls Tryz.prog 87 #[.int .i64 i] w λ e w'=>e = .returned (.string ⟨(Lib.decDigits i).toArray⟩)/\w'=w:=by
 go_enter Tryz.func87,Tryz.ntmps87;go_wp2_with (go_at_call 99;refine (Mm i hi _).mono ?_);rintro e w1 ⟨he,hw⟩;subst he hw;go_wp2;go_ret;exact⟨rfl,rfl⟩
set_option maxRecDepth 100000 in
def we1(B b:Nat)(l:List UInt8)(n:Int)(sl:Value)(w:World)(h:uN B b l w)(hlen:l.length+1<=140737488355328)(iB:B<=w.heap.size) :
  GC B b (.agg #[.int .i64 1, .int .i64 n,sl]) l [48] w:=by
 go_enter Tryz.func64,Tryz.ntmps64;go_wp2_with (go_at_call 86;refine (ws B b l _ _ (lE h _) (by exact hlen) (oo iB _)).mono ?_);intro e w1 he h1;subst he;go_wp2;go_end0;exact⟨rfl,h1.alloc iB⟩
set_option maxRecDepth 100000 in
def we2(B b:Nat)(l:List UInt8)(n:Int)(sl:Value)(w:World)(h:uN B b l w)(hlen:l.length+1<=140737488355328)(iB:B<=w.heap.size) :
  GC B b (.agg #[.int .i64 2, .int .i64 n,sl]) l [49] w:=by
 go_enter Tryz.func64,Tryz.ntmps64;go_wp2_with (go_at_call 86;refine (ws B b l _ _ (lE h _) (by exact hlen) (oo iB _)).mono ?_);intro e w1 he h1;subst he;go_wp2;go_end0;exact⟨rfl,h1.alloc iB⟩
set_option maxRecDepth 100000 in
def we3(B b:Nat)(l:List UInt8)(i:Nat)(hi:i<100)(sl:Value)(w:World)(h:uN B b l w)(hlen:l.length+((Lib.decDigits i).length+1)<=140737488355328)(iB:B<=w.heap.size) :
  GC B b (.agg #[.int .i64 3, .int .i64 i,sl]) l (116::Lib.decDigits i) w:=by
 go_enter Tryz.func64,Tryz.ntmps64;go_wp2_with (go_at_call 87;refine (Ex i hi _).mono ?_);rintro e w1 ⟨he,hw⟩;subst he hw;go_wp2_with (go_at_call 86;refine (ws B b l _ _ (lE h _) (by simp;omega) (oo iB _)).mono ?_);rintro e w1 ⟨he,h1⟩;subst he;go_wp2;go_end0;exact⟨rfl,by simpa using h1.alloc iB⟩
set_option maxRecDepth 100000 in
def we4(B b:Nat)(l:List UInt8)(i:Nat)(hi:i<100)(sl:Value)(w:World)(h:uN B b l w)(hlen:l.length+((Lib.decDigits i).length+1)<=140737488355328)(iB:B<=w.heap.size) :
  GC B b (.agg #[.int .i64 4, .int .i64 i,sl]) l (97::Lib.decDigits i) w:=by
 go_enter Tryz.func64,Tryz.ntmps64;go_wp2_with (go_at_call 87;refine (Ex i hi _).mono ?_);rintro e w1 ⟨he,hw⟩;subst he hw;go_wp2_with (go_at_call 86;refine (ws B b l _ _ (lE h _) (by simp;omega) (oo iB _)).mono ?_);rintro e w1 ⟨he,h1⟩;subst he;go_wp2;go_end0;exact⟨rfl,by simpa using h1.alloc iB⟩
set_option maxRecDepth 100000 in
def we5(B b:Nat)(l t:List UInt8)(n:Int)(kb ko cap:Nat)(c0 c1 c2:Value)(w:World)(h:uN B b l w)(hlen:l.length+(t.length+1)<=140737488355328)(iB:B<=w.heap.size)
  (sa:∀ w1,Below B w w1->∀ j v,[c0,c1,c2][j]?=some v->w1.cell? ⟨kb,ko+0+j,none⟩=some v)
  (ih0:∀ w1 l1,Below B w w1->uN B b l1 w1->B<=w1.heap.size->l1.length+t.length<=140737488355328->GC B b (.agg #[c0,c1,c2]) l1 t w1)
  : GC B b (.agg #[.int .i64 5, .int .i64 n, .slice (some ⟨kb,ko,none⟩) 1 cap]) l (126::t) w:=by
 go_enter Tryz.func64,Tryz.ntmps64;go_wp2_with (go_at_call 86;refine (ws B b l _ _ (lE h _) (by simp;omega) (oo iB _)).mono ?_);intro e w1 he h1;subst he;have c2':=Ap h1.keep (KR h) 2 rfl;have q00:w1.cell? ⟨kb,ko,none⟩=some c0:=by simpa [Nat.add_assoc] using sa w1 (h1.alloc iB).er 0 _ rfl
 have q01:w1.cell? ⟨kb,ko+1,none⟩=some c1:=by simpa [Nat.add_assoc] using sa w1 (h1.alloc iB).er 1 _ rfl
 have q02:w1.cell? ⟨kb,ko+2,none⟩=some c2:=by simpa [Nat.add_assoc] using sa w1 (h1.alloc iB).er 2 _ rfl
 go_wp2_with (go_at_call 64;refine (ih0 w1 _ (h1.alloc iB).er h1.ME (by have:=(h1.alloc iB).er.size;omega) (by simp;omega)).mono ?_);rintro e w2 ⟨he,h2⟩;subst he;go_wp2;go_end0;exact⟨rfl,((h1.alloc iB).trans h2)⟩
set_option maxRecDepth 100000 in
def we8(B b:Nat)(l t:List UInt8)(n:Int)(kb ko cap:Nat)(c0 c1 c2:Value)(w:World)(h:uN B b l w)(hlen:l.length+(t.length+1)<=140737488355328)(iB:B<=w.heap.size)
  (sa:∀ w1,Below B w w1->∀ j v,[c0,c1,c2][j]?=some v->w1.cell? ⟨kb,ko+0+j,none⟩=some v)
  (ih0:∀ w1 l1,Below B w w1->uN B b l1 w1->B<=w1.heap.size->l1.length+t.length<=140737488355328->GC B b (.agg #[c0,c1,c2]) l1 t w1)
  : GC B b (.agg #[.int .i64 8, .int .i64 n, .slice (some ⟨kb,ko,none⟩) 1 cap]) l (t++[42]) w:=by
 have ES:Below B w (w.alloc (.cells #[.int .i64 8, .int .i64 n, .slice (some ⟨kb,ko,none⟩) 1 cap] 32)):=(Below.refl B w).alloc iB _;have q00:(w.alloc (.cells #[.int .i64 8, .int .i64 n, .slice (some ⟨kb,ko,none⟩) 1 cap] 32)).cell? ⟨kb,ko,none⟩=some c0:=by simpa [Nat.add_assoc] using sa (w.alloc (.cells #[.int .i64 8, .int .i64 n, .slice (some ⟨kb,ko,none⟩) 1 cap] 32)) ES 0 _ rfl
 have q01:(w.alloc (.cells #[.int .i64 8, .int .i64 n, .slice (some ⟨kb,ko,none⟩) 1 cap] 32)).cell? ⟨kb,ko+1,none⟩=some c1:=by simpa [Nat.add_assoc] using sa (w.alloc (.cells #[.int .i64 8, .int .i64 n, .slice (some ⟨kb,ko,none⟩) 1 cap] 32)) ES 1 _ rfl
 have q02:(w.alloc (.cells #[.int .i64 8, .int .i64 n, .slice (some ⟨kb,ko,none⟩) 1 cap] 32)).cell? ⟨kb,ko+2,none⟩=some c2:=by simpa [Nat.add_assoc] using sa (w.alloc (.cells #[.int .i64 8, .int .i64 n, .slice (some ⟨kb,ko,none⟩) 1 cap] 32)) ES 2 _ rfl
 go_enter Tryz.func64,Tryz.ntmps64;go_wp2_with (go_at_call 64;refine (ih0 _ _ ES (lE h _) (oo iB _) (by omega)).mono ?_);rintro e w1 ⟨he,h1⟩;subst he;go_wp2_with (go_at_call 86;refine (ws B b _ _ _ h1.ME (by simp;omega) (by have:=(h1.alloc iB).er.size;omega)).mono ?_);intro e w2 he h2;subst he;go_wp2;go_end0;exact⟨rfl,((h1.alloc iB).trans h2)⟩
set_option maxRecDepth 100000 in
def we6(B b:Nat)(l t u:List UInt8)(n:Int)(kb ko cap:Nat)(c0 c1 c2 d0 d1 d2:Value)(w:World)(h:uN B b l w)(hlen:l.length+(t.length+u.length+5)<=140737488355328)(iB:B<=w.heap.size)
  (sa:∀ w1,Below B w w1->∀ j v,[c0,c1,c2][j]?=some v->w1.cell? ⟨kb,ko+0+j,none⟩=some v)
  (ih0:∀ w1 l1,Below B w w1->uN B b l1 w1->B<=w1.heap.size->l1.length+t.length<=140737488355328->GC B b (.agg #[c0,c1,c2]) l1 t w1)
  (IW:∀ w1,Below B w w1->∀ j v,[d0,d1,d2][j]?=some v->w1.cell? ⟨kb,ko+3+j,none⟩=some v)
  (ih1:∀ w1 l1,Below B w w1->uN B b l1 w1->B<=w1.heap.size->l1.length+u.length<=140737488355328->GC B b (.agg #[d0,d1,d2]) l1 u w1)
  : GC B b (.agg #[.int .i64 6, .int .i64 n, .slice (some ⟨kb,ko,none⟩) 2 cap]) l ([40]++(t++([32,43,32]++(u++[41])))) w:=by
 go_enter Tryz.func64,Tryz.ntmps64;go_wp2_with (go_at_call 86;refine (ws B b l _ _ (lE h _) (by simp;omega) (oo iB _)).mono ?_);intro e w1 he h1;subst he;have e1:=Ap h1.keep (KR h) 2 rfl;have q00:w1.cell? ⟨kb,ko,none⟩=some c0:=by simpa [Nat.add_assoc] using sa w1 (h1.alloc iB).er 0 _ rfl
 have q01:w1.cell? ⟨kb,ko+1,none⟩=some c1:=by simpa [Nat.add_assoc] using sa w1 (h1.alloc iB).er 1 _ rfl
 have q02:w1.cell? ⟨kb,ko+2,none⟩=some c2:=by simpa [Nat.add_assoc] using sa w1 (h1.alloc iB).er 2 _ rfl
 have g1:=h1.alloc iB;have s1:B<=w1.heap.size:=by have:=g1.er.size;omega
 go_wp2_with (go_at_call 64;refine (ih0 w1 _ g1.er h1.ME s1 (by simp;omega)).mono ?_);rintro e w2 ⟨he,h2⟩;subst he;have s2:B<=w2.heap.size:=by have:=h2.er.size;omega
 go_wp2_with (go_at_call 86;refine (ws B b _ _ _ h2.ME (by simp;omega) s2).mono ?_);intro e w3 he h3;subst he;have e3:=Ap (h1.keep.trans (h2.keep.trans h3.keep)) (KR h) 2 rfl;have g3:=g1.er.trans (h2.er.trans h3.er);have q10:w3.cell? ⟨kb,ko+3,none⟩=some d0:=by simpa [Nat.add_assoc] using IW w3 g3 0 _ rfl
 have q11:w3.cell? ⟨kb,ko+4,none⟩=some d1:=by simpa [Nat.add_assoc] using IW w3 g3 1 _ rfl
 have q12:w3.cell? ⟨kb,ko+5,none⟩=some d2:=by simpa [Nat.add_assoc] using IW w3 g3 2 _ rfl
 have s3:B<=w3.heap.size:=by have:=h3.er.size;omega
 go_wp2_with (go_at_call 64;refine (ih1 w3 _ g3 h3.ME s3 (by simp;omega)).mono ?_);rintro e w4 ⟨he,h4⟩;subst he;have s4:B<=w4.heap.size:=by have:=h4.er.size;omega
 go_wp2_with (go_at_call 86;refine (ws B b _ _ _ h4.ME (by simp;omega) s4).mono ?_);intro e w5 he h5;subst he;go_wp2;go_end0;have j2:Wr B b (l++[40]) t w1 w2:=by simpa using h2
 have j3:Wr B b (l++[40]++t) [32,43,32] w2 w3:=by simpa using h3
 have j4:Wr B b (l++[40]++t++[32,43,32]) u w3 w4:=by simpa using h4
 have j5:Wr B b (l++[40]++t++[32,43,32]++u) [41] w4 w5:=by simpa using h5
 exact⟨rfl,g1.trans (j2.trans (j3.trans (j4.trans j5)))⟩
set_option maxRecDepth 100000 in
def we7(B b:Nat)(l t u:List UInt8)(n:Int)(kb ko cap:Nat)(c0 c1 c2 d0 d1 d2:Value)(w:World)(h:uN B b l w)(hlen:l.length+(t.length+u.length+3)<=140737488355328)(iB:B<=w.heap.size)
  (sa:∀ w1,Below B w w1->∀ j v,[c0,c1,c2][j]?=some v->w1.cell? ⟨kb,ko+0+j,none⟩=some v)
  (ih0:∀ w1 l1,Below B w w1->uN B b l1 w1->B<=w1.heap.size->l1.length+t.length<=140737488355328->GC B b (.agg #[c0,c1,c2]) l1 t w1)
  (IW:∀ w1,Below B w w1->∀ j v,[d0,d1,d2][j]?=some v->w1.cell? ⟨kb,ko+3+j,none⟩=some v)
  (ih1:∀ w1 l1,Below B w w1->uN B b l1 w1->B<=w1.heap.size->l1.length+u.length<=140737488355328->GC B b (.agg #[d0,d1,d2]) l1 u w1)
  : GC B b (.agg #[.int .i64 7, .int .i64 n, .slice (some ⟨kb,ko,none⟩) 2 cap]) l ([40]++(t++([32]++(u++[41])))) w:=by
 go_enter Tryz.func64,Tryz.ntmps64;go_wp2_with (go_at_call 86;refine (ws B b l _ _ (lE h _) (by simp;omega) (oo iB _)).mono ?_);intro e w1 he h1;subst he;have e1:=Ap h1.keep (KR h) 2 rfl;have q00:w1.cell? ⟨kb,ko,none⟩=some c0:=by simpa [Nat.add_assoc] using sa w1 (h1.alloc iB).er 0 _ rfl
 have q01:w1.cell? ⟨kb,ko+1,none⟩=some c1:=by simpa [Nat.add_assoc] using sa w1 (h1.alloc iB).er 1 _ rfl
 have q02:w1.cell? ⟨kb,ko+2,none⟩=some c2:=by simpa [Nat.add_assoc] using sa w1 (h1.alloc iB).er 2 _ rfl
 have g1:=h1.alloc iB;have s1:B<=w1.heap.size:=by have:=g1.er.size;omega
 go_wp2_with (go_at_call 64;refine (ih0 w1 _ g1.er h1.ME s1 (by simp;omega)).mono ?_);rintro e w2 ⟨he,h2⟩;subst he;have s2:B<=w2.heap.size:=by have:=h2.er.size;omega
 go_wp2_with (go_at_call 86;refine (ws B b _ _ _ h2.ME (by simp;omega) s2).mono ?_);intro e w3 he h3;subst he;have e3:=Ap (h1.keep.trans (h2.keep.trans h3.keep)) (KR h) 2 rfl;have g3:=g1.er.trans (h2.er.trans h3.er);have q10:w3.cell? ⟨kb,ko+3,none⟩=some d0:=by simpa [Nat.add_assoc] using IW w3 g3 0 _ rfl
 have q11:w3.cell? ⟨kb,ko+4,none⟩=some d1:=by simpa [Nat.add_assoc] using IW w3 g3 1 _ rfl
 have q12:w3.cell? ⟨kb,ko+5,none⟩=some d2:=by simpa [Nat.add_assoc] using IW w3 g3 2 _ rfl
 have s3:B<=w3.heap.size:=by have:=h3.er.size;omega
 go_wp2_with (go_at_call 64;refine (ih1 w3 _ g3 h3.ME s3 (by simp;omega)).mono ?_);rintro e w4 ⟨he,h4⟩;subst he;have s4:B<=w4.heap.size:=by have:=h4.er.size;omega
 go_wp2_with (go_at_call 86;refine (ws B b _ _ _ h4.ME (by simp;omega) s4).mono ?_);intro e w5 he h5;subst he;go_wp2;go_end0;have j2:Wr B b (l++[40]) t w1 w2:=by simpa using h2
 have j3:Wr B b (l++[40]++t) [32] w2 w3:=by simpa using h3
 have j4:Wr B b (l++[40]++t++[32]) u w3 w4:=by simpa using h4
 have j5:Wr B b (l++[40]++t++[32]++u) [41] w4 w5:=by simpa using h5
 exact⟨rfl,g1.trans (j2.trans (j3.trans (j4.trans j5)))⟩
end Go.Proofs.YtlpndogmpcolnaaGreatDoor

namespace Go.Proofs.YtlpndogmpcolnaaGreatDoor
noncomputable section
open Go.RowKit Go.Proofs
def iA(n:Int):List UInt8:=Lib.decDigits n.toNat
def Tn(k n:Int)(p q:List UInt8):List UInt8:=if k=1 then [48] else if k=2 then [49] else if k=3 then 116::iA n else if k=4 then 97::iA n else if k=5 then 126::p
 else if k=6 then [40]++(p++([32,43,32]++(q++[41]))) else if k=7 then [40]++(p++([32]++(q++[41]))) else p++[42]
mutual
def aX:J->List UInt8
 | ⟨k,n,ks⟩=>Tn k n ((Ou ks).getD 0 []) ((Ou ks).getD 1 [])
def Ou:List J->List (List UInt8)
 | []=>[]
 | k::ks=>aX k::Ou ks
end
def oc(z:J):∀ (xs:List J) (i:Nat),i<xs.length->(Ou xs).getD i []=aX (xs.getD i z)
 | [],i,h=>by simp at h
 | x::xs,0,h=>by simp[Ou]
 | x::xs,i+1,h=>by
  have:=oc z xs i (by simpa using h);simpa [Ou] using this
def a8J(x:J):aX x=Tn x.aj x.aT ((Ou x.U).getD 0 []) ((Ou x.U).getD 1 []):=by
 cases x;rfl
def aF(x:J):Bool:=a8 9 9 x
def xZ(x:J)(i:Nat):Prop:=aF (x.U.getD i zE)=true/\bG (x.U.getD i zE)<bG x
def wo(x:J)(h:aF x=true)(i:Nat)(hi:i<x.U.length):xZ x i:=by
 unfold xZ;simp only[aF] at h ⊢;rw[eH] at h;simp only[Bool.and_eq_true] at h;refine⟨zW _ _ _ _ hi h.2,?_⟩;have:=cz (zE:J) x.U i hi;have:=fh x;omega
def cF(x:J)(h:aF x=true):((x.aj=3\/x.aj=4)->0<=x.aT/\x.aT<=9) /\
  ((x.aj=5\/x.aj=8)->x.U.length=1/\xZ x 0)/\((x.aj=6\/x.aj=7)->x.U.length=2/\xZ x 0/\xZ x 1) /\
  (x.aj=1\/x.aj=2\/x.aj=3\/x.aj=4\/x.aj=5\/x.aj=6\/x.aj=7\/x.aj=8):=by
 have hk:=wo x h;simp only[aF] at h;rw[eH,jg] at h;simp only[b5M,b5K] at h;obtain⟨⟨⟨h1,h2⟩,_⟩,_⟩:=h;refine⟨λ e=>?_,λ e=>?_,λ e=>?_,?_⟩
 .rcases e with e|e<;>simpa [zD,e] using h2
 .have IP:x.U.length=1:=by
   rcases e with e|e<;>rw[e] at h1<;>simp[cm] at h1<;>omega
  exact⟨IP,hk 0 (by omega)⟩
 .have IP:x.U.length=2:=by
   rcases e with e|e<;>rw[e] at h1<;>simp[cm] at h1<;>omega
  exact⟨IP,hk 0 (by omega),hk 1 (by omega)⟩
 .unfold cm at h1;split at h1
  .omega
  .split at h1
   .omega
   .split at h1<;>omega
def cu(x:J)(h:aF x=true):(x.aj=1->aX x=[48])/\(x.aj=2->aX x=[49])/\(x.aj=3->aX x=116::iA x.aT)/\(x.aj=4->aX x=97::iA x.aT) /\
  (x.aj=5->aX x=126::aX (x.U.getD 0 zE)) /\
  (x.aj=6->aX x=[40]++(aX (x.U.getD 0 zE)++([32,43,32]++(aX (x.U.getD 1 zE)++[41])))) /\
  (x.aj=7->aX x=[40]++(aX (x.U.getD 0 zE)++([32]++(aX (x.U.getD 1 zE)++[41])))) /\
  (x.aj=8->aX x=aX (x.U.getD 0 zE)++[42]):=by
 have hf:=cF x h;rw[a8J];refine⟨λ e=>?_,λ e=>?_,λ e=>?_,λ e=>?_,λ e=>?_,λ e=>?_,λ e=>?_,λ e=>?_⟩
 .simp[Tn,e]
 .simp[Tn,e]
 .simp[Tn,e]
 .simp[Tn,e]
 .have:=(hf.2.1 (.inl e)).1;rw[oc zE x.U 0 (by omega)];simp[Tn,e]
 .have:=(hf.2.2.1 (.inl e)).1;rw[oc zE x.U 0 (by omega),oc zE x.U 1 (by omega)];simp[Tn,e]
 .have:=(hf.2.2.1 (.inr e)).1;rw[oc zE x.U 0 (by omega),oc zE x.U 1 (by omega)];simp[Tn,e]
 .have:=(hf.2.1 (.inr e)).1;rw[oc zE x.U 0 (by omega)];simp[Tn,e]
def Ke(n:Int)(h:0<=n/\n<=9):(iA n).length=1:=by
 unfold iA;rw[Lib.decDigits_one (by omega)];rfl
def a6h(f:J->Nat)(z:J)(xs:List J)(h:xs.length=2):dy f xs=f (xs.getD 0 z)+f (xs.getD 1 z):=by
 match xs,h with
 | [a,b],_=>simp[dy]
def a6g(f:J->Nat)(z:J)(xs:List J)(h:xs.length=1):dy f xs=f (xs.getD 0 z):=by
 match xs,h with
 | [a],_=>simp[dy]
def sZ:∀ (N:Nat) (x:J),bG x<N->aF x=true->(aX x).length<=5 * au x
 | 0,x,h,_=>by omega
 | N+1,x,hN,h=>by
  have hf:=cF x h;have ht:=cu x h;have hn:=lM x;rcases hf.2.2.2 with e|e|e|e|e|e|e|e
  .rw[ht.1 e];simp;omega
  .rw[ht.2.1 e];simp;omega
  .rw[ht.2.2.1 e];have:=Ke _ (hf.1 (.inl e));simp;omega
  .rw[ht.2.2.2.1 e];have:=Ke _ (hf.1 (.inr e));simp;omega
  .rw[ht.2.2.2.2.1 e];obtain⟨hl,h0⟩:=hf.2.1 (.inl e);have i0:=sZ N _ (by have:=h0.2;omega) h0.1;rw[a6g _ zE _ hl] at hn;simp only[b5S];omega
  .rw[ht.2.2.2.2.2.1 e];obtain⟨hl,h0,h1⟩:=hf.2.2.1 (.inl e);have i0:=sZ N _ (by have:=h0.2;omega) h0.1;have i1:=sZ N _ (by have:=h1.2;omega) h1.1;rw[a6h _ zE _ hl] at hn;simp only[b5Y,b5S,b6d];omega
  .rw[ht.2.2.2.2.2.2.1 e];obtain⟨hl,h0,h1⟩:=hf.2.2.1 (.inr e);have i0:=sZ N _ (by have:=h0.2;omega) h0.1;have i1:=sZ N _ (by have:=h1.2;omega) h1.1;rw[a6h _ zE _ hl] at hn;simp only[b5Y,b5S,b6d];omega
  .rw[ht.2.2.2.2.2.2.2 e];obtain⟨hl,h0⟩:=hf.2.1 (.inr e);have i0:=sZ N _ (by have:=h0.2;omega) h0.1;rw[a6g _ zE _ hl] at hn;simp only[b5Y,b5S,b6d];omega
def Bi{w:World}{S:Nat->Prop}{x:J}{cs:List Value}(h:Rd w S x.aL cs):∃ a cap,cs=[.int .i64 x.aj, .int .i64 x.aT, .slice a x.U.length cap] /\
  (x.U=[]\/∃ b o,a=some ⟨b,o,none⟩/\S b/\dh w S (x.U.map J.aL) b o):=by
 cases x with
 | mk k n ks =>
  simp only[J.aL,Rd,cP] at h;obtain⟨v0,r0,rfl,⟨h0,_⟩,v1,r1,rfl,⟨h1,_⟩,v2,r2,rfl,⟨a,cap,h2,_,_,_,h3⟩,rfl⟩:=h;simp only[b5J,b5W] at h0 h1 h2;subst h0 h1 h2;rw[J.LF] at *
  refine⟨a,cap,by simp,h3.imp (λ h=>by simpa using h) id⟩
def Wu{w:World}{S:Nat->Prop}{x:J}{b o:Nat}(h:dh w S (x.U.map J.aL) b o)(i:Nat)(hi:i<x.U.length) :
  ∃ c0 c1 c2,Rd w S (x.U.getD i zE).aL [c0,c1,c2]/\bP w b (o+3 * i) [c0,c1,c2]:=by
 obtain⟨cs,h1,h2,h3⟩:=dh.at_ (n:=3) _ b o h (λ d hd=>by
  obtain⟨y,_,rfl⟩:=b5N.1 hd;cases y;rfl) i (x.U.getD i zE).aL (by simp[b7m,b5P,b6e hi])
 match cs,h1 with
 | [c0,c1,c2],_=>exact⟨c0,c1,c2,h2,by rw[Nat.mul_comm];exact h3⟩
def H0(B b:Nat)(S:Nat->Prop)(hS:∀ k,S k->k<B):∀ (N:Nat) (x:J),bG x<N->aF x=true->∀ (l:List UInt8) (w:World) (cs:List Value),uN B b l w->B<=w.heap.size ->
  l.length+(aX x).length<=140737488355328->Rd w S x.aL cs->GC B b (.agg cs.toArray) l (aX x) w
 | 0,x,h,_=>by omega
 | N+1,x,hN,h=>by
  intro l w cs hI hB hl hr;have hf:=cF x h;have ht:=cu x h;obtain⟨a,cap,rfl,hk⟩:=Bi hr;have zx:∀ i,i<x.U.length->xZ x i->∃ kb ko c0 c1 c2,a=some ⟨kb,ko,none⟩/\(∀ j,j≠i->True)/\(∀ w1,Below B w w1->∀ j v,[c0,c1,c2][j]?=some v->w1.cell? ⟨kb,ko+3 * i+j,none⟩=some v) /\
    (∀ w1 l1,Below B w w1->uN B b l1 w1->B<=w1.heap.size->l1.length+(aX (x.U.getD i zE)).length<=140737488355328->GC B b (.agg #[c0,c1,c2]) l1 (aX (x.U.getD i zE)) w1):=by
   intro i hi hg;rcases hk with hk|⟨kb,ko,rfl,hSk,gG⟩
   .rw[hk] at hi;simp at hi
   .obtain⟨c0,c1,c2,h1,h2⟩:=Wu gG i hi;refine⟨kb,ko,c0,c1,c2,rfl,λ _ _=>trivial,λ w1 hw j v hj=>?_,λ w1 l1 hw hI1 hB1 ON=>?_⟩
    .exact h2.keep (hw.block kb (hS kb hSk)) j v hj
    .exact H0 B b S hS N _ (by have:=hg.2;omega) hg.1 l1 w1 [c0,c1,c2] hI1 hB1 ON (h1.keep (λ _ h=>h) (λ k hk=>hw.block k (hS k hk)))
  rcases hf.2.2.2 with e|e|e|e|e|e|e|e
  .rw[ht.1 e] at hl ⊢;rw[e];exact we1 B b l _ _ w hI hl hB
  .rw[ht.2.1 e] at hl ⊢;rw[e];exact we2 B b l _ _ w hI hl hB
  .have hn:=hf.1 (.inl e);rw[ht.2.2.1 e] at hl ⊢;rw[e,show x.aT=((x.aT.toNat:Nat):Int) by omega];exact we3 B b l _ (by omega) _ w hI (by simpa [iA] using hl) hB
  .have hn:=hf.1 (.inr e);rw[ht.2.2.2.1 e] at hl ⊢;rw[e,show x.aT=((x.aT.toNat:Nat):Int) by omega];exact we4 B b l _ (by omega) _ w hI (by simpa [iA] using hl) hB
  .obtain⟨hn,h0⟩:=hf.2.1 (.inl e);obtain⟨kb,ko,c0,c1,c2,rfl,_,q1,q2⟩:=zx 0 (by omega) h0;rw[ht.2.2.2.2.1 e] at hl ⊢;rw[e,hn];exact we5 B b l _ _ kb ko cap c0 c1 c2 w hI (by simpa using hl) hB q1 q2
  .obtain⟨hn,h0,h1⟩:=hf.2.2.1 (.inl e);obtain⟨kb,ko,c0,c1,c2,rfl,_,q1,q2⟩:=zx 0 (by omega) h0;obtain⟨kb',ko',d0,d1,d2,eq,_,p1,p2⟩:=zx 1 (by omega) h1;cases eq;rw[ht.2.2.2.2.2.1 e] at hl ⊢;rw[e,hn];exact we6 B b l _ _ _ kb ko cap c0 c1 c2 d0 d1 d2 w hI (by simp at hl ⊢;omega) hB q1 q2 p1 p2
  .obtain⟨hn,h0,h1⟩:=hf.2.2.1 (.inr e);obtain⟨kb,ko,c0,c1,c2,rfl,_,q1,q2⟩:=zx 0 (by omega) h0;obtain⟨kb',ko',d0,d1,d2,eq,_,p1,p2⟩:=zx 1 (by omega) h1;cases eq;rw[ht.2.2.2.2.2.2.1 e] at hl ⊢;rw[e,hn];exact we7 B b l _ _ _ kb ko cap c0 c1 c2 d0 d1 d2 w hI (by simp at hl ⊢;omega) hB q1 q2 p1 p2
  .obtain⟨hn,h0⟩:=hf.2.1 (.inr e);obtain⟨kb,ko,c0,c1,c2,rfl,_,q1,q2⟩:=zx 0 (by omega) h0;rw[ht.2.2.2.2.2.2.2 e] at hl ⊢;rw[e,hn];exact we8 B b l _ _ kb ko cap c0 c1 c2 w hI (by simpa using hl) hB q1 q2
def wO:bc:=⟨FB,[.v (.st .expr)],λ (x:J)=>⟨(some (aF x=true/\(aX x).length<=1000000),[⟨.str,aX x⟩])⟩⟩
set_option maxRecDepth 100000 in
def LC(x:J)(w:World)(S:Nat->Prop)(hS:∀ b,S b->b<w.heap.size)(hg:aF x=true)(hl:(aX x).length<=1000000)(cs:List Value)(hr:Rd w S x.aL cs) :
  Calls Tryz.prog 47 #[.agg cs.toArray] w λ e w'=>e = .returned (.string ⟨(aX x).toArray⟩)/\Below w.heap.size w w':=by
 obtain⟨a,cap,rfl,hk⟩:=Bi hr;have hI:∀ o:Obj,uN (w.heap.size+1) (w.heap.size+1) [] ((w.alloc o).alloc (.cells #[.pointer none, .slice none 0 0] 126)):=λ o=>by
  have:=Lib.fresh_isBuilder 126 5 (w.alloc o);rw[show (w.alloc o).heap.size=w.heap.size+1 by simp] at this;exact this
 have hB:∀ o p:Obj,w.heap.size+1<=((w.alloc o).alloc p).heap.size:=λ o p=>by simp
 have hw:∀ o p:Obj,Below w.heap.size w ((w.alloc o).alloc p):=λ o p=>((Below.refl _ w).alloc (Nat.le_refl _) o).alloc (by simp) p;go_enter Tryz.func47,Tryz.ntmps47;go_wp2_with (go_at_call 64;refine (H0 (w.heap.size+1) (w.heap.size+1) S (λ k hk=>Nat.lt_succ_of_lt (hS k hk)) (bG x+1) x (Nat.lt_succ_self _) hg [] _ _ (hI _) (hB _ _) (by simp;omega) (hr.keep (λ _ h=>h) (λ k hk=>(hw _ _).block k (hS k hk)))).mono ?_);rintro e w1 ⟨he,h1⟩;subst he;have b1:Below w.heap.size w w1:=(hw _ _).trans (h1.er.mono (Nat.le_succ _));have g1:uN (w.heap.size+1) (w.heap.size+1) (aX x) w1:=by simpa using h1.ME
 have z1:w.heap.size+1<=w1.heap.size:=b7g (hB _ _) h1.er.size;clear h1;go_wp2_with (go_at_call 65;refine (Tryz.Builder_String_any (w.heap.size+1) (w.heap.size+1) (aX x) w1 g1 z1).mono ?_);rintro e w2 ⟨he,h2⟩;subst he;go_wp2;go_ret;exact⟨rfl,b1.trans (h2.mono (b9N _))⟩
def Vg{w w':World}(h:Below w.heap.size w w'):bX (λ _=>False) w w':=⟨h.os,h.tape,h.output,h.size,λ b hb _=>h.block b hb⟩
def a8B{w:World}{S:Nat->Prop}(l:List UInt8)(h:l.length<=140737488355328):dE w S ⟨.str,l⟩ (.string ⟨l.toArray⟩) :=
 ⟨⟨l.toArray⟩,rfl,by simp,by simpa [ByteArray.size] using h⟩
def x6:bc.Good wO:=by
 refine⟨aG Ox rfl (by decide),?_⟩;intro x hp w S bK ⟨hS,_⟩ ha;match bK,ha with
 | [v],ha =>
  obtain⟨⟨cs,rfl,hr⟩,_⟩:=ha;refine (LC x w S hS hp.1 hp.2 cs hr).mono ?_;rintro e w' ⟨rfl,hb⟩;exact⟨_,S,_,rfl,rfl,Vg hb,λ _ _=>b7k,λ b h=>b6a (hS b h) hb.size,a8B (w:=w') (S:=S) _ (by have:=hp.2;omega)⟩
def tk(x:J)(i:Nat):J:=x.U.getD i zE
structure TK(x:J)(i:Nat):Prop where
 wm:aF (x.U.getD i zE)=true
 less:bG (x.U.getD i zE)<bG x
 len:(aX (x.U.getD i zE)).length<=(aX x).length
def a6s(x:J)(h:aF x=true)(e:x.aj=3):0<=x.aT/\x.aT<=9/\(iA x.aT).length=1/\aX x=[116]++iA x.aT:=by
 have:=(cF x h).1 (.inl e);exact⟨this.1,this.2,Ke _ this,(cu x h).2.2.1 e⟩
def a6t(x:J)(h:aF x=true)(e:x.aj=4):0<=x.aT/\x.aT<=9/\(iA x.aT).length=1/\aX x=[97]++iA x.aT:=by
 have:=(cF x h).1 (.inr e);exact⟨this.1,this.2,Ke _ this,(cu x h).2.2.2.1 e⟩
def a6u(x:J)(h:aF x=true)(e:x.aj=5):x.U.length=1/\TK x 0/\aX x=[126]++aX (x.U.getD 0 zE):=by
 have hk:=(cF x h).2.1 (.inl e);have ht:=(cu x h).2.2.2.2.1 e;exact⟨hk.1,⟨hk.2.1,hk.2.2,by rw[ht];simp⟩,ht⟩
def Y9(x:J)(h:aF x=true)(e:x.aj=6):x.U.length=2/\TK x 0/\TK x 1/\aX x=[40]++aX (x.U.getD 0 zE)++[32,43,32]++aX (x.U.getD 1 zE)++[41]:=by
 have hk:=(cF x h).2.2.1 (.inl e);have ht:=(cu x h).2.2.2.2.2.1 e;exact⟨hk.1,⟨hk.2.1.1,hk.2.1.2,by rw[ht];simp;omega⟩,⟨hk.2.2.1,hk.2.2.2,by rw[ht];simp;omega⟩,by rw[ht];simp⟩
def Za(x:J)(h:aF x=true)(e:x.aj=7):x.U.length=2/\TK x 0/\TK x 1/\aX x=[40]++aX (x.U.getD 0 zE)++[32]++aX (x.U.getD 1 zE)++[41]:=by
 have hk:=(cF x h).2.2.1 (.inr e);have ht:=(cu x h).2.2.2.2.2.2.1 e;exact⟨hk.1,⟨hk.2.1.1,hk.2.1.2,by rw[ht];simp;omega⟩,⟨hk.2.2.1,hk.2.2.2,by rw[ht];simp;omega⟩,by rw[ht];simp⟩
def b4D(x:J)(h:aF x=true)(e1:¬ x.aj=1)(e2:¬ x.aj=2)(e3:¬ x.aj=3)(e4:¬ x.aj=4)(e5:¬ x.aj=5)(e6:¬ x.aj=6)(e7:¬ x.aj=7):x.U.length=1/\TK x 0/\aX x=aX (x.U.getD 0 zE)++[42]:=by
 have e:x.aj=8:=by have:=(cF x h).2.2.2;omega
 have hk:=(cF x h).2.1 (.inr e);have ht:=(cu x h).2.2.2.2.2.2.2 e;exact⟨hk.1,⟨hk.2.1,hk.2.2,by rw[ht];simp⟩,ht⟩
end
end Go.Proofs.YtlpndogmpcolnaaGreatDoor



namespace Go.Proofs.YtlpndogmpcolnaaGreatDoor
noncomputable section
open Go.RowKit Go.Proofs
def a4c(c:UInt8)(a:List (List UInt8)×List UInt8)(b:UInt8):List (List UInt8)×List UInt8:=bif b == c then (a.1++[a.2],[]) else (a.1,a.2++[b])
def a9a(c:UInt8)(l:List UInt8):List (List UInt8)×List UInt8:=l.foldl (a4c c) ([],[])
def a1r(c:UInt8)(l:List UInt8):List (List UInt8):=(a9a c l).1++[(a9a c l).2]
def bt(n:Int):UInt8:=UInt8.ofNat n.toNat
def gY:bc:=⟨gZ,[.v .str, .v .str],λ (s:List UInt8) (p:List UInt8)=>⟨(none,[⟨.bool,decide (p.length<=s.length)&&decide (s.take p.length=p)⟩])⟩⟩
def oN(s:List UInt8)(p:List UInt8):Nat->aI:=cf
def mT:bc.Good gY:=by
 refine⟨aG gC,?_⟩;intro (s:List UInt8) (p:List UInt8) _;refine bo [] [] [] [] trivial gC mG (oN s p) (let v0:=(p.length:Int);let v1:=decide (p.length<=s.length)&&decide (s.take p.length=p);let v2:=decide (v0<=((s.length:Int)));((ag ((s.length:Int))->(ag v0->((v2=true->(ag v0->(ei (0:Int) v0 s.length/\(decide (((s.take (Int.toNat v0)).drop 0)=p))=v1)))/\(v2=(!true)->false=v1)))))) ?_;refine λ _ _=>⟨λ _ _=>⟨?_,?_⟩,λ _=>?_⟩;all_goals try and_intros
 all_goals first|rfl|trivial|omega|(simp only[b5K,b5L,aJ,ag,ei,bn,b5Y,b5S,b6d] at *;first|omega|grind)|grind
def so:bc:=⟨sI,[.v .str, .v .str],λ (s:List UInt8) (p:List UInt8)=>⟨(none,[⟨.bool,decide (p.length<=s.length)&&decide (s.take p.length=p)⟩])⟩⟩
def Fh(s:List UInt8)(p:List UInt8):Nat->aI:=cf
def AF:bc.Good so:=by
 refine⟨aG pV,?_⟩;intro (s:List UInt8) (p:List UInt8) _;refine bo [gY] [] [] [] ⟨mT,af⟩ pV Ao (Fh s p) (let v0:=decide (p.length<=s.length)&&decide (s.take p.length=p);(v0=v0)) ?_;refine ?_;all_goals try and_intros
 all_goals first|rfl|trivial|omega|(simp only[b5K,b5L,aJ,ag,ca,ei,cY,bn] at *;omega)|(simp[aJ,ag] at *;omega)|grind
end
end Go.Proofs.YtlpndogmpcolnaaGreatDoor

namespace Go.Proofs.YtlpndogmpcolnaaGreatDoor
noncomputable section
def fb(b:UInt8):Bool:=decide (48<=b.toNat)&&decide (b.toNat<=57)
def fK(s:List UInt8):Int:=s.foldl (λ n b=>n * 10+((b.toNat:Int) - 48)) 0
def lO(m:Int)(s:List UInt8):Bool:=decide (1<=s.length)&&decide ((s.length:Int)<=m) && !(decide (1<s.length)&&decide ((s.getD 0 0).toNat=48))&&bH fb s
def kj(m:Int)(s:List UInt8):Int:=bif lO m s then fK s else 0
def Qs(s:List UInt8)(k:Nat)(h:k<s.length):fK (s.take (k+1))=fK (s.take k) * 10+(((s.getD k 0).toNat:Int) - 48):=by
 rw[gL 0 s k h];simp[fK,b8t]
def Xj:∀ (k:Nat) (s:List UInt8),k<=s.length->bH fb (s.take k)=true->0<=fK (s.take k)/\fK (s.take k)<10 ^ k
 | 0,s,_,_=>by simp[fK]
 | k+1,s,h,ha=>by
  have h1:=dM fb 0 s k (by omega);rw[ha] at h1;have IP:=h1.symm;simp only[b5M] at IP;obtain⟨h2,h3⟩:=IP;have ih:=Xj k s (by omega) h2;rw[Qs s k (by omega)];simp only[fb,b5M,b5K] at h3;have:(10:Int) ^ (k+1)=10 ^ k * 10:=by rw[Int.pow_succ]
  omega
def Xk(s:List UInt8)(k:Nat)(h:k<=s.length)(h9:s.length<=9)(ha:bH fb (s.take k)=true):0<=fK (s.take k)/\fK (s.take k)<=1000000000:=by
 have:=Xj k s h ha;have h2:(10:Int) ^ k<=10 ^ 9:=by
  have:(10:Nat) ^ k<=10 ^ 9:=Nat.pow_le_pow_right (by decide) (by omega);exact_mod_cast this
 omega
def a1t(s:List UInt8)(k:Nat):fb (s.getD k 0)=(decide (48<=(s.getD k 0).toNat)&&decide ((s.getD k 0).toNat<=57)):=rfl
def a8L:IntKind.u8.min=0:=rfl
def a8K:IntKind.u8.max=255:=rfl
def a0g(n:Int):ca .u8 n↔0<=n/\n<=255:=b7k
def V2(n:Int):ca .i64 n↔ag n:=b7k
def Bb(m:Int)(s:List UInt8):lO m s=(decide (1<=s.length)&&decide ((s.length:Int)<=m) && !(decide (1<s.length)&&decide ((s.getD 0 0).toNat=48))&&bH fb s):=rfl
def a1W(m:Int)(s:List UInt8)(h:¬ (1<=s.length/\(s.length:Int)<=m/\¬ (1<s.length/\(s.getD 0 0).toNat=48))):kj m s=0/\lO m s=false:=by
 have e:lO m s=false:=by
  cases hb:lO m s with
  | false=>rfl
  | true =>
   rw[Bb] at hb;simp only[b5M,b5K,b6j,b7U,b5L] at hb;exact absurd ⟨hb.1.1.1,hb.1.1.2,λ h=>by rcases hb.1.2 with g|g<;>omega⟩ h
 exact⟨by simp[kj,e],e⟩
structure FP(m:Int)(s:List UInt8)(k:Nat):Prop where
 len:k<=s.length/\s.length<=9
 ok:1<=s.length/\(s.length:Int)<=m/\¬ (1<s.length/\(s.getD 0 0).toNat=48)
 all:bH fb (s.take k)=true
def a3d(m:Int)(s:List UInt8)(h:1<=s.length/\(s.length:Int)<=m/\¬ (1<s.length/\(s.getD 0 0).toNat=48))(hm:m<=9):FP m s 0 :=
 ⟨⟨by omega,by omega⟩,h,by simp[bH]⟩
def Yr(m:Int)(s:List UInt8)(k:Nat)(h:FP m s k)(hk:k<s.length)(hb:(s.getD k 0).toNat<48\/57<(s.getD k 0).toNat):kj m s=0/\lO m s=false:=by
 have e:bH fb s=false:=eK fb 0 s k hk (by rw[a1t,b7U,b5L,b5L];omega);have e':lO m s=false:=by rw[Bb,e];simp
 exact⟨by simp[kj,e'],e'⟩
def M5(m:Int)(s:List UInt8)(k:Nat)(h:FP m s k)(hk:k<s.length)(h1:48<=(s.getD k 0).toNat)(h2:(s.getD k 0).toNat<=57):FP m s (k+1)/\fK (s.take (k+1))=fK (s.take k) * 10+(((s.getD k 0).toNat:Int) - 48) :=
 ⟨⟨⟨hk,h.len.2⟩,h.ok,by rw[dM fb 0 s k hk,h.all,a1t,b6I h1,b6I h2];rfl⟩,Qs s k hk⟩
def Ys(m:Int)(s:List UInt8)(k:Nat)(h:FP m s k)(hk:s.length<=k):kj m s=fK (s.take k)/\lO m s=true:=by
 have e:s.take k=s:=b6J hk;have ha:=h.all;rw[e] at ha;have e':lO m s=true:=by
  rw[Bb,ha];have:=h.ok;simp only[b5M,b5K,b6j,b7U,b5L];exact⟨⟨⟨this.1,this.2.1⟩,(b6E 1 s.length).elim (λ g => .inr (by omega)) (λ g => .inl (by omega))⟩,af⟩
 exact⟨by rw[e];simp[kj,e'],e'⟩
def a8p(m:Int)(s:List UInt8)(k:Nat)(h:FP m s k):k<=s.length/\0<=fK (s.take k)/\fK (s.take k)<=1000000000 :=
 ⟨h.len.1,Xk s k h.len.1 h.len.2 h.all⟩
def yw:bc:=⟨yB,[.v .str],λ (s:List UInt8)=>⟨(none,[⟨(.int .i64),kj 9 s⟩,⟨.bool,lO 9 s⟩])⟩⟩
def KW(s:List UInt8):Nat->aI:=(fu 0 (.b (Nat) (λ k=>FP 9 s k) (λ k=>s.length - k) [6,7,8,9,10,11,12,13,14,15,16,17,18,19,20,21,22,23] (λ k=>[(5, .aO ⟨(.int .i64),((k:Int):Int)⟩),(4, .aO ⟨(.int .i64),(fK (s.take k):Int)⟩)])) cf)
abbrev uz(s:List UInt8)(k1:Nat):Prop:=(let v0:=(((s.getD k1 0).toNat:Int)) - (48:Int);let v1:=(fK (s.take k1)) * (10:Int);(ag v1/\(aJ (k1:Int) s.length/\(ca .u8 v0/\(ag v0/\(ag (v1+v0)/\(ag ((k1:Int)+(1:Int))/\(∃ k2:Nat,(FP 9 s k2/\(s.length - k2<s.length - k1/\((s=s/\((v1+v0)=(fK (s.take k2))/\(((k1:Int)+(1:Int))=(k2:Int)/\True)))/\True)))))))))))
abbrev iS(s:List UInt8):Prop:=(let v0:=(0:Int)=(kj 9 s)/\false=(lO 9 s);let v1:=(s.length:Int);((∃ k1:Nat,(FP 9 s k1/\((s=s/\((0:Int)=(fK (s.take k1))/\((0:Int)=(k1:Int)/\True)))/\True)))/\(∀ k1:Nat,let v2:=((s.getD k1 0).toNat:Int);(FP 9 s k1 ->
 (ag v1 ->
 (((decide ((k1:Int)<v1))=true ->
 (aJ (k1:Int) s.length/\(((decide (v2<(48:Int)))=false ->
 (aJ (k1:Int) s.length/\(((decide ((57:Int)<v2))=true ->
 v0)/\((decide ((57:Int)<v2))=false ->
 (uz s k1)))))/\((decide (v2<(48:Int)))=(!false) ->
 ((true=true ->
 v0)/\(true=false ->
 (uz s k1)))))))/\((decide ((k1:Int)<v1))=false ->
 ((fK (s.take k1))=(kj 9 s)/\true=(lO 9 s)))))))))
abbrev uA(s:List UInt8):Prop:=(let v0:=decide ((((s.getD 0 0).toNat:Int))=(48:Int));let v1:=(0:Int)=(kj 9 s)/\false=(lO 9 s);let v2:=decide ((1:Int)<((s.length:Int)));(aJ (0:Int) s.length/\((v0=true ->
 (ag ((s.length:Int)) ->
 ((v2=true ->
 v1)/\(v2=false ->
 (iS s)))))/\(v0=(!true) ->
 ((false=true ->
 v1)/\(false=false ->
 (iS s)))))))
def EP:bc.Good yw:=by
 refine⟨aG vJ,?_⟩;intro (s:List UInt8) _;refine bo [] [] [] [] trivial vJ Ep (KW s) (let v0:=(s.length:Int);let v1:=(0:Int)=(kj 9 s)/\false=(lO 9 s);((ag v0->(((decide (v0<(1:Int)))=false->(ag v0->(((decide ((9:Int)<v0))=false->(uA s))/\((decide ((9:Int)<v0))=(!false)->((true=true->v1)/\(true=false->(iS s)))))))/\((decide (v0<(1:Int)))=(!false)->((true=false->(uA s))/\(true=(!false)->((true=true->v1)/\(true=false->(iS s)))))))))) ?_;have f1:fK (s.take 0)=0:=by simp[fK]
 refine λ _=>⟨λ _ _=>⟨λ _=>⟨?_,λ _ _=>⟨λ _=>⟨?_,?_⟩,λ _=>⟨⟨0,?_,⟨rfl,?_,?_,af⟩,af⟩,λ k1 _ _=>⟨λ _=>⟨?_,λ _=>⟨?_,λ _=>⟨?_,?_⟩,λ _=>⟨?_,?_,?_,?_,?_,?_,k1+1,?_,?_,⟨rfl,?_,?_,af⟩,af⟩⟩,λ _=>⟨λ _=>⟨?_,?_⟩,λ _=>⟨?_,?_,?_,?_,?_,?_,k1+1,?_,?_,⟨rfl,?_,?_,af⟩,af⟩⟩⟩,λ _=>⟨?_,?_⟩⟩⟩⟩,λ _=>⟨λ _=>⟨?_,?_⟩,λ _=>⟨⟨0,?_,⟨rfl,?_,?_,af⟩,af⟩,λ k1 _ _=>⟨λ _=>⟨?_,λ _=>⟨?_,λ _=>⟨?_,?_⟩,λ _=>⟨?_,?_,?_,?_,?_,?_,k1+1,?_,?_,⟨rfl,?_,?_,af⟩,af⟩⟩,λ _=>⟨λ _=>⟨?_,?_⟩,λ _=>⟨?_,?_,?_,?_,?_,?_,k1+1,?_,?_,⟨rfl,?_,?_,af⟩,af⟩⟩⟩,λ _=>⟨?_,?_⟩⟩⟩⟩⟩,λ _=>⟨λ _=>⟨?_,?_⟩,λ _=>⟨⟨0,?_,⟨rfl,?_,?_,af⟩,af⟩,λ k1 _ _=>⟨λ _=>⟨?_,λ _=>⟨?_,λ _=>⟨?_,?_⟩,λ _=>⟨?_,?_,?_,?_,?_,?_,k1+1,?_,?_,⟨rfl,?_,?_,af⟩,af⟩⟩,λ _=>⟨λ _=>⟨?_,?_⟩,λ _=>⟨?_,?_,?_,?_,?_,?_,k1+1,?_,?_,⟨rfl,?_,?_,af⟩,af⟩⟩⟩,λ _=>⟨?_,?_⟩⟩⟩⟩⟩,λ _=>⟨λ _=>⟨?_,λ _ _=>⟨λ _=>⟨?_,?_⟩,λ _=>⟨⟨0,?_,⟨rfl,?_,?_,af⟩,af⟩,λ k1 _ _=>⟨λ _=>⟨?_,λ _=>⟨?_,λ _=>⟨?_,?_⟩,λ _=>⟨?_,?_,?_,?_,?_,?_,k1+1,?_,?_,⟨rfl,?_,?_,af⟩,af⟩⟩,λ _=>⟨λ _=>⟨?_,?_⟩,λ _=>⟨?_,?_,?_,?_,?_,?_,k1+1,?_,?_,⟨rfl,?_,?_,af⟩,af⟩⟩⟩,λ _=>⟨?_,?_⟩⟩⟩⟩,λ _=>⟨λ _=>⟨?_,?_⟩,λ _=>⟨⟨0,?_,⟨rfl,?_,?_,af⟩,af⟩,λ k1 _ _=>⟨λ _=>⟨?_,λ _=>⟨?_,λ _=>⟨?_,?_⟩,λ _=>⟨?_,?_,?_,?_,?_,?_,k1+1,?_,?_,⟨rfl,?_,?_,af⟩,af⟩⟩,λ _=>⟨λ _=>⟨?_,?_⟩,λ _=>⟨?_,?_,?_,?_,?_,?_,k1+1,?_,?_,⟨rfl,?_,?_,af⟩,af⟩⟩⟩,λ _=>⟨?_,?_⟩⟩⟩⟩⟩,λ _=>⟨λ _=>⟨?_,?_⟩,λ _=>⟨⟨0,?_,⟨rfl,?_,?_,af⟩,af⟩,λ k1 _ _=>⟨λ _=>⟨?_,λ _=>⟨?_,λ _=>⟨?_,?_⟩,λ _=>⟨?_,?_,?_,?_,?_,?_,k1+1,?_,?_,⟨rfl,?_,?_,af⟩,af⟩⟩,λ _=>⟨λ _=>⟨?_,?_⟩,λ _=>⟨?_,?_,?_,?_,?_,?_,k1+1,?_,?_,⟨rfl,?_,?_,af⟩,af⟩⟩⟩,λ _=>⟨?_,?_⟩⟩⟩⟩⟩⟩;all_goals try and_intros
 all_goals first|rfl|trivial|omega|((try simp only[b5U,b5T,b5K,b5L,aJ,a0g,V2,ag,a8L,a8K] at *);first|omega|exact (a1W 9 s (by omega)).1.symm|exact (a1W 9 s (by omega)).2.symm|exact a3d 9 s (by omega) (by omega)|(have hq:FP 9 s k1:=(by with_reducible assumption);have hl:=a8p 9 s k1 hq;first|omega|exact (Yr 9 s k1 hq (by omega) (by omega)).1.symm|exact (Yr 9 s k1 hq (by omega) (by omega)).2.symm|exact (M5 9 s k1 hq (by omega) (by omega) (by omega)).1|exact (M5 9 s k1 hq (by omega) (by omega) (by omega)).2.symm|(rw[(M5 9 s k1 hq (by omega) (by omega) (by omega)).2];omega)|exact (Ys 9 s k1 hq (by omega)).1.symm|exact (Ys 9 s k1 hq (by omega)).2.symm))
def a9A(b n:Int):Bool:=decide (0<=n/\n<=b - 1)
def trB(gg:aD)(x:gB):Bool:=decide (x.LX.length=x.P2.length+1)&&bH (a9A (bE gg)) x.LX&&bH (a9A gg.aB) x.P2
def wdB(gg:aD)(x:gB):Bool:=decide (x.P2.length<=10)&&trB gg x
def pcS(k:Nat)(s:List UInt8):List UInt8:=if k % 2=1 then s.drop 1 else s
def b3F(s:List UInt8):Bool:=decide (1<=s.length)&&decide ((s.getD 0 0).toNat=97)
def pcB(m:Int)(ps:List (List UInt8))(k:Nat):Bool:=(decide (k % 2=0)||b3F (ps.getD k []))&&lO m (pcS k (ps.getD k []))
def evs(ps:List (List UInt8)):Nat->List Int
 | 0=>[]
 | k+1=>if k % 2=1 then evs ps k else evs ps k++[fK (pcS k (ps.getD k []))]
def ods(ps:List (List UInt8)):Nat->List Int
 | 0=>[]
 | k+1=>if k % 2=1 then ods ps k++[fK (pcS k (ps.getD k []))] else ods ps k
def rwW(ps:List (List UInt8)):gB:=⟨evs ps ps.length,ods ps ps.length⟩
def rwB(gg:aD)(m:Int)(ps:List (List UInt8)):Bool:=a3F (pcB m ps) ps.length&&wdB gg (rwW ps)
def rwI(gg:aD)(t:List UInt8):Bool:=decide (t.length<=100)&&rwB gg 1 (a1r 32 t)
def a3c(s:List UInt8)(h:lO 9 s=true)(h9:fK s<=9):lO 1 s=true:=by
 rw[Bb] at h ⊢;simp only[b5M,b5K,b6j,b7U,b5L] at h ⊢;obtain⟨⟨⟨h1,h2⟩,h3⟩,h4⟩:=h;refine⟨⟨⟨h1,?_⟩,h3⟩,h4⟩;rcases b6E 1 s.length with hl|hl
 .exfalso;match s,hl,h3,h4,h9 with
  | a::b::r,_,h3,h4,h9 =>
   have ha:fb a=true:=by simp[bH] at h4;exact h4.1
   have ha':=ha;simp only[fb,b5M,b5K] at ha;have h3':a.toNat≠48:=by rcases h3 with h3|h3<;>simp at h3<;>omega
   have key:∀ (r:List UInt8) (n:Int),1<=n->bH fb r=true->n<=r.foldl (λ n b=>n * 10+((b.toNat:Int) - 48)) n:=by
    intro r;induction r with
    | nil=>intro n _ _;exact Int.le_refl _
    | cons c r ih =>
     intro n hn hr;simp only[bH,b5M] at hr;have hc:=hr.1;simp only[fb,b5M,b5K] at hc;have:=ih (n * 10+((c.toNat:Int) - 48)) (by omega) hr.2;simp only[b7C];omega
   simp only[bH,b5M] at h4;have hb:=h4.2.1;simp only[fb,b5M,b5K] at hb;have:=key r (((0 * 10+((a.toNat:Int) - 48)) * 10)+((b.toNat:Int) - 48)) (by omega) h4.2.2;simp only[fK,b7C] at h9;omega
 .omega
def zV{α:Type}(f:α->Bool):∀ (xs:List α),bH f xs=true->∀ x∈xs,f x=true
 | x::xs,h,y,hy=>by
  simp only[bH,b5M] at h;rcases b5X.1 hy with e|e
  .rw[e];exact h.1
  .exact zV f xs h.2 y e
structure rwQ(gg:aD)(m:Int)(t:List UInt8)(k:Nat):Prop where
 sig:sigOk gg=true
 eq:rwI gg t=rwB gg m (a1r 32 t)
 le:k<=(a1r 32 t).length
 all:a3F (pcB m (a1r 32 t)) k=true
abbrev zX:J:=J.mk (0:Int) (0:Int) []
def cD(t:List UInt8)(a:Nat)(s:List UInt8):Bool:=decide (s.length<=(t.drop a).length)&&decide ((t.drop a).take s.length=s)
def lS{t:List UInt8}{a:Nat}{s r:List UInt8}(h:t.drop a=s++r):cD t a s=true:=by
 unfold cD;rw[h];simp
def LD(t:List UInt8)(a:Nat)(s:List UInt8):cD t a s=true↔∃ r,t.drop a=s++r:=by
 constructor
 .intro h;simp only[cD,b5M,b5K] at h;refine⟨(t.drop a).drop s.length,?_⟩;conv=>rhs;lhs;rw[<-h.2]
  rw[b7l]
 .rintro⟨r,h⟩;exact lS h
def kZ{t:List UInt8}{a:Nat}{b c:UInt8}{r:List UInt8}(h:t.drop a=b::r)(hn:b≠c)(s:List UInt8):cD t a (c::s)=false:=by
 cases e:cD t a (c::s) with
 | false=>rfl
 | true =>
  obtain⟨r',h'⟩:=(LD _ _ _).1 e;rw[h] at h';simp only[b6x,b5J] at h';exact absurd h'.1 hn
def gD(c:UInt8):List UInt8->Nat
 | []=>0
 | b::l=>if b=c then gD c l+1 else 0
def noB(c:UInt8)(r:List UInt8):Prop:=∀ b l,r=b::l->b≠c
def J9(c:UInt8)(r:List UInt8)(h:noB c r):∀ n,gD c (List.replicate n c++r)=n
 | 0=>by
  cases r with
  | nil=>rfl
  | cons b l=>simp[gD,h b l rfl]
 | n+1=>by simp[b7p,gD,J9 c r h n]
def bV{t w r:List UInt8}{a:Nat}(h:t.drop a=w++r):t.drop (a+w.length)=r:=by
 rw[<-b7J,h];simp
structure RI where
 e:J
 ok:Bool
 a:Nat
def bR(k:Int):Nat->J->J
 | 0,e=>e
 | n+1,e=>bR k n (J.mk k 0 [e])
def dJ(k:Int):∀ (n:Nat) (e:J),bR k (n+1) e=J.mk k 0 [bR k n e]
 | 0,e=>rfl
 | n+1,e=>by
  show bR k (n+1) (J.mk k 0 [e])=_;rw[dJ k n (J.mk k 0 [e])];rfl
def jb(core:Nat->RI)(t:List UInt8)(a:Nat):RI :=
 if 40<gD 126 (t.drop a) then ⟨zX,false,a+gD 126 (t.drop a)⟩ else
 if 41<gD 42 (t.drop (core (a+gD 126 (t.drop a))).a) then ⟨zX,false,(core (a+gD 126 (t.drop a))).a+42⟩ else
 ⟨bR 8 (gD 42 (t.drop (core (a+gD 126 (t.drop a))).a)) (bR 5 (gD 126 (t.drop a)) (core (a+gD 126 (t.drop a))).e),(core (a+gD 126 (t.drop a))).ok,(core (a+gD 126 (t.drop a))).a+gD 42 (t.drop (core (a+gD 126 (t.drop a))).a)⟩
def iL(t:List UInt8)(a:Nat):Bool:=decide (a<t.length)&&decide (48<=(t.getD a 0).toNat)&&decide ((t.getD a 0).toNat<=57)
def qJ(k:Int)(t:List UInt8)(a:Nat):RI:=bif iL t a then ⟨J.mk k (((t.getD a 0).toNat:Int) - 48) [],true,a+1⟩ else ⟨J.mk k 0 [],false,a⟩
def pE(k:Int)(t:List UInt8)(x y:RI):RI:=bif x.ok&&y.ok&&cD t y.a [41] then ⟨J.mk k 0 [x.e,y.e],true,y.a+1⟩ else ⟨J.mk k 0 [x.e,y.e],false,y.a⟩
def dq(t:List UInt8):Nat->Nat->RI
 | 0,a=>⟨zX,false,a⟩
 | d+1,a=>if cD t a [48]=true then ⟨J.mk 1 0 [],true,a+1⟩ else if cD t a [49]=true then ⟨J.mk 2 0 [],true,a+1⟩ else
  if cD t a [116]=true then qJ 3 t (a+1) else if cD t a [97]=true then qJ 4 t (a+1) else if cD t a [40]=false then ⟨zX,false,a⟩ else
  if cD t (jb (dq t d) t (a+1)).a [32,43,32]=true then pE 6 t (jb (dq t d) t (a+1)) (jb (dq t d) t ((jb (dq t d) t (a+1)).a+3)) else
  if cD t (jb (dq t d) t (a+1)).a [32]=true then pE 7 t (jb (dq t d) t (a+1)) (jb (dq t d) t ((jb (dq t d) t (a+1)).a+1)) else
  ⟨zX,false,(jb (dq t d) t (a+1)).a⟩
def Me(k:Int):Prop:=k=1\/k=2\/k=3\/k=4\/k=6\/k=7
def kq(x:J)(h:aF x=true)(e:¬ x.aj=3)(e':¬ x.aj=4):x.aT=0:=by
 simp only[aF] at h;rw[eH,jg] at h;simp only[Bool.and_eq_true,decide_eq_true_eq] at h;have:=h.1.1.2;rw[zD,if_neg e,if_neg e'] at this;simpa using this
def nS(x:J)(h:aF x=true)(e:x.aj=1\/x.aj=2\/x.aj=3\/x.aj=4):x.U=[]:=by
 simp only[aF] at h;rw[eH,jg] at h;simp only[b5M,b5K] at h;have h1:=h.1.1.1;have:x.U.length=0:=by rcases e with e|e|e|e<;>rw[e] at h1<;>simp[cm] at h1<;>omega
 exact b6S this
def a2S(x:J)(h:aF x=true)(e:x.aj=5):bj (x.U.getD 0 zE)=true:=by
 simp only[aF] at h;rw[eH,jg] at h;simp only[Bool.and_eq_true,decide_eq_true_eq] at h;have:=h.1.2;simpa [e] using this
def Le(x:J)(h:x.U.length=1):x.U=[x.U.getD 0 zE]:=by
 cases x with
 | mk k n ks =>
  match ks,h with
  | [a],_=>rfl
def GA(x:J)(h:x.U.length=2):x.U=[x.U.getD 0 zE,x.U.getD 1 zE]:=by
 cases x with
 | mk k n ks =>
  match ks,h with
  | [a,b],_=>rfl
def gv(x:J)(k n:Int)(ks:List J)(h1:x.aj=k)(h2:x.aT=n)(h3:x.U=ks):x=J.mk k n ks:=by
 cases x;simp at h1 h2 h3;simp[h1,h2,h3]
def RY:∀ (N:Nat) (x:J),bG x<N->aF x=true->∃ m n c,x=bR 8 m (bR 5 n c)/\aF c=true/\Me c.aj/\bG c<=bG x/\bm c+m+n=bm x /\
  aX x=List.replicate n 126++(aX c++List.replicate m 42)
 | 0,x,h,_=>by omega
 | N+1,x,hN,h=>by
  have hf:=cF x h;have ht:=cu x h;by_cases h8:x.aj=8
  .obtain⟨hl,hk⟩:=hf.2.1 (.inr h8);obtain⟨m,n,c,e1,e2,e3,e4,e5,e6⟩:=RY N _ (by have:=hk.2;omega) hk.1;have hx:x=J.mk 8 0 [x.U.getD 0 zE]:=gv x 8 0 _ h8 (kq x h (by omega) (by omega)) (Le x hl);refine⟨m+1,n,c,?_,e2,e3,by have:=hk.2;omega,?_,?_⟩
   .rw[dJ,<-e1];exact hx
   .rw[gE x,Le x hl];simp only[iw];omega
   .rw[ht.2.2.2.2.2.2.2 h8,e6,b8A];simp
  .by_cases h5:x.aj=5
   .obtain⟨hl,hk⟩:=hf.2.1 (.inl h5);obtain⟨m,n,c,e1,e2,e3,e4,e5,e6⟩:=RY N _ (by have:=hk.2;omega) hk.1;have hx:x=J.mk 5 0 [x.U.getD 0 zE]:=gv x 5 0 _ h5 (kq x h (by omega) (by omega)) (Le x hl);have hm:m=0:=by
     cases m with
     | zero=>rfl
     | succ m =>
      have hc:=a2S x h h5;rw[e1,dJ,oi] at hc;simp[tg] at hc
    subst hm;refine⟨0,n+1,c,?_,e2,e3,by have:=hk.2;omega,?_,?_⟩
    .show x=bR 5 (n+1) c;rw[dJ];have e1':x.U.getD 0 zE=bR 5 n c:=e1;rw[<-e1'];exact hx
    .rw[gE x,Le x hl];simp only[iw];omega
    .rw[ht.2.2.2.2.1 h5,e6,b7p];simp
   .exact⟨0,0,x,rfl,h,by have:=hf.2.2.2;unfold Me;omega,Nat.le_refl _,by omega,by simp⟩
def It{t:List UInt8}{a:Nat}{b:UInt8}{r:List UInt8}(h:t.drop a=b::r):a<t.length/\t.getD a 0=b:=by
 have hl:a<t.length:=by
  rcases b6E a t.length with g|g
  .exact g
  .rw[b8s g] at h;cases h
 refine⟨hl,?_⟩;rw[b7B hl] at h;simp only[b5J] at h;rw[b5P,b6e hl,<-h.1];rfl
def NX(c:J)(h:aF c=true)(hk:Me c.aj):∃ b l,aX c=b::l/\b≠126/\b≠43:=by
 have ht:=cu c h;rcases hk with e|e|e|e|e|e
 .exact⟨_,_,ht.1 e,by decide,by decide⟩
 .exact⟨_,_,ht.2.1 e,by decide,by decide⟩
 .exact⟨_,_,ht.2.2.1 e,by decide,by decide⟩
 .exact⟨_,_,ht.2.2.2.1 e,by decide,by decide⟩
 .exact⟨_,_,ht.2.2.2.2.2.1 e,by decide,by decide⟩
 .exact⟨_,_,ht.2.2.2.2.2.2.1 e,by decide,by decide⟩
def QF(x:J)(h:aF x=true):∃ b l,aX x=b::l/\b≠43:=by
 obtain⟨m,n,c,_,h2,h3,_,_,h6⟩:=RY (bG x+1) x (b6g _) h;obtain⟨b,l,g1,_,g3⟩:=NX c h2 h3;cases n with
 | zero=>exact⟨b,_,by rw[h6,g1];rfl,g3⟩
 | succ n=>exact⟨126,_,by rw[h6,b7p];rfl,by decide⟩
def T5(core:Nat->RI)(t:List UInt8)(a:Nat)(r:List UInt8)(x c:J)(m n:Nat)(hx:x=bR 8 m (bR 5 n c))(hc:aF c=true)(hk:Me c.aj)
  (htx:aX x=List.replicate n 126++(aX c++List.replicate m 42)) (hm:m<=40) (hn:n<=40) (hr:noB 42 r) (hd:t.drop a=aX x++r)
  (b1j:∀ r',t.drop (a+n)=aX c++r'->core (a+n)=⟨c,true,a+n+(aX c).length⟩):jb core t a=⟨x,true,a+(aX x).length⟩:=by
 obtain⟨b,l,g1,g2,_⟩:=NX c hc hk;have Z7:t.drop a=List.replicate n 126++(aX c++(List.replicate m 42++r)):=by rw[hd,htx];simp
 have hd2:t.drop (a+n)=aX c++(List.replicate m 42++r):=by
  have:=bV Z7;simpa using this
 have hd3:=bV hd2;have VW:gD 126 (t.drop a)=n:=by
  rw[Z7];refine J9 126 _ ?_ n;intro b' l' e;rw[g1] at e;simp only[b6x,b5J] at e;rw[<-e.1];exact g2
 have hm1:gD 42 (t.drop (a+n+(aX c).length))=m:=by rw[hd3];exact J9 42 r hr m
 have Z6:=b1j _ hd2;unfold jb;rw[VW,Z6];simp only[hm1];rw[if_neg (by omega),if_neg (by omega),<-hx];have:(aX x).length=n+((aX c).length+m):=by rw[htx];simp
 simp only[RI.mk.injEq,b6t];omega
def TN:∀ (N:Nat) (c:J),bG c<N->aF c=true->Me c.aj->∀ (t:List UInt8) (d a:Nat) (r:List UInt8),bm c<=d->bm c<=40->t.drop a=aX c++r->dq t d a=⟨c,true,a+(aX c).length⟩
 | 0,c,h,_,_=>by omega
 | N+1,c,hN,h,hk=>by
  intro t d a r hd h40 ht;have hf:=cF c h;have hx:=cu c h;have hdp:=gE c;obtain⟨d,rfl⟩:∃ d',d=d'+1:=⟨d - 1,by omega⟩;have zx:∀ i,i<c.U.length->xZ c i->∀ (a:Nat) (r:List UInt8),noB 42 r->t.drop a=aX (c.U.getD i zE)++r ->
    jb (dq t d) t a=⟨c.U.getD i zE,true,a+(aX (c.U.getD i zE)).length⟩:=by
   intro i hi hg a r hr hda;obtain⟨m,n,c',e1,e2,e3,e4,e5,e6⟩:=RY _ _ (b6g _) hg.1;have hdk:=qL bm zE c.U i hi;exact T5 (dq t d) t a r _ c' m n e1 e2 e3 e6 (by omega) (by omega) hr hda (λ r' MA=>TN N c' (by have:=hg.2;omega) e2 e3 t d (a+n) r' (by omega) (by omega) MA)
  rcases hk with e|e|e|e|e|e
  .rw[hx.1 e] at ht ⊢;have hc:=gv c 1 0 [] e (kq c h (by omega) (by omega)) (nS c h (by omega));rw[dq,b5Q (lS (s:=[48]) ht),<-hc];rfl
  .rw[hx.2.1 e] at ht ⊢;have hc:=gv c 2 0 [] e (kq c h (by omega) (by omega)) (nS c h (by omega));rw[dq,b5I (by rw[kZ (b:=49) ht (by decide)];decide),b5Q (lS (s:=[49]) ht),<-hc];rfl
  .have hn:=hf.1 (.inl e);have hg:iA c.aT=[UInt8.ofNat (48+c.aT.toNat)]:=by unfold iA;rw[Lib.decDigits_one (by omega)]
   rw[hx.2.2.1 e,hg] at ht ⊢;have h2:t.drop (a+1)=UInt8.ofNat (48+c.aT.toNat)::r:=bV (w:=[116]) ht;obtain⟨g1,g2⟩:=It h2;have hb:(UInt8.ofNat (48+c.aT.toNat)).toNat=48+c.aT.toNat:=by rw[b9c];omega
   rw[dq,if_neg (by rw[kZ (b:=116) ht (by decide)];decide),if_neg (by rw[kZ (b:=116) ht (by decide)];decide),if_pos (lS (s:=[116]) ht)];have hdb:iL t (a+1)=true:=by unfold iL;rw[g2,hb,decide_eq_true g1,decide_eq_true (by omega),decide_eq_true (by omega)];rfl
   unfold qJ;rw[hdb,g2,hb];have hc:=gv c 3 c.aT [] e rfl (nS c h (by omega));rw[show (((48+c.aT.toNat:Nat):Int) - 48)=c.aT by omega,<-hc];rfl
  .have hn:=hf.1 (.inr e);have hg:iA c.aT=[UInt8.ofNat (48+c.aT.toNat)]:=by unfold iA;rw[Lib.decDigits_one (by omega)]
   rw[hx.2.2.2.1 e,hg] at ht ⊢;have h2:t.drop (a+1)=UInt8.ofNat (48+c.aT.toNat)::r:=bV (w:=[97]) ht;obtain⟨g1,g2⟩:=It h2;have hb:(UInt8.ofNat (48+c.aT.toNat)).toNat=48+c.aT.toNat:=by rw[b9c];omega
   rw[dq,if_neg (by rw[kZ (b:=97) ht (by decide)];decide),if_neg (by rw[kZ (b:=97) ht (by decide)];decide),if_neg (by rw[kZ (b:=97) ht (by decide)];decide),if_pos (lS (s:=[97]) ht)];have hdb:iL t (a+1)=true:=by unfold iL;rw[g2,hb,decide_eq_true g1,decide_eq_true (by omega),decide_eq_true (by omega)];rfl
   unfold qJ;rw[hdb,g2,hb];have hc:=gv c 4 c.aT [] e rfl (nS c h (by omega));rw[show (((48+c.aT.toNat:Nat):Int) - 48)=c.aT by omega,<-hc];rfl
  .obtain⟨hl,k0,k1⟩:=hf.2.2.1 (.inl e);have hc:=gv c 6 0 _ e (kq c h (by omega) (by omega)) (GA c hl);rw[hx.2.2.2.2.2.1 e] at ht ⊢;have p0:t.drop a=40::(aX (c.U.getD 0 zE)++([32,43,32]++(aX (c.U.getD 1 zE)++([41]++r)))):=by rw[ht];simp
   have p1:t.drop (a+1)=aX (c.U.getD 0 zE)++([32,43,32]++(aX (c.U.getD 1 zE)++([41]++r))):=bV (w:=[40]) p0;have q1:=zx 0 (by omega) k0 (a+1) _ (λ b l g=>by simp at g;rw[<-g.1];decide) p1;have p2:=bV p1;have p3:=bV p2;have q2:=zx 1 (by omega) k1 _ _ (λ b l g=>by simp at g;rw[<-g.1];decide) p3;have p4:=bV p3;rw[dq,b5I (by rw[kZ p0 (by decide)];decide),b5I (by rw[kZ p0 (by decide)];decide),b5I (by rw[kZ p0 (by decide)];decide),b5I (by rw[kZ p0 (by decide)];decide),
    b5I (by rw[lS (s:=[40]) p0];decide)]
   rw[q1];simp only;rw[if_pos (lS p2)];have q2':jb (dq t d) t (a+1+(aX (c.U.getD 0 zE)).length+3)=_:=q2;rw[q2'];unfold pE;simp only;rw[show cD t _ [41]=true from lS (s:=[41]) p4];simp only[Bool.and_self,cond_true,RI.mk.injEq,true_and,<-hc];simp only[List.length_append,List.length_cons,List.length_nil];omega
  .obtain⟨hl,k0,k1⟩:=hf.2.2.1 (.inr e);have hc:=gv c 7 0 _ e (kq c h (by omega) (by omega)) (GA c hl);rw[hx.2.2.2.2.2.2.1 e] at ht ⊢;have p0:t.drop a=40::(aX (c.U.getD 0 zE)++([32]++(aX (c.U.getD 1 zE)++([41]++r)))):=by rw[ht];simp
   have p1:t.drop (a+1)=aX (c.U.getD 0 zE)++([32]++(aX (c.U.getD 1 zE)++([41]++r))):=bV (w:=[40]) p0;have q1:=zx 0 (by omega) k0 (a+1) _ (λ b l g=>by simp at g;rw[<-g.1];decide) p1;have p2:=bV p1;have p3:=bV p2;have q2:=zx 1 (by omega) k1 _ _ (λ b l g=>by simp at g;rw[<-g.1];decide) p3;have p4:=bV p3;have hU:cD t (a+[40].length+(aX (c.U.getD 0 zE)).length) [32,43,32]=false:=by
    cases hb:cD t (a+[40].length+(aX (c.U.getD 0 zE)).length) [32,43,32] with
    | false=>rfl
    | true =>
     obtain⟨r',h'⟩:=(LD _ _ _).1 hb;obtain⟨b,l,f1,f2⟩:=QF _ k1.1;have p2':=p2;rw[f1] at p2';have h3:=p2'.symm.trans h';simp only[b6x,b6B,b5J,b6t] at h3;exact absurd h3.1 f2
   rw[dq,b5I (by rw[kZ p0 (by decide)];decide),b5I (by rw[kZ p0 (by decide)];decide),b5I (by rw[kZ p0 (by decide)];decide),b5I (by rw[kZ p0 (by decide)];decide),
    b5I (by rw[lS (s:=[40]) p0];decide)]
   rw[q1];simp only;rw[if_neg (by rw[show cD t (a+1+(aX (c.U.getD 0 zE)).length) [32,43,32]=false from hU];decide),if_pos (lS p2)];have q2':jb (dq t d) t (a+1+(aX (c.U.getD 0 zE)).length+1)=_:=q2;rw[q2'];unfold pE;simp only;rw[show cD t _ [41]=true from lS (s:=[41]) p4];simp only[Bool.and_self,cond_true,RI.mk.injEq,true_and,<-hc];simp only[List.length_append,List.length_cons,List.length_nil];omega
def a2J(x:J)(h:aF x=true)(h40:bm x<=40):jb (dq (aX x) 41) (aX x) 0=⟨x,true,(aX x).length⟩:=by
 obtain⟨m,n,c,e1,e2,e3,e4,e5,e6⟩:=RY _ _ (Nat.lt_succ_self _) h;have:=T5 (dq (aX x) 41) (aX x) 0 [] x c m n e1 e2 e3 e6 (by omega) (by omega) (λ b l g=>by cases g) (by simp) (λ r' MA=>TN _ c (Nat.lt_succ_self _) e2 e3 (aX x) 41 (0+n) r' (by omega) (by omega) MA);simpa using this
def bN(t:List UInt8)(a:Nat):Int:=if a<t.length then ((t.getD a 0).toNat:Int) else 0
structure RS where
 e:J
 a:Nat
 dp:Nat
 bad:Bool
def nc:List UInt8->Nat
 | []=>0
 | b::l=>if fb b=true then nc l+1 else 0
def RM(t:List UInt8)(a:Nat):List UInt8:=(t.drop (a+1)).take (nc (t.drop (a+1)))
def nW(t:List UInt8)(a dp:Nat):RS:=⟨J.mk (if bN t a=97 then 4 else 3) (kj 9 (RM t a)) [],a+1+nc (t.drop (a+1)),dp,!lO 9 (RM t a)⟩
def dv(t:List UInt8)(a:Nat)(c:Int):Nat:=if bN t a=c then a+1 else a
def fD(t:List UInt8)(a:Nat)(c:Int)(bad:Bool):Bool:=if bN t a=c then bad else true
def zN(t:List UInt8)(r:RS):RS:=if r.bad=true then ⟨r.e,r.a,r.dp - 1,true⟩ else ⟨bR 8 (gD 42 (t.drop r.a)) r.e,r.a+gD 42 (t.drop r.a),r.dp - 1,false⟩
def dN(inner:Nat->Nat->RS)(t:List UInt8)(a dp:Nat)(bad:Bool):RS:=if bad=true\/100<dp+1 then ⟨zX,a,dp+1,true⟩ else zN t (inner a (dp+1))
def zI(inner:Nat->Nat->RS)(t:List UInt8)(x:RS)(k:Int)(a:Nat)(bad:Bool):RS :=
 ⟨J.mk k 0 [x.e,(dN inner t a x.dp bad).e],dv t (dN inner t a x.dp bad).a 41,(dN inner t a x.dp bad).dp,fD t (dN inner t a x.dp bad).a 41 (dN inner t a x.dp bad).bad⟩
def uc(inner:Nat->Nat->RS)(t:List UInt8)(x:RS):RS :=
 if bN t (dv t x.a 32)=43 then zI inner t x 6 (dv t (dv t x.a 32+1) 32) (fD t (dv t x.a 32+1) 32 (fD t x.a 32 x.bad)) else zI inner t x 7 (dv t x.a 32) (fD t x.a 32 x.bad)
def cg(t:List UInt8):Nat->Nat->Nat->RS
 | g,a,dp=>if bN t a=48 then ⟨J.mk 1 0 [],a+1,dp,false⟩ else if bN t a=49 then ⟨J.mk 2 0 [],a+1,dp,false⟩ else
  if bN t a=116\/bN t a=97 then nW t a dp else
  if bN t a=126 then (match g with
   | 0=>⟨zX,a+1,dp+1,true⟩
   | g+1=>⟨J.mk 5 0 [(cg t g (a+1) (dp+1)).e],(cg t g (a+1) (dp+1)).a,(cg t g (a+1) (dp+1)).dp - 1,(cg t g (a+1) (dp+1)).bad⟩) else
  if bN t a=40 then (match g with
   | 0=>uc (λ _ _=>⟨zX,0,0,true⟩) t (dN (λ _ _=>⟨zX,0,0,true⟩) t (a+1) dp false)
   | g+1=>uc (cg t g) t (dN (cg t g) t (a+1) dp false)) else ⟨zX,a,dp,true⟩
def fN{t:List UInt8}{a:Nat}{b:UInt8}{r:List UInt8}(h:t.drop a=b::r):bN t a=(b.toNat:Int):=by
 obtain⟨h1,h2⟩:=It h;unfold bN;rw[if_pos h1,h2]
def sL(t:List UInt8)(a:Nat)(c:UInt8)(hc:c≠0)(h:bN t a=(c.toNat:Int)):∃ r,t.drop a=c::r:=by
 unfold bN at h;split at h
 .rename_i hl;refine⟨t.drop (a+1),?_⟩;rw[List.drop_eq_getElem_cons hl];rw[List.getD_eq_getElem?_getD,List.getElem?_eq_getElem hl] at h;have:t[a]=c:=UInt8.toNat_inj.1 (by simpa using Int.ofNat_inj.1 h);rw[this]
 .exfalso;have:c.toNat=0:=by omega
  exact hc (UInt8.toNat_inj.1 this)
def WM(t:List UInt8)(a:Nat)(c:UInt8)(hc:c≠0)(bad:Bool)(h:fD t a (c.toNat:Int) bad=false):bad=false/\dv t a (c.toNat:Int)=a+1/\∃ r,t.drop a=c::r:=by
 unfold fD at h;unfold dv;split at h
 .rename_i e;rw[b5Q e];exact⟨h,rfl,sL t a c hc e⟩
 .cases h
def rG{t:List UInt8}{a:Nat}{c:UInt8}{r:List UInt8}(h:t.drop a=c::r)(bad:Bool):dv t a (c.toNat:Int)=a+1/\fD t a (c.toNat:Int) bad=bad:=by
 unfold dv fD;rw[if_pos (fN h),if_pos (fN h)];exact⟨rfl,rfl⟩
def TM(c:UInt8):∀ l:List UInt8,l=List.replicate (gD c l) c++l.drop (gD c l)
 | []=>rfl
 | b::l=>by
  unfold gD;split
  .rename_i e;subst e;rw[b7p,b8G,b6x,<-TM b l]
  .rfl
structure JI(t:List UInt8)(a dp:Nat)(r:RS):Prop where
 ex:r.bad=false->r.dp=dp/\∃ W,t.drop a=W++t.drop r.a/\(aF r.e=true->W=aX r.e)
def N0:∀ (m:Nat) (e:J),aF (bR 8 m e)=true->aF e=true/\aX (bR 8 m e)=aX e++List.replicate m 42
 | 0,e,h=>⟨h,by simp[bR]⟩
 | m+1,e,h=>by
  rw[dJ] at h ⊢;have hk:=wo _ h 0 (by simp);have hx:=(cu _ h).2.2.2.2.2.2.2 rfl;obtain⟨h1,h2⟩:=N0 m e hk.1;refine⟨h1,?_⟩;rw[hx];show aX (bR 8 m e)++[42]=_;rw[h2,b8A,b6v]
def a3p(t:List UInt8)(a dp:Nat)(r:RS)(h:JI t a (dp+1) r):JI t a dp (zN t r):=by
 refine⟨λ hb=>?_⟩;unfold zN at hb ⊢;cases e:r.bad
 .rw[e] at hb;simp only[b5O,b8j] at hb ⊢;obtain⟨h0,W,h1,h2⟩:=h.ex e;refine⟨by omega,W++List.replicate (gD 42 (t.drop r.a)) 42,?_,λ hg=>?_⟩
  .rw[h1,b6v];congr 1;rw[<-b7J];exact TM 42 _
  .obtain⟨g1,g2⟩:=N0 _ _ hg;rw[g2,h2 g1]
 .rw[e] at hb;simp at hb
def qm(inner:Nat->Nat->RS)(t:List UInt8)(a dp:Nat)(bad:Bool)(h:dp+1<=100->JI t a (dp+1) (inner a (dp+1))):JI t a dp (dN inner t a dp bad):=by
 unfold dN;split
 .exact⟨λ hb=>by cases hb⟩
 .rename_i hn;exact a3p t a dp _ (h (by omega))
def a2L(inner:Nat->Nat->RS)(t:List UInt8)(a dp:Nat)(bad:Bool)(h:(dN inner t a dp bad).bad=false):bad=false:=by
 unfold dN at h;split at h
 .cases h
 .rename_i hn;cases bad<;>simp_all
def RW(inner:Nat->Nat->RS)(t:List UInt8)(a0 dp:Nat)(x:RS)(k:Int)(sep:List UInt8)(hk:(k=6/\sep=[32,43,32])\/(k=7/\sep=[32]))(a:Nat)(bad:Bool)(hx:JI t (a0+1) dp x)
  (h0:∃ r,t.drop a0=40::r) (b3Z:bad=false->x.bad=false/\t.drop x.a=sep++t.drop a) (hi:dp+1<=100->JI t a (dp+1) (inner a (dp+1))):JI t a0 dp (zI inner t x k a bad):=by
 refine⟨λ hb=>?_⟩;unfold zI at hb ⊢;simp only at hb ⊢;obtain⟨h1,h2,r,h3⟩:=WM t _ 41 (by decide) _ hb;have ET:=a2L inner t a x.dp bad h1;obtain⟨Q9,hx2⟩:=b3Z ET;obtain⟨wx0,Wx,wx1,wx2⟩:=hx.ex Q9;rw[wx0] at h1 h2 h3 ⊢;obtain⟨wy0,Wy,wy1,wy2⟩:=(qm inner t a dp bad hi).ex h1;obtain⟨r0,Q5⟩:=h0;have OP:t.drop (a0+1)=r0:=bV (w:=[40]) Q5;have h4:t.drop ((dN inner t a dp bad).a+1)=r:=bV (w:=[41]) h3;have e41:dv t (dN inner t a dp bad).a 41=(dN inner t a dp bad).a+1:=h2;refine⟨wy0,[40]++(Wx++(sep++(Wy++[41]))),?_,λ hg=>?_⟩
 .rw[e41,Q5,h4,<-OP,wx1,hx2,wy1,h3];simp
 .have k0:=wo _ hg 0 (by simp);have k1:=wo _ hg 1 (by simp);rw[wx2 k0.1,wy2 k1.1];rcases hk with ⟨rfl,rfl⟩|⟨rfl,rfl⟩
  .exact ((cu _ hg).2.2.2.2.2.1 rfl).symm
  .exact ((cu _ hg).2.2.2.2.2.2.1 rfl).symm
def Xl(s:List UInt8)(h:lO 9 s=true)(h9:fK s<=9):iA (fK s)=s:=by
 have h1:=a3c s h h9;rw[Bb] at h1;simp only[b5M,b5K] at h1;match s,h1 with
 | [b],h1 =>
  have hd:fb b=true:=by have:=h1.2;simpa [bH] using this
  simp only[fb,b5M,b5K] at hd;have hv:fK [b]=(b.toNat:Int) - 48:=by simp[fK]
  rw[hv] at h9 ⊢;unfold iA;rw[Lib.decDigits_one (by omega)];congr 1;apply UInt8.toNat_inj.1;rw[UInt8.toNat_ofNat'];omega
 | [],h1=>simp at h1
 | _::_::_,h1=>simp at h1;omega
def a3b(t:List UInt8)(a dp:Nat)(h:bN t a=116\/bN t a=97):JI t a dp (nW t a dp):=by
 refine⟨λ hb=>⟨rfl,?_⟩⟩;unfold nW at hb ⊢;simp only[Bool.not_eq_false'] at hb ⊢;have ru:∀ c:UInt8,(∃ r,t.drop a=c::r)->t.drop a=(c::RM t a)++t.drop (a+1+nc (t.drop (a+1))):=by
  rintro c ⟨r,hr⟩;have h1:t.drop (a+1)=r:=bV (w:=[c]) hr;have e:t.drop (a+1+nc (t.drop (a+1)))=(t.drop (a+1)).drop (nc (t.drop (a+1))):=by rw[b7J]
  rw[e,hr,h1,List.cons_append];unfold RM;rw[h1,List.take_append_drop]
 have hv:kj 9 (RM t a)=fK (RM t a):=by unfold kj;rw[hb];rfl
 rcases h with h|h
 .refine⟨_,ru 116 (sL t a 116 (by decide) h),λ hg=>?_⟩;have e:(if bN t a=97 then (4:Int) else 3)=3:=b5I (by rw[h];decide);rw[e,hv] at hg ⊢;have hn:=(cF _ hg).1 (.inl rfl);rw[(cu _ hg).2.2.1 rfl];show _=116::iA (fK (RM t a));rw[Xl _ hb hn.2]
 .refine⟨_,ru 97 (sL t a 97 (by decide) h),λ hg=>?_⟩;have e:(if bN t a=97 then (4:Int) else 3)=4:=b5Q h;rw[e,hv] at hg ⊢;have hn:=(cF _ hg).1 (.inr rfl);rw[(cu _ hg).2.2.2.1 rfl];show _=97::iA (fK (RM t a));rw[Xl _ hb hn.2]
def Uz(inner:Nat->Nat->RS)(t:List UInt8)(a0 dp:Nat)(x:RS)(hx:JI t (a0+1) dp x)(h0:∃ r,t.drop a0=40::r)(hi:∀ a,dp+1<=100->JI t a (dp+1) (inner a (dp+1))):JI t a0 dp (uc inner t x):=by
 unfold uc;split
 .rename_i hp;refine RW inner t a0 dp x 6 [32,43,32] (.inl ⟨rfl,rfl⟩) _ _ hx h0 (λ hb=>?_) (hi _);obtain⟨b1,b2,r1,b3⟩:=WM t _ 32 (by decide) _ hb;obtain⟨c1,c2,r2,c3⟩:=WM t _ 32 (by decide) _ b1;have c2':dv t x.a 32=x.a+1:=c2;rw[c2'] at hp b2 b3 ⊢;have b2':dv t (x.a+1+1) 32=x.a+1+1+1:=b2;obtain⟨r3,d3⟩:=sL t (x.a+1) 43 (by decide) hp;have e1:t.drop (x.a+1)=r2:=bV (w:=[32]) c3;have e2:t.drop (x.a+1+1)=r3:=bV (w:=[43]) d3;have e3:t.drop (x.a+1+1+1)=r1:=bV (w:=[32]) b3;refine⟨c1,?_⟩;rw[b2',e3,c3,<-e1,d3,<-e2,b3];rfl
 .refine RW inner t a0 dp x 7 [32] (.inr ⟨rfl,rfl⟩) _ _ hx h0 (λ hb=>?_) (hi _);obtain⟨c1,c2,r2,c3⟩:=WM t _ 32 (by decide) _ hb;have c2':dv t x.a 32=x.a+1:=c2;have e1:t.drop (x.a+1)=r2:=bV (w:=[32]) c3;exact⟨c1,by rw[c2',e1,c3];rfl⟩
def Ya(t:List UInt8)(a dp:Nat)(k:Int)(c:UInt8)(hc:c≠0)(h:bN t a=(c.toNat:Int))(he:aF (J.mk k 0 [])=true->aX (J.mk k 0 [])=[c]):JI t a dp ⟨J.mk k 0 [],a+1,dp,false⟩:=by
 obtain⟨r,hr⟩:=sL t a c hc h;have h1:t.drop (a+1)=r:=bV (w:=[c]) hr;exact⟨λ _=>⟨rfl,[c],by rw[h1,hr];rfl,λ hg=>(he hg).symm⟩⟩
def Ce(t:List UInt8):∀ (g a dp:Nat),g+dp=100->JI t a dp (cg t g a dp)
 | g,a,dp,hgd=>by
  have step:∀ g',g=g'+1->∀ a',JI t a' (dp+1) (cg t g' a' (dp+1)):=λ g' e a'=>Ce t g' a' (dp+1) (by omega);unfold cg;split
  .rename_i h;exact Ya t a dp 1 48 (by decide) h (λ hg=>(cu _ hg).1 rfl)
  .split
   .rename_i h;exact Ya t a dp 2 49 (by decide) h (λ hg=>(cu _ hg).2.1 rfl)
   .split
    .rename_i h;exact a3b t a dp h
    .split
     .rename_i h;obtain⟨r,hr⟩:=sL t a 126 (by decide) h;have h1:t.drop (a+1)=r:=bV (w:=[126]) hr;cases g with
      | zero=>exact⟨λ hb=>by cases hb⟩
      | succ g =>
       refine⟨λ hb=>?_⟩;obtain⟨e1,W,e2,e3⟩:=(step g rfl (a+1)).ex hb;refine⟨by show _ - 1=dp;omega,126::W,?_,λ hg=>?_⟩
       .show t.drop a=126::W++t.drop (cg t g (a+1) (dp+1)).a;rw[hr,<-h1,e2];rfl
       .have hk:=wo _ hg 0 (by simp);rw[(cu _ hg).2.2.2.2.1 rfl];show _=126::aX (cg t g (a+1) (dp+1)).e;rw[e3 hk.1]
     .split
      .rename_i h;have h0:=sL t a 40 (by decide) h;cases g with
       | zero =>
        refine Uz _ t a dp _ (qm _ t (a+1) dp false (λ h=>by omega)) h0 (λ a' h=>by omega)
       | succ g=>exact Uz _ t a dp _ (qm _ t (a+1) dp false (λ _=>step g rfl _)) h0 (λ a' _=>step g rfl a')
      .exact⟨λ hb=>by cases hb⟩
 termination_by g=>g
def okR(r:List UInt8):Prop:=∀ b l,r=b::l->b≠42/\fb b=false
def noD(r:List UInt8):Prop:=∀ b l,r=b::l->fb b=false
def a2D(b:UInt8)(r:List UInt8)(hb:fb b=true)(hr:noD r):nc (b::r)=1:=by
 unfold nc;rw[if_pos hb];cases r with
 | nil=>rfl
 | cons c l=>unfold nc;rw[if_neg (by rw[hr c l rfl];decide)]
def Yl(t:List UInt8)(a dp:Nat)(c:J)(h:aF c=true)(e:c.aj=3\/c.aj=4)(r:List UInt8)(hr:noD r)(ht:t.drop a=aX c++r):nW t a dp=⟨c,a+(aX c).length,dp,false⟩:=by
 have hn:=(cF c h).1 e;have hx:=cu c h;have hg:iA c.aT=[UInt8.ofNat (48+c.aT.toNat)]:=by unfold iA;rw[Lib.decDigits_one (by omega)]
 have hb:(UInt8.ofNat (48+c.aT.toNat)).toNat=48+c.aT.toNat:=by rw[b9c];omega
 have hd:fb (UInt8.ofNat (48+c.aT.toNat))=true:=by unfold fb;rw[hb,decide_eq_true (by omega),decide_eq_true (by omega)];rfl
 have key:∀ (w:UInt8),aX c=w::iA c.aT->t.drop (a+1)=UInt8.ofNat (48+c.aT.toNat)::r/\bN t a=(w.toNat:Int)/\(aX c).length=2:=by
  intro w e';rw[e',hg] at ht;exact⟨bV (w:=[w]) ht,fN ht,by rw[e',hg];rfl⟩
 have fin:∀ (w:UInt8),aX c=w::iA c.aT->(if bN t a=97 then (4:Int) else 3)=c.aj->nW t a dp=⟨c,a+(aX c).length,dp,false⟩:=by
  intro w e' ek;obtain⟨k1,k2,k3⟩:=key w e';have hcn:nc (t.drop (a+1))=1:=by rw[k1];exact a2D _ _ hd hr
  have hnm:RM t a=[UInt8.ofNat (48+c.aT.toNat)]:=by unfold RM;rw[hcn,k1];rfl
  have hv:fK [UInt8.ofNat (48+c.aT.toNat)]=c.aT:=by simp only[fK,b7C,b8Z,hb];omega
  have hN:lO 9 [UInt8.ofNat (48+c.aT.toNat)]=true:=by rw[Bb];simp only[b5S,b6d,bH,hd];rfl
  unfold nW;rw[hcn,hnm,ek,hN,k3];have hnv:kj 9 [UInt8.ofNat (48+c.aT.toNat)]=c.aT:=by unfold kj;rw[hN,hv];rfl
  rw[hnv];have hc:=gv c c.aj c.aT [] rfl rfl (nS c h (by omega));rw[<-hc];rfl
 rcases e with e|e
 .exact fin 116 (hx.2.2.1 e) (by rw[(key 116 (hx.2.2.1 e)).2.1,e];decide)
 .exact fin 97 (hx.2.2.2.1 e) (by rw[(key 97 (hx.2.2.2.1 e)).2.1,e];decide)
def T6(inner:Nat->Nat->RS)(t:List UInt8)(a dp:Nat)(r:List UInt8)(x c:J)(m n:Nat)(hx:x=bR 8 m (bR 5 n c))
  (htx:aX x=List.replicate n 126++(aX c++List.replicate m 42)) (hdp:dp+1<=100) (hr:okR r) (hd:t.drop a=aX x++r)
  (fv:∀ r',noD r'->t.drop a=List.replicate n 126++aX c++r'->inner a (dp+1)=⟨bR 5 n c,a+(n+(aX c).length),dp+1,false⟩):dN inner t a dp false=⟨x,a+(aX x).length,dp,false⟩:=by
 have Z7:t.drop a=(List.replicate n 126++aX c)++(List.replicate m 42++r):=by rw[hd,htx];simp
 have hU:noD (List.replicate m 42++r):=by
  intro b l e;cases m with
  | zero=>exact (hr b l e).2
  | succ m =>
   rw[b7p,b6x] at e;simp only[b5J] at e;rw[<-e.1];decide
 have h1:=fv _ hU Z7;have hd2:=bV Z7;have hl:(List.replicate n 126++aX c).length=n+(aX c).length:=by simp
 rw[hl] at hd2;have hm:gD 42 (t.drop (a+(n+(aX c).length)))=m:=by rw[hd2];exact J9 42 r (λ b l e=>(hr b l e).1) m
 unfold dN;rw[if_neg (by simp;omega),h1];unfold zN;simp only[Bool.false_eq_true,if_false];rw[hm,<-hx];have:(aX x).length=n+((aX c).length+m):=by rw[htx];simp
 simp only[RS.mk.injEq,b6t,b5W];omega
def I2:∀ (N:Nat) (n:Nat) (c:J),bG c+n<N->aF c=true->Me c.aj->∀ (t:List UInt8) (g a dp:Nat) (r:List UInt8),g+dp=100->dp+n+2 * bm c<=101->noD r ->
  t.drop a=List.replicate n 126++aX c++r->cg t g a dp=⟨bR 5 n c,a+(n+(aX c).length),dp,false⟩
 | 0,n,c,h,_,_=>by omega
 | N+1,n+1,c,hN,h,hk=>by
  intro t g a dp r hg hd hr ht;have hdp:=gE c;obtain⟨g,rfl⟩:∃ g',g=g'+1:=⟨g - 1,by omega⟩;have G7:t.drop a=126::(List.replicate n 126++aX c++r):=by rw[ht,b7p];rfl
  have h1:t.drop (a+1)=List.replicate n 126++aX c++r:=bV (w:=[126]) G7;have ih:=I2 N n c (by omega) h hk t g (a+1) (dp+1) r (by omega) (by omega) hr h1;have hp:=fN G7;rw[cg.eq_def];dsimp only;rw[if_neg (by rw[hp];decide),if_neg (by rw[hp];decide),if_neg (by rw[hp];decide),if_pos (by rw[hp];decide)];simp only[ih,dJ];simp only[RS.mk.injEq,true_and,and_true];omega
 | N+1,0,c,hN,h,hk=>by
  intro t g a dp r hg hd hr ht;have ht:t.drop a=aX c++r:=by rw[ht];rfl
  have hf:=cF c h;have hx:=cu c h;have hdp:=gE c;show cg t g a dp=⟨c,a+(0+(aX c).length),dp,false⟩;rw[b7P];have zx:∀ i,i<c.U.length->xZ c i->∀ g',g=g'+1->∀ (a:Nat) (r:List UInt8),okR r->t.drop a=aX (c.U.getD i zE)++r ->
    dN (cg t g') t a dp false=⟨c.U.getD i zE,a+(aX (c.U.getD i zE)).length,dp,false⟩:=by
   intro i hi hgk g' eg a r hr hda;obtain⟨m,n,c',e1,e2,e3,e4,e5,e6⟩:=RY _ _ (b6g _) hgk.1;have hdk:=qL bm zE c.U i hi;have hdc:=gE c';have hms:bG c'+n<=bG (c.U.getD i zE):=by
    have w:∀ (k:Int) (n:Nat) (e:J),bG (bR k n e)>=bG e+n:=by
     intro k n;induction n with
     | zero=>intro e;exact b6k _
     | succ n ih =>
      intro e;have h1:=ih (J.mk k 0 [e]);have h2:bG [e]<bG (J.mk k 0 [e]):=fh (J.mk k 0 [e]);have h3:bG e<bG [e]:=cz e [e] 0 (by simp);show bG (bR k n (J.mk k 0 [e]))>=_;omega
    have h1:=w 8 m (bR 5 n c');have h2:=w 5 n c';rw[<-e1] at h1;omega
   exact T6 (cg t g') t a dp r _ c' m n e1 e6 (by omega) hr hda (λ r' MA DW=>I2 N n c' (by have:=hgk.2;omega) e2 e3 t g' a (dp+1) r' (by omega) (by omega) MA DW)
  rcases hk with e|e|e|e|e|e
  .rw[hx.1 e] at ht ⊢;have hp:=fN (show t.drop a=48::r from ht);have hc:=gv c 1 0 [] e (kq c h (by omega) (by omega)) (nS c h (by omega));rw[cg.eq_def];dsimp only;rw[if_pos (by rw[hp];decide),<-hc];rfl
  .rw[hx.2.1 e] at ht ⊢;have hp:=fN (show t.drop a=49::r from ht);have hc:=gv c 2 0 [] e (kq c h (by omega) (by omega)) (nS c h (by omega));rw[cg.eq_def];dsimp only;rw[if_neg (by rw[hp];decide),if_pos (by rw[hp];decide),<-hc];rfl
  .have hp:=fN (show t.drop a=116::(iA c.aT++r) by rw[ht,hx.2.2.1 e];rfl);rw[cg.eq_def];dsimp only;rw[if_neg (by rw[hp];decide),if_neg (by rw[hp];decide),if_pos (by rw[hp];decide)];exact Yl t a dp c h (.inl e) r hr ht
  .have hp:=fN (show t.drop a=97::(iA c.aT++r) by rw[ht,hx.2.2.2.1 e];rfl);rw[cg.eq_def];dsimp only;rw[if_neg (by rw[hp];decide),if_neg (by rw[hp];decide),if_pos (by rw[hp];decide)];exact Yl t a dp c h (.inr e) r hr ht
  .obtain⟨hl,k0,k1⟩:=hf.2.2.1 (.inl e);have hc:=gv c 6 0 _ e (kq c h (by omega) (by omega)) (GA c hl);have hd0:=qL bm zE c.U 0 (by omega);have Z7:=gE (c.U.getD 0 zE);obtain⟨g,rfl⟩:∃ g',g=g'+1:=⟨g - 1,by omega⟩;rw[hx.2.2.2.2.2.1 e] at ht ⊢;have p0:t.drop a=40::(aX (c.U.getD 0 zE)++([32,43,32]++(aX (c.U.getD 1 zE)++([41]++r)))):=by rw[ht];simp
   have p1:t.drop (a+1)=aX (c.U.getD 0 zE)++([32,43,32]++(aX (c.U.getD 1 zE)++([41]++r))):=bV (w:=[40]) p0;have q1:=zx 0 (by omega) k0 g rfl (a+1) _ (λ b l g=>by simp at g;rw[<-g.1];decide) p1;have p2:=bV p1;have p2a:t.drop (a+1+(aX (c.U.getD 0 zE)).length+1)=43::(32::(aX (c.U.getD 1 zE)++([41]++r))):=bV (w:=[32]) p2;have p2b:t.drop (a+1+(aX (c.U.getD 0 zE)).length+1+1)=32::(aX (c.U.getD 1 zE)++([41]++r)):=bV (w:=[43]) p2a;have p3:t.drop (a+1+(aX (c.U.getD 0 zE)).length+1+1+1)=aX (c.U.getD 1 zE)++([41]++r):=bV (w:=[32]) p2b;have q2:=zx 1 (by omega) k1 g rfl _ _ (λ b l g=>by simp at g;rw[<-g.1];decide) p3;have p4:=bV p3;have hp:=fN p0;rw[cg.eq_def];dsimp only;rw[if_neg (by rw[hp];decide),if_neg (by rw[hp];decide),if_neg (by rw[hp];decide),if_neg (by rw[hp];decide),if_pos (by rw[hp];decide)];simp only[q1];unfold uc;have y1:dv t (a+1+(aX (c.U.getD 0 zE)).length) 32=_:=(rG (c:=32) p2 false).1;have y2:fD t (a+1+(aX (c.U.getD 0 zE)).length) 32 false=false:=(rG (c:=32) p2 false).2;have y3:dv t (a+1+(aX (c.U.getD 0 zE)).length+1+1) 32=_:=(rG (c:=32) p2b false).1;have y4:fD t (a+1+(aX (c.U.getD 0 zE)).length+1+1) 32 false=false:=(rG (c:=32) p2b false).2;simp only[y1,y2,y3,y4];rw[if_pos (by rw[fN p2a];decide)];unfold zI;simp only[q2];have y5:dv t _ 41=_:=(rG (c:=41) p4 false).1;have y6:fD t _ 41 false=false:=(rG (c:=41) p4 false).2;rw[y5,y6,<-hc];simp only[RS.mk.injEq,true_and,and_true,List.length_append,List.length_cons,List.length_nil];omega
  .obtain⟨hl,k0,k1⟩:=hf.2.2.1 (.inr e);have hc:=gv c 7 0 _ e (kq c h (by omega) (by omega)) (GA c hl);have hd0:=qL bm zE c.U 0 (by omega);have Z7:=gE (c.U.getD 0 zE);obtain⟨g,rfl⟩:∃ g',g=g'+1:=⟨g - 1,by omega⟩;rw[hx.2.2.2.2.2.2.1 e] at ht ⊢;have p0:t.drop a=40::(aX (c.U.getD 0 zE)++([32]++(aX (c.U.getD 1 zE)++([41]++r)))):=by rw[ht];simp
   have p1:t.drop (a+1)=aX (c.U.getD 0 zE)++([32]++(aX (c.U.getD 1 zE)++([41]++r))):=bV (w:=[40]) p0;have q1:=zx 0 (by omega) k0 g rfl (a+1) _ (λ b l g=>by simp at g;rw[<-g.1];decide) p1;have p2:=bV p1;have p3:t.drop (a+1+(aX (c.U.getD 0 zE)).length+1)=aX (c.U.getD 1 zE)++([41]++r):=bV (w:=[32]) p2;have q2:=zx 1 (by omega) k1 g rfl _ _ (λ b l g=>by simp at g;rw[<-g.1];decide) p3;have p4:=bV p3;obtain⟨b1,l1,f1,f2⟩:=QF _ k1.1;have hp:=fN p0;rw[cg.eq_def];dsimp only;rw[if_neg (by rw[hp];decide),if_neg (by rw[hp];decide),if_neg (by rw[hp];decide),if_neg (by rw[hp];decide),if_pos (by rw[hp];decide)];simp only[q1];unfold uc;have y1:dv t (a+1+(aX (c.U.getD 0 zE)).length) 32=_:=(rG (c:=32) p2 false).1;have y2:fD t (a+1+(aX (c.U.getD 0 zE)).length) 32 false=false:=(rG (c:=32) p2 false).2;simp only[y1,y2];have b3V:¬ bN t (a+1+(aX (c.U.getD 0 zE)).length+1)=43:=by
    have p3':=p3;rw[f1] at p3';rw[fN p3'];intro hh;exact f2 (UInt8.toNat_inj.1 (by simpa using Int.ofNat_inj.1 hh))
   rw[if_neg b3V];unfold zI;simp only[q2];have y5:dv t _ 41=_:=(rG (c:=41) p4 false).1;have y6:fD t _ 41 false=false:=(rG (c:=41) p4 false).2;rw[y5,y6,<-hc];simp only[RS.mk.injEq,true_and,and_true,List.length_append,List.length_cons,List.length_nil];omega
def a2K(x:J)(h:aF x=true)(h40:bm x<=40):dN (cg (aX x) 99) (aX x) 0 0 false=⟨x,(aX x).length,0,false⟩:=by
 obtain⟨m,n,c,e1,e2,e3,e4,e5,e6⟩:=RY _ _ (Nat.lt_succ_self _) h;have:=T6 (cg (aX x) 99) (aX x) 0 0 [] x c m n e1 e6 (by omega) (λ b l g=>by cases g) (by simp) (λ r' MA DW=>I2 _ n c (Nat.lt_succ_self _) e2 e3 (aX x) 99 0 (0+1) r' (by omega) (by omega) MA DW);simpa using this
def Cf(gg:aD)(x:J)(hg:sigOk gg=true)(h:isE gg x=true):aF x=true/\bm x<=40/\(aX x).length<=1000:=by
 rw[AL] at h;rw[dt] at hg;rw[iG _ (by omega),iG _ (by omega)] at h;have ht:=sV _ _ 9 9 (by omega) (by omega) x h.1;have:=sZ (bG x+1) x (b6g _) ht;exact⟨ht,h.2.2,by have:=h.2.1;omega⟩
def Sv(t:List UInt8):RI:=jb (dq t 41) t 0
def xl(t:List UInt8):RS:=dN (cg t 99) t 0 0 false
def eP(gg:aD)(t:List UInt8):Bool:=(Sv t).ok&&decide ((Sv t).a=t.length)&&isE gg (Sv t).e&&decide (aX (Sv t).e=t)
def nX(gg:aD)(t:List UInt8):J:=bif eP gg t then (Sv t).e else zX
def a5G(gg:aD)(t:List UInt8)(hg:sigOk gg=true):(!(xl t).bad&&decide ((xl t).a=t.length)&&isE gg (xl t).e)=eP gg t/\(eP gg t=true->(xl t).e=nX gg t):=by
 have up:eP gg t=true->xl t=⟨(Sv t).e,t.length,0,false⟩:=by
  intro h;simp only[eP,b5M,b5K] at h;obtain⟨h1,h2,_⟩:=Cf gg _ hg h.1.2;have:=a2K _ h1 h2;rw[h.2] at this;exact this
 have down:(!(xl t).bad&&decide ((xl t).a=t.length)&&isE gg (xl t).e)=true->eP gg t=true:=by
  intro h;simp only[Bool.and_eq_true,decide_eq_true_eq,Bool.not_eq_true'] at h;obtain⟨⟨h1,h2⟩,h3⟩:=h;obtain⟨g1,g2,_⟩:=Cf gg _ hg h3;obtain⟨_,W,w1,w2⟩:=(qm (cg t 99) t 0 0 false (λ _=>Ce t 99 0 1 rfl)).ex h1;have w1':t=W++t.drop (xl t).a:=w1;rw[h2,List.drop_length,List.append_nil] at w1';have w3:t=aX (xl t).e:=w1'.trans (w2 g1);have hi:=a2J _ g1 g2;rw[<-w3] at hi;have kg:Sv t=⟨(xl t).e,true,t.length⟩:=hi;unfold eP;rw[kg];simp only[h3,<-w3,decide_true,Bool.and_self]
 refine⟨?_,λ h=>?_⟩
 .cases hb:eP gg t
  .cases hc:(!(xl t).bad&&decide ((xl t).a=t.length)&&isE gg (xl t).e)
   .rfl
   .rw[down hc] at hb;cases hb
  .have hu:=up hb;have h3:=hb;simp only[eP,b5M] at h3;rw[hu];simp only[h3.1.2,b6u,b9g,b5T]
 .rw[up h];unfold nX;rw[h];rfl
mutual
def ep:J->Nat
 | ⟨_,_,U⟩=>U.length+vz U
def vz:List J->Nat
 | []=>0
 | k::ks=>ep k+vz ks
end
def Lz:∀ xs,vz xs=dy ep xs
 | []=>rfl
 | x::xs=>by rw[vz,dy,Lz xs]
def Y0(x:J):ep x=(x.U.length+dy ep x.U):=by
 cases x;simp[ep,Lz];try omega
def zy:bc:=⟨Cw,[.v (.int .i64), .v (.int .i64)],λ (k:Int) (m:Int)=>⟨(none,[⟨(.st .expr),J.mk k m []⟩])⟩⟩
def Tc(k:Int)(m:Int):Nat->aI:=cf
def M6:bc.iY zy:=by
 refine⟨aG rl,?_⟩;intro (k:Int) (m:Int) _;refine eO [] [] [] [] [] [] [] [] trivial trivial trivial trivial rl C3 (Tc k m) ((J.mk k m [])=(J.mk k m [])) ?_;refine rfl;all_goals try and_intros
 all_goals first|rfl|trivial|omega|(simp only[b5K,b5L,aJ,ag,ca,ei,cY,bn] at *;omega)|(simp[aJ,ag] at *;omega)|grind
def ng:bc:=⟨Cy,[.v (.int .i64), .o (.slice (.st .expr))],λ (k:Int) (ks:List J)=>⟨(none,[⟨(.st .expr),J.mk k 0 ks⟩])⟩⟩
def Td(k:Int)(ks:List J):Nat->aI:=cf
def Bd:bc.iY ng:=by
 refine⟨aG rn,?_⟩;intro (k:Int) (ks:List J) _;refine eO [] [] [] [] [] [] [] [] trivial trivial trivial trivial rn C4 (Td k ks) ((J.mk k (0:Int) ks)=(J.mk k 0 ks)) ?_;refine ?_;all_goals try and_intros
 all_goals first|rfl|trivial|omega|(simp only[b5K,b5L,aJ,ag,ca,ei,cY,bn] at *;omega)|(simp[aJ,ag] at *;omega)|grind
def jR(n:Nat):bc:=⟨qP,[.v (.st .expr)],λ (e:J)=>⟨(some (bG e<n/\ep e<=1048576),[⟨(.st .expr),e⟩])⟩⟩
def fL:bc:=⟨qP,[.v (.st .expr)],λ (e:J)=>⟨(some (ep e<=1048576),[⟨(.st .expr),e⟩])⟩⟩
def K1(e:J):Nat->aI:=(fu 0 (.a (Nat) (λ i=>i<=e.U.length) (λ i=>e.U.length - i) [0,1,6,7,8,9,10,11] (λ i=>[(14, .aO ⟨(.int .i64),((i:Int):Int)⟩)]) [2] (λ i=>[(3, .box [.aO ⟨(.int .i64),(e.aj:Int)⟩, .aO ⟨(.int .i64),(e.aT:Int)⟩, .aC 2400]),(2400, .aC (.st .expr) (e.U.take i:List J))])) cf)
def Ji(n:Nat)(hE:bu [])(hO:la [jR n])(hM:nb [])(hS:j8 []):bc.iY (jR (n+1)):=by
 refine⟨aG kP,?_⟩;intro (e:J) (hp:bG e<n+1/\ep e<=1048576);refine eO [] [jR n] [] [] [21,22,23] [] [] [1] hE hO hM hS kP GG (K1 e) (let v0:=(e.U.length:Int);let v1:=((0:Int)=(0:Int)/\((0:Int)=(0:Int)/\(True/\True)))/\True;let v2:=(3:Nat)=3/\(2:Nat)=2;let v3:=e.aj=e.aj/\(e.aT=e.aT/\(True/\True));((ag e.aj->(ag e.aT->(e.U.length<=140737488355328->(ag v0->((∃ i1:Nat,(i1<=e.U.length/\((True/\(True/\(e.U=e.U/\(v0=v0/\((0:Int)=(i1:Int)/\True)))))/\(v3/\((e.U.take i1)=[]/\v1)))))/\(∀ i1:Nat,let v4:=e.U.getD i1 zE;(i1<=e.U.length->(((decide ((i1:Int)<v0))=true->(aJ (i1:Int) e.U.length/\(v2/\((2400:Nat)=2400/\((v4.aj=v4.aj/\(v4.aT=v4.aT/\(v4.U=v4.U/\True)))/\((bG (aV v4)<n/\ep (aV v4)<=1048576)/\(v2/\((2400:Nat)=2400/\(v2/\((2400:Nat)=2400/\(bn ((e.U.take i1).length+([(aV v4)]).length) 40/\(ag ((i1:Int)+(1:Int))/\(∃ i2:Nat,(i2<=e.U.length/\(e.U.length - i2<e.U.length - i1/\((True/\(True/\(e.U=e.U/\(v0=v0/\(((i1:Int)+(1:Int))=(i2:Int)/\True)))))/\(v3/\(((e.U.take i1)++([(aV v4)]))=(e.U.take i2)/\v1))))))))))))))))))/\((decide ((i1:Int)<v0))=false->(J.mk e.aj e.aT (e.U.take i1))=e))))))))))) ?_;rw[Y0] at hp;have f0:=fh e;have f1:=λ i (h:i<e.U.length)=>UN ep zE e.U i h;have f2:=λ i (h:i<e.U.length)=>cz zE e.U i h;have f3:=λ i (h:i<e.U.length)=>gL zE e.U i h;have f4:e.U.take 0=[]:=by simp
 have f5:∀ i,e.U.length<=i->e.U.take i=e.U:=λ i h=>b6J h;have f6:∀ i,(e.U.take i).length<=e.U.length:=λ i=>by simp;omega
 have f7:∀ ks,ks=e.U->J.mk e.aj e.aT ks=e:=λ ks h=>by subst h;cases e;rfl
 refine λ _ _ _ _=>⟨⟨0,?_,⟨af,af,rfl,rfl,?_,af⟩,⟨rfl,rfl,af,af⟩,?_,⟨rfl,rfl,af,af⟩,af⟩,λ i1 _=>⟨λ _=>⟨?_,⟨?_,?_⟩,?_,⟨rfl,rfl,rfl,?_⟩,?_,⟨?_,?_⟩,?_,⟨?_,?_⟩,?_,?_,?_,i1+1,?_,?_,⟨af,af,rfl,rfl,?_,af⟩,⟨rfl,rfl,af,af⟩,?_,⟨rfl,rfl,af,af⟩,af⟩,λ _=>?_⟩⟩;all_goals try and_intros
 all_goals try (first|with_reducible rfl|with_reducible assumption)
 all_goals try simp only[J.eta,aE.eta,aQ,bq] at *
 all_goals first|rfl|trivial|omega|(simp only[b5K,b5L,aJ,ag,bn,b5S,b6d] at *;first|omega|(have:=f6 i1;omega)|exact f7 _ (f5 _ (by omega))|grind)|grind
def NI:∀ n,la [jR n]
 | 0=>⟨⟨aG kP,λ _ h=>absurd h.1 (b6H _)⟩,af⟩
 | n+1=>by
  have ih:=NI n;exact⟨Ji n trivial ⟨ih.1,af⟩ trivial trivial,af⟩
def sJ:bc.iY fL :=
 ⟨aG kP,λ e hp=>(NI (bG e+1)).1.2 e (⟨b6g _,hp⟩)⟩
def b2g(t:List UInt8)(a:Nat)(s:List UInt8):(decide (s.length<=(t.drop a).length)&&decide ((t.drop a).take s.length=s))=cD t a s:=rfl
def Ss(t:List UInt8)(a:Nat)(s:List UInt8)(h:cD t a s=true):s.length+a<=t.length\/s=[]:=by
 obtain⟨r,hr⟩:=(LD t a s).1 h;have:=congrArg List.length hr;simp only[b7e,b5Y] at this;cases s with
 | nil=>exact .inr rfl
 | cons b l=>left;simp only[b5S] at this ⊢;omega
def oP(t:List UInt8)(a:Int)(p:List UInt8):Int:=bif cD t a.toNat p then a+(p.length:Int) else a
def Ez(t:List UInt8)(a:Int):Int:=bif iL t a.toNat then a+1 else a
def Kd(t:List UInt8)(a:Int):Int:=bif iL t a.toNat then ((t.getD a.toNat 0).toNat:Int) - 48 else 0
theorem a9Q:IntKind.u8.min=0:=rfl
theorem a9P:IntKind.u8.max=255:=rfl
def b0K(b:UInt8):0<=(b.toNat:Int)/\(b.toNat:Int)<=255:=by have:=b.toNat_lt;omega
def fH:dZ:=⟨uG,[[.d .str, .d (.int .i64)]],[.b 0, .v .str],[[.str,(.int .i64)]],λ (p:List UInt8) (t:List UInt8) (a:Int)=>⟨(some (0<=a/\a<=(t.length:Int)/\t.length<=10000/\p.length<=10/\1<=p.length),[⟨.bool,cD t a.toNat p⟩],[[⟨.str,t⟩,⟨(.int .i64),oP t a p⟩]])⟩⟩
def Fm(p:List UInt8)(t:List UInt8)(a:Int):Nat->aI:=cf
def oI:dZ.Good fH:=by
 refine⟨aG rP,?_⟩;intro (p:List UInt8) (t:List UInt8) (a:Int) (hp:0<=a/\a<=(t.length:Int)/\t.length<=10000/\p.length<=10/\1<=p.length);refine dC [so] [] [] [] [] [] [] [] ⟨AF,af⟩ trivial trivial trivial rP BH (Fm p t a) rfl rfl (let v1:=(t.take (Int.toNat ((t.length:Int)))).drop (Int.toNat a);let v0 := !(decide (p.length<=v1.length)&&decide (v1.take p.length=p));let v2:=(p.length:Int);((ei a ((t.length:Int)) t.length/\(t.length<=140737488355328->(ag a->((v0=true->(false=(cD t a.toNat p)/\((t=t/\a=(oP t a p))/\True)))/\(v0=false->(ag a->(ag v2->(ag (a+v2)/\(true=(cD t a.toNat p)/\((t=t/\(a+v2)=(oP t a p))/\True)))))))))))) ?_;obtain⟨h1,h2,h3,h4,h5⟩:=hp;have f0:oP t a p=bif cD t a.toNat p then a+(p.length:Int) else a:=rfl
 refine⟨?_,λ _ _=>⟨λ _=>⟨?_,⟨rfl,?_⟩,af⟩,λ _ _ _=>⟨?_,?_,⟨rfl,?_⟩,af⟩⟩⟩;all_goals try and_intros
 all_goals first|rfl|trivial|omega|((try simp only[b5U,b5T,b6j,b6A,b5K,b5L] at *)<;>(try simp only[b5R,b8P,b2g,aJ,ei,ag] at *)<;>first|with_reducible rfl|omega|(have h1:=Ss _ _ _ (by with_reducible assumption);have h2:p.length<=10:=by omega;omega)|(rw[by with_reducible assumption];done)|(rw[show cD t a.toNat p=_ from by with_reducible assumption];rfl)|simp_all)
def kF:dZ:=⟨sG,[[.d .str, .d (.int .i64)]],[.b 0],[[.str,(.int .i64)]],λ (t:List UInt8) (a:Int)=>⟨(some (0<=a/\a<=(t.length:Int)/\t.length<=10000),[⟨(.int .i64),Kd t a⟩,⟨.bool,iL t a.toNat⟩],[[⟨.str,t⟩,⟨(.int .i64),Ez t a⟩]])⟩⟩
def D7(t:List UInt8)(a:Int):Nat->aI:=cf
abbrev ou(t:List UInt8)(a:Int):Prop:=(let v1:=a+(1:Int);let v0:=(((t.getD (Int.toNat (v1 - (1:Int))) 0).toNat:Int)) - (48:Int);(ag a ->
 (ag v1/\(ag (v1 - (1:Int))/\(t.length<=140737488355328 ->
 (ag v1 ->
 (aJ (v1 - (1:Int)) t.length/\(ca .u8 v0/\(ag v0/\((v0=(Kd t a)/\true=(iL t a.toNat))/\((t=t/\v1=(Ez t a))/\True)))))))))))
abbrev ov(t:List UInt8)(a:Int):Prop:=(let v0:=decide ((((t.getD (Int.toNat a) 0).toNat:Int))<=(57:Int));(t.length<=140737488355328 ->
 (ag a ->
 (aJ a t.length/\((v0=true ->
 (ou t a))/\(v0=false ->
 (((0:Int)=(Kd t a)/\false=(iL t a.toNat))/\((t=t/\a=(Ez t a))/\True))))))))
abbrev ow(t:List UInt8)(a:Int):Prop:=((false=true ->
 (ou t a))/\(false=false ->
 (((0:Int)=(Kd t a)/\false=(iL t a.toNat))/\((t=t/\a=(Ez t a))/\True))))
def zK:dZ.Good kF:=by
 refine⟨aG pT,?_⟩;intro (t:List UInt8) (a:Int) (hp:0<=a/\a<=(t.length:Int)/\t.length<=10000);refine dC [] [] [] [] [] [] [] [] trivial trivial trivial trivial pT Ak (D7 t a) rfl rfl (let v0:=(t.length:Int);let v1:=decide ((48:Int)<=(((t.getD (Int.toNat a) 0).toNat:Int)));((((decide (a<v0))=true->(aJ a t.length/\((v1=true->(ag a->(t.length<=140737488355328->(ag v0->(t.length<=140737488355328->(ag a->(ov t a)))))))/\(v1=(!true)->(ag a->(t.length<=140737488355328->(ag v0->(t.length<=140737488355328->(ag a->(ow t a))))))))))/\((decide (a<v0))=(!true)->((false=true->(ag a->(t.length<=140737488355328->(ag v0->(ov t a)))))/\(false=(!true)->(ag a->(t.length<=140737488355328->(ag v0->(ow t a)))))))))) ?_;obtain⟨h1,h2,h3⟩:=hp;have f1:=b0K (t.getD a.toNat 0);have f3:Ez t a=bif iL t a.toNat then a+1 else a:=rfl
 have f4:Kd t a=bif iL t a.toNat then ((t.getD a.toNat 0).toNat:Int) - 48 else 0:=rfl
 have f2:iL t a.toNat=(decide (a.toNat<t.length)&&decide (48<=(t.getD a.toNat 0).toNat)&&decide ((t.getD a.toNat 0).toNat<=57)):=rfl;refine⟨λ _=>⟨?_,λ _ _ _ _ _ _ _ _=>⟨?_,λ _ _=>⟨?_,?_,λ _ _=>⟨?_,?_,?_,⟨?_,?_⟩,⟨rfl,?_⟩,af⟩⟩,λ _=>⟨⟨?_,?_⟩,⟨rfl,?_⟩,af⟩⟩,λ _ _ _ _ _ _=>⟨λ _ _=>⟨?_,?_,λ _ _=>⟨?_,?_,?_,⟨?_,?_⟩,⟨rfl,?_⟩,af⟩⟩,λ _=>⟨⟨?_,?_⟩,⟨rfl,?_⟩,af⟩⟩⟩,λ _=>⟨λ _ _ _ _ _ _=>⟨?_,λ _ _=>⟨?_,?_,λ _ _=>⟨?_,?_,?_,⟨?_,?_⟩,⟨rfl,?_⟩,af⟩⟩,λ _=>⟨⟨?_,?_⟩,⟨rfl,?_⟩,af⟩⟩,λ _ _ _ _=>⟨λ _ _=>⟨?_,?_,λ _ _=>⟨?_,?_,?_,⟨?_,?_⟩,⟨rfl,?_⟩,af⟩⟩,λ _=>⟨⟨?_,?_⟩,⟨rfl,?_⟩,af⟩⟩⟩⟩;all_goals try and_intros
 all_goals first|rfl|trivial|omega|(simp only[decide_eq_true_eq,decide_eq_false_iff_not,aJ,ag,a9Q,a9P] at *;first|omega|grind [iL])|grind [iL,a9Q,a9P]
def nE(t:List UInt8)(a:Int):Nat:=gD 126 (t.drop a.toNat)
def rE(t:List UInt8)(d a:Int):RI:=dq t (d+1).toNat (a.toNat+nE t a)
def mE(t:List UInt8)(d a:Int):Nat:=gD 42 (t.drop (rE t d a).a)
def xE(t:List UInt8)(d a:Int):RI:=jb (dq t (d+1).toNat) t a.toNat
def a1q(c:UInt8):∀ l:List UInt8,gD c l<=l.length
 | []=>b6k _
 | b::l=>by
  have:=a1q c l;unfold gD;split<;>simp<;>omega
def Gd(c:UInt8)(t:List UInt8)(a:Nat)(h:a<=t.length):a+gD c (t.drop a)<=t.length:=by
 have:=a1q c (t.drop a);simp only[b7e] at this;omega
def jY(t:List UInt8)(a:Nat)(c:UInt8)(s:List UInt8)(h:cD t a (c::s)=true):a+(c::s).length<=t.length:=by
 rcases Ss t a _ h with g|g
 .omega
 .cases g
def T4(core:Nat->RI)(t:List UInt8)(hc:∀ a,a<=t.length->(core a).a<=t.length)(a:Nat)(h:a<=t.length):(jb core t a).a<=t.length:=by
 have h1:=Gd 126 t a h;have h2:=hc _ h1;have h3:=Gd 42 t _ h2;unfold jb;split
 .exact h1
 .split
  .show (core (a+gD 126 (t.drop a))).a+42<=t.length;omega
  .exact h3
def Up(k:Int)(t:List UInt8)(a:Nat)(h:a<=t.length):(qJ k t a).a<=t.length:=by
 unfold qJ;cases e:iL t a
 .exact h
 .simp only[iL,b5M,b5K] at e;show a+1<=t.length;omega
def Uw(k:Int)(t:List UInt8)(x y:RI)(h:y.a<=t.length):(pE k t x y).a<=t.length:=by
 unfold pE;cases e:x.ok&&y.ok&&cD t y.a [41]
 .exact h
 .simp only[Bool.and_eq_true] at e;have:=jY t _ 41 [] e.2;simpa using this
def Md(t:List UInt8):∀ (D a:Nat),a<=t.length->(dq t D a).a<=t.length
 | 0,a,h=>h
 | D+1,a,h=>by
  have hx:∀ a,a<=t.length->(jb (dq t D) t a).a<=t.length:=T4 (dq t D) t (Md t D);unfold dq;split
  .rename_i e;exact jY t a 48 [] e
  .split
   .rename_i e;exact jY t a 49 [] e
   .split
    .rename_i e;exact Up 3 t _ (jY t a 116 [] e)
    .split
     .rename_i e;exact Up 4 t _ (jY t a 97 [] e)
     .split
      .exact h
      .rename_i e;have e':cD t a [40]=true:=by simpa using e
       have h1:=hx _ (jY t a 40 [] e');split
       .rename_i e2;exact Uw 6 t _ _ (hx _ (jY t _ 32 [43,32] e2))
       .split
        .rename_i e2;exact Uw 7 t _ _ (hx _ (jY t _ 32 [] e2))
        .exact h1
def a1a(t:List UInt8)(d a:Int)(h0:0<=a)(h:a<=(t.length:Int)):((xE t d a).a:Int)<=(t.length:Int):=by
 have:=T4 (dq t (d+1).toNat) t (Md t _) a.toNat (by omega);unfold xE;omega
def a2v(t:List UInt8)(a:Int)(p:List UInt8)(h0:0<=a):0<=oP t a p:=by
 unfold oP;cases cD t a.toNat p<;>simp<;>omega
def a2w(t:List UInt8)(a:Int)(p:List UInt8)(h0:0<=a)(h:a<=(t.length:Int)):oP t a p<=(t.length:Int):=by
 unfold oP;cases e:cD t a.toNat p
 .exact h
 .rcases Ss t _ p e with g|g
  .simp only[b9d];omega
  .subst g;simpa using h
def Kc(t:List UInt8)(a:Int)(h0:0<=a):0<=Ez t a:=by
 unfold Ez;cases iL t a.toNat<;>simp<;>omega
def Pv(t:List UInt8)(a:Int)(h0:0<=a)(h:a<=(t.length:Int)):Ez t a<=(t.length:Int):=by
 unfold Ez;cases e:iL t a.toNat
 .exact h
 .simp only[iL,b5M,b5K] at e;simp only[b9d];omega
def ZG(t:List UInt8)(d a:Int)(h:d<0)(ha:0<=a):(dq t (d+1).toNat a.toNat).e=zX/\(dq t (d+1).toNat a.toNat).ok=false/\((dq t (d+1).toNat a.toNat).a:Int)=a:=by
 rw[show (d+1).toNat=0 by omega];exact⟨rfl,rfl,by show ((a.toNat:Nat):Int)=a;omega⟩
def As(t:List UInt8)(d a:Int)(h:¬ d<0)(ha:0<=a):dq t (d+1).toNat a.toNat =
  if cD t a.toNat [48]=true then ⟨J.mk 1 0 [],true,a.toNat+1⟩ else if cD t a.toNat [49]=true then ⟨J.mk 2 0 [],true,a.toNat+1⟩ else
  if cD t a.toNat [116]=true then qJ 3 t (a+1).toNat else if cD t a.toNat [97]=true then qJ 4 t (a+1).toNat else if cD t a.toNat [40]=false then ⟨zX,false,a.toNat⟩ else
  if cD t (xE t (d - 1) (a+1)).a [32,43,32]=true then pE 6 t (xE t (d - 1) (a+1)) (xE t (d - 1) (((xE t (d - 1) (a+1)).a:Int)+3)) else
  if cD t (xE t (d - 1) (a+1)).a [32]=true then pE 7 t (xE t (d - 1) (a+1)) (xE t (d - 1) (((xE t (d - 1) (a+1)).a:Int)+1)) else
  ⟨zX,false,(xE t (d - 1) (a+1)).a⟩:=by
 obtain⟨D,hD⟩:∃ D:Nat,d=(D:Int):=⟨d.toNat,by omega⟩;subst hD;have e1:((D:Int)+1).toNat=D+1:=by omega
 have e2:((D:Int) - 1+1).toNat=D:=by omega
 have e3:(a+1).toNat=a.toNat+1:=by omega
 have e4:∀ n:Nat,((n:Int)+3).toNat=n+3:=λ n=>by omega
 have e5:∀ n:Nat,((n:Int)+1).toNat=n+1:=λ n=>by omega
 unfold xE;rw[e1,e2,e3];simp only[e4,e5];rw[dq]
def CN(t:List UInt8)(a:Int)(p:List UInt8)(h:cD t a.toNat p=false):oP t a p=a:=by unfold oP;rw[h];rfl
def uX(t:List UInt8)(a:Int)(c:UInt8)(h:cD t a.toNat [c]=true):oP t a [c]=a+1:=by unfold oP;rw[h];rfl
def a8I(t:List UInt8)(a:Int)(c d e:UInt8)(h:cD t a.toNat [c,d,e]=true):oP t a [c,d,e]=a+3:=by unfold oP;rw[h];rfl
def a2V(k:Int)(t:List UInt8)(a:Int)(h:0<=a):qJ k t a.toNat=⟨J.mk k (Kd t a) [],iL t a.toNat,(Ez t a).toNat⟩:=by
 unfold qJ Kd Ez;cases iL t a.toNat
 .rfl
 .simp only[b9d,RI.mk.injEq,b6t];omega
def Yz(k:Int)(t:List UInt8)(x y:RI):(pE k t x y).e=J.mk k 0 [x.e,y.e]:=by unfold pE;cases x.ok&&y.ok&&cD t y.a [41]<;>rfl
def Ux(k:Int)(t:List UInt8)(x y:RI):(pE k t x y).ok=(x.ok&&y.ok&&cD t y.a [41]):=by unfold pE;cases x.ok&&y.ok&&cD t y.a [41]<;>rfl
def Yy(k:Int)(t:List UInt8)(x y:RI):((pE k t x y).a:Int)=bif x.ok&&y.ok then oP t (y.a:Int) [41] else (y.a:Int):=by
 unfold pE oP;rw[Int.toNat_natCast];cases x.ok<;>cases y.ok<;>cases cD t y.a [41]<;>rfl
def X9(k:Int)(t:List UInt8)(a:Int)(h:0<=a):(qJ k t (a+1).toNat).e=J.mk k (Kd t (a+1)) []/\(qJ k t (a+1).toNat).ok=iL t (a+1).toNat/\((qJ k t (a+1).toNat).a:Int)=Ez t (a+1):=by
 rw[a2V k t (a+1) (by omega)];have:=Kc t (a+1) (by omega);exact⟨rfl,rfl,by show ((Ez t (a+1)).toNat:Int)=_;omega⟩
def TL(c:UInt8):∀ (l:List UInt8) (k:Nat),k<=gD c l->(k<gD c l↔∃ r,l.drop k=c::r)
 | [],k,h=>by simp[gD]
 | b::l,k,h=>by
  unfold gD at h ⊢;split at h
  .rename_i e;rw[b5Q e];cases k with
   | zero=>exact⟨λ _=>⟨l,by rw[e];rfl⟩,λ _=>by omega⟩
   | succ k =>
    have:=TL c l k (by omega);rw[b8G,<-this];omega
  .rename_i e;rw[b5I e];have hk:k=0:=by omega
   subst hk;refine⟨λ h=>by omega,λ ⟨r,hr⟩=>?_⟩;simp only[b8h,b5J] at hr;exact absurd hr.1 e
def a2x(t:List UInt8)(n k:Nat)(c:UInt8)(h:k<=gD c (t.drop n)):cD t (n+k) [c]=decide (k<gD c (t.drop n)):=by
 have h1:=TL c (t.drop n) k h;rw[b7J] at h1;rw[b8H,b5K,h1,LD];exact⟨λ ⟨r,hr⟩=>⟨r,hr⟩,λ ⟨r,hr⟩=>⟨r,hr⟩⟩
def b2i(t:List UInt8)(a:Int)(k:Nat)(ha:0<=a)(h:k<=nE t a):cD t (a+(k:Int)).toNat [126]=decide (k<nE t a):=by
 rw[show (a+(k:Int)).toNat=a.toNat+k by omega];exact a2x t a.toNat k 126 h
def b2h(t:List UInt8)(d a:Int)(k:Nat)(h:k<=mE t d a):cD t (((rE t d a).a:Int)+(k:Int)).toNat [42]=decide (k<mE t d a):=by
 rw[show (((rE t d a).a:Int)+(k:Int)).toNat=(rE t d a).a+k by omega];exact a2x t _ k 42 h
def a5r(t:List UInt8)(a:Int)(h0:0<=a)(h:a<=(t.length:Int)):a+(nE t a:Int)<=(t.length:Int):=by
 have:=Gd 126 t a.toNat (by omega);unfold nE;omega
def b1H(t:List UInt8)(d a:Int)(h0:0<=a)(h:a<=(t.length:Int)):((rE t d a).a:Int)+(mE t d a:Int)<=(t.length:Int):=by
 have h1:=a5r t a h0 h;have h2:=Md t (d+1).toNat (a.toNat+nE t a) (by omega);have h3:=Gd 42 t _ h2;have:(rE t d a).a+mE t d a<=t.length:=h3;omega
def a5y(t:List UInt8)(d a:Int)(ha:0<=a):dq t (d+1).toNat (a+(nE t a:Int)).toNat=rE t d a:=by
 rw[show (a+(nE t a:Int)).toNat=a.toNat+nE t a by omega];rfl
def a0Z(t:List UInt8)(d a:Int):xE t d a=if 40<nE t a then ⟨zX,false,a.toNat+nE t a⟩ else if 41<mE t d a then ⟨zX,false,(rE t d a).a+42⟩ else
  ⟨bR 8 (mE t d a) (bR 5 (nE t a) (rE t d a).e),(rE t d a).ok,(rE t d a).a+mE t d a⟩:=rfl
def a6x(t:List UInt8)(d a:Int)(ha:0<=a)(h:40<nE t a):(xE t d a).e=zX/\(xE t d a).ok=false/\((xE t d a).a:Int)=a+(nE t a:Int):=by
 rw[a0Z,b5Q h];exact⟨rfl,rfl,by show ((a.toNat+nE t a:Nat):Int)=_;omega⟩
def a3t(t:List UInt8)(d a:Int)(h:¬ 40<nE t a)(h2:41<mE t d a):(xE t d a).e=zX/\(xE t d a).ok=false/\((xE t d a).a:Int)=((rE t d a).a:Int)+42:=by
 rw[a0Z,b5I h,b5Q h2];exact⟨rfl,rfl,rfl⟩
def a6w(t:List UInt8)(d a:Int)(h:¬ 40<nE t a)(h2:¬ 41<mE t d a):(xE t d a).e=bR 8 (mE t d a) (bR 5 (nE t a) (rE t d a).e)/\(xE t d a).ok=(rE t d a).ok/\((xE t d a).a:Int)=((rE t d a).a:Int)+(mE t d a:Int):=by
 rw[a0Z,b5I h,b5I h2];exact⟨rfl,rfl,rfl⟩
structure V5(r:RI)(e:J)(ok:Bool)(a:Int):Prop where
 e:r.e=e
 ok:r.ok=ok
 a:(r.a:Int)=a
def yT(t:List UInt8)(d a:Int):RI:=dq t (d+1).toNat a.toNat
def a7B(t:List UInt8)(d a:Int)(h:d<0)(ha:0<=a):V5 (yT t d a) zX false a:=by
 obtain⟨h1,h2,h3⟩:=ZG t d a h ha;exact⟨h1,h2,h3⟩
def b2O(t:List UInt8)(d a:Int)(h:¬ d<0)(ha:0<=a)(h1:cD t a.toNat [48]=true):V5 (yT t d a) (J.mk 1 0 []) true (a+1):=by
 unfold yT;rw[As t d a h ha,if_pos h1];exact⟨rfl,rfl,by show ((a.toNat+1:Nat):Int)=_;omega⟩
def b2P(t:List UInt8)(d a:Int)(h:¬ d<0)(ha:0<=a)(h1:cD t a.toNat [48]=false)(h2:cD t a.toNat [49]=true):V5 (yT t d a) (J.mk 2 0 []) true (a+1):=by
 unfold yT;rw[As t d a h ha,if_neg (by rw[h1];decide),if_pos h2];exact⟨rfl,rfl,by show ((a.toNat+1:Nat):Int)=_;omega⟩
def b0M(t:List UInt8)(d a:Int)(h:¬ d<0)(ha:0<=a)(h1:cD t a.toNat [48]=false)(h2:cD t a.toNat [49]=false)(h3:cD t a.toNat [116]=true):V5 (yT t d a) (J.mk 3 (Kd t (a+1)) []) (iL t (a+1).toNat) (Ez t (a+1)):=by
 unfold yT;rw[As t d a h ha,if_neg (by rw[h1];decide),if_neg (by rw[h2];decide),if_pos h3];obtain⟨g1,g2,g3⟩:=X9 3 t a ha;exact⟨g1,g2,g3⟩
def b2Q(t:List UInt8)(d a:Int)(h:¬ d<0)(ha:0<=a)(h1:cD t a.toNat [48]=false)(h2:cD t a.toNat [49]=false)(h3:cD t a.toNat [116]=false)(h4:cD t a.toNat [97]=true):V5 (yT t d a) (J.mk 4 (Kd t (a+1)) []) (iL t (a+1).toNat) (Ez t (a+1)):=by
 unfold yT;rw[As t d a h ha,if_neg (by rw[h1];decide),if_neg (by rw[h2];decide),if_neg (by rw[h3];decide),if_pos h4];obtain⟨g1,g2,g3⟩:=X9 4 t a ha;exact⟨g1,g2,g3⟩
def b2R(t:List UInt8)(d a:Int)(h:¬ d<0)(ha:0<=a)(h1:cD t a.toNat [48]=false)(h2:cD t a.toNat [49]=false)(h3:cD t a.toNat [116]=false)(h4:cD t a.toNat [97]=false)(h5:cD t a.toNat [40]=false):V5 (yT t d a) zX false a:=by
 unfold yT;rw[As t d a h ha,if_neg (by rw[h1];decide),if_neg (by rw[h2];decide),if_neg (by rw[h3];decide),if_neg (by rw[h4];decide),if_pos h5];exact⟨rfl,rfl,by show ((a.toNat:Nat):Int)=_;omega⟩
def prP(t:List UInt8)(x y:RI):Int:=bif x.ok&&y.ok then oP t (y.a:Int) [41] else (y.a:Int)
def PG(t:List UInt8)(x y:RI)(h:x.ok=false\/y.ok=false):prP t x y=(y.a:Int):=by unfold prP;rcases h with h|h<;>rw[h]<;>simp
def a1Y(t:List UInt8)(x y:RI)(h:x.ok=true)(h':y.ok=true):prP t x y=oP t (y.a:Int) [41]:=by unfold prP;rw[h,h'];rfl
def b2N(t:List UInt8)(d a:Int)(h:¬ d<0)(ha:0<=a)(h1:cD t a.toNat [48]=false)(h2:cD t a.toNat [49]=false)(h3:cD t a.toNat [116]=false)(h4:cD t a.toNat [97]=false)(h5:cD t a.toNat [40]=true)(X:RI)(hX:X=xE t (d - 1) (a+1)) :
  (cD t X.a [32,43,32]=true->V5 (yT t d a) (J.mk 6 0 [X.e,(xE t (d - 1) ((X.a:Int)+3)).e]) (X.ok&&(xE t (d - 1) ((X.a:Int)+3)).ok&&cD t (xE t (d - 1) ((X.a:Int)+3)).a [41]) (prP t X (xE t (d - 1) ((X.a:Int)+3)))) /\
  (cD t X.a [32,43,32]=false->cD t X.a [32]=true->V5 (yT t d a) (J.mk 7 0 [X.e,(xE t (d - 1) ((X.a:Int)+1)).e]) (X.ok&&(xE t (d - 1) ((X.a:Int)+1)).ok&&cD t (xE t (d - 1) ((X.a:Int)+1)).a [41]) (prP t X (xE t (d - 1) ((X.a:Int)+1)))) /\
  (cD t X.a [32,43,32]=false->cD t X.a [32]=false->V5 (yT t d a) zX false (X.a:Int)):=by
 unfold yT;rw[As t d a h ha,if_neg (by rw[h1];decide),if_neg (by rw[h2];decide),if_neg (by rw[h3];decide),if_neg (by rw[h4];decide),if_neg (by rw[h5];decide),<-hX];refine⟨λ e=>?_,λ e e'=>?_,λ e e'=>?_⟩
 .rw[b5Q e];exact⟨Yz _ _ _ _,Ux _ _ _ _,Yy _ _ _ _⟩
 .rw[b5I (by rw[e];decide),b5Q e'];exact⟨Yz _ _ _ _,Ux _ _ _ _,Yy _ _ _ _⟩
 .rw[b5I (by rw[e];decide),b5I (by rw[e'];decide)];exact⟨rfl,rfl,rfl⟩
def gR(n:Nat):dZ:=⟨uF,[[.d .str, .d (.int .i64)]],[.b 0, .v (.int .i64)],[[.str,(.int .i64)]],λ (d:Int) (t:List UInt8) (a:Int)=>⟨(some (2 * (d+1).toNat<n/\0<=a/\a<=(t.length:Int)/\t.length<=10000 /\ -1<=d/\d<=40),[⟨(.st .expr),(yT t d a).e⟩,⟨.bool,(yT t d a).ok⟩],[[⟨.str,t⟩,⟨(.int .i64),((yT t d a).a:Int)⟩]])⟩⟩
def gS(n:Nat):dZ:=⟨mZ,[[.d .str, .d (.int .i64)]],[.b 0, .v (.int .i64)],[[.str,(.int .i64)]],λ (d:Int) (t:List UInt8) (a:Int)=>⟨(some (2 * (d+1).toNat+1<n/\0<=a/\a<=(t.length:Int)/\t.length<=10000 /\ -1<=d/\d<=40),[⟨(.st .expr),(xE t d a).e⟩,⟨.bool,(xE t d a).ok⟩],[[⟨.str,t⟩,⟨(.int .i64),((xE t d a).a:Int)⟩]])⟩⟩
def sq:dZ:=⟨mZ,[[.d .str, .d (.int .i64)]],[.b 0, .v (.int .i64)],[[.str,(.int .i64)]],λ (d:Int) (t:List UInt8) (a:Int)=>⟨(some (0<=a/\a<=(t.length:Int)/\t.length<=10000 /\ -1<=d/\d<=40),[⟨(.st .expr),(xE t d a).e⟩,⟨.bool,(xE t d a).ok⟩],[[⟨.str,t⟩,⟨(.int .i64),((xE t d a).a:Int)⟩]])⟩⟩
def Fk(d:Int)(t:List UInt8)(a:Int):Nat->aI:=cf
def Ea(n:Nat)(hE:bu [])(hO:la [zy,ng])(hM:nb [])(hS:j8 [fH,kF,gS n]):dZ.Good (gR (n+1)):=by
 refine⟨aG lh,?_⟩;intro (d:Int) (t:List UInt8) (a:Int) (hp:2 * (d+1).toNat<n+1/\0<=a/\a<=(t.length:Int)/\t.length<=10000 /\ -1<=d/\d<=40);refine dC [] [zy,ng] [] [fH,kF,gS n] [22,26,36,47,57,70,76,77] [] [] [] hE hO hM hS lh BF (Fk d t a) rfl rfl (let v5:=d - (1:Int);let v6:=yT t d a;let va:=(t.length:Int);let vd:=(v6.a:Int);let vh:=oP t a ([48]);let vc:=oP t vh ([49]);let v2:=oP t vc ([116]);let v8:=oP t v2 ([97]);let vk:=[32,43,32];let vm:=oP t v8 ([40]);let v0:=xE t v5 vm;let vj:=(v0.a:Int);let v1:=oP t vj vk;let ve:=((xE t v5 v1).a:Int);let vf:=aV (J.mk (6:Int) 0 ([(aV (v0.e)),(aV ((xE t v5 v1).e))]));let vn:=oP t v1 ([32]);let v7:=xE t v5 vn;let vg:=aV (J.mk (7:Int) 0 ([(aV (v0.e)),(aV (v7.e))]));let vl:=(v7.a:Int);let vo:=v6.ok;let v3:=(0<=vl/\vl<=va/\t.length<=10000/\([41]).length<=10/\1<=([41]).length)/\((vg=(v6.e)/\(cD t vl.toNat ([41]))=vo)/\((t=t/\(oP t vl ([41]))=vd)/\True));let v4:=(0<=ve/\ve<=va/\t.length<=10000/\([41]).length<=10/\1<=([41]).length)/\((vf=(v6.e)/\(cD t ve.toNat ([41]))=vo)/\((t=t/\(oP t ve ([41]))=vd)/\True));let v9:=(vf=(v6.e)/\false=vo)/\((t=t/\ve=vd)/\True);let vb:=(vg=(v6.e)/\false=vo)/\((t=t/\vl=vd)/\True);let vi:=zE=(v6.e)/\false=vo;((((decide (d<(0:Int)))=true->(vi/\((t=t/\a=vd)/\True)))/\((decide (d<(0:Int)))=false->((0<=a/\a<=va/\t.length<=10000/\([48]).length<=10/\1<=([48]).length)/\(((cD t a.toNat ([48]))=true->(((aV (J.mk (1:Int) (0:Int) []))=(v6.e)/\true=vo)/\((t=t/\vh=vd)/\True)))/\((cD t a.toNat ([48]))=false->((0<=vh/\vh<=va/\t.length<=10000/\([49]).length<=10/\1<=([49]).length)/\(((cD t vh.toNat ([49]))=true->(((aV (J.mk (2:Int) (0:Int) []))=(v6.e)/\true=vo)/\((t=t/\vc=vd)/\True)))/\((cD t vh.toNat ([49]))=false->((0<=vc/\vc<=va/\t.length<=10000/\([116]).length<=10/\1<=([116]).length)/\(((cD t vc.toNat ([116]))=true->((0<=v2/\v2<=va/\t.length<=10000)/\(ag (Kd t v2)->(((aV (J.mk (3:Int) (Kd t v2) []))=(v6.e)/\(iL t v2.toNat)=vo)/\((t=t/\(Ez t v2)=vd)/\True)))))/\((cD t vc.toNat ([116]))=false->((0<=v2/\v2<=va/\t.length<=10000/\([97]).length<=10/\1<=([97]).length)/\(((cD t v2.toNat ([97]))=true->((0<=v8/\v8<=va/\t.length<=10000)/\(ag (Kd t v8)->(((aV (J.mk (4:Int) (Kd t v8) []))=(v6.e)/\(iL t v8.toNat)=vo)/\((t=t/\(Ez t v8)=vd)/\True)))))/\((cD t v2.toNat ([97]))=false->((0<=v8/\v8<=va/\t.length<=10000/\([40]).length<=10/\1<=([40]).length)/\(((!(cD t v8.toNat ([40])))=true->(vi/\((t=t/\vm=vd)/\True)))/\((!(cD t v8.toNat ([40])))=false->(ag v5/\((2 * (v5+1).toNat+1<n/\0<=vm/\vm<=va/\t.length<=10000 /\ -1<=v5/\v5<=40)/\((0<=vj/\vj<=va/\t.length<=10000/\vk.length<=10/\1<=vk.length)/\(((cD t vj.toNat vk)=true->(ag v5/\((2 * (v5+1).toNat+1<n/\0<=v1/\v1<=va/\t.length<=10000 /\ -1<=v5/\v5<=40)/\(((v0.ok)=true->((((xE t v5 v1).ok)=true->v4)/\(((xE t v5 v1).ok)=(!true)->v9)))/\((v0.ok)=(!true)->((false=true->v4)/\(false=(!true)->v9)))))))/\((cD t vj.toNat vk)=false->((0<=v1/\v1<=va/\t.length<=10000/\([32]).length<=10/\1<=([32]).length)/\(((!(cD t v1.toNat ([32])))=true->(vi/\((t=t/\vn=vd)/\True)))/\((!(cD t v1.toNat ([32])))=false->(ag v5/\((2 * (v5+1).toNat+1<n/\0<=vn/\vn<=va/\t.length<=10000 /\ -1<=v5/\v5<=40)/\(((v0.ok)=true->(((v7.ok)=true->v3)/\((v7.ok)=(!true)->vb)))/\((v0.ok)=(!true)->((false=true->v3)/\(false=(!true)->vb))))))))))))))))))))))))))))))))) ?_;obtain⟨hm,h0,h1,h2,h3,h4⟩:=hp;by_cases hd:d<0
 .obtain⟨q1,q2,q3⟩:=a7B t d a hd h0;simp only[b6I hd,q1,q2,q3,b6u,b6r,b5U,b5T,b5V,b5O,b6b,b6c,b6m,b6s,b5W,b6t,b5R,ag,aQ];repeat' (first|intro _|apply And.intro)
  all_goals first|exact True.intro|omega|with_reducible rfl|decide
 .have DW:=b6f hd;rcases b6h (cD t a.toNat [48]) with yU|yU
  .have k:=jY t a.toNat 48 [] yU;simp only[b5S,b6d] at k;obtain⟨q1,q2,q3⟩:=b2O t d a hd h0 yU;have b1:=Kc t (a+1) (by omega);have b2:=Pv t (a+1) (by omega) (by omega);simp only[DW,yU,uX t a 48 yU,q1,q2,q3,b6u,b6r,b5U,b5T,b5V,b5O,b6b,b6c,b6m,b6s,b5W,b6t,b5R,ag,aQ];repeat' (first|intro _|apply And.intro)
   all_goals first|exact True.intro|omega|with_reducible rfl|decide
  .have f48:=CN t a [48] yU;rcases b6h (cD t a.toNat [49]) with BV|BV
   .have k:=jY t a.toNat 49 [] BV;simp only[b5S,b6d] at k;obtain⟨q1,q2,q3⟩:=b2P t d a hd h0 yU BV;have b1:=Kc t (a+1) (by omega);have b2:=Pv t (a+1) (by omega) (by omega);simp only[DW,yU,f48,BV,uX t a 49 BV,q1,q2,q3,b6u,b6r,b5U,b5T,b5V,b5O,b6b,b6c,b6m,b6s,b5W,b6t,b5R,ag,aQ];repeat' (first|intro _|apply And.intro)
    all_goals first|exact True.intro|omega|with_reducible rfl|decide
   .have f49:=CN t a [49] BV;rcases b6h (cD t a.toNat [116]) with uq|uq
    .have k:=jY t a.toNat 116 [] uq;simp only[b5S,b6d] at k;obtain⟨q1,q2,q3⟩:=b0M t d a hd h0 yU BV uq;have b1:=Kc t (a+1) (by omega);have b2:=Pv t (a+1) (by omega) (by omega);simp only[DW,yU,f48,BV,f49,uq,uX t a 116 uq,q1,q2,q3,b6u,b6r,b5U,b5T,b5V,b5O,b6b,b6c,b6m,b6s,b5W,b6t,b5R,ag,aQ];repeat' (first|intro _|apply And.intro)
     all_goals first|exact True.intro|omega|with_reducible rfl|decide
    .have f116:=CN t a [116] uq;rcases b6h (cD t a.toNat [97]) with Kf|Kf
     .have k:=jY t a.toNat 97 [] Kf;simp only[b5S,b6d] at k;obtain⟨q1,q2,q3⟩:=b2Q t d a hd h0 yU BV uq Kf;have b1:=Kc t (a+1) (by omega);have b2:=Pv t (a+1) (by omega) (by omega);simp only[DW,yU,f48,BV,f49,uq,f116,Kf,uX t a 97 Kf,q1,q2,q3,b6u,b6r,b5U,b5T,b5V,b5O,b6b,b6c,b6m,b6s,b5W,b6t,b5R,ag,aQ];repeat' (first|intro _|apply And.intro)
      all_goals first|exact True.intro|omega|with_reducible rfl|decide
     .have f97:=CN t a [97] Kf;rcases b6h (cD t a.toNat [40]) with Qy|Qy
      .have k:=jY t a.toNat 40 [] Qy;simp only[b5S,b6d] at k;have g1:=uX t a 40 Qy;have b1:=a1a t (d - 1) (a+1) (by omega) (by omega);obtain⟨p1,p2,p3⟩:=b2N t d a hd h0 yU BV uq Kf Qy _ rfl;simp only[DW,yU,f48,BV,f49,uq,f116,Kf,f97,Qy,g1,b6u,b6r,b5U,b5T,b5V,b5O,b6b,b6c,b6m,b6s,b5W,b6t,b5R,ag,aQ];generalize xE t (d - 1) (a+1)=X at *
       rcases b6h (cD t X.a [32,43,32]) with eS|eS
       .skip;have k2:=jY t _ 32 [43,32] eS;simp only[b5S,b6d] at k2;have g2:=a8I t (X.a:Int) 32 43 32 (by rw[b5R];exact eS);obtain⟨q1,q2,q3⟩:=p1 eS;have b2:=a1a t (d - 1) ((X.a:Int)+3) (by omega) (by omega);simp only[eS,g2,q1,q2,q3,b6u,b6r,b5U,b5T,b5V,b5O,b6b,b6c,b6m,b6s,b5W,b6t,b5R,ag,aQ];generalize xE t (d - 1) ((X.a:Int)+3)=Y at *
        have b3:=a2v t (Y.a:Int) [41] (by omega);have b4:=a2w t (Y.a:Int) [41] (by omega) b2;rcases b6h X.ok with x1|x1
        .rcases b6h Y.ok with y1|y1
         .simp only[x1,y1,a1Y t X Y x1 y1,b7I,b7x,b9g,b6u,b6r,b5U,b5T,b5V,b5O,b6b,b6c,b6m,b6s,b5W,b6t,b5R,ag,aQ];repeat' (first|intro _|apply And.intro)
          all_goals first|exact True.intro|omega|with_reducible rfl|decide
         .simp only[x1,y1,PG t X Y (.inr y1),b7I,b7x,b8x,b8b,b6u,b6r,b5U,b5T,b5V,b5O,b6b,b6c,b6m,b6s,b5W,b6t,b5R,ag,aQ];repeat' (first|intro _|apply And.intro)
          all_goals first|exact True.intro|omega|with_reducible rfl|decide
        .simp only[x1,PG t X Y (.inl x1),b7I,b7x,b8x,b8b,b6u,b6r,b5U,b5T,b5V,b5O,b6b,b6c,b6m,b6s,b5W,b6t,b5R,ag,aQ];repeat' (first|intro _|apply And.intro)
         all_goals first|exact True.intro|omega|with_reducible rfl|decide
       .have g3:=CN t (X.a:Int) [32,43,32] (by rw[b5R];exact eS);rcases b6h (cD t X.a [32]) with eD|eD
        .skip;have k2:=jY t _ 32 [] eD;simp only[b5S,b6d] at k2;have g2:=uX t (X.a:Int) 32 (by rw[b5R];exact eD);obtain⟨q1,q2,q3⟩:=p2 eS eD;have b2:=a1a t (d - 1) ((X.a:Int)+1) (by omega) (by omega);simp only[eD,eS,g3,g2,q1,q2,q3,b6u,b6r,b5U,b5T,b5V,b5O,b6b,b6c,b6m,b6s,b5W,b6t,b5R,ag,aQ];generalize xE t (d - 1) ((X.a:Int)+1)=Y at *
         have b3:=a2v t (Y.a:Int) [41] (by omega);have b4:=a2w t (Y.a:Int) [41] (by omega) b2;rcases b6h X.ok with x1|x1
         .rcases b6h Y.ok with y1|y1
          .simp only[x1,y1,a1Y t X Y x1 y1,b7I,b7x,b9g,b6u,b6r,b5U,b5T,b5V,b5O,b6b,b6c,b6m,b6s,b5W,b6t,b5R,ag,aQ];repeat' (first|intro _|apply And.intro)
           all_goals first|exact True.intro|omega|with_reducible rfl|decide
          .simp only[x1,y1,PG t X Y (.inr y1),b7I,b7x,b8x,b8b,b6u,b6r,b5U,b5T,b5V,b5O,b6b,b6c,b6m,b6s,b5W,b6t,b5R,ag,aQ];repeat' (first|intro _|apply And.intro)
           all_goals first|exact True.intro|omega|with_reducible rfl|decide
         .simp only[x1,PG t X Y (.inl x1),b7I,b7x,b8x,b8b,b6u,b6r,b5U,b5T,b5V,b5O,b6b,b6c,b6m,b6s,b5W,b6t,b5R,ag,aQ];repeat' (first|intro _|apply And.intro)
          all_goals first|exact True.intro|omega|with_reducible rfl|decide
        .have g4:=CN t (X.a:Int) [32] (by rw[b5R];exact eD);obtain⟨q1,q2,q3⟩:=p3 eS eD;simp only[eS,eD,g3,g4,q1,q2,q3,b6u,b6r,b5U,b5T,b5V,b5O,b6b,b6c,b6m,b6s,b5W,b6t,b5R,ag,aQ];repeat' (first|intro _|apply And.intro)
         all_goals first|exact True.intro|omega|with_reducible rfl|decide
      .have f40:=CN t a [40] Qy;obtain⟨q1,q2,q3⟩:=b2R t d a hd h0 yU BV uq Kf Qy;simp only[DW,yU,f48,BV,f49,uq,f116,Kf,f97,Qy,f40,q1,q2,q3,b6u,b6r,b5U,b5T,b5V,b5O,b6b,b6c,b6m,b6s,b5W,b6t,b5R,ag,aQ];repeat' (first|intro _|apply And.intro)
       all_goals first|exact True.intro|omega|with_reducible rfl|decide
def Fl(d:Int)(t:List UInt8)(a:Int):Nat->aI:=(fu 0 (.a (Nat) (λ k=>k<=nE t a) (λ k=>nE t a - k) [5] (λ k=>[(6, .aO ⟨(.int .i64),((k:Int):Int)⟩)]) [4] (λ k=>[(400000, .box [.aO ⟨.str,(t:List UInt8)⟩, .aO ⟨(.int .i64),(a+(k:Int):Int)⟩])])) (fu 2 (.a (Nat) (λ j=>j<=nE t a/\nE t a<=40) (λ j=>nE t a - j) [1,10,11,14,15,17,18,19,20,21,22] (λ j=>[(6, .aO ⟨(.int .i64),((nE t a:Int) - (j:Int):Int)⟩)]) [4,400000] (λ j=>[(7, .box [.aO ⟨(.int .i64),((bR 5 j (rE t d a).e).aj:Int)⟩, .aO ⟨(.int .i64),((bR 5 j (rE t d a).e).aT:Int)⟩, .aC 7100]),(7100, .aC (.st .expr) ((bR 5 j (rE t d a).e).U:List J))])) (fu 4 (.a (Nat) (λ m=>m<=mE t d a/\m<=41/\nE t a<=40) (λ m=>mE t d a - m) [6,23,24] (λ m=>[(9, .aO ⟨(.int .i64),((m:Int):Int)⟩)]) [4] (λ m=>[(400000, .box [.aO ⟨.str,(t:List UInt8)⟩, .aO ⟨(.int .i64),(((rE t d a).a:Int)+(m:Int):Int)⟩]),(7, .box [.aO ⟨(.int .i64),((bR 8 m (bR 5 (nE t a) (rE t d a).e)).aj:Int)⟩, .aO ⟨(.int .i64),((bR 8 m (bR 5 (nE t a) (rE t d a).e)).aT:Int)⟩, .aC 7200]),(7200, .aC (.st .expr) ((bR 8 m (bR 5 (nE t a) (rE t d a).e)).U:List J))])) cf)))
def Eb(n:Nat)(hE:bu [])(hO:la [ng])(hM:nb [])(hS:j8 [fH,gR n]):dZ.Good (gS (n+1)):=by
 refine⟨aG ig,?_⟩;intro (d:Int) (t:List UInt8) (a:Int) (hp:2 * (d+1).toNat+1<n+1/\0<=a/\a<=(t.length:Int)/\t.length<=10000 /\ -1<=d/\d<=40);refine dC [] [ng] [] [fH,gR n] [20,28,29,38,39] [] [] [] hE hO hM hS ig BG (Fl d t a) rfl rfl (let v2:=rE t d a;let v0:=bR 5 (nE t a) v2.e;let v3:=[126];let v4:=(v2.a:Int);let v5:=xE t d a;let v6:=(nE t a:Int);let v7:=True/\True;let v8:=(0:Int);let v1:=(v8=v8/\(v8=v8/\v7))/\True;let v9:=zE=(v5.e)/\false=(v5.ok);let va:=(1:Int);(((∃ k1:Nat,(k1<=nE t a/\((True/\(d=d/\(True/\(v8=(k1:Int)/\True))))/\((t=t/\(a=(a+(k1:Int))/\True))/\v1))))/\(∀ k1:Nat,let vg:=(k1:Int);let vc:=a+vg;let ve:=oP t vc v3;let vb:=yT t d ve;let vd:=(t=t/\(((vb.a:Int))=((vb.a:Int))/\True))/\v1;let vf:=True/\((vb.ok)=(vb.ok)/\True);(k1<=nE t a->((0<=vc/\vc<=(t.length:Int)/\t.length<=10000/\v3.length<=10/\1<=v3.length)/\(((cD t vc.toNat v3)=true->(ag (vg+va)/\(∃ k2:Nat,(k2<=nE t a/\(nE t a - k2<nE t a - k1/\((True/\(d=d/\(True/\((vg+va)=(k2:Int)/\True))))/\((t=t/\(ve=(a+(k2:Int))/\True))/\v1)))))))/\((cD t vc.toNat v3)=false->(((decide ((40:Int)<vg))=true->(v9/\((t=t/\ve=(v5.a:Int))/\True)))/\((decide ((40:Int)<vg))=false->((2 * (d+1).toNat<n/\0<=ve/\ve<=(t.length:Int)/\t.length<=10000 /\ -1<=d/\d<=40)/\((∃ j2:Nat,let vh:=bR 5 j2 v2.e;((j2<=nE t a/\nE t a<=40)/\((True/\(True/\(vg=(v6 - (j2:Int))/\vf)))/\(((vb.e).aj=(vh.aj)/\((vb.e).aT=(vh.aT)/\v7))/\((vb.e).U=(vh.U)/\vd)))))/\(∀ j2:Nat,let vi:=bR 5 j2 v2.e;let vh:=J.mk (5:Int) 0 ([(J.mk (vi.aj) (vi.aT) (vi.U))]);let vj:=v6 - (j2:Int);((j2<=nE t a/\nE t a<=40)->(((decide (v8<vj))=true->(ag (vj - va)/\(∃ j3:Nat,let vk:=bR 5 j3 v2.e;((j3<=nE t a/\nE t a<=40)/\(nE t a - j3<nE t a - j2/\((True/\(True/\((vj - va)=(v6 - (j3:Int))/\vf)))/\((vh.aj=(vk.aj)/\(vh.aT=(vk.aT)/\v7))/\(vh.U=(vk.U)/\vd))))))))/\((decide (v8<vj))=false->((∃ m3:Nat,((m3<=mE t d a/\m3<=41/\nE t a<=40)/\((True/\(True/\(True/\((vb.ok)=(vb.ok)/\(v8=(m3:Int)/\True)))))/\((t=t/\(((vb.a:Int))=(v4+(m3:Int))/\True))/\(((vi.aj)=((bR 8 m3 v0).aj)/\((vi.aT)=((bR 8 m3 v0).aT)/\v7))/\((vi.U)=((bR 8 m3 v0).U)/\v1))))))/\(∀ m3:Nat,let vk:=J.mk ((bR 8 m3 v0).aj) ((bR 8 m3 v0).aT) ((bR 8 m3 v0).U);let vl:=v4+(m3:Int);let vm:=(t=t/\(oP t vl ([42]))=(v5.a:Int))/\True;let vn:=J.mk (8:Int) 0 ([vk]);let vo:=decide ((40:Int)<(m3:Int));((m3<=mE t d a/\m3<=41/\nE t a<=40)->((0<=vl/\vl<=(t.length:Int)/\t.length<=10000/\([42]).length<=10/\1<=([42]).length)/\(((cD t vl.toNat ([42]))=true->((vo=true->(v9/\vm))/\(vo=false->(ag ((m3:Int)+va)/\(∃ m4:Nat,((m4<=mE t d a/\m4<=41/\nE t a<=40)/\(mE t d a - m4<mE t d a - m3/\((True/\(True/\(True/\((vb.ok)=(vb.ok)/\(((m3:Int)+va)=(m4:Int)/\True)))))/\((t=t/\((oP t vl ([42]))=(v4+(m4:Int))/\True))/\((vn.aj=((bR 8 m4 v0).aj)/\(vn.aT=((bR 8 m4 v0).aT)/\v7))/\(vn.U=((bR 8 m4 v0).U)/\v1)))))))))))/\((cD t vl.toNat ([42]))=false->((vk=(v5.e)/\(vb.ok)=(v5.ok))/\vm))))))))))))))))))))))) ?_;obtain⟨hm,h0,h1,h2,h3,h4⟩:=hp;have n1:=a5r t a h0 h1;have n2:=b1H t d a h0 h1;have z1:=λ k h=>b2i t a k h0 h;have z2:=λ k h=>b2h t d a k h;have c1:yT t d (a+(nE t a:Int))=rE t d a:=a5y t d a h0;simp only[b6u,b6r,b5U,b5T,b5V,b5O,b6b,b6c,b6m,b6s,b5W,b6t,b5R,ag,aQ];refine⟨⟨0,b6L _,by omega⟩,λ k1 hk=>⟨?_,λ e1=>?_,λ e1=>?_⟩⟩
 .repeat' (first|intro _|apply And.intro)
  all_goals first|exact True.intro|omega|with_reducible rfl|decide
 .have g:=z1 k1 hk;rw[e1] at g;have g':=b6n g.symm;rw[uX t _ 126 e1];exact⟨by omega,k1+1,by omega,by omega,by omega,by omega⟩
 .have g:=z1 k1 hk;rw[e1] at g;have g':=b7E g.symm;have IW:k1=nE t a:=by omega
  subst IW;have f1:=CN t _ [126] e1;by_cases hn:40<nE t a
  .obtain⟨x1,x2,x3⟩:=a6x t d a h0 hn;simp only[f1,(b6I (by omega):decide ((40:Int)<(nE t a:Int))=true),x1,x2,x3,b6u,b6r,b5U,b5T,b5V,b5O,b6b,b6c,b6m,b6s,b5W,b6t,b5R,ag,aQ];repeat' (first|intro _|apply And.intro)
   all_goals first|exact True.intro|omega|with_reducible rfl|decide
  .simp only[f1,c1,(b6f (by omega):decide ((40:Int)<(nE t a:Int))=false),b6u,b6r,b5U,b5T,b5V,b5O,b6b,b6c,b6m,b6s,b5W,b6t,b5R,ag,aQ];refine⟨by omega,⟨0,⟨b6L _,by omega⟩,by omega,⟨rfl,rfl⟩,rfl⟩,λ j2 hj=>⟨λ e2=>?_,λ e2=>?_⟩⟩
   .have e2':=b6n e2;exact⟨by omega,j2+1,⟨by omega,by omega⟩,by omega,by omega,⟨by rw[dJ],by rw[dJ]⟩,by rw[dJ,J.eta]⟩
   .have e2':=b7E e2;have hj2:j2=nE t a:=by omega
    subst hj2;refine⟨⟨0,⟨b6L _,by omega,by omega⟩,rfl,by omega,⟨rfl,rfl⟩,rfl⟩,λ m3 hm3=>⟨⟨by omega,by omega,by omega,by decide,by decide⟩,λ e3=>⟨λ e4=>?_,λ e4=>?_⟩,λ e3=>?_⟩⟩
    .have g3:=z2 m3 hm3.1;rw[e3] at g3;have g3':=b6n g3.symm;have e4':=b6n e4;obtain⟨x1,x2,x3⟩:=a3t t d a hn (by omega);rw[uX t _ 42 e3,x1,x2,x3];exact⟨⟨rfl,rfl⟩,by omega⟩
    .have g3:=z2 m3 hm3.1;rw[e3] at g3;have g3':=b6n g3.symm;have e4':=b7E e4;rw[uX t _ 42 e3];exact⟨by omega,m3+1,⟨by omega,by omega,by omega⟩,by omega,by omega,by omega,⟨by rw[dJ],by rw[dJ]⟩,by rw[dJ,J.eta]⟩
    .have g3:=z2 m3 hm3.1;rw[e3] at g3;have g3':=b7E g3.symm;have hm:m3=mE t d a:=by omega
     subst hm;obtain⟨x1,x2,x3⟩:=a6w t d a hn (by omega);rw[CN t _ _ e3,x1,x2,x3,J.eta];exact⟨⟨rfl,rfl⟩,rfl⟩
def Tv:∀ n,j8 [gR n,gS n]
 | 0=>⟨⟨aG lh,λ _ _ _ h=>absurd h.1 (b6H _)⟩,⟨aG ig,λ _ _ _ h=>absurd h.1 (b6H _)⟩,af⟩
 | n+1=>by
  have ih:=Tv n;exact⟨Ea n trivial ⟨M6,Bd,af⟩ trivial ⟨oI,zK,ih.2.1,af⟩,Eb n trivial ⟨Bd,af⟩ trivial ⟨oI,ih.1,af⟩,af⟩
def Bl:dZ.Good sq :=
 ⟨aG ig,λ d t a hp=>(Tv (2 * (d+1).toNat+1+1)).2.1.2 d t a (⟨b6g _,hp⟩)⟩
def Qp(c:UInt8):∀ l:List UInt8,gD c l<=l.length
 | []=>b6k _
 | b::l=>by
  have:=Qp c l;unfold gD;split<;>simp<;>omega
def Qn:∀ l:List UInt8,nc l<=l.length
 | []=>b6k _
 | b::l=>by
  have:=Qn l;unfold nc;split<;>simp<;>omega
def rF(t:List UInt8)(a:Nat)(h:¬ bN t a=0):a<t.length:=by
 unfold bN at h;split at h
 .assumption
 .exact absurd rfl h
def CM(t:List UInt8)(a:Nat)(c:Int)(hc:¬ c=0)(h:a<=t.length):dv t a c<=t.length:=by
 unfold dv;split
 .rename_i e;have:=rF t a (by rw[e];exact hc);omega
 .exact h
def a3o(t:List UInt8)(r:RS)(h:r.a<=t.length):(zN t r).a<=t.length/\(zN t r).dp=r.dp - 1:=by
 have:=Qp 42 (t.drop r.a);simp only[List.length_drop] at this;unfold zN;split
 .exact⟨h,rfl⟩
 .exact⟨by show r.a+gD 42 (t.drop r.a)<=_;omega,rfl⟩
structure UU(t:List UInt8)(dp m:Nat)(r:RS):Prop where
 a:r.a<=t.length
 lo:dp<=r.dp
 hi:r.dp<=m
def Gf(inner:Nat->Nat->RS)(t:List UInt8)(a dp:Nat)(bad:Bool)(ha:a<=t.length)(hi:dp+1<=100->bad=false->UU t (dp+1) 102 (inner a (dp+1))):UU t dp (max 101 (dp+1)) (dN inner t a dp bad):=by
 unfold dN;split
 .exact⟨ha,b9N _,by show dp+1<=_;omega⟩
 .rename_i h;have hb:bad=false:=by cases bad<;>simp_all
  have g:=hi (by omega) hb;have s:=a3o t _ g.a;have:=g.lo;have:=g.hi;exact⟨s.1,by rw[s.2];omega,by rw[s.2];omega⟩
def RV(inner:Nat->Nat->RS)(t:List UInt8)(x:RS)(k:Int)(a dp:Nat)(bad:Bool)(hd:dp<=100)(ha:a<=t.length)(hx:UU t dp 101 x)(hb:bad=false->x.dp=dp)(hi:dp+1<=100->∀ a,a<=t.length->UU t (dp+1) 102 (inner a (dp+1))) :
  UU t dp 102 (zI inner t x k a bad):=by
 have:=hx.lo;have:=hx.hi;have hy:=Gf inner t a x.dp bad ha (λ h1 h2=>by rw[hb h2] at h1 ⊢;exact hi h1 a ha);have:=hy.lo;have:=hy.hi;unfold zI;exact⟨CM t _ 41 (by decide) hy.a,by show dp<=(dN inner t a x.dp bad).dp;omega,by show (dN inner t a x.dp bad).dp<=102;omega⟩
def Br(t:List UInt8)(a:Nat)(c:Int)(bad:Bool)(h:fD t a c bad=false):bad=false:=by
 unfold fD at h;split at h
 .exact h
 .cases h
def Uy(inner:Nat->Nat->RS)(t:List UInt8)(x:RS)(dp:Nat)(hd:dp<=100)(hx:UU t dp 101 x)(hb:x.bad=false->x.dp=dp)(hi:dp+1<=100->∀ a,a<=t.length->UU t (dp+1) 102 (inner a (dp+1))) :
  UU t dp 102 (uc inner t x):=by
 have h1:=CM t x.a 32 (by decide) hx.a;unfold uc;split
 .rename_i e;have h2:=rF t (dv t x.a 32) (by rw[e];decide);exact RV inner t x 6 _ dp _ hd (CM t _ 32 (by decide) (by omega)) hx (λ h=>hb (Br t _ _ _ (Br t _ _ _ h))) hi
 .exact RV inner t x 7 _ dp _ hd h1 hx (λ h=>hb (Br t _ _ _ h)) hi
def iq(t:List UInt8)(g a dp:Nat):cg t g a dp=if bN t a=48 then ⟨J.mk 1 0 [],a+1,dp,false⟩ else if bN t a=49 then ⟨J.mk 2 0 [],a+1,dp,false⟩ else
  if bN t a=116\/bN t a=97 then nW t a dp else
  if bN t a=126 then (match g with
   | 0=>⟨zX,a+1,dp+1,true⟩
   | g+1=>⟨J.mk 5 0 [(cg t g (a+1) (dp+1)).e],(cg t g (a+1) (dp+1)).a,(cg t g (a+1) (dp+1)).dp - 1,(cg t g (a+1) (dp+1)).bad⟩) else
  if bN t a=40 then (match g with
   | 0=>uc (λ _ _=>⟨zX,0,0,true⟩) t (dN (λ _ _=>⟨zX,0,0,true⟩) t (a+1) dp false)
   | g+1=>uc (cg t g) t (dN (cg t g) t (a+1) dp false)) else ⟨zX,a,dp,true⟩:=by
 exact cg.eq_def t g a dp
def wD(t:List UInt8):∀ (g a dp:Nat),g+dp=100->a<=t.length->UU t dp 102 (cg t g a dp)
 | g,a,dp,hg,ha=>by
  have lt:∀ c:Int,¬ c=0->bN t a=c->a+1<=t.length:=λ c hc h=>rF t a (by rw[h];exact hc);rw[iq];split
  .rename_i h;exact⟨lt _ (by decide) h,b6k _,by show dp<=102;omega⟩
  .split
   .rename_i h;exact⟨lt _ (by decide) h,b6k _,by show dp<=102;omega⟩
   .split
    .rename_i h;have h1:a+1<=t.length:=by rcases h with h|h<;>exact lt _ (by decide) h
     have:=Qn (t.drop (a+1));simp only[b7e] at this;exact⟨by show a+1+nc (t.drop (a+1))<=_;omega,b6k _,by show dp<=102;omega⟩
    .split
     .rename_i h;have h1:=lt _ (by decide) h;cases g with
      | zero=>exact⟨h1,b9N _,by show dp+1<=102;omega⟩
      | succ g =>
       have ih:=wD t g (a+1) (dp+1) (by omega) h1;have:=ih.lo;have:=ih.hi;exact⟨ih.a,by show dp<=(cg t g (a+1) (dp+1)).dp - 1;omega,by show (cg t g (a+1) (dp+1)).dp - 1<=102;omega⟩
     .split
      .rename_i h;have h1:=lt _ (by decide) h;cases g with
       | zero =>
        have hx:=Gf (λ _ _=>⟨zX,0,0,true⟩) t (a+1) dp false h1 (λ h=>by omega);refine Uy _ t _ dp (by omega) ⟨hx.a,hx.lo,by have:=hx.hi;omega⟩ (λ hb=>?_) (λ h=>by omega);exact ((qm (λ _ _=>⟨zX,0,0,true⟩) t (a+1) dp false (λ h=>by omega)).ex hb).1
       | succ g =>
        have hx:=Gf (cg t g) t (a+1) dp false h1 (λ _ _=>wD t g (a+1) (dp+1) (by omega) h1);refine Uy _ t _ dp (by omega) ⟨hx.a,hx.lo,by have:=hx.hi;omega⟩ (λ hb=>?_) (λ _ a' ha'=>wD t g a' (dp+1) (by omega) ha');exact ((qm (cg t g) t (a+1) dp false (λ _=>Ce t g (a+1) (dp+1) (by omega))).ex hb).1
      .exact⟨ha,b6k _,by show dp<=102;omega⟩
def ej(t:List UInt8)(a dp:Int):RS:=cg t (100 - dp).toNat a.toNat dp.toNat
def gU(t:List UInt8)(a dp:Int)(bad:Bool):RS:=dN (cg t (99 - dp).toNat) t a.toNat dp.toNat bad
def sE(t:List UInt8)(r:RS):Nat:=if r.bad=true then 0 else gD 42 (t.drop r.a)
def a6e(t:List UInt8)(r:RS):zN t r=⟨bR 8 (sE t r) r.e,r.a+sE t r,r.dp - 1,r.bad⟩:=by
 unfold zN sE;cases r.bad<;>rfl
def KP(t:List UInt8)(a dp:Int)(h0:0<=a)(h1:a<=(t.length:Int))(h2:0<=dp)(h3:dp<=100):((ej t a dp).a:Int)<=(t.length:Int)/\dp<=((ej t a dp).dp:Int)/\((ej t a dp).dp:Int)<=102:=by
 have g:=wD t (100 - dp).toNat a.toNat dp.toNat (by omega) (by omega);have:=g.a;have:=g.lo;have:=g.hi;unfold ej;omega
def Pw(t:List UInt8)(a dp:Int)(bad:Bool)(h0:0<=a)(h1:a<=(t.length:Int))(h2:0<=dp):((gU t a dp bad).a:Int)<=(t.length:Int)/\dp<=((gU t a dp bad).dp:Int)/\(((gU t a dp bad).dp:Int)<=101\/((gU t a dp bad).dp:Int)<=dp+1):=by
 have g:=Gf (cg t (99 - dp).toNat) t a.toNat dp.toNat bad (by omega) (λ h _=>wD t (99 - dp).toNat a.toNat (dp.toNat+1) (by omega) (by omega));have:=g.a;have:=g.lo;have:=g.hi;unfold gU;omega
def Xr(t:List UInt8)(a dp:Int)(bad:Bool)(h0:0<=a)(h2:0<=dp)(h:bad=true\/100<dp+1):(gU t a dp bad).e=zX/\((gU t a dp bad).a:Int)=a/\((gU t a dp bad).dp:Int)=dp+1/\(gU t a dp bad).bad=true:=by
 unfold gU dN;rw[if_pos (by rcases h with h|h;exact .inl h;exact .inr (by omega))];exact⟨rfl,by show ((a.toNat:Nat):Int)=a;omega,by show ((dp.toNat+1:Nat):Int)=dp+1;omega,rfl⟩
def b1d(t:List UInt8)(a dp:Int)(bad:Bool)(h0:0<=a)(h2:0<=dp)(h:bad=false)(h':¬ 100<dp+1):gU t a dp bad=zN t (ej t a (dp+1)):=by
 unfold gU dN ej;rw[if_neg (by rw[h];rintro (g|g);cases g;omega),show (100 - (dp+1)).toNat=(99 - dp).toNat by omega,show (dp+1).toNat=dp.toNat+1 by omega]
def a7K(t:List UInt8)(a dp:Int)(bad:Bool)(h0:0<=a)(h1:a<=(t.length:Int))(h2:0<=dp)(h:bad=false)(h':¬ 100<dp+1):(gU t a dp bad).e=bR 8 (sE t (ej t a (dp+1))) (ej t a (dp+1)).e/\((gU t a dp bad).a:Int)=((ej t a (dp+1)).a:Int)+(sE t (ej t a (dp+1)):Int) /\
  ((gU t a dp bad).dp:Int)=((ej t a (dp+1)).dp:Int) - 1/\(gU t a dp bad).bad=(ej t a (dp+1)).bad:=by
 have:=KP t a (dp+1) h0 h1 (by omega) (by omega);rw[b1d t a dp bad h0 h2 h h',a6e];refine⟨rfl,by simp,?_,rfl⟩;show (((ej t a (dp+1)).dp - 1:Nat):Int)=_;omega
def b1S(t:List UInt8)(a dp:Int)(h0:0<=a)(h1:a<=(t.length:Int))(h2:0<=dp)(h3:dp<=100):((ej t a dp).a:Int)+(sE t (ej t a dp):Int)<=(t.length:Int):=by
 have:=KP t a dp h0 h1 h2 h3;have h:=Qp 42 (t.drop (ej t a dp).a);simp only[List.length_drop] at h;unfold sE;split<;>omega
structure V6(r:RS)(e:J)(a dp:Int)(bad:Bool):Prop where
 e:r.e=e
 a:(r.a:Int)=a
 dp:(r.dp:Int)=dp
 bad:r.bad=bad
def b4d(t:List UInt8)(a dp:Int)(h0:0<=a)(h2:0<=dp)(h:bN t a.toNat=48):V6 (ej t a dp) (J.mk 1 0 []) (a+1) dp false:=by
 unfold ej;rw[iq,if_pos h];exact⟨rfl,by show ((a.toNat+1:Nat):Int)=_;omega,by show ((dp.toNat:Nat):Int)=_;omega,rfl⟩
def b4e(t:List UInt8)(a dp:Int)(h0:0<=a)(h2:0<=dp)(h:bN t a.toNat=49):V6 (ej t a dp) (J.mk 2 0 []) (a+1) dp false:=by
 unfold ej;rw[iq,if_neg (by rw[h];decide),if_pos h];exact⟨rfl,by show ((a.toNat+1:Nat):Int)=_;omega,by show ((dp.toNat:Nat):Int)=_;omega,rfl⟩
def XW(t:List UInt8)(a dp:Int)(h:bN t a.toNat=116\/bN t a.toNat=97):ej t a dp=nW t a.toNat dp.toNat:=by
 unfold ej;rw[iq,if_neg (by rcases h with h|h<;>rw[h]<;>decide),if_neg (by rcases h with h|h<;>rw[h]<;>decide),if_pos h]
def a8a(t:List UInt8)(a dp:Int)(h0:0<=a)(h1:a+1<=(t.length:Int))(h2:0<=dp)(h3:¬ 100<dp+1)(h:bN t a.toNat=126):V6 (ej t a dp) (J.mk 5 0 [(ej t (a+1) (dp+1)).e]) ((ej t (a+1) (dp+1)).a:Int) (((ej t (a+1) (dp+1)).dp:Int) - 1) (ej t (a+1) (dp+1)).bad:=by
 have hb:=KP t (a+1) (dp+1) (by omega) (by omega) (by omega) (by omega);have e:ej t a dp=⟨J.mk 5 0 [(ej t (a+1) (dp+1)).e],(ej t (a+1) (dp+1)).a,(ej t (a+1) (dp+1)).dp - 1,(ej t (a+1) (dp+1)).bad⟩:=by
  unfold ej;obtain⟨g,hg⟩:∃ g,(100 - dp).toNat=g+1:=⟨(99 - dp).toNat,by omega⟩;rw[show (100 - (dp+1)).toNat=g by omega,show (a+1).toNat=a.toNat+1 by omega,show (dp+1).toNat=dp.toNat+1 by omega,hg];conv=>lhs;rw[iq]
  rw[b5I (by rw[h];decide),b5I (by rw[h];decide),b5I (by rw[h];decide),b5Q h]
 rw[e];exact⟨rfl,rfl,by show (((ej t (a+1) (dp+1)).dp - 1:Nat):Int)=_;omega,rfl⟩
def a4R(t:List UInt8)(a dp:Int)(h0:0<=a)(h2:0<=dp)(h3:100<dp+1)(h:bN t a.toNat=126):V6 (ej t a dp) zX (a+1) (dp+1) true:=by
 unfold ej;rw[show (100 - dp).toNat=0 by omega,iq,if_neg (by rw[h];decide),if_neg (by rw[h];decide),if_neg (by rw[h];decide),if_pos h];exact⟨rfl,by show ((a.toNat+1:Nat):Int)=_;omega,by show ((dp.toNat+1:Nat):Int)=_;omega,rfl⟩
def a4S(t:List UInt8)(a dp:Int)(h0:0<=a)(h2:0<=dp)(h:¬ bN t a.toNat=48/\¬ bN t a.toNat=49/\¬ bN t a.toNat=116/\¬ bN t a.toNat=97/\¬ bN t a.toNat=126/\¬ bN t a.toNat=40):V6 (ej t a dp) zX a dp true:=by
 unfold ej;rw[iq,if_neg h.1,if_neg h.2.1,if_neg (by rintro (g|g);exact h.2.2.1 g;exact h.2.2.2.1 g),if_neg h.2.2.2.2.1,if_neg h.2.2.2.2.2];exact⟨rfl,by show ((a.toNat:Nat):Int)=_;omega,by show ((dp.toNat:Nat):Int)=_;omega,rfl⟩
def yE(t:List UInt8)(x:RS)(a:Int)(bad:Bool):RS:=gU t a (x.dp:Int) bad
def Uv(inner:Nat->Nat->RS)(t:List UInt8)(x:RS)(k:Int)(a:Nat)(bad:Bool)(hi:dN inner t a x.dp bad=yE t x (a:Int) bad) :
  V6 (zI inner t x k a bad) (J.mk k 0 [x.e,(yE t x (a:Int) bad).e]) ((dv t (yE t x (a:Int) bad).a 41:Nat):Int) ((yE t x (a:Int) bad).dp:Int) (fD t (yE t x (a:Int) bad).a 41 (yE t x (a:Int) bad).bad):=by
 unfold zI;rw[hi];exact⟨rfl,rfl,rfl,rfl⟩
def a4T(t:List UInt8)(a dp:Int)(h0:0<=a)(h1:a+1<=(t.length:Int))(h2:0<=dp)(h3:dp<=100)(h:bN t a.toNat=40)(X:RS)(hX:X=gU t (a+1) dp false) :
  (bN t (dv t X.a 32)=43->V6 (ej t a dp) (J.mk 6 0 [X.e,(yE t X ((dv t (dv t X.a 32+1) 32:Nat):Int) (fD t (dv t X.a 32+1) 32 (fD t X.a 32 X.bad))).e]) ((dv t (yE t X ((dv t (dv t X.a 32+1) 32:Nat):Int) (fD t (dv t X.a 32+1) 32 (fD t X.a 32 X.bad))).a 41:Nat):Int)
   ((yE t X ((dv t (dv t X.a 32+1) 32:Nat):Int) (fD t (dv t X.a 32+1) 32 (fD t X.a 32 X.bad))).dp:Int) (fD t (yE t X ((dv t (dv t X.a 32+1) 32:Nat):Int) (fD t (dv t X.a 32+1) 32 (fD t X.a 32 X.bad))).a 41 (yE t X ((dv t (dv t X.a 32+1) 32:Nat):Int) (fD t (dv t X.a 32+1) 32 (fD t X.a 32 X.bad))).bad)) /\
  (¬ bN t (dv t X.a 32)=43->V6 (ej t a dp) (J.mk 7 0 [X.e,(yE t X ((dv t X.a 32:Nat):Int) (fD t X.a 32 X.bad)).e]) ((dv t (yE t X ((dv t X.a 32:Nat):Int) (fD t X.a 32 X.bad)).a 41:Nat):Int)
   ((yE t X ((dv t X.a 32:Nat):Int) (fD t X.a 32 X.bad)).dp:Int) (fD t (yE t X ((dv t X.a 32:Nat):Int) (fD t X.a 32 X.bad)).a 41 (yE t X ((dv t X.a 32:Nat):Int) (fD t X.a 32 X.bad)).bad)):=by
 have key:∃ inner:Nat->Nat->RS,ej t a dp=uc inner t X/\∀ (a:Nat) (bad:Bool),(bad=false->X.bad=false)->dN inner t a X.dp bad=yE t X (a:Int) bad:=by
  have hXd:X.bad=false->X.dp=dp.toNat:=by
   intro hb;rw[hX] at hb ⊢;exact ((qm (cg t (99 - dp).toNat) t (a+1).toNat dp.toNat false (λ h=>Ce t _ _ _ (by omega))).ex hb).1
  by_cases hd:dp<100
  .obtain⟨g,hg⟩:∃ g,(100 - dp).toNat=g+1:=⟨(99 - dp).toNat,by omega⟩;refine⟨cg t g,?_,λ a' bad hb=>?_⟩
   .have eX:X=dN (cg t g) t (a.toNat+1) dp.toNat false:=by
     rw[hX,gU,show (99 - dp).toNat=g by omega,show (a+1).toNat=a.toNat+1 by omega]
    unfold ej;rw[hg];conv=>lhs;rw[iq]
    rw[b5I (by rw[h];decide),b5I (by rw[h];decide),b5I (by rw[h];decide),b5I (by rw[h];decide),b5Q h,eX]
   .unfold yE gU;rw[Int.toNat_natCast,Int.toNat_natCast];cases bad with
    | true=>rfl
    | false=>rw[hXd (hb rfl),show (99 - (dp.toNat:Int)).toNat=g by omega]
  .have hz:(100 - dp).toNat=0:=by omega
   refine⟨λ _ _=>⟨zX,0,0,true⟩,?_,λ a' bad hb=>?_⟩
   .have eX:X=dN (λ _ _=>⟨zX,0,0,true⟩) t (a.toNat+1) dp.toNat false:=by
     rw[hX,gU,show (a+1).toNat=a.toNat+1 by omega];unfold dN;rw[if_pos (.inr (by omega)),if_pos (.inr (by omega))]
    unfold ej;rw[hz];conv=>lhs;rw[iq]
    rw[b5I (by rw[h];decide),b5I (by rw[h];decide),b5I (by rw[h];decide),b5I (by rw[h];decide),b5Q h,eX]
   .have hlo:dp.toNat<=X.dp:=by
     have:=Pw t (a+1) dp false (by omega) (by omega) h2;rw[<-hX] at this;omega
    unfold yE gU;rw[Int.toNat_natCast,Int.toNat_natCast];unfold dN;rw[if_pos (.inr (by omega)),if_pos (.inr (by omega))]
 obtain⟨inner,k1,k2⟩:=key;rw[k1];unfold uc;refine⟨λ hp=>?_,λ hp=>?_⟩
 .rw[b5Q hp];exact Uv inner t X 6 _ _ (k2 _ _ λ hb=>Br t _ _ _ (Br t _ _ _ hb))
 .rw[b5I hp];exact Uv inner t X 7 _ _ (k2 _ _ λ hb=>Br t _ _ _ hb)
def Qo:∀ (l:List UInt8) (k:Nat),k<=nc l->(k<nc l↔∃ b r,l.drop k=b::r/\fb b=true)
 | [],k,h=>by simp[nc]
 | b::l,k,h=>by
  unfold nc at h ⊢;split at h
  .rename_i e;rw[b5Q e];cases k with
   | zero=>exact⟨λ _=>⟨b,l,rfl,e⟩,λ _=>by omega⟩
   | succ k =>
    have:=Qo l k (by omega);rw[b8G,<-this];omega
  .rename_i e;rw[b5I e];have hk:k=0:=by omega
   subst hk;refine⟨λ h=>by omega,λ ⟨c,r,hr,hc⟩=>?_⟩;simp only[b8h,b5J] at hr;rw[hr.1] at e;exact absurd hc e
def a8s(t:List UInt8)(n k:Nat)(h:k<=nc (t.drop n)):(48<=bN t (n+k)/\bN t (n+k)<=57)↔k<nc (t.drop n):=by
 rw[Qo _ k h,b7J];constructor
 .intro hp;have hl:=rF t (n+k) (by omega);refine⟨t.getD (n+k) 0,t.drop (n+k+1),?_,?_⟩
  .rw[b7B hl,b5P,b6e hl];rfl
  .unfold bN at hp;rw[if_pos hl] at hp;unfold fb;rw[decide_eq_true (by omega),decide_eq_true (by omega)];rfl
 .rintro⟨b,r,h1,h2⟩;rw[fN h1];simp only[fb,b5M,b5K] at h2;omega
def nD(t:List UInt8)(a:Int):Nat:=nc (t.drop (a+1).toNat)
def b1F(t:List UInt8)(a:Int)(k:Nat)(h0:0<=a)(h:k<=nD t a):(48<=bN t (a+1+(k:Int)).toNat/\bN t (a+1+(k:Int)).toNat<=57)↔k<nD t a:=by
 rw[show (a+1+(k:Int)).toNat=(a+1).toNat+k by omega];exact a8s t _ k h
def b1z(t:List UInt8)(a:Int)(h0:0<=a)(h1:a+1<=(t.length:Int)):a+1+(nD t a:Int)<=(t.length:Int):=by
 have:=Qn (t.drop (a+1).toNat);simp only[List.length_drop] at this;unfold nD;omega
def nmE(t:List UInt8)(a:Int):List UInt8:=(t.drop (a+1).toNat).take (nD t a)
def nmK(t:List UInt8)(a:Int):Int:=if bN t a.toNat=97 then 4 else 3
def b1D(t:List UInt8)(a:Int)(h:bN t a.toNat=97):nmK t a=4:=b5Q h
def b1C(t:List UInt8)(a:Int)(h:¬ bN t a.toNat=97):nmK t a=3:=b5I h
def RF(t:List UInt8)(a dp:Int)(h0:0<=a)(h2:0<=dp):V6 (nW t a.toNat dp.toNat) (J.mk (nmK t a) (kj 9 (nmE t a)) []) (a+1+(nD t a:Int)) dp (!lO 9 (nmE t a)):=by
 unfold nW nmE RM nD;rw[show (a+1).toNat=a.toNat+1 by omega];exact⟨rfl,by show ((a.toNat+1+nc (t.drop (a.toNat+1)):Nat):Int)=_;omega,by show ((dp.toNat:Nat):Int)=_;omega,rfl⟩
def PF(t:List UInt8)(a:Int)(k:Nat)(h0:0<=a)(h:k=nD t a):(t.take (Int.toNat (a+1+(k:Int)))).drop (Int.toNat (a+1))=nmE t a:=by
 rw[List.drop_take];unfold nmE;congr 1;omega
def a8D(t:List UInt8)(r:RS)(h:r.bad=true):sE t r=0:=by unfold sE;rw[if_pos h]
def b1R(t:List UInt8)(r:RS)(m:Nat)(h:r.bad=false)(hm:m<=sE t r):bN t ((r.a:Int)+(m:Int)).toNat=42↔m<sE t r:=by
 have e:sE t r=gD 42 (t.drop r.a):=by unfold sE;rw[h];rfl
 rw[e] at hm ⊢;rw[show ((r.a:Int)+(m:Int)).toNat=r.a+m by omega];have key:∀ (l:List UInt8) (k:Nat),k<=gD 42 l->(k<gD 42 l↔∃ r,l.drop k=42::r):=by
  intro l;induction l with
  | nil=>intro k h;simp[gD]
  | cons b l ih =>
   intro k h;unfold gD at h ⊢;split at h
   .rename_i e;rw[b5Q e];cases k with
    | zero=>exact⟨λ _=>⟨l,by rw[e];rfl⟩,λ _=>by omega⟩
    | succ k =>
     have:=ih k (by omega);rw[b8G,<-this];omega
   .rename_i e;rw[b5I e];have hk:k=0:=by omega
    subst hk;refine⟨λ h=>by omega,λ ⟨r,hr⟩=>?_⟩;simp only[b8h,b5J] at hr;exact absurd hr.1 e
 rw[key _ m hm,b7J];constructor
 .intro hp;exact sL t _ 42 (by decide) hp
 .rintro⟨r,hr⟩;exact fN hr
def b4y(t:List UInt8)(a c:Int)(h0:0<=a)(h:bN t a.toNat=c):((dv t a.toNat c:Nat):Int)=a+1/\fD t a.toNat c false=false:=by
 unfold dv fD;rw[if_pos h,if_pos h];exact⟨by omega,rfl⟩
def cC:dZ:=⟨pz,[[.d .str, .d (.int .i64), .d (.int .i64), .d .bool]],[.b 0],[[.str,(.int .i64),(.int .i64), .bool]],λ (t:List UInt8) (a:Int) (dp:Int) (bad:Bool)=>⟨(some (0<=a/\a<=(t.length:Int)/\t.length<=10000),[⟨(.int .u8),bN t a.toNat⟩],[[⟨.str,t⟩,⟨(.int .i64),a⟩,⟨(.int .i64),dp⟩,⟨.bool,bad⟩]])⟩⟩
def AZ(t:List UInt8)(a:Int)(dp:Int)(bad:Bool):Nat->aI:=cf
def dH:dZ.Good cC:=by
 refine⟨aG og,?_⟩;intro (t:List UInt8) (a:Int) (dp:Int) (bad:Bool) (hp:0<=a/\a<=(t.length:Int)/\t.length<=10000);refine dC [] [] [] [] [] [] [] [] trivial trivial trivial trivial og xB (AZ t a dp bad) rfl rfl (let v0:=(t=t/\(a=a/\(dp=dp/\bad=bad)))/\True;let v1:=decide (a<((t.length:Int)));((ag a->(t.length<=140737488355328->(ag ((t.length:Int))->((v1=true->(t.length<=140737488355328->(ag a->(aJ a t.length/\((((t.getD (Int.toNat a) 0).toNat:Int))=(bN t a.toNat)/\v0)))))/\(v1=false->((0:Int)=(bN t a.toNat)/\v0)))))))) ?_;refine λ _ _ _=>⟨λ _ _ _=>⟨?_,?_,⟨rfl,rfl,rfl,rfl⟩,af⟩,λ _=>⟨?_,⟨rfl,rfl,rfl,rfl⟩,af⟩⟩;all_goals try and_intros
 all_goals first|rfl|trivial|omega|(simp only[decide_eq_true_eq,decide_eq_false_iff_not,aJ,ag] at *;first|omega|grind [bN,dv,fD])
def ji:dZ:=⟨pA,[[.d .str, .d (.int .i64), .d (.int .i64), .d .bool]],[.b 0, .v (.int .u8)],[[.str,(.int .i64),(.int .i64), .bool]],λ (b:Int) (t:List UInt8) (a:Int) (dp:Int) (bad:Bool)=>⟨(some (0<=a/\a<=(t.length:Int)/\t.length<=10000),[],[[⟨.str,t⟩,⟨(.int .i64),((dv t a.toNat b:Nat):Int)⟩,⟨(.int .i64),dp⟩,⟨.bool,fD t a.toNat b bad⟩]])⟩⟩
def A0(b:Int)(t:List UInt8)(a:Int)(dp:Int)(bad:Bool):Nat->aI:=cf
def xh:dZ.Good ji:=by
 refine⟨aG oh,?_⟩;intro (b:Int) (t:List UInt8) (a:Int) (dp:Int) (bad:Bool) (hp:0<=a/\a<=(t.length:Int)/\t.length<=10000);refine dC [] [] [] [cC] [] [] [] [] trivial trivial trivial ⟨dH,af⟩ oh xC (A0 b t a dp bad) rfl rfl (let v0 := !(decide ((bN t a.toNat)=b));let v1:=((dv t a.toNat b:Nat):Int);(((0<=a/\a<=(t.length:Int)/\t.length<=10000)/\((v0=true->(True/\((t=t/\(a=v1/\(dp=dp/\true=(fD t a.toNat b bad))))/\True)))/\(v0=false->(ag a->(ag (a+(1:Int))/\(True/\((t=t/\((a+(1:Int))=v1/\(dp=dp/\bad=(fD t a.toNat b bad))))/\True))))))))) ?_;obtain⟨h0,h1,h2⟩:=hp;by_cases h:bN t a.toNat=b
 .have e1:((dv t a.toNat b:Nat):Int)=a+1:=by unfold dv;rw[if_pos h];omega
  have e2:fD t a.toNat b bad=bad:=by unfold fD;rw[if_pos h]
  simp only[e1,e2,h,b6u,b6r,b5U,b5T,b5V,b5O,b6b,b6c,b6m,b6s,ag];repeat' (first|intro _|apply And.intro)
  all_goals first|trivial|omega
 .have e1:((dv t a.toNat b:Nat):Int)=a:=by unfold dv;rw[if_neg h];omega
  have e2:fD t a.toNat b bad=true:=by unfold fD;rw[if_neg h]
  simp only[e1,e2,h,b6u,b6r,b5U,b5T,b5V,b5O,b6b,b6c,b6m,b6s,ag];repeat' (first|intro _|apply And.intro)
  all_goals first|trivial|omega
def jh:dZ:=⟨px,[[.d .str, .d (.int .i64), .d (.int .i64), .d .bool]],[.b 0],[[.str,(.int .i64),(.int .i64), .bool]],λ (t:List UInt8) (a:Int) (dp:Int) (bad:Bool)=>⟨(some (0<=a/\a<=(t.length:Int)/\t.length<=10000/\0<=dp/\(bN t a.toNat=116\/bN t a.toNat=97)/\bad=false),[⟨(.st .expr),(nW t a.toNat dp.toNat).e⟩],[[⟨.str,t⟩,⟨(.int .i64),((nW t a.toNat dp.toNat).a:Int)⟩,⟨(.int .i64),dp⟩,⟨.bool,(nW t a.toNat dp.toNat).bad⟩]])⟩⟩
def AX(t:List UInt8)(a:Int)(dp:Int)(bad:Bool):Nat->aI:=(fu 0 (.a (Nat) (λ k=>k<=nD t a) (λ k=>nD t a - k) [7,8,9,10,11,12,13,14,15,16,17,18,19,20,21,22] (λ k=>[(4, .aO ⟨(.int .i64),(a+1:Int)⟩)]) [2] (λ k=>[(400000, .box [.aO ⟨.str,(t:List UInt8)⟩, .aO ⟨(.int .i64),(a+1+(k:Int):Int)⟩, .aO ⟨(.int .i64),(dp:Int)⟩, .aO ⟨.bool,(bad:Bool)⟩]),(3, .box [.aO ⟨(.int .i64),(nmK t a:Int)⟩, .aO ⟨(.int .i64),((0:Int):Int)⟩, .nil])])) cf)
def xg:dZ.Good jh:=by
 refine⟨aG oe,?_⟩;intro (t:List UInt8) (a:Int) (dp:Int) (bad:Bool) (hp:0<=a/\a<=(t.length:Int)/\t.length<=10000/\0<=dp/\(bN t a.toNat=116\/bN t a.toNat=97)/\bad=false);refine dC [yw] [] [] [cC] [] [] [] [] ⟨EP,af⟩ trivial trivial ⟨dH,af⟩ oe xy (AX t a dp bad) rfl rfl (let v0:=nW t a.toNat dp.toNat;let v2:=Int.toNat (a+1);let v3:=(0:Int)=(0:Int)/\(True/\True);let v4:=True/\(True/\(True/\((a+1)=(a+1)/\True)));let v5:=dp=dp/\(bad=bad/\True);let v6:=(1:Int);let v7:=dp=dp/\true=(v0.bad);let v8:=((0:Int)=(0:Int)/\v3)/\True;let v9:=nmK t a;let v1:=(v9=v9/\v3)/\v8;let va:=(v0.a:Int);let vc:=(t.length:Int);let vd:=decide ((bN t a.toNat)=(97:Int));let ve:=a+v6;let vb:=True/\(True/\(True/\(ve=(a+1)/\True)));(((0<=a/\a<=vc/\t.length<=10000)/\((vd=true->(ag a->(ag ve/\(ag ve->((∃ k1:Nat,(k1<=nD t a/\(vb/\((t=t/\(ve=(a+1+(k1:Int))/\v5))/\(((4:Int)=v9/\v3)/\v8)))))/\(∀ k1:Nat,let vf:=a+1+(k1:Int);let vg:=(t.take (Int.toNat vf)).drop v2;let vh:=(J.mk v9 (kj 9 vg) [])=(v0.e)/\((t=t/\(vf=va/\(dp=dp/\(!(lO 9 vg))=(v0.bad))))/\True);let vi:=(J.mk v9 (kj 9 vg) [])=(v0.e)/\((t=t/\(vf=va/\v7))/\True);let vj:=0<=vf/\vf<=vc/\t.length<=10000;let vk:=decide ((48:Int)<=(bN t vf.toNat));let vl:=decide ((bN t vf.toNat)<=(57:Int));(k1<=nD t a->(vj/\((vk=true->(vj/\((vl=true->(ag vf->(ag (vf+v6)/\(∃ k2:Nat,(k2<=nD t a/\(nD t a - k2<nD t a - k1/\(v4/\((t=t/\((vf+v6)=(a+1+(k2:Int))/\v5))/\v1))))))))/\(vl=false->(ei (a+1) vf t.length/\(t.length<=140737488355328->(ag vf->(ag (kj 9 vg)->((bad=false->vh)/\(bad=(!false)->vi))))))))))/\(vk=(!true)->((false=true->(ag vf->(ag (vf+v6)/\(∃ k2:Nat,(k2<=nD t a/\(nD t a - k2<nD t a - k1/\(v4/\((t=t/\((vf+v6)=(a+1+(k2:Int))/\v5))/\v1))))))))/\(false=false->(ei (a+1) vf t.length/\(t.length<=140737488355328->(ag vf->(ag (kj 9 vg)->((bad=false->vh)/\(bad=(!false)->vi))))))))))))))))))/\(vd=false->(ag a->(ag ve/\(ag ve->((∃ k1:Nat,(k1<=nD t a/\(vb/\((t=t/\(ve=(a+1+(k1:Int))/\v5))/\(((3:Int)=v9/\v3)/\v8)))))/\(∀ k1:Nat,let vf:=a+1+(k1:Int);let vg:=(t.take (Int.toNat vf)).drop v2;let vh:=(J.mk v9 (kj 9 vg) [])=(v0.e)/\((t=t/\(vf=va/\(dp=dp/\(!(lO 9 vg))=(v0.bad))))/\True);let vi:=(J.mk v9 (kj 9 vg) [])=(v0.e)/\((t=t/\(vf=va/\v7))/\True);let vj:=0<=vf/\vf<=vc/\t.length<=10000;let vk:=decide ((48:Int)<=(bN t vf.toNat));let vl:=decide ((bN t vf.toNat)<=(57:Int));(k1<=nD t a->(vj/\((vk=true->(vj/\((vl=true->(ag vf->(ag (vf+v6)/\(∃ k2:Nat,(k2<=nD t a/\(nD t a - k2<nD t a - k1/\(v4/\((t=t/\((vf+v6)=(a+1+(k2:Int))/\v5))/\v1))))))))/\(vl=false->(ei (a+1) vf t.length/\(t.length<=140737488355328->(ag vf->(ag (kj 9 vg)->((bad=false->vh)/\(bad=(!false)->vi))))))))))/\(vk=(!true)->((false=true->(ag vf->(ag (vf+v6)/\(∃ k2:Nat,(k2<=nD t a/\(nD t a - k2<nD t a - k1/\(v4/\((t=t/\((vf+v6)=(a+1+(k2:Int))/\v5))/\v1))))))))/\(false=false->(ei (a+1) vf t.length/\(t.length<=140737488355328->(ag vf->(ag (kj 9 vg)->((bad=false->vh)/\(bad=(!false)->vi)))))))))))))))))))))) ?_;obtain⟨h0,h1,h2,h3,h4,h5⟩:=hp;subst h5;have l0:=rF t a.toNat (by omega);obtain⟨q1,q2,q3,q4⟩:=RF t a dp h0 h3;have z:=λ k h=>b1F t a k h0 h;have b:=b1z t a h0 (by omega);simp only[q1,q2,q4,ei,b6u,b6r,b5U,b5T,b5V,b5O,b6b,b6c,b6m,b6s,b5W,b6t,b5R,ag,aQ];repeat' (first|intro _|apply And.intro)
 all_goals (try simp only[b5K,b5L] at *)
 all_goals first|exact True.intro|omega|with_reducible rfl|exact⟨0,b6L _,by omega,(b1D t a (by omega)).symm⟩|exact⟨0,b6L _,by omega,(b1C t a (by omega)).symm⟩|(rename_i k1 _ _ _ _;have g:=z k1 (by assumption);first|omega|exact⟨k1+1,by omega,by omega,by omega⟩|rw[PF t a k1 h0 (by omega)])|(rename_i k1 _ _ _ _ _;have g:=z k1 (by assumption);first|omega|exact⟨k1+1,by omega,by omega,by omega⟩|rw[PF t a k1 h0 (by omega)])|(rename_i k1 _ _ _ _ _ _;have g:=z k1 (by assumption);first|omega|exact⟨k1+1,by omega,by omega,by omega⟩|rw[PF t a k1 h0 (by omega)])|(rename_i k1 _ _ _ _ _ _ _;have g:=z k1 (by assumption);first|omega|exact⟨k1+1,by omega,by omega,by omega⟩|rw[PF t a k1 h0 (by omega)])
def df(n:Nat):dZ:=⟨oD,[[.d .str, .d (.int .i64), .d (.int .i64), .d .bool]],[.b 0],[[.str,(.int .i64),(.int .i64), .bool]],λ (t:List UInt8) (a:Int) (dp:Int) (bad:Bool)=>⟨(some (3 * (101 - dp).toNat+2<n/\0<=a/\a<=(t.length:Int)/\t.length<=10000/\0<=dp/\dp<=100/\bad=false),[⟨(.st .expr),(ej t a dp).e⟩],[[⟨.str,t⟩,⟨(.int .i64),((ej t a dp).a:Int)⟩,⟨(.int .i64),((ej t a dp).dp:Int)⟩,⟨.bool,(ej t a dp).bad⟩]])⟩⟩
def fB(n:Nat):dZ:=⟨py,[[.d .str, .d (.int .i64), .d (.int .i64), .d .bool]],[.b 0],[[.str,(.int .i64),(.int .i64), .bool]],λ (t:List UInt8) (a:Int) (dp:Int) (bad:Bool)=>⟨(some (3 * (101 - dp).toNat+1<n/\0<=a/\a<=(t.length:Int)/\t.length<=10000/\0<=dp/\dp<=100/\bad=false/\bN t a.toNat=40),[⟨(.st .expr),(ej t a dp).e⟩],[[⟨.str,t⟩,⟨(.int .i64),((ej t a dp).a:Int)⟩,⟨(.int .i64),((ej t a dp).dp:Int)⟩,⟨.bool,(ej t a dp).bad⟩]])⟩⟩
def fA(n:Nat):dZ:=⟨jU,[[.d .str, .d (.int .i64), .d (.int .i64), .d .bool]],[.b 0],[[.str,(.int .i64),(.int .i64), .bool]],λ (t:List UInt8) (a:Int) (dp:Int) (bad:Bool)=>⟨(some (3 * (101 - dp).toNat<n/\0<=a/\a<=(t.length:Int)/\t.length<=10000/\0<=dp/\dp<=1000),[⟨(.st .expr),(gU t a dp bad).e⟩],[[⟨.str,t⟩,⟨(.int .i64),((gU t a dp bad).a:Int)⟩,⟨(.int .i64),((gU t a dp bad).dp:Int)⟩,⟨.bool,(gU t a dp bad).bad⟩]])⟩⟩
def oz:dZ:=⟨jU,[[.d .str, .d (.int .i64), .d (.int .i64), .d .bool]],[.b 0],[[.str,(.int .i64),(.int .i64), .bool]],λ (t:List UInt8) (a:Int) (dp:Int) (bad:Bool)=>⟨(some (0<=a/\a<=(t.length:Int)/\t.length<=10000/\0<=dp/\dp<=1000),[⟨(.st .expr),(gU t a dp bad).e⟩],[[⟨.str,t⟩,⟨(.int .i64),((gU t a dp bad).a:Int)⟩,⟨(.int .i64),((gU t a dp bad).dp:Int)⟩,⟨.bool,(gU t a dp bad).bad⟩]])⟩⟩
def zA(t:List UInt8)(a:Int)(dp:Int)(bad:Bool):Nat->aI:=cf
def xI(n:Nat)(hE:bu [])(hO:la [])(hM:nb [])(hS:j8 [cC,jh,fB n,df n]):dZ.Good (df (n+1)):=by
 refine⟨aG iz,?_⟩;intro (t:List UInt8) (a:Int) (dp:Int) (bad:Bool) (hp:3 * (101 - dp).toNat+2<n+1/\0<=a/\a<=(t.length:Int)/\t.length<=10000/\0<=dp/\dp<=100/\bad=false);refine dC [] [] [] [cC,jh,fB n,df n] [30,57,66,71] [] [] [] hE hO hM hS iz vN (zA t a dp bad) rfl rfl (let v0:=ej t a dp;let v3:=dp+(1:Int);let v4:=a+(1:Int);let v6:=bN t a.toNat;let vb:=decide (v6=(116:Int));let vc:=decide (v6=(126:Int));let vd:=decide ((100:Int)<v3);let vf:=decide (v6=(40:Int));let vg:=(v0.dp:Int);let vh:=(v0.a:Int);let vi:=(t.length:Int);let v7:=3 * (101 - v3).toNat+2<n/\0<=v4/\v4<=vi/\t.length<=10000/\0<=v3/\v3<=100/\bad=false;let vj:=nW t a.toNat dp.toNat;let vk:=ej t v4 v3;let ve:=(vk.dp:Int);let vl:=v0.bad;let v1:=ag (ve - (1:Int))/\((J.mk (5:Int) (0:Int) ([(aV (vk.e))]))=(v0.e)/\((t=t/\(((vk.a:Int))=vh/\((ve - (1:Int))=vg/\(vk.bad)=vl)))/\True));let v2:=(3 * (101 - dp).toNat+1<n/\0<=a/\a<=vi/\t.length<=10000/\0<=dp/\dp<=100/\bad=false/\bN t a.toNat=40)/\((aV (v0.e))=(v0.e)/\((t=t/\((vh)=vh/\((vg)=vg/\vl=vl)))/\True));let v5:=(aV (vj.e))=(v0.e)/\((t=t/\(((vj.a:Int))=vh/\(dp=vg/\(vj.bad)=vl)))/\True);let v8:=zE=(v0.e)/\((t=t/\(v4=vh/\(v3=vg/\true=vl)))/\True);let v9:=zE=(v0.e)/\((t=t/\(a=vh/\(dp=vg/\true=vl)))/\True);let va:=(t=t/\(v4=vh/\(dp=vg/\bad=vl)))/\True;(((0<=a/\a<=vi/\t.length<=10000)/\(((decide (v6=(48:Int)))=true->(ag a->(ag v4/\((J.mk (1:Int) (0:Int) [])=(v0.e)/\va))))/\((decide (v6=(48:Int)))=false->(((decide (v6=(49:Int)))=true->(ag a->(ag v4/\((J.mk (2:Int) (0:Int) [])=(v0.e)/\va))))/\((decide (v6=(49:Int)))=false->((vb=true->((vb=true->((0<=a/\a<=vi/\t.length<=10000/\0<=dp/\(bN t a.toNat=116\/bN t a.toNat=97)/\bad=false)/\v5))/\(vb=false->((vc=true->(ag a->(ag v4/\(ag dp->(ag v3/\(ag v3->((vd=true->v8)/\(vd=false->(v7/\(ag ve->v1))))))))))/\(vc=false->((vf=true->v2)/\(vf=false->v9)))))))/\(vb=false->(((decide (v6=(97:Int)))=true->((0<=a/\a<=vi/\t.length<=10000/\0<=dp/\(bN t a.toNat=116\/bN t a.toNat=97)/\bad=false)/\v5))/\((decide (v6=(97:Int)))=false->((vc=true->(ag a->(ag v4/\(ag dp->(ag v3/\(ag v3->((vd=true->v8)/\(vd=false->(v7/\(ag ve->v1))))))))))/\(vc=false->((vf=true->v2)/\(vf=false->v9))))))))))))))) ?_;obtain⟨hm,h0,h1,h2,h3,h4,h5⟩:=hp;subst h5;by_cases yU:bN t a.toNat=48
 .have l0:=rF t a.toNat (by rw[yU];decide);obtain⟨q1,q2,q3,q4⟩:=b4d t a dp h0 h3 yU;simp only[b6I yU,(b6f (by omega):decide (bN t a.toNat=(49:Int))=false),(b6f (by omega):decide (bN t a.toNat=(116:Int))=false),(b6f (by omega):decide (bN t a.toNat=(97:Int))=false),(b6f (by omega):decide (bN t a.toNat=(126:Int))=false),(b6f (by omega):decide (bN t a.toNat=(40:Int))=false),q1,q2,q3,q4,b6u,b6r,b5U,b5T,b5V,b5O,b6b,b6c,b6m,b6s,b5W,b6t,b5R,ag,aQ];repeat' (first|intro _|apply And.intro)
  all_goals first|exact True.intro|omega|with_reducible rfl
 .by_cases BV:bN t a.toNat=49
  .have l0:=rF t a.toNat (by rw[BV];decide);obtain⟨q1,q2,q3,q4⟩:=b4e t a dp h0 h3 BV;simp only[(b6f (by omega):decide (bN t a.toNat=(48:Int))=false),b6I BV,(b6f (by omega):decide (bN t a.toNat=(116:Int))=false),(b6f (by omega):decide (bN t a.toNat=(97:Int))=false),(b6f (by omega):decide (bN t a.toNat=(126:Int))=false),(b6f (by omega):decide (bN t a.toNat=(40:Int))=false),q1,q2,q3,q4,b6u,b6r,b5U,b5T,b5V,b5O,b6b,b6c,b6m,b6s,b5W,b6t,b5R,ag,aQ];repeat' (first|intro _|apply And.intro)
   all_goals first|exact True.intro|omega|with_reducible rfl
  .by_cases uq:bN t a.toNat=116
   .obtain⟨q1,q2,q3,q4⟩:=RF t a dp h0 h3;simp only[XW t a dp (.inl uq),(b6f (by omega):decide (bN t a.toNat=(48:Int))=false),(b6f (by omega):decide (bN t a.toNat=(49:Int))=false),b6I uq,(b6f (by omega):decide (bN t a.toNat=(97:Int))=false),(b6f (by omega):decide (bN t a.toNat=(126:Int))=false),(b6f (by omega):decide (bN t a.toNat=(40:Int))=false),q3,b6u,b6r,b5U,b5T,b5V,b5O,b6b,b6c,b6m,b6s,b5W,b6t,b5R,ag,aQ];repeat' (first|intro _|apply And.intro)
    all_goals first|exact True.intro|omega|with_reducible rfl
   .by_cases Kf:bN t a.toNat=97
    .obtain⟨q1,q2,q3,q4⟩:=RF t a dp h0 h3;simp only[XW t a dp (.inr Kf),(b6f (by omega):decide (bN t a.toNat=(48:Int))=false),(b6f (by omega):decide (bN t a.toNat=(49:Int))=false),(b6f (by omega):decide (bN t a.toNat=(116:Int))=false),b6I Kf,(b6f (by omega):decide (bN t a.toNat=(126:Int))=false),(b6f (by omega):decide (bN t a.toNat=(40:Int))=false),q3,b6u,b6r,b5U,b5T,b5V,b5O,b6b,b6c,b6m,b6s,b5W,b6t,b5R,ag,aQ];repeat' (first|intro _|apply And.intro)
     all_goals first|exact True.intro|omega|with_reducible rfl
    .by_cases TZ:bN t a.toNat=126
     .have l0:=rF t a.toNat (by rw[TZ];decide);by_cases hd:100<dp+1
      .obtain⟨q1,q2,q3,q4⟩:=a4R t a dp h0 h3 hd TZ;simp only[hd,(b6f (by omega):decide (bN t a.toNat=(48:Int))=false),(b6f (by omega):decide (bN t a.toNat=(49:Int))=false),(b6f (by omega):decide (bN t a.toNat=(116:Int))=false),(b6f (by omega):decide (bN t a.toNat=(97:Int))=false),b6I TZ,(b6f (by omega):decide (bN t a.toNat=(40:Int))=false),q1,q2,q3,q4,b6u,b6r,b5U,b5T,b5V,b5O,b6b,b6c,b6m,b6s,b5W,b6t,b5R,ag,aQ];repeat' (first|intro _|apply And.intro)
       all_goals first|exact True.intro|omega|with_reducible rfl
      .obtain⟨q1,q2,q3,q4⟩:=a8a t a dp h0 (by omega) h3 hd TZ;have b1:=KP t (a+1) (dp+1) (by omega) (by omega) (by omega) (by omega);simp only[hd,(b6f (by omega):decide (bN t a.toNat=(48:Int))=false),(b6f (by omega):decide (bN t a.toNat=(49:Int))=false),(b6f (by omega):decide (bN t a.toNat=(116:Int))=false),(b6f (by omega):decide (bN t a.toNat=(97:Int))=false),b6I TZ,(b6f (by omega):decide (bN t a.toNat=(40:Int))=false),q1,q2,q3,q4,b6u,b6r,b5U,b5T,b5V,b5O,b6b,b6c,b6m,b6s,b5W,b6t,b5R,ag,aQ];repeat' (first|intro _|apply And.intro)
       all_goals first|exact True.intro|omega|with_reducible rfl
     .by_cases Qy:bN t a.toNat=40
      .simp only[(b6f (by omega):decide (bN t a.toNat=(48:Int))=false),(b6f (by omega):decide (bN t a.toNat=(49:Int))=false),(b6f (by omega):decide (bN t a.toNat=(116:Int))=false),(b6f (by omega):decide (bN t a.toNat=(97:Int))=false),(b6f (by omega):decide (bN t a.toNat=(126:Int))=false),b6I Qy,b6u,b6r,b5U,b5T,b5V,b5O,b6b,b6c,b6m,b6s,b5W,b6t,b5R,ag,aQ];repeat' (first|intro _|apply And.intro)
       all_goals first|exact True.intro|omega|with_reducible rfl
      .obtain⟨q1,q2,q3,q4⟩:=a4S t a dp h0 h3 ⟨yU,BV,uq,Kf,TZ,Qy⟩;simp only[(b6f (by omega):decide (bN t a.toNat=(48:Int))=false),(b6f (by omega):decide (bN t a.toNat=(49:Int))=false),(b6f (by omega):decide (bN t a.toNat=(116:Int))=false),(b6f (by omega):decide (bN t a.toNat=(97:Int))=false),(b6f (by omega):decide (bN t a.toNat=(126:Int))=false),(b6f (by omega):decide (bN t a.toNat=(40:Int))=false),q1,q2,q3,q4,b6u,b6r,b5U,b5T,b5V,b5O,b6b,b6c,b6m,b6s,b5W,b6t,b5R,ag,aQ];repeat' (first|intro _|apply And.intro)
       all_goals first|exact True.intro|omega|with_reducible rfl
def AY(t:List UInt8)(a:Int)(dp:Int)(bad:Bool):Nat->aI:=cf
def zH(n:Nat)(hE:bu [])(hO:la [])(hM:nb [])(hS:j8 [cC,ji,fA n]):dZ.Good (fB (n+1)):=by
 refine⟨aG iZ,?_⟩;intro (t:List UInt8) (a:Int) (dp:Int) (bad:Bool) (hp:3 * (101 - dp).toNat+1<n+1/\0<=a/\a<=(t.length:Int)/\t.length<=10000/\0<=dp/\dp<=100/\bad=false/\bN t a.toNat=40);refine dC [] [] [] [cC,ji,fA n] [9,27,32] [] [] [] hE hO hM hS iZ xA (AY t a dp bad) rfl rfl (let v5:=(t.length:Int);let v7:=((dv t a.toNat (40:Int):Nat):Int);let v0:=gU t v7 dp (fD t a.toNat (40:Int) bad);let v6:=(v0.dp:Int);let v8:=ej t a dp;let vc:=(v0.a:Int);let v1:=((dv t vc.toNat (32:Int):Nat):Int);let v9:=v1+(1:Int);let v4:=((dv t v9.toNat (32:Int):Nat):Int);let va:=fD t vc.toNat (32:Int) (v0.bad);let v2:=gU t v4 v6 (fD t v9.toNat (32:Int) va);let v3:=gU t v1 v6 va;let vb:=decide ((bN t v1.toNat)=(43:Int));let vd:=(v2.a:Int);let ve:=(v3.a:Int);(((0<=a/\a<=v5/\t.length<=10000)/\((3 * (101 - dp).toNat<n/\0<=v7/\v7<=v5/\t.length<=10000/\0<=dp/\dp<=1000)/\((0<=vc/\vc<=v5/\t.length<=10000)/\((0<=v1/\v1<=v5/\t.length<=10000)/\((vb=true->(ag v1->(ag v9/\((0<=v9/\v9<=v5/\t.length<=10000)/\((3 * (101 - v6).toNat<n/\0<=v4/\v4<=v5/\t.length<=10000/\0<=v6/\v6<=1000)/\((0<=vd/\vd<=v5/\t.length<=10000)/\((J.mk (6:Int) (0:Int) ([(aV (v0.e)),(aV (v2.e))]))=(v8.e)/\((t=t/\((((dv t vd.toNat (41:Int):Nat):Int))=(v8.a:Int)/\(((v2.dp:Int))=(v8.dp:Int)/\(fD t vd.toNat (41:Int) (v2.bad))=(v8.bad))))/\True))))))))/\(vb=false->((3 * (101 - v6).toNat<n/\0<=v1/\v1<=v5/\t.length<=10000/\0<=v6/\v6<=1000)/\((0<=ve/\ve<=v5/\t.length<=10000)/\((J.mk (7:Int) (0:Int) ([(aV (v0.e)),(aV (v3.e))]))=(v8.e)/\((t=t/\((((dv t ve.toNat (41:Int):Nat):Int))=(v8.a:Int)/\(((v3.dp:Int))=(v8.dp:Int)/\(fD t ve.toNat (41:Int) (v3.bad))=(v8.bad))))/\True)))))))))))) ?_;obtain⟨hm,h0,h1,h2,h3,h4,h5,h6⟩:=hp;subst h5;have l0:=rF t a.toNat (by rw[h6];decide);obtain⟨g1,g2⟩:=b4y t a 40 h0 h6;have b1:=Pw t (a+1) dp false (by omega) (by omega) h3;obtain⟨p1,p2⟩:=a4T t a dp h0 (by omega) h3 h4 h6 _ rfl;simp only[yE] at p1 p2;simp only[g1,g2,b5R];generalize gU t (a+1) dp false=X at *
 have c1:=CM t X.a 32 (by decide) (by omega);by_cases hs:bN t (dv t X.a 32)=43
 .obtain⟨q1,q2,q3,q4⟩:=p1 hs;have l1:=rF t (dv t X.a 32) (by rw[hs];decide);have e1:(((dv t X.a 32:Nat):Int)+1).toNat=dv t X.a 32+1:=by omega
  have c2:=CM t (dv t X.a 32+1) 32 (by decide) (by omega);have b2:=Pw t ((dv t (dv t X.a 32+1) 32:Nat):Int) (X.dp:Int) (fD t (dv t X.a 32+1) 32 (fD t X.a 32 X.bad)) (by omega) (by omega) (by omega);simp only[hs,e1,q1,q2,q3,q4,b6u,b6r,b5U,b5T,b5V,b5O,b6b,b6c,b6m,b6s,b5W,b6t,b5R,ag,aQ];generalize gU t ((dv t (dv t X.a 32+1) 32:Nat):Int) (X.dp:Int) (fD t (dv t X.a 32+1) 32 (fD t X.a 32 X.bad))=Y at *
  have c3:=CM t Y.a 41 (by decide) (by omega);repeat' (first|intro _|apply And.intro)
  all_goals first|exact True.intro|omega|with_reducible rfl
 .obtain⟨q1,q2,q3,q4⟩:=p2 hs;have b2:=Pw t ((dv t X.a 32:Nat):Int) (X.dp:Int) (fD t X.a 32 X.bad) (by omega) (by omega) (by omega);simp only[hs,q1,q2,q3,q4,b6u,b6r,b5U,b5T,b5V,b5O,b6b,b6c,b6m,b6s,b5W,b6t,b5R,ag,aQ];generalize gU t ((dv t X.a 32:Nat):Int) (X.dp:Int) (fD t X.a 32 X.bad)=Y at *
  have c3:=CM t Y.a 41 (by decide) (by omega);repeat' (first|intro _|apply And.intro)
  all_goals first|exact True.intro|omega|with_reducible rfl
def AW(t:List UInt8)(a:Int)(dp:Int)(bad:Bool):Nat->aI:=(fu 0 (.a (Nat) (λ m=>m<=sE t (ej t a (dp+1))) (λ m=>sE t (ej t a (dp+1)) - m) [4,5,6,7,8,9,10,11,12,13,14,15,16,17,18,19,20,21,26,27] (λ m=>[]) [2] (λ m=>[(400000, .box [.aO ⟨.str,(t:List UInt8)⟩, .aO ⟨(.int .i64),(((ej t a (dp+1)).a:Int)+(m:Int):Int)⟩, .aO ⟨(.int .i64),(((ej t a (dp+1)).dp:Int):Int)⟩, .aO ⟨.bool,((ej t a (dp+1)).bad:Bool)⟩]),(3, .box [.aO ⟨(.int .i64),((bR 8 m (ej t a (dp+1)).e).aj:Int)⟩, .aO ⟨(.int .i64),((bR 8 m (ej t a (dp+1)).e).aT:Int)⟩, .aC 7100]),(7100, .aC (.st .expr) ((bR 8 m (ej t a (dp+1)).e).U:List J))])) cf)
def zG(n:Nat)(hE:bu [])(hO:la [])(hM:nb [])(hS:j8 [cC,df n]):dZ.Good (fA (n+1)):=by
 refine⟨aG fJ,?_⟩;intro (t:List UInt8) (a:Int) (dp:Int) (bad:Bool) (hp:3 * (101 - dp).toNat<n+1/\0<=a/\a<=(t.length:Int)/\t.length<=10000/\0<=dp/\dp<=1000);refine dC [] [] [] [cC,df n] [27,46] [] [] [] hE hO hM hS fJ xx (AW t a dp bad) rfl rfl (let v0:=ej t a (dp+1);let v3:=gU t a dp bad;let v4:=(v0.a:Int);let v5:=(v0.dp:Int);let vc:=True/\True;let v6:=True/\(True/\vc);let vd:=(1:Int);let v2:=dp+vd;let v8:=3 * (101 - v2).toNat+2<n/\0<=a/\a<=(t.length:Int)/\t.length<=10000/\0<=v2/\v2<=100/\bad=false;let vb:=ej t a v2;let vf:=(0:Int);let v1:=(vf=vf/\(vf=vf/\vc))/\True;let vg:=(v3.a:Int);let va:=zE=(v3.e)/\((t=t/\(a=vg/\(v2=(v3.dp:Int)/\true=(v3.bad))))/\True);let vh:=v0.bad;let v7:=(v5 - vd)=(v3.dp:Int)/\vh=(v3.bad);let v9:=v5=v5/\(vh=vh/\True);let ve:=((vb.dp:Int))=v5/\((vb.bad)=vh/\True);((ag dp->(ag v2/\((bad=false->(ag v2->(((decide ((100:Int)<v2))=true->va)/\((decide ((100:Int)<v2))=false->(v8/\((∃ m1:Nat,let vi:=bR 8 m1 v0.e;(m1<=sE t v0/\(v6/\((t=t/\(((vb.a:Int))=(v4+(m1:Int))/\ve))/\(((vb.e).aj=(vi.aj)/\((vb.e).aT=(vi.aT)/\vc))/\((vb.e).U=(vi.U)/\v1))))))/\(∀ m1:Nat,let vj:=v4+(m1:Int);let vl:=decide ((bN t vj.toNat)=(42:Int));let vm:=bR 8 m1 v0.e;let vi:=J.mk (vm.aj) (vm.aT) (vm.U);let vk:=ag (v5 - vd)/\(vi=(v3.e)/\((t=t/\(vj=vg/\v7))/\True));(m1<=sE t v0->(((!vh)=true->((0<=vj/\vj<=(t.length:Int)/\t.length<=10000)/\((vl=true->(ag vj->(ag (vj+vd)/\(∃ m2:Nat,let vn:=bR 8 m2 v0.e;(m2<=sE t v0/\(sE t v0 - m2<sE t v0 - m1/\(v6/\((t=t/\((vj+vd)=(v4+(m2:Int))/\v9))/\(((8:Int)=(vn.aj)/\(vf=(vn.aT)/\vc))/\(([vi])=(vn.U)/\v1))))))))))/\(vl=false->(ag v5->vk)))))/\((!vh)=(!true)->((false=true->(ag vj->(ag (vj+vd)/\(∃ m2:Nat,let vn:=bR 8 m2 v0.e;(m2<=sE t v0/\(sE t v0 - m2<sE t v0 - m1/\(v6/\((t=t/\((vj+vd)=(v4+(m2:Int))/\v9))/\(((8:Int)=(vn.aj)/\(vf=(vn.aT)/\vc))/\(([vi])=(vn.U)/\v1))))))))))/\(false=false->(ag v5->vk)))))))))))))/\(bad=(!false)->((true=true->va)/\(true=false->(v8/\((∃ m1:Nat,let vi:=bR 8 m1 v0.e;(m1<=sE t v0/\(v6/\((t=t/\(((vb.a:Int))=(v4+(m1:Int))/\ve))/\(((vb.e).aj=(vi.aj)/\((vb.e).aT=(vi.aT)/\vc))/\((vb.e).U=(vi.U)/\v1))))))/\(∀ m1:Nat,let vj:=v4+(m1:Int);let vl:=decide ((bN t vj.toNat)=(42:Int));let vm:=bR 8 m1 v0.e;let vi:=J.mk (vm.aj) (vm.aT) (vm.U);let vk:=ag (v5 - vd)/\(vi=(v3.e)/\((t=t/\(vj=vg/\v7))/\True));(m1<=sE t v0->(((!vh)=true->((0<=vj/\vj<=(t.length:Int)/\t.length<=10000)/\((vl=true->(ag vj->(ag (vj+vd)/\(∃ m2:Nat,let vn:=bR 8 m2 v0.e;(m2<=sE t v0/\(sE t v0 - m2<sE t v0 - m1/\(v6/\((t=t/\((vj+vd)=(v4+(m2:Int))/\v9))/\(((8:Int)=(vn.aj)/\(vf=(vn.aT)/\vc))/\(([vi])=(vn.U)/\v1))))))))))/\(vl=false->(ag v5->vk)))))/\((!vh)=(!true)->((false=true->(ag vj->(ag (vj+vd)/\(∃ m2:Nat,let vn:=bR 8 m2 v0.e;(m2<=sE t v0/\(sE t v0 - m2<sE t v0 - m1/\(v6/\((t=t/\((vj+vd)=(v4+(m2:Int))/\v9))/\(((8:Int)=(vn.aj)/\(vf=(vn.aT)/\vc))/\(([vi])=(vn.U)/\v1))))))))))/\(false=false->(ag v5->vk))))))))))))))))) ?_;obtain⟨hm,h0,h1,h2,h3,h4⟩:=hp;cases bad with
 | true =>
  obtain⟨q1,q2,q3,q4⟩:=Xr t a dp true h0 h3 (.inl rfl);simp only[q1,q2,q3,q4,b6u,b6r,b5U,b5T,b5V,b5O,b6b,b6c,b6m,b6s,b5W,b6t,b5R,ag,aQ];repeat' (first|intro _|apply And.intro)
  all_goals first|exact True.intro|omega|with_reducible rfl
 | false =>
  by_cases hd:100<dp+1
  .obtain⟨q1,q2,q3,q4⟩:=Xr t a dp false h0 h3 (.inr hd);simp only[hd,q1,q2,q3,q4,b6u,b6r,b5U,b5T,b5V,b5O,b6b,b6c,b6m,b6s,b5W,b6t,b5R,ag,aQ];repeat' (first|intro _|apply And.intro)
   all_goals first|exact True.intro|omega|with_reducible rfl
  .obtain⟨q1,q2,q3,q4⟩:=a7K t a dp false h0 h1 h3 rfl hd;have b1:=KP t a (dp+1) h0 h1 (by omega) (by omega);have b2:=b1S t a (dp+1) h0 h1 (by omega) (by omega);simp only[hd,q1,q2,q3,q4,b6u,b6r,b5U,b5T,b5V,b5O,b6b,b6c,b6m,b6s,b5W,b6t,b5R,ag,aQ];generalize ej t a (dp+1)=R at *
   cases hB:R.bad with
   | true =>
    have z:=a8D t R hB;simp only[hB,z,b6u,b6r,b5U,b5T,b5V,b5O,b6b,b6c,b6m,b6s,b5W,b6t,b5R,ag,aQ];repeat' (first|intro _|apply And.intro)
    all_goals first|exact True.intro|omega|with_reducible rfl|exact⟨0,b6L _,by omega,⟨rfl,rfl⟩,rfl⟩|(simp only[J.eta];congr 1;omega)
   | false =>
    have z:=λ m h=>b1R t R m hB h;simp only[hB,b6u,b6r,b5U,b5T,b5V,b5O,b6b,b6c,b6m,b6s,b5W,b6t,b5R,ag,aQ];repeat' (first|intro _|apply And.intro)
    all_goals (try simp only[b5K,b5L] at *)
    all_goals first|exact True.intro|omega|with_reducible rfl|exact⟨0,b6L _,by omega,⟨rfl,rfl⟩,rfl⟩|(rename_i m1 _ _ _;have g:=z m1 (by assumption);first|omega|(simp only[J.eta];congr 1;omega)|exact⟨m1+1,by omega,by omega,by omega,⟨by rw[dJ],by rw[dJ]⟩,by rw[dJ,J.eta]⟩)
def Tw:∀ n,j8 [df n,fB n,fA n]
 | 0=>⟨⟨aG iz,λ _ _ _ _ h=>absurd h.1 (b6H _)⟩,⟨aG iZ,λ _ _ _ _ h=>absurd h.1 (b6H _)⟩,⟨aG fJ,λ _ _ _ _ h=>absurd h.1 (b6H _)⟩,af⟩
 | n+1=>by
  have ih:=Tw n;exact⟨xI n trivial trivial trivial ⟨dH,xg,ih.2.1,ih.1,af⟩,zH n trivial trivial trivial ⟨dH,xh,ih.2.2.1,af⟩,zG n trivial trivial trivial ⟨dH,ih.1,af⟩,af⟩
def xf:dZ.Good oz :=
 ⟨aG fJ,λ t a dp bad hp=>(Tw (3 * (101 - dp).toNat+1)).2.2.1.2 t a dp bad (⟨b6g _,hp⟩)⟩
def CH(gg:aD)(t:List UInt8):J:=bif sigOk gg&&decide (t.length<=4000) then nX gg t else zX
def FY(gg:aD)(t:List UInt8):Int:=bif sigOk gg then (bif decide (t.length<=4000) then (bif eP gg t then 0 else 5) else 2) else 1
def a4q(t:List UInt8):gU t 0 0 false=xl t:=rfl
def yx:bc:=⟨A5,[.v (.st .sig), .v .str],λ (gg:aD) (t:List UInt8)=>⟨(some (sigOk gg=true/\t.length<=8000),[⟨(.st .expr),nX gg t⟩,⟨.bool,eP gg t⟩])⟩⟩
def K3(gg:aD)(t:List UInt8):Nat->aI:=cf
def FR:bc.iY yx:=by
 refine⟨aG xR,?_⟩;intro (gg:aD) (t:List UInt8) (hp:sigOk gg=true/\t.length<=8000);refine eO [lF,wO] [] [] [sq] [12] [] [] [2] ⟨kU,x6,af⟩ trivial trivial ⟨Bl,af⟩ xR GI (K3 gg t) (let v1:=zE=(nX gg t)/\false=(eP gg t);let v5:=xE t (40:Int) (0:Int);let v0:=aV (v5.e);let v2:=v0=(nX gg t)/\true=(eP gg t);let v3 := !decide ((aX v0)=t);let v4:=aF v0=true/\(aX v0).length<=1000000;let v6 := !(decide (((v5.a:Int))=((t.length:Int))));let v7 := !(isE gg v0);let v8 := !false;(((0<=(0:Int)/\(0:Int)<=(t.length:Int)/\t.length<=10000 /\ -1<=(40:Int)/\(40:Int)<=40)/\(((!(v5.ok))=false->(ag ((v5.a:Int))->(ag ((t.length:Int))->((v6=false->((v7=false->(v4/\((aX v0).length<=140737488355328->((v3=true->v1)/\(v3=false->v2)))))/\(v7=v8->((true=true->v1)/\(true=false->v2)))))/\(v6=v8->((true=false->(v4/\((aX v0).length<=140737488355328->((v3=true->v1)/\(v3=false->v2)))))/\(true=v8->((true=true->v1)/\(true=false->v2)))))))))/\((!(v5.ok))=v8->((true=false->((v7=false->(v4/\((aX v0).length<=140737488355328->((v3=true->v1)/\(v3=false->v2)))))/\(v7=v8->((true=true->v1)/\(true=false->v2)))))/\(true=v8->((true=false->(v4/\((aX v0).length<=140737488355328->((v3=true->v1)/\(v3=false->v2)))))/\(true=v8->((true=true->v1)/\(true=false->v2))))))))))) ?_;obtain⟨hg,hl⟩:=hp;have r1:eP gg t=((xE t 40 0).ok&&decide ((xE t 40 0).a=t.length)&&isE gg (xE t 40 0).e&&decide (aX (xE t 40 0).e=t)):=rfl;have r2:nX gg t=bif eP gg t then (xE t 40 0).e else zX:=rfl
 have r3:=Cf gg (xE t 40 0).e hg;rcases b6h (xE t 40 0).ok with h1|h1
 .by_cases h2:(xE t 40 0).a=t.length
  .have d2:decide (((xE t 40 0).a:Int)=(t.length:Int))=true:=b6I (by omega);rcases b6h (isE gg (xE t 40 0).e) with h3|h3
   .obtain⟨g1,g2,g3⟩:=r3 h3;by_cases h4:aX (xE t 40 0).e=t
    .have k1:eP gg t=true:=by rw[r1,h1,b6I h2,h3,b6I h4];rfl
     have k2:nX gg t=(xE t 40 0).e:=by rw[r2,k1];rfl
     simp only[h1,d2,h3,b6I h4,g1,k1,k2,b6u,b6r,b5U,b5T,b5V,b5O,b6b,b6c,b6m,b6s,b5W,b6t,b5R,ag,aQ];repeat' (first|intro _|apply And.intro)
     all_goals first|exact True.intro|omega|with_reducible rfl
    .have k1:eP gg t=false:=by rw[r1,b6f h4];simp
     have k2:nX gg t=zX:=by rw[r2,k1];rfl
     simp only[h1,d2,h3,b6f h4,g1,k1,k2,b6u,b6r,b5U,b5T,b5V,b5O,b6b,b6c,b6m,b6s,b5W,b6t,b5R,ag,aQ];repeat' (first|intro _|apply And.intro)
     all_goals first|exact True.intro|omega|with_reducible rfl
   .have k1:eP gg t=false:=by rw[r1,h3];simp
    have k2:nX gg t=zX:=by rw[r2,k1];rfl
    simp only[h1,d2,h3,k1,k2,b6u,b6r,b5U,b5T,b5V,b5O,b6b,b6c,b6m,b6s,b5W,b6t,b5R,ag,aQ];repeat' (first|intro _|apply And.intro)
    all_goals first|exact True.intro|omega|with_reducible rfl
  .have d2:decide (((xE t 40 0).a:Int)=(t.length:Int))=false:=b6f (by omega);have k1:eP gg t=false:=by rw[r1,b6f h2];simp
   have k2:nX gg t=zX:=by rw[r2,k1];rfl
   simp only[h1,d2,k1,k2,b6u,b6r,b5U,b5T,b5V,b5O,b6b,b6c,b6m,b6s,b5W,b6t,b5R,ag,aQ];repeat' (first|intro _|apply And.intro)
   all_goals first|exact True.intro|omega|with_reducible rfl
 .have k1:eP gg t=false:=by rw[r1,h1];rfl
  have k2:nX gg t=zX:=by rw[r2,k1];rfl
  simp only[h1,k1,k2,b6u,b6r,b5U,b5T,b5V,b5O,b6b,b6c,b6m,b6s,b5W,b6t,b5R,ag,aQ];repeat' (first|intro _|apply And.intro)
  all_goals first|exact True.intro|omega|with_reducible rfl
def pr:bc:=⟨A8,[.v (.st .sig), .v .str],λ (gg:aD) (t:List UInt8)=>⟨(none,[⟨(.st .expr),CH gg t⟩,⟨(.int .i64),FY gg t⟩])⟩⟩
def K4(gg:aD)(t:List UInt8):Nat->aI:=cf
def sK:bc.iY pr:=by
 refine⟨aG xV,?_⟩;intro (gg:aD) (t:List UInt8) _;refine eO [wP,HG] [] [] [oz] [20] [] [] [2] ⟨x9,Mt,af⟩ trivial trivial ⟨xf,af⟩ xV GM (K4 gg t) (let v2:=zE=(CH gg t)/\(5:Int)=(FY gg t);let v3:=(t.length:Int);let v5:=(0:Int);let v0:=gU t v5 v5 false;let v1:=(aV (v0.e))=(CH gg t)/\v5=(FY gg t);let v4 := !(iQ gg (aV (v0.e)));let v6 := !(decide (((v0.a:Int))=(v3)));((((!(sigOk gg))=true->(zE=(CH gg t)/\(1:Int)=(FY gg t)))/\((!(sigOk gg))=false->(ag (v3)->(((decide ((4000:Int)<(v3)))=true->(zE=(CH gg t)/\(2:Int)=(FY gg t)))/\((decide ((4000:Int)<(v3)))=false->((0<=v5/\v5<=v3/\t.length<=10000/\0<=v5/\v5<=1000)/\(((v0.bad)=false->(ag ((v0.a:Int))->(ag (v3)->((v6=false->((v4=true->v2)/\(v4=false->v1)))/\(v6=(!false)->((true=true->v2)/\(true=false->v1)))))))/\((v0.bad)=(!false)->((true=false->((v4=true->v2)/\(v4=false->v1)))/\(true=(!false)->((true=true->v2)/\(true=false->v1)))))))))))))) ?_;have r1:CH gg t=bif sigOk gg&&decide (t.length<=4000) then nX gg t else zX:=rfl
 have r2:FY gg t=bif sigOk gg then (bif decide (t.length<=4000) then (bif eP gg t then 0 else 5) else 2) else 1:=rfl
 have r3:eP gg t=false->nX gg t=zX:=λ h=>by unfold nX;rw[h];rfl
 rcases b6h (sigOk gg) with hg|hg
 .by_cases hl:t.length<=4000
  .have d1:decide ((4000:Int)<((t.length:Int)))=false:=decide_eq_false (by omega);have s0:=a5G gg t hg;rw[<-a4q] at s0;obtain⟨s1,s2⟩:=s0;have s3:iQ gg (gU t 0 0 false).e=isE gg (gU t 0 0 false).e:=by unfold iQ;rw[hg];rfl
   simp only[r1,r2,hg,d1,b6I hl,s3,b9g,b9d,b6u,b6r,b5U,b5T,b5V,b5O,b6b,b6c,b6m,b6s,b5W,b6t,b5R,ag,aQ];rcases b6h (gU t 0 0 false).bad with h1|h1
   .have k:eP gg t=false:=by rw[<-s1,h1];rfl
    simp only[h1,k,r3 k,b9r,b6u,b6r,b5U,b5T,b5V,b5O,b6b,b6c,b6m,b6s,b5W,b6t,b5R,ag,aQ];repeat' (first|intro _|apply And.intro)
    all_goals first|exact True.intro|omega|with_reducible rfl|with_reducible assumption
   .by_cases h2:(gU t 0 0 false).a=t.length
    .have d2:decide (((gU t 0 0 false).a:Int)=(t.length:Int))=true:=b6I (by omega);rcases b6h (isE gg (gU t 0 0 false).e) with h3|h3
     .have k:eP gg t=true:=by rw[<-s1,h1,b6I h2,h3];rfl
      have k2:=s2 k;simp only[h1,d2,h3,k,b9d,b6u,b6r,b5U,b5T,b5V,b5O,b6b,b6c,b6m,b6s,b5W,b6t,b5R,ag,aQ];repeat' (first|intro _|apply And.intro)
      all_goals first|exact True.intro|omega|with_reducible rfl|with_reducible assumption
     .have k:eP gg t=false:=by rw[<-s1,h3];simp
      simp only[h1,d2,h3,k,r3 k,b9r,b6u,b6r,b5U,b5T,b5V,b5O,b6b,b6c,b6m,b6s,b5W,b6t,b5R,ag,aQ];repeat' (first|intro _|apply And.intro)
      all_goals first|exact True.intro|omega|with_reducible rfl|with_reducible assumption
    .have d2:decide (((gU t 0 0 false).a:Int)=(t.length:Int))=false:=b6f (by omega);have k:eP gg t=false:=by rw[<-s1,b6f h2];simp
     simp only[h1,d2,k,r3 k,b9r,b6u,b6r,b5U,b5T,b5V,b5O,b6b,b6c,b6m,b6s,b5W,b6t,b5R,ag,aQ];repeat' (first|intro _|apply And.intro)
     all_goals first|exact True.intro|omega|with_reducible rfl|with_reducible assumption
  .have d1:decide ((4000:Int)<((t.length:Int)))=true:=b6I (by omega);simp only[r1,r2,hg,d1,b6f hl,b8x,b9d,b9r,b6u,b6r,b5U,b5T,b5V,b5O,b6b,b6c,b6m,b6s,b5W,b6t,b5R,ag,aQ];repeat' (first|intro _|apply And.intro)
   all_goals first|exact True.intro|omega|with_reducible rfl|with_reducible assumption
 .simp only[r1,r2,hg,b8b,b9r,b6u,b6r,b5U,b5T,b5V,b5O,b6b,b6c,b6m,b6s,b5W,b6t,b5R,ag,aQ];repeat' (first|intro _|apply And.intro)
  all_goals first|exact True.intro|omega|with_reducible rfl|with_reducible assumption
def eqL(t:List UInt8):List UInt8:=om t [32,61,32]
def eqR(t:List UInt8):List UInt8:=kd t [32,61,32]
def eqC(t:List UInt8):Bool:=rV t [32,61,32]
def zQ:aE:=aE.mk zE zE
def sO(gg:aD)(t:List UInt8):Bool:=eqC t&&eP gg (eqL t)&&eP gg (eqR t)
def Jn(gg:aD)(t:List UInt8):aE:=bif sO gg t then aE.mk (nX gg (eqL t)) (nX gg (eqR t)) else zQ
def Nj(gg:aD)(t:List UInt8):aE:=bif eqC t then aE.mk (CH gg (eqL t)) (CH gg (eqR t)) else zQ
def a3g(gg:aD)(t:List UInt8)(hg:sigOk gg=true)(h:eP gg t=true):t.length<=1000:=by
 simp only[eP,b5M,b5K] at h;obtain⟨⟨_,h2⟩,h3⟩:=h;have:=Cf gg _ hg h2;have e:=congrArg List.length h3;omega
def WC(gg:aD)(t:List UInt8)(hg:sigOk gg=true):(decide (FY gg t=0)=eP gg t)/\(eP gg t=true->CH gg t=nX gg t):=by
 unfold FY CH;rw[hg];rcases Bool.eq_false_or_eq_true (eP gg t) with h|h
 .have:=a3g gg t hg h;rw[h,b6I (show t.length<=4000 by omega)];exact⟨rfl,λ _=>rfl⟩
 .rw[h];refine⟨?_,λ q=>by cases q⟩;cases decide (t.length<=4000)<;>rfl
def a8C(gg:aD)(t:List UInt8)(hg:sigOk gg=true)(h:sO gg t=true):Nj gg t=Jn gg t:=by
 unfold Nj Jn;rw[h];simp only[sO,Bool.and_eq_true] at h;rw[h.1.1,(WC gg _ hg).2 h.1.2,(WC gg _ hg).2 h.2]
def UE(gg:aD)(t:List UInt8):sO gg t=(rV t [32,61,32]&&eP gg (om t [32,61,32])&&eP gg (kd t [32,61,32])) /\
  (sO gg t=true->Jn gg t=aE.mk (nX gg (om t [32,61,32])) (nX gg (kd t [32,61,32])))/\(sO gg t=false->Jn gg t=aE.mk zE zE):=by
 refine⟨rfl,λ h=>?_,λ h=>?_⟩<;>· unfold Jn;rw[h];rfl
def a0H(gg:aD)(t:List UInt8):(rV t [32,61,32]=true->Au t [32,61,32]=om t [32,61,32]/\Nj gg t=aE.mk (CH gg (om t [32,61,32])) (CH gg (kd t [32,61,32]))) /\
  (rV t [32,61,32]=false->Nj gg t=aE.mk zE zE):=by
 refine⟨λ h=>⟨?_,?_⟩,λ h=>?_⟩
 .unfold Au;rw[h];rfl
 .unfold Nj eqC;rw[h];rfl
 .unfold Nj eqC;rw[h];rfl
def qd:bc:=⟨sF,[.v (.st .sig), .v .str],λ (gg:aD) (t:List UInt8)=>⟨(some (sigOk gg=true/\t.length<=8000),[⟨(.st .equation),Jn gg t⟩,⟨.bool,sO gg t⟩])⟩⟩
def D6(gg:aD)(t:List UInt8):Nat->aI:=cf
abbrev oq(gg:aD)(t:List UInt8):Prop:=(let v0:=kd t ([32,61,32]);(((!(eP gg v0))=true ->
 ((aE.mk zE zE)=(Jn gg t)/\false=(sO gg t)))/\((!(eP gg v0))=false ->
 ((aE.mk (aV (nX gg (om t ([32,61,32])))) (aV (nX gg v0)))=(Jn gg t)/\true=(sO gg t)))))
abbrev ot(gg:aD)(t:List UInt8):Prop:=((true=true ->
 ((aE.mk zE zE)=(Jn gg t)/\false=(sO gg t)))/\(true=false ->
 ((aE.mk (aV (nX gg (om t ([32,61,32])))) (aV (nX gg (kd t ([32,61,32])))))=(Jn gg t)/\true=(sO gg t))))
def zF:bc.iY qd:=by
 refine⟨aG pS,?_⟩;intro (gg:aD) (t:List UInt8) (hp:sigOk gg=true/\t.length<=8000);refine eO [Fe] [yx] [] [] [22,28] [] [] [2] ⟨Ky,af⟩ ⟨FR,af⟩ trivial trivial pS Aj (D6 gg t) (let v0:=[32,61,32];((t.length<=1048576/\((om t v0).length<=140737488355328->((kd t v0).length<=140737488355328->((sigOk gg=true/\(om t v0).length<=8000)/\((sigOk gg=true/\(kd t v0).length<=8000)/\(((!(rV t v0))=false->(((!(eP gg (om t v0)))=false->(oq gg t))/\((!(eP gg (om t v0)))=(!false)->(ot gg t))))/\((!(rV t v0))=(!false)->((true=false->(oq gg t))/\(true=(!false)->(ot gg t)))))))))))) ?_;obtain⟨f2,f3,f4⟩:=UE gg t;have f0:(om t [32,61,32]).length<=t.length/\(kd t [32,61,32]).length<=t.length:=TS t _;refine⟨?_,λ _ _=>⟨?_,?_,λ _=>⟨λ _=>⟨λ _=>⟨?_,?_⟩,λ _=>⟨?_,?_⟩⟩,λ _=>⟨λ _=>⟨?_,?_⟩,λ _=>⟨?_,?_⟩⟩⟩,λ _=>⟨λ _=>⟨λ _=>⟨?_,?_⟩,λ _=>⟨?_,?_⟩⟩,λ _=>⟨λ _=>⟨?_,?_⟩,λ _=>⟨?_,?_⟩⟩⟩⟩⟩;all_goals try and_intros
 all_goals try (first|with_reducible rfl|with_reducible assumption)
 all_goals try simp only[J.eta,aE.eta,aQ,bq] at *
 all_goals first|rfl|trivial|omega|(simp only[b5K,b5L,b6j,b6A,b5T,b5U,aJ,ag,b5S,b6d] at *;first|omega|grind)|grind
def AU:bc:=⟨DC,[.v (.st .sig), .v .str],λ (gg:aD) (t:List UInt8)=>⟨(some (sigOk gg=true/\t.length<=8000),[⟨(.st .equation),Nj gg t⟩,⟨.bool,sO gg t⟩])⟩⟩
def M3(gg:aD)(t:List UInt8):Nat->aI:=cf
def Hg:bc.iY AU:=by
 refine⟨aG Ag,?_⟩;intro (gg:aD) (t:List UInt8) (hp:sigOk gg=true/\t.length<=8000);refine eO [Fc] [pr] [] [] [25,31] [] [] [2] ⟨Kx,af⟩ ⟨sK,af⟩ trivial trivial Ag Iq (M3 gg t) (let v0:=[32,61,32];let v1:=aE.mk (aV (CH gg (Au t v0))) (aV (CH gg (kd t v0)));let v2:=decide ((FY gg (Au t v0))=(0:Int));(((t.length<=1048576/\1<=v0.length/\v0.length<=100)/\((Au t v0).length<=140737488355328->((kd t v0).length<=140737488355328->(((!(rV t v0))=true->((aE.mk zE zE)=(Nj gg t)/\false=(sO gg t)))/\((!(rV t v0))=false->(ag (FY gg (Au t v0))->(ag (FY gg (kd t v0))->((v2=true->(v1=(Nj gg t)/\(decide ((FY gg (kd t v0))=(0:Int)))=(sO gg t)))/\(v2=(!true)->(v1=(Nj gg t)/\false=(sO gg t))))))))))))) ?_;obtain⟨f3,f4⟩:=a0H gg t;have f5:=(UE gg t).1;have f1:=(WC gg (om t [32,61,32]) hp.1).1;have f2:=(WC gg (kd t [32,61,32]) hp.1).1;refine⟨?_,λ _ _=>⟨λ _=>⟨?_,?_⟩,λ _ _ _=>⟨λ _=>⟨?_,?_⟩,λ _=>⟨?_,?_⟩⟩⟩⟩;all_goals try and_intros
 all_goals try (first|with_reducible rfl|with_reducible assumption)
 all_goals try simp only[J.eta,aE.eta,aQ,bq] at *
 all_goals first|rfl|trivial|omega|(simp only[b5K,b5L,b6j,b6A,b5T,b5U,aJ,ag,b5S,b6d] at *;first|omega|grind)|grind
end
end Go.Proofs.YtlpndogmpcolnaaGreatDoor

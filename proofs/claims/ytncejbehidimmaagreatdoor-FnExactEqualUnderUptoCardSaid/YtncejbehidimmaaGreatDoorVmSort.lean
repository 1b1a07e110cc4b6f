/- VmExpr, VmExpr2, VmShaped, VmTruth, VmValid, VmBw, VmShelf, VmWe, VmText, VmSame1, VmSrc, VmGen, VmBld, VmBld2, VmGen2, VmDTidy, VmDMach, VmDSum, VmDStep, VmDInj, VmISumL, VmIBase, VmSort. -/
import Derived.Test.YtncejbehidimmaaGreatDoorVmEq
import Derived.Test.YtncejbehidimmaaGreatDoorProg
import Derived.WalkKit
import Derived.Lib.Builder
import Derived.Lib.AppendStr
import Derived.Lib.UnsafeStr
import Derived.Lib.Walk
import Derived.Lib.Strings
import Derived.Lib.Slices
import Derived.Lib.MakeNoZero
import Derived.Laws.Externs
import Derived.Laws.IdiomCopy
import Derived.BigCall
import Derived.OwnWalk
import Derived.Shelf.Strings.Builder1
import Derived.Shelf.Small.Strs
import Derived.Shelf.Strconv.Itoa0
import Derived.Shelf.Strconv.Itoa1
import Derived.Shelf.LaysM
import Derived.Shelf.Strconv.Itoa2
import Derived.Shelf.Strconv.Itoa3
import Derived.LoopTactic
import Derived.Deep.RegionHeld3
import Derived.Deep.AppendLies
import Derived.Maps.AppendAt
import Derived.Deep.DeepCutAuto
import Derived.Deep.CutBlock
import Derived.Lib.SliceRun
import Derived.Sort.Statements
import Derived.Shelf.SlSortCmp.NoneTotal
set_option linter.all false
set_option maxHeartbeats 4000000
set_option maxRecDepth 4000
namespace Go.Proofs.YtncejbehidimmaaGreatDoor
def a8K:=@Go.Lib.alloc_old
def b0B:=@Go.Oper.upon_value
def a9y:=@Go.RowKit.Below.refl
def a9N:=@Go.Lib.cell_of_heap
def b0L:=@Bool.and_true
def a8L:=@Bool.eq_false_or_eq_true
def a9H:=@List.take_add_one
def b1u:=@Bool.false_and
def b1f:=@Go.bodyPost_ret
def b1N:=@Go.results_none
def b1A:=@Go.info_parts
def b0E:=@Go.World.news_of_block
def a9e:=@Go.heap_setCell_other
def a8N:=@Go.heap_setCell_same
def a9U:=@Go.World.ownsRow_made
def b0K:=@List.append_of_mem
def b0e:=@List.mem_of_mem_drop
def b0s:=@Go.wpList_append_own
def b1B:=@Go.wpList_append_own_at
def b0w:=@Bool.and_eq_false_iff
def a8C:=@beq_eq_false_iff_ne
def b1g:=@UInt8.not_lt
def a9p:=@beq_iff_eq
noncomputable section
mutual
def aj:J->Nat
 | ⟨_,_,ks⟩=>1+jO ks
def jO:List J->Nat
 | []=>0
 | k::ks=>aj k+jO ks
end
def Ke:∀ xs,jO xs=cg aj xs
 | []=>rfl
 | x::xs=>by rw[jO,cg,Ke xs]
def gJ(x:J):aj x=1+cg aj x.O:=by
 cases x;simp[aj,Ke]
mutual
def bK:J->Nat
 | ⟨_,_,ks⟩=>1+sd ks
def sd:List J->Nat
 | []=>0
 | k::ks=>max (bK k) (sd ks)
end
def JW:∀ xs,sd xs=ic bK xs
 | []=>rfl
 | x::xs=>by rw[sd,ic,JW xs]
def Ev(x:J):bK x=1+ic bK x.O:=by
 cases x;simp[bK,JW]
mutual
def Gi:∀ x:J,bK x<=aj x
 | ⟨k,n,ks⟩=>by
  have:=Ds ks;simp only[bK,aj];omega
def Ds:∀ xs:List J,sd xs<=jO xs
 | []=>by simp[sd]
 | x::xs=>by
  have h1:=Gi x;have h2:=Ds xs;simp only[sd,jO];omega
end
def AO(k:Int):Bool:=decide (k=1)||decide (k=2)||decide (k=3)||decide (k=5)||decide (k=6)||decide (k=7)
mutual
def bH:J->Bool
 | ⟨k,_,ks⟩=>AO k&&Lv ks
def Lv:List J->Bool
 | []=>true
 | k::ks=>bH k&&Lv ks
end
def Mm:∀ xs,Lv xs=cE bH xs
 | []=>rfl
 | x::xs=>by rw[Lv,cE,Mm xs]
def rC(x:J):bH x=(AO x.ai&&cE bH x.O):=by
 cases x;simp[bH,Mm]
def cz(k:Int):Int:=if k=1\/k=2\/k=3\/k=4 then 0 else if k=5\/k=8 then 1 else if k=6\/k=7 then 2 else -1
def nh:aW:=⟨BG,[.v (.int .i64), .v (.int .i64), .v (.int .i64)],λ (n:Int) (least:Int) (most:Int)=>⟨(none,[⟨.bool,decide (least<=n/\n<=most)⟩])⟩⟩
def Nh(n:Int)(least:Int)(most:Int):Nat->aL:=cB
def uD:aW.Good nh:=by
 refine⟨aD yV,?_⟩;intro (n:Int) (least:Int) (most:Int) _;refine aV [] [] [] [] trivial yV F3 (Nh n least most) (let v0:=decide (least<=n/\n<=most);((((decide (least<=n))=true->((decide (n<=most))=v0))/\((decide (least<=n))=(!true)->(false=v0))))) ?_;refine⟨λ _=>?_,λ _=>?_⟩;all_goals try and_intros
 all_goals first|rfl|trivial|(simp_all;done)|(simp_all;omega)
def iZ:aW:=⟨DO,[.v (.int .i64), .v (.int .i64), .v (.int .i64)],λ (n:Int) (low:Int) (high:Int)=>⟨(none,[⟨.bool,decide (low<=n/\n<=high)⟩])⟩⟩
def OW(n:Int)(low:Int)(high:Int):Nat->aL:=cB
def oe:aW.Good iZ:=by
 refine⟨aD AF,?_⟩;intro (n:Int) (low:Int) (high:Int) _;refine aV [] [] [] [] trivial AF Ii (OW n low high) (let v0:=decide (low<=n/\n<=high);((((decide (low<=n))=true->((decide (n<=high))=v0))/\((decide (low<=n))=(!true)->(false=v0))))) ?_;refine⟨λ _=>?_,λ _=>?_⟩;all_goals try and_intros
 all_goals first|rfl|trivial|(simp_all;done)|(simp_all;omega)
def th:aW:=⟨BH,[.v (.int .i64), .v (.int .i64)],λ (a:Int) (b:Int)=>⟨(none,[⟨(.int .i64),max a b⟩])⟩⟩
def Nl(a:Int)(b:Int):Nat->aL:=cB
def GK:aW.Good th:=by
 refine⟨aD yW,?_⟩;intro (a:Int) (b:Int) _;refine aV [] [] [] [] trivial yW F7 (Nl a b) ((((decide (b<a))=true->a=(max a b))/\((decide (b<a))=false->b=(max a b)))) ?_;refine⟨λ _=>?_,λ _=>?_⟩;all_goals try and_intros
 all_goals first|rfl|trivial|(simp_all;omega)
def te:aW:=⟨BD,[.v (.int .i64)],λ (k:Int)=>⟨(none,[⟨(.int .i64),cz k⟩])⟩⟩
def Nd(k:Int):Nat->aL:=cB
abbrev xk(k:Int):Prop:=(let v0:=decide (k=(6:Int));((v0=true ->
 ((v0=true ->
 (2:Int)=(cz k))/\(v0=false ->
 (-1:Int)=(cz k))))/\(v0=false ->
 (((decide (k=(7:Int)))=true ->
 (2:Int)=(cz k))/\((decide (k=(7:Int)))=false ->
 (-1:Int)=(cz k))))))
abbrev IN(k:Int):Prop:=(let v0:=decide (k=(5:Int));((v0=true ->
 ((v0=true ->
 (1:Int)=(cz k))/\(v0=false ->
 (xk k))))/\(v0=false ->
 (((decide (k=(8:Int)))=true ->
 (1:Int)=(cz k))/\((decide (k=(8:Int)))=false ->
 (xk k))))))
def GC:aW.Good te:=by
 refine⟨aD yT,?_⟩;intro (k:Int) _;refine aV [] [] [] [] trivial yT F0 (Nd k) (let v0:=decide (k=(1:Int));let v1:=decide (k=(2:Int));let v2:=decide (k=(3:Int));let v3:=IN k;(((v0=true->((v0=true->(0:Int)=(cz k))/\(v0=false->v3)))/\(v0=false->((v1=true->((v1=true->(0:Int)=(cz k))/\(v1=false->v3)))/\(v1=false->((v2=true->((v2=true->(0:Int)=(cz k))/\(v2=false->v3)))/\(v2=false->(((decide (k=(4:Int)))=true->(0:Int)=(cz k))/\((decide (k=(4:Int)))=false->v3)))))))))) ?_;refine⟨λ _=>⟨λ _=>?_,λ _=>⟨λ _=>⟨λ _=>?_,λ _=>⟨λ _=>⟨λ _=>?_,λ _=>?_⟩,λ _=>⟨λ _=>?_,λ _=>?_⟩⟩⟩,λ _=>⟨λ _=>?_,λ _=>⟨λ _=>⟨λ _=>?_,λ _=>?_⟩,λ _=>⟨λ _=>?_,λ _=>?_⟩⟩⟩⟩⟩,λ _=>⟨λ _=>⟨λ _=>?_,λ _=>⟨λ _=>⟨λ _=>?_,λ _=>⟨λ _=>⟨λ _=>?_,λ _=>?_⟩,λ _=>⟨λ _=>?_,λ _=>?_⟩⟩⟩,λ _=>⟨λ _=>?_,λ _=>⟨λ _=>⟨λ _=>?_,λ _=>?_⟩,λ _=>⟨λ _=>?_,λ _=>?_⟩⟩⟩⟩⟩,λ _=>⟨λ _=>⟨λ _=>?_,λ _=>⟨λ _=>⟨λ _=>?_,λ _=>⟨λ _=>⟨λ _=>?_,λ _=>?_⟩,λ _=>⟨λ _=>?_,λ _=>?_⟩⟩⟩,λ _=>⟨λ _=>?_,λ _=>⟨λ _=>⟨λ _=>?_,λ _=>?_⟩,λ _=>⟨λ _=>?_,λ _=>?_⟩⟩⟩⟩⟩,λ _=>⟨λ _=>?_,λ _=>⟨λ _=>⟨λ _=>?_,λ _=>⟨λ _=>⟨λ _=>?_,λ _=>?_⟩,λ _=>⟨λ _=>?_,λ _=>?_⟩⟩⟩,λ _=>⟨λ _=>?_,λ _=>⟨λ _=>⟨λ _=>?_,λ _=>?_⟩,λ _=>⟨λ _=>?_,λ _=>?_⟩⟩⟩⟩⟩⟩⟩⟩;all_goals try and_intros
 all_goals first|rfl|trivial|(simp only[decide_eq_true_eq,decide_eq_false_iff_not] at *;simp[cz, *];done)|(simp only[decide_eq_true_eq,decide_eq_false_iff_not] at *;unfold cz;repeat (first|omega|split))
def qp:aW:=⟨zL,[.v (.int .i64)],λ (k:Int)=>⟨(none,[⟨(.int .i64),cz k⟩])⟩⟩
def KW(k:Int):Nat->aL:=cB
abbrev uS(k:Int):Prop:=(let v0:=decide (k=(6:Int));((v0=true ->
 ((v0=true ->
 (2:Int)=(cz k))/\(v0=false ->
 (-1:Int)=(cz k))))/\(v0=false ->
 (((decide (k=(7:Int)))=true ->
 (2:Int)=(cz k))/\((decide (k=(7:Int)))=false ->
 (-1:Int)=(cz k))))))
abbrev Ha(k:Int):Prop:=(let v0:=decide (k=(5:Int));((v0=true ->
 ((v0=true ->
 (1:Int)=(cz k))/\(v0=false ->
 (uS k))))/\(v0=false ->
 (((decide (k=(8:Int)))=true ->
 (1:Int)=(cz k))/\((decide (k=(8:Int)))=false ->
 (uS k))))))
def EI:aW.Good qp:=by
 refine⟨aD wH,?_⟩;intro (k:Int) _;refine aV [] [] [] [] trivial wH Ef (KW k) (let v0:=decide (k=(1:Int));let v1:=decide (k=(2:Int));let v2:=decide (k=(3:Int));let v3:=Ha k;(((v0=true->((v0=true->(0:Int)=(cz k))/\(v0=false->v3)))/\(v0=false->((v1=true->((v1=true->(0:Int)=(cz k))/\(v1=false->v3)))/\(v1=false->((v2=true->((v2=true->(0:Int)=(cz k))/\(v2=false->v3)))/\(v2=false->(((decide (k=(4:Int)))=true->(0:Int)=(cz k))/\((decide (k=(4:Int)))=false->v3)))))))))) ?_;refine⟨λ _=>⟨λ _=>?_,λ _=>⟨λ _=>⟨λ _=>?_,λ _=>⟨λ _=>⟨λ _=>?_,λ _=>?_⟩,λ _=>⟨λ _=>?_,λ _=>?_⟩⟩⟩,λ _=>⟨λ _=>?_,λ _=>⟨λ _=>⟨λ _=>?_,λ _=>?_⟩,λ _=>⟨λ _=>?_,λ _=>?_⟩⟩⟩⟩⟩,λ _=>⟨λ _=>⟨λ _=>?_,λ _=>⟨λ _=>⟨λ _=>?_,λ _=>⟨λ _=>⟨λ _=>?_,λ _=>?_⟩,λ _=>⟨λ _=>?_,λ _=>?_⟩⟩⟩,λ _=>⟨λ _=>?_,λ _=>⟨λ _=>⟨λ _=>?_,λ _=>?_⟩,λ _=>⟨λ _=>?_,λ _=>?_⟩⟩⟩⟩⟩,λ _=>⟨λ _=>⟨λ _=>?_,λ _=>⟨λ _=>⟨λ _=>?_,λ _=>⟨λ _=>⟨λ _=>?_,λ _=>?_⟩,λ _=>⟨λ _=>?_,λ _=>?_⟩⟩⟩,λ _=>⟨λ _=>?_,λ _=>⟨λ _=>⟨λ _=>?_,λ _=>?_⟩,λ _=>⟨λ _=>?_,λ _=>?_⟩⟩⟩⟩⟩,λ _=>⟨λ _=>?_,λ _=>⟨λ _=>⟨λ _=>?_,λ _=>⟨λ _=>⟨λ _=>?_,λ _=>?_⟩,λ _=>⟨λ _=>?_,λ _=>?_⟩⟩⟩,λ _=>⟨λ _=>?_,λ _=>⟨λ _=>⟨λ _=>?_,λ _=>?_⟩,λ _=>⟨λ _=>?_,λ _=>?_⟩⟩⟩⟩⟩⟩⟩⟩;all_goals try and_intros
 all_goals first|rfl|trivial|(simp only[decide_eq_true_eq,decide_eq_false_iff_not] at *;simp[cz, *];done)|(simp only[decide_eq_true_eq,decide_eq_false_iff_not] at *;unfold cz;repeat (first|omega|split))
def gC(n:Nat):aW:=⟨lh,[.v (.st .expr)],λ (x:J)=>⟨(some (bu x<n),[⟨.bool,bH x⟩])⟩⟩
def gP:aW:=⟨lh,[.v (.st .expr)],λ (x:J)=>⟨(none,[⟨.bool,bH x⟩])⟩⟩
def Dd(x:J):Nat->aL:=(eS 1 (.b (Nat) (λ k=>k<=x.O.length/\cE bH (x.O.take k)=true) (λ k=>x.O.length - k) [0,1,5,6,7,8,9,10,11,12,13,14] (λ k=>[(17, .aQ ⟨(.int .i64),((k:Int):Int)⟩)])) cB)
abbrev Al(n:Nat)(x:J):Prop:=(let v0:=(x.O.length:Int);(x.O.length<=140737488355328 ->
 (au v0 ->
 ((∃ k1:Nat,((k1<=x.O.length/\cE bH (x.O.take k1)=true)/\((x.O=x.O/\(v0=v0/\((0:Int)=(k1:Int)/\True)))/\True)))/\(∀ k1:Nat,let v1:=aP (x.O.getD k1 zE);((k1<=x.O.length/\cE bH (x.O.take k1)=true) ->
 (((decide ((k1:Int)<v0))=true ->
 (aE (k1:Int) x.O.length/\(bu v1<n/\(((!(bH v1))=true ->
 false=(bH x))/\((!(bH v1))=false ->
 (au ((k1:Int)+(1:Int))/\(∃ k2:Nat,((k2<=x.O.length/\cE bH (x.O.take k2)=true)/\(x.O.length - k2<x.O.length - k1/\((x.O=x.O/\(v0=v0/\(((k1:Int)+(1:Int))=(k2:Int)/\True)))/\True))))))))))/\((decide ((k1:Int)<v0))=false ->
 true=(bH x)))))))))
def BS(n:Nat)(hE:bj [gC n]):aW.Good (gC (n+1)):=by
 refine⟨aD gi,?_⟩;intro (x:J) (hp:bu x<n+1);refine aV [gC n] [] [] [1] hE gi ya (Dd x) (let v0:=Al n x;let v1:=decide (x.ai=(1:Int));let v2:=decide (x.ai=(2:Int));let v3:=decide (x.ai=(3:Int));let v4:=decide (x.ai=(5:Int));let v5:=decide (x.ai=(6:Int));let v6:=bH x;((au x.ai->((v1=true->((v1=true->v0)/\(v1=false->false=v6)))/\(v1=false->((v2=true->((v2=true->v0)/\(v2=false->false=v6)))/\(v2=false->((v3=true->((v3=true->v0)/\(v3=false->false=v6)))/\(v3=false->((v4=true->((v4=true->v0)/\(v4=false->false=v6)))/\(v4=false->((v5=true->((v5=true->v0)/\(v5=false->false=v6)))/\(v5=false->(((decide (x.ai=(7:Int)))=true->v0)/\((decide (x.ai=(7:Int)))=false->false=v6))))))))))))))) ?_;have f0:=er x;have f1:=all_zero bH x.O;refine λ _=>⟨λ _=>⟨λ _ _ _=>⟨⟨0,?_,⟨rfl,rfl,?_,af⟩,af⟩,λ k1 _=>have a4J:=dX bH zE x.O k1;have a4K:=eC bH zE x.O k1;have a4L:=ep bH x.O k1;have a6V:=cf zE x.O k1;⟨λ _=>⟨?_,?_,λ _=>?_,λ _=>⟨?_,k1+1,?_,?_,⟨rfl,rfl,?_,af⟩,af⟩⟩,λ _=>?_⟩⟩,λ _=>?_⟩,λ _=>⟨λ _=>⟨λ _ _ _=>⟨⟨0,?_,⟨rfl,rfl,?_,af⟩,af⟩,λ k1 _=>have a6W:=dX bH zE x.O k1;have a6X:=eC bH zE x.O k1;have a6Y:=ep bH x.O k1;have a6Z:=cf zE x.O k1;⟨λ _=>⟨?_,?_,λ _=>?_,λ _=>⟨?_,k1+1,?_,?_,⟨rfl,rfl,?_,af⟩,af⟩⟩,λ _=>?_⟩⟩,λ _=>?_⟩,λ _=>⟨λ _=>⟨λ _ _ _=>⟨⟨0,?_,⟨rfl,rfl,?_,af⟩,af⟩,λ k1 _=>have X8:=dX bH zE x.O k1;have X9:=eC bH zE x.O k1;have Ya:=ep bH x.O k1;have a1Q:=cf zE x.O k1;⟨λ _=>⟨?_,?_,λ _=>?_,λ _=>⟨?_,k1+1,?_,?_,⟨rfl,rfl,?_,af⟩,af⟩⟩,λ _=>?_⟩⟩,λ _=>?_⟩,λ _=>⟨λ _=>⟨λ _ _ _=>⟨⟨0,?_,⟨rfl,rfl,?_,af⟩,af⟩,λ k1 _=>have a7a:=dX bH zE x.O k1;have a7b:=eC bH zE x.O k1;have a7c:=ep bH x.O k1;have a7d:=cf zE x.O k1;⟨λ _=>⟨?_,?_,λ _=>?_,λ _=>⟨?_,k1+1,?_,?_,⟨rfl,rfl,?_,af⟩,af⟩⟩,λ _=>?_⟩⟩,λ _=>?_⟩,λ _=>⟨λ _=>⟨λ _ _ _=>⟨⟨0,?_,⟨rfl,rfl,?_,af⟩,af⟩,λ k1 _=>have a1R:=dX bH zE x.O k1;have a1S:=eC bH zE x.O k1;have a1T:=ep bH x.O k1;have a4S:=cf zE x.O k1;⟨λ _=>⟨?_,?_,λ _=>?_,λ _=>⟨?_,k1+1,?_,?_,⟨rfl,rfl,?_,af⟩,af⟩⟩,λ _=>?_⟩⟩,λ _=>?_⟩,λ _=>⟨λ _ _ _=>⟨⟨0,?_,⟨rfl,rfl,?_,af⟩,af⟩,λ k1 _=>have a1R:=dX bH zE x.O k1;have a1S:=eC bH zE x.O k1;have a1T:=ep bH x.O k1;have a4S:=cf zE x.O k1;⟨λ _=>⟨?_,?_,λ _=>?_,λ _=>⟨?_,k1+1,?_,?_,⟨rfl,rfl,?_,af⟩,af⟩⟩,λ _=>?_⟩⟩,λ _=>?_⟩⟩⟩⟩⟩⟩;all_goals try and_intros
 all_goals try (first|with_reducible rfl|with_reducible assumption)
 all_goals try simp only[J.eta,cu] at *
 all_goals try rw[rC x]
 all_goals first|rfl|trivial|(simp only[a7D,a7C,aE,au] at *;omega)|(simp_all [AO];done)|(simp_all [AO,aE,au];omega)
def Jy :∀ n,bj [gC n]
 | 0=>⟨⟨aD gi,λ _ h=>absurd h (a8a _)⟩,af⟩
 | n+1=>by
  have ih:=Jy  n;exact⟨BS n ⟨ih.1,af⟩,af⟩
def mW :aW.Good gP :=
 ⟨aD gi,λ x hp=>(Jy  (bu x+1)).1.2 x (a7M _)⟩
def fQ(n:Nat):aW:=⟨jN,[.r (.st .expr)],λ (x:J)=>⟨(some (bu x<n),[⟨.bool,bH x⟩])⟩⟩
def gB:aW:=⟨jN,[.r (.st .expr)],λ (x:J)=>⟨(none,[⟨.bool,bH x⟩])⟩⟩
def By(x:J):Nat->aL:=(eS 0 (.b (Nat) (λ k=>k<=x.O.length/\cE bH (x.O.take k)=true) (λ k=>x.O.length - k) [4,5,6,7,8,9,10,11,12,13,14,15,16] (λ k=>[(3, .aQ ⟨(.int .i64),((k:Int):Int)⟩)])) cB)
abbrev nf(n:Nat)(x:J):Prop:=(let v0:=(x.O.length:Int);((∃ k1:Nat,((k1<=x.O.length/\cE bH (x.O.take k1)=true)/\((x=x/\((0:Int)=(k1:Int)/\True))/\True)))/\(∀ k1:Nat,let v1:=x.O.getD k1 zE;((k1<=x.O.length/\cE bH (x.O.take k1)=true) ->
 (x.O.length<=140737488355328 ->
 (au v0 ->
 (((decide ((k1:Int)<v0))=true ->
 (x.O.length<=140737488355328 ->
 (aE (k1:Int) x.O.length/\(bu v1<n/\(((!(bH v1))=true ->
 false=(bH x))/\((!(bH v1))=false ->
 (au ((k1:Int)+(1:Int))/\(∃ k2:Nat,((k2<=x.O.length/\cE bH (x.O.take k2)=true)/\(x.O.length - k2<x.O.length - k1/\((x=x/\(((k1:Int)+(1:Int))=(k2:Int)/\True))/\True)))))))))))/\((decide ((k1:Int)<v0))=false ->
 true=(bH x)))))))))
def Ao(n:Nat)(hE:bj [fQ n,iZ]):aW.Good (fQ (n+1)):=by
 refine⟨aD fP,?_⟩;intro (x:J) (hp:bu x<n+1);refine aV [fQ n,iZ] [] [] [] hE fP wP (By x) (let v0 := !(decide ((1:Int)<=x.ai/\x.ai<=(7:Int)));((au x.ai->(((v0=false)->(au x.ai->(((decide (x.ai=(4:Int)))=true->false=(bH x))/\((decide (x.ai=(4:Int)))=false->(nf n x)))))/\((v0=(!false))->((true=true->false=(bH x))/\(true=false->(nf n x)))))))) ?_;have f0:=er x;have f1:=all_zero bH x.O;refine λ _=>⟨λ _ _=>⟨λ _=>?_,λ _=>⟨⟨0,?_,⟨rfl,?_,af⟩,af⟩,λ k1 _=>have a6R:=dX bH zE x.O k1;have a6S:=eC bH zE x.O k1;have a6T:=ep bH x.O k1;have a6U:=cf zE x.O k1;λ _ _=>⟨λ _ _=>⟨?_,?_,λ _=>?_,λ _=>⟨?_,k1+1,?_,?_,⟨rfl,?_,af⟩,af⟩⟩,λ _=>?_⟩⟩⟩,λ _=>⟨λ _=>?_,λ _=>⟨⟨0,?_,⟨rfl,?_,af⟩,af⟩,λ k1 _=>have a4G:=dX bH zE x.O k1;have a4H:=eC bH zE x.O k1;have a4I:=ep bH x.O k1;have a6Q:=cf zE x.O k1;λ _ _=>⟨λ _ _=>⟨?_,?_,λ _=>?_,λ _=>⟨?_,k1+1,?_,?_,⟨rfl,?_,af⟩,af⟩⟩,λ _=>?_⟩⟩⟩⟩;all_goals try and_intros
 all_goals try rw[rC x]
 all_goals first|rfl|trivial|(simp only[a7D,a7C,aE,au] at *;omega)|(simp_all [AO];done)|(simp_all [AO,aE,au];omega)
def Jz :∀ n,bj [fQ n]
 | 0=>⟨⟨aD fP,λ _ h=>absurd h (a8a _)⟩,af⟩
 | n+1=>by
  have ih:=Jz  n;exact⟨Ao n ⟨ih.1,oe,af⟩,af⟩
def mA :aW.Good gB :=
 ⟨aD fP,λ x hp=>(Jz  (bu x+1)).1.2 x (a7M _)⟩
def og(t a:Int)(x:J):Bool:=decide (cz x.ai=(x.O.length:Int)) &&
 (if x.ai=3 then decide (0<=x.aZ/\x.aZ<=t) else if x.ai=4 then decide (0<=x.aZ/\x.aZ<=a) else decide (x.aZ=0)) &&
 (!decide (x.ai=5)||bH (x.O.getD 0 ⟨0,0,[]⟩))
mutual
def bS(t a:Int):J->Bool
 | ⟨k,n,ks⟩=>og t a ⟨k,n,ks⟩&&rB t a ks
def rB(t a:Int):List J->Bool
 | []=>true
 | k::ks=>bS t a k&&rB t a ks
end
def Oo(t a:Int):∀ xs,rB t a xs=cE (bS t a) xs
 | []=>rfl
 | x::xs=>by rw[rB,cE,Oo t a xs]
def jd(t a:Int)(x:J):bS t a x=(og t a x&&cE (bS t a) x.O):=by
 cases x;simp[bS,Oo]
def aY(n:Int):Int:=IntKind.wrap .i64 (n - 1)
def NR(n:Int)(h : -9223372036854775807<=n/\n<=9223372036854775807):aY n=n - 1:=by
 simp[aY,IntKind.wrap,IntKind.signed,IntKind.bits];omega
def kx(n:Nat):aW:=⟨qC,[.r (.st .expr), .v (.int .i64)],λ (x:J) (left:Int)=>⟨(some (bu x<n/\0<=left/\left<=1048576),[⟨(.int .i64),lD (aj x) left⟩])⟩⟩
def zw:aW:=⟨qC,[.r (.st .expr), .v (.int .i64)],λ (x:J) (left:Int)=>⟨(some (0<=left/\left<=1048576),[⟨(.int .i64),lD (aj x) left⟩])⟩⟩
def KX(x:J)(left:Int):Nat->aL:=(eS 0 (.b (Nat) (λ k=>k<=x.O.length) (λ k=>x.O.length - k) [4,6,7] (λ k=>[(5, .aQ ⟨(.int .i64),((k:Int):Int)⟩),(1, .aQ ⟨(.int .i64),(lD (1+cg aj (x.O.take k)) left:Int)⟩)])) cB)
abbrev uT(n:Nat)(x:J)(left:Int)(k1:Nat):Prop:=(let v0:=lD (1+cg aj (x.O.take k1)) left;let v1:=lD (aj (x.O.getD k1 zE)) v0;(x.O.length<=140737488355328 ->
 (aE (k1:Int) x.O.length/\((bu (x.O.getD k1 zE)<n/\0<=v0/\v0<=1048576)/\(au v1 ->
 (au ((k1:Int)+(1:Int))/\(∃ k2:Nat,(k2<=x.O.length/\(x.O.length - k2<x.O.length - k1/\((x=x/\(v1=(lD (1+cg aj (x.O.take k2)) left)/\(((k1:Int)+(1:Int))=(k2:Int)/\True)))/\True))))))))))
def Jg(n:Nat)(hE:bj [kx n]):aW.Good (kx (n+1)):=by
 refine⟨aD j0,?_⟩;intro (x:J) (left:Int) (hp:bu x<n+1/\0<=left/\left<=1048576);refine aV [kx n] [] [] [] hE j0 Eg (KX x left) (let v0:=(x.O.length:Int);((au (left - (1:Int))/\((∃ k1:Nat,(k1<=x.O.length/\((x=x/\((left - (1:Int))=(lD (1+cg aj (x.O.take k1)) left)/\((0:Int)=(k1:Int)/\True)))/\True)))/\(∀ k1:Nat,let v1:=lD (1+cg aj (x.O.take k1)) left;(k1<=x.O.length->(x.O.length<=140737488355328->(au v0->(((decide ((k1:Int)<v0))=true->(((decide ((0:Int)<=v1))=true->(uT n x left k1))/\((decide ((0:Int)<=v1))=false->v1=(lD (aj x) left))))/\((decide ((k1:Int)<v0))=(!true)->((false=true->(uT n x left k1))/\(false=false->v1=(lD (aj x) left))))))))))))) ?_;have f0:=er x;have f1:=xO aj x.O;have f2:=kM (1+cg aj (x.O.take 0)) left;refine⟨?_,⟨0,?_,⟨rfl,?_,?_,af⟩,af⟩,λ k1 _=>have a1L:=kL aj zE x.O k1;have a1M:=dH aj x.O k1;have a1N:=dH aj x.O (k1+1);have a1O:=pw aj x.O k1;have a1P:=cf zE x.O k1;have a4x:=kM (1+cg aj (x.O.take k1)) left;have a6K:=kM (1+cg aj (x.O.take (k1+1))) left;have a6L:=kM (aj (x.O.getD k1 zE)) (lD (1+cg aj (x.O.take k1)) left);have a6M:=kM (1+cg aj x.O) left;λ _ _=>⟨λ _=>⟨λ _ _=>⟨?_,?_,λ _=>⟨?_,k1+1,?_,?_,⟨rfl,?_,?_,af⟩,af⟩⟩,λ _=>?_⟩,λ _=>⟨λ _ _=>⟨?_,?_,λ _=>⟨?_,k1+1,?_,?_,⟨rfl,?_,?_,af⟩,af⟩⟩,λ _=>?_⟩⟩⟩;all_goals try and_intros
 all_goals try rw[gJ x]
 all_goals first|rfl|trivial|omega|(simp only[a7D,a7C,aE,au,cI,iE,cN,bB] at *;omega)|(simp[aE,au] at *;omega)|grind
def JA :∀ n,bj [kx n]
 | 0=>⟨⟨aD j0,λ _ _ h=>absurd h.1 (a8a _)⟩,af⟩
 | n+1=>by
  have ih:=JA  n;exact⟨Jg n ⟨ih.1,af⟩,af⟩
def EJ :aW.Good zw :=
 ⟨aD j0,λ x left hp=>(JA  (bu x+1)).1.2 x left (⟨a7M _,hp⟩)⟩
def jq(n:Nat):aW:=⟨oz,[.r (.st .expr)],λ (x:J)=>⟨(some (bu x<n/\bK x<=1048576),[⟨(.int .i64),(bK x:Int)⟩])⟩⟩
def xu:aW:=⟨oz,[.r (.st .expr)],λ (x:J)=>⟨(some (bK x<=1048576),[⟨(.int .i64),(bK x:Int)⟩])⟩⟩
def I3(x:J):Nat->aL:=(eS 0 (.b (Nat) (λ k=>k<=x.O.length) (λ k=>x.O.length - k) [2] (λ k=>[(4, .aQ ⟨(.int .i64),((k:Int):Int)⟩),(3, .aQ ⟨(.int .i64),((ic bK (x.O.take k):Int):Int)⟩)])) cB)
def Hs(n:Nat)(hE:bj [jq n,th]):aW.Good (jq (n+1)):=by
 refine⟨aD jl,?_⟩;intro (x:J) (hp:bu x<n+1/\bK x<=1048576);refine aV [jq n,th] [] [] [] hE jl CW (I3 x) (let v0:=(x.O.length:Int);(((∃ k1:Nat,(k1<=x.O.length/\((x=x/\((0:Int)=(ic bK (x.O.take k1):Int)/\((0:Int)=(k1:Int)/\True)))/\True)))/\(∀ k1:Nat,let v1:=(ic bK (x.O.take k1):Int);let v3:=x.O.getD k1 zE;let v2:=(bK v3:Int);(k1<=x.O.length->(x.O.length<=140737488355328->(au v0->(((decide ((k1:Int)<v0))=true->(x.O.length<=140737488355328->(aE (k1:Int) x.O.length/\((bu v3<n/\bK v3<=1048576)/\(au v2->(au (max v1 v2)->(au ((k1:Int)+(1:Int))/\(∃ k2:Nat,(k2<=x.O.length/\(x.O.length - k2<x.O.length - k1/\((x=x/\((max v1 v2)=(ic bK (x.O.take k2):Int)/\(((k1:Int)+(1:Int))=(k2:Int)/\True)))/\True)))))))))))/\((decide ((k1:Int)<v0))=false->(au (v1+(1:Int))/\(v1+(1:Int))=(bK x:Int))))))))))) ?_;rw[Ev x] at hp;have f0:=er x;have f1:=NA bK x.O;refine⟨⟨0,?_,⟨rfl,?_,?_,af⟩,af⟩,λ k1 _=>have a1L:=ot bK zE x.O k1;have a1M:=gI bK x.O k1;have a1N:=gI bK x.O (k1+1);have a1O:=xx bK x.O k1;have a1P:=cf zE x.O k1;have a4x:=Nz bK zE x.O k1;λ _ _=>⟨λ _ _=>⟨?_,?_,λ _ _=>⟨?_,k1+1,?_,?_,⟨rfl,?_,?_,af⟩,af⟩⟩,λ _=>⟨?_,?_⟩⟩⟩;all_goals try and_intros
 all_goals try rw[Ev x]
 all_goals first|rfl|trivial|omega|(simp only[a7D,a7C,aE,au,cI,iE,cN,bB] at *;omega)|(simp[aE,au] at *;omega)|grind
def FR :∀ n,bj [jq n]
 | 0=>⟨⟨aD jl,λ _ h=>absurd h.1 (a8a _)⟩,af⟩
 | n+1=>by
  have ih:=FR  n;exact⟨Hs n ⟨ih.1,GK,af⟩,af⟩
def C8 :aW.Good xu :=
 ⟨aD jl,λ x hp=>(FR  (bu x+1)).1.2 x (⟨a7M _,hp⟩)⟩
def kB(n:Nat):aW:=⟨qE,[.v (.st .sig), .r (.st .expr)],λ (gg:aG) (x:J)=>⟨(some (bu x<n),[⟨.bool,bS (aY gg.aS) (aY gg.av) x⟩])⟩⟩
def zy:aW:=⟨qE,[.v (.st .sig), .r (.st .expr)],λ (gg:aG) (x:J)=>⟨(none,[⟨.bool,bS (aY gg.aS) (aY gg.av) x⟩])⟩⟩
def K1(gg:aG)(x:J):Nat->aL:=(eS 1 (.b (Nat) (λ k=>k<=x.O.length/\cE (bS (aY gg.aS) (aY gg.av)) (x.O.take k)=true) (λ k=>x.O.length - k) [0,6,7,8,9,10,11,12,13,14,15,16,17,18,19,20,21,22,31,32,41,42,43,44,45,46,47,48,49,50,51,52,53,54,55,56,57,58,59,60,61] (λ k=>[(5, .aQ ⟨(.int .i64),((k:Int):Int)⟩)])) cB)
abbrev Hb(n:Nat)(gg:aG)(x:J):Prop:=(let v0:=aY gg.av;let v1:=aY gg.aS;let v2:=(x.O.length:Int);((∃ k1:Nat,((k1<=x.O.length/\cE (bS v1 v0) (x.O.take k1)=true)/\((x=x/\(gg=gg/\((0:Int)=(k1:Int)/\True)))/\True)))/\(∀ k1:Nat,let v3 := !(bS v1 v0 (x.O.getD k1 zE));((k1<=x.O.length/\cE (bS v1 v0) (x.O.take k1)=true) ->
 (x.O.length<=140737488355328 ->
 (au v2 ->
 (((decide ((k1:Int)<v2))=true ->
 (aE (k1:Int) x.O.length/\(x.O.length<=140737488355328 ->
 (bu (x.O.getD k1 zE)<n/\((v3=true ->
 false=(bS v1 v0 x))/\(v3=false ->
 (au ((k1:Int)+(1:Int))/\(∃ k2:Nat,((k2<=x.O.length/\cE (bS v1 v0) (x.O.take k2)=true)/\(x.O.length - k2<x.O.length - k1/\((x=x/\(gg=gg/\(((k1:Int)+(1:Int))=(k2:Int)/\True)))/\True)))))))))))/\((decide ((k1:Int)<v2))=false ->
 true=(bS v1 v0 x)))))))))
def Jk(n:Nat)(hE:bj [kB n,qp,iZ,gB]):aW.Good (kB (n+1)):=by
 refine⟨aD kd,?_⟩;intro (gg:aG) (x:J) (hp:bu x<n+1);refine aV [kB n,qp,iZ,gB] [29,39] [] [2] hE kd Ek (K1 gg x) (let v0:=bS (aY gg.aS) (aY gg.av) x;let v1 := !(decide (((x.O.length:Int))=(cz x.ai)));let v2:=Hb n gg x;let v3 := !(decide (x.aZ=(0:Int)));((x.O.length<=140737488355328->(au ((x.O.length:Int))->(au x.ai->(au (cz x.ai)->((v1=true->false=v0)/\(v1=false->(au x.ai->(((decide (x.ai=(3:Int)))=true->(au x.aZ->(au gg.aS->((decide ((0:Int)<=x.aZ/\x.aZ<=(IntKind.wrap .i64 (gg.aS - (1:Int)))))=v0))))/\((decide (x.ai=(3:Int)))=false->(((decide (x.ai=(4:Int)))=true->(au x.aZ->(au gg.av->((decide ((0:Int)<=x.aZ/\x.aZ<=(IntKind.wrap .i64 (gg.av - (1:Int)))))=v0))))/\((decide (x.ai=(4:Int)))=false->(au x.aZ->((v3=false->(au x.ai->(((decide (x.ai=(5:Int)))=true->(x.O.length<=140737488355328->(aE (0:Int) x.O.length/\(((!(bH (x.O.getD 0 zE)))=true->false=v0)/\((!(bH (x.O.getD 0 zE)))=false->v2)))))/\((decide (x.ai=(5:Int)))=(!true)->((false=true->false=v0)/\(false=false->v2))))))/\(v3=(!false)->((true=true->false=v0)/\(true=false->v2)))))))))))))))))) ?_;have f0:=er x;have f1:=all_zero (bS (aY gg.aS) (aY gg.av)) x.O;refine λ _ _ _ _=>⟨λ _=>?_,λ _ _=>⟨λ _ _ _=>?_,λ _=>⟨λ _ _ _=>?_,λ _ _=>⟨λ _ _=>⟨λ _ _=>⟨?_,λ _=>?_,λ _=>⟨⟨0,?_,⟨rfl,rfl,?_,af⟩,af⟩,λ k1 _=>have a6y:=dX (bS (aY gg.aS) (aY gg.av)) zE x.O k1;have a6z:=eC (bS (aY gg.aS) (aY gg.av)) zE x.O k1;have a6A:=ep (bS (aY gg.aS) (aY gg.av)) x.O k1;have a6B:=cf zE x.O k1;λ _ _=>⟨λ _=>⟨?_,λ _=>⟨?_,λ _=>?_,λ _=>⟨?_,k1+1,?_,?_,⟨rfl,rfl,?_,af⟩,af⟩⟩⟩,λ _=>?_⟩⟩⟩,λ _=>⟨λ _=>?_,λ _=>⟨⟨0,?_,⟨rfl,rfl,?_,af⟩,af⟩,λ k1 _=>have a6u:=dX (bS (aY gg.aS) (aY gg.av)) zE x.O k1;have a6v:=eC (bS (aY gg.aS) (aY gg.av)) zE x.O k1;have a6w:=ep (bS (aY gg.aS) (aY gg.av)) x.O k1;have a6x:=cf zE x.O k1;λ _ _=>⟨λ _=>⟨?_,λ _=>⟨?_,λ _=>?_,λ _=>⟨?_,k1+1,?_,?_,⟨rfl,rfl,?_,af⟩,af⟩⟩⟩,λ _=>?_⟩⟩⟩⟩,λ _=>⟨λ _=>?_,λ _=>⟨⟨0,?_,⟨rfl,rfl,?_,af⟩,af⟩,λ k1 _=>have TY:=dX (bS (aY gg.aS) (aY gg.av)) zE x.O k1;have TZ:=eC (bS (aY gg.aS) (aY gg.av)) zE x.O k1;have T1:=ep (bS (aY gg.aS) (aY gg.av)) x.O k1;have X7:=cf zE x.O k1;λ _ _=>⟨λ _=>⟨?_,λ _=>⟨?_,λ _=>?_,λ _=>⟨?_,k1+1,?_,?_,⟨rfl,rfl,?_,af⟩,af⟩⟩⟩,λ _=>?_⟩⟩⟩⟩⟩⟩⟩;all_goals try and_intros
 all_goals try rw[jd _ _ x]
 all_goals first|rfl|trivial|(simp only[decide_eq_true_eq,decide_eq_false_iff_not,aE,au] at *;omega)|(simp_all [og,aY];done)|(simp_all [og,aY,aE,au];omega)|grind [og,aY,cz,aE,au]
def JE :∀ n,bj [kB n]
 | 0=>⟨⟨aD kd,λ _ _ h=>absurd h (a8a _)⟩,af⟩
 | n+1=>by
  have ih:=JE  n;exact⟨Jk n ⟨ih.1,EI,oe,mA,af⟩,af⟩
def EM :aW.Good zy :=
 ⟨aD kd,λ gg x hp=>(JE  (bu x+1)).1.2 gg x (a7M _)⟩
def ca(gg:aG):Bool:=decide (0<=gg.aS/\gg.aS<=3)&&decide (0<=gg.av/\gg.av<=4)
def Fv(gg:aG)(x:J)(bC depth:Int):Bool:=bS (aY gg.aS) (aY gg.av) x&&decide ((aj x:Int)<=bC)&&decide ((bK x:Int)<=depth)
def Lm(gg:aG)(x:J)(bC depth:Int):Int:=bif Fv gg x bC depth then bC - aj x else 0
def xo:aW:=⟨xA,[.v (.st .sig)],λ (gg:aG)=>⟨(none,[⟨.bool,ca gg⟩])⟩⟩
def IX(gg:aG):Nat->aL:=cB
def C2:aW.Good xo:=by
 refine⟨aD ur,?_⟩;intro (gg:aG) _;refine aV [nh] [] [] [1] ⟨uD,af⟩ ur CN (IX gg) (let v0:=decide ((0:Int)<=gg.aS/\gg.aS<=(3:Int));((au gg.aS->(((v0=true)->(au gg.av->((decide ((0:Int)<=gg.av/\gg.av<=(4:Int)))=(ca gg))))/\((v0=(!true))->false=(ca gg)))))) ?_;refine λ _=>⟨λ _ _=>?_,λ _=>?_⟩;all_goals try and_intros
 all_goals first|rfl|trivial|(simp_all [ca];done)|(simp_all [ca];omega)
def ti:aW:=⟨BJ,[.v (.st .sig)],λ (gg:aG)=>⟨(none,[⟨.bool,ca gg⟩])⟩⟩
def Nn(gg:aG):Nat->aL:=cB
def uE:aW.Good ti:=by
 refine⟨aD yX,?_⟩;intro (gg:aG) _;refine aV [iZ] [] [] [1] ⟨oe,af⟩ yX F9 (Nn gg) (let v0:=decide ((0:Int)<=gg.aS/\gg.aS<=(3:Int));((au gg.aS->(((v0=true)->(au gg.av->((decide ((0:Int)<=gg.av/\gg.av<=(4:Int)))=(ca gg))))/\((v0=(!true))->false=(ca gg)))))) ?_;refine λ _=>⟨λ _ _=>?_,λ _=>?_⟩;all_goals try and_intros
 all_goals first|rfl|trivial|(simp_all [ca];done)|(simp_all [ca];omega)
def yH(t a:Int)(x:J):Bool:=if x.ai=3 then decide (0<=x.aZ/\x.aZ<=t) else if x.ai=4 then decide (0<=x.aZ/\x.aZ<=a) else decide (x.aZ=0)
def mB(t a:Int)(x:J):og t a x=(decide (cz x.ai=(x.O.length:Int))&&yH t a x&&(!decide (x.ai=5)||bH (x.O.getD 0 ⟨0,0,[]⟩))):=rfl
def tM(gg:aG)(x:J)(bC depth:Int) :
  (bS (aY gg.aS) (aY gg.av) x=true/\(aj x:Int)<=bC/\(bK x:Int)<=depth/\Fv gg x bC depth=true/\Lm gg x bC depth=bC - aj x) \/
  ((bS (aY gg.aS) (aY gg.av) x=false\/bC<(aj x:Int)\/depth<(bK x:Int))/\Fv gg x bC depth=false/\Lm gg x bC depth=0):=by
 unfold Lm Fv;cases bS (aY gg.aS) (aY gg.av) x
 .right;simp
 .rcases Int.lt_or_le bC (aj x) with h|h
  .right;simp[h,Int.not_le.2 h]
  .rcases Int.lt_or_le depth (bK x) with h'|h'
   .right;simp[h',Int.not_le.2 h']
   .left;simp[h,h']
def lO(n:Nat):aW:=⟨tz,[.v (.st .sig), .v (.st .expr), .v (.int .i64), .v (.int .i64)],λ (gg:aG) (x:J) (bC:Int) (depth:Int)=>⟨(some (bu x<n/\0<=bC/\bC<=1048576/\0<=depth/\depth<=1048576),[⟨(.int .i64),Lm gg x bC depth⟩,⟨.bool,Fv gg x bC depth⟩])⟩⟩
def Br:aW:=⟨tz,[.v (.st .sig), .v (.st .expr), .v (.int .i64), .v (.int .i64)],λ (gg:aG) (x:J) (bC:Int) (depth:Int)=>⟨(some (0<=bC/\bC<=1048576/\0<=depth/\depth<=1048576),[⟨(.int .i64),Lm gg x bC depth⟩,⟨.bool,Fv gg x bC depth⟩])⟩⟩
def Ng(gg:aG)(x:J)(bC:Int)(depth:Int):Nat->aL:=(eS 100012 (.u (cz x.ai=(x.O.length:Int)/\1<=bC/\1<=depth/\yH (aY gg.aS) (aY gg.av) x=true) [0,1,14,15,16,17,18,19,20,21,22,23,24,25,26,27,28] [] [] [] (eS 100014 (.u (og (aY gg.aS) (aY gg.av) x=true/\1<=bC/\1<=depth) [] [] [] [] (eS 1 (.b (Nat) (λ k=>k<=x.O.length/\cE (bS (aY gg.aS) (aY gg.av)) (x.O.take k)=true/\1+(cg aj (x.O.take k):Int)<=bC/\1+(ic bK (x.O.take k):Int)<=depth) (λ k=>x.O.length - k) [5,63,64,65] (λ k=>[(68, .aQ ⟨(.int .i64),((k:Int):Int)⟩),(2, .aQ ⟨(.int .i64),(bC - (1+(cg aj (x.O.take k):Int)):Int)⟩)])) cB)) cB)) cB)
abbrev IP(gg:aG)(x:J)(bC:Int)(depth:Int):Prop:=(∃ u1:Unit,((cz x.ai=(x.O.length:Int)/\1<=bC/\1<=depth/\yH (aY gg.aS) (aY gg.av) x=true)/\((bC=bC/\(depth=depth/\(gg=gg/\(x=x/\True))))/\True)))
abbrev IQ(gg:aG)(x:J)(bC:Int)(depth:Int):Prop:=(∃ u2:Unit,((og (aY gg.aS) (aY gg.av) x=true/\1<=bC/\1<=depth)/\((bC=bC/\(depth=depth/\(gg=gg/\(x=x/\True))))/\True)))
abbrev xl(n:Nat)(gg:aG)(x:J)(bC:Int)(depth:Int):Prop:=(let v1:=(x.O.length:Int);let v6:=IP gg x bC depth;let v7:=(0:Int);let v0:=v7=(Lm gg x bC depth)/\false=(Fv gg x bC depth);let v8:=(1:Int);let v2:=depth - v8;let v3 := !(decide (v7<=x.aZ/\x.aZ<=(IntKind.wrap .i64 (gg.av - v8))));let v4 := !(decide (v7<=x.aZ/\x.aZ<=(IntKind.wrap .i64 (gg.aS - v8))));let v9:=aY gg.av;let va:=IQ gg x bC depth;let vb:=aY gg.aS;let v5:=bS vb v9;((au x.ai ->
 (((decide (x.ai=(3:Int)))=true ->
 (au x.aZ ->
 (au gg.aS ->
 (((v4=true) ->
 v0)/\((v4=false) ->
 v6)))))/\((decide (x.ai=(3:Int)))=false ->
 (((decide (x.ai=(4:Int)))=true ->
 (au x.aZ ->
 (au gg.av ->
 (((v3=true) ->
 v0)/\((v3=false) ->
 v6)))))/\((decide (x.ai=(4:Int)))=false ->
 (au x.aZ ->
 (((!(decide (x.aZ=v7)))=true ->
 v0)/\((!(decide (x.aZ=v7)))=false ->
 v6))))))))/\(∀ u1:Unit,((cz x.ai=v1/\1<=bC/\1<=depth/\yH vb v9 x=true) ->
 ((au x.ai ->
 (((decide (x.ai=(5:Int)))=true ->
 (x.O.length<=140737488355328 ->
 (aE v7 x.O.length/\(((!(bH (x.O.getD 0 zE)))=true ->
 v0)/\((!(bH (x.O.getD 0 zE)))=false ->
 va)))))/\((decide (x.ai=(5:Int)))=(!true) ->
 ((false=true ->
 v0)/\(false=false ->
 va)))))/\(∀ u2:Unit,((og vb v9 x=true/\1<=bC/\1<=depth) ->
 (au (bC - v8)/\(x.O.length<=140737488355328 ->
 (au (v1) ->
 ((∃ k3:Nat,let vc:=x.O.take k3;((k3<=x.O.length/\cE v5 vc=true/\1+(cg aj vc:Int)<=bC/\1+(ic bK vc:Int)<=depth)/\(((bC - v8)=(bC - (1+(cg aj vc:Int)))/\(depth=depth/\(gg=gg/\(x.O=x.O/\((v1)=(v1)/\(v7=(k3:Int)/\True))))))/\True)))/\(∀ k3:Nat,let vd:=aP (x.O.getD k3 zE);let ve:=x.O.take k3;let vc:=bC - (1+(cg aj ve:Int));((k3<=x.O.length/\cE v5 ve=true/\1+(cg aj ve:Int)<=bC/\1+(ic bK ve:Int)<=depth) ->
 (((decide ((k3:Int)<(v1)))=true ->
 (aE (k3:Int) x.O.length/\(au v2/\((bu vd<n/\0<=vc/\vc<=1048576/\0<=v2/\v2<=1048576)/\(au (Lm gg vd vc v2) ->
 (((!(Fv gg vd vc v2))=true ->
 v0)/\((!(Fv gg vd vc v2))=false ->
 (au ((k3:Int)+v8)/\(∃ k4:Nat,let vf:=x.O.take k4;((k4<=x.O.length/\cE v5 vf=true/\1+(cg aj vf:Int)<=bC/\1+(ic bK vf:Int)<=depth)/\(x.O.length - k4<x.O.length - k3/\(((Lm gg vd vc v2)=(bC - (1+(cg aj vf:Int)))/\(depth=depth/\(gg=gg/\(x.O=x.O/\((v1)=(v1)/\(((k3:Int)+v8)=(k4:Int)/\True))))))/\True))))))))))))/\((decide ((k3:Int)<(v1)))=false ->
 (vc=(Lm gg x bC depth)/\true=(Fv gg x bC depth)))))))))))))))))
abbrev IS(n:Nat)(gg:aG)(x:J)(bC:Int)(depth:Int):Prop:=(let v0 := !(decide ((cz x.ai)=((x.O.length:Int))));(au x.ai ->
 (au (cz x.ai) ->
 (x.O.length<=140737488355328 ->
 (au ((x.O.length:Int)) ->
 ((v0=true ->
 ((0:Int)=(Lm gg x bC depth)/\false=(Fv gg x bC depth)))/\(v0=false ->
 (xl n gg x bC depth))))))))
abbrev IT(n:Nat)(gg:aG)(x:J)(bC:Int)(depth:Int):Prop:=((true=true ->
 ((0:Int)=(Lm gg x bC depth)/\false=(Fv gg x bC depth)))/\(true=false ->
 (xl n gg x bC depth)))
def Lg(n:Nat)(hE:bj [lO n,te,nh,gP]):aW.Good (lO (n+1)):=by
 refine⟨aD lG,?_⟩;intro (gg:aG) (x:J) (bC:Int) (depth:Int) (hp:bu x<n+1/\0<=bC/\bC<=1048576/\0<=depth/\depth<=1048576);refine aV [lO n,te,nh,gP] [40,49] [] [4,5] hE lG F2 (Ng gg x bC depth) (let v0:=IS n gg x bC depth;let v1:=IT n gg x bC depth;((((decide (bC=(0:Int)))=false->(((decide (depth=(0:Int)))=false->v0)/\((decide (depth=(0:Int)))=(!false)->v1)))/\((decide (bC=(0:Int)))=(!false)->((true=false->v0)/\(true=(!false)->v1)))))) ?_;have fs:=tM gg x bC depth;rw[jd _ _ x,gJ x,Ev x] at fs;have f0:=er x;have f1:=xO aj x.O;have f2:=NA bK x.O;have f3:=all_zero (bS (aY gg.aS) (aY gg.av)) x.O;refine⟨λ _=>⟨λ _ _ _ _ _=>⟨λ _=>⟨?_,?_⟩,λ _=>⟨λ _=>⟨λ _ _ _=>⟨λ _=>⟨?_,?_⟩,λ _=>⟨(),?_,⟨rfl,rfl,rfl,rfl,af⟩,af⟩⟩,λ _=>⟨λ _ _ _=>⟨λ _=>⟨?_,?_⟩,λ _=>⟨(),?_,⟨rfl,rfl,rfl,rfl,af⟩,af⟩⟩,λ _ _=>⟨λ _=>⟨?_,?_⟩,λ _=>⟨(),?_,⟨rfl,rfl,rfl,rfl,af⟩,af⟩⟩⟩⟩,λ u1 _=>⟨λ _=>⟨λ _ _=>⟨?_,λ _=>⟨?_,?_⟩,λ _=>⟨(),?_,⟨rfl,rfl,rfl,rfl,af⟩,af⟩⟩,λ _=>⟨λ _=>⟨?_,?_⟩,λ _=>⟨(),?_,⟨rfl,rfl,rfl,rfl,af⟩,af⟩⟩⟩,λ u2 _=>⟨?_,λ _ _=>⟨⟨0,?_,⟨?_,rfl,rfl,rfl,rfl,?_,af⟩,af⟩,λ k3 _=>have TY:=dX (bS (aY gg.aS) (aY gg.av)) zE x.O k3;have TZ:=eC (bS (aY gg.aS) (aY gg.av)) zE x.O k3;have T1:=ep (bS (aY gg.aS) (aY gg.av)) x.O k3;have X7:=cf zE x.O k3;have a3g:=kL aj zE x.O k3;have a3h:=dH aj x.O (k3+1);have a3i:=pw aj x.O k3;have a3j:=ot bK zE x.O k3;have a3k:=gI bK x.O (k3+1);have a3l:=xx bK x.O k3;have a0P:=tM gg (x.O.getD k3 zE) (bC - (1+(cg aj (x.O.take k3):Int))) (depth - 1);⟨λ _=>⟨?_,?_,?_,λ _=>⟨λ _=>⟨?_,?_⟩,λ _=>⟨?_,k3+1,?_,?_,⟨?_,rfl,rfl,rfl,rfl,?_,af⟩,af⟩⟩⟩,λ _=>⟨?_,?_⟩⟩⟩⟩⟩⟩⟩,λ _=>⟨λ _=>⟨?_,?_⟩,λ _=>⟨λ _=>⟨λ _ _ _=>⟨λ _=>⟨?_,?_⟩,λ _=>⟨(),?_,⟨rfl,rfl,rfl,rfl,af⟩,af⟩⟩,λ _=>⟨λ _ _ _=>⟨λ _=>⟨?_,?_⟩,λ _=>⟨(),?_,⟨rfl,rfl,rfl,rfl,af⟩,af⟩⟩,λ _ _=>⟨λ _=>⟨?_,?_⟩,λ _=>⟨(),?_,⟨rfl,rfl,rfl,rfl,af⟩,af⟩⟩⟩⟩,λ u1 _=>⟨λ _=>⟨λ _ _=>⟨?_,λ _=>⟨?_,?_⟩,λ _=>⟨(),?_,⟨rfl,rfl,rfl,rfl,af⟩,af⟩⟩,λ _=>⟨λ _=>⟨?_,?_⟩,λ _=>⟨(),?_,⟨rfl,rfl,rfl,rfl,af⟩,af⟩⟩⟩,λ u2 _=>⟨?_,λ _ _=>⟨⟨0,?_,⟨?_,rfl,rfl,rfl,rfl,?_,af⟩,af⟩,λ k3 _=>have X8:=dX (bS (aY gg.aS) (aY gg.av)) zE x.O k3;have X9:=eC (bS (aY gg.aS) (aY gg.av)) zE x.O k3;have Ya:=ep (bS (aY gg.aS) (aY gg.av)) x.O k3;have a1Q:=cf zE x.O k3;have a4M:=kL aj zE x.O k3;have a4N:=dH aj x.O (k3+1);have a4O:=pw aj x.O k3;have a4P:=ot bK zE x.O k3;have a4Q:=gI bK x.O (k3+1);have a4R:=xx bK x.O k3;have a3m:=tM gg (x.O.getD k3 zE) (bC - (1+(cg aj (x.O.take k3):Int))) (depth - 1);⟨λ _=>⟨?_,?_,?_,λ _=>⟨λ _=>⟨?_,?_⟩,λ _=>⟨?_,k3+1,?_,?_,⟨?_,rfl,rfl,rfl,rfl,?_,af⟩,af⟩⟩⟩,λ _=>⟨?_,?_⟩⟩⟩⟩⟩⟩⟩⟩,λ _=>⟨λ _ _ _ _ _=>⟨λ _=>⟨?_,?_⟩,λ _=>⟨λ _=>⟨λ _ _ _=>⟨λ _=>⟨?_,?_⟩,λ _=>⟨(),?_,⟨rfl,rfl,rfl,rfl,af⟩,af⟩⟩,λ _=>⟨λ _ _ _=>⟨λ _=>⟨?_,?_⟩,λ _=>⟨(),?_,⟨rfl,rfl,rfl,rfl,af⟩,af⟩⟩,λ _ _=>⟨λ _=>⟨?_,?_⟩,λ _=>⟨(),?_,⟨rfl,rfl,rfl,rfl,af⟩,af⟩⟩⟩⟩,λ u1 _=>⟨λ _=>⟨λ _ _=>⟨?_,λ _=>⟨?_,?_⟩,λ _=>⟨(),?_,⟨rfl,rfl,rfl,rfl,af⟩,af⟩⟩,λ _=>⟨λ _=>⟨?_,?_⟩,λ _=>⟨(),?_,⟨rfl,rfl,rfl,rfl,af⟩,af⟩⟩⟩,λ u2 _=>⟨?_,λ _ _=>⟨⟨0,?_,⟨?_,rfl,rfl,rfl,rfl,?_,af⟩,af⟩,λ k3 _=>have TY:=dX (bS (aY gg.aS) (aY gg.av)) zE x.O k3;have TZ:=eC (bS (aY gg.aS) (aY gg.av)) zE x.O k3;have T1:=ep (bS (aY gg.aS) (aY gg.av)) x.O k3;have X7:=cf zE x.O k3;have a3g:=kL aj zE x.O k3;have a3h:=dH aj x.O (k3+1);have a3i:=pw aj x.O k3;have a3j:=ot bK zE x.O k3;have a3k:=gI bK x.O (k3+1);have a3l:=xx bK x.O k3;have a0P:=tM gg (x.O.getD k3 zE) (bC - (1+(cg aj (x.O.take k3):Int))) (depth - 1);⟨λ _=>⟨?_,?_,?_,λ _=>⟨λ _=>⟨?_,?_⟩,λ _=>⟨?_,k3+1,?_,?_,⟨?_,rfl,rfl,rfl,rfl,?_,af⟩,af⟩⟩⟩,λ _=>⟨?_,?_⟩⟩⟩⟩⟩⟩⟩,λ _=>⟨λ _=>⟨?_,?_⟩,λ _=>⟨λ _=>⟨λ _ _ _=>⟨λ _=>⟨?_,?_⟩,λ _=>⟨(),?_,⟨rfl,rfl,rfl,rfl,af⟩,af⟩⟩,λ _=>⟨λ _ _ _=>⟨λ _=>⟨?_,?_⟩,λ _=>⟨(),?_,⟨rfl,rfl,rfl,rfl,af⟩,af⟩⟩,λ _ _=>⟨λ _=>⟨?_,?_⟩,λ _=>⟨(),?_,⟨rfl,rfl,rfl,rfl,af⟩,af⟩⟩⟩⟩,λ u1 _=>⟨λ _=>⟨λ _ _=>⟨?_,λ _=>⟨?_,?_⟩,λ _=>⟨(),?_,⟨rfl,rfl,rfl,rfl,af⟩,af⟩⟩,λ _=>⟨λ _=>⟨?_,?_⟩,λ _=>⟨(),?_,⟨rfl,rfl,rfl,rfl,af⟩,af⟩⟩⟩,λ u2 _=>⟨?_,λ _ _=>⟨⟨0,?_,⟨?_,rfl,rfl,rfl,rfl,?_,af⟩,af⟩,λ k3 _=>have X8:=dX (bS (aY gg.aS) (aY gg.av)) zE x.O k3;have X9:=eC (bS (aY gg.aS) (aY gg.av)) zE x.O k3;have Ya:=ep (bS (aY gg.aS) (aY gg.av)) x.O k3;have a1Q:=cf zE x.O k3;have a4M:=kL aj zE x.O k3;have a4N:=dH aj x.O (k3+1);have a4O:=pw aj x.O k3;have a4P:=ot bK zE x.O k3;have a4Q:=gI bK x.O (k3+1);have a4R:=xx bK x.O k3;have a3m:=tM gg (x.O.getD k3 zE) (bC - (1+(cg aj (x.O.take k3):Int))) (depth - 1);⟨λ _=>⟨?_,?_,?_,λ _=>⟨λ _=>⟨?_,?_⟩,λ _=>⟨?_,k3+1,?_,?_,⟨?_,rfl,rfl,rfl,rfl,?_,af⟩,af⟩⟩⟩,λ _=>⟨?_,?_⟩⟩⟩⟩⟩⟩⟩⟩⟩;all_goals try and_intros
 all_goals try (first|with_reducible rfl|with_reducible assumption)
 all_goals try simp only[J.eta,cu] at *
 all_goals ((try simp only[aY] at *);generalize IntKind.wrap .i64 (gg.aS - 1)=T at *;generalize IntKind.wrap .i64 (gg.av - 1)=A at *;first|rfl|trivial|(simp only[decide_eq_true_eq,decide_eq_false_iff_not,aE,au] at *;omega)|(rcases fs with ⟨t1,t2,t3,t4,t5⟩|⟨t1,t4,t5⟩<;>(try rw[t4])<;>(try rw[t5])<;>clear t4 t5<;>simp only[decide_eq_true_eq,decide_eq_false_iff_not,mB,yH,Bool.and_eq_true,Bool.and_eq_false_iff,Bool.not_eq_true',Bool.not_eq_false',au] at *<;>first|rfl|omega|grind|grind [cz]))
def Dk :∀ n,bj [lO n]
 | 0=>⟨⟨aD lG,λ _ _ _ _ h=>absurd h.1 (a8a _)⟩,af⟩
 | n+1=>by
  have ih:=Dk  n;exact⟨Lg n ⟨ih.1,GC,uD,mW,af⟩,af⟩
def GF :aW.Good Br :=
 ⟨aD lG,λ gg x bC depth hp=>(Dk  (bu x+1)).1.2 gg x bC depth (⟨a7M _,hp⟩)⟩
def Qm(a n:Int):Bool:=decide (((Int.toNat (Int.fdiv a (2 ^ n.toNat)) &&& Int.toNat 1:Nat):Int)=1)
def O7(k n a:Int)(p q:Bool):Bool:=if k=2 then true else if k=3 then Qm a n else if k=5 then !p else if k=6 then p||q else if k=7 then p&&q else false
mutual
def fU(a:Int):J->Bool
 | ⟨k,n,ks⟩=>O7 k n a ((B9 a ks).getD 0 false) ((B9 a ks).getD 1 false)
def B9(a:Int):List J->List Bool
 | []=>[]
 | k::ks=>fU a k::B9 a ks
end
def mG(a:Int)(z:J):∀ (xs:List J) (i:Nat),i<xs.length->(B9 a xs).getD i false=fU a (xs.getD i z)
 | [],i,h=>by simp at h
 | x::xs,0,h=>by simp[B9]
 | x::xs,i+1,h=>by
  have:=mG a z xs i (by simpa using h);simpa [B9] using this
def Oq(a:Int)(x:J):fU a x=O7 x.ai x.aZ a ((B9 a x.O).getD 0 false) ((B9 a x.O).getD 1 false):=by
 cases x;rfl
def gX(x:J):Bool:=bS 62 62 x&&bH x
def sI(x:J)(i:Nat):Prop:=gX (x.O.getD i ⟨0,0,[]⟩)=true/\bu (x.O.getD i ⟨0,0,[]⟩)<bu x
def Un(x:J)(h:gX x=true)(i:Nat)(hi:i<x.O.length):sI x i:=by
 unfold sI;simp only[gX,Bool.and_eq_true] at h ⊢;rw[jd,rC] at h;simp only[Bool.and_eq_true] at h;refine⟨⟨Ce _ _ _ _ hi h.1.2,Ce _ _ _ _ hi h.2.2⟩,?_⟩;have:=cf (⟨0,0,[]⟩:J) x.O i hi;have:=er x;omega
def yo(x:J)(h:gX x=true):(x.ai=3->0<=x.aZ/\x.aZ<=62) /\
  (x.ai=5->x.O.length=1/\sI x 0)/\((x.ai=6\/x.ai=7)->x.O.length=2/\sI x 0/\sI x 1) /\
  (x.ai=1\/x.ai=2\/x.ai=3\/x.ai=5\/x.ai=6\/x.ai=7):=by
 have hk:=Un x h;simp only[gX,a7H] at h;rw[jd,rC,mB] at h;simp only[a7H,a7D] at h;obtain⟨⟨⟨⟨h1,h2⟩,_⟩,_⟩,h5,_⟩:=h;simp only[AO,a9c,a7D] at h5;refine⟨λ e=>?_,λ e=>?_,λ e=>?_,by omega⟩
 .simpa [yH,e] using h2
 .rw[e] at h1;have tY:x.O.length=1:=by simp[cz] at h1;omega
  exact⟨tY,hk 0 (by omega)⟩
 .have tY:x.O.length=2:=by
   rcases e with e|e<;>rw[e] at h1<;>simp[cz] at h1<;>omega
  exact⟨tY,hk 0 (by omega),hk 1 (by omega)⟩
def Km(a:Int)(x:J)(h:gX x=true):(x.ai=1->fU a x=false)/\(x.ai=2->fU a x=true)/\(x.ai=3->fU a x=Qm a x.aZ) /\
  (x.ai=5->fU a x = !fU a (x.O.getD 0 ⟨0,0,[]⟩))/\(x.ai=6->fU a x=(fU a (x.O.getD 0 ⟨0,0,[]⟩)||fU a (x.O.getD 1 ⟨0,0,[]⟩))) /\
  (x.ai=7->fU a x=(fU a (x.O.getD 0 ⟨0,0,[]⟩)&&fU a (x.O.getD 1 ⟨0,0,[]⟩))):=by
 have hf:=yo x h;rw[Oq];refine⟨λ e=>?_,λ e=>?_,λ e=>?_,λ e=>?_,λ e=>?_,λ e=>?_⟩
 .simp[O7,e]
 .simp[O7,e]
 .simp[O7,e]
 .have:=(hf.2.1 e).1;simp only[O7,e];rw[mG a ⟨0,0,[]⟩ x.O 0 (by omega)];rfl
 .have:=(hf.2.2.1 (.inl e)).1;simp only[O7,e];rw[mG a ⟨0,0,[]⟩ x.O 0 (by omega),mG a ⟨0,0,[]⟩ x.O 1 (by omega)];rfl
 .have:=(hf.2.2.1 (.inr e)).1;simp only[O7,e];rw[mG a ⟨0,0,[]⟩ x.O 0 (by omega),mG a ⟨0,0,[]⟩ x.O 1 (by omega)];rfl
def Gr(a n:Int)(h:0<=a/\a<=4096):0<=Int.fdiv a (2 ^ n.toNat)/\Int.fdiv a (2 ^ n.toNat)<=4096:=by
 have e:(2:Int) ^ n.toNat=((2 ^ n.toNat:Nat):Int):=by norm_cast
 have hp:0<2 ^ n.toNat:=Nat.pow_pos (by omega);rw[e,Int.fdiv_eq_ediv_of_nonneg _ (by omega)];refine⟨Int.ediv_nonneg h.1 (by omega),?_⟩;have:=Int.ediv_le_self (2 ^ n.toNat:Nat) h.1;omega
def uJ(n:Int):cI .u64 n=(0<=n/\n<=18446744073709551615):=rfl
theorem xR:IntKind.u64.min=0:=rfl
theorem xQ:IntKind.u64.max=18446744073709551615:=rfl
def uI(n:Int):cI .i64 n=au n:=rfl
def nj(n:Nat):aW:=⟨wj,[.v (.st .expr), .v (.int .i64)],λ (x:J) (atom:Int)=>⟨(some (bu x<n/\gX x=true/\0<=atom/\atom<=4096),[⟨.bool,fU atom x⟩])⟩⟩
def wg:aW:=⟨wj,[.v (.st .expr), .v (.int .i64)],λ (x:J) (atom:Int)=>⟨(some (gX x=true/\0<=atom/\atom<=4096),[⟨.bool,fU atom x⟩])⟩⟩
def OU(x:J)(atom:Int):Nat->aL:=cB
abbrev zh(n:Nat)(x:J)(atom:Int):Prop:=(let v0:=x.O.getD 1 zE;(x.O.length<=140737488355328 ->
 (aE (1:Int) x.O.length/\((bu v0<n/\gX v0=true/\0<=atom/\atom<=4096)/\(fU atom v0)=(fU atom x)))))
def NL(n:Nat)(hE:bj [nj n]):aW.Good (nj (n+1)):=by
 refine⟨aD mN,?_⟩;intro (x:J) (atom:Int) (hp:bu x<n+1/\gX x=true/\0<=atom/\atom<=4096);refine aV [nj n] [] [] [2] hE mN Ig (OU x atom) (let v2:=atom.fdiv (2 ^ x.aZ.toNat);let v3:=fU atom x;let v4:=x.O.getD 0 zE;let v0:=bu v4<n/\gX v4=true/\0<=atom/\atom<=4096;let v1:=fU atom v4;let v5:=(0:Int);((au x.ai->(((decide (x.ai=(2:Int)))=true->true=v3)/\((decide (x.ai=(2:Int)))=false->(((decide (x.ai=(3:Int)))=true->(au x.aZ->((v5<=x.aZ/\(x.aZ<(64:Int)/\au v2))/\((v5<=v2/\(v5<=(1:Int)/\(au v2/\au (1:Int))))/\(decide ((((v2.toNat &&& (1:Int).toNat:Nat):Int))=(1:Int)))=v3))))/\((decide (x.ai=(3:Int)))=false->(((decide (x.ai=(5:Int)))=true->(x.O.length<=140737488355328->(aE v5 x.O.length/\(v0/\(!v1)=v3))))/\((decide (x.ai=(5:Int)))=false->(((decide (x.ai=(6:Int)))=true->(x.O.length<=140737488355328->(aE v5 x.O.length/\(v0/\((v1=false->(zh n x atom))/\(v1=(!false)->true=v3))))))/\((decide (x.ai=(6:Int)))=false->(((decide (x.ai=(7:Int)))=true->(x.O.length<=140737488355328->(aE v5 x.O.length/\(v0/\((v1=true->(zh n x atom))/\(v1=(!true)->false=v3))))))/\((decide (x.ai=(7:Int)))=false->false=v3))))))))))))) ?_;have f1:=yo x hp.2.1;have f2:=Km atom x hp.2.1;have f3:=Gr atom x.aZ ⟨hp.2.2.1,hp.2.2.2⟩;refine λ _=>⟨λ _=>?_,λ _=>⟨λ _ _=>⟨⟨?_,?_,?_⟩,⟨?_,?_,?_,?_⟩,?_⟩,λ _=>⟨λ _ _=>⟨?_,?_,?_⟩,λ _=>⟨λ _ _=>⟨?_,?_,λ _ _=>⟨?_,?_,?_⟩,λ _=>?_⟩,λ _=>⟨λ _ _=>⟨?_,?_,λ _ _=>⟨?_,?_,?_⟩,λ _=>?_⟩,λ _=>?_⟩⟩⟩⟩⟩;all_goals try and_intros
 all_goals first|rfl|trivial|omega|(simp only[decide_eq_true_eq,decide_eq_false_iff_not,aE,au,uJ,uI,xR,xQ] at *;omega)|(simp only[sI] at *;grind [aE,au,Qm,xR,xQ])
def FT :∀ n,bj [nj n]
 | 0=>⟨⟨aD mN,λ _ _ h=>absurd h.1 (a8a _)⟩,af⟩
 | n+1=>by
  have ih:=FT  n;exact⟨NL n ⟨ih.1,af⟩,af⟩
def Iw :aW.Good wg :=
 ⟨aD mN,λ x atom hp=>(FT  (bu x+1)).1.2 x atom (⟨a7M _,hp⟩)⟩
def kE(n:Nat):aW:=⟨qF,[.r (.st .expr), .v (.int .i64)],λ (x:J) (atom:Int)=>⟨(some (bu x<n/\gX x=true/\0<=atom/\atom<=4096),[⟨.bool,fU atom x⟩])⟩⟩
def qs:aW:=⟨qF,[.r (.st .expr), .v (.int .i64)],λ (x:J) (atom:Int)=>⟨(some (gX x=true/\0<=atom/\atom<=4096),[⟨.bool,fU atom x⟩])⟩⟩
def K2(x:J)(atom:Int):Nat->aL:=cB
abbrev uV(n:Nat)(x:J)(atom:Int):Prop:=(let v0:=x.O.getD 1 zE;(x.O.length<=140737488355328 ->
 (aE (1:Int) x.O.length/\((bu v0<n/\gX v0=true/\0<=atom/\atom<=4096)/\(fU atom v0)=(fU atom x)))))
def Jl(n:Nat)(hE:bj [kE n]):aW.Good (kE (n+1)):=by
 refine⟨aD ke,?_⟩;intro (x:J) (atom:Int) (hp:bu x<n+1/\gX x=true/\0<=atom/\atom<=4096);refine aV [kE n] [] [] [] hE ke El (K2 x atom) (let v2:=atom.fdiv (2 ^ x.aZ.toNat);let v3:=fU atom x;let v4:=x.O.getD 0 zE;let v0:=bu v4<n/\gX v4=true/\0<=atom/\atom<=4096;let v1:=fU atom v4;let v5:=(1:Int);let v6:=(0:Int);((au x.ai->(((decide (x.ai=v5))=true->false=v3)/\((decide (x.ai=v5))=false->(((decide (x.ai=(2:Int)))=true->true=v3)/\((decide (x.ai=(2:Int)))=false->(((decide (x.ai=(3:Int)))=true->(au x.aZ->(cI .u64 x.aZ/\((v6<=x.aZ/\(x.aZ<(64:Int)/\au v2))/\((v6<=v2/\(v6<=v5/\(au v2/\au v5)))/\(decide ((((v2.toNat &&& v5.toNat:Nat):Int))=v5))=v3)))))/\((decide (x.ai=(3:Int)))=false->(((decide (x.ai=(5:Int)))=true->(x.O.length<=140737488355328->(aE v6 x.O.length/\(v0/\(!v1)=v3))))/\((decide (x.ai=(5:Int)))=false->(((decide (x.ai=(6:Int)))=true->(x.O.length<=140737488355328->(aE v6 x.O.length/\(v0/\((v1=false->(uV n x atom))/\(v1=(!false)->true=v3))))))/\((decide (x.ai=(6:Int)))=false->(x.O.length<=140737488355328->(aE v6 x.O.length/\(v0/\((v1=true->(uV n x atom))/\(v1=(!true)->false=v3)))))))))))))))))) ?_;have f1:=yo x hp.2.1;have f2:=Km atom x hp.2.1;have f3:=Gr atom x.aZ ⟨hp.2.2.1,hp.2.2.2⟩;refine λ _=>⟨λ _=>?_,λ _=>⟨λ _=>?_,λ _=>⟨λ _ _=>⟨?_,⟨?_,?_,?_⟩,⟨?_,?_,?_,?_⟩,?_⟩,λ _=>⟨λ _ _=>⟨?_,?_,?_⟩,λ _=>⟨λ _ _=>⟨?_,?_,λ _ _=>⟨?_,?_,?_⟩,λ _=>?_⟩,λ _ _=>⟨?_,?_,λ _ _=>⟨?_,?_,?_⟩,λ _=>?_⟩⟩⟩⟩⟩⟩;all_goals try and_intros
 all_goals first|rfl|trivial|omega|(simp only[decide_eq_true_eq,decide_eq_false_iff_not,aE,au,uJ,uI,xR,xQ] at *;omega)|(simp only[sI] at *;grind [aE,au,Qm,xR,xQ])
def FU :∀ n,bj [kE n]
 | 0=>⟨⟨aD ke,λ _ _ h=>absurd h.1 (a8a _)⟩,af⟩
 | n+1=>by
  have ih:=FU  n;exact⟨Jl n ⟨ih.1,af⟩,af⟩
def EN :aW.Good qs :=
 ⟨aD ke,λ x atom hp=>(FU  (bu x+1)).1.2 x atom (⟨a7M _,hp⟩)⟩
def bA(gg:aG):Int:=1 * 2 ^ gg.aS.toNat
def iC(gg:aG)(h:0<=gg.aS/\gg.aS<=3):1<=bA gg/\bA gg<=8:=by
 have:gg.aS=0\/gg.aS=1\/gg.aS=2\/gg.aS=3:=by omega
 unfold bA;rcases this with e|e|e|e<;>rw[e]<;>decide
def dW(gg:aG):ca gg=true↔(0<=gg.aS/\gg.aS<=3)/\(0<=gg.av/\gg.av<=4):=by
 simp[ca]
def fR(gg:aG)(x:J):Bool:=Fv gg x 200 40
def dP(gg:aG)(x:J):Bool:=ca gg&&fR gg x
def Zo(gg:aG)(x:J):fR gg x=true↔bS (aY gg.aS) (aY gg.av) x=true/\aj x<=200/\bK x<=40:=by
 simp only[fR,Fv,a7H,a7D];constructor
 .rintro⟨⟨a,b⟩,c⟩;exact⟨a,by omega,by omega⟩
 .rintro⟨a,b,c⟩;exact⟨⟨a,by omega⟩,by omega⟩
def Sp(t a t' a':Int)(h1:t<=t')(h2:a<=a')(x:J)(h:og t a x=true):og t' a' x=true:=by
 rw[mB] at h ⊢;simp only[Bool.and_eq_true] at h ⊢;refine⟨⟨h.1.1,?_⟩,h.2⟩;have:=h.1.2;unfold yH at this ⊢;split
 .rename_i e;rw[a7E e] at this;simp only[a7D] at this ⊢;omega
 .rename_i e;rw[a7z e] at this;split
  .rename_i e';rw[a7E e'] at this;simp only[a7D] at this ⊢;omega
  .rename_i e';rw[a7z e'] at this;exact this
mutual
def B8(t a t' a':Int)(h1:t<=t')(h2:a<=a'):∀ x:J,bS t a x=true->bS t' a' x=true
 | ⟨k,n,ks⟩=>λ h=>by
  simp only[bS,a7H] at h ⊢;exact⟨Sp t a t' a' h1 h2 _ h.1,HV t a t' a' h1 h2 ks h.2⟩
def HV(t a t' a':Int)(h1:t<=t')(h2:a<=a'):∀ xs:List J,rB t a xs=true->rB t' a' xs=true
 | []=>λ _=>rfl
 | x::xs=>λ h=>by
  simp only[rB,a7H] at h ⊢;exact⟨B8 t a t' a' h1 h2 x h.1,HV t a t' a' h1 h2 xs h.2⟩
end
def iV:aW:=⟨zH,[.v (.st .sig)],λ (gg:aG)=>⟨(some (0<=gg.aS/\gg.aS<=3),[⟨(.int .i64),bA gg⟩])⟩⟩
def KN(gg:aG):Nat->aL:=cB
def iF:aW.Good iV:=by
 refine⟨aD wE,?_⟩;intro (gg:aG) (hp:0<=gg.aS/\gg.aS<=3);refine aV [] [] [] [1] trivial wE D7 (KN gg) (let v0:=(1:Int) * 2 ^ gg.aS.toNat;((au gg.aS->(((0:Int)<=gg.aS/\(gg.aS<(64:Int)/\au v0))/\v0=(bA gg))))) ?_;have f1:=iC gg hp;refine λ _=>⟨⟨?_,?_,?_⟩,?_⟩;all_goals try and_intros
 all_goals first|rfl|trivial|(simp only[a7D,a7C,aE,au,uJ,uI,xR,xQ,bA] at *;omega)
def hJ:aW:=⟨xF,[.v (.st .sig)],λ (gg:aG)=>⟨(some (0<=gg.aS/\gg.aS<=3),[⟨(.int .i64),bA gg⟩])⟩⟩
def I2(gg:aG):Nat->aL:=cB
def gN:aW.Good hJ:=by
 refine⟨aD uy,?_⟩;intro (gg:aG) (hp:0<=gg.aS/\gg.aS<=3);refine aV [] [] [] [1] trivial uy CV (I2 gg) (let v0:=(1:Int) * 2 ^ gg.aS.toNat;((au gg.aS->(cI .u64 gg.aS/\(((0:Int)<=gg.aS/\(gg.aS<(64:Int)/\au v0))/\v0=(bA gg)))))) ?_;have f1:=iC gg hp;refine λ _=>⟨?_,⟨?_,?_,?_⟩,?_⟩;all_goals try and_intros
 all_goals first|rfl|trivial|(simp only[a7D,a7C,aE,au,uJ,uI,xR,xQ,bA] at *;omega)
def td:aW:=⟨BC,[.v (.st .sig), .v (.st .expr)],λ (gg:aG) (x:J)=>⟨(none,[⟨.bool,fR gg x⟩])⟩⟩
def Nc(gg:aG)(x:J):Nat->aL:=cB
def uC:aW.Good td:=by
 refine⟨aD yS,?_⟩;intro (gg:aG) (x:J) _;refine aV [Br] [] [] [2,3] ⟨GF,af⟩ yS FZ (Nc gg x) (((0<=(200:Int)/\(200:Int)<=1048576/\0<=(40:Int)/\(40:Int)<=1048576)/\(au (Lm gg x (200:Int) (40:Int))->(Fv gg x (200:Int) (40:Int))=(fR gg x)))) ?_;refine⟨?_,λ _=>?_⟩;all_goals try and_intros
 all_goals first|rfl|trivial|omega|(simp only[a7D,a7C,aE,au,cI,iE,cN,bB] at *;omega)|(simp[aE,au] at *;omega)|grind
def wh:aW:=⟨DP,[.v (.st .sig), .r (.st .expr)],λ (gg:aG) (x:J)=>⟨(none,[⟨.bool,dP gg x⟩])⟩⟩
def OX(gg:aG)(x:J):Nat->aL:=cB
abbrev zj(gg:aG)(x:J):Prop:=(let v0:=decide (((bK x:Int))<=(40:Int));(bK x<=1048576/\(au ((bK x:Int)) ->
 ((v0=true ->
 (bS (aY gg.aS) (aY gg.av) x)=(dP gg x))/\(v0=(!true) ->
 false=(dP gg x))))))
def xb:aW.Good wh:=by
 refine⟨aD AG,?_⟩;intro (gg:aG) (x:J) _;refine aV [ti,zw,xu,zy] [] [] [2] ⟨uE,EJ,C8,EM,af⟩ AG Ij (OX gg x) (let v0:=decide ((0:Int)<=(lD (aj x) (200:Int)));let v1:=bS (aY gg.aS) (aY gg.av) x;((((ca gg)=true->((0<=(200:Int)/\(200:Int)<=1048576)/\(au (lD (aj x) (200:Int))->((v0=true->(zj gg x))/\(v0=(!true)->((false=true->v1=(dP gg x))/\(false=(!true)->false=(dP gg x))))))))/\((ca gg)=(!true)->((false=true->(zj gg x))/\(false=(!true)->((false=true->v1=(dP gg x))/\(false=(!true)->false=(dP gg x))))))))) ?_;have f1:=kM (aj x) 200;have f2:=Gi x;have f3:dP gg x=(ca gg&&(bS (aY gg.aS) (aY gg.av) x&&decide ((aj x:Int)<=200)&&decide ((bK x:Int)<=40))):=rfl;refine⟨λ _=>⟨?_,λ _=>⟨λ _=>⟨?_,λ _=>⟨λ _=>?_,λ _=>?_⟩⟩,λ _=>⟨λ _=>?_,λ _=>?_⟩⟩⟩,λ _=>⟨λ _=>⟨?_,λ _=>⟨λ _=>?_,λ _=>?_⟩⟩,λ _=>⟨λ _=>?_,λ _=>?_⟩⟩⟩;all_goals try and_intros
 all_goals try rw[f3]
 all_goals first|rfl|trivial|omega|(simp only[a7D,a7C,a7V,a8e] at *;omega)|grind
def mi:aW:=⟨tA,[.v (.st .sig), .v (.slice (.st .expr))],λ (gg:aG) (xs:List J)=>⟨(none,[⟨.bool,cE (fR gg) xs&&ca gg⟩])⟩⟩
def Fc(gg:aG)(xs:List J):Nat->aL:=(eS 0 (.b (Nat) (λ k=>k<=xs.length/\cE (fR gg) (xs.take k)=true) (λ k=>xs.length - k) [0,1] (λ k=>[(9, .aQ ⟨(.int .i64),((k:Int):Int)⟩)])) cB)
def nJ:aW.Good mi:=by
 refine⟨aD qO,?_⟩;intro (gg:aG) (xs:List J) _;refine aV [td,xo] [] [] [2] ⟨uC,C2,af⟩ qO zZ (Fc gg xs) (let v0:=(xs.length:Int);((au v0->((∃ k1:Nat,((k1<=xs.length/\cE (fR gg) (xs.take k1)=true)/\((gg=gg/\(xs=xs/\(v0=v0/\((0:Int)=(k1:Int)/\True))))/\True)))/\(∀ k1:Nat,let v1 := !(fR gg (aP (xs.getD k1 zE)));((k1<=xs.length/\cE (fR gg) (xs.take k1)=true)->(((decide ((k1:Int)<v0))=true->(aE (k1:Int) xs.length/\((v1=true->false=(cE (fR gg) xs&&ca gg))/\(v1=false->(au ((k1:Int)+(1:Int))/\(∃ k2:Nat,((k2<=xs.length/\cE (fR gg) (xs.take k2)=true)/\(xs.length - k2<xs.length - k1/\((gg=gg/\(xs=xs/\(v0=v0/\(((k1:Int)+(1:Int))=(k2:Int)/\True))))/\True)))))))))/\((decide ((k1:Int)<v0))=false->(ca gg)=(cE (fR gg) xs&&ca gg))))))))) ?_;have f1:=all_zero (fR gg) xs;refine λ _=>⟨⟨0,?_,⟨rfl,rfl,rfl,?_,af⟩,af⟩,λ k1 _=>have a4y:=dX (fR gg) zE xs k1;have a4z:=eC (fR gg) zE xs k1;have a4A:=ep (fR gg) xs k1;⟨λ _=>⟨?_,λ _=>?_,λ _=>⟨?_,k1+1,?_,?_,⟨rfl,rfl,rfl,?_,af⟩,af⟩⟩,λ _=>?_⟩⟩;all_goals try and_intros
 all_goals try (first|with_reducible rfl|with_reducible assumption)
 all_goals try simp only[J.eta,cu] at *
 all_goals first|rfl|trivial|(simp only[a7D,a7C,aE,au] at *;omega)|(simp_all;done)|(simp_all [aE,au];omega)
end
end Go.Proofs.YtncejbehidimmaaGreatDoor

namespace Go.Proofs.YtncejbehidimmaaGreatDoor
open Go.RowKit Go.Proofs
def R4:(Tryz.prog.info? 120).map (·.size)=some 2:=by kernel_rfl
def Yj:liesAt Tryz.prog Tryz.prog.depth 120 (2 / Tryz.prog.cellsOf 120) 0 120 1=true:=by kernel_rfl
def Yi:(Tryz.prog.info? 5).map (λ i=>(i.zero,i.size,i.bytes))=some (some (.int .u8 0),1,1):=by kernel_rfl
def gT(b:Nat)(w w':World):Prop:=∀ k cs T fz,w.heap[k]?=some (.cells cs T fz)->T≠5->k≠b->w'.heap[k]?=w.heap[k]?
def gT.refl(b:Nat)(w:World):gT b w w:=λ _ _ _ _ _ _ _=>rfl
def gT.trans{b:Nat}{w w1 w2:World}(h:gT b w w1)(k:gT b w1 w2):gT b w w2:=λ i cs T fz hi hT hb=>by
 have e:=h i cs T fz hi hT hb;rw[k i cs T fz (e.trans hi) hT hb,e]
def gT.setCell{b:Nat}{w w1:World}(h:gT b w w1)(o:Nat)(v:Value):gT b w (w1.setCell ⟨b,o,none⟩ v):=λ i cs T fz hi hT hb=>by
 rw[Below.heap_setCell w1 _ v i hb];exact h i cs T fz hi hT hb
def bz{w:World}{k:Nat}{x:Obj}(h:w.heap[k]?=some x):k<w.heap.size:=by
 rcases a8m k w.heap.size with h'|h'
 .exact h'
 .simp[a8P h'] at h
def gT.alloc{b:Nat}{w w1:World}(h:gT b w w1)(o:Obj):gT b w (w1.alloc o):=λ i cs T fz hi hT hb=>by
 have e:=h i cs T fz hi hT hb;rw[<-e];exact a8K w1 o i (bz (e.trans hi))
set_option maxRecDepth 100000 in
def Kw(b:Nat)(w:World)(h0:w.cell? ⟨b,0,none⟩=some (.pointer (some ⟨b,0,none⟩))) :
  Calls Tryz.prog 101 #[.pointer (some ⟨b,0,none⟩)] w λ e w'=>e = .returned (.tuple #[])/\w'=w:=by
 obtain⟨j,hj,_⟩:=a8f.1 R4;go_enter Tryz.func101,Tryz.ntmps101;go_wp2;rw[Lib.run_neq_ptr_same w _ Tryz.underlying117 hj];go_wp2;go_end0;exact⟨rfl,rfl⟩
set_option maxRecDepth 100000 in
def Im(b:Nat)(w:World)(h0:w.cell? ⟨b,0,none⟩=some (.pointer none))(W7:w.shape? b=some (120,2))(hfz:w.frozen? ⟨b,0,none⟩=false) :
  Calls Tryz.prog 101 #[.pointer (some ⟨b,0,none⟩)] w λ e w'=>e = .returned (.tuple #[])/\w'=w.setCell ⟨b,0,none⟩ (.pointer (some ⟨b,0,none⟩)):=by
 obtain⟨j,hj,hjs⟩:=a8f.1 R4;go_enter Tryz.func101,Tryz.ntmps101;go_wp2;rw[Lib.run_to_unsafe w ⟨b,0,none⟩ Tryz.underlying117 Tryz.underlying159 hj (by rw[hjs];decide) W7 (Nat.zero_lt_succ 1)];simp only[Result.andThen];rw[b0B];go_wp2;rw[run_callFunc_extern Tryz.func112 (by kernel_rfl) (by kernel_rfl) (by kernel_rfl) (e:=Extern.AbiNoEscape.same) (by kernel_rfl)];rw[Lib.run_noEscape];simp only[Result.andThen];rw[b0B];go_wp2;rw[Lib.run_from_unsafe w ⟨b,0,none⟩ Tryz.underlying159 Tryz.underlying117 hj W7 Yj];simp only[Result.andThen];rw[b0B];go_wp2;go_end0;exact⟨rfl,rfl⟩
def Ua(B b:Nat)(bs:List Value)(w:World)(h:Lib.IsBuilder 120 5 B b bs w) :
  Calls Tryz.prog 101 #[.pointer (some ⟨b,0,none⟩)] w λ e w'=>e = .returned (.tuple #[])/\(Lib.BuilderAt 120 5 B b (.pointer (some ⟨b,0,none⟩)) bs w'/\Below B w w'/\gT b w w'):=by
 rcases h with h|h
 .refine (Im b w h.cell0 h.shape h.frozen0).mono ?_;rintro e w' ⟨rfl,rfl⟩;exact⟨rfl,h.used _,(a9y B w).setCell (p:=⟨b,0,none⟩) h.1 _,(gT.refl b w).setCell 0 _⟩
 .refine (Kw b w h.cell0).mono ?_;rintro e w' ⟨rfl,rfl⟩;exact⟨rfl,h,a9y B _,gT.refl b _⟩
set_option maxRecDepth 100000 in
def writeString(B b:Nat)(bs:List Value)(s:ByteArray)(w:World)(h:Lib.IsBuilder 120 5 B b bs w)(hlen:bs.length+s.size<=140737488355328)(gG:B<=w.heap.size) :
  Calls Tryz.prog 82 #[.pointer (some ⟨b,0,none⟩), .string s] w λ e w'=>e = .returned (.tuple #[.int .i64 s.size, .nilIface])/\(Lib.IsBuilder 120 5 B b (bs++Lib.strCells s) w'/\Below B w w'/\gT b w w'):=by
 obtain⟨i0,hi,hz⟩:=a8f.1 Yi;simp only[a7x] at hz;obtain⟨OP,IJ,KH⟩:=hz;go_enter Tryz.func82,Tryz.ntmps82;go_wp2_with (go_at_call 101;refine (Ua B b bs _ h).mono ?_);rintro e w1 ⟨rfl,h1,yq,rl⟩;obtain⟨hB,v,Ut,dA,dm⟩:=h1;have c0:w1.cell? ⟨b,0,none⟩=some (.pointer (some ⟨b,0,none⟩)):=by rw[a9N Ut];rfl
 have c1:w1.cell? ⟨b,1,none⟩=some v:=by rw[a9N Ut];rfl
 go_wp2_with (at_builtin;refine Lib.wpList_append_own_string _ rfl _ _ 118 9 rfl B 5 i0 Tryz.underlying118 Tryz.underlying9 hi OP IJ KH _ _ _ rfl dA s rfl ?c3 ?c4 ?c5 ?_);case c3=>unfold maxLen;omega
 case c4=>omega
 case c5=>have:=yq.size;omega
 intro v' w2 Zc df _;have bp:b<w1.heap.size:=bz Ut;have EW:w2.heap[b]?=some (.cells #[.pointer (some ⟨b,0,none⟩),v] 120 (0,0)):=by
  rw[df.block b bp (λ e=>dm e.symm)];exact Ut
 have d0:w2.cell? ⟨b,0,none⟩=some (.pointer (some ⟨b,0,none⟩)):=by rw[a9N EW];rfl
 have d1:w2.cell? ⟨b,1,none⟩=some v:=by rw[a9N EW];rfl
 have f1:w2.frozen? ⟨b,1,none⟩=false:=Lib.frozen_of_heap EW 1;have hk2:gT b w1 w2:=λ i cs T fz hi hT hib=>df.block i (bz hi) λ e=>by
  rcases dA.2 with ⟨hv,_⟩|⟨g,cap,cur,hv,_,hg,_⟩
  .rw[hv] at e;cases e
  .rw[hv] at e;injection e with e;subst e;rw[hg] at hi;simp only[a7v,Obj.cells.injEq] at hi;exact hT hi.2.1.symm
 obtain⟨ao,n',cap,rfl⟩:∃ ao n' cap,v' = .slice ao n' cap:=by
  rcases Zc.2 with ⟨hv,_⟩|⟨g,cap,cur,hv,_⟩
  .exact⟨_,_,_,hv⟩
  .exact⟨_,_,_,hv⟩
 go_wp2;go_ret2;refine⟨rfl,?_,?_,?_⟩
 .exact Or.inr (Lib.BuilderAt.put (T:=120) (e:=5) hB EW (bs':=bs++Lib.strCells s) (by simpa [Lib.strCells_length] using Zc) (by decide))
 .exact (yq.grown df (by have:=yq.size;omega) (λ k hk=>(dA.lt k hk).1)).setCell (p:=⟨b,1,none⟩) hB _
 .exact (rl.trans hk2).setCell 1 _
end Go.Proofs.YtncejbehidimmaaGreatDoor

namespace Go.Proofs
open Go.Shelf
def Tryz.Hf:Go.Shelf.Ren:=⟨λ|169=>84|n=>n,λ|70=>117|9=>9|0=>0|72=>120|37=>118|127=>150|3=>3|5=>5|n=>n,λ|n=>n⟩
def Tryz.Zv:Go.Proofs.Lays.n169 Tryz.prog Tryz.Hf:={
 mixed:=by kernel_rfl
 f169:=Tryz.func84.trans (congrArg some (by kernel_rfl))
 t0:=Tryz.underlying0
 a0:=Tryz.isAgg0
 z0:=Tryz.sizeOf0
 v0:=Tryz.zeroValue0
 t3:=Tryz.underlying3
 a3:=Tryz.isAgg3
 z3:=Tryz.sizeOf3
 v3:=Tryz.zeroValue3
 t9:=Tryz.underlying9
 a9:=Tryz.isAgg9
 z9:=Tryz.sizeOf9
 v9:=Tryz.zeroValue9
 t37:=Tryz.underlying118
 a37:=Tryz.isAgg118
 z37:=Tryz.sizeOf118
 v37:=Tryz.zeroValue118
 t70:=Tryz.underlying117
 a70:=Tryz.isAgg117
 z70:=Tryz.sizeOf117
 v70:=Tryz.zeroValue117
 t72:=Tryz.underlying120
 a72:=Tryz.isAgg120
 z72:=Tryz.sizeOf120
 v72:=Tryz.zeroValue120
 t127:=Tryz.underlying150
 a127:=Tryz.isAgg150
 z127:=Tryz.sizeOf150
 v127:=Tryz.zeroValue150 }
def Tryz.D2:Builder.Extra Tryz.prog Tryz.Hf:={
 sizeBuilder:=by kernel_rfl
 liesBuilder:=by kernel_rfl
 t5:=Tryz.underlying5
 a5:=Tryz.isAgg5
 z5:=Tryz.sizeOf5
 v5:=Tryz.zeroValue5
 infoByte:=by kernel_rfl
 cellsByte:=by kernel_rfl
 sizeByte:=by kernel_rfl
 neB5:=by decide }
open Go.RowKit in
def Tryz.Builder_String_any(B b:Nat)(l:List UInt8)(w:World)(h:Lib.IsBuilder 120 5 B b (Lib.byteCells l) w)(gG:B<=w.heap.size) :
  Calls Tryz.prog 84 #[.pointer (some ⟨b,0,none⟩)] w λ e w'=>e = .returned (.string ⟨l.toArray⟩)/\Below B w w':=Any.Builder_String_any Tryz.Zv Tryz.D2 B b l w h gG
def Tryz.Rh:Go.Shelf.Ren:=⟨λ|246=>113|283=>127|284=>128|285=>129|286=>130|129=>124|317=>136|318=>137|319=>138|320=>139|337=>141|338=>142|n=>n,λ|2=>2|3=>3|9=>9|4=>4|171=>174|0=>0|53=>172|37=>118|5=>5|173=>176|212=>186|51=>170|20=>20|213=>187|46=>132|232=>192|233=>193|n=>n,λ|17=>1|18=>2|19=>3|n=>n⟩
def Tryz.Zw:Go.Proofs.Lays.n246 Tryz.prog Tryz.Rh:={
 mixed:=by kernel_rfl
 f129:=Tryz.func124.trans (congrArg some (by kernel_rfl))
 f246:=Tryz.func113.trans (congrArg some (by kernel_rfl))
 f283:=Tryz.func127.trans (congrArg some (by kernel_rfl))
 f284:=Tryz.func128.trans (congrArg some (by kernel_rfl))
 f285:=Tryz.func129.trans (congrArg some (by kernel_rfl))
 f286:=Tryz.func130.trans (congrArg some (by kernel_rfl))
 f317:=Tryz.func136.trans (congrArg some (by kernel_rfl))
 f318:=Tryz.func137.trans (congrArg some (by kernel_rfl))
 f319:=Tryz.func138.trans (congrArg some (by kernel_rfl))
 f320:=Tryz.func139.trans (congrArg some (by kernel_rfl))
 f337:=Tryz.func141.trans (congrArg some (by kernel_rfl))
 f338:=Tryz.func142.trans (congrArg some (by kernel_rfl))
 t0:=Tryz.underlying0
 a0:=Tryz.isAgg0
 z0:=Tryz.sizeOf0
 v0:=Tryz.zeroValue0
 t2:=Tryz.underlying2
 a2:=Tryz.isAgg2
 z2:=Tryz.sizeOf2
 v2:=Tryz.zeroValue2
 t3:=Tryz.underlying3
 a3:=Tryz.isAgg3
 z3:=Tryz.sizeOf3
 v3:=Tryz.zeroValue3
 t4:=Tryz.underlying4
 a4:=Tryz.isAgg4
 z4:=Tryz.sizeOf4
 v4:=Tryz.zeroValue4
 t5:=Tryz.underlying5
 a5:=Tryz.isAgg5
 z5:=Tryz.sizeOf5
 v5:=Tryz.zeroValue5
 t9:=Tryz.underlying9
 a9:=Tryz.isAgg9
 z9:=Tryz.sizeOf9
 v9:=Tryz.zeroValue9
 t20:=Tryz.underlying20
 a20:=Tryz.isAgg20
 z20:=Tryz.sizeOf20
 v20:=Tryz.zeroValue20
 t37:=Tryz.underlying118
 a37:=Tryz.isAgg118
 z37:=Tryz.sizeOf118
 v37:=Tryz.zeroValue118
 t46:=Tryz.underlying132
 a46:=Tryz.isAgg132
 z46:=Tryz.sizeOf132
 v46:=Tryz.zeroValue132
 t51:=Tryz.underlying170
 a51:=Tryz.isAgg170
 z51:=Tryz.sizeOf170
 v51:=Tryz.zeroValue170
 t53:=Tryz.underlying172
 a53:=Tryz.isAgg172
 z53:=Tryz.sizeOf172
 v53:=Tryz.zeroValue172
 t171:=Tryz.underlying174
 a171:=Tryz.isAgg174
 z171:=Tryz.sizeOf174
 v171:=Tryz.zeroValue174
 t173:=Tryz.underlying176
 a173:=Tryz.isAgg176
 z173:=Tryz.sizeOf176
 v173:=Tryz.zeroValue176
 t212:=Tryz.underlying186
 a212:=Tryz.isAgg186
 z212:=Tryz.sizeOf186
 v212:=Tryz.zeroValue186
 t213:=Tryz.underlying187
 a213:=Tryz.isAgg187
 z213:=Tryz.sizeOf187
 t232:=Tryz.underlying192
 a232:=Tryz.isAgg192
 z232:=Tryz.sizeOf192
 v232:=Tryz.zeroValue192
 t233:=Tryz.underlying193
 a233:=Tryz.isAgg193
 z233:=Tryz.sizeOf193
 v233:=Tryz.zeroValue193
 g17:=by kernel_rfl
 g18:=by kernel_rfl
 g19:=by kernel_rfl }
open Go.RowKit Go.Sort Go.Lib in
def Tryz.internal_strconv_FormatInt_10_small(i:Nat)(hi:i<100)(w:World) :
  Calls Tryz.prog 113 #[.int .i64 i, .int .i64 10] w λ e w'=>e = .returned (.string ⟨(Lib.decDigits i).toArray⟩)/\w'=w:=Any.internal_strconv_FormatInt_10_small Tryz.Zw i hi w
end Go.Proofs

namespace Go.Proofs.YtncejbehidimmaaGreatDoor
open Go.RowKit Go.Proofs
def Mb{B b:Nat}{p:Value}{bs:List Value}{w:World}(h:Lib.BuilderAt 120 5 B b p bs w)(o:Obj):Lib.BuilderAt 120 5 B b p bs (w.alloc o):=by
 obtain⟨hB,v,hb,dA,dm⟩:=h;exact⟨hB,v,by rw[a8K w o b (bz hb)];exact hb,dA.alloc _,dm⟩
abbrev rf(B b:Nat)(l:List UInt8)(w:World):Prop:=Lib.IsBuilder 120 5 B b (Lib.byteCells l) w
def jK{B b:Nat}{l:List UInt8}{w:World}(h:rf B b l w)(o:Obj):rf B b l (w.alloc o):=h.imp (λ h=>Mb h o) (λ h=>Mb h o)
def G9{B b:Nat}{l:List UInt8}{w:World}(h:rf B b l w):b<w.heap.size:=by
 rcases h with h|h<;>exact h.lt
def mz{B:Nat}{w:World}(h:B<=w.heap.size)(o:Obj):B<=(w.alloc o).heap.size:=by simp;omega
def wQ{b:Nat}{w w1:World}{cs:Array Value}(h:gT b (w.alloc (.cells cs 36)) w1)(hb:b<w.heap.size)(j:Nat){v:Value}(hj:cs[j]?=some v):w1.cell? ⟨w.heap.size,j,none⟩=some v:=by
 have e:=h w.heap.size cs 36 (0,0) (a8Q w _) (by decide) (by omega);rw[b0b (a:=⟨w.heap.size,j,none⟩) e,a9N (a8Q w _)];exact hj
structure Wr(B b:Nat)(l t:List UInt8)(w w':World):Prop where
 IM:rf B b (l++t) w'
 cS:Below B w w'
 aK:gT b w w'
def Wr.trans{B b:Nat}{l t u:List UInt8}{w w1 w2:World}(h:Wr B b l t w w1)(k:Wr B b (l++t) u w1 w2):Wr B b l (t++u) w w2 :=
 ⟨by rw[<-a8c];exact k.IM,h.cS.trans k.cS,h.aK.trans k.aK⟩
def Wr.alloc{B b:Nat}{l t:List UInt8}{w w1:World}{o:Obj}(h:Wr B b l t (w.alloc o) w1)(gG:B<=w.heap.size):Wr B b l t w w1 :=
 ⟨h.IM,((a9y B w).alloc gG _).trans h.cS,((gT.refl b w).alloc _).trans h.aK⟩
def ws(B b:Nat)(l:List UInt8)(s:ByteArray)(w:World)(h:rf B b l w)(hlen:l.length+s.data.toList.length<=140737488355328)(gG:B<=w.heap.size) :
  Calls Tryz.prog 82 #[.pointer (some ⟨b,0,none⟩), .string s] w λ e w'=>e = .returned (.tuple #[.int .i64 s.size, .nilIface])/\Wr B b l s.data.toList w w':=by
 refine (writeString B b _ s w h (by simpa [Lib.byteCells_length] using hlen) gG).mono ?_;rintro e w' ⟨rfl,h1,h2,h3⟩;refine⟨rfl,?_,h2,h3⟩;have:Lib.byteCells l++Lib.strCells s=Lib.byteCells (l++s.data.toList):=by simp[Lib.byteCells,Lib.strCells]
 rw[rf,<-this];exact h1
abbrev CJ(B b:Nat)(v:Value)(l t:List UInt8)(w:World):Prop :=
 Calls Tryz.prog 105 #[.pointer (some ⟨b,0,none⟩),v] w λ e w'=>e = .returned (.tuple #[])/\Wr B b l t w w'
set_option maxRecDepth 100000 in
def It(i:Nat)(hi:i<100)(w:World) :
  Calls Tryz.prog 102 #[.int .i64 i, .int .i64 10] w λ e w'=>e = .returned (.string ⟨(Lib.decDigits i).toArray⟩)/\w'=w:=by
 go_enter Tryz.func102,Tryz.ntmps102;go_wp2_with (go_at_call 113;refine (Tryz.internal_strconv_FormatInt_10_small i hi _).mono ?_);rintro e w1 ⟨he,hw⟩;subst he hw;go_wp2;go_ret;exact⟨rfl,rfl⟩
set_option maxRecDepth 100000 in
def AQ(i:Nat)(hi:i<100)(w:World) :
  Calls Tryz.prog 83 #[.int .i64 i] w λ e w'=>e = .returned (.string ⟨(Lib.decDigits i).toArray⟩)/\w'=w:=by
 go_enter Tryz.func83,Tryz.ntmps83;go_wp2_with (go_at_call 102;refine (It i hi _).mono ?_);rintro e w1 ⟨he,hw⟩;subst he hw;go_wp2;go_ret;exact⟨rfl,rfl⟩
set_option maxRecDepth 100000 in
def we1(B b:Nat)(l:List UInt8)(n:Int)(sl:Value)(w:World)(h:rf B b l w)(hlen:l.length+1<=140737488355328)(gG:B<=w.heap.size) :
  CJ B b (.agg #[.int .i64 1, .int .i64 n,sl]) l [48] w:=by
 go_enter Tryz.func105,Tryz.ntmps105;go_wp2_with (go_at_call 82;refine (ws B b l _ _ (jK h _) (by exact hlen) (mz gG _)).mono ?_);intro e w1 he h1;subst he;go_wp2;go_end0;exact⟨rfl,h1.alloc gG⟩
set_option maxRecDepth 100000 in
def we2(B b:Nat)(l:List UInt8)(n:Int)(sl:Value)(w:World)(h:rf B b l w)(hlen:l.length+1<=140737488355328)(gG:B<=w.heap.size) :
  CJ B b (.agg #[.int .i64 2, .int .i64 n,sl]) l [49] w:=by
 go_enter Tryz.func105,Tryz.ntmps105;go_wp2_with (go_at_call 82;refine (ws B b l _ _ (jK h _) (by exact hlen) (mz gG _)).mono ?_);intro e w1 he h1;subst he;go_wp2;go_end0;exact⟨rfl,h1.alloc gG⟩
set_option maxRecDepth 100000 in
def we3(B b:Nat)(l:List UInt8)(i:Nat)(hi:i<100)(sl:Value)(w:World)(h:rf B b l w)(hlen:l.length+((Lib.decDigits i).length+1)<=140737488355328)(gG:B<=w.heap.size) :
  CJ B b (.agg #[.int .i64 3, .int .i64 i,sl]) l (116::Lib.decDigits i) w:=by
 go_enter Tryz.func105,Tryz.ntmps105;go_wp2_with (go_at_call 83;refine (AQ i hi _).mono ?_);rintro e w1 ⟨he,hw⟩;subst he hw;go_wp2_with (go_at_call 82;refine (ws B b l _ _ (jK h _) (by simp;omega) (mz gG _)).mono ?_);rintro e w1 ⟨he,h1⟩;subst he;go_wp2;go_end0;exact⟨rfl,by simpa using h1.alloc gG⟩
set_option maxRecDepth 100000 in
def we4(B b:Nat)(l:List UInt8)(i:Nat)(hi:i<100)(sl:Value)(w:World)(h:rf B b l w)(hlen:l.length+((Lib.decDigits i).length+1)<=140737488355328)(gG:B<=w.heap.size) :
  CJ B b (.agg #[.int .i64 4, .int .i64 i,sl]) l (97::Lib.decDigits i) w:=by
 go_enter Tryz.func105,Tryz.ntmps105;go_wp2_with (go_at_call 83;refine (AQ i hi _).mono ?_);rintro e w1 ⟨he,hw⟩;subst he hw;go_wp2_with (go_at_call 82;refine (ws B b l _ _ (jK h _) (by simp;omega) (mz gG _)).mono ?_);rintro e w1 ⟨he,h1⟩;subst he;go_wp2;go_end0;exact⟨rfl,by simpa using h1.alloc gG⟩
set_option maxRecDepth 100000 in
def we5(B b:Nat)(l t:List UInt8)(n:Int)(kb ko cap:Nat)(c0 c1 c2:Value)(w:World)(h:rf B b l w)(hlen:l.length+(t.length+1)<=140737488355328)(gG:B<=w.heap.size)
  (o7:∀ w1,Below B w w1->∀ j v,[c0,c1,c2][j]?=some v->w1.cell? ⟨kb,ko+0+j,none⟩=some v)
  (UL:∀ w1 l1,Below B w w1->rf B b l1 w1->B<=w1.heap.size->l1.length+t.length<=140737488355328->CJ B b (.agg #[c0,c1,c2]) l1 t w1)
  : CJ B b (.agg #[.int .i64 5, .int .i64 n, .slice (some ⟨kb,ko,none⟩) 1 cap]) l (126::t) w:=by
 go_enter Tryz.func105,Tryz.ntmps105;go_wp2_with (go_at_call 82;refine (ws B b l _ _ (jK h _) (by simp;omega) (mz gG _)).mono ?_);intro e w1 he h1;subst he;have c2':=wQ h1.aK (G9 h) 2 rfl;have q00:w1.cell? ⟨kb,ko,none⟩=some c0:=by simpa [Nat.add_assoc] using o7 w1 (h1.alloc gG).cS 0 _ rfl
 have q01:w1.cell? ⟨kb,ko+1,none⟩=some c1:=by simpa [Nat.add_assoc] using o7 w1 (h1.alloc gG).cS 1 _ rfl
 have q02:w1.cell? ⟨kb,ko+2,none⟩=some c2:=by simpa [Nat.add_assoc] using o7 w1 (h1.alloc gG).cS 2 _ rfl
 go_wp2_with (go_at_call 105;refine (UL w1 _ (h1.alloc gG).cS h1.IM (by have:=(h1.alloc gG).cS.size;omega) (by simp;omega)).mono ?_);rintro e w2 ⟨he,h2⟩;subst he;go_wp2;go_end0;exact⟨rfl,((h1.alloc gG).trans h2)⟩
set_option maxRecDepth 100000 in
def we8(B b:Nat)(l t:List UInt8)(n:Int)(kb ko cap:Nat)(c0 c1 c2:Value)(w:World)(h:rf B b l w)(hlen:l.length+(t.length+1)<=140737488355328)(gG:B<=w.heap.size)
  (o7:∀ w1,Below B w w1->∀ j v,[c0,c1,c2][j]?=some v->w1.cell? ⟨kb,ko+0+j,none⟩=some v)
  (UL:∀ w1 l1,Below B w w1->rf B b l1 w1->B<=w1.heap.size->l1.length+t.length<=140737488355328->CJ B b (.agg #[c0,c1,c2]) l1 t w1)
  : CJ B b (.agg #[.int .i64 8, .int .i64 n, .slice (some ⟨kb,ko,none⟩) 1 cap]) l (t++[42]) w:=by
 have IB:Below B w (w.alloc (.cells #[.int .i64 8, .int .i64 n, .slice (some ⟨kb,ko,none⟩) 1 cap] 36)):=(Below.refl B w).alloc gG _;have q00:(w.alloc (.cells #[.int .i64 8, .int .i64 n, .slice (some ⟨kb,ko,none⟩) 1 cap] 36)).cell? ⟨kb,ko,none⟩=some c0:=by simpa [Nat.add_assoc] using o7 (w.alloc (.cells #[.int .i64 8, .int .i64 n, .slice (some ⟨kb,ko,none⟩) 1 cap] 36)) IB 0 _ rfl
 have q01:(w.alloc (.cells #[.int .i64 8, .int .i64 n, .slice (some ⟨kb,ko,none⟩) 1 cap] 36)).cell? ⟨kb,ko+1,none⟩=some c1:=by simpa [Nat.add_assoc] using o7 (w.alloc (.cells #[.int .i64 8, .int .i64 n, .slice (some ⟨kb,ko,none⟩) 1 cap] 36)) IB 1 _ rfl
 have q02:(w.alloc (.cells #[.int .i64 8, .int .i64 n, .slice (some ⟨kb,ko,none⟩) 1 cap] 36)).cell? ⟨kb,ko+2,none⟩=some c2:=by simpa [Nat.add_assoc] using o7 (w.alloc (.cells #[.int .i64 8, .int .i64 n, .slice (some ⟨kb,ko,none⟩) 1 cap] 36)) IB 2 _ rfl
 go_enter Tryz.func105,Tryz.ntmps105;go_wp2_with (go_at_call 105;refine (UL _ _ IB (jK h _) (mz gG _) (by omega)).mono ?_);rintro e w1 ⟨he,h1⟩;subst he;go_wp2_with (go_at_call 82;refine (ws B b _ _ _ h1.IM (by simp;omega) (by have:=(h1.alloc gG).cS.size;omega)).mono ?_);intro e w2 he h2;subst he;go_wp2;go_end0;exact⟨rfl,((h1.alloc gG).trans h2)⟩
set_option maxRecDepth 100000 in
def we6(B b:Nat)(l t u:List UInt8)(n:Int)(kb ko cap:Nat)(c0 c1 c2 d0 d1 d2:Value)(w:World)(h:rf B b l w)(hlen:l.length+(t.length+u.length+5)<=140737488355328)(gG:B<=w.heap.size)
  (o7:∀ w1,Below B w w1->∀ j v,[c0,c1,c2][j]?=some v->w1.cell? ⟨kb,ko+0+j,none⟩=some v)
  (UL:∀ w1 l1,Below B w w1->rf B b l1 w1->B<=w1.heap.size->l1.length+t.length<=140737488355328->CJ B b (.agg #[c0,c1,c2]) l1 t w1)
  (rl:∀ w1,Below B w w1->∀ j v,[d0,d1,d2][j]?=some v->w1.cell? ⟨kb,ko+3+j,none⟩=some v)
  (ih1:∀ w1 l1,Below B w w1->rf B b l1 w1->B<=w1.heap.size->l1.length+u.length<=140737488355328->CJ B b (.agg #[d0,d1,d2]) l1 u w1)
  : CJ B b (.agg #[.int .i64 6, .int .i64 n, .slice (some ⟨kb,ko,none⟩) 2 cap]) l ([40]++(t++([32,43,32]++(u++[41])))) w:=by
 go_enter Tryz.func105,Tryz.ntmps105;go_wp2_with (go_at_call 82;refine (ws B b l _ _ (jK h _) (by simp;omega) (mz gG _)).mono ?_);intro e w1 he h1;subst he;have e1:=wQ h1.aK (G9 h) 2 rfl;have q00:w1.cell? ⟨kb,ko,none⟩=some c0:=by simpa [Nat.add_assoc] using o7 w1 (h1.alloc gG).cS 0 _ rfl
 have q01:w1.cell? ⟨kb,ko+1,none⟩=some c1:=by simpa [Nat.add_assoc] using o7 w1 (h1.alloc gG).cS 1 _ rfl
 have q02:w1.cell? ⟨kb,ko+2,none⟩=some c2:=by simpa [Nat.add_assoc] using o7 w1 (h1.alloc gG).cS 2 _ rfl
 have g1:=h1.alloc gG;have s1:B<=w1.heap.size:=by have:=g1.cS.size;omega
 go_wp2_with (go_at_call 105;refine (UL w1 _ g1.cS h1.IM s1 (by simp;omega)).mono ?_);rintro e w2 ⟨he,h2⟩;subst he;have s2:B<=w2.heap.size:=by have:=h2.cS.size;omega
 go_wp2_with (go_at_call 82;refine (ws B b _ _ _ h2.IM (by simp;omega) s2).mono ?_);intro e w3 he h3;subst he;have e3:=wQ (h1.aK.trans (h2.aK.trans h3.aK)) (G9 h) 2 rfl;have g3:=g1.cS.trans (h2.cS.trans h3.cS);have q10:w3.cell? ⟨kb,ko+3,none⟩=some d0:=by simpa [Nat.add_assoc] using rl w3 g3 0 _ rfl
 have q11:w3.cell? ⟨kb,ko+4,none⟩=some d1:=by simpa [Nat.add_assoc] using rl w3 g3 1 _ rfl
 have q12:w3.cell? ⟨kb,ko+5,none⟩=some d2:=by simpa [Nat.add_assoc] using rl w3 g3 2 _ rfl
 have s3:B<=w3.heap.size:=by have:=h3.cS.size;omega
 go_wp2_with (go_at_call 105;refine (ih1 w3 _ g3 h3.IM s3 (by simp;omega)).mono ?_);rintro e w4 ⟨he,h4⟩;subst he;have s4:B<=w4.heap.size:=by have:=h4.cS.size;omega
 go_wp2_with (go_at_call 82;refine (ws B b _ _ _ h4.IM (by simp;omega) s4).mono ?_);intro e w5 he h5;subst he;go_wp2;go_end0;have j2:Wr B b (l++[40]) t w1 w2:=by simpa using h2
 have j3:Wr B b (l++[40]++t) [32,43,32] w2 w3:=by simpa using h3
 have j4:Wr B b (l++[40]++t++[32,43,32]) u w3 w4:=by simpa using h4
 have j5:Wr B b (l++[40]++t++[32,43,32]++u) [41] w4 w5:=by simpa using h5
 exact⟨rfl,g1.trans (j2.trans (j3.trans (j4.trans j5)))⟩
set_option maxRecDepth 100000 in
def we7(B b:Nat)(l t u:List UInt8)(n:Int)(kb ko cap:Nat)(c0 c1 c2 d0 d1 d2:Value)(w:World)(h:rf B b l w)(hlen:l.length+(t.length+u.length+3)<=140737488355328)(gG:B<=w.heap.size)
  (o7:∀ w1,Below B w w1->∀ j v,[c0,c1,c2][j]?=some v->w1.cell? ⟨kb,ko+0+j,none⟩=some v)
  (UL:∀ w1 l1,Below B w w1->rf B b l1 w1->B<=w1.heap.size->l1.length+t.length<=140737488355328->CJ B b (.agg #[c0,c1,c2]) l1 t w1)
  (rl:∀ w1,Below B w w1->∀ j v,[d0,d1,d2][j]?=some v->w1.cell? ⟨kb,ko+3+j,none⟩=some v)
  (ih1:∀ w1 l1,Below B w w1->rf B b l1 w1->B<=w1.heap.size->l1.length+u.length<=140737488355328->CJ B b (.agg #[d0,d1,d2]) l1 u w1)
  : CJ B b (.agg #[.int .i64 7, .int .i64 n, .slice (some ⟨kb,ko,none⟩) 2 cap]) l ([40]++(t++([32]++(u++[41])))) w:=by
 go_enter Tryz.func105,Tryz.ntmps105;go_wp2_with (go_at_call 82;refine (ws B b l _ _ (jK h _) (by simp;omega) (mz gG _)).mono ?_);intro e w1 he h1;subst he;have e1:=wQ h1.aK (G9 h) 2 rfl;have q00:w1.cell? ⟨kb,ko,none⟩=some c0:=by simpa [Nat.add_assoc] using o7 w1 (h1.alloc gG).cS 0 _ rfl
 have q01:w1.cell? ⟨kb,ko+1,none⟩=some c1:=by simpa [Nat.add_assoc] using o7 w1 (h1.alloc gG).cS 1 _ rfl
 have q02:w1.cell? ⟨kb,ko+2,none⟩=some c2:=by simpa [Nat.add_assoc] using o7 w1 (h1.alloc gG).cS 2 _ rfl
 have g1:=h1.alloc gG;have s1:B<=w1.heap.size:=by have:=g1.cS.size;omega
 go_wp2_with (go_at_call 105;refine (UL w1 _ g1.cS h1.IM s1 (by simp;omega)).mono ?_);rintro e w2 ⟨he,h2⟩;subst he;have s2:B<=w2.heap.size:=by have:=h2.cS.size;omega
 go_wp2_with (go_at_call 82;refine (ws B b _ _ _ h2.IM (by simp;omega) s2).mono ?_);intro e w3 he h3;subst he;have e3:=wQ (h1.aK.trans (h2.aK.trans h3.aK)) (G9 h) 2 rfl;have g3:=g1.cS.trans (h2.cS.trans h3.cS);have q10:w3.cell? ⟨kb,ko+3,none⟩=some d0:=by simpa [Nat.add_assoc] using rl w3 g3 0 _ rfl
 have q11:w3.cell? ⟨kb,ko+4,none⟩=some d1:=by simpa [Nat.add_assoc] using rl w3 g3 1 _ rfl
 have q12:w3.cell? ⟨kb,ko+5,none⟩=some d2:=by simpa [Nat.add_assoc] using rl w3 g3 2 _ rfl
 have s3:B<=w3.heap.size:=by have:=h3.cS.size;omega
 go_wp2_with (go_at_call 105;refine (ih1 w3 _ g3 h3.IM s3 (by simp;omega)).mono ?_);rintro e w4 ⟨he,h4⟩;subst he;have s4:B<=w4.heap.size:=by have:=h4.cS.size;omega
 go_wp2_with (go_at_call 82;refine (ws B b _ _ _ h4.IM (by simp;omega) s4).mono ?_);intro e w5 he h5;subst he;go_wp2;go_end0;have j2:Wr B b (l++[40]) t w1 w2:=by simpa using h2
 have j3:Wr B b (l++[40]++t) [32] w2 w3:=by simpa using h3
 have j4:Wr B b (l++[40]++t++[32]) u w3 w4:=by simpa using h4
 have j5:Wr B b (l++[40]++t++[32]++u) [41] w4 w5:=by simpa using h5
 exact⟨rfl,g1.trans (j2.trans (j3.trans (j4.trans j5)))⟩
end Go.Proofs.YtncejbehidimmaaGreatDoor

namespace Go.Proofs.YtncejbehidimmaaGreatDoor
noncomputable section
open Go.RowKit Go.Proofs
def lq(n:Int):List UInt8:=Lib.decDigits n.toNat
def O9(k n:Int)(p q:List UInt8):List UInt8:=if k=1 then [48] else if k=2 then [49] else if k=3 then 116::lq n else if k=4 then 97::lq n else if k=5 then 126::p
 else if k=6 then [40]++(p++([32,43,32]++(q++[41]))) else if k=7 then [40]++(p++([32]++(q++[41]))) else p++[42]
mutual
def bE:J->List UInt8
 | ⟨k,n,ks⟩=>O9 k n ((Kn ks).getD 0 []) ((Kn ks).getD 1 [])
def Kn:List J->List (List UInt8)
 | []=>[]
 | k::ks=>bE k::Kn ks
end
def mr(z:J):∀ (xs:List J) (i:Nat),i<xs.length->(Kn xs).getD i []=bE (xs.getD i z)
 | [],i,h=>by simp at h
 | x::xs,0,h=>by simp[Kn]
 | x::xs,i+1,h=>by
  have:=mr z xs i (by simpa using h);simpa [Kn] using this
def a1E(x:J):bE x=O9 x.ai x.aZ ((Kn x.O).getD 0 []) ((Kn x.O).getD 1 []):=by
 cases x;rfl
def aB(x:J):Bool:=bS 9 9 x
def Ck(x:J)(i:Nat):Prop:=aB (x.O.getD i zE)=true/\bu (x.O.getD i zE)<bu x
def Uo(x:J)(h:aB x=true)(i:Nat)(hi:i<x.O.length):Ck x i:=by
 unfold Ck;simp only[aB] at h ⊢;rw[jd] at h;simp only[Bool.and_eq_true] at h;refine⟨Ce _ _ _ _ hi h.2,?_⟩;have:=cf (zE:J) x.O i hi;have:=er x;omega
def dD(x:J)(h:aB x=true):((x.ai=3\/x.ai=4)->0<=x.aZ/\x.aZ<=9) /\
  ((x.ai=5\/x.ai=8)->x.O.length=1/\Ck x 0)/\((x.ai=6\/x.ai=7)->x.O.length=2/\Ck x 0/\Ck x 1) /\
  (x.ai=1\/x.ai=2\/x.ai=3\/x.ai=4\/x.ai=5\/x.ai=6\/x.ai=7\/x.ai=8):=by
 have hk:=Uo x h;simp only[aB] at h;rw[jd,mB] at h;simp only[a7H,a7D] at h;obtain⟨⟨⟨h1,h2⟩,_⟩,_⟩:=h;refine⟨λ e=>?_,λ e=>?_,λ e=>?_,?_⟩
 .rcases e with e|e<;>simpa [yH,e] using h2
 .have tY:x.O.length=1:=by
   rcases e with e|e<;>rw[e] at h1<;>simp[cz] at h1<;>omega
  exact⟨tY,hk 0 (by omega)⟩
 .have tY:x.O.length=2:=by
   rcases e with e|e<;>rw[e] at h1<;>simp[cz] at h1<;>omega
  exact⟨tY,hk 0 (by omega),hk 1 (by omega)⟩
 .unfold cz at h1;split at h1
  .omega
  .split at h1
   .omega
   .split at h1<;>omega
def dK(x:J)(h:aB x=true):(x.ai=1->bE x=[48])/\(x.ai=2->bE x=[49])/\(x.ai=3->bE x=116::lq x.aZ)/\(x.ai=4->bE x=97::lq x.aZ) /\
  (x.ai=5->bE x=126::bE (x.O.getD 0 zE)) /\
  (x.ai=6->bE x=[40]++(bE (x.O.getD 0 zE)++([32,43,32]++(bE (x.O.getD 1 zE)++[41])))) /\
  (x.ai=7->bE x=[40]++(bE (x.O.getD 0 zE)++([32]++(bE (x.O.getD 1 zE)++[41])))) /\
  (x.ai=8->bE x=bE (x.O.getD 0 zE)++[42]):=by
 have hf:=dD x h;rw[a1E];refine⟨λ e=>?_,λ e=>?_,λ e=>?_,λ e=>?_,λ e=>?_,λ e=>?_,λ e=>?_,λ e=>?_⟩
 .simp[O9,e]
 .simp[O9,e]
 .simp[O9,e]
 .simp[O9,e]
 .have:=(hf.2.1 (.inl e)).1;rw[mr zE x.O 0 (by omega)];simp[O9,e]
 .have:=(hf.2.2.1 (.inl e)).1;rw[mr zE x.O 0 (by omega),mr zE x.O 1 (by omega)];simp[O9,e]
 .have:=(hf.2.2.1 (.inr e)).1;rw[mr zE x.O 0 (by omega),mr zE x.O 1 (by omega)];simp[O9,e]
 .have:=(hf.2.1 (.inr e)).1;rw[mr zE x.O 0 (by omega)];simp[O9,e]
def AT(n:Int)(h:0<=n/\n<=9):(lq n).length=1:=by
 unfold lq;rw[Lib.decDigits_one (by omega)];rfl
def a0y(f:J->Nat)(z:J)(xs:List J)(h:xs.length=2):cg f xs=f (xs.getD 0 z)+f (xs.getD 1 z):=by
 match xs,h with
 | [a,b],_=>simp[cg]
def a0x(f:J->Nat)(z:J)(xs:List J)(h:xs.length=1):cg f xs=f (xs.getD 0 z):=by
 match xs,h with
 | [a],_=>simp[cg]
def tR:∀ (N:Nat) (x:J),bu x<N->aB x=true->(bE x).length<=5 * aj x
 | 0,x,h,_=>by omega
 | N+1,x,hN,h=>by
  have hf:=dD x h;have ht:=dK x h;have hn:=gJ x;rcases hf.2.2.2 with e|e|e|e|e|e|e|e
  .rw[ht.1 e];simp;omega
  .rw[ht.2.1 e];simp;omega
  .rw[ht.2.2.1 e];have:=AT _ (hf.1 (.inl e));simp;omega
  .rw[ht.2.2.2.1 e];have:=AT _ (hf.1 (.inr e));simp;omega
  .rw[ht.2.2.2.2.1 e];obtain⟨hl,h0⟩:=hf.2.1 (.inl e);have i0:=tR N _ (by have:=h0.2;omega) h0.1;rw[a0x _ zE _ hl] at hn;simp only[a7I];omega
  .rw[ht.2.2.2.2.2.1 e];obtain⟨hl,h0,h1⟩:=hf.2.2.1 (.inl e);have i0:=tR N _ (by have:=h0.2;omega) h0.1;have i1:=tR N _ (by have:=h1.2;omega) h1.1;rw[a0y _ zE _ hl] at hn;simp only[a7K,a7I,a7T];omega
  .rw[ht.2.2.2.2.2.2.1 e];obtain⟨hl,h0,h1⟩:=hf.2.2.1 (.inr e);have i0:=tR N _ (by have:=h0.2;omega) h0.1;have i1:=tR N _ (by have:=h1.2;omega) h1.1;rw[a0y _ zE _ hl] at hn;simp only[a7K,a7I,a7T];omega
  .rw[ht.2.2.2.2.2.2.2 e];obtain⟨hl,h0⟩:=hf.2.1 (.inr e);have i0:=tR N _ (by have:=h0.2;omega) h0.1;rw[a0x _ zE _ hl] at hn;simp only[a7K,a7I,a7T];omega
def nt{w:World}{S:Nat->Prop}{x:J}{cs:List Value}(h:Rd w S x.aI cs):∃ a cap,cs=[.int .i64 x.ai, .int .i64 x.aZ, .slice a x.O.length cap] /\
  (x.O=[]\/∃ b o,a=some ⟨b,o,none⟩/\S b/\cR w S (x.O.map J.aI) b o):=by
 cases x with
 | mk k n ks =>
  simp only[J.aI,Rd,cJ] at h;obtain⟨v0,r0,rfl,⟨h0,_⟩,v1,r1,rfl,⟨h1,_⟩,v2,r2,rfl,⟨a,cap,h2,_,_,_,h3⟩,rfl⟩:=h;simp only[a7A,a7W] at h0 h1 h2;subst h0 h1 h2;rw[J.HU] at *
  refine⟨a,cap,by simp,h3.imp (λ h=>by simpa using h) id⟩
def Hz{w:World}{S:Nat->Prop}{x:J}{b o:Nat}(h:cR w S (x.O.map J.aI) b o)(i:Nat)(hi:i<x.O.length) :
  ∃ c0 c1 c2,Rd w S (x.O.getD i zE).aI [c0,c1,c2]/\bn w b (o+3 * i) [c0,c1,c2]:=by
 obtain⟨cs,h1,h2,h3⟩:=cR.at_ (n:=3) _ b o h (λ d hd=>by
  obtain⟨y,_,rfl⟩:=a7B.1 hd;cases y;rfl) i (x.O.getD i zE).aI (by simp[a8T,a7G,a7L hi])
 match cs,h1 with
 | [c0,c1,c2],_=>exact⟨c0,c1,c2,h2,by rw[Nat.mul_comm];exact h3⟩
def D0(B b:Nat)(S:Nat->Prop)(hS:∀ k,S k->k<B):∀ (N:Nat) (x:J),bu x<N->aB x=true->∀ (l:List UInt8) (w:World) (cs:List Value),rf B b l w->B<=w.heap.size ->
  l.length+(bE x).length<=140737488355328->Rd w S x.aI cs->CJ B b (.agg cs.toArray) l (bE x) w
 | 0,x,h,_=>by omega
 | N+1,x,hN,h=>by
  intro l w cs hI hB hl hr;have hf:=dD x h;have ht:=dK x h;obtain⟨a,cap,rfl,hk⟩:=nt hr;have Xf:∀ i,i<x.O.length->Ck x i->∃ kb ko c0 c1 c2,a=some ⟨kb,ko,none⟩/\(∀ j,j≠i->True)/\(∀ w1,Below B w w1->∀ j v,[c0,c1,c2][j]?=some v->w1.cell? ⟨kb,ko+3 * i+j,none⟩=some v) /\
    (∀ w1 l1,Below B w w1->rf B b l1 w1->B<=w1.heap.size->l1.length+(bE (x.O.getD i zE)).length<=140737488355328->CJ B b (.agg #[c0,c1,c2]) l1 (bE (x.O.getD i zE)) w1):=by
   intro i hi hg;rcases hk with hk|⟨kb,ko,rfl,WV,eO⟩
   .rw[hk] at hi;simp at hi
   .obtain⟨c0,c1,c2,h1,h2⟩:=Hz eO i hi;refine⟨kb,ko,c0,c1,c2,rfl,λ _ _=>trivial,λ w1 hw j v hj=>?_,λ w1 l1 hw hI1 hB1 QY=>?_⟩
    .exact h2.aK (hw.block kb (hS kb WV)) j v hj
    .exact D0 B b S hS N _ (by have:=hg.2;omega) hg.1 l1 w1 [c0,c1,c2] hI1 hB1 QY (h1.aK (λ _ h=>h) (λ k hk=>hw.block k (hS k hk)))
  rcases hf.2.2.2 with e|e|e|e|e|e|e|e
  .rw[ht.1 e] at hl ⊢;rw[e];exact we1 B b l _ _ w hI hl hB
  .rw[ht.2.1 e] at hl ⊢;rw[e];exact we2 B b l _ _ w hI hl hB
  .have hn:=hf.1 (.inl e);rw[ht.2.2.1 e] at hl ⊢;rw[e,show x.aZ=((x.aZ.toNat:Nat):Int) by omega];exact we3 B b l _ (by omega) _ w hI (by simpa [lq] using hl) hB
  .have hn:=hf.1 (.inr e);rw[ht.2.2.2.1 e] at hl ⊢;rw[e,show x.aZ=((x.aZ.toNat:Nat):Int) by omega];exact we4 B b l _ (by omega) _ w hI (by simpa [lq] using hl) hB
  .obtain⟨hn,h0⟩:=hf.2.1 (.inl e);obtain⟨kb,ko,c0,c1,c2,rfl,_,q1,q2⟩:=Xf 0 (by omega) h0;rw[ht.2.2.2.2.1 e] at hl ⊢;rw[e,hn];exact we5 B b l _ _ kb ko cap c0 c1 c2 w hI (by simpa using hl) hB q1 q2
  .obtain⟨hn,h0,h1⟩:=hf.2.2.1 (.inl e);obtain⟨kb,ko,c0,c1,c2,rfl,_,q1,q2⟩:=Xf 0 (by omega) h0;obtain⟨kb',ko',d0,d1,d2,eq,_,p1,p2⟩:=Xf 1 (by omega) h1;cases eq;rw[ht.2.2.2.2.2.1 e] at hl ⊢;rw[e,hn];exact we6 B b l _ _ _ kb ko cap c0 c1 c2 d0 d1 d2 w hI (by simp at hl ⊢;omega) hB q1 q2 p1 p2
  .obtain⟨hn,h0,h1⟩:=hf.2.2.1 (.inr e);obtain⟨kb,ko,c0,c1,c2,rfl,_,q1,q2⟩:=Xf 0 (by omega) h0;obtain⟨kb',ko',d0,d1,d2,eq,_,p1,p2⟩:=Xf 1 (by omega) h1;cases eq;rw[ht.2.2.2.2.2.2.1 e] at hl ⊢;rw[e,hn];exact we7 B b l _ _ _ kb ko cap c0 c1 c2 d0 d1 d2 w hI (by simp at hl ⊢;omega) hB q1 q2 p1 p2
  .obtain⟨hn,h0⟩:=hf.2.1 (.inr e);obtain⟨kb,ko,c0,c1,c2,rfl,_,q1,q2⟩:=Xf 0 (by omega) h0;rw[ht.2.2.2.2.2.2.2 e] at hl ⊢;rw[e,hn];exact we8 B b l _ _ kb ko cap c0 c1 c2 w hI (by simpa using hl) hB q1 q2
def Bs:aW:=⟨BF,[.v (.st .expr)],λ (x:J)=>⟨(some (aB x=true/\(bE x).length<=1000000),[⟨.str,bE x⟩])⟩⟩
set_option maxRecDepth 100000 in
def HT(x:J)(w:World)(S:Nat->Prop)(hS:∀ b,S b->b<w.heap.size)(hg:aB x=true)(hl:(bE x).length<=1000000)(cs:List Value)(hr:Rd w S x.aI cs) :
  Calls Tryz.prog 90 #[.agg cs.toArray] w λ e w'=>e = .returned (.string ⟨(bE x).toArray⟩)/\Below w.heap.size w w':=by
 obtain⟨a,cap,rfl,hk⟩:=nt hr;have hI:∀ o:Obj,rf (w.heap.size+1) (w.heap.size+1) [] ((w.alloc o).alloc (.cells #[.pointer none, .slice none 0 0] 120)):=λ o=>by
  have:=Lib.fresh_isBuilder 120 5 (w.alloc o);rw[show (w.alloc o).heap.size=w.heap.size+1 by simp] at this;exact this
 have hB:∀ o p:Obj,w.heap.size+1<=((w.alloc o).alloc p).heap.size:=λ o p=>by simp
 have hw:∀ o p:Obj,Below w.heap.size w ((w.alloc o).alloc p):=λ o p=>((Below.refl _ w).alloc (Nat.le_refl _) o).alloc (by simp) p;go_enter Tryz.func90,Tryz.ntmps90;go_wp2_with (go_at_call 105;refine (D0 (w.heap.size+1) (w.heap.size+1) S (λ k hk=>Nat.lt_succ_of_lt (hS k hk)) (bu x+1) x (Nat.lt_succ_self _) hg [] _ _ (hI _) (hB _ _) (by simp;omega) (hr.aK (λ _ h=>h) (λ k hk=>(hw _ _).block k (hS k hk)))).mono ?_);rintro e w1 ⟨he,h1⟩;subst he;have b1:Below w.heap.size w w1:=(hw _ _).trans (h1.cS.mono (Nat.le_succ _));have g1:rf (w.heap.size+1) (w.heap.size+1) (bE x) w1:=by simpa using h1.IM
 have z1:w.heap.size+1<=w1.heap.size:=a8M (hB _ _) h1.cS.size;clear h1;go_wp2_with (go_at_call 84;refine (Tryz.Builder_String_any (w.heap.size+1) (w.heap.size+1) (bE x) w1 g1 z1).mono ?_);rintro e w2 ⟨he,h2⟩;subst he;go_wp2;go_ret;exact⟨rfl,b1.trans (h2.mono (Nat.le_succ _))⟩
def FY{w w':World}(h:Below w.heap.size w w'):bJ (λ _=>False) w w':=⟨h.os,h.tape,h.output,h.size,λ b hb _=>h.block b hb⟩
def Wi{w:World}{S:Nat->Prop}(l:List UInt8)(h:l.length<=140737488355328):du w S ⟨.str,l⟩ (.string ⟨l.toArray⟩) :=
 ⟨⟨l.toArray⟩,rfl,by simp,by simpa [ByteArray.size] using h⟩
def GG:aW.Good Bs:=by
 refine⟨aD Kp rfl (by decide),?_⟩;intro x hp w S cj ⟨hS,_⟩ ha;match cj,ha with
 | [v],ha =>
  obtain⟨⟨cs,rfl,hr⟩,_⟩:=ha;refine (HT x w S hS hp.1 hp.2 cs hr).mono ?_;rintro e w' ⟨rfl,hb⟩;exact⟨_,S,_,rfl,rfl,FY hb,λ _ _=>a9Q,λ b h=>a7F (hS b h) hb.size,Wi (w:=w') (S:=S) _ (by have:=hp.2;omega)⟩
def qo:aW:=⟨zK,[.v (.int .i64)],λ (n:Int)=>⟨(some (0<=n/\n<=9),[⟨.str,lq n⟩])⟩⟩
set_option maxRecDepth 100000 in
def Ox(n:Nat)(h:n<10)(w:World) :
  Calls Tryz.prog 114 #[.int .i64 n] w λ e w'=>e = .returned (.string ⟨(Lib.decDigits n).toArray⟩)/\Below w.heap.size w w':=by
 rw[Lib.decDigits_one h];have hn:¬ (10:Int)<=(n:Int):=by omega
 go_enter Tryz.func114,Tryz.ntmps114;go_wp2;rw[show (convert 118 9 (.slice (some ⟨w.heap.size,0,none⟩) 1 1)).run Tryz.prog (w.alloc (.cells #[.int .u8 (48+(n:Int))] 5))=_ from run_convert_bytes_back _ 118 9 5 ⟨w.heap.size,0,none⟩ 1 [UInt8.ofNat (48+n)] Tryz.underlying118 Tryz.underlying5 Tryz.underlying9 (by
  intro j hj;have hj0:j=0:=by simpa using hj
  subst hj0;show World.cell? _ ⟨w.heap.size,0,none⟩=_;rw[a9N (a8Q w _)];have e:(UInt8.ofNat (48+n)).toNat=48+n:=by rw[UInt8.toNat_ofNat'];omega
  simp[e];omega)]
 simp only[Result.andThen];rw[b0B];go_wp2;go_ret;exact⟨by first|rfl|(simp;done)|(show Ending.returned (.string ⟨#[48+UInt8.ofNat n]⟩)=_;rw[UInt8.ofNat_add];rfl),(a9y _ w).alloc (a7P _) _⟩
def EH:aW.Good qo:=by
 refine⟨aD H7 rfl (by decide),?_⟩;intro (n:Int) hp w S cj ⟨hS,_⟩ ha;match cj,ha with
 | [v],ha =>
  obtain⟨⟨hv,_⟩,_⟩:=ha;simp only[a7A,a7W] at hv;have hp:0<=n/\n<=9:=hp;subst hv;have:=Ox n.toNat (by omega) w;rw[show ((n.toNat:Nat):Int)=n by omega] at this;refine this.mono ?_;rintro e w' ⟨rfl,hb⟩;exact⟨_,S,_,rfl,rfl,FY hb,λ _ _=>a9Q,λ b h=>a7F (hS b h) hb.size,Wi (w:=w') (S:=S) (lq n) (by rw[AT n hp];decide)⟩
def tk(x:J)(i:Nat):J:=x.O.getD i zE
structure TK(x:J)(i:Nat):Prop where
 qS:aB (x.O.getD i zE)=true
 less:bu (x.O.getD i zE)<bu x
 len:(bE (x.O.getD i zE)).length<=(bE x).length
def Wv(x:J)(h:aB x=true)(e:x.ai=3):0<=x.aZ/\x.aZ<=9/\(lq x.aZ).length=1/\bE x=[116]++lq x.aZ:=by
 have:=(dD x h).1 (.inl e);exact⟨this.1,this.2,AT _ this,(dK x h).2.2.1 e⟩
def Ww(x:J)(h:aB x=true)(e:x.ai=4):0<=x.aZ/\x.aZ<=9/\(lq x.aZ).length=1/\bE x=[97]++lq x.aZ:=by
 have:=(dD x h).1 (.inr e);exact⟨this.1,this.2,AT _ this,(dK x h).2.2.2.1 e⟩
def Wx(x:J)(h:aB x=true)(e:x.ai=5):x.O.length=1/\TK x 0/\bE x=[126]++bE (x.O.getD 0 zE):=by
 have hk:=(dD x h).2.1 (.inl e);have ht:=(dK x h).2.2.2.2.1 e;exact⟨hk.1,⟨hk.2.1,hk.2.2,by rw[ht];simp⟩,ht⟩
def P9(x:J)(h:aB x=true)(e:x.ai=6):x.O.length=2/\TK x 0/\TK x 1/\bE x=[40]++bE (x.O.getD 0 zE)++[32,43,32]++bE (x.O.getD 1 zE)++[41]:=by
 have hk:=(dD x h).2.2.1 (.inl e);have ht:=(dK x h).2.2.2.2.2.1 e;exact⟨hk.1,⟨hk.2.1.1,hk.2.1.2,by rw[ht];simp;omega⟩,⟨hk.2.2.1,hk.2.2.2,by rw[ht];simp;omega⟩,by rw[ht];simp⟩
def Qa(x:J)(h:aB x=true)(e:x.ai=7):x.O.length=2/\TK x 0/\TK x 1/\bE x=[40]++bE (x.O.getD 0 zE)++[32]++bE (x.O.getD 1 zE)++[41]:=by
 have hk:=(dD x h).2.2.1 (.inr e);have ht:=(dK x h).2.2.2.2.2.2.1 e;exact⟨hk.1,⟨hk.2.1.1,hk.2.1.2,by rw[ht];simp;omega⟩,⟨hk.2.2.1,hk.2.2.2,by rw[ht];simp;omega⟩,by rw[ht];simp⟩
def a2Y(x:J)(h:aB x=true)(e1:¬ x.ai=1)(e2:¬ x.ai=2)(e3:¬ x.ai=3)(e4:¬ x.ai=4)(e5:¬ x.ai=5)(e6:¬ x.ai=6)(e7:¬ x.ai=7):x.O.length=1/\TK x 0/\bE x=bE (x.O.getD 0 zE)++[42]:=by
 have e:x.ai=8:=by have:=(dD x h).2.2.2;omega
 have hk:=(dD x h).2.1 (.inr e);have ht:=(dK x h).2.2.2.2.2.2.2 e;exact⟨hk.1,⟨hk.2.1,hk.2.2,by rw[ht];simp⟩,ht⟩
def kA(n:Nat):aW:=⟨lU,[.r (.st .expr)],λ (x:J)=>⟨(some (bu x<n/\aB x=true/\(bE x).length<=1000000),[⟨.str,bE x⟩])⟩⟩
def KK:aW:=⟨lU,[.r (.st .expr)],λ (x:J)=>⟨(some (aB x=true/\(bE x).length<=1000000),[⟨.str,bE x⟩])⟩⟩
def K0(x:J):Nat->aL:=cB
def Jj(n:Nat)(hE:bj [kA n,qo]):aW.Good (kA (n+1)):=by
 refine⟨aD kc,?_⟩;intro (x:J) (hp:bu x<n+1/\aB x=true/\(bE x).length<=1000000);refine aV [kA n,qo] [] [] [] hE kc Ej (K0 x) (let v0:=x.O.getD 0 zE;let v1:=x.O.getD 1 zE;let v5:=bE v0;let v2:=bu v0<n/\aB v0=true/\v5.length<=1000000;let v3:=([40])++v5;let v6:=lq x.aZ;let v7:=bE v1;let v4:=bu v1<n/\aB v1=true/\v7.length<=1000000;let v8:=v3++([32,43,32]);((au x.ai->(((decide (x.ai=(1:Int)))=true->([48])=(bE x))/\((decide (x.ai=(1:Int)))=false->(((decide (x.ai=(2:Int)))=true->([49])=(bE x))/\((decide (x.ai=(2:Int)))=false->(((decide (x.ai=(3:Int)))=true->(au x.aZ->((0<=x.aZ/\x.aZ<=9)/\(v6.length<=140737488355328->(([116]).length+v6.length<=140737488355328/\(([116])++v6)=(bE x))))))/\((decide (x.ai=(3:Int)))=false->(((decide (x.ai=(4:Int)))=true->(au x.aZ->((0<=x.aZ/\x.aZ<=9)/\(v6.length<=140737488355328->(([97]).length+v6.length<=140737488355328/\(([97])++v6)=(bE x))))))/\((decide (x.ai=(4:Int)))=false->(((decide (x.ai=(5:Int)))=true->(x.O.length<=140737488355328->(aE (0:Int) x.O.length/\(v2/\(v5.length<=140737488355328->(([126]).length+v5.length<=140737488355328/\(([126])++v5)=(bE x)))))))/\((decide (x.ai=(5:Int)))=false->(((decide (x.ai=(6:Int)))=true->(aE (0:Int) x.O.length/\(v2/\(([40]).length+v5.length<=140737488355328/\(v3.length+([32,43,32]).length<=140737488355328/\(aE (1:Int) x.O.length/\(v4/\(x.O.length<=140737488355328->(v5.length<=140737488355328->(x.O.length<=140737488355328->(v7.length<=140737488355328->(v8.length+v7.length<=140737488355328/\((v8++v7).length+([41]).length<=140737488355328/\((v8++v7)++([41]))=(bE x))))))))))))))/\((decide (x.ai=(6:Int)))=false->(((decide (x.ai=(7:Int)))=true->(aE (0:Int) x.O.length/\(v2/\(([40]).length+v5.length<=140737488355328/\(v3.length+([32]).length<=140737488355328/\(aE (1:Int) x.O.length/\(v4/\(x.O.length<=140737488355328->(v5.length<=140737488355328->(x.O.length<=140737488355328->(v7.length<=140737488355328->((v3++([32])).length+v7.length<=140737488355328/\(((v3++([32]))++v7).length+([41]).length<=140737488355328/\(((v3++([32]))++v7)++([41]))=(bE x))))))))))))))/\((decide (x.ai=(7:Int)))=false->(x.O.length<=140737488355328->(aE (0:Int) x.O.length/\(v2/\(v5.length<=140737488355328->(v5.length+([42]).length<=140737488355328/\(v5++([42]))=(bE x))))))))))))))))))))))) ?_;obtain⟨hm,hg,hl⟩:=hp;have f1:=(dK x hg).1;have f2:=(dK x hg).2.1;have f3:=Wv x hg;have f4:=Ww x hg;have f5:=Wx x hg;have f6:=P9 x hg;have f7:=Qa x hg;have f8:=a2Y x hg;refine λ _=>⟨λ _=>?_,λ _=>⟨λ _=>?_,λ _=>⟨λ a3 a4=>⟨?_,λ a5=>⟨?_,?_⟩⟩,λ a3=>⟨λ a4 a5=>⟨?_,λ a6=>⟨?_,?_⟩⟩,λ a4=>⟨λ a5 a6=>⟨?_,?_,λ a7=>⟨?_,?_⟩⟩,λ a5=>⟨λ a6=>⟨?_,?_,?_,?_,?_,?_,λ a7 a8 _ _=>⟨?_,?_,?_⟩⟩,λ a6=>⟨λ a7=>⟨?_,?_,?_,?_,?_,?_,λ a8 _ _ _=>⟨?_,?_,?_⟩⟩,λ a7 a8=>⟨?_,?_,λ _=>⟨?_,?_⟩⟩⟩⟩⟩⟩⟩⟩⟩;all_goals try and_intros
 all_goals ((try simp only[a7D,a7C,aE] at *);(first|replace f1:=f1 (by with_reducible assumption)|clear f1);(first|replace f2:=f2 (by with_reducible assumption)|clear f2);(first|replace f3:=f3 (by with_reducible assumption)|clear f3);(first|replace f4:=f4 (by with_reducible assumption)|clear f4);(first|replace f5:=f5 (by with_reducible assumption)|clear f5);(first|replace f6:=f6 (by with_reducible assumption)|clear f6);(first|replace f7:=f7 (by with_reducible assumption)|clear f7);(first|replace f8:=f8 (by with_reducible assumption) (by with_reducible assumption) (by with_reducible assumption) (by with_reducible assumption) (by with_reducible assumption) (by with_reducible assumption) (by with_reducible assumption)|clear f8);(try obtain⟨a5,b5,c5⟩:=f5);(try obtain⟨a8,b8,c8⟩:=f8);(try obtain⟨a3,b3,b3b,c3⟩:=f3);(try obtain⟨a4,b4,b4b,c4⟩:=f4);(try obtain⟨a6,b6,b6b,c6⟩:=f6);(try obtain⟨a7,b7,b7b,c7⟩:=f7);  first|rfl|omega|exact TK.qS (by assumption)|exact f1.symm|exact f2.symm|(have t0:=TK.len ‹TK x 0›;have t1:=TK.less ‹TK x 0›;omega)|(have t0:=TK.len ‹TK x 1›;have t1:=TK.less ‹TK x 1›;omega)|exact (Eq.symm (by assumption))|(simp only[a7K,a7I,a7T];have t0:=TK.len ‹TK x 0›;first|omega|(have t1:=TK.len ‹TK x 1›;omega))|(simp only[a7K,a7I,a7T];omega))
def JD :∀ n,bj [kA n]
 | 0=>⟨⟨aD kc,λ _ h=>absurd h.1 (a8a _)⟩,af⟩
 | n+1=>by
  have ih:=JD  n;exact⟨Jj n ⟨ih.1,EH,af⟩,af⟩
def EL :aW.Good KK :=
 ⟨aD kc,λ x hp=>(JD  (bu x+1)).1.2 x (⟨a7M _,hp⟩)⟩
end
end Go.Proofs.YtncejbehidimmaaGreatDoor

namespace Go.Proofs.YtncejbehidimmaaGreatDoor
noncomputable section
def WN(x y:J):dT x y=(decide (x.ai=y.ai)&&decide (x.aZ=y.aZ)&&dT x.O y.O):=by
 refine b1l.2 ?_;cases x;cases y;simp[and_assoc]
def ky(n:Nat):aW:=⟨lT,[.r (.st .expr), .r (.st .expr)],λ (x:J) (y:J)=>⟨(some (bu x<n),[⟨.bool,dT x y⟩])⟩⟩
def zx:aW:=⟨lT,[.r (.st .expr), .r (.st .expr)],λ (x:J) (y:J)=>⟨(none,[⟨.bool,dT x y⟩])⟩⟩
def KY(x:J)(y:J):Nat->aL:=(eS 0 (.b (Nat) (λ k=>k<=x.O.length/\x.O.length=y.O.length/\x.O.take k=y.O.take k/\x.ai=y.ai/\x.aZ=y.aZ) (λ k=>x.O.length - k) [6,7,8,9,10,11,12,13,14,15,16,17,18,19,20,21,22,23,24,25,26,27,28,29,30,31,32,33,34,35,36,37,38] (λ k=>[(5, .aQ ⟨(.int .i64),((k:Int):Int)⟩)])) cB)
abbrev ng(n:Nat)(x:J)(y:J):Prop:=(let v0:=(x.O.length:Int);((∃ k1:Nat,((k1<=x.O.length/\x.O.length=y.O.length/\x.O.take k1=y.O.take k1/\x.ai=y.ai/\x.aZ=y.aZ)/\((x=x/\(y=y/\((0:Int)=(k1:Int)/\True)))/\True)))/\(∀ k1:Nat,let v1 := !(dT (x.O.getD k1 zE) (y.O.getD k1 zE));let v2:=(k1:Int);((k1<=x.O.length/\x.O.length=y.O.length/\x.O.take k1=y.O.take k1/\x.ai=y.ai/\x.aZ=y.aZ) ->
 (x.O.length<=140737488355328 ->
 (au v0 ->
 (((decide (v2<v0))=true ->
 (aE v2 x.O.length/\(aE v2 y.O.length/\(x.O.length<=140737488355328 ->
 (y.O.length<=140737488355328 ->
 (bu (x.O.getD k1 zE)<n/\((v1=true ->
 false=(dT x y))/\(v1=false ->
 (au (v2+(1:Int))/\(∃ k2:Nat,((k2<=x.O.length/\x.O.length=y.O.length/\x.O.take k2=y.O.take k2/\x.ai=y.ai/\x.aZ=y.aZ)/\(x.O.length - k2<x.O.length - k1/\((x=x/\(y=y/\((v2+(1:Int))=(k2:Int)/\True)))/\True)))))))))))))/\((decide (v2<v0))=false ->
 true=(dT x y)))))))))
abbrev uU(n:Nat)(x:J)(y:J):Prop:=(let v0 := !(decide (((x.O.length:Int))=((y.O.length:Int))));(x.O.length<=140737488355328 ->
 (au ((x.O.length:Int)) ->
 (y.O.length<=140737488355328 ->
 (au ((y.O.length:Int)) ->
 ((v0=true ->
 false=(dT x y))/\(v0=false ->
 (ng n x y))))))))
def Jh(n:Nat)(hE:bj [ky n]):aW.Good (ky (n+1)):=by
 refine⟨aD j8,?_⟩;intro (x:J) (y:J) (hp:bu x<n+1);refine aV [ky n] [] [] [] hE j8 Eh (KY x y) ((((!(decide (x.ai=y.ai)))=false->(((!(decide (x.aZ=y.aZ)))=false->(au x.ai->(au y.ai->(au x.aZ->(au y.aZ->(uU n x y))))))/\((!(decide (x.aZ=y.aZ)))=(!false)->(au x.ai->(au y.ai->(au x.aZ->(au y.aZ->((true=true->false=(dT x y))/\(true=false->(ng n x y))))))))))/\((!(decide (x.ai=y.ai)))=(!false)->((true=false->(au x.ai->(au y.ai->(uU n x y))))/\(true=(!false)->(au x.ai->(au y.ai->((true=true->false=(dT x y))/\(true=false->(ng n x y)))))))))) ?_;have f0:=er x;have f3:=WN x y;refine⟨λ _=>⟨λ _ _ _ _ _ _ _ _ _=>⟨λ _=>?_,λ _=>⟨⟨0,?_,⟨rfl,rfl,?_,af⟩,af⟩,λ k1 _=>have TY:=oH zE x.O y.O k1;have TZ:=ig x.O y.O k1;have T1:=cf zE x.O k1;λ _ _=>⟨λ _=>⟨?_,?_,λ _ _=>⟨?_,λ _=>?_,λ _=>⟨?_,k1+1,?_,?_,⟨rfl,rfl,?_,af⟩,af⟩⟩⟩,λ _=>?_⟩⟩⟩,λ _ _ _ _ _=>⟨λ _=>?_,λ _=>⟨⟨0,?_,⟨rfl,rfl,?_,af⟩,af⟩,λ k1 _=>have X8:=oH zE x.O y.O k1;have X9:=ig x.O y.O k1;have Ya:=cf zE x.O k1;λ _ _=>⟨λ _=>⟨?_,?_,λ _ _=>⟨?_,λ _=>?_,λ _=>⟨?_,k1+1,?_,?_,⟨rfl,rfl,?_,af⟩,af⟩⟩⟩,λ _=>?_⟩⟩⟩⟩,λ _=>⟨λ _ _ _ _ _ _ _=>⟨λ _=>?_,λ _=>⟨⟨0,?_,⟨rfl,rfl,?_,af⟩,af⟩,λ k1 _=>have a1R:=oH zE x.O y.O k1;have a1S:=ig x.O y.O k1;have a1T:=cf zE x.O k1;λ _ _=>⟨λ _=>⟨?_,?_,λ _ _=>⟨?_,λ _=>?_,λ _=>⟨?_,k1+1,?_,?_,⟨rfl,rfl,?_,af⟩,af⟩⟩⟩,λ _=>?_⟩⟩⟩,λ _ _ _=>⟨λ _=>?_,λ _=>⟨⟨0,?_,⟨rfl,rfl,?_,af⟩,af⟩,λ k1 _=>have a4J:=oH zE x.O y.O k1;have a4K:=ig x.O y.O k1;have a4L:=cf zE x.O k1;λ _ _=>⟨λ _=>⟨?_,?_,λ _ _=>⟨?_,λ _=>?_,λ _=>⟨?_,k1+1,?_,?_,⟨rfl,rfl,?_,af⟩,af⟩⟩⟩,λ _=>?_⟩⟩⟩⟩⟩;all_goals try and_intros
 all_goals first|rfl|trivial|(simp only[decide_eq_true_eq,decide_eq_false_iff_not,Bool.not_eq_false',Bool.not_eq_true',decide_not,aE,au] at *;first|omega|grind)|grind [Mv,Pt]
def JB :∀ n,bj [ky n]
 | 0=>⟨⟨aD j8,λ _ _ h=>absurd h (a8a _)⟩,af⟩
 | n+1=>by
  have ih:=JB  n;exact⟨Jh n ⟨ih.1,af⟩,af⟩
def sK :aW.Good zx :=
 ⟨aD j8,λ x y hp=>(JB  (bu x+1)).1.2 x y (a7M _)⟩
def Tr(bl:List Int)(pos:Int):Int:=if pos<(bl.length:Int) then bl.getD pos.toNat 0 else 0
def HK(bl:List Int)(pos eb:Int):Int:=IntKind.u64.wrap (IntKind.u64.wrap (IntKind.u64.wrap (eb * 6364136223846793005)+Tr bl pos)+1442695040888963407)
def Wq(s:Int):Int:=(((s.fdiv (2 ^ Int.toNat 40)).toNat &&& Int.toNat 255:Nat):Int)
def HJ(bl:List Int)(pos eb:Int):Int:=if pos+1<=(bl.length:Int) then Tr bl pos else Wq (HK bl pos eb)
def Gd(bl:List Int):Prop:=∀ i,i<bl.length->0<=bl.getD i 0/\bl.getD i 0<=255
def XH(n:Int):0<=IntKind.u64.wrap n/\IntKind.u64.wrap n<=18446744073709551615:=by
 simp[IntKind.wrap,IntKind.signed,IntKind.bits];omega
def Tu(bl:List Int)(pos eb:Int):0<=HK bl pos eb/\HK bl pos eb<=18446744073709551615:=XH _
def a0r(bl:List Int)(pos:Int)(h:Gd bl)(h0:0<=pos):0<=Tr bl pos/\Tr bl pos<=255:=by
 unfold Tr;split
 .exact h _ (by omega)
 .omega
def a0s(s:Int):0<=Wq s/\Wq s<=255:=by
 have:(s.fdiv (2 ^ Int.toNat 40)).toNat &&& Int.toNat 255<=255:=Nat.and_le_right;unfold Wq;omega
def Tt(bl:List Int)(pos eb:Int)(h:Gd bl)(h0:0<=pos):0<=HJ bl pos eb/\HJ bl pos eb<=255:=by
 unfold HJ;split
 .exact a0r bl pos h h0
 .exact a0s _
def pkX(bl:List Int)(pos eb n:Int):Int:=if 200<n then HJ bl pos eb * 256+HJ bl (pos+1) (HK bl pos eb) else HJ bl pos eb
def ZW(bl:List Int)(pos eb n:Int):Int:=if n<=1 then 0 else (pkX bl pos eb n).tmod n
def Xn(pos n:Int):Int:=if n<=1 then pos else if 200<n then pos+1+1 else pos+1
def pkS(bl:List Int)(pos eb n:Int):Int:=if n<=1 then eb else if 200<n then HK bl (pos+1) (HK bl pos eb) else HK bl pos eb
def TC(a n:Int)(h:0<=a)(hn:0<n):0<=a.tmod n/\a.tmod n<n:=by
 rw[Int.tmod_eq_emod_of_nonneg h];exact⟨Int.emod_nonneg _ (by omega),Int.emod_lt_of_pos _ hn⟩
def a1x(bl:List Int)(pos eb n:Int)(h:Gd bl)(h0:0<=pos):0<=ZW bl pos eb n/\(ZW bl pos eb n=0\/ZW bl pos eb n<n):=by
 have h1:=Tt bl pos eb h h0;have h2:=Tt bl (pos+1) (HK bl pos eb) h (by omega);unfold ZW pkX;split
 .omega
 .split
  .have:=TC (HJ bl pos eb * 256+HJ bl (pos+1) (HK bl pos eb)) n (by omega) (by omega);omega
  .have:=TC (HJ bl pos eb) n (by omega) (by omega);omega
structure Sr where
 pos:Int
 eb:Int
def pkN(bl:List Int)(s:Sr)(n:Int):Sr:=⟨Xn s.pos n,pkS bl s.pos s.eb n⟩
def pk(bl:List Int)(s:Sr)(n:Int):Int:=ZW bl s.pos s.eb n
structure yR(bl:List Int)(s:Sr)(m:Int):Prop where
 c:Gd bl
 p:0<=s.pos
 m:s.pos<=m
 l:bl.length<=1000000
 s0:0<=s.eb
 s1:s.eb<=18446744073709551615
def a1w(bl:List Int)(pos eb n:Int)(h:0<=eb/\eb<=18446744073709551615):0<=pkS bl pos eb n/\pkS bl pos eb n<=18446744073709551615:=by
 unfold pkS;split
 .exact h
 .split
  .exact Tu _ _ _
  .exact Tu _ _ _
def a1v(pos n:Int):pos<=Xn pos n/\Xn pos n<=pos+2:=by
 unfold Xn;split
 .omega
 .split<;>omega
def yR.next{bl:List Int}{s:Sr}{m:Int}(h:yR bl s m)(n:Int):yR bl (pkN bl s n) (m+2):=by
 have h1:=a1v s.pos n;have h2:=a1w bl s.pos s.eb n ⟨h.s0,h.s1⟩;have:=h.p;have:=h.m;exact⟨h.c,by show 0<=Xn s.pos n;omega,by show Xn s.pos n<=m+2;omega,h.l,h2.1,h2.2⟩
def yR.mono{bl:List Int}{s:Sr}{m k:Int}(h:yR bl s m)(hk:m<=k):yR bl s k:=⟨h.c,h.p,by have:=h.m;omega,h.l,h.s0,h.s1⟩
def yR.pk{bl:List Int}{s:Sr}{m:Int}(h:yR bl s m)(n:Int):0<=pk bl s n/\(pk bl s n=0\/pk bl s n<n):=a1x bl s.pos s.eb n h.c h.p
def a6b(bl:List Int)(s:Sr)(n:Int):Bool:=decide (pk bl s n=0)
def iJ(n:Nat):aW:=⟨ow,[.v (.st .expr)],λ (e:J)=>⟨(some (bu e<n/\aU e<=1048576),[⟨(.st .expr),e⟩])⟩⟩
def jt:aW:=⟨ow,[.v (.st .expr)],λ (e:J)=>⟨(some (aU e<=1048576),[⟨(.st .expr),e⟩])⟩⟩
def Hi(e:J):Nat->aL:=(eS 0 (.a (Nat) (λ i=>i<=e.O.length) (λ i=>e.O.length - i) [0,1,6,7,8,9,10,11] (λ i=>[(14, .aQ ⟨(.int .i64),((i:Int):Int)⟩)]) [2] (λ i=>[(3, .box [.aQ ⟨(.int .i64),(e.ai:Int)⟩, .aQ ⟨(.int .i64),(e.aZ:Int)⟩, .aC 2400]),(2400, .aC (.st .expr) (e.O.take i:List J))])) cB)
def Fm(n:Nat)(hE:bj [])(hO:uh [iJ n])(hM:yP [])(hS:yQ []):aW.Ax (iJ (n+1)):=by
 refine⟨aD jk,?_⟩;intro (e:J) (hp:bu e<n+1/\aU e<=1048576);refine NO [] [iJ n] [] [] [21,22,23] [] [] [1] hE hO hM hS jk CQ (Hi e) (let v0:=(e.O.length:Int);let v1:=((0:Int)=(0:Int)/\((0:Int)=(0:Int)/\(True/\True)))/\True;let v2:=(3:Nat)=3/\(2:Nat)=2;let v3:=e.ai=e.ai/\(e.aZ=e.aZ/\(True/\True));((au e.ai->(au e.aZ->(e.O.length<=140737488355328->(au v0->((∃ i1:Nat,(i1<=e.O.length/\((True/\(True/\(e.O=e.O/\(v0=v0/\((0:Int)=(i1:Int)/\True)))))/\(v3/\((e.O.take i1)=[]/\v1)))))/\(∀ i1:Nat,let v4:=e.O.getD i1 zE;(i1<=e.O.length->(((decide ((i1:Int)<v0))=true->(aE (i1:Int) e.O.length/\(v2/\((2400:Nat)=2400/\((v4.ai=v4.ai/\(v4.aZ=v4.aZ/\(v4.O=v4.O/\True)))/\((bu (aP v4)<n/\aU (aP v4)<=1048576)/\(v2/\((2400:Nat)=2400/\(v2/\((2400:Nat)=2400/\(bB ((e.O.take i1).length+([(aP v4)]).length) 40/\(au ((i1:Int)+(1:Int))/\(∃ i2:Nat,(i2<=e.O.length/\(e.O.length - i2<e.O.length - i1/\((True/\(True/\(e.O=e.O/\(v0=v0/\(((i1:Int)+(1:Int))=(i2:Int)/\True)))))/\(v3/\(((e.O.take i1)++([(aP v4)]))=(e.O.take i2)/\v1))))))))))))))))))/\((decide ((i1:Int)<v0))=false->(J.mk e.ai e.aZ (e.O.take i1))=e))))))))))) ?_;rw[vF] at hp;have f0:=er e;have f1:=λ i (h:i<e.O.length)=>CA aU zE e.O i h;have f2:=λ i (h:i<e.O.length)=>cf zE e.O i h;have f3:=λ i (h:i<e.O.length)=>jS zE e.O i h;have f4:e.O.take 0=[]:=by simp
 have f5:∀ i,e.O.length<=i->e.O.take i=e.O:=λ i h=>a8o h;have f6:∀ i,(e.O.take i).length<=e.O.length:=λ i=>by simp;omega
 have f7:∀ ks,ks=e.O->J.mk e.ai e.aZ ks=e:=λ ks h=>by subst h;cases e;rfl
 refine λ _ _ _ _=>⟨⟨0,?_,⟨af,af,rfl,rfl,?_,af⟩,⟨rfl,rfl,af,af⟩,?_,⟨rfl,rfl,af,af⟩,af⟩,λ i1 _=>⟨λ _=>⟨?_,⟨?_,?_⟩,?_,⟨rfl,rfl,rfl,?_⟩,?_,⟨?_,?_⟩,?_,⟨?_,?_⟩,?_,?_,?_,i1+1,?_,?_,⟨af,af,rfl,rfl,?_,af⟩,⟨rfl,rfl,af,af⟩,?_,⟨rfl,rfl,af,af⟩,af⟩,λ _=>?_⟩⟩;all_goals try and_intros
 all_goals try (first|with_reducible rfl|with_reducible assumption)
 all_goals try simp only[J.eta,cu] at *
 all_goals first|rfl|trivial|omega|(simp only[a7D,a7C,aE,au,bB,a7I,a7T] at *;first|omega|(have:=f6 i1;omega)|exact f7 _ (f5 _ (by omega))|grind)|grind
def JF:∀ n,uh [iJ n]
 | 0=>⟨⟨aD jk,λ _ h=>absurd h.1 (a8a _)⟩,af⟩
 | n+1=>by
  have ih:=JF n;exact⟨Fm n trivial ⟨ih.1,af⟩ trivial trivial,af⟩
def BR:aW.Ax jt :=
 ⟨aD jk,λ e hp=>(JF (bu e+1)).1.2 e (⟨a7M _,hp⟩)⟩
def kH(n:Nat):aW:=⟨np,[.r (.st .expr)],λ (e:J)=>⟨(some (bu e<n/\aU e<=1048576),[⟨(.st .expr),e⟩])⟩⟩
def ez:aW:=⟨np,[.r (.st .expr)],λ (e:J)=>⟨(some (aU e<=1048576),[⟨(.st .expr),e⟩])⟩⟩
def Le(e:J):Nat->aL:=(eS 0 (.a (Nat) (λ i=>i<=e.O.length) (λ i=>e.O.length - i) [5,6,7,8,9,10,11,12,13] (λ i=>[(4, .aQ ⟨(.int .i64),((i:Int):Int)⟩)]) [2] (λ i=>[(3, .box [.aQ ⟨(.int .i64),(e.ai:Int)⟩, .aQ ⟨(.int .i64),(e.aZ:Int)⟩, .aC 3400]),(3400, .aC (.st .expr) (e.O.take i:List J))])) cB)
def Jo(n:Nat)(hE:bj [])(hO:uh [kH n])(hM:yP [])(hS:yQ []):aW.Ax (kH (n+1)):=by
 refine⟨aD lK,?_⟩;intro (e:J) (hp:bu e<n+1/\aU e<=1048576);refine NO [] [kH n] [] [] [31,32,33] [] [] [] hE hO hM hS lK F8 (Le e) (let v0:=((0:Int)=(0:Int)/\((0:Int)=(0:Int)/\(True/\True)))/\True;let v1:=(3:Nat)=3/\(2:Nat)=2;let v2:=e.ai=e.ai/\(e.aZ=e.aZ/\(True/\True));let v3:=(e.O.length:Int);((au e.ai->(au e.aZ->((∃ i1:Nat,(i1<=e.O.length/\((e=e/\(True/\(True/\((0:Int)=(i1:Int)/\True))))/\(v2/\((e.O.take i1)=[]/\v0)))))/\(∀ i1:Nat,let v4:=e.O.getD i1 zE;let v5:=(i1:Int);(i1<=e.O.length->(e.O.length<=140737488355328->(au v3->(((decide (v5<v3))=true->(e.O.length<=140737488355328->(au v5->(aE v5 e.O.length/\(v1/\((3400:Nat)=3400/\(e=e/\(e=e/\(e.O=e.O/\(e.O=e.O/\(v5=v5/\(aE v5 e.O.length/\(v4=v4/\((bu v4<n/\aU v4<=1048576)/\(v1/\((3400:Nat)=3400/\(v1/\((3400:Nat)=3400/\(bB ((e.O.take i1).length+([(aP v4)]).length) 40/\(au (v5+(1:Int))/\(∃ i2:Nat,(i2<=e.O.length/\(e.O.length - i2<e.O.length - i1/\((e=e/\(True/\(True/\((v5+(1:Int))=(i2:Int)/\True))))/\(v2/\(((e.O.take i1)++([(aP v4)]))=(e.O.take i2)/\v0))))))))))))))))))))))))))/\((decide (v5<v3))=false->(J.mk e.ai e.aZ (e.O.take i1))=e))))))))))) ?_;rw[vF] at hp;have f0:=er e;have f1:=λ i (h:i<e.O.length)=>CA aU zE e.O i h;have f2:=λ i (h:i<e.O.length)=>cf zE e.O i h;have f3:=λ i (h:i<e.O.length)=>jS zE e.O i h;have f4:e.O.take 0=[]:=by simp
 have f5:∀ i,e.O.length<=i->e.O.take i=e.O:=λ i h=>a8o h;have f6:∀ i,(e.O.take i).length<=e.O.length:=λ i=>by simp;omega
 have f7:∀ ks,ks=e.O->J.mk e.ai e.aZ ks=e:=λ ks h=>by subst h;cases e;rfl
 refine λ _ _=>⟨⟨0,?_,⟨rfl,af,af,?_,af⟩,⟨rfl,rfl,af,af⟩,?_,⟨rfl,rfl,af,af⟩,af⟩,λ i1 _ _ _=>⟨λ _ _ _=>⟨?_,⟨?_,?_⟩,?_,rfl,rfl,rfl,rfl,rfl,?_,rfl,?_,⟨?_,?_⟩,?_,⟨?_,?_⟩,?_,?_,?_,i1+1,?_,?_,⟨rfl,af,af,?_,af⟩,⟨rfl,rfl,af,af⟩,?_,⟨rfl,rfl,af,af⟩,af⟩,λ _=>?_⟩⟩;all_goals try and_intros
 all_goals try (first|with_reducible rfl|with_reducible assumption)
 all_goals try simp only[J.eta,cu] at *
 all_goals first|rfl|trivial|omega|(simp only[a7D,a7C,aE,au,bB,a7I,a7T] at *;first|omega|(have:=f6 i1;omega)|exact f7 _ (f5 _ (by omega))|grind)|grind
def L0:∀ n,uh [kH n]
 | 0=>⟨⟨aD lK,λ _ h=>absurd h.1 (a8a _)⟩,af⟩
 | n+1=>by
  have ih:=L0 n;exact⟨Jo n trivial ⟨ih.1,af⟩ trivial trivial,af⟩
def Fl:aW.Ax ez :=
 ⟨aD lK,λ e hp=>(L0 (bu e+1)).1.2 e (⟨a7M _,hp⟩)⟩
def gu:aW.Good ez:=Fl.plain
mutual
def P6:∀ x:J,aU x+1=aj x
 | ⟨_,_,ks⟩=>by
  have:=Oh ks;simp only[aU,aj];omega
def Oh:∀ xs:List J,xs.length+rL xs=jO xs
 | []=>rfl
 | x::xs=>by
  have h1:=P6 x;have h2:=Oh xs;simp only[rL,jO,a7I];omega
end
structure Gn where
 e:J
 s:Sr
 left:Int
def gnS(bl:List Int)(c:Bool)(s:Sr)(n:Int):Sr:=if c=true then s else pkN bl s n
def wG:Nat->Nat
 | 0=>1
 | d+1=>1+wG d+wG d
structure a6J(bl:List Int)(t a:Int)(d:Nat)(c:Bool)(m left:Int)(r:Gn):Prop where
 tr:bS (t - 1) (a - 1) r.e=true
 cn:c=true->bH r.e=true
 nd:aj r.e<=wG d
 dp:bK r.e<=d+1
 sr:yR bl r.s (m+16 * wG d)
 l0:left - wG d<=r.left
 l1:r.left<=left
def XF(t a:Int)(x:J)(k:Int)(h:bS t a x=true)(hk:(k=5/\bH x=true)\/k=8):bS t a (J.mk k 0 [x])=true:=by
 simp only[bS,rB,og,h,b0L];rcases hk with ⟨rfl,hc⟩|rfl
 .simp[cz,hc]
 .simp[cz]
def XG(t a:Int)(x y:J)(k:Int)(h1:bS t a x=true)(h2:bS t a y=true)(hk:k=6\/k=7):bS t a (J.mk k 0 [x,y])=true:=by
 simp only[bS,rB,og,h1,h2,b0L];rcases hk with rfl|rfl<;>simp[cz]
structure InG(bl:List Int)(Mo left:Int)(s:Sr):Prop where
 d:¬ Mo<1
 l:¬ left - 1<1
 o:a6b bl s 6=false
structure GnB(bl:List Int)(Mo left:Int)(s:Sr)(k:Int):Prop where
 s:yR bl s (980000000 - 16 * (wG (Mo - 1).toNat:Int) - k)
 l0 : -1000000+(wG (Mo - 1).toNat:Int)<=left
 l1:left<=1000000
def a1a(bl:List Int)(c:Bool)(s:Sr)(n k:Int)(h:yR bl s k):yR bl (gnS bl c s n) (k+2):=by
 unfold gnS;split
 .exact h.mono (by omega)
 .exact h.next n
def GnB.go{bl:List Int}{Mo left:Int}{s:Sr}(h:GnB bl Mo left s 8)(c:Bool)(n:Int):GnB bl Mo left (gnS bl c s n) 0:=⟨(a1a bl c s n _ h.s).mono (by omega),h.l0,h.l1⟩
mutual
def ym{α:Type}(f:J->List α->α):J->α
 | ⟨k,n,ks⟩=>f ⟨k,n,ks⟩ (jn f ks)
def jn{α:Type}(f:J->List α->α):List J->List α
 | []=>[]
 | x::xs=>ym f x::jn f xs
end
def eM{α:Type}(f:J->List α->α)(d:α)(z:J):∀ (xs:List J) (i:Nat),i<xs.length->(jn f xs).getD i d=ym f (xs.getD i z)
 | [],i,h=>by simp at h
 | x::xs,0,h=>by simp[jn]
 | x::xs,i+1,h=>by
  have:=eM f d z xs i (by simpa using h);simpa [jn] using this
def ki{α:Type}(f:J->List α->α)(x:J):ym f x=f x (jn f x.O):=by
 cases x;rfl
structure B2(x:J):Prop where
 len:x.O.length=2
 g0:aB (x.O.getD 0 zE)=true
 g1:aB (x.O.getD 1 zE)=true
 l0:bu (x.O.getD 0 zE)<bu x
 l1:bu (x.O.getD 1 zE)<bu x
 nd:aj x=1+aj (x.O.getD 0 zE)+aj (x.O.getD 1 zE)
structure B1(x:J):Prop where
 len:x.O.length=1
 g0:aB (x.O.getD 0 zE)=true
 l0:bu (x.O.getD 0 zE)<bu x
 nd:aj x=1+aj (x.O.getD 0 zE)
def cG(x:J)(h:aB x=true)(e:x.ai=6\/x.ai=7):B2 x:=by
 obtain⟨h1,h2,h3⟩:=(dD x h).2.2.1 e;have hn:=gJ x;rw[a0y aj zE _ h1] at hn;exact⟨h1,h2.1,h3.1,h2.2,h3.2,by omega⟩
def jG(x:J)(h:aB x=true)(e:x.ai=5\/x.ai=8):B1 x:=by
 obtain⟨h1,h2⟩:=(dD x h).2.1 e;have hn:=gJ x;rw[a0x aj zE _ h1] at hn;exact⟨h1,h2.1,h2.2,by omega⟩
def Fk(x:J):1<=aj x:=by rw[gJ];omega
def ew(x:J)(h:aB x=true):x.ai=1\/x.ai=2\/x.ai=3\/x.ai=4\/x.ai=5\/x.ai=6\/x.ai=7\/x.ai=8:=(dD x h).2.2.2
def VT(x:J)(h:aB x=true)(e:x.ai=1\/x.ai=2\/x.ai=3\/x.ai=5):gX x=true:=by
 have h':=h;unfold gX;rw[B8 9 9 62 62 (by decide) (by decide) x (by simpa [aB] using h),Bool.true_and,rC,Bool.and_eq_true];simp only[aB] at h;rw[jd,mB] at h;simp only[Bool.and_eq_true,decide_eq_true_eq] at h;refine⟨by rcases e with e|e|e|e<;>rw[e]<;>decide,?_⟩;by_cases h5:x.ai=5
 .have hl:=(jG x h' (.inl h5)).len;have hc:bH (x.O.getD 0 zE)=true:=by simpa [h5] using h.1.2
  match hk:x.O,hl with
  | [a],_ =>
   rw[hk] at hc;simp only[cE,Bool.and_true];simpa using hc
 .have:x.O.length=0:=by
   have h1:=h.1.1.1;rcases e with e|e|e|e
   .rw[e] at h1;simp[cz] at h1;omega
   .rw[e] at h1;simp[cz] at h1;omega
   .rw[e] at h1;simp[cz] at h1;omega
   .exact absurd e h5
  rw[a8G this];rfl
def gF(a b:J)(k:Int)(h1:aB a=true)(h2:aB b=true)(hk:k=6\/k=7):aB (J.mk k 0 [a,b])=true:=XG 9 9 a b k h1 h2 hk
def Up(a:J)(h1:aB a=true):aB (J.mk 8 0 [a])=true:=XF 9 9 a 8 h1 (.inr rfl)
def PD:aB (J.mk 2 0 [])=true:=by decide
def EU:aB (J.mk 1 0 [])=true:=by decide
def jP(k:Int)(a b:J):aj (J.mk k 0 [a,b])=1+aj a+aj b:=by simp[aj,jO];omega
def SZ(k:Int)(a:J):aj (J.mk k 0 [a])=1+aj a:=by simp[aj,jO]
def BQ(k n:Int):aj (J.mk k n [])=1:=by simp[aj,jO]
def QD(a:Int)(x:J)(bs:List Bool):Bool:=if x.ai=4 then false else if x.ai=6 then bs.getD 0 false||bs.getD 1 false else if x.ai=7 then bs.getD 0 false&&bs.getD 1 false else if x.ai=8 then true else fU a x
def eE(a:Int)(x:J):Bool:=ym (QD a) x
def Mt(a:Int)(x:J):eE a x=QD a x (jn (QD a) x.O):=ki _ x
def VL(a:Int)(x:J)(i:Nat)(h:i<x.O.length):(jn (QD a) x.O).getD i false=eE a (x.O.getD i zE):=eM _ _ _ _ i h
def a2c(a:Int)(x:J)(h:x.ai=4):false=eE a x:=by rw[Mt];simp[QD,h]
def a2d(a:Int)(x:J)(h:x.ai=6)(b:B2 x):eE a x=(eE a (x.O.getD 0 zE)||eE a (x.O.getD 1 zE)):=by
 rw[Mt];simp only[QD,h];rw[VL a x 0 (by have:=b.len;omega),VL a x 1 (by have:=b.len;omega)];rfl
def a2e(a:Int)(x:J)(h:x.ai=7)(b:B2 x):eE a x=(eE a (x.O.getD 0 zE)&&eE a (x.O.getD 1 zE)):=by
 rw[Mt];simp only[QD,h];rw[VL a x 0 (by have:=b.len;omega),VL a x 1 (by have:=b.len;omega)];rfl
def a2f(a:Int)(x:J)(h:x.ai=8):true=eE a x:=by rw[Mt];simp[QD,h]
def VK(a:Int)(x:J)(h4:¬ x.ai=4)(h6:¬ x.ai=6)(h7:¬ x.ai=7)(h8:¬ x.ai=8):fU a x=eE a x:=by rw[Mt];simp[QD,h4,h6,h7,h8]
noncomputable def RC(x:J)(fs:List (List J->List J))(out:List J):List J :=
 if x.ai=1 then out else if x.ai=6 then fs.getD 1 id (fs.getD 0 id out) else if out.any (λ y=>dT y x)=true then out else out++[x]
noncomputable def dJ(x:J)(out:List J):List J:=ym RC x out
def RD(x:J)(out:List J):dJ x out=RC x (jn RC x.O) out:=congrFun (ki _ x) out
def a0e(x:J)(out:List J)(h:x.ai=1):dJ x out=out:=by rw[RD];simp[RC,h]
def a0f(x:J)(out:List J)(h:x.ai=6)(b:B2 x):dJ x out=dJ (x.O.getD 1 zE) (dJ (x.O.getD 0 zE) out):=by
 rw[RD];simp only[RC,h];rw[eM RC id zE x.O 0 (by have:=b.len;omega),eM RC id zE x.O 1 (by have:=b.len;omega)];rfl
def a0h(x:J)(out:List J)(h1:¬ x.ai=1)(h6:¬ x.ai=6)(ha:out.any (λ y=>dT y x)=true):dJ x out=out:=by
 rw[RD,RC,a7z h1,a7z h6,a7E ha]
def a0g(x:J)(out:List J)(h1:¬ x.ai=1)(h6:¬ x.ai=6)(ha:out.any (λ y=>dT y x)=false):dJ x out=out++[x]:=by
 rw[RD,RC,a7z h1,a7z h6,a7z (by rw[ha];decide)]
def eH(xs:List J):Nat:=cg aj xs+xs.length
def jF(xs:List J):Prop:=∀ y∈xs,aB y=true
def xN{α:Type}(f:α->Nat):∀ xs ys:List α,cg f (xs++ys)=cg f xs+cg f ys
 | [],ys=>by simp[cg]
 | x::xs,ys=>by simp only[a8p,cg,xN f xs ys];omega
def Fw:∀ (N:Nat) (x:J),bu x<N->aB x=true->∀ out,jF out->jF (dJ x out)/\eH (dJ x out)<=eH out+aj x+1
 | 0,x,h,_=>by omega
 | N+1,x,hN,h=>by
  intro out ho;by_cases h1:x.ai=1
  .rw[a0e x out h1];exact⟨ho,by omega⟩
  by_cases h6:x.ai=6
  .have b:=cG x h (.inl h6);rw[a0f x out h6 b];obtain⟨a1,a2⟩:=Fw N (x.O.getD 0 zE) (by have:=b.l0;omega) b.g0 out ho;obtain⟨c1,c2⟩:=Fw N (x.O.getD 1 zE) (by have:=b.l1;omega) b.g1 _ a1;exact⟨c1,by have:=b.nd;omega⟩
  rcases a8L (out.any (λ y=>dT y x)) with e|e
  .rw[a0h x out h1 h6 e];exact⟨ho,by omega⟩
  .rw[a0g x out h1 h6 e];refine⟨λ y hy=>?_,?_⟩
   .rcases a7y.1 hy with q|q
    .exact ho y q
    .rw[a7O] at q;rw[q];exact h
   .simp only[eH,xN,cg,a7K,a7I,a7T];omega
def OZ(y x:J):Bool:=Op.bytesLess (bE y) (bE x)
def fw(x:J):List J->List J
 | []=>[x]
 | y::ys=>if OZ y x=true then y::fw x ys else x::y::ys
def M9(x:J):∀ (ys:List J) (k:Nat),k<=ys.length->(∀ j y,j<k->ys[j]?=some y->OZ y x=true)->(∀ y,ys[k]?=some y->OZ y x=false)->fw x ys=ys.take k++x::ys.drop k
 | [],0,_,_,_=>rfl
 | y::ys,0,_,_,h=>by
  have:=h y rfl;rw[fw,a7z (by rw[this];decide)];rfl
 | y::ys,k+1,hk,h1,h2=>by
  have h0:=h1 0 y (by omega) rfl;have ih:=M9 x ys k (by simpa using hk) (λ j z hj e=>h1 (j+1) z (by omega) e) (λ z e=>h2 z e);rw[fw,if_pos h0,ih];rfl
 | [],k+1,hk,_,_=>by simp at hk
def SH(x:J):∀ ys y,y∈fw x ys↔y=x\/y∈ys
 | [],y=>by simp[fw]
 | z::zs,y=>by
  rw[fw];split
  .simp only[a7J,SH x zs y];constructor
   .rintro (h|h|h)
    .exact .inr (.inl h)
    .exact .inl h
    .exact .inr (.inr h)
   .rintro (h|h|h)
    .exact .inr (.inl h)
    .exact .inl h
    .exact .inr (.inr h)
  .simp only[a7J]
def SJ(x:J):∀ ys,eH (fw x ys)=eH ys+aj x+1
 | []=>by simp[fw,eH,cg]
 | z::zs=>by
  have ih:=SJ x zs;rw[fw];split
  .simp only[eH,cg,a7I] at ih ⊢;omega
  .simp only[eH,cg,a7I];omega
def yM(xs:List J):List J:=xs.foldl (λ out x=>fw x out) []
def RJ(xs:List J)(k:Nat):List J:=yM (xs.take k)
def XA(xs:List J)(k:Nat)(x:J)(h:xs[k]?=some x):RJ xs (k+1)=fw x (RJ xs k):=by
 have e:xs.take (k+1)=xs.take k++[x]:=by rw[a9H,h];rfl
 simp only[RJ,yM,e,a9G,a9E,b0I]
def RL:∀ (xs acc:List J),(∀ y,y∈xs.foldl (λ out x=>fw x out) acc↔y∈xs\/y∈acc)/\eH (xs.foldl (λ out x=>fw x out) acc)=eH xs+eH acc/\(xs.foldl (λ out x=>fw x out) acc).length=xs.length+acc.length
 | [],acc=>by simp[eH,cg]
 | x::xs,acc=>by
  obtain⟨h1,h2,h3⟩:=RL xs (fw x acc);have ht:=SJ x acc;have hl:∀ ys:List J,(fw x ys).length=ys.length+1:=by
   intro ys;induction ys with
   | nil=>rfl
   | cons y ys ih=>rw[fw];split<;>simp[ih]
  refine⟨λ y=>?_,?_,?_⟩
  .rw[a9E,h1,SH,a7J];constructor
   .rintro (h|h|h)
    .exact .inl (.inr h)
    .exact .inl (.inl h)
    .exact .inr h
   .rintro ((h|h)|h)
    .exact .inr (.inl h)
    .exact .inl h
    .exact .inr (.inr h)
  .rw[a9E,h2,ht];simp only[eH,cg,a7I];omega
  .rw[a9E,h3,hl,a7I];omega
def mh:List J->J
 | []=>J.mk 1 0 []
 | x::xs=>xs.foldl (λ o y=>J.mk 6 0 [o,y]) x
noncomputable def Ln(a b:J):J:=mh (yM (dJ b (dJ a [])))
def SN:∀ (xs:List J) (o:J),aB o=true->jF xs->aB (xs.foldl (λ o y=>J.mk 6 0 [o,y]) o)=true/\aj (xs.foldl (λ o y=>J.mk 6 0 [o,y]) o)=aj o+eH xs
 | [],o,h,_=>⟨h,by simp[eH,cg]⟩
 | x::xs,o,h,hx=>by
  obtain⟨h1,h2⟩:=SN xs (J.mk 6 0 [o,x]) (gF o x 6 h (hx x (by simp)) (.inl rfl)) (λ y hy=>hx y (by simp[hy]));refine⟨h1,?_⟩;rw[a9E,h2,jP];simp only[eH,cg,a7I];omega
structure XU(a b r:J):Prop where
 g:aB r=true
 n:aj r<=aj a+aj b+1
def a0v(a b:J)(h1:aB a=true)(h2:aB b=true):jF (yM (dJ b (dJ a [])))/\eH (yM (dJ b (dJ a [])))<=aj a+aj b+2:=by
 obtain⟨a1,a2⟩:=Fw _ a (a7M _) h1 [] (λ y hy=>by cases hy);obtain⟨b1,b2⟩:=Fw _ b (a7M _) h2 _ a1;obtain⟨c1,c2,_⟩:=RL (dJ b (dJ a [])) [];have e0:eH []=0:=rfl;refine⟨λ y hy=>?_,?_⟩
 .rcases (c1 y).1 hy with q|q
  .exact b1 y q
  .cases q
 .unfold yM;omega
def a4g(a b:J)(h1:aB a=true)(h2:aB b=true):XU a b (Ln a b):=by
 obtain⟨g,t⟩:=a0v a b h1 h2;unfold Ln;generalize yM (dJ b (dJ a []))=L at g t;match L with
 | []=>exact⟨EU,by show aj (J.mk 1 0 [])<=_;rw[BQ];omega⟩
 | x::xs =>
  obtain⟨q1,q2⟩:=SN xs x (g x (by simp)) (λ y hy=>g y (by simp[hy]));refine⟨q1,?_⟩;show aj (xs.foldl _ x)<=_;rw[q2];simp only[eH,cg,a7I] at t ⊢;omega
def OC(x:J)(fs:List (J->J))(b:J):J :=
 if x.ai=1\/b.ai=1 then J.mk 1 0 [] else if x.ai=2 then b else if b.ai=2 then x else if x.ai=7 then fs.getD 0 id (fs.getD 1 id b) else J.mk 7 0 [x,b]
def jx(x b:J):J:=ym OC x b
def Mr(x b:J):jx x b=OC x (jn OC x.O) b:=congrFun (ki _ x) b
def Gj(x b:J)(h:x.ai=1\/b.ai=1):jx x b=J.mk 1 0 []:=by rw[Mr,OC,a7E h]
def Gk(x b:J)(h:¬ (x.ai=1\/b.ai=1))(h2:x.ai=2):jx x b=b:=by rw[Mr,OC,a7z h,a7E h2]
def Gl(x b:J)(h:¬ (x.ai=1\/b.ai=1))(h2:¬ x.ai=2)(h3:b.ai=2):jx x b=x:=by rw[Mr,OC,a7z h,a7z h2,a7E h3]
def Gm(x b:J)(h:¬ (x.ai=1\/b.ai=1))(h2:¬ x.ai=2)(h3:¬ b.ai=2)(h7:x.ai=7)(g:B2 x):jx x b=jx (x.O.getD 0 zE) (jx (x.O.getD 1 zE) b):=by
 rw[Mr,OC,a7z h,a7z h2,a7z h3,a7E h7];rw[eM OC id zE x.O 0 (by have:=g.len;omega),eM OC id zE x.O 1 (by have:=g.len;omega)];rfl
def Gp(x b:J)(h:¬ (x.ai=1\/b.ai=1))(h2:¬ x.ai=2)(h3:¬ b.ai=2)(h7:¬ x.ai=7):jx x b=J.mk 7 0 [x,b]:=by rw[Mr,OC,a7z h,a7z h2,a7z h3,a7z h7]
def QB:∀ (N:Nat) (x:J),bu x<N->aB x=true->∀ b,aB b=true->XU x b (jx x b)
 | 0,x,h,_=>by omega
 | N+1,x,hN,h=>by
  intro b hb;have hx:=Fk x;have Uu:=Fk b;by_cases h1:x.ai=1\/b.ai=1
  .rw[Gj x b h1];exact⟨EU,by rw[BQ];omega⟩
  by_cases h2:x.ai=2
  .rw[Gk x b h1 h2];exact⟨hb,by omega⟩
  by_cases h3:b.ai=2
  .rw[Gl x b h1 h2 h3];exact⟨h,by omega⟩
  by_cases h7:x.ai=7
  .have g:=cG x h (.inr h7);rw[Gm x b h1 h2 h3 h7 g];have r:=QB N (x.O.getD 1 zE) (by have:=g.l1;omega) g.g1 b hb;have q:=QB N (x.O.getD 0 zE) (by have:=g.l0;omega) g.g0 _ r.g;exact⟨q.g,by have:=q.n;have:=r.n;have:=g.nd;omega⟩
  .rw[Gp x b h1 h2 h3 h7];exact⟨gF x b 7 h hb (.inr rfl),by rw[jP];omega⟩
def BZ(a:J):J:=if bH a=true then J.mk 2 0 [] else if a.ai=8 then a else J.mk 8 0 [a]
def a4f(a:J)(h:aB a=true):aB (BZ a)=true/\aj (BZ a)<=aj a+1:=by
 have:=Fk a;unfold BZ;split
 .exact⟨PD,by rw[BQ];omega⟩
 .split
  .exact⟨h,by omega⟩
  .exact⟨Up a h,by rw[SZ];omega⟩
noncomputable def XD(x:J)(ys:List J):J :=
 if x.ai=6 then Ln (ys.getD 0 x) (ys.getD 1 x) else if x.ai=7 then jx (ys.getD 0 x) (ys.getD 1 x) else if x.ai=8 then BZ (ys.getD 0 x) else x
noncomputable def ej(x:J):J:=ym XD x
def TA(x:J)(i:Nat)(h:i<x.O.length):(jn XD x.O).getD i x=ej (x.O.getD i zE):=eM _ _ _ _ i h
def a0B(x:J)(h:x.ai=6)(b:B2 x):ej x=Ln (ej (x.O.getD 0 zE)) (ej (x.O.getD 1 zE)):=by
 rw[ej,ki];simp only[XD,h];rw[TA x 0 (by have:=b.len;omega),TA x 1 (by have:=b.len;omega)];rfl
def a0C(x:J)(h:x.ai=7)(b:B2 x):ej x=jx (ej (x.O.getD 0 zE)) (ej (x.O.getD 1 zE)):=by
 rw[ej,ki];simp only[XD,h];rw[TA x 0 (by have:=b.len;omega),TA x 1 (by have:=b.len;omega)];rfl
def a0D(x:J)(h:x.ai=8)(b:B1 x):ej x=BZ (ej (x.O.getD 0 zE)):=by
 rw[ej,ki];simp only[XD,h];rw[TA x 0 (by have:=b.len;omega)];rfl
def a0E(x:J)(h6:¬ x.ai=6)(h7:¬ x.ai=7)(h8:¬ x.ai=8):ej x=x:=by
 rw[ej,ki];simp[XD,h6,h7,h8]
structure a1I(x r:J):Prop where
 g:aB r=true
 n:aj r<=aj x
def Ju:∀ (N:Nat) (x:J),bu x<N->aB x=true->a1I x (ej x)
 | 0,x,h,_=>by omega
 | N+1,x,hN,h=>by
  by_cases h6:x.ai=6
  .have b:=cG x h (.inl h6);rw[a0B x h6 b];have p:=Ju N (x.O.getD 0 zE) (by have:=b.l0;omega) b.g0;have q:=Ju N (x.O.getD 1 zE) (by have:=b.l1;omega) b.g1;have r:=a4g _ _ p.g q.g;exact⟨r.g,by have:=r.n;have:=p.n;have:=q.n;have:=b.nd;omega⟩
  by_cases h7:x.ai=7
  .have b:=cG x h (.inr h7);rw[a0C x h7 b];have p:=Ju N (x.O.getD 0 zE) (by have:=b.l0;omega) b.g0;have q:=Ju N (x.O.getD 1 zE) (by have:=b.l1;omega) b.g1;have r:=QB _ _ (a7M _) p.g _ q.g;exact⟨r.g,by have:=r.n;have:=p.n;have:=q.n;have:=b.nd;omega⟩
  by_cases h8:x.ai=8
  .have b:=jG x h (.inr h8);rw[a0D x h8 b];have p:=Ju N (x.O.getD 0 zE) (by have:=b.l0;omega) b.g0;have r:=a4f _ p.g;exact⟨r.1,by have:=r.2;have:=p.n;have:=b.nd;omega⟩
  .rw[a0E x h6 h7 h8];exact⟨h,a7P _⟩
def B5(x:J)(h:aB x=true):a1I x (ej x):=Ju _ x (a7M _) h
def dtT(x b:J)(h:aB x=true)(hb:aB b=true):XU x b (jx x b):=QB _ x (a7M _) h b hb
def mD(x:J)(h:aj x<=9000):aU x<=1048576:=by have:=P6 x;omega
def RS(x:J)(h:aB x=true)(hn:aj x<=9000):(bE x).length<=1000000:=by have:=tR _ x (a7M _) h;omega
def ni:aW:=⟨BL,[],⟨(none,[⟨(.st .expr),J.mk 2 0 []⟩])⟩⟩
def Nq :Nat->aL:=cB
def uF:aW.Good ni:=by
 refine⟨aD yZ,?_⟩;intro  _;refine aV [] [] [] [] trivial yZ Gc (Nq ) ((J.mk (2:Int) (0:Int) [])=(J.mk 2 0 [])) ?_;refine ?_;all_goals try and_intros
 all_goals first|rfl|trivial|omega|(simp only[a7D,a7C,aE,au,cI,iE,cN,bB] at *;omega)|(simp[aE,au] at *;omega)|grind
def eW:aW:=⟨qJ,[],⟨(none,[⟨(.st .expr),J.mk 1 0 []⟩])⟩⟩
def K9 :Nat->aL:=cB
def fJ:aW.Good eW:=by
 refine⟨aD wM,?_⟩;intro  _;refine aV [] [] [] [] trivial wM Et (K9 ) ((J.mk (1:Int) (0:Int) [])=(J.mk 1 0 [])) ?_;refine ?_;all_goals try and_intros
 all_goals first|rfl|trivial|omega|(simp only[a7D,a7C,aE,au,cI,iE,cN,bB] at *;omega)|(simp[aE,au] at *;omega)|grind
def eV:aW:=⟨qG,[.v (.int .i64), .v (.st .expr), .v (.st .expr)],λ (k:Int) (a:J) (b:J)=>⟨(none,[⟨(.st .expr),J.mk k 0 [a,b]⟩])⟩⟩
def K5(k:Int)(a:J)(b:J):Nat->aL:=cB
def fI:aW.Good eV:=by
 refine⟨aD wK,?_⟩;intro (k:Int) (a:J) (b:J) _;refine aV [] [] [] [4,5] trivial wK Eo (K5 k a b) ((J.mk k (0:Int) ([a,b]))=(J.mk k 0 [a,b])) ?_;refine ?_;all_goals try and_intros
 all_goals first|rfl|trivial|omega|(simp only[a7D,a7C,aE,au,cI,iE,cN,bB] at *;omega)|(simp[aE,au] at *;omega)|grind
def jr(n:Nat):aW:=⟨oA,[.r (.st .expr), .v (.int .i64)],λ (x:J) (atom:Int)=>⟨(some (bu x<n/\aB x=true/\0<=atom/\atom<=4096),[⟨.bool,eE atom x⟩])⟩⟩
def kl:aW:=⟨oA,[.r (.st .expr), .v (.int .i64)],λ (x:J) (atom:Int)=>⟨(some (aB x=true/\0<=atom/\atom<=4096),[⟨.bool,eE atom x⟩])⟩⟩
def I4(x:J)(atom:Int):Nat->aL:=cB
abbrev sU(n:Nat)(x:J)(atom:Int):Prop:=(let v0:=x.O.getD 1 zE;(x.O.length<=140737488355328 ->
 (aE (1:Int) x.O.length/\((bu v0<n/\aB v0=true/\0<=atom/\atom<=4096)/\(eE atom v0)=(eE atom x)))))
def Ht(n:Nat)(hE:bj [jr n,qs]):aW.Good (jr (n+1)):=by
 refine⟨aD jm,?_⟩;intro (x:J) (atom:Int) (hp:bu x<n+1/\aB x=true/\0<=atom/\atom<=4096);refine aV [jr n,qs] [] [] [] hE jm CX (I4 x atom) (let v0:=x.O.getD 0 zE;let v1:=bu v0<n/\aB v0=true/\0<=atom/\atom<=4096;let v2:=eE atom x;let v3:=eE atom v0;((au x.ai->(((decide (x.ai=(4:Int)))=true->false=v2)/\((decide (x.ai=(4:Int)))=false->(((decide (x.ai=(6:Int)))=true->(x.O.length<=140737488355328->(aE (0:Int) x.O.length/\(v1/\((v3=false->(sU n x atom))/\(v3=(!false)->true=v2))))))/\((decide (x.ai=(6:Int)))=false->(((decide (x.ai=(7:Int)))=true->(x.O.length<=140737488355328->(aE (0:Int) x.O.length/\(v1/\((v3=true->(sU n x atom))/\(v3=(!true)->false=v2))))))/\((decide (x.ai=(7:Int)))=false->(((decide (x.ai=(8:Int)))=true->true=v2)/\((decide (x.ai=(8:Int)))=false->((gX x=true/\0<=atom/\atom<=4096)/\(fU atom x)=v2)))))))))))) ?_;obtain⟨hm,hg,h0,h1⟩:=hp;refine λ _=>⟨λ _=>?_,λ _=>⟨λ _ _=>⟨?_,?_,λ _ _=>⟨?_,?_,?_⟩,λ _=>?_⟩,λ _=>⟨λ _ _=>⟨?_,?_,λ _ _=>⟨?_,?_,?_⟩,λ _=>?_⟩,λ _=>⟨λ _=>?_,λ _=>⟨?_,?_⟩⟩⟩⟩⟩;all_goals try and_intros
 all_goals first|rfl|trivial|omega|((try simp only[a7D,a7C,aE,Bool.true_or,b0u,b1D,b1u,Bool.or_true,b0L] at *);first|rfl|omega|exact a2c atom x (by omega)|exact a2f atom x (by omega)|exact VK atom x (by omega) (by omega) (by omega) (by omega)|exact VT x hg (by have:=ew x hg;omega)|(have b:=cG x hg (by omega);first|(have:=b.len;omega)|exact b.g0|exact b.g1|(have:=b.l0;omega)|(have:=b.l1;omega)|(rw[a2d atom x (by omega) b];simp_all;done)|(rw[a2e atom x (by omega) b];simp_all;done)))
def RZ :∀ n,bj [jr n]
 | 0=>⟨⟨aD jm,λ _ _ h=>absurd h.1 (a8a _)⟩,af⟩
 | n+1=>by
  have ih:=RZ  n;exact⟨Ht n ⟨ih.1,EN,af⟩,af⟩
def qT :aW.Good kl :=
 ⟨aD jm,λ x atom hp=>(RZ  (bu x+1)).1.2 x atom (⟨a7M _,hp⟩)⟩
def kz(n:Nat):aW:=⟨qD,[.r (.st .expr)],λ (x:J)=>⟨(some (bu x<n/\aj x<=1048576),[⟨(.int .i64),(aj x:Int)⟩])⟩⟩
def qq:aW:=⟨qD,[.r (.st .expr)],λ (x:J)=>⟨(some (aj x<=1048576),[⟨(.int .i64),(aj x:Int)⟩])⟩⟩
def KZ(x:J):Nat->aL:=(eS 0 (.b (Nat) (λ k=>k<=x.O.length) (λ k=>x.O.length - k) [2] (λ k=>[(4, .aQ ⟨(.int .i64),((k:Int):Int)⟩),(3, .aQ ⟨(.int .i64),((1+cg aj (x.O.take k):Int):Int)⟩)])) cB)
def Ji(n:Nat)(hE:bj [kz n]):aW.Good (kz (n+1)):=by
 refine⟨aD j9,?_⟩;intro (x:J) (hp:bu x<n+1/\aj x<=1048576);refine aV [kz n] [] [] [] hE j9 Ei (KZ x) (let v0:=(x.O.length:Int);(((∃ k1:Nat,(k1<=x.O.length/\((x=x/\((1:Int)=(1+cg aj (x.O.take k1):Int)/\((0:Int)=(k1:Int)/\True)))/\True)))/\(∀ k1:Nat,let v2:=x.O.getD k1 zE;let v3:=(1+cg aj (x.O.take k1):Int);let v1:=v3+((aj v2:Int));(k1<=x.O.length->(x.O.length<=140737488355328->(au v0->(((decide ((k1:Int)<v0))=true->(x.O.length<=140737488355328->(aE (k1:Int) x.O.length/\((bu v2<n/\aj v2<=1048576)/\(au ((aj v2:Int))->(au v1/\(au ((k1:Int)+(1:Int))/\(∃ k2:Nat,(k2<=x.O.length/\(x.O.length - k2<x.O.length - k1/\((x=x/\(v1=(1+cg aj (x.O.take k2):Int)/\(((k1:Int)+(1:Int))=(k2:Int)/\True)))/\True)))))))))))/\((decide ((k1:Int)<v0))=false->v3=(aj x:Int)))))))))) ?_;rw[gJ x] at hp;have f0:=er x;have f1:=xO aj x.O;refine⟨⟨0,?_,⟨rfl,?_,?_,af⟩,af⟩,λ k1 _=>have a1L:=kL aj zE x.O k1;have a1M:=dH aj x.O k1;have a1N:=dH aj x.O (k1+1);have a1O:=pw aj x.O k1;have a1P:=cf zE x.O k1;λ _ _=>⟨λ _ _=>⟨?_,?_,λ _=>⟨?_,?_,k1+1,?_,?_,⟨rfl,?_,?_,af⟩,af⟩⟩,λ _=>?_⟩⟩;all_goals try and_intros
 all_goals try rw[gJ x]
 all_goals first|rfl|trivial|omega|(simp only[a7D,a7C,aE,au,cI,iE,cN,bB] at *;omega)|(simp[aE,au] at *;omega)|grind
def LZ :∀ n,bj [kz n]
 | 0=>⟨⟨aD j9,λ _ h=>absurd h.1 (a8a _)⟩,af⟩
 | n+1=>by
  have ih:=LZ  n;exact⟨Ji n ⟨ih.1,af⟩,af⟩
def EK :aW.Good qq :=
 ⟨aD j9,λ x hp=>(LZ  (bu x+1)).1.2 x (⟨a7M _,hp⟩)⟩
def lS(n:Nat):aW:=⟨tG,[.r (.st .expr), .r (.st .expr)],λ (x:J) (b:J)=>⟨(some (bu x<n/\aB x=true/\aB b=true/\aj x+aj b<=4000),[⟨(.st .expr),jx x b⟩])⟩⟩
def tj:aW:=⟨tG,[.r (.st .expr), .r (.st .expr)],λ (x:J) (b:J)=>⟨(some (aB x=true/\aB b=true/\aj x+aj b<=4000),[⟨(.st .expr),jx x b⟩])⟩⟩
def No(x:J)(b:J):Nat->aL:=cB
abbrev xm(n:Nat)(x:J)(b:J):Prop:=(let v0:=x.O.getD 1 zE;let v1:=x.O.getD 0 zE;let v2:=aP (jx v0 b);(au x.ai ->
 (((decide (x.ai=(2:Int)))=true ->
 (aU b<=1048576/\(aP b)=(jx x b)))/\((decide (x.ai=(2:Int)))=false ->
 (au b.ai ->
 (((decide (b.ai=(2:Int)))=true ->
 (aU x<=1048576/\(aP x)=(jx x b)))/\((decide (b.ai=(2:Int)))=false ->
 (au x.ai ->
 (((decide (x.ai=(7:Int)))=true ->
 (x.O.length<=140737488355328 ->
 (aE (1:Int) x.O.length/\((bu v0<n/\aB v0=true/\aB b=true/\aj v0+aj b<=4000)/\(x.O.length<=140737488355328 ->
 (aE (0:Int) x.O.length/\((bu v1<n/\aB v1=true/\aB v2=true/\aj v1+aj v2<=4000)/\(aP (jx v1 v2))=(jx x b))))))))/\((decide (x.ai=(7:Int)))=false ->
 (aU x<=1048576/\(aU b<=1048576/\(aP (J.mk (7:Int) 0 [x,b]))=(jx x b)))))))))))))
def Lk(n:Nat)(hE:bj [lS n,ez,eW,eV]):aW.Good (lS (n+1)):=by
 refine⟨aD lL,?_⟩;intro (x:J) (b:J) (hp:bu x<n+1/\aB x=true/\aB b=true/\aj x+aj b<=4000);refine aV [lS n,ez,eW,eV] [] [] [] hE lL Ga (No x b) ((au x.ai->(((decide (x.ai=(1:Int)))=false->(au b.ai->(((decide (b.ai=(1:Int)))=true->(aP (J.mk 1 0 []))=(jx x b))/\((decide (b.ai=(1:Int)))=false->(xm n x b)))))/\((decide (x.ai=(1:Int)))=(!false)->((true=true->(aP (J.mk 1 0 []))=(jx x b))/\(true=false->(xm n x b))))))) ?_;obtain⟨hm,hg,hb,hn⟩:=hp;refine λ _=>⟨λ _ _=>⟨λ _=>?_,λ _ _=>⟨λ _=>⟨?_,?_⟩,λ _ _=>⟨λ _=>⟨?_,?_⟩,λ _ _=>⟨λ _ _=>⟨?_,?_,λ _=>⟨?_,?_,?_⟩⟩,λ _=>⟨?_,?_,?_⟩⟩⟩⟩⟩,λ _=>⟨λ _=>?_,λ _ _=>⟨λ _=>⟨?_,?_⟩,λ _ _=>⟨λ _=>⟨?_,?_⟩,λ _ _=>⟨λ _ _=>⟨?_,?_,λ _=>⟨?_,?_,?_⟩⟩,λ _=>⟨?_,?_,?_⟩⟩⟩⟩⟩⟩;all_goals try and_intros
 all_goals try (first|with_reducible rfl|with_reducible assumption)
 all_goals try simp only[J.eta,cu] at *
 all_goals (try simp only[a8s,a8x,a7D,a7C,aE,J.eta] at *);first|rfl|trivial|omega|exact mD _ (by omega)|exact (Gj x b (by omega)).symm|exact (Gk x b (by omega) (by omega)).symm|exact (Gl x b (by omega) (by omega) (by omega)).symm|exact (Gp x b (by omega) (by omega) (by omega) (by omega)).symm|with_reducible assumption|(have g:=cG x hg (by omega);first|(have:=g.len;omega)|exact g.g0|exact g.g1|(have:=g.l0;omega)|(have:=g.l1;omega)|exact (dtT _ b g.g1 hb).g|(have:=g.nd;omega)|(have:=g.nd;have:=(dtT _ b g.g1 hb).n;omega)|exact (Gm x b (by omega) (by omega) (by omega) (by omega) g).symm)|exact congrArg J.ai (Gj x b (by omega)).symm|exact congrArg J.ai (Gk x b (by omega) (by omega)).symm|exact congrArg J.ai (Gl x b (by omega) (by omega) (by omega)).symm|exact congrArg J.ai (Gp x b (by omega) (by omega) (by omega) (by omega)).symm|exact congrArg J.ai (Gm x b (by omega) (by omega) (by omega) (by omega) (cG x hg (by omega))).symm|exact congrArg J.aZ (Gj x b (by omega)).symm|exact congrArg J.aZ (Gk x b (by omega) (by omega)).symm|exact congrArg J.aZ (Gl x b (by omega) (by omega) (by omega)).symm|exact congrArg J.aZ (Gp x b (by omega) (by omega) (by omega) (by omega)).symm|exact congrArg J.aZ (Gm x b (by omega) (by omega) (by omega) (by omega) (cG x hg (by omega))).symm|exact congrArg J.O (Gj x b (by omega)).symm|exact congrArg J.O (Gk x b (by omega) (by omega)).symm|exact congrArg J.O (Gl x b (by omega) (by omega) (by omega)).symm|exact congrArg J.O (Gp x b (by omega) (by omega) (by omega) (by omega)).symm|exact congrArg J.O (Gm x b (by omega) (by omega) (by omega) (by omega) (cG x hg (by omega))).symm
def Pj :∀ n,bj [lS n]
 | 0=>⟨⟨aD lL,λ _ _ h=>absurd h.1 (a8a _)⟩,af⟩
 | n+1=>by
  have ih:=Pj  n;exact⟨Lk n ⟨ih.1,gu,fJ,fI,af⟩,af⟩
def GL :aW.Good tj :=
 ⟨aD lL,λ x b hp=>(Pj  (bu x+1)).1.2 x b (⟨a7M _,hp⟩)⟩
def qt:aW:=⟨zO,[.r (.st .expr)],λ (x:J)=>⟨(some (aB x=true/\aj x<=4000),[⟨(.st .expr),BZ x⟩])⟩⟩
def K6(x:J):Nat->aL:=cB
def ER:aW.Good qt:=by
 refine⟨aD wL,?_⟩;intro (x:J) (hp:aB x=true/\aj x<=4000);refine aV [gB,ez,ni] [] [] [] ⟨mA,gu,uF,af⟩ wL Ep (K6 x) ((((bH x)=true->(aP (J.mk 2 0 []))=(BZ x))/\((bH x)=false->(au x.ai->(((decide (x.ai=(8:Int)))=true->(aU x<=1048576/\(aP x)=(BZ x)))/\((decide (x.ai=(8:Int)))=false->(aU x<=1048576/\(J.mk (8:Int) (0:Int) ([x]))=(BZ x)))))))) ?_;obtain⟨hg,hn⟩:=hp;refine⟨λ _=>?_,λ _ _=>⟨λ _=>⟨?_,?_⟩,λ _=>⟨?_,?_⟩⟩⟩;all_goals try and_intros
 all_goals try (first|with_reducible rfl|with_reducible assumption)
 all_goals try simp only[J.eta,cu] at *
 all_goals (try simp only[decide_eq_true_eq,decide_eq_false_iff_not,aE,J.eta] at *);first|rfl|trivial|omega|exact mD _ (by omega)|(unfold BZ;first|(rw[if_pos (by with_reducible assumption)];done)|(rw[if_neg (by simp_all),if_pos (by with_reducible assumption)];done)|(rw[if_neg (by simp_all),if_neg (by with_reducible assumption)];done))
open Go.RowKit Go.Proofs
def a0i{w0 w:World}{S:Nat->Prop}(hS:iR w0 S)(hb:Below w0.heap.size w0 w):iR w S :=
 ⟨λ b h=>a7F (hS.1 b h) hb.size,hS.2.mono (λ _ h=>h) λ b h=>hb.block b (hS.1 b h)⟩
def Wh{w0 w:World}{S:Nat->Prop}(hS:iR w0 S)(hb:Below w0.heap.size w0 w){d:D}{cs:List Value}(r:Rd w0 S d cs):Rd w S d cs:=Rd.aK (λ _ h=>h) (λ b h=>hb.block b (hS.1 b h)) _ r
def oX{B:Nat}{w w':World}(h:bJ (λ _=>False) w w')(hB:B<=w.heap.size):Below B w w':=⟨h.os,h.tape,h.output,h.size,λ k hk=>h.block k (by omega) id⟩
def Vk{w0 w:World}{S:Nat->Prop}(hS:iR w0 S)(hb:Below w0.heap.size w0 w)(x y:J)(b o b' o':Nat)(cx cy:List Value)(h1:b<w.heap.size)(h2:bn w b o cx)(rx:Rd w0 S x.aI cx)
  (tY:b'<w.heap.size) (xd:bn w b' o' cy) (ry:Rd w0 S y.aI cy) :
  Calls prog lT #[.pointer (some ⟨b,o,none⟩), .pointer (some ⟨b',o',none⟩)] w λ e w'=>e = .returned (.bool (dT x y))/\bJ (λ _=>False) w w':=by
 refine (sK.2 x y trivial w _ [_,_] (a0i hS hb) ⟨⟨b,o,cx,rfl,h1,h2,Wh hS hb rx⟩,⟨b',o',cy,rfl,tY,xd,Wh hS hb ry⟩,af⟩).mono ?_;rintro e w' ⟨v,S',res,rfl,rfl,fg,_,_,hr⟩;have hr:[v]=[.bool (dT x y)]:=hr;simp only[a7A,a7W] at hr;subst hr;exact⟨rfl,fg⟩
structure Av(q:Nat)(v v':Value)(w w':World):Prop where
 os:w'.os=w.os
 tape:w'.tape=w.tape
 output:w'.output=w.output
 size:w.heap.size<=w'.heap.size
 block:∀ k,k<w.heap.size->k≠q->v.ownBlock≠some k->w'.heap[k]?=w.heap[k]?
 own:∀ k,v'.ownBlock=some k->v.ownBlock=some k\/w.heap.size<=k
def Av.trans{q:Nat}{v v' v'':Value}{w w' Pa:World}(h:Av q v v' w w')(g:Av q v' v'' w' Pa):Av q v v'' w Pa:=by
 refine⟨g.os.trans h.os,g.tape.trans h.tape,g.output.trans h.output,a8M h.size g.size,λ k h1 h2 h3=>?_,λ k hk=>?_⟩
 .rw[g.block k (a7F h1 h.size) h2 λ e=>?_,h.block k h1 h2 h3];rcases h.own k e with q|q
  .exact h3 q
  .omega
 .rcases g.own k hk with q|q
  .exact h.own k q
  .exact .inr (a8M h.size q)
def Av.below{q B:Nat}{v v':Value}{w w':World}(h:Av q v v' w w')(hB:B<=w.heap.size)(hq:B<=q)(hv:∀ k,v.ownBlock=some k->B<=k):Below B w w' :=
 ⟨h.os,h.tape,h.output,h.size,λ k hk=>h.block k (by omega) (by omega) λ e=>by have:=hv k e;omega⟩
def Av.same{q:Nat}{v:Value}{w w':World}(h:bJ (λ _=>False) w w'):Av q v v w w':=⟨h.os,h.tape,h.output,h.size,λ k hk _ _=>h.block k hk id,λ k e => .inl e⟩
structure CD(w0:World)(S:Nat->Prop)(q:Nat)(w:World)(v:Value)(ys:List J)(L:List Value):Prop where
 cS:Below w0.heap.size w0 w
 q0:w0.heap.size<=q
 var:w.heap[q]?=some (.cells #[v] 33 (0,0))
 own:w.ownsRow w0.heap.size 36 3 v ys.length L
 rd:cZ w0 S (ys.map J.aI) L
 ne:v.ownBlock≠some q
 nn:v ≠ .slice none 0 0
def CD.lt{w0:World}{S:Nat->Prop}{q:Nat}{w:World}{v:Value}{ys:List J}{L:List Value}(h:CD w0 S q w v ys L):q<w.heap.size:=bz h.var
def CD.form{w0:World}{S:Nat->Prop}{q:Nat}{w:World}{v:Value}{ys:List J}{L:List Value}(h:CD w0 S q w v ys L):∃ g cap cur,v = .slice (some ⟨g,0,none⟩) ys.length cap/\w0.heap.size<=g/\g≠q/\w.heap[g]?=some (.cells cur 36 (0,0))/\ys.length<=cap/\cap<=maxLen/\cur.toList.take (ys.length * 3)=L:=by
 rcases h.own.2 with ⟨e,_⟩|⟨g,cap,cur,rfl,h1,h2,h3,h4,h5,h6⟩
 .exact absurd e h.nn
 .exact⟨g,cap,cur,rfl,h1,λ e=>h.ne (by rw[e];rfl),h2,h3,h4,h6⟩
def CD.aK{w0:World}{S:Nat->Prop}{q:Nat}{w w':World}{v:Value}{ys:List J}{L:List Value}(h:CD w0 S q w v ys L)(hk:bJ (λ _=>False) w w'):CD w0 S q w' v ys L :=
 ⟨h.cS.trans (oX hk h.cS.size),h.q0,(hk.block q h.lt id).trans h.var,h.own.kept (row:=none) ⟨hk.os,hk.tape,hk.output,hk.size,λ k h1 _=>hk.block k h1 id⟩ (by cases hv:v.ownBlock<;>simp),h.rd,h.ne,h.nn⟩
def Mx(ys:List J):∀ d∈ys.map J.aI,d.size=3:=λ d hd=>by
 obtain⟨y,_,rfl⟩:=a7B.1 hd;cases y;rfl
def BW{w0:World}{S:Nat->Prop}{ys:List J}{L:List Value}{w:World}{g:Nat}{cur:Array Value}(hg:w.heap[g]?=some (.cells cur 36 (0,0)))(ht:cur.toList.take (ys.length * 3)=L)(hr:cZ w0 S (ys.map J.aI) L)
  (k:Nat) (y:J) (hy:ys[k]?=some y):∃ c0 c1 c2,bn w g (k * 3) [c0,c1,c2]/\Rd w0 S y.aI [c0,c1,c2]:=by
 have hk:k<ys.length:=(a7R.1 hy).1;have r:=cZ.at_ (n:=3) _ hr (Mx ys) k y.aI (by simp[hy]);have hl:=cZ.length (n:=3) _ hr (Mx ys);rw[a8n] at hl;have h3:((L.drop (k * 3)).take 3).length=3:=by rw[a8D,a8J];omega
 match hm:(L.drop (k * 3)).take 3,h3 with
 | [c0,c1,c2],_ =>
  rw[hm] at r;refine⟨c0,c1,c2,λ j v hj=>?_,r⟩;rw[<-hm] at hj;have Y2:j<3:=by have:=(a7R.1 hj).1;omega
  rw[List.getElem?_take_of_lt Y2,List.getElem?_drop,<-ht,List.getElem?_take_of_lt (by omega)] at hj;rw[cell_of_row w g (k * 3+j) cur 36 (0,0) hg];simpa using hj
def Nw{w0:World}{S:Nat->Prop}{q:Nat}{w:World}{v:Value}{ys:List J}{L:List Value}(h:CD w0 S q w v ys L):w.cell? ⟨q,0,none⟩=some v:=by simp[World.cell?,h.var]
def wT{w0 w:World}(hb:Below w0.heap.size w0 w){b o:Nat}{cs:List Value}(h:bn w0 b o cs)(h1:b<w0.heap.size):bn w b o cs:=h.aK (hb.block b h1)
abbrev Pe(w0:World)(S:Nat->Prop)(x:J)(b o q:Nat)(v:Value)(ys:List J)(w:World):Prop :=
 Calls prog 85 #[.pointer (some ⟨b,o,none⟩), .pointer (some ⟨q,0,none⟩)] w λ e w'=>e = .returned (.tuple #[])/\∃ v' L',CD w0 S q w' v' (dJ x ys) L'/\Av q v v' w w'
def kN:Value->Nat
 | .int _ k=>k.toNat
 | _=>0
set_option maxRecDepth 100000 in
def a6j(w0:World)(S:Nat->Prop)(x:J)(h1:x.ai=1)(b o q:Nat)(v:Value)(ys:List J)(L:List Value)(w:World)(hl:CD w0 S q w v ys L)(hc:w.cell? ⟨b,o,none⟩=some (.int .i64 1)):Pe w0 S x b o q v ys w:=by
 go_enter Tryz.func85,Tryz.ntmps85;go_wp2;(try simp only[Exit.inBlock,Exit.then]);refine bodyPost_ret (results_none rfl _ _ _) rfl ?_;rw[a0e x ys h1];exact⟨rfl,v,L,hl,Av.same (bJ.refl _ w)⟩
set_option maxRecDepth 100000 in
def a6k(w0:World)(S:Nat->Prop)(x:J)(h6:x.ai=6)(b2:B2 x)(b o q kb ko cap:Nat)(v:Value)(ys:List J)(w:World)(c0:w.cell? ⟨b,o,none⟩=some (.int .i64 6))
  (c2:∀ w',(∃ v',Av q v v' w w')->w'.cell? ⟨b,o+2,none⟩=some (.slice (some ⟨kb,ko,none⟩) 2 cap))
  (i0:Pe w0 S (x.O.getD 0 zE) kb ko q v ys w)
  (i1:∀ w' v' L',CD w0 S q w' v' (dJ (x.O.getD 0 zE) ys) L'->Av q v v' w w'->Pe w0 S (x.O.getD 1 zE) kb (ko+3) q v' (dJ (x.O.getD 0 zE) ys) w'):Pe w0 S x b o q v ys w:=by
 have c2':=c2 w ⟨v,Av.same (bJ.refl _ w)⟩;go_enter Tryz.func85,Tryz.ntmps85;go_wp2_with (go_at_call 85;refine i0.mono ?_);rintro e w1 ⟨he,v1,L1,l1,f1⟩;subst he;have a7e:=c2 w1 ⟨v1,f1⟩;go_wp2_with (go_at_call 85;refine (i1 w1 v1 L1 l1 f1).mono ?_);rintro e w2 ⟨he,v2,L2,l2,f2⟩;subst he;go_wp2;(try simp only[Exit.inBlock,Exit.then]);refine b1f (b1N rfl _ _ _) rfl ?_;rw[a0f x ys h6 b2];exact⟨rfl,v2,L2,l2,f1.trans f2⟩
def a6g(L:List Value)(z0 z1 z2 a b c:Value)(n:Nat)(h:L.length=n):(((L++[z0,z1,z2]).set n a).set (n+1) b).set (n+2) c=L++[a,b,c]:=by
 subst h;rw[a9X _ _ (by omega),a9X _ _ (by omega),a9X _ _ (by omega)];simp
def a0w{w0 w wr w2 W:World}{S:Nat->Prop}{q g gg DZ GA:Nat}{x:J}{ys:List J}{L:List Value}{a b c:Value}{cur3:Array Value}{o1:Obj}(lr:CD w0 S q wr (.slice (some ⟨g,0,none⟩) ys.length DZ) ys L)
  (jz:bJ (λ _=>False) w wr) (hqw:q<w.heap.size) (hgw:g<w.heap.size) (df:(wr.alloc o1).grownBy w2 (some g)) (IA:some g=some gg\/gg=wr.heap.size+1) (a2w:gg<w2.heap.size) (gq2:gg≠q)
  (s3:w2.heap[gg]?=some (.cells cur3 36 (0,0))) (s4:cur3.size=GA * 3) (s5:ys.length+1<=GA) (s6:GA<=maxLen) (s7:w0.heap.size<=gg) (s8:cur3.toList.take ((ys.length+1) * 3)=L++[.int .i64 0, .int .i64 0, .slice none 0 0])
  (rx:Rd w0 S x.aI [a,b,c]) (k1:W.os=w2.os) (k2:W.tape=w2.tape) (k3:W.output=w2.output) (k4:W.heap.size=w2.heap.size) (k5:∀ k,k≠q->k≠gg->W.heap[k]?=w2.heap[k]?)
  (k6:W.heap[q]?=some (.cells #[.slice (some ⟨gg,0,none⟩) (ys.length+1) GA] 33 (0,0)))
  (k7:W.heap[gg]?=some (.cells (((cur3.setIfInBounds (ys.length * 3) a).setIfInBounds (ys.length * 3+1) b).setIfInBounds (ys.length * 3+2) c) 36 (0,0))) :
  CD w0 S q W (.slice (some ⟨gg,0,none⟩) (ys.length+1) GA) (ys++[x]) (L++[a,b,c])/\Av q (.slice (some ⟨g,0,none⟩) ys.length DZ) (.slice (some ⟨gg,0,none⟩) (ys.length+1) GA) w W:=by
 have YJ:L.length=ys.length * 3:=lr.own.1;have hg0:w0.heap.size<=g:=(lr.own.lt g rfl).1;have sz:(wr.alloc o1).heap.size=wr.heap.size+1:=by simp
 have dx:∀ k,k<wr.heap.size->k≠q->k≠g->W.heap[k]?=wr.heap[k]?:=λ k h1 h2 h3=>by
  rw[k5 k h2 (λ e=>by rcases IA with r|r<;>first|omega|(cases r;exact h3 e)),df.block k (by omega) (λ e=>h3 (by cases e;rfl)),a8K _ _ _ h1]
 have fr:Av q (.slice (some ⟨g,0,none⟩) ys.length DZ) (.slice (some ⟨gg,0,none⟩) (ys.length+1) GA) w W:=by
  refine⟨k1.trans (df.os.trans jz.os),k2.trans (df.tape.trans jz.tape),k3.trans (df.output.trans jz.output),by have:=df.size;have:=jz.size;omega,λ k h1 h2 h3=>?_,λ k hk=>?_⟩
  .have hk:k<wr.heap.size:=a7F h1 jz.size;rw[dx k hk h2 (λ e=>h3 (by rw[e];rfl)),jz.block k h1 id]
  .simp only[Value.ownBlock,a7v] at hk ⊢;subst hk;rcases IA with e|e
   .cases e;exact .inl rfl
   .exact .inr (by have:=jz.size;omega)
 refine⟨⟨?_,lr.q0,k6,⟨?_, .inr ⟨gg,GA,_,?_,s7,k7,by simpa using s5,s6,by simpa using s4,?_⟩⟩,?_,λ e=>gq2 (by simpa [Value.ownBlock] using e),by simp⟩,fr⟩
 .refine lr.cS.trans ⟨k1.trans df.os,k2.trans df.tape,k3.trans df.output,by have:=df.size;omega,λ k hk=>dx k ?_ ?_ ?_⟩
  .have:=lr.cS.size;omega
  .have:=lr.q0;omega
  .omega
 .simp[YJ];omega
 .simp
 .simp only[Array.toList_setIfInBounds,List.take_set,a7K,a7I,a7T,a8W,s8];exact a6g L _ _ _ a b c _ YJ
 .rw[a8R];exact cZ.append _ _ lr.rd ⟨_,[],by simp,rx,rfl⟩
def Q9:(Tryz.prog.info? 36).map (λ i=>(i.zero,i.size,i.bytes))=some (some (.agg #[.int .i64 0, .int .i64 0, .slice none 0 0]),3,40):=by kernel_rfl
def NP{w:World}{base e n g cap:Nat}{L:List Value}{c0 c1 c2:Value}(h:w.ownsRow base e 3 (.slice (some ⟨g,0,none⟩) (n+1) cap) (n+1) (L++[c0,c1,c2]))(hl:L.length=n * 3) :
  (w.cell? ⟨g,n * 3,none⟩=some c0/\w.cell? ⟨g,n * 3+1,none⟩=some c1/\w.cell? ⟨g,n * 3+2,none⟩=some c2)/\∃ cur,w.heap[g]?=some (.cells cur e (0,0))/\cur.size=cap * 3/\n+1<=cap/\cap<=maxLen/\base<=g/\cur.toList.take ((n+1) * 3)=L++[c0,c1,c2]:=by
 have hc:=h.cells (g:=g) rfl;refine⟨⟨?_,?_,?_⟩,?_⟩
 .have:=hc (n * 3) c0 (by rw[List.getElem?_append_right (by omega),hl];simp);simpa [Addr.add_lit] using this
 .have:=hc (n * 3+1) c1 (by rw[List.getElem?_append_right (by omega),hl];simp);simpa [Addr.add_lit] using this
 .have:=hc (n * 3+2) c2 (by rw[List.getElem?_append_right (by omega),hl];simp);simpa [Addr.add_lit] using this
 .rcases h.2 with ⟨e,_⟩|⟨g',Mj,cur,e,h1,h2,h3,h4,h5,h6⟩
  .cases e
  .cases e;exact⟨cur,h2,h5,h3,h4,h1,h6⟩
def QL{w:World}{g e j:Nat}{cur:Array Value}(h:w.heap[g]?=some (.cells cur e (0,0))):w.frozen? ⟨g,j,none⟩=false:=by simp[World.frozen?,h]
set_option maxRecDepth 100000 in
def a6l(w0:World)(S:Nat->Prop)(hS:iR w0 S)(x:J)(hg:aB x=true)(n1:¬ x.ai=1)(n6:¬ x.ai=6)(b o q:Nat)(cs:List Value)(v:Value)(ys:List J)(L:List Value)(w:World)(hl:CD w0 S q w v ys L)
  (hb:b<w0.heap.size) (hc:bn w0 b o cs) (hr:Rd w0 S x.aI cs) (hn:ys.length<=8000):Pe w0 S x b o q v ys w:=by
 obtain⟨a,cap,rfl,_⟩:=nt hr;have Bc:b<w.heap.size:=Nat.lt_of_lt_of_le hb hl.cS.size;have d0:w.cell? ⟨b,o,none⟩=some (.int .i64 x.ai):=wT hl.cS hc hb 0 _ rfl;obtain⟨g,DZ,cur,rfl,hg0,hgq,mZ,hgc,hgm,hgt⟩:=hl.form;have hv:=Nw hl;have kb1:(x.ai == 1)=false:=by simpa using n1
 have kb6:(x.ai == 6)=false:=by simpa using n6
 go_enter Tryz.func85,Tryz.ntmps85;go_wp2;go_loopw [4] (λ i wr=>∃ k:Nat,i = .int .i64 k/\k<=ys.length/\bJ (λ _=>False) w wr/\∀ j y,j<k->ys[j]?=some y->dT y x=false) (λ i wr=>ys.length - kN i)
 .exact⟨0,rfl,a8r _,bJ.refl _ w,λ j y h=>absurd h (a8a _)⟩
 obtain⟨k,rfl,hk,jz,dm⟩:=hrel;have lr:=hl.aK jz;have M5:=Nw lr;have hbr:b<wr.heap.size:=a7F Bc jz.size;have a2t:wr.heap[g]?=some (.cells cur 36 (0,0)):=(jz.block g (bz mZ) id).trans mZ;by_cases bp:k<ys.length
 .obtain⟨y,hy⟩:∃ y,ys[k]?=some y:=⟨_,a7L bp⟩;obtain⟨e0,e1,e2,ce,re⟩:=BW a2t hgt hl.rd k y hy;go_wp2_with (go_at_call 103;refine (Vk hS lr.cS y x g (k * 3) b o _ _ (bz a2t) ce re hbr (wT lr.cS hc hb) hr).mono ?_);rintro e w1 ⟨he,h1⟩;subst he;go_wp2
  .rename_i he;(try simp only[Exit.inBlock,Exit.then]);refine b1f (b1N rfl _ _ _) rfl ?_;have ha:ys.any (λ z=>dT z x)=true:=b1d.2 ⟨y,a8i hy,he⟩;rw[a0h x ys n1 n6 ha];exact⟨rfl,_,L,lr.aK h1,Av.same (jz.trans h1 λ _ _ h=>h)⟩
  .rename_i he;refine⟨⟨k+1,by first|rfl|simp,bp,jz.trans h1 λ _ _ h=>h,λ j z hj hz=>?_⟩,?_⟩
   .rcases a8m j k with q|q
    .exact dm j z q hz
    .have:j=k:=by omega
     subst this;rw[hy] at hz;cases hz;simpa using he
   .simp only[kN];omega
 .have ha:ys.any (λ z=>dT z x)=false:=by
   rw[b0q];intro z hz;obtain⟨j,hj,e⟩:=a9O hz;have:=dm j z (by omega) (by rw[a7L hj,e]);rw[this];decide
  have hek:k=ys.length:=by omega
  subst hek;clear dm bp hk;have cb:=wT lr.cS hc hb;have r0:wr.cell? ⟨b,o,none⟩=some (.int .i64 x.ai):=cb 0 _ rfl;have r1:wr.cell? ⟨b,o+1,none⟩=some (.int .i64 x.aZ):=cb 1 _ rfl;have r2:wr.cell? ⟨b,o+2,none⟩=some (.slice a x.O.length cap):=cb 2 _ rfl;have r3:wr.cell? ⟨q,0,none⟩=some (.slice (some ⟨g,0,none⟩) ys.length DZ):=by simp[World.cell?,lr.var]
  have gq:g≠q:=hgq;obtain⟨i0,OJ,OP,IJ,KH⟩:=b1A Q9;have hlq:=lr.lt;have dA:=lr.own;have YJ:L.length=ys.length * 3:=dA.1;have bi0:(0:Int)<=(ys.length:Int):=by omega
  have bi1:(ys.length:Int)<(ys.length:Int)+1:=by omega
  have bi2:(ys.length:Int)<((ys.length+1:Nat):Int):=by omega
  have bq:b≠q:=by have:=lr.q0;omega
  have qb:q≠b:=b1P bq;have bg:b≠g:=by omega
  have aq:some q≠(Value.slice (some ⟨g,0,none⟩) ys.length DZ).ownBlock:=λ e=>hgq (by simpa [Value.ownBlock] using e.symm);have ab:some b≠(Value.slice (some ⟨g,0,none⟩) ys.length DZ).ownBlock:=λ e=>by
   have:b=g:=by simpa [Value.ownBlock] using e
   omega
  go_wp2_with fail;go_region_law
   ((
    refine step_append_lies _ (by rfl) _ _ _ (by rfl) w0.heap.size 36 i0 _ 3 40 Tryz.underlying33 OJ OP IJ KH rfl (by omega) _ ys.length L (by rfl) ((dA.alloc _).drew)
      ⟨wr.heap.size,0,none⟩ 1 1 [.int .i64 0, .int .i64 0, .slice none 0 0] (by rfl) (by rfl) (b0E (cs := #[.int .i64 0, .int .i64 0, .slice none 0 0]) (t:=36) (fr:=(0,0)) (a8Q wr _)) (by simp[Value.oneCell'])
      (by omega) (by simp[maxLen];omega) (by omega) (by simp;have:=lr.cS.size;omega) (wr.heap.size+1) (by simp) ?_;intro gg GA w2 Zd df IA a2w
    have gq2:gg≠q:=by
     rcases IA with e|e
     .exact λ h=>aq (by rw[<-h,e])
     .omega
    have gb2:gg≠b:=by
     rcases IA with e|e
     .exact λ h=>ab (by rw[<-h,e])
     .omega
    obtain⟨⟨s0,s1,s2⟩,cur3,s3,s4,s5,s6,s7,s8⟩:=NP Zd YJ
    have z0:=QL (j:=ys.length * 3) s3
    have z1:=QL (j:=ys.length * 3+1) s3
    have z2:=QL (j:=ys.length * 3+2) s3
    have sP:w2.heap[q]?=some (.cells #[.slice (some ⟨g,0,none⟩) ys.length DZ] 33 (0,0)):=(df.block q (by simp;omega) aq).trans ((show _=wr.heap[q]? from a8K wr _ q hlq).trans lr.var)
    have fq2:=QL (j:=0) sP
    have vq:w2.cell? ⟨q,0,none⟩=some (.slice (some ⟨g,0,none⟩) ys.length DZ):=by simp[World.cell?,sP]))
  all_goals
   (try simp only[Exit.inBlock,Exit.then])
   refine bodyPost_end (b1N rfl _ _ _) rfl ?_
   rw[a0g x ys n1 n6 ha]
   obtain⟨⟨s0,s1,s2⟩,cur3,s3,s4,s5,s6,s7,s8⟩:=NP Zd YJ
   have sP:w2.heap[q]?=some (.cells #[.slice (some ⟨g,0,none⟩) ys.length DZ] 33 (0,0)):=(df.block q (by simp;omega) aq).trans ((show _=wr.heap[q]? from a8K wr _ q hlq).trans lr.var)
   have gq3:q≠gg:=b1P gq2
   refine⟨rfl,_,_,a0w (cur3:=cur3) lr jz hl.lt (bz mZ) ⟨df.os,df.tape,df.output,df.size,df.block⟩ IA a2w gq2 s3 s4 s5 s6 s7 s8 hr rfl rfl rfl (by simp) (λ k e1 e2=>?_) ?_ ?_⟩
   .repeat rw[a9e _ _ _ _ (by assumption)]
   .first
     | (rw[a8N _ _ _ _ _ _ (by (repeat rw[a9e _ _ _ _ (by assumption)]);exact sP)];rfl)
     | (
       repeat rw[a9e _ _ _ _ (by assumption)]
       rw[a8N _ _ _ _ _ _ sP];rfl)
   .first
     | (
       rw[a9e _ _ _ _ (by assumption)]
       exact a8N _ _ _ _ _ _ (a8N _ _ _ _ _ _ (a8N _ _ _ _ _ _ s3)))
     | exact a8N _ _ _ _ _ _ (a8N _ _ _ _ _ _ (a8N _ _ _ _ _ _ ((a9e _ _ _ _ (by assumption)).trans s3)))
def Cz(w0:World)(S:Nat->Prop)(hS:iR w0 S):∀ (N:Nat) (x:J),bu x<N->aB x=true->∀ (b o q:Nat) (cs:List Value) (v:Value) (ys:List J) (L:List Value) (w:World),CD w0 S q w v ys L->b<w0.heap.size->bn w0 b o cs->Rd w0 S x.aI cs ->
  jF ys->eH ys+aj x<=8000->Pe w0 S x b o q v ys w
 | 0,x,h,_=>by omega
 | N+1,x,hN,hg=>by
  intro b o q cs v ys L w hl hb hc hr OI hn;by_cases h1:x.ai=1
  .obtain⟨a,cap,rfl,_⟩:=nt hr;exact a6j w0 S x h1 b o q v ys L w hl (by rw[<-h1];exact wT hl.cS hc hb 0 _ rfl)
  by_cases h6:x.ai=6
  .have b2:=cG x hg (.inl h6);obtain⟨a,cap,rfl,hk⟩:=nt hr;obtain⟨kb,ko,rfl,WV,eO⟩:∃ kb ko,a=some ⟨kb,ko,none⟩/\S kb/\cR w0 S (x.O.map J.aI) kb ko:=by
    rcases hk with hk|hk
    .have:=b2.len;rw[hk] at this;cases this
    .obtain⟨kb,ko,e1,e2,e3⟩:=hk;exact⟨kb,ko,e1,e2,e3⟩
   obtain⟨c0,c1,c2,r0,q0⟩:=Hz eO 0 (by have:=b2.len;omega);obtain⟨d0,d1,d2,r1,q1⟩:=Hz eO 1 (by have:=b2.len;omega);have a5B:∀ w',(∃ v',Av q v v' w w')->Below w0.heap.size w0 w':=λ w' ⟨v',f⟩=>hl.cS.trans (f.below hl.cS.size hl.q0 λ k hk=>(hl.own.lt k hk).1);obtain⟨g1,t1⟩:=Fw _ (x.O.getD 0 zE) (a7M _) b2.g0 ys OI;have nd:=b2.nd;refine a6k w0 S x h6 b2 b o q kb ko cap v ys w (by rw[<-h6];exact wT hl.cS hc hb 0 _ rfl) (λ w' xj=>by have:=wT (a5B w' xj) hc hb 2 _ rfl;rw[b2.len] at this;exact this)
    (Cz w0 S hS N _ (by have:=b2.l0;omega) b2.g0 kb ko q _ v ys L w hl (hS.1 kb WV) (by simpa using q0) r0 OI (by omega)) λ w' v' L' l' f' =>
    Cz w0 S hS N _ (by have:=b2.l1;omega) b2.g1 kb (ko+3) q _ v' _ L' w' l' (hS.1 kb WV) (by simpa using q1) r1 g1 (by omega)
  .exact a6l w0 S hS x hg h1 h6 b o q cs v ys L w hl hb hc hr (by have:eH ys=cg aj ys+ys.length:=rfl;omega)
def Vo{w0 w:World}{S:Nat->Prop}(hS:iR w0 S)(hb:Below w0.heap.size w0 w)(x:J)(hg:aB x=true)(hl:(bE x).length<=1000000)(b o:Nat)(cx:List Value)(h1:b<w.heap.size)(h2:bn w b o cx)(rx:Rd w0 S x.aI cx) :
  Calls prog lU #[.pointer (some ⟨b,o,none⟩)] w λ e w'=>e = .returned (.string ⟨(bE x).toArray⟩)/\bJ (λ _=>False) w w':=by
 refine (EL.2 x ⟨hg,hl⟩ w _ [_] (a0i hS hb) ⟨⟨b,o,cx,rfl,h1,h2,Wh hS hb rx⟩,af⟩).mono ?_;rintro e w' ⟨v,S',res,rfl,rfl,fg,_,_,hr⟩;obtain⟨s,hs,mg,_⟩:=(show ∃ s:ByteArray,[v]=[.string s]/\s.data.toList=bE x/\s.size<=140737488355328 from hr);simp only[a7A,a7W] at hs;subst hs;refine⟨?_,fg⟩;rw[<-mg]
def strs(ys:List J):List Value:=ys.map λ y => .string ⟨(bE y).toArray⟩
def XC(ys:List J)(k:Nat)(y:J)(h:ys[k]?=some y):(strs ys)[k]?=some (.string ⟨(bE y).toArray⟩):=by simp[strs,h]
def Tq(xs:List J)(k:Nat)(h:k<=xs.length):(RJ xs k).length=k:=by
 have:=(RL (xs.take k) []).2.2;unfold RJ yM;rw[this,List.length_take,List.length_nil];omega
def xc{w w':World}(h:Below w.heap.size w w'):w.grownBy w' none:=⟨h.os,h.tape,h.output,h.size,λ k h1 _=>h.block k h1⟩
def Kf{w:World}{B e sz g n c k:Nat}{xs:List Value}(h:w.ownsRow B e sz (.slice (some ⟨g,0,none⟩) n c) n xs)(hk:k<=n):w.ownsRow B e sz (.slice (some ⟨g,0,none⟩) k c) k (xs.take (k * sz)):=by
 obtain⟨h1,h2⟩:=h;have hm:=a9f sz hk;refine⟨by rw[a8D];omega,?_⟩;rcases h2 with ⟨q,_⟩|⟨g',c',cur,q,q1,q2,q3,q4,q5,q6⟩
 .cases q
 .cases q;exact .inr ⟨g,c,cur,rfl,q1,q2,by omega,q4,q5,by rw[<-q6,List.take_take,b1n hm]⟩
structure SrR(w0:World)(S:Nat->Prop)(B:Nat)(w wr:World)(ys:List J)(gt ct go co:Nat)(Lo:List Value):Prop where
 cS:Below B w wr
 t:wr.ownsRow B 9 1 (.slice (some ⟨gt,0,none⟩) ys.length ct) ys.length (strs ys)
 o:wr.ownsRow B 36 3 (.slice (some ⟨go,0,none⟩) ys.length co) ys.length Lo
 rd:cZ w0 S (ys.map J.aI) Lo
 ne:gt≠go
def a3G:(Tryz.prog.info? 9).map (λ i=>(i.zero,i.size,i.bytes))=some (some (.string ⟨#[]⟩),1,16):=by kernel_rfl
def NU{w:World}{S:Nat->Prop}:∀ (ds es:List D) {l:List Value},cZ w S (ds++es) l->∃ l1 l2,l=l1++l2/\cZ w S ds l1/\cZ w S es l2
 | [],es,l,h=>⟨[],l,rfl,rfl,h⟩
 | d::ds,es,l,h=>by
  obtain⟨c,r,rfl,h1,h2⟩:=h;obtain⟨l1,l2,rfl,h3,h4⟩:=NU ds es h2;exact⟨c++l1,l2,by simp,⟨c,l1,rfl,h1,h3⟩,h4⟩
def Z5{w0:World}{S:Nat->Prop}{ys:List J}{Lo:List Value}{x:J}{c0 c1 c2:Value}{k:Nat}(h:cZ w0 S (ys.map J.aI) Lo)(hx:Rd w0 S x.aI [c0,c1,c2])(hk:k<=ys.length) :
  cZ w0 S ((ys.take k++x::ys.drop k).map J.aI) (Lo.take (k * 3)++[c0,c1,c2]++Lo.drop (k * 3)):=by
 have e:ys.map J.aI=(ys.take k).map J.aI++(ys.drop k).map J.aI:=by rw[<-a8R,a9a]
 rw[e] at h;obtain⟨l1,l2,rfl,h1,h2⟩:=NU _ _ h;have hl:=cZ.length (n:=3) _ h1 (Mx _);rw[a8n,a8D,b1n hk] at hl;rw[List.take_left' hl,List.drop_left' hl,a8R,a8d,a8c];exact cZ.append _ _ h1 ⟨[c0,c1,c2],l2,rfl,hx,h2⟩
def zS{P:Program}{w:World}{ops:Array Oper}{o:Oper}{a:Act}{K:Act->World->Prop}{Q:Exit->Act->World->Prop}{E:Prop}(hgd:o.guard=none)(s x:Operand)(t:TypeId)
  (ho:o.op = .call { callee := .builtin .append,args := #[s,x],argTypes := #[t,t] })
  (base:Nat) (e:TypeId) (i:TypeInfo) (z:Value) (size bytes:Nat) (ht:P.underlying t=some (.slice e)) (hi:P.info? e=some i) (hz:i.zero=some z)
  (vZ:i.size=size) (YS:i.bytes=bytes) (IK:z.cells.size=size) (bW:0<size)
  (v:Value) (n:Nat) (xs:List Value) (hs:a.eval s=v) (dA:w.ownsRow base e size v n xs)
  (ad:Addr) (m c:Nat) (news:List Value) (hx:a.eval x = .slice (some ad) m c) (hl:news.length=m * size) (yv:∀ j u,news[j]?=some u->w.cell? (ad.add j)=some u) (h1:∀ u∈news,u.oneCell'=true)
  (h63:n+m<=maxLen) (QS:(n+m) * bytes<=140737488355328) (IC:base<=w.heap.size)
  (h:∀ v' w',w'.ownsRow base e size v' (n+m) (xs++news)->w.grownBy w' v.ownBlock->(v'.ownBlock=v.ownBlock\/v'.ownBlock=some w.heap.size)->K (a.put o.dst v') w') :
  if Region.wanted o (yielded ops a.tmps)=true then Oper.wp P o a w K Q else E:=by
 have hw:Region.wanted o (yielded ops a.tmps)=true:=by simp[Region.wanted,hgd]
 rw[if_pos hw];obtain⟨v',w',hr,h2,h3,h4,h5⟩:=run_append_own_at (P:=P) w base t o.type e i z size bytes ht hi hz vZ YS IK bW v n xs dA ad m c news hl yv h1 h63 QS IC;unfold Oper.wp execOp;simp only[ho,resolve,invoke,builtin,Sem.run_bind,Sem.run_pure,Result.andThen_ok,List.map_toArray,List.map_cons,List.map_nil,hs,hx,hr];exact h v' w' h2 h3 h5
set_option maxRecDepth 100000 in
def RG(
           w0:World) (S:Nat->Prop) (hS:iR w0 S) (xs:List J) (hx:jF xs) (hn:eH xs<=9000) (w:World) (hb:Below w0.heap.size w0 w) (g cap:Nat) (hgw:g<w.heap.size)
  (hc:∀ k y,xs[k]?=some y->∃ c0 c1 c2,bn w g (k * 3) [c0,c1,c2]/\Rd w0 S y.aI [c0,c1,c2]) :
  Calls prog 86 #[.slice (some ⟨g,0,none⟩) xs.length cap] w λ e w'=>∃ g' c' L',e = .returned (.slice (some ⟨g',0,none⟩) xs.length c')/\w'.ownsRow w.heap.size 36 3 (.slice (some ⟨g',0,none⟩) xs.length c') xs.length L'/\cZ w0 S ((yM xs).map J.aI) L'/\Below w.heap.size w w':=by
 have hlen:xs.length<=9000:=by have:eH xs=cg aj xs+xs.length:=rfl;omega
 have B0:Below w.heap.size w ((w.alloc (.cells #[] 9)).alloc (.cells #[] 36)):=((a9y _ w).alloc (a7P _) _).alloc (by simp) _;have T0:((w.alloc (.cells #[] 9)).alloc (.cells #[] 36)).ownsRow w.heap.size 9 1 (.slice (some ⟨w.heap.size,0,none⟩) 0 0) 0 []:=(a9U w #[] 0 (a7P _) (a8r _) (by simp)).alloc _;have O0:((w.alloc (.cells #[] 9)).alloc (.cells #[] 36)).ownsRow w.heap.size 36 3 (.slice (some ⟨w.heap.size+1,0,none⟩) 0 0) 0 []:=by
  have:=World.ownsRow_made (base:=w.heap.size) (e:=36) (size:=3) (w.alloc (.cells #[] 9)) #[] 0 (by simp) (Nat.zero_le _) (by simp);simpa using this
 go_enter Tryz.func86,Tryz.ntmps86;go_wp2;go_loopw [3,4,5] (λ vt vo i wr=>∃ (k gt ct go co:Nat) (Lo:List Value),i = .int .i64 k/\k<=xs.length/\vt = .slice (some ⟨gt,0,none⟩) k ct/\vo = .slice (some ⟨go,0,none⟩) k co/\SrR w0 S w.heap.size w wr (RJ xs k) gt ct go co Lo) (λ vt vo i wr=>xs.length - kN i)
 .exact⟨0,_,_,_,_,[],rfl,a8r _,rfl,rfl,⟨B0,T0,O0,rfl,by simp⟩⟩
 obtain⟨i,gt,ct,go,co,Lo,rfl,hi,rfl,rfl,hR⟩:=hrel;clear B0 T0 O0;by_cases bp:i<xs.length
 .obtain⟨x,Db⟩:∃ x,xs[i]?=some x:=⟨_,a7L bp⟩;have hgx:aB x=true:=hx x (a8i Db);obtain⟨c0,c1,c2,hcx,hrx⟩:=hc i x Db;have Dc:=Tq xs i hi;have ua:aj x<=9000:=by
   have:aj x<=cg aj xs:=by
    obtain⟨a,b,rfl⟩:=b0K (a8i Db);rw[xN];simp[cg];omega
   have:eH xs=cg aj xs+xs.length:=rfl;omega
  have hbr:Below w0.heap.size w0 wr:=hb.trans (hR.cS.mono hb.size);have mZ:g<wr.heap.size:=a7F hgw hR.cS.size;have QU:bn wr g (i * 3) [c0,c1,c2]:=hcx.aK (hR.cS.block g hgw);have a5W:=XA xs i x Db;generalize hY:RJ xs i=ys at *
  go_wp2_with (go_at_call 104;refine (Vo hS hbr x hgx (RS x hgx ua) g (i * 3) _ mZ QU hrx).mono ?_);rintro e w1 ⟨he,rl⟩;subst he;have b1:Below w.heap.size w w1:=hR.cS.trans (oX rl hR.cS.size);have gk:wr.grownBy w1 none:=⟨rl.os,rl.tape,rl.output,rl.size,λ k h1 _=>rl.block k h1 id⟩;have t1:=hR.t.kept gk (.inr (by simp[Value.ownBlock]));have o1:=hR.o.kept gk (.inr (by simp[Value.ownBlock]));have Q6:bn w1 g (i * 3) [c0,c1,c2]:=QU.aK (rl.block g mZ id);have dm:=hR.ne;have eN:=hR.rd;rw[Dc] at t1 o1;clear hR rl gk QU mZ hbr;have tc:=t1.cells (g:=gt) rfl;obtain⟨i9,h9,h90,h91,h92⟩:=b1A a3G;obtain⟨i0,OJ,OP,IJ,KH⟩:=b1A Q9;have kt:i<=ct:=by
   rcases t1.2 with ⟨e,_⟩|⟨_,_,_,e,_,_,e1,_⟩
   .cases e
   .cases e;exact e1
  have ko:i<=co:=by
   rcases o1.2 with ⟨e,_⟩|⟨_,_,_,e,_,_,e1,_⟩
   .cases e
   .cases e;exact e1
  have oc:=o1.cells (g:=go) rfl;have hLo:Lo.length=i * 3:=o1.1;have bU:(strs ys).length=i:=by rw[strs,a8n,Dc]
  have hB1:=b1.size;go_upto_block 2 with fail;go_cut [7] (λ s7 wx=>wx=w1/\∃ k:Nat,s7 = .int .i64 k/\k<=i/\fw x ys=ys.take k++x::ys.drop k);case first =>
   go_wp2;go_loopw [7] (λ a wr'=>wr'=w1/\∃ k:Nat,a = .int .i64 k/\k<=i/\∀ j y,j<k->ys[j]?=some y->OZ y x=true) (λ a wr'=>i - kN a)
   .exact⟨rfl,0,rfl,a8r _,λ j y h=>absurd h (a8a _)⟩
   obtain⟨rfl,k,rfl,hk,Y8⟩:=hrel;by_cases E1:k<i
   .obtain⟨y,hy⟩:∃ y,ys[k]?=some y:=⟨_,a7L (by omega)⟩;have ck:wr.cell? ⟨gt,k,none⟩=some (.string ⟨(bE y).toArray⟩):=by
     have:=tc k _ (XC ys k y hy);simpa [Addr.add_lit] using this
    have J4:Op.bytesLess (bE y) (bE x)=OZ y x:=rfl;cases hL:OZ y x
    .rw[hL] at J4;go_wp2;go_meet;refine⟨rfl,k,rfl,hk,M9 x ys k (by omega) Y8 λ z hz=>?_⟩;rw[hy] at hz;cases hz;exact hL
    .rw[hL] at J4;go_wp2;refine⟨⟨af,k+1,by simp,by omega,λ j z hj hz=>?_⟩,?_⟩
     .rcases a8m j k with q|q
      .exact Y8 j z q hz
      .have:j=k:=by omega
       subst this;rw[hy] at hz;cases hz;exact hL
     .simp only[kN];omega
   .go_wp2;go_meet;refine⟨rfl,k,rfl,hk,M9 x ys k (by omega) Y8 λ z hz=>?_⟩;have:=(a7R.1 hz).1;omega
  case rest =>
   obtain⟨rfl,k,rfl,hk,YZ⟩:=hcut;obtain⟨w1,rfl⟩:∃ w1,w1=wc:=⟨_,rfl⟩;have b1:Below w.heap.size w w1:=by assumption
   go_upto_region 10 with fail;go_cut [8] (λ s8 wx=>∃ g8 c8,s8 = .slice (some ⟨g8,0,none⟩) (i - k) c8/\wx.ownsRow w1.heap.size 9 1 (.slice (some ⟨g8,0,none⟩) (i - k) c8) (i - k) ((strs ys).drop k)/\Below w1.heap.size w1 wx);case first =>
    have hd:((strs ys).drop k).length=(i - k) * 1:=by rw[a8J,bU,Nat.mul_one]
    have sO:∀ u∈(strs ys).drop k,u.oneCell'=true:=λ u hu=>by
     obtain⟨y,_,rfl⟩:=a7B.1 (b0e hu);rfl
    by_cases hck:ct=k
    .subst hck;go_wp2_with (at_builtin;refine b0s _ rfl _ _ 152 rfl w1.heap.size 9 i9 _ 1 16 Tryz.underlying152 h9 h90 h91 h92 rfl (by decide) _ _ _ rfl (a9U w1 #[] 0 (a7P _) (a8r _) (by simp)) ⟨gt,0,none⟩ 0 0 [] rfl rfl (λ j u hj=>by simp at hj) (λ u hu=>by simp at hu) (by simp[maxLen]) (by omega) (by simp) ?_);intro v' w2 dA df iu;go_wp2;go_meet;try simp only[a8W,a8l] at dA
     have e1:i - ct=0:=by omega
     have e2:(strs ys).drop ct=[]:=a9A (by omega);rw[e1,e2];rcases dA.2 with ⟨e,_⟩|⟨g8,c8,a4U,e,q1,q2,q3,q4,q5,q6⟩
     .exact absurd e iu
     .subst e;exact⟨g8,c8,rfl,dA,((a9y _ w1).alloc (a7P _) _).grown df (by simp) (by intro k hk;simp[Value.ownBlock] at hk;omega)⟩
    .go_wp2_with (at_builtin;refine b0s _ rfl _ _ 152 rfl w1.heap.size 9 i9 _ 1 16 Tryz.underlying152 h9 h90 h91 h92 rfl (by decide) _ _ _ rfl (a9U w1 #[] 0 (a7P _) (a8r _) (by simp)) ⟨gt,k,none⟩ (i - k) (ct - k) ((strs ys).drop k) rfl hd ?qb sO (by simp[maxLen];omega) (by omega) (by simp) ?_);case qb =>
      intro j u hj;rw[List.getElem?_drop] at hj;have:=tc _ _ hj;rw[Addr.add_lit];rw[Addr.add_lit] at this;simpa using Lib.cell?_alloc_some _ this
     .intro v' w2 dA df iu;go_wp2;go_meet;try simp only[a8W,a8l] at dA
      rcases dA.2 with ⟨e,_⟩|⟨g8,c8,a4U,e,q1,q2,q3,q4,q5,q6⟩
      .exact absurd e iu
      .subst e;exact⟨g8,c8,rfl,dA,((a9y _ w1).alloc (a7P _) _).grown df (by simp) (by intro k hk;simp[Value.ownBlock] at hk;omega)⟩
   case rest =>
    obtain⟨g8,c8,hs8,a2M,JR⟩:=hcut;have A8:Aside (_=Value.slice (some ⟨g8,0,none⟩) (i - k) c8):=hs8;clear hs8;obtain⟨w2,rfl⟩:∃ w2,w2=wc:=⟨_,rfl⟩;have t2:=t1.kept (xc JR) (.inr (by simp[Value.ownBlock]));have o2:=o1.kept (xc JR) (.inr (by simp[Value.ownBlock]));have hx2:bn w2 g (i * 3) [c0,c1,c2]:=Q6.aK (JR.block g (by omega));have n8:=(a2M.lt g8 rfl);have oc:=o2.cells (g:=go) rfl;go_upto_region 11 with fail;go_cut [9] (λ s9 wx=>∃ g9 c9,s9 = .slice (some ⟨g9,0,none⟩) (i - k) c9/\wx.ownsRow w2.heap.size 36 3 (.slice (some ⟨g9,0,none⟩) (i - k) c9) (i - k) (Lo.drop (k * 3))/\Below w2.heap.size w2 wx);case first =>
     have hd:(Lo.drop (k * 3)).length=(i - k) * 3:=by rw[a8J,hLo,Nat.sub_mul]
     have sO:∀ u∈Lo.drop (k * 3),u.oneCell'=true:=λ u hu=>cZ.jb (τ := .st .expr) eN u (b0e hu);by_cases hck:co=k
     .subst hck;go_wp2_with (at_builtin;refine b0s _ rfl _ _ 33 rfl w2.heap.size 36 i0 _ 3 40 Tryz.underlying33 OJ OP IJ KH rfl (by decide) _ _ _ rfl (a9U w2 #[] 0 (a7P _) (a8r _) (by simp)) ⟨go,0,none⟩ 0 0 [] rfl rfl (λ j u hj=>by simp at hj) (λ u hu=>by simp at hu) (by simp[maxLen]) (by omega) (by simp) ?_);intro v' w3 dA df iu;go_wp2;go_meet;try simp only[a8W,a8l] at dA
      have e1:i - co=0:=by omega
      have e2:Lo.drop (co * 3)=[]:=a9A (by omega);rw[e1,e2];rcases dA.2 with ⟨e,_⟩|⟨g9,c9,a4V,e,q1,q2,q3,q4,q5,q6⟩
      .exact absurd e iu
      .subst e;exact⟨g9,c9,rfl,dA,((a9y _ w2).alloc (a7P _) _).grown df (by simp) (by intro k hk;simp[Value.ownBlock] at hk;omega)⟩
     .go_wp2_with (at_builtin;refine b0s _ rfl _ _ 33 rfl w2.heap.size 36 i0 _ 3 40 Tryz.underlying33 OJ OP IJ KH rfl (by decide) _ _ _ rfl (a9U w2 #[] 0 (a7P _) (a8r _) (by simp)) ⟨go,k * 3,none⟩ (i - k) (co - k) (Lo.drop (k * 3)) rfl hd ?qb sO (by simp[maxLen];omega) (by omega) (by simp) ?_);case qb =>
       intro j u hj;rw[List.getElem?_drop] at hj;have:=oc _ _ hj;rw[Addr.add_lit];rw[Addr.add_lit] at this;simpa using Lib.cell?_alloc_some _ this
      .intro v' w3 dA df iu;go_wp2;go_meet;try simp only[a8W,a8l] at dA
       rcases dA.2 with ⟨e,_⟩|⟨g9,c9,a4V,e,q1,q2,q3,q4,q5,q6⟩
       .exact absurd e iu
       .subst e;exact⟨g9,c9,rfl,dA,((a9y _ w2).alloc (a7P _) _).grown df (by simp) (by intro k hk;simp[Value.ownBlock] at hk;omega)⟩
    case rest =>
     obtain⟨g9,c9,hs9,a2N,Mc⟩:=hcut;have A9:Aside (_=Value.slice (some ⟨g9,0,none⟩) (i - k) c9):=hs9;clear hs9;obtain⟨w3,rfl⟩:∃ w3,w3=wc:=⟨_,rfl⟩;have t3:=t2.kept (xc Mc) (.inr (by simp[Value.ownBlock]));have o3:=o2.kept (xc Mc) (.inr (by simp[Value.ownBlock]));have ZT:=a2M.kept (xc Mc) (.inr (by simp[Value.ownBlock]));have hx3:bn w3 g (i * 3) [c0,c1,c2]:=hx2.aK (Mc.block g (by have:=JR.size;omega));have n9:=(a2N.lt g9 rfl);obtain rfl:=A8.out;obtain rfl:=A9.out;clear A8 A9;have s2:=JR.size;have s3:=Mc.size;have q8:=ZT.cells (g:=g8) rfl;have h8:g8<w3.heap.size:=by omega
     have ng8:g8≠gt:=by
      have:=(t1.lt gt rfl).2;omega
     have E12:Aside ((strs ys).take k ++ .string ⟨(bE x).toArray⟩::(strs ys).drop k=strs (fw x ys)):=show _=_ by
      rw[YZ];simp[strs,List.map_take,List.map_drop]
     have a1G:Aside (fw x ys=ys.take k++x::ys.drop k):=YZ;clear YZ;go_upto_region 12 with fail;go_cut [3] (λ s3 wx=>∃ g3 c3,s3 = .slice (some ⟨g3,0,none⟩) (i+1) c3/\wx.ownsRow w.heap.size 9 1 (.slice (some ⟨g3,0,none⟩) (i+1) c3) (i+1) (strs (fw x ys))/\w3.grownBy wx (some gt)/\(g3=gt\/w3.heap.size<=g3));case first =>
      have pt:=(Kf t3 hk).alloc (.cells #[.string ⟨(bE x).toArray⟩] 9);go_wp2_with (at_builtin;refine b1B _ rfl _ _ 152 rfl w.heap.size 9 i9 _ 1 16 Tryz.underlying152 h9 h90 h91 h92 rfl (by decide) _ k _ rfl pt ⟨w3.heap.size,0,none⟩ 1 1 [.string ⟨(bE x).toArray⟩] rfl rfl (cell_one_new _ _ _) (by simp[Value.oneCell']) (by simp[maxLen];omega) (by omega) (by simp;omega) ?_);intro v51 w4 a3C Cl a6F a5x;have a3T:=(ZT.alloc (.cells #[.string ⟨(bE x).toArray⟩] 9)).kept Cl (.inr (by simp[Value.ownBlock];omega));have SE:=Cl.size;go_wp2_with (at_builtin;refine b1B _ rfl _ _ 152 rfl w.heap.size 9 i9 _ 1 16 Tryz.underlying152 h9 h90 h91 h92 rfl (by decide) v51 (k+1) _ rfl a3C ⟨g8,0,none⟩ (i - k) c8 ((strs ys).drop k) rfl (by rw[a8J,bU,Nat.mul_one]) (a3T.cells (g:=g8) rfl) (λ u hu=>?_) (by simp[maxLen];omega) (by omega) (by simp at SE;omega) ?_)
      .obtain⟨y,_,rfl⟩:=a7B.1 (b0e hu);rfl
      .intro v53 w5 yx GX a6G a5y;go_wp2;go_meet;have hi1:k+1+(i - k)=i+1:=by omega
       rw[hi1,E12.out] at yx;rcases yx.2 with ⟨e,_⟩|⟨g3,c3,cur3,e,q1,q2,q3,q4,q5,q6⟩
       .have:=yx.1;rw[e] at yx;simp at *
       .subst e;have a1:∀ j,v51.ownBlock=some j->j=gt\/j=w3.heap.size+1:=λ j hj=>by
         rcases a5x with h|h
         .rw[h] at hj;left;simpa [Value.ownBlock] using hj.symm
         .rw[h] at hj;right;simpa using hj.symm
        refine⟨g3,c3,rfl,yx,⟨GX.os.trans Cl.os,GX.tape.trans Cl.tape,GX.output.trans Cl.output,by have:=GX.size;simp at SE;omega,λ j h1 h2=>?_⟩,?_⟩
        .rw[GX.block j (by simp at SE;omega) λ e=>?_,Cl.block j (by simp;omega) h2]
         .exact a8K _ _ _ h1
         .rcases a1 j e.symm with h|h
          .exact h2 (congrArg some h)
          .omega
        .rcases a5y with h|h
         .rcases a1 g3 (h.symm.trans rfl) with h|h
          .exact .inl h
          .exact .inr (by omega)
         .right;have:g3=w4.heap.size:=by simpa [Value.ownBlock] using h
          simp at SE;omega
     case rest =>
      obtain⟨g3,c3,rfl,t4,Si,hg3⟩:=hcut;obtain⟨w4,rfl⟩:∃ w4,w4=wc:=⟨_,rfl⟩;have ngo:go≠gt:=b1P dm;have o4:=o3.kept Si (.inr (by simp[Value.ownBlock];exact ngo));have ng9:g9≠gt:=by have:=(t1.lt gt rfl).2;omega
      have ZU:=a2N.kept Si (.inr (by simp[Value.ownBlock];exact ng9));have a5M:=(t1.lt gt rfl).1;have hx4:bn w4 g (i * 3) [c0,c1,c2]:=hx3.aK (Si.block g (by omega) λ e=>by cases e;omega);have q9:=ZU.cells (g:=g9) rfl;have E34:Aside ((ys.take k).map J.aI++x.aI::(ys.drop k).map J.aI=(fw x ys).map J.aI):=show _=_ by
       rw[a1G.out];simp
      have OI:g<w4.heap.size:=by have:=Si.size;omega
      have r0:w4.cell? ⟨g,i * 3,none⟩=some c0:=hx4 0 _ rfl;have r1:w4.cell? ⟨g,i * 3+1,none⟩=some c1:=hx4 1 _ rfl;have r2:w4.cell? ⟨g,i * 3+2,none⟩=some c2:=hx4 2 _ rfl;have bi0:(0:Int)<=(i:Int):=by omega
      have bi1:(i:Int)<(xs.length:Int):=by omega
      have bk0:(0:Int)<=(k:Int):=by omega
      have bk1:(k:Int)<=(co:Int):=by omega
      have a3A:∀ u∈[c0,c1,c2],u.oneCell'=true:=cZ.jb (τ := .st .expr) (xs:=[x]) (S:=S) (w:=w0) ⟨[c0,c1,c2],[],rfl,hrx,rfl⟩;have a3B:∀ u∈Lo.drop (k * 3),u.oneCell'=true:=λ u hu=>cZ.jb (τ := .st .expr) eN u (b0e hu);go_wp2_with fail;have gog:some g≠some go:=λ e=>by cases e;have:=(o1.lt g rfl).1;omega
      have po:=((Kf o4 hk).alloc (.cells #[c0,c1,c2] 36)).drew;have a7u:g9≠go:=by have:=(o1.lt go rfl).2;have:=JR.size;omega
      go_region_held3 (λ w'=>w'.cell? ⟨g,i * 3,none⟩=some c0/\w'.cell? ⟨g,i * 3+1,none⟩=some c1/\w'.cell? ⟨g,i * 3+2,none⟩=some c2)
       (first
        | go_keep
        | (
          go_split_ands
          refine⟨?_,?_,?_⟩
          ·(rw[Cm.cell_far _ (by simp at *;omega) gg6];assumption)
          ·(rw[Cm.cell_far _ (by simp at *;omega) gg6];assumption)
          ·(rw[Cm.cell_far _ (by simp at *;omega) gg6];assumption))
        | (
          go_split_ands
          refine⟨?_,?_,?_⟩
          ·(rw[gO.cell_far _ (by simp;omega) gog];assumption)
          ·(rw[gO.cell_far _ (by simp;omega) gog];assumption)
          ·(rw[gO.cell_far _ (by simp;omega) gog];assumption)))
       ((first
         | (
           refine zS (by rfl) _ _ _ (by rfl) w.heap.size 36 i0 _ 3 40 Tryz.underlying33 OJ OP IJ KH rfl (by omega) _ k _ (by rfl) po ⟨w4.heap.size,0,none⟩ 1 1 [c0,c1,c2] (by rfl) (by rfl) (b0E (cs := #[c0,c1,c2]) (t:=36) (fr:=(0,0)) (a8Q w4 _)) a3A (by simp[maxLen];omega) (by omega) (by simp;have:=Si.size;omega) ?_
           intro v62 w6 UE gO YQ
           have a6:∀ j,v62.ownBlock=some j->j=go\/j=w4.heap.size+1:=λ j hj=>by
            rcases YQ with h|h
            .rw[h] at hj;left;simpa [Value.ownBlock] using hj.symm
            .rw[h] at hj;right;simpa using hj.symm
           have gg6:some g≠v62.ownBlock:=λ e=>by
            rcases a6 g e.symm with h|h
            .exact gog (congrArg some h)
            .omega
           have hw6:w4.heap.size+1<=w6.heap.size:=by simpa using gO.size
           have a3U:w6.ownsRow w2.heap.size 36 3 (Value.slice (some ⟨g9,0,none⟩) (i - k) c9) (i - k) (Lo.drop (k * 3)):=((ZU.alloc (.cells #[c0,c1,c2] 36)).drew).kept gO (.inr (by simp[Value.ownBlock];omega))
           have q96:=a3U.cells (g:=g9) rfl)
         | (
           refine zS (by rfl) _ _ _ (by rfl) w.heap.size 36 i0 _ 3 40 Tryz.underlying33 OJ OP IJ KH rfl (by omega) v62 (k+1) _ (by rfl) UE ⟨g9,0,none⟩ (i - k) c9 (Lo.drop (k * 3)) (by rfl) (by rw[a8J,hLo,Nat.sub_mul]) q96 a3B (by simp[maxLen];omega) (by omega) (by have:=Si.size;omega) ?_
           intro v64 w7 Q1 Cm a5z)))
      go_wp2;have hz4:=Si.size;have hz6:w4.heap.size+1<=w6.heap.size:=by simpa using gO.size
      have hz7:=Cm.size;have hc7:v64.ownBlock=some go\/v64.ownBlock=some (w4.heap.size+1)\/v64.ownBlock=some w6.heap.size:=by
       rcases a5z with h|h
       .rcases YQ with h'|h'
        .exact .inl (h.trans (h'.trans rfl))
        .exact .inr (.inl (h.trans (by simpa using h')))
       .exact .inr (.inr h)
      have hc6:v62.ownBlock=some go\/v62.ownBlock=some (w4.heap.size+1):=by
       rcases YQ with h'|h'
       .exact .inl (h'.trans rfl)
       .exact .inr (by simpa using h')
      have a7m:=o1.lt go rfl;have a7j:=(t4.lt g3 rfl);have a5r:g3≠go:=by rcases hg3 with h|h<;>omega
      have hik:k+1+(i - k)=i+1:=by omega
      have Ze:w7.ownsRow w.heap.size 36 3 v64 (i+1) (Lo.take (k * 3)++[c0,c1,c2]++Lo.drop (k * 3)):=by
       rw[hik] at Q1;simpa using Q1
      have u1:=b1.size;have u2:=JR.size;have u3:=Mc.size;have u5:w.heap.size<=gt:=a5M;have hB:Below w.heap.size w w7:=by
       have h1:Below w.heap.size w w4:=(b1.trans ((JR.mono hB1).trans (Mc.mono (by omega)))).grown Si (by omega) (by intro j e;cases e;omega);exact ((h1.alloc (by omega) _).grown ⟨gO.os,gO.tape,gO.output,gO.size,gO.block⟩ (by simp;omega) (λ j e=>by have e':go=j:=a8I e;omega)).grown Cm (by omega) (by
        intro j e;rcases hc6 with h|h
        .have:go=j:=a8I (h.symm.trans e);omega
        .have:w4.heap.size+1=j:=a8I (h.symm.trans e);omega)
      have t7:=((t4.alloc (.cells #[c0,c1,c2] 36)).kept ⟨gO.os,gO.tape,gO.output,gO.size,gO.block⟩ (.inr (by simp[Value.ownBlock];omega))).kept Cm (.inr (by
       intro e;rcases hc6 with h|h
       .rw[h] at e;exact a5r (by simpa [Value.ownBlock] using e)
       .rw[h] at e;have:g3=w4.heap.size+1:=by simpa [Value.ownBlock] using e
        omega))
      rcases Ze.2 with ⟨_,e⟩|⟨g10,c10,a6D,e,q1,q2,q3,q4,q5,q6⟩
      .omega
      .subst e;have Y0:=a1G.out;have il:(fw x ys).length=i+1:=by rw[Y0];simp;omega
       refine⟨⟨i+1,g3,c3,g10,c10,Lo.take (k * 3)++[c0,c1,c2]++Lo.drop (k * 3),by simp,by omega,by first|rfl|simp,by first|rfl|simp,?_⟩,?_⟩
       .rw[a5W];refine⟨hB,by rw[il];exact t7,by rw[il];exact Ze,?_,?_⟩
        .rw[Y0];exact Z5 eN hrx (by omega)
        .rcases hc7 with h|h|h
         .have:g10=go:=by simpa [Value.ownBlock] using h
          omega
         .have:g10=w4.heap.size+1:=by simpa [Value.ownBlock] using h
          omega
         .have:g10=w6.heap.size:=by simpa [Value.ownBlock] using h
          omega
       .simp only[kN];omega
 .have jy:i=xs.length:=by omega
  subst jy;have hl:=Tq xs _ hi;have sR:RJ xs xs.length=yM xs:=by unfold RJ;rw[List.take_length]
  have hro:=hR.o;have ON:=hR.rd;have hrb:=hR.cS;rw[hl] at hro;rw[sR] at ON;clear hR;go_wp2;go_ret;exact⟨go,co,Lo,rfl,hro,ON,hrb⟩
def Sx(w0:World)(S Z:Nat->Prop)(w:World):Nat->Prop:=λ b=>S b\/(w0.heap.size<=b/\b<w.heap.size/\¬ Z b)
def Jt{w0 w:World}{S:Nat->Prop}(Z:Nat->Prop)(hS:iR w0 S)(hb:Below w0.heap.size w0 w):iR w (Sx w0 S Z w) :=
 ⟨λ b h=>h.elim (λ h=>a7F (hS.1 b h) hb.size) (λ h=>h.2.1),hS.2.mono (λ _ h => .inl h) λ b h=>hb.block b (hS.1 b h)⟩
def pq{w0 w w':World}{S Z Z':Nat->Prop}(hS:iR w0 S)(hb:Below w0.heap.size w0 w)(hz:w.heap.size<=w'.heap.size)(WW:∀ b,Z b->w0.heap.size<=b)(hk:∀ b,b<w.heap.size->¬ Z b->w'.heap[b]?=w.heap[b]?)(hZ:∀ b,b<w.heap.size->Z' b->Z b){d:D}{cs:List Value}(r:Rd w (Sx w0 S Z w) d cs):Rd w' (Sx w0 S Z' w') d cs :=
 Rd.aK (λ b h=>h.imp id λ h=>⟨h.1,a7F h.2.1 hz,λ q=>h.2.2 (hZ b h.2.1 q)⟩) (λ b h=>by
  rcases h with h|h
  .have:=hS.1 b h;exact hk b (a7F this hb.size) λ q=>by have:=WW b q;omega
  .exact hk b h.2.1 h.2.2) _ r
def Og{w0 w w':World}{S Z:Nat->Prop}(hS:iR w0 S)(hb:Below w0.heap.size w0 w)(hk:bJ (λ _=>False) w w'){d:D}{cs:List Value}(r:Rd w (Sx w0 S Z w) d cs):Rd w' (Sx w0 S Z w') d cs :=
 Rd.aK (λ b h=>h.imp id λ h=>⟨h.1,a7F h.2.1 hk.size,h.2.2⟩) (λ b h=>hk.block b ((Jt Z hS hb).1 b h) id) _ r
def RN{w0 w:World}{S:Nat->Prop}(Z:Nat->Prop)(hS:iR w0 S)(hb:Below w0.heap.size w0 w){d:D}{cs:List Value}(r:Rd w0 S d cs):Rd w (Sx w0 S Z w) d cs :=
 Rd.aK (λ b h => .inl h) (λ b h=>hb.block b (hS.1 b h)) _ r
def HO{w0 w w':World}{S S' Z:Nat->Prop}(hS:iR w0 S)(hb:Below w0.heap.size w0 w)(hZ:∀ b,Z b->b<w.heap.size)(hk:bJ (λ _=>False) w w')(h1:∀ b,b<w.heap.size->(S' b↔Sx w0 S Z w b))(h2:∀ b,S' b->b<w'.heap.size){d:D}{cs:List Value}(r:Rd w' S' d cs):Rd w' (Sx w0 S Z w') d cs :=
 Rd.aK (λ b h=>by
  rcases a8m b w.heap.size with q|q
  .exact ((h1 b q).1 h).imp id λ h=>⟨h.1,by have:=hk.size;omega,h.2.2⟩
  .exact .inr ⟨by have:=hb.size;omega,h2 b h,λ z=>by have:=hZ b z;omega⟩) (λ _ _=>rfl) _ r
def Jx{w:World}{S:Nat->Prop}{x:J}{cs:List Value}(h:Rd w S x.aI cs):∃ (k n:Int) (a:Option Addr) (l c:Nat),cs=[.int .i64 k, .int .i64 n, .slice a l c]:=by
 obtain⟨a,cap,rfl,_⟩:=nt h;exact⟨_,_,_,_,_,rfl⟩
def NN{w0 w:World}{S Z:Nat->Prop}(hS:iR w0 S)(hb:Below w0.heap.size w0 w)(hZ:∀ b,Z b->b<w.heap.size)(x:J)(hx:aU x<=1048576)(b o:Nat)(cx:List Value)(h1:b<w.heap.size)(h2:bn w b o cx)(rx:Rd w (Sx w0 S Z w) x.aI cx) :
  Calls prog np #[.pointer (some ⟨b,o,none⟩)] w λ e w'=>∃ (k' n':Int) (a':Option Addr) (l' c':Nat),e = .returned (.agg #[.int .i64 k', .int .i64 n', .slice a' l' c'])/\bJ (λ _=>False) w w'/\Rd w' (Sx w0 S Z w') x.aI [.int .i64 k', .int .i64 n', .slice a' l' c']:=by
 refine (gu.2 x hx w _ [_] (Jt Z hS hb) ⟨⟨b,o,cx,rfl,h1,h2,rx⟩,af⟩).mono ?_;rintro e w' ⟨v,S',res,rfl,rfl,fg,tY,xd,hr⟩;obtain⟨cs,rfl,ub⟩:=(show ∃ cs,v = .agg cs.toArray/\Rd w' S' x.aI cs from hr);obtain⟨_,_,_,_,_,rfl⟩:=Jx ub;exact⟨_,_,_,_,_,rfl,fg,HO hS hb hZ fg tY xd ub⟩
def S6{w0 w:World}{S Z:Nat->Prop}(hS:iR w0 S)(hb:Below w0.heap.size w0 w)(hZ:∀ b,Z b->b<w.heap.size)(x y:J)(a0 a1 a2 b0 b1 b2:Value)(rx:Rd w (Sx w0 S Z w) x.aI [a0,a1,a2])(ry:Rd w (Sx w0 S Z w) y.aI [b0,b1,b2]) :
  Calls prog qG #[.int .i64 6, .agg #[a0,a1,a2], .agg #[b0,b1,b2]] w λ e w'=>∃ (k' n':Int) (a':Option Addr) (l' c':Nat),e = .returned (.agg #[.int .i64 k', .int .i64 n', .slice a' l' c'])/\bJ (λ _=>False) w w'/\Rd w' (Sx w0 S Z w') (J.mk 6 0 [x,y]).aI [.int .i64 k', .int .i64 n', .slice a' l' c']:=by
 refine (fI.2 (6:Int) x y trivial w _ [_,_,_] (Jt Z hS hb) ⟨⟨rfl,by decide,by decide⟩,⟨[a0,a1,a2],rfl,rx⟩,⟨[b0,b1,b2],rfl,ry⟩,af⟩).mono ?_;rintro e w' ⟨v,S',res,rfl,rfl,fg,tY,xd,hr⟩;obtain⟨cs,rfl,ub⟩:=(show ∃ cs,v = .agg cs.toArray/\Rd w' S' (J.mk 6 0 [x,y]).aI cs from hr);obtain⟨_,_,_,_,_,rfl⟩:=Jx ub;exact⟨_,_,_,_,_,rfl,fg,HO hS hb hZ fg tY xd ub⟩
def TJ{w0 w:World}{S Z:Nat->Prop}(hS:iR w0 S)(hb:Below w0.heap.size w0 w)(hZ:∀ b,Z b->b<w.heap.size) :
  Calls prog qJ #[] w λ e w'=>∃ (k' n':Int) (a':Option Addr) (l' c':Nat),e = .returned (.agg #[.int .i64 k', .int .i64 n', .slice a' l' c'])/\bJ (λ _=>False) w w'/\Rd w' (Sx w0 S Z w') (J.mk 1 0 []).aI [.int .i64 k', .int .i64 n', .slice a' l' c']:=by
 refine (fJ.2 trivial w _ [] (Jt Z hS hb) trivial).mono ?_;rintro e w' ⟨v,S',res,rfl,rfl,fg,tY,xd,hr⟩;obtain⟨cs,rfl,ub⟩:=(show ∃ cs,v = .agg cs.toArray/\Rd w' S' (J.mk 1 0 []).aI cs from hr);obtain⟨_,_,_,_,_,rfl⟩:=Jx ub;exact⟨_,_,_,_,_,rfl,fg,HO hS hb hZ fg tY xd ub⟩
def pC{w:World}{b t:Nat}{u0 u1 u2:Value}(h:w.heap[b]?=some (.cells #[u0,u1,u2] t (0,0))):(w.cell? ⟨b,0,none⟩=some u0/\w.cell? ⟨b,1,none⟩=some u1/\w.cell? ⟨b,2,none⟩=some u2)/\w.frozen? ⟨b,0,none⟩=false/\w.frozen? ⟨b,1,none⟩=false/\w.frozen? ⟨b,2,none⟩=false :=
 ⟨⟨by simp[World.cell?,h],by simp[World.cell?,h],by simp[World.cell?,h]⟩,QL h,QL h,QL h⟩
def Oa{w:World}{b t:Nat}{u0 u1 u2:Value}(c0 c1 c2:Value)(h:w.heap[b]?=some (.cells #[u0,u1,u2] t (0,0))):(((w.setCell ⟨b,0,none⟩ c0).setCell ⟨b,1,none⟩ c1).setCell ⟨b,2,none⟩ c2).heap[b]?=some (.cells #[c0,c1,c2] t (0,0)) /\
  ∀ k,k≠b->(((w.setCell ⟨b,0,none⟩ c0).setCell ⟨b,1,none⟩ c1).setCell ⟨b,2,none⟩ c2).heap[k]?=w.heap[k]? :=
 ⟨a8N _ _ _ _ _ _ (a8N _ _ _ _ _ _ (a8N _ _ _ _ _ _ h)),λ k hk=>by rw[a9e _ _ _ _ hk,a9e _ _ _ _ hk,a9e _ _ _ _ hk]⟩
def HN{a:Act}{w:World}{b:Nat}{cs:List Value}{t:TypeId}(h4:a.tmps.getD 4 undef = .pointer (some ⟨b,0,none⟩))(hb:w.heap[b]?=some (.cells cs.toArray t (0,0)))(hl:cs.length=3)(hd:a.defers=[])
  {R:Ending->World->Prop} (hR:R (.returned (.agg cs.toArray)) w):bodyPost prog Tryz.f59 R .ret a w:=by
 refine b1f ?_ hd hR;have cC:(Instr.loadAt 36 (.pointer (some ⟨b,0,none⟩))).run prog w = .ok (.agg cs.toArray) w:=gD (Ch (l:=[]) (wr:=[]) (cl:=[]) (ro:=[]) trivial) (T:=36) (τ := .st .expr) rfl (λ j v hj=>by simp[World.cell?,hb,hj]) hl;simp only[Instr.loadAt,Instr.sureAddr,a7U,a7S,a7N] at cC;rw[pf,a9t];simp only[a7U,b1p,Tryz.f59,a9K,List.mapM_nil,kJ,h4,asAddr,a7S,a7N,cC];rfl
def SM(L:List J)(z:J)(h:0<L.length):mh (L++[z])=J.mk 6 0 [mh L,z]:=by
 match L,h with
 | x::xs,_=>simp[mh,a9G]
def J6(ZS:List J)(k:Nat)(z:J)(h1:1<=k)(hz:ZS[k]?=some z):mh (ZS.take (k+1))=J.mk 6 0 [mh (ZS.take k),z]:=by
 have:=(a7R.1 hz).1;rw[a9H,hz];exact SM _ z (by rw[a8D];omega)
def YF(ZS:List J)(N:Nat)(hN:N<=9000)(h:eH ZS<=N)(k:Nat)(z:J)(hz:ZS[k]?=some z):aU z<=1048576:=by
 have:aj z<=cg aj ZS:=by
  obtain⟨a,b,rfl⟩:=b0K (a8i hz);rw[xN];simp[cg];omega
 have:eH ZS=cg aj ZS+ZS.length:=rfl;exact mD z (by omega)
set_option maxRecDepth 100000 in
def Ra(w:World)(S:Nat->Prop)(hS:iR w S)(x y:J)(hx:aB x=true)(hy:aB y=true)(hn:aj x+aj y<=7000)(bx ox bY oy:Nat)(cx cy:List Value)(ID:bx<w.heap.size)(hcx:bn w bx ox cx)(rx:Rd w S x.aI cx)
  (YS:bY<w.heap.size) (hcy:bn w bY oy cy) (ry:Rd w S y.aI cy) :
  Calls prog tH #[.pointer (some ⟨bx,ox,none⟩), .pointer (some ⟨bY,oy,none⟩)] w λ e w'=>∃ cs,e = .returned (.agg cs.toArray)/\Rd w' (Sx w S (λ _=>False) w') (Ln x y).aI cs/\bJ (λ _=>False) w w':=by
 have l0:CD w S (w.heap.size+1+1) (((w.alloc (.cells #[.int .i64 0, .int .i64 0, .slice none 0 0] 36)).alloc (.cells #[] 36)).alloc (.cells #[.slice (some ⟨w.heap.size+1,0,none⟩) 0 0] 33)) (.slice (some ⟨w.heap.size+1,0,none⟩) 0 0) [] []:=by
  refine⟨(((a9y _ w).alloc (a7P _) _).alloc (by simp) _).alloc (by simp;omega) _,by omega,?_,?_,rfl,by simp[Value.ownBlock],by simp⟩
  .have:=heap_alloc_new ((w.alloc (.cells #[.int .i64 0, .int .i64 0, .slice none 0 0] 36)).alloc (.cells #[] 36)) (.cells #[.slice (some ⟨w.heap.size+1,0,none⟩) 0 0] 33);simpa using this
  .have:=(World.ownsRow_made (base:=w.heap.size) (e:=36) (size:=3) (w.alloc (.cells #[.int .i64 0, .int .i64 0, .slice none 0 0] 36)) #[] 0 (by simp) (Nat.zero_le _) (by simp)).alloc (.cells #[.slice (some ⟨w.heap.size+1,0,none⟩) 0 0] 33);simpa using this
 have z0:(((w.alloc (.cells #[.int .i64 0, .int .i64 0, .slice none 0 0] 36)).alloc (.cells #[] 36)).alloc (.cells #[.slice (some ⟨w.heap.size+1,0,none⟩) 0 0] 33)).heap[w.heap.size]?=some (.cells #[.int .i64 0, .int .i64 0, .slice none 0 0] 36 (0,0)):=by
  rw[a8K _ _ _ (by simp;omega),a8K _ _ _ (by simp)];exact a8Q w _
 have tx:=Fw _ x (a7M _) hx [] (λ y hy=>by cases hy);have t0:eH []=0:=rfl;go_enter Tryz.func59,Tryz.ntmps59;go_wp2_with (go_at_call 85;refine (Cz w S hS _ x (a7M _) hx bx ox _ cx _ [] [] _ l0 ID hcx rx (λ y hy=>by cases hy) (by omega)).mono ?_);rintro e w1 ⟨he,v1,L1,l1,f1⟩;subst he;have z1:w1.heap[w.heap.size]?=some (.cells #[.int .i64 0, .int .i64 0, .slice none 0 0] 36 (0,0)):=(f1.block _ (by simp;omega) (by omega) (by simp[Value.ownBlock])).trans z0;have n1:v1.ownBlock≠some w.heap.size:=λ e=>by
  rcases f1.own _ e with h|h
  .simp[Value.ownBlock] at h
  .simp at h;omega
 go_wp2_with (go_at_call 85;refine (Cz w S hS _ y (a7M _) hy bY oy _ cy v1 _ L1 _ l1 YS hcy ry tx.1 (by omega)).mono ?_);rintro e w2 ⟨he,v2,L2,l2,f2⟩;subst he;have s1:=f1.size;have z2:w2.heap[w.heap.size]?=some (.cells #[.int .i64 0, .int .i64 0, .slice none 0 0] 36 (0,0)):=(f2.block _ (bz z1) (by omega) n1).trans z1;have ty:=Fw _ y (a7M _) hy _ tx.1;obtain⟨g,cap,cur,rfl,q1,q2,q3,q4,q5,q6⟩:=l2.form;have vq:=Nw l2;go_wp2_with (go_at_call 86;refine (RG w S hS (dJ y (dJ x [])) ty.1 (by omega) w2 l2.cS g cap (bz q3) (λ k z hz=>BW q3 q6 l2.rd k z hz)).mono ?_);rintro e w3 ⟨g3,c3,L3,he,a2K,rd3,b3⟩;subst he;have s2:=f2.size;have sb3:=b3.size;have sl:=bz z2;have lq2:=l2.lt;have b3w:Below w.heap.size w w3:=l2.cS.trans (b3.mono (by omega));have z3:=(b3.block _ sl).trans z2;have vq3:=(b3.block _ lq2).trans l2.var;have vc3:w3.cell? ⟨w.heap.size+1+1,0,none⟩=some (.slice (some ⟨g,0,none⟩) (dJ y (dJ x [])).length cap):=by simp[World.cell?,vq3]
 have vf3:=QL (j:=0) vq3;have a7h:=a2K.lt g3 rfl;have ngq:g3≠w.heap.size+1+1:=by omega
 have ngr:g3≠w.heap.size:=by omega
 have heq:∀ k,k≠w.heap.size+1+1->(w3.setCell ⟨w.heap.size+1+1,0,none⟩ (.slice (some ⟨g3,0,none⟩) (dJ y (dJ x [])).length c3)).heap[k]?=w3.heap[k]?:=λ k hk=>a9e _ _ _ _ hk;have vq4:(w3.setCell ⟨w.heap.size+1+1,0,none⟩ (.slice (some ⟨g3,0,none⟩) (dJ y (dJ x [])).length c3)).heap[w.heap.size+1+1]?=some (.cells #[.slice (some ⟨g3,0,none⟩) (dJ y (dJ x [])).length c3] 33 (0,0)):=a8N _ _ _ _ _ _ vq3;have b4:Below w.heap.size w (w3.setCell ⟨w.heap.size+1+1,0,none⟩ (.slice (some ⟨g3,0,none⟩) (dJ y (dJ x [])).length c3)):=b3w.setCell (by show w.heap.size<=w.heap.size+1+1;omega) _;have sz4:(w3.setCell ⟨w.heap.size+1+1,0,none⟩ (.slice (some ⟨g3,0,none⟩) (dJ y (dJ x [])).length c3)).heap.size=w3.heap.size:=by simp
 have vc4:(w3.setCell ⟨w.heap.size+1+1,0,none⟩ (.slice (some ⟨g3,0,none⟩) (dJ y (dJ x [])).length c3)).cell? ⟨w.heap.size+1+1,0,none⟩=some (.slice (some ⟨g3,0,none⟩) (dJ y (dJ x [])).length c3):=by simp[World.cell?,vq4]
 have a2L:=a2K.kept (row:=some (w.heap.size+1+1)) (w':=w3.setCell ⟨w.heap.size+1+1,0,none⟩ (.slice (some ⟨g3,0,none⟩) (dJ y (dJ x [])).length c3)) ⟨rfl,rfl,rfl,by simp,λ k _ h=>heq k λ e=>h (by rw[e])⟩ (.inr (by simp[Value.ownBlock];exact ngq));have z4:=(heq w.heap.size (by omega)).trans z3;have hlen:=(RL (dJ y (dJ x [])) []).2.2;have hsu:=a0v x y hx hy;have W8:Ln x y=mh (yM (dJ y (dJ x []))):=rfl;have hlr:(yM (dJ y (dJ x []))).length=(dJ y (dJ x [])).length:=by rw[show yM (dJ y (dJ x []))=_ from rfl] at *;simpa [yM] using hlen
 clear hlen heq;go_upto_region 5 with fail;generalize (dJ y (dJ x [])).length=n at *
 generalize yM (dJ y (dJ x []))=ZS at *
 generalize w3.setCell ⟨w.heap.size+1+1,0,none⟩ (.slice (some ⟨g3,0,none⟩) n c3)=w4 at *
 have WW:∀ b,b=w.heap.size->w.heap.size<=b:=λ b h=>by omega
 have ZC:=bz z4;by_cases hn0:n=0
 .subst hn0;have e0:ZS=[]:=List.eq_nil_of_length_eq_zero hlr;go_wp2_with (go_at_call 17;refine (TJ (Z:=λ b=>b=w.heap.size) hS b4 (λ b hb=>by have hb:b=w.heap.size:=hb;omega)).mono ?_);rintro e w5 ⟨ek,en,ea,em,ec,he,MW,r5⟩;subst he;have z5:=(MW.block _ ZC id).trans z4;have b5:=b4.trans (oX MW b4.size);obtain⟨⟨k0,k1,k2⟩,g0,g1,g2⟩:=pC z5;go_wp2;obtain⟨z6,o6⟩:=Oa (.int .i64 ek) (.int .i64 en) (.slice ea em ec) z5;refine HN (cs:=[.int .i64 ek, .int .i64 en, .slice ea em ec]) rfl z6 rfl rfl ?_;refine⟨[.int .i64 ek, .int .i64 en, .slice ea em ec],rfl,?_,b5.os,b5.tape,b5.output,by simpa using b5.size,λ b hb _=>(o6 b (by omega)).trans (b5.block b hb)⟩;rw[W8,e0];exact pq hS b5 (by simp) WW (λ b _ h=>o6 b h) (λ b _ h=>h.elim) r5
 .have dA:=a2L;rcases a2L.2 with ⟨e,_⟩|⟨g',c',cur3,e,p1,p2,p3,p4,p5,p6⟩
  .cases e
  cases e;rw[<-hlr] at p6;have el:=λ k z hz=>BW p2 p6 rd3 k z hz;obtain⟨z,hz⟩:∃ z,ZS[0]?=some z:=⟨_,a7L (by omega)⟩;obtain⟨a0,a1,a2,hca,hra⟩:=el 0 z hz;have hga:=bz p2;have bW:=YF ZS _ (by omega) hsu.2;have bi0:(0:Int)<(n:Int):=by omega
  have hn9:n<=8000:=by have:eH ZS=cg aj ZS+ZS.length:=rfl;omega
  go_wp2_with (go_at_call 19;refine (NN (Z:=λ b=>b=w.heap.size) hS b4 (λ b hb=>by have hb:b=w.heap.size:=hb;omega) z (bW 0 z hz) g3 0 _ hga (by simpa using hca) (RN _ hS b4 hra)).mono ?_);rintro e w5 ⟨ek,en,ea,em,ec,he,MW,r5⟩;subst he;have b5:=b4.trans (oX MW b4.size);have z5:=(MW.block _ ZC id).trans z4;have sz5:=MW.size;have vq5:=(MW.block _ (bz vq4) id).trans vq4;have p25:=(MW.block _ hga id).trans p2;have ha:=heap_alloc_new w5 (.cells #[.int .i64 0, .int .i64 0, .slice none 0 0] 36);obtain⟨⟨k0,k1,k2⟩,g0,g1,g2⟩:=pC ha;obtain⟨z6,o6⟩:=Oa (.int .i64 ek) (.int .i64 en) (.slice ea em ec) ha;go_upto_block 0 with fail;have b6:Below w.heap.size w (w5.alloc (.cells #[.int .i64 ek, .int .i64 en, .slice ea em ec] 36)):=b5.alloc (by omega) _;have t6:=heap_alloc_new w5 (.cells #[.int .i64 ek, .int .i64 en, .slice ea em ec] 36);have m6:∀ b,b<w5.heap.size->(w5.alloc (.cells #[.int .i64 ek, .int .i64 en, .slice ea em ec] 36)).heap[b]?=w5.heap[b]?:=λ b hb=>Lib.alloc_old _ _ _ hb;have lt5:=bz z5;have lq5:=bz vq5;have lg5:=bz p25;have z6r:=(m6 _ lt5).trans z5;have vq6:=(m6 _ lq5).trans vq5;have p26:=(m6 _ lg5).trans p25;have s6:(w5.alloc (.cells #[.int .i64 ek, .int .i64 en, .slice ea em ec] 36)).heap.size=w5.heap.size+1:=by simp
  have r6:Rd (w5.alloc (.cells #[.int .i64 ek, .int .i64 en, .slice ea em ec] 36)) (Sx w S (λ b=>b=w.heap.size\/b=w5.heap.size) (w5.alloc (.cells #[.int .i64 ek, .int .i64 en, .slice ea em ec] 36))) (mh (ZS.take 1)).aI [.int .i64 ek, .int .i64 en, .slice ea em ec]:=by
   have:mh (ZS.take 1)=z:=by
    match ZS,hz with
    | z'::_,hz=>cases hz;rfl
   rw[this];exact pq hS b5 (by omega) WW (λ b hb _=>m6 b hb) (λ b hb h=>h.elim id λ h=>by omega) r5
  generalize w5.alloc (.cells #[.int .i64 ek, .int .i64 en, .slice ea em ec] 36)=w6 at *
  generalize hT:w5.heap.size=T at *
  have hT0:w.heap.size<=T:=by have:=b5.size;omega
  have nTq:T≠w.heap.size+1+1:=by omega
  have nTg:g3≠T:=by omega
  clear k0 k1 k2 g0 g1 g2 z6 o6 m6 ha;go_wp2;go_loopw [7] (λ i wr=>∃ (k:Nat) (k' n':Int) (a':Option Addr) (l' c':Nat),i = .int .i64 k/\1<=k/\k<=n/\w6.grownBy wr (some T)/\wr.heap[T]?=some (.cells #[.int .i64 k', .int .i64 n', .slice a' l' c'] 36 (0,0)) /\
   Rd wr (Sx w S (λ b=>b=w.heap.size\/b=T) wr) (mh (ZS.take k)).aI [.int .i64 k', .int .i64 n', .slice a' l' c']) (λ i wr=>n - kN i)
  .exact⟨1,ek,en,ea,em,ec,rfl,a7P _,by omega,⟨rfl,rfl,rfl,a7P _,λ _ _ _=>rfl⟩,t6,r6⟩
  obtain⟨k,ak,an,aa,al,ac,rfl,rl,hkn,mZ,nD,ON⟩:=hrel;have nB:w.heap.size≠T:=by omega
  have br:Below w.heap.size w wr:=b6.grown mZ (by omega) (λ j e=>by have e':T=j:=a8I e;omega);have vqr:=(mZ.block _ (by omega) (λ e=>nTq (a8I e).symm)).trans vq6;have vqc:wr.cell? ⟨w.heap.size+1+1,0,none⟩=some (.slice (some ⟨g3,0,none⟩) n c3):=by simp[World.cell?,vqr]
  have pr:=(mZ.block _ (by omega) (λ e=>nTg (a8I e))).trans p26;have ltr:=bz nD;have lqr:=bz vqr;have szr:=mZ.size;by_cases IF:k<n
  .obtain⟨y',M6⟩:∃ y',ZS[k]?=some y':=⟨_,a7L (by omega)⟩;obtain⟨d0,d1,d2,hcd,eN⟩:=BW pr p6 rd3 k y' M6;obtain⟨⟨k0,k1,k2⟩,g0,g1,g2⟩:=pC nD;have bk0:(0:Int)<=(k:Int):=by omega
   have bk1:(k:Int)<(n:Int):=by omega
   have hj:=J6 ZS k y' rl M6;have hZr:∀ b,(b=w.heap.size\/b=T)->b<wr.heap.size:=λ b h=>by rcases h with h|h<;>omega
   have Yh:Below w.heap.size w wr.drew:=br.drew;have a5U:Rd wr.drew (Sx w S (λ b=>b=w.heap.size\/b=T) wr.drew) (mh (ZS.take k)).aI [.int .i64 ak, .int .i64 an, .slice aa al ac] :=
    pq (w':=wr.drew) (Z:=λ b=>b=w.heap.size\/b=T) (Z':=λ b=>b=w.heap.size\/b=T) hS br (a7P _) (λ b h=>by rcases h with h|h<;>omega) (λ _ _ _=>rfl) (λ _ _ h=>h) ON
   have a5X:wr.drew.heap[T]?=some (.cells #[.int .i64 ak, .int .i64 an, .slice aa al ac] 36 (0,0)):=nD;have a0H:wr.drew.heap[w.heap.size+1+1]?=some (.cells #[.slice (some ⟨g3,0,none⟩) n c3] 33 (0,0)):=vqr;have a2m:∀ b,(b=w.heap.size\/b=T)->b<wr.drew.heap.size:=hZr;have prd:g3<wr.drew.heap.size:=bz pr;have a5E:bn wr.drew g3 (k * 3) [d0,d1,d2]:=hcd;go_wp2_with fail;go_region_with
    (first
     | (
       go_at_call 19
       refine (NN (w:=wr.drew) (Z:=λ b=>b=w.heap.size\/b=T) hS Yh a2m y' (bW k y' M6) g3 (k * 3) _ prd a5E (RN _ hS Yh eN)).mono ?_
       rintro e w7 ⟨fk,fn,fa,fm,fc,he,KE,r7⟩
       subst he
       have b7:=Yh.trans (oX KE Yh.size)
       have t7:=(KE.block _ ltr id).trans a5X
       obtain⟨⟨u0,u1,u2⟩,v0,v1,v2⟩:=pC t7
       have vq7:w7.cell? ⟨w.heap.size+1+1,0,none⟩=some (.slice (some ⟨g3,0,none⟩) n c3):=by simp[World.cell?,(KE.block _ lqr id).trans a0H]
       have rr7:=Og hS Yh KE a5U
       have hZ7:∀ b,(b=w.heap.size\/b=T)->b<w7.heap.size:=λ b h=>a7F (a2m b h) KE.size)
     | (
       go_at_call 18
       refine (S6 (w:=w7) (Z:=λ b=>b=w.heap.size\/b=T) hS b7 hZ7 _ y' _ _ _ _ _ _ rr7 r7).mono ?_
       rintro e w8 ⟨hk,rm,ha',hm,IE,he,Sv,r8⟩
       subst he
       have t8:=(Sv.block _ (bz t7) id).trans t7
       obtain⟨⟨x0,x1,x2⟩,y0,y1,y2⟩:=pC t8
       have vq8:w8.cell? ⟨w.heap.size+1+1,0,none⟩=some (.slice (some ⟨g3,0,none⟩) n c3):=by simp[World.cell?,(Sv.block _ (bz ((KE.block _ lqr id).trans a0H)) id).trans ((KE.block _ lqr id).trans a0H)]))
   all_goals
    go_wp2
    obtain⟨z9,o9⟩:=Oa (.int .i64 hk) (.int .i64 rm) (.slice ha' hm IE) t8
    have b8:=b7.trans (oX Sv b7.size)
    have s7:wr.heap.size<=w7.heap.size:=KE.size
    have s8:=Sv.size
    refine⟨⟨k+1,hk,rm,ha',hm,IE,by simp,by omega,by omega,⟨Sv.os.trans (KE.os.trans mZ.os),Sv.tape.trans (KE.tape.trans mZ.tape),Sv.output.trans (KE.output.trans mZ.output),by simp;omega,λ j hj dm=>?_⟩,z9,?_⟩,?_⟩
    .exact (o9 j (λ e=>dm (by rw[e]))).trans ((Sv.block j (by omega) id).trans ((KE.block j (by show j<wr.heap.size;omega) id).trans (mZ.block j hj dm)))
    .rw[hj];exact pq (Z:=λ b=>b=w.heap.size\/b=T) hS b8 (by simp) (λ b h=>by rcases h with h|h<;>omega) (λ b _ hb=>o9 b λ e=>hb (.inr e)) (λ _ _ h=>h) r8
    .simp only[kN];omega
  .have a5O:k=n:=by omega
   subst a5O;have zr:=(mZ.block _ (by omega) (λ e=>nB (Option.some.inj e))).trans z6r;obtain⟨⟨k0,k1,k2⟩,g0,g1,g2⟩:=pC nD;obtain⟨⟨x0,x1,x2⟩,y0,y1,y2⟩:=pC zr;obtain⟨z9,o9⟩:=Oa (.int .i64 ak) (.int .i64 an) (.slice aa al ac) zr;go_wp2;refine HN (cs:=[.int .i64 ak, .int .i64 an, .slice aa al ac]) rfl z9 rfl rfl ?_;refine⟨[.int .i64 ak, .int .i64 an, .slice aa al ac],rfl,?_,br.os,br.tape,br.output,by simpa using br.size,λ b hb _=>(o9 b (by omega)).trans (br.block b hb)⟩;rw[W8];rw[show ZS.take k=ZS from by rw[<-hlr,List.take_length]] at ON;exact pq (Z:=λ b=>b=w.heap.size\/b=T) hS br (by simp) (λ b h=>by rcases h with h|h<;>omega) (λ b _ hb=>o9 b λ e=>hb (.inl e)) (λ b _ h=>h.elim) ON
def tm:aW:=⟨tH,[.r (.st .expr), .r (.st .expr)],λ (x:J) (b:J)=>⟨(some (aB x=true/\aB b=true/\aj x+aj b<=7000),[⟨(.st .expr),Ln x b⟩])⟩⟩
def GN:aW.Good tm:=by
 refine⟨aD Kq rfl (by decide),?_⟩;intro x y hp w S cj hS ha;match cj,ha with
 | [v1,v2],ha =>
  obtain⟨⟨bx,ox,cx,rfl,h1,h2,rx⟩,⟨b',oy,cy,rfl,tY,xd,ry⟩,_⟩:=ha;refine (Ra w S hS x y hp.1 hp.2.1 hp.2.2 bx ox b' oy cx cy h1 h2 rx tY xd ry).mono ?_;rintro e w' ⟨cs,rfl,hr,hk⟩;exact⟨_,Sx w S (λ _=>False) w',_,rfl,rfl,hk,λ b hb=>⟨λ h=>h.elim id λ h=>by omega, .inl⟩,λ b h=>h.elim (λ h=>a7F (hS.1 b h) hk.size) λ h=>h.2.1,⟨cs,rfl,hr⟩⟩
end
end Go.Proofs.YtncejbehidimmaaGreatDoor

namespace Go.Proofs.YtncejbehidimmaaGreatDoor
noncomputable section
def kG(n:Nat):aW:=⟨qI,[.r (.st .expr)],λ (x:J)=>⟨(some (bu x<n/\aB x=true/\aj x<=3000),[⟨(.st .expr),ej x⟩])⟩⟩
def iW:aW:=⟨qI,[.r (.st .expr)],λ (x:J)=>⟨(some (aB x=true/\aj x<=3000),[⟨(.st .expr),ej x⟩])⟩⟩
def K8(x:J):Nat->aL:=cB
abbrev uZ(n:Nat)(x:J):Prop:=(let v2:=x.O.getD 0 zE;let v0:=aP (ej v2);let v3:=x.O.getD 1 zE;let v1:=aP (ej v3);(x.O.length<=140737488355328 ->
 (aE (0:Int) x.O.length/\((bu v2<n/\aB v2=true/\aj v2<=3000)/\(x.O.length<=140737488355328 ->
 (aE (1:Int) x.O.length/\((bu v3<n/\aB v3=true/\aj v3<=3000)/\(au x.ai ->
 (((decide (x.ai=(6:Int)))=true ->
 ((aB v0=true/\aB v1=true/\aj v0+aj v1<=7000)/\(aP (Ln v0 v1))=(ej x)))/\((decide (x.ai=(6:Int)))=false ->
 ((aB v0=true/\aB v1=true/\aj v0+aj v1<=4000)/\(aP (jx v0 v1))=(ej x))))))))))))
abbrev u6(n:Nat)(x:J):Prop:=(let v0:=x.O.getD 0 zE;let v1:=aP (ej v0);(((decide (x.ai=(8:Int)))=true ->
 (x.O.length<=140737488355328 ->
 (aE (0:Int) x.O.length/\((bu v0<n/\aB v0=true/\aj v0<=3000)/\((aB v1=true/\aj v1<=4000)/\(aP (BZ v1))=(ej x))))))/\((decide (x.ai=(8:Int)))=false ->
 (aU x<=1048576/\(aP x)=(ej x)))))
def Jn(n:Nat)(hE:bj [kG n,tm,tj,qt,ez]):aW.Good (kG (n+1)):=by
 refine⟨aD kg,?_⟩;intro (x:J) (hp:bu x<n+1/\aB x=true/\aj x<=3000);refine aV [kG n,tm,tj,qt,ez] [] [] [] hE kg Es (K8 x) (let v0:=decide (x.ai=(6:Int));((au x.ai->((v0=true->((v0=true->(uZ n x))/\(v0=false->(u6 n x))))/\(v0=false->(((decide (x.ai=(7:Int)))=true->(uZ n x))/\((decide (x.ai=(7:Int)))=false->(u6 n x)))))))) ?_;obtain⟨hm,hg,hn⟩:=hp;refine λ _=>⟨λ _=>⟨λ _ _=>⟨?_,?_,λ _=>⟨?_,?_,λ _=>⟨λ _=>⟨?_,?_⟩,λ _=>⟨?_,?_⟩⟩⟩⟩,λ _=>⟨λ _ _=>⟨?_,?_,?_,?_⟩,λ _=>⟨?_,?_⟩⟩⟩,λ _=>⟨λ _ _=>⟨?_,?_,λ _=>⟨?_,?_,λ _=>⟨λ _=>⟨?_,?_⟩,λ _=>⟨?_,?_⟩⟩⟩⟩,λ _=>⟨λ _ _=>⟨?_,?_,?_,?_⟩,λ _=>⟨?_,?_⟩⟩⟩⟩;all_goals try and_intros
 all_goals try (first|with_reducible rfl|with_reducible assumption)
 all_goals try simp only[J.eta,cu] at *
 all_goals (try simp only[a8s,a8x,a7D,a7C,aE,J.eta] at *);first|rfl|trivial|omega|exact mD _ (by omega)|(have g:=jG x hg (.inr (by omega));first|(have:=g.len;omega)|exact g.g0|(have:=g.l0;omega)|(have:=g.nd;omega)|exact (B5 _ g.g0).g|(have:=(B5 _ g.g0).n;have:=g.nd;omega)|(rw[a0D x (by omega) g]<;>rfl))|(have g:=cG x hg (by omega);first|(have:=g.len;omega)|exact g.g0|exact g.g1|(have:=g.l0;omega)|(have:=g.l1;omega)|(have:=g.nd;omega)|exact (B5 _ g.g0).g|exact (B5 _ g.g1).g|(have:=(B5 _ g.g0).n;have:=(B5 _ g.g1).n;have:=g.nd;omega)|(rw[a0B x (by omega) g]<;>rfl)|(rw[a0C x (by omega) g]<;>rfl))|(rw[a0E x (by omega) (by omega) (by omega)]<;>rfl)
def Pn :∀ n,bj [kG n]
 | 0=>⟨⟨aD kg,λ _ h=>absurd h.1 (a8a _)⟩,af⟩
 | n+1=>by
  have ih:=Pn  n;exact⟨Jn n ⟨ih.1,GN,GL,ER,gu,af⟩,af⟩
def mc :aW.Good iW :=
 ⟨aD kg,λ x hp=>(Pn  (bu x+1)).1.2 x (⟨a7M _,hp⟩)⟩
noncomputable def HI(raw:J):J×Bool:=if 800<aj raw then (raw,false) else (ej raw,true)
def Th(x a b:J)(em:Bool):J:=if x.ai=6 then J.mk 6 0 [a,b] else if x.ai=7 then (if em=true then J.mk 6 0 [J.mk 7 0 [a,(x.O.getD 1 zE)],b] else J.mk 7 0 [a,(x.O.getD 1 zE)]) else J.mk 7 0 [a,x]
noncomputable def O6(a c:Int)(x:J)(rs:List (J×Bool)):J×Bool :=
 if x.ai=4 then (if x.aZ=c then J.mk 2 0 [] else J.mk 1 0 [],true)
 else if x.ai=6 then (if ((rs.getD 0 (x,false)).2&&(rs.getD 1 (x,false)).2)=true then HI (Th x (rs.getD 0 (x,false)).1 (rs.getD 1 (x,false)).1 (eE a (x.O.getD 0 zE))) else (J.mk 1 0 [],false))
 else if x.ai=7 then (if (rs.getD 0 (x,false)).2=true then (if (eE a (x.O.getD 0 zE) && !(rs.getD 1 (x,false)).2)=true then (J.mk 7 0 [(rs.getD 0 (x,false)).1,(x.O.getD 1 zE)],false) else HI (Th x (rs.getD 0 (x,false)).1 (rs.getD 1 (x,false)).1 (eE a (x.O.getD 0 zE)))) else (J.mk 1 0 [],false))
 else if x.ai=8 then (if (rs.getD 0 (x,false)).2=true then HI (Th x (rs.getD 0 (x,false)).1 (rs.getD 1 (x,false)).1 (eE a (x.O.getD 0 zE))) else (J.mk 1 0 [],false))
 else (J.mk 1 0 [],true)
noncomputable def bQ(a c:Int)(x:J):J×Bool:=ym (O6 a c) x
def Jr(a c:Int)(x:J):bQ a c x=O6 a c x (jn (O6 a c) x.O):=ki _ x
def Tp(a c:Int)(x:J)(i:Nat)(h:i<x.O.length):(jn (O6 a c) x.O).getD i (x,false)=bQ a c (x.O.getD i zE):=eM _ _ _ _ i h
noncomputable def ll(a c:Int)(x:J):J:=if x.ai=8 then J.mk 7 0 [(bQ a c (x.O.getD 0 zE)).1,x] else Th x (bQ a c (x.O.getD 0 zE)).1 (bQ a c (x.O.getD 1 zE)).1 (eE a (x.O.getD 0 zE))
def FA(a c:Int)(x:J)(h:x.ai=4)(e:x.aZ=c):bQ a c x=(J.mk 2 0 [],true):=by rw[Jr,O6,a7E h,a7E e]
def Fz(a c:Int)(x:J)(h:x.ai=4)(e:¬ x.aZ=c):bQ a c x=(J.mk 1 0 [],true):=by rw[Jr,O6,a7E h,a7z e]
def a2S(a c:Int)(x:J)(h:x.ai=6)(g:B2 x):bQ a c x=if ((bQ a c (x.O.getD 0 zE)).2&&(bQ a c (x.O.getD 1 zE)).2)=true then HI (ll a c x) else (J.mk 1 0 [],false):=by
 rw[Jr,O6,a7z (by omega),a7E h,Tp a c x 0 (by have:=g.len;omega),Tp a c x 1 (by have:=g.len;omega),show ll a c x=_ from a7z (by omega)]
def nA(a c:Int)(x:J)(h:x.ai=6)(g:B2 x)(e:(bQ a c (x.O.getD 0 zE)).2=false\/(bQ a c (x.O.getD 1 zE)).2=false):bQ a c x=(J.mk 1 0 [],false):=by
 rw[a2S a c x h g,a7z];rcases e with e|e<;>rw[e]<;>simp
def a0n(a c:Int)(x:J)(h:x.ai=6)(g:B2 x)(e:(bQ a c (x.O.getD 0 zE)).2=true)(e':(bQ a c (x.O.getD 1 zE)).2=true):bQ a c x=HI (ll a c x):=by
 rw[a2S a c x h g,a7E (by rw[e,e'];rfl)]
def a0o(a c:Int)(x:J)(h:x.ai=7)(g:B2 x):bQ a c x=if (bQ a c (x.O.getD 0 zE)).2=true then (if (eE a (x.O.getD 0 zE) && !(bQ a c (x.O.getD 1 zE)).2)=true then (J.mk 7 0 [(bQ a c (x.O.getD 0 zE)).1,(x.O.getD 1 zE)],false) else HI (ll a c x)) else (J.mk 1 0 [],false):=by
 rw[Jr,O6,a7z (by omega),a7z (by omega),a7E h,Tp a c x 0 (by have:=g.len;omega),Tp a c x 1 (by have:=g.len;omega),show ll a c x=_ from a7z (by omega)]
def FB(a c:Int)(x:J)(h:x.ai=7)(g:B2 x)(e:(bQ a c (x.O.getD 0 zE)).2=false):bQ a c x=(J.mk 1 0 [],false):=by
 rw[a0o a c x h g,a7z (by rw[e];decide)]
def FC(a c:Int)(x:J)(h:x.ai=7)(g:B2 x)(e:(bQ a c (x.O.getD 0 zE)).2=true)(m:eE a (x.O.getD 0 zE)=true)(e':(bQ a c (x.O.getD 1 zE)).2=false):bQ a c x=(J.mk 7 0 [(bQ a c (x.O.getD 0 zE)).1,(x.O.getD 1 zE)],false):=by
 rw[a0o a c x h g,a7E e,a7E (by rw[m,e'];rfl)]
def RI(a c:Int)(x:J)(h:x.ai=7)(g:B2 x)(e:(bQ a c (x.O.getD 0 zE)).2=true)(m:eE a (x.O.getD 0 zE)=false\/(bQ a c (x.O.getD 1 zE)).2=true):bQ a c x=HI (ll a c x):=by
 rw[a0o a c x h g,a7E e,a7z];rcases m with m|m<;>rw[m]<;>simp
def a2T(a c:Int)(x:J)(h:x.ai=8)(g:B1 x):bQ a c x=if (bQ a c (x.O.getD 0 zE)).2=true then HI (ll a c x) else (J.mk 1 0 [],false):=by
 rw[Jr,O6,a7z (by omega),a7z (by omega),a7z (by omega),a7E h,Tp a c x 0 (by have:=g.len;omega),show ll a c x=_ from a7E h,show Th x _ _ _=J.mk 7 0 [_,x] from (a7z (by omega)).trans (a7z (by omega))]
def FD(a c:Int)(x:J)(h:x.ai=8)(g:B1 x)(e:(bQ a c (x.O.getD 0 zE)).2=false):bQ a c x=(J.mk 1 0 [],false):=by
 rw[a2T a c x h g,a7z (by rw[e];decide)]
def a0p(a c:Int)(x:J)(h:x.ai=8)(g:B1 x)(e:(bQ a c (x.O.getD 0 zE)).2=true):bQ a c x=HI (ll a c x):=by
 rw[a2T a c x h g,a7E e]
def N9(a c:Int)(x:J)(h4:¬ x.ai=4)(h6:¬ x.ai=6)(h7:¬ x.ai=7)(h8:¬ x.ai=8):bQ a c x=(J.mk 1 0 [],true):=by
 rw[Jr,O6,a7z h4,a7z h6,a7z h7,a7z h8]
def Ti(a c:Int)(x:J)(h:x.ai=6):ll a c x=J.mk 6 0 [(bQ a c (x.O.getD 0 zE)).1,(bQ a c (x.O.getD 1 zE)).1]:=by rw[ll,a7z (by omega),Th,a7E h]
def N2(a c:Int)(x:J)(h:x.ai=7)(m:eE a (x.O.getD 0 zE)=true):ll a c x=J.mk 6 0 [J.mk 7 0 [(bQ a c (x.O.getD 0 zE)).1,(x.O.getD 1 zE)],(bQ a c (x.O.getD 1 zE)).1]:=by rw[ll,a7z (by omega),Th,a7z (by omega),a7E h,a7E m]
def N1(a c:Int)(x:J)(h:x.ai=7)(m:eE a (x.O.getD 0 zE)=false):ll a c x=J.mk 7 0 [(bQ a c (x.O.getD 0 zE)).1,(x.O.getD 1 zE)]:=by rw[ll,a7z (by omega),Th,a7z (by omega),a7E h,a7z (by rw[m];decide)]
def Tj(a c:Int)(x:J)(h:x.ai=8):ll a c x=J.mk 7 0 [(bQ a c (x.O.getD 0 zE)).1,x]:=by rw[ll,a7E h]
structure RX(r:J×Bool):Prop where
 g:r.2=true->aB r.1=true
 n:r.2=true->aj r.1<=800
def LK(x:J)(h:aB x=true):RX (HI x):=by
 unfold HI;split
 .exact⟨nofun,nofun⟩
 .have:=B5 x h;exact⟨λ _=>this.g,λ _=>by have:=this.n;show aj (ej x)<=800;omega⟩
structure CF(a c:Int)(x:J):Prop where
 e:bQ a c x=HI (ll a c x)
 g:aB (ll a c x)=true
 n:aj (ll a c x)<=3000
def Js(a c:Int):∀ (N:Nat) (x:J),bu x<N->aB x=true->RX (bQ a c x)
 | 0,x,h,_=>by omega
 | N+1,x,hN,h=>by
  have z1:RX (J.mk 1 0 [],true):=⟨λ _=>EU,λ _=>by decide⟩;have zf:∀ y,RX (y,false):=λ y=>⟨nofun,nofun⟩;by_cases h4:x.ai=4
  .by_cases e:x.aZ=c
   .rw[FA a c x h4 e];exact⟨λ _=>PD,λ _=>by decide⟩
   .rw[Fz a c x h4 e];exact z1
  by_cases h6:x.ai=6
  .have g:=cG x h (.inl h6);have p:=Js a c N (x.O.getD 0 zE) (by have:=g.l0;omega) g.g0;have q:=Js a c N (x.O.getD 1 zE) (by have:=g.l1;omega) g.g1;rcases a8L (bQ a c (x.O.getD 0 zE)).2 with e|e
   .rcases a8L (bQ a c (x.O.getD 1 zE)).2 with e'|e'
    .rw[a0n a c x h6 g e e',Ti a c x h6];exact LK _ (gF _ _ 6 (p.g e) (q.g e') (.inl rfl))
    .rw[nA a c x h6 g (.inr e')];exact zf _
   .rw[nA a c x h6 g (.inl e)];exact zf _
  by_cases h7:x.ai=7
  .have g:=cG x h (.inr h7);have p:=Js a c N (x.O.getD 0 zE) (by have:=g.l0;omega) g.g0;have q:=Js a c N (x.O.getD 1 zE) (by have:=g.l1;omega) g.g1;rcases a8L (bQ a c (x.O.getD 0 zE)).2 with e|e
   .have b:=gF _ _ 7 (p.g e) g.g1 (.inr rfl);rcases a8L (eE a (x.O.getD 0 zE)) with m|m
    .rcases a8L (bQ a c (x.O.getD 1 zE)).2 with e'|e'
     .rw[RI a c x h7 g e (.inr e'),N2 a c x h7 m];exact LK _ (gF _ _ 6 b (q.g e') (.inl rfl))
     .rw[FC a c x h7 g e m e'];exact zf _
    .rw[RI a c x h7 g e (.inl m),N1 a c x h7 m];exact LK _ b
   .rw[FB a c x h7 g e];exact zf _
  by_cases h8:x.ai=8
  .have g:=jG x h (.inr h8);have p:=Js a c N (x.O.getD 0 zE) (by have:=g.l0;omega) g.g0;rcases a8L (bQ a c (x.O.getD 0 zE)).2 with e|e
   .rw[a0p a c x h8 g e,Tj a c x h8];exact LK _ (gF _ _ 7 (p.g e) h (.inr rfl))
   .rw[FD a c x h8 g e];exact zf _
  .rw[N9 a c x h4 h6 h7 h8];exact z1
def Xz(a c:Int)(x:J)(h:aB x=true):RX (bQ a c x):=Js a c _ x (a7M _) h
def a0j(a c:Int)(x:J)(hg:aB x=true)(hn:aj x<=1000)(h:x.ai=6)(e:(bQ a c (x.O.getD 0 zE)).2=true)(e':(bQ a c (x.O.getD 1 zE)).2=true):CF a c x:=by
 have g:=cG x hg (.inl h);have p:=Xz a c _ g.g0;have q:=Xz a c _ g.g1;refine⟨a0n a c x h g e e',?_,?_⟩
 .rw[Ti a c x h];exact gF _ _ 6 (p.g e) (q.g e') (.inl rfl)
 .rw[Ti a c x h,jP];have:=p.n e;have:=q.n e';omega
def RH(a c:Int)(x:J)(hg:aB x=true)(hn:aj x<=1000)(h:x.ai=7)(e:(bQ a c (x.O.getD 0 zE)).2=true)(m:eE a (x.O.getD 0 zE)=false\/(eE a (x.O.getD 0 zE)=true/\(bQ a c (x.O.getD 1 zE)).2=true)):CF a c x:=by
 have g:=cG x hg (.inr h);have p:=Xz a c _ g.g0;have q:=Xz a c _ g.g1;have b:=gF _ _ 7 (p.g e) g.g1 (.inr rfl);have nd:=g.nd;have n0:=p.n e;rcases m with m|⟨m,e'⟩
 .refine⟨RI a c x h g e (.inl m),?_,?_⟩
  .rw[N1 a c x h m];exact b
  .rw[N1 a c x h m,jP];omega
 .refine⟨RI a c x h g e (.inr e'),?_,?_⟩
  .rw[N2 a c x h m];exact gF _ _ 6 b (q.g e') (.inl rfl)
  .rw[N2 a c x h m,jP,jP];have:=q.n e';omega
def a0k(a c:Int)(x:J)(hg:aB x=true)(hn:aj x<=1000)(h:x.ai=8)(e:(bQ a c (x.O.getD 0 zE)).2=true):CF a c x:=by
 have g:=jG x hg (.inr h);have p:=Xz a c _ g.g0;refine⟨a0p a c x h g e,?_,?_⟩
 .rw[Tj a c x h];exact gF _ _ 7 (p.g e) hg (.inr rfl)
 .rw[Tj a c x h,jP];have:=p.n e;omega
def a0m(a c:Int)(x:J)(j:CF a c x)(h:800<aj (ll a c x)):bQ a c x=(ll a c x,false):=by rw[j.e,HI,a7E h]
def a0l(a c:Int)(x:J)(j:CF a c x)(h:¬ 800<aj (ll a c x)):bQ a c x=(ej (ll a c x),true):=by rw[j.e,HI,a7z h]
def kF(n:Nat):aW:=⟨qH,[.r (.st .expr), .v (.int .i64), .v (.int .i64)],λ (x:J) (atom:Int) (act:Int)=>⟨(some (bu x<n/\aB x=true/\aj x<=1000/\0<=atom/\atom<=4096),[⟨(.st .expr),(bQ atom act x).1⟩,⟨.bool,(bQ atom act x).2⟩])⟩⟩
def zB:aW:=⟨qH,[.r (.st .expr), .v (.int .i64), .v (.int .i64)],λ (x:J) (atom:Int) (act:Int)=>⟨(some (aB x=true/\aj x<=1000/\0<=atom/\atom<=4096),[⟨(.st .expr),(bQ atom act x).1⟩,⟨.bool,(bQ atom act x).2⟩])⟩⟩
def K7(x:J)(atom:Int)(act:Int):Nat->aL:=(eS 100029 (.u (CF atom act x) [0,1,2,19] [] [6] [(8, .box [.aQ ⟨(.int .i64),((ll atom act x).ai:Int)⟩, .aQ ⟨(.int .i64),((ll atom act x).aZ:Int)⟩, .aQ ⟨(.slice (.st .expr)),((ll atom act x).O:List J)⟩])] cB) cB)
abbrev uX(x:J)(atom:Int)(act:Int):Prop:=(let v0:=J.mk (6:Int) 0 [(aP ((bQ atom act (x.O.getD 0 zE)).1)),(aP ((bQ atom act (x.O.getD 1 zE)).1))];(∃ u1:Unit,(CF atom act x/\((True/\(True/\True))/\((v0.ai=((ll atom act x).ai)/\(v0.aZ=((ll atom act x).aZ)/\(v0.O=((ll atom act x).O)/\True)))/\(((0:Int)=(0:Int)/\((0:Int)=(0:Int)/\(True/\True)))/\True))))))
abbrev uY(x:J)(atom:Int)(act:Int):Prop:=((!((bQ atom act (x.O.getD 0 zE)).2))=true ->
 ((aP (J.mk 1 0 []))=((bQ atom act x).1)/\false=((bQ atom act x).2)))
def Jm(n:Nat)(hE:bj [kF n,eW,ni,eV,kl,qq,iW]):aW.Good (kF (n+1)):=by
 refine⟨aD kf,?_⟩;intro (x:J) (atom:Int) (act:Int) (hp:bu x<n+1/\aB x=true/\aj x<=1000/\0<=atom/\atom<=4096);refine aV [kF n,eW,ni,eV,kl,qq,iW] [] [] [] hE kf Er (K7 x atom act) (let v2:=x.O.getD 0 zE;let v3:=x.O.getD 1 zE;let v4:=bQ atom act x;let v5:=bu v2<n/\aB v2=true/\aj v2<=1000/\0<=atom/\atom<=4096;let v7:=ll atom act x;let v0:=J.mk (v7.ai) (v7.aZ) (v7.O);let va:=bu v3<n/\aB v3=true/\aj v3<=1000/\0<=atom/\atom<=4096;let vb:=bQ atom act v2;let v1:=J.mk (7:Int) 0 [(aP (vb.1)),v3];let v8:=J.mk (6:Int) 0 [(aP v1),(aP ((bQ atom act v3).1))];let v9:=J.mk (7:Int) 0 [(aP (vb.1)),x];let vc:=aP (J.mk 1 0 []);let vd := !((bQ atom act v3).2);let ve:=True/\(True/\True);let vf:=decide ((800:Int)<((aj v0:Int)));let vg:=(0:Int);let v6:=(vg=vg/\(vg=vg/\(True/\True)))/\True;let vh:=vc=(v4.1)/\false=(v4.2);let vi:=vc=(v4.1)/\true=(v4.2);(((au x.ai->(((decide (x.ai=(4:Int)))=true->(au x.aZ->(((decide (x.aZ=act))=true->((aP (J.mk 2 0 []))=(v4.1)/\true=(v4.2)))/\((decide (x.aZ=act))=false->vi))))/\((decide (x.ai=(4:Int)))=false->(((decide (x.ai=(6:Int)))=true->(x.O.length<=140737488355328->(aE vg x.O.length/\(v5/\(x.O.length<=140737488355328->(aE (1:Int) x.O.length/\(va/\(((!(vb.2))=false->((vd=true->vh)/\(vd=false->(uX x atom act))))/\((!(vb.2))=(!false)->((true=true->vh)/\(true=false->(uX x atom act))))))))))))/\((decide (x.ai=(6:Int)))=false->(((decide (x.ai=(7:Int)))=true->(x.O.length<=140737488355328->(aE vg x.O.length/\(v5/\((uY x atom act)/\((!(vb.2))=false->(aE (1:Int) x.O.length/\(x.O.length<=140737488355328->(x.O.length<=140737488355328->(aE vg x.O.length/\((aB v2=true/\0<=atom/\atom<=4096)/\(((eE atom v2)=true->(x.O.length<=140737488355328->(aE (1:Int) x.O.length/\(va/\((vd=true->((aP v1)=(v4.1)/\false=(v4.2)))/\(vd=false->(∃ u1:Unit,(CF atom act x/\(ve/\((v8.ai=(v7.ai)/\(v8.aZ=(v7.aZ)/\(v8.O=(v7.O)/\True)))/\v6))))))))))/\((eE atom v2)=false->(∃ u1:Unit,(CF atom act x/\(ve/\((v1.ai=(v7.ai)/\(v1.aZ=(v7.aZ)/\(v1.O=(v7.O)/\True)))/\v6)))))))))))))))))/\((decide (x.ai=(7:Int)))=false->(((decide (x.ai=(8:Int)))=true->(x.O.length<=140737488355328->(aE vg x.O.length/\(v5/\((uY x atom act)/\((!(vb.2))=false->(∃ u1:Unit,(CF atom act x/\(ve/\((v9.ai=(v7.ai)/\(v9.aZ=(v7.aZ)/\(v9.O=(v7.O)/\True)))/\v6))))))))))/\((decide (x.ai=(8:Int)))=false->vi)))))))))/\(∀ u1:Unit,(CF atom act x->(aj v0<=1048576/\(au ((aj v0:Int))->((vf=true->(v0=(v4.1)/\false=(v4.2)))/\(vf=false->((aB v0=true/\aj v0<=3000)/\((aP (ej v0))=(v4.1)/\true=(v4.2)))))))))))) ?_;obtain⟨hm,hg,hn,h0,h1⟩:=hp;refine⟨λ _=>⟨λ _ _=>⟨λ _=>⟨?_,?_⟩,λ _=>⟨?_,?_⟩⟩,λ _=>⟨λ _ _=>⟨?_,?_,λ _=>⟨?_,?_,λ _=>⟨λ _=>⟨?_,?_⟩,λ _=>⟨(),?_,⟨af,af,af⟩,⟨?_,?_,?_,af⟩,⟨rfl,rfl,af,af⟩,af⟩⟩,λ _=>⟨λ _=>⟨?_,?_⟩,λ _=>⟨(),?_,⟨af,af,af⟩,⟨?_,?_,?_,af⟩,⟨rfl,rfl,af,af⟩,af⟩⟩⟩⟩,λ _=>⟨λ _ _=>⟨?_,?_,λ _=>⟨?_,?_⟩,λ _=>⟨?_,λ _ _=>⟨?_,?_,λ _ _=>⟨?_,?_,λ _=>⟨?_,?_⟩,λ _=>⟨(),?_,⟨af,af,af⟩,⟨?_,?_,?_,af⟩,⟨rfl,rfl,af,af⟩,af⟩⟩,λ _=>⟨(),?_,⟨af,af,af⟩,⟨?_,?_,?_,af⟩,⟨rfl,rfl,af,af⟩,af⟩⟩⟩⟩,λ _=>⟨λ _ _=>⟨?_,?_,λ _=>⟨?_,?_⟩,λ _=>⟨(),?_,⟨af,af,af⟩,⟨?_,?_,?_,af⟩,⟨rfl,rfl,af,af⟩,af⟩⟩,λ _=>⟨?_,?_⟩⟩⟩⟩⟩,λ u1 _=>⟨?_,λ _=>⟨λ _=>⟨?_,?_⟩,λ _=>⟨?_,?_,?_⟩⟩⟩⟩;all_goals try and_intros
 all_goals try (first|with_reducible rfl|with_reducible assumption)
 all_goals try simp only[J.eta,cu] at *
 all_goals (try simp only[a8s,a8x,a7V,a8e,a7D,a7C,aE,J.eta] at *);first|rfl|trivial|omega|with_reducible assumption|(rw[FA atom act x (by omega) (by omega)]<;>rfl)|(rw[Fz atom act x (by omega) (by omega)]<;>rfl)|(rw[N9 atom act x (by omega) (by omega) (by omega) (by omega)]<;>rfl)|exact a0j atom act x hg hn (by omega) (by with_reducible assumption) (by with_reducible assumption)|exact RH atom act x hg hn (by omega) (by with_reducible assumption) (.inl (by with_reducible assumption))|exact RH atom act x hg hn (by omega) (by with_reducible assumption) (.inr ⟨(by with_reducible assumption),(by with_reducible assumption)⟩)|exact a0k atom act x hg hn (by omega) (by with_reducible assumption)|(rw[a0m atom act x (by with_reducible assumption) (by omega)]<;>rfl)|(rw[a0l atom act x (by with_reducible assumption) (by omega)]<;>rfl)|exact CF.g (by with_reducible assumption)|exact CF.n (by with_reducible assumption)|(have q:=CF.n (show CF atom act x by assumption);omega)|(have g:=cG x hg (by omega);first|(have:=g.len;omega)|exact g.g0|exact g.g1|(have:=g.l0;omega)|(have:=g.l1;omega)|(have:=g.nd;omega)|(rw[nA atom act x (by omega) g (.inl (by with_reducible assumption))]<;>rfl)|(rw[nA atom act x (by omega) g (.inr (by with_reducible assumption))]<;>rfl)|(rw[FB atom act x (by omega) g (by with_reducible assumption)]<;>rfl)|(rw[FC atom act x (by omega) g (by with_reducible assumption) (by with_reducible assumption) (by with_reducible assumption)]<;>rfl)|(rw[Ti atom act x (by omega)]<;>rfl)|(rw[N2 atom act x (by omega) (by with_reducible assumption)]<;>rfl)|(rw[N1 atom act x (by omega) (by with_reducible assumption)]<;>rfl))|(have g:=jG x hg (by omega);first|(have:=g.len;omega)|exact g.g0|(have:=g.l0;omega)|(have:=g.nd;omega)|(rw[FD atom act x (by omega) g (by with_reducible assumption)]<;>rfl)|(rw[Tj atom act x (by omega)]<;>rfl))
def Pl :∀ n,bj [kF n]
 | 0=>⟨⟨aD kf,λ _ _ _ h=>absurd h.1 (a8a _)⟩,af⟩
 | n+1=>by
  have ih:=Pl  n;exact⟨Jm n ⟨ih.1,fJ,uF,fI,qT,EK,mc,af⟩,af⟩
def ES :aW.Good zB :=
 ⟨aD kf,λ x atom act hp=>(Pl  (bu x+1)).1.2 x atom act (⟨a7M _,hp⟩)⟩
def Ob:Nat->J->J
 | 0,x=>x
 | m+1,x=>Ob m (J.mk 8 0 [x])
def Oc:∀ (m:Nat) (x:J),Ob (m+1) x=J.mk 8 0 [Ob m x]
 | 0,x=>rfl
 | m+1,x=>Oc m (J.mk 8 0 [x])
def Tv{x y:J}(hx:¬ x.ai=8)(hy:¬ y.ai=8):∀ (m n:Nat),Ob m x=Ob n y->x=y/\m=n
 | 0,0,h=>⟨h,rfl⟩
 | 0,n+1,h=>by rw[Oc] at h;exact absurd (by rw[show x=_ from h]) hx
 | m+1,0,h=>by rw[Oc] at h;exact absurd (by rw[show y=_ from h.symm]) hy
 | m+1,n+1,h=>by
  rw[Oc,Oc] at h;simp only[J.mk.injEq,a7A,a7W,a8Y] at h;obtain⟨h1,h2⟩:=Tv hx hy m n h;exact⟨h1,by rw[h2]⟩
def NS(r:List UInt8):Prop:=∀ b t,r=b::t->¬ b=42
def NS.of{b:UInt8}{t:List UInt8}(h:¬ b=42):NS (b::t):=λ c u e=>by cases e;exact h
def NS.nil:NS []:=λ _ _ e=>nomatch e
def Tc:∀ (m n:Nat) {r s:List UInt8},NS r->NS s->List.replicate m (42:UInt8)++r=List.replicate n 42++s->m=n/\r=s
 | 0,0,r,s,_,_,h=>⟨rfl,h⟩
 | 0,n+1,r,s,hr,_,h=>absurd rfl (hr 42 (List.replicate n 42++s) (by simpa [List.replicate_succ] using h))
 | m+1,0,r,s,_,hs,h=>absurd rfl (hs 42 (List.replicate m 42++r) (by simpa [List.replicate_succ] using h.symm))
 | m+1,n+1,r,s,hr,hs,h=>by
  obtain⟨h1,h2⟩:=Tc m n hr hs (by simpa [List.replicate_succ] using h);exact⟨by rw[h1],h2⟩
def gY(x:J)(h:aB x=true)(h3:¬ x.ai=3)(h4:¬ x.ai=4):x.aZ=0:=by
 simp only[aB] at h;rw[jd,mB] at h;simp only[Bool.and_eq_true,decide_eq_true_eq] at h;have:=h.1.1.2;rw[yH,if_neg h3,if_neg h4] at this;simpa using this
def ML(x:J)(h:aB x=true)(h5:x.ai=5):¬ (x.O.getD 0 zE).ai=8:=by
 simp only[aB] at h;rw[jd,mB] at h;simp only[Bool.and_eq_true,decide_eq_true_eq] at h;have:bH (x.O.getD 0 zE)=true:=by simpa [h5] using h.1.2
 rw[rC] at this;intro e;rw[e] at this;simp[AO] at this
def jH(x:J)(h:aB x=true)(e:x.ai=1\/x.ai=2\/x.ai=3\/x.ai=4):x.O=[]:=by
 simp only[aB] at h;rw[jd,mB] at h;simp only[a7H,a7D] at h;have h1:=h.1.1.1;apply a8G;rcases e with e|e|e|e<;>rw[e] at h1<;>simp[cz] at h1<;>omega
def Yx(x:J)(h:x.O.length=1):x=J.mk x.ai x.aZ [(x.O.getD 0 zE)]:=by
 obtain⟨k,n,ks⟩:=x;match ks,h with
 | [a],_=>rfl
def VM(x:J)(h:x.O.length=2):x=J.mk x.ai x.aZ [(x.O.getD 0 zE),(x.O.getD 1 zE)]:=by
 obtain⟨k,n,ks⟩:=x;match ks,h with
 | [a,b],_=>rfl
def JX(x:J)(h:x.O=[]):x=J.mk x.ai x.aZ []:=by
 obtain⟨k,n,ks⟩:=x;cases h;rfl
def fbE(k:Int):UInt8:=if k=1 then 48 else if k=2 then 49 else if k=3 then 116 else if k=4 then 97 else if k=5 then 126 else 40
def Vr(x:J)(h:aB x=true)(h8:¬ x.ai=8):∃ t,bE x=fbE x.ai::t:=by
 rcases ew x h with e|e|e|e|e|e|e|e
 .exact⟨_,by rw[(dK x h).1 e,e];rfl⟩
 .exact⟨_,by rw[(dK x h).2.1 e,e];rfl⟩
 .exact⟨_,by rw[(Wv x h e).2.2.2,e];rfl⟩
 .exact⟨_,by rw[(Ww x h e).2.2.2,e];rfl⟩
 .exact⟨_,by rw[(Wx x h e).2.2,e];rfl⟩
 .exact⟨_,by rw[(P9 x h e).2.2.2,e];rfl⟩
 .exact⟨_,by rw[(Qa x h e).2.2.2,e];rfl⟩
 .exact absurd e h8
def Vq(x:J)(h:aB x=true)(e:x.ai=8):aB (x.O.getD 0 zE)=true/\bu (x.O.getD 0 zE)<bu x/\x=J.mk 8 0 [(x.O.getD 0 zE)]/\bE x=bE (x.O.getD 0 zE)++[42]:=by
 have b:=jG x h (.inr e);have g:=a2Y x h (by omega) (by omega) (by omega) (by omega) (by omega) (by omega) (by omega);have hx:=Yx x b.len;rw[gY x h (by omega) (by omega),e] at hx;exact⟨b.g0,b.l0,hx,by rw[g.2.2]⟩
def Jv:∀ (N:Nat) (x:J),bu x<N->aB x=true->∃ b t,bE x=b::t/\¬ b=42/\¬ b=43
 | 0,x,h,_=>by omega
 | N+1,x,hN,h=>by
  by_cases h8:x.ai=8
  .obtain⟨g,l,_,e⟩:=Vq x h h8;obtain⟨b,t,h1,h2⟩:=Jv N (x.O.getD 0 zE) (by omega) g;exact⟨b,t++[42],by rw[e,h1];rfl,h2⟩
  .obtain⟨t,e⟩:=Vr x h h8;refine⟨_,t,e,?_⟩;unfold fbE;repeat' split
   all_goals decide
def Yo:∀ a b:Fin 10,lq (a.val:Int)=lq (b.val:Int)->a=b:=by decide +kernel
def VG{a b:Int}(ha:0<=a/\a<=9)(hb:0<=b/\b<=9)(h:lq a=lq b):a=b:=by
 have:=Yo ⟨a.toNat,by omega⟩ ⟨b.toNat,by omega⟩ (by rw[show ((a.toNat:Nat):Int)=a by omega,show ((b.toNat:Nat):Int)=b by omega];exact h);simp only[Fin.mk.injEq] at this;omega
def oR:∀ (N:Nat) (x y:J),bu x+bu y<N->aB x=true->aB y=true->∀ (m n:Nat) (r s:List UInt8),NS r->NS s ->
  bE x++(List.replicate m (42:UInt8)++r)=bE y++(List.replicate n 42++s)->Ob m x=Ob n y/\r=s
 | 0,x,y,h,_,_=>by omega
 | N+1,x,y,hN,hx,hy=>by
  intro m n r s hr hs h;by_cases h8:x.ai=8
  .obtain⟨g,l,e1,e2⟩:=Vq x hx h8;have ih:=oR N (x.O.getD 0 zE) y (by omega) g hy (m+1) n r s hr hs (by rw[<-h,e2];simp[b0h]);refine⟨?_,ih.2⟩;rw[<-ih.1];show Ob m x=Ob m (J.mk 8 0 [(x.O.getD 0 zE)]);rw[<-e1]
  by_cases QM:y.ai=8
  .obtain⟨g,l,e1,e2⟩:=Vq y hy QM;have ih:=oR N x (y.O.getD 0 zE) (by omega) hx g m (n+1) r s hr hs (by rw[h,e2];simp[b0h]);refine⟨?_,ih.2⟩;rw[ih.1];show Ob n (J.mk 8 0 [y.O.getD 0 zE])=Ob n y;rw[<-e1]
  suffices q:x=y/\List.replicate m (42:UInt8)++r=List.replicate n 42++s by
   obtain⟨q1,q2⟩:=q;obtain⟨q3,q4⟩:=Tc m n hr hs q2;exact⟨by rw[q1,q3],q4⟩
  obtain⟨t1,e1⟩:=Vr x hx h8;obtain⟨t2,e2⟩:=Vr y hy QM;have hb:fbE x.ai=fbE y.ai:=by
   have:=h;rw[e1,e2] at this;simp only[a8p,a7A] at this;exact this.1
  clear e1 e2 t1 t2;have n32:∀ t:List UInt8,NS (32::t):=λ t=>NS.of (by decide);have n41:∀ t:List UInt8,NS (41::t):=λ t=>NS.of (by decide);rcases ew x hx with e|e|e|e|e|e|e|e
  .rcases ew y hy with f|f|f|f|f|f|f|f
   .rw[(dK x hx).1 e,(dK y hy).1 f] at h;refine⟨?_,by simpa using h⟩;rw[JX x (jH x hx (by omega)),JX y (jH y hy (by omega)),gY x hx (by omega) (by omega),gY y hy (by omega) (by omega),e,f]
   all_goals first|exact absurd f QM|(rw[e,f] at hb;exact absurd hb (by decide))
  .rcases ew y hy with f|f|f|f|f|f|f|f
   .rw[e,f] at hb;exact absurd hb (by decide)
   .rw[(dK x hx).2.1 e,(dK y hy).2.1 f] at h;refine⟨?_,by simpa using h⟩;rw[JX x (jH x hx (by omega)),JX y (jH y hy (by omega)),gY x hx (by omega) (by omega),gY y hy (by omega) (by omega),e,f]
   all_goals first|exact absurd f QM|(rw[e,f] at hb;exact absurd hb (by decide))
  .rcases ew y hy with f|f|f|f|f|f|f|f
   .rw[e,f] at hb;exact absurd hb (by decide)
   .rw[e,f] at hb;exact absurd hb (by decide)
   .obtain⟨a1,a2,a3,a4⟩:=Wv x hx e;obtain⟨b1,b2,b3,b4⟩:=Wv y hy f;rw[a4,b4] at h;simp only[a8p,a8l,a7A,a8Y] at h;obtain⟨d1,d2⟩:=List.append_inj h (by rw[a3,b3]);refine⟨?_,d2⟩;rw[JX x (jH x hx (by omega)),JX y (jH y hy (by omega)),VG ⟨a1,a2⟩ ⟨b1,b2⟩ d1,e,f]
   all_goals first|exact absurd f QM|(rw[e,f] at hb;exact absurd hb (by decide))
  .rcases ew y hy with f|f|f|f|f|f|f|f
   .rw[e,f] at hb;exact absurd hb (by decide)
   .rw[e,f] at hb;exact absurd hb (by decide)
   .rw[e,f] at hb;exact absurd hb (by decide)
   .obtain⟨a1,a2,a3,a4⟩:=Ww x hx e;obtain⟨b1,b2,b3,b4⟩:=Ww y hy f;rw[a4,b4] at h;simp only[a8p,a8l,a7A,a8Y] at h;obtain⟨d1,d2⟩:=List.append_inj h (by rw[a3,b3]);refine⟨?_,d2⟩;rw[JX x (jH x hx (by omega)),JX y (jH y hy (by omega)),VG ⟨a1,a2⟩ ⟨b1,b2⟩ d1,e,f]
   all_goals first|exact absurd f QM|(rw[e,f] at hb;exact absurd hb (by decide))
  .have f:y.ai=5:=by
    rcases ew y hy with f|f|f|f|f|f|f|f;all_goals first|exact f|exact absurd f QM|(rw[e,f] at hb;exact absurd hb (by decide))
   have bx:=jG x hx (.inl e);have Ac:=jG y hy (.inl f);rw[(Wx x hx e).2.2,(Wx y hy f).2.2] at h;simp only[a8p,a8l,a7A,a8Y] at h;obtain⟨i1,i2⟩:=oR N (x.O.getD 0 zE) (y.O.getD 0 zE) (by have:=bx.l0;have:=Ac.l0;omega) bx.g0 Ac.g0 m n r s hr hs h;obtain⟨j1,j2⟩:=Tv (ML x hx e) (ML y hy f) m n i1;refine⟨?_,by rw[j2,i2]⟩;rw[Yx x bx.len,Yx y Ac.len,gY x hx (by omega) (by omega),gY y hy (by omega) (by omega),e,f,j1]
  .have f:y.ai=6\/y.ai=7:=by
    rcases ew y hy with f|f|f|f|f|f|f|f;all_goals first|exact .inl f|exact .inr f|exact absurd f QM|(rw[e,f] at hb;exact absurd hb (by decide))
   have bx:=cG x hx (.inl e);have Ac:=cG y hy f;have Y4:bu (x.O.getD 0 zE)+bu (y.O.getD 0 zE)<N:=by have:=bx.l0;have:=Ac.l0;omega
   have QY:bu (x.O.getD 1 zE)+bu (y.O.getD 1 zE)<N:=by have:=bx.l1;have:=Ac.l1;omega
   rcases f with f|f
   .rw[(P9 x hx e).2.2.2,(P9 y hy f).2.2.2] at h;simp only[a8p,a8l,a7A,a8Y,a8c] at h;obtain⟨i1,i2⟩:=oR N _ _ Y4 bx.g0 Ac.g0 0 0 _ _ (n32 _) (n32 _) h;simp only[a7A,a8Y] at i2;obtain⟨j1,j2⟩:=oR N _ _ QY bx.g1 Ac.g1 0 0 _ _ (n41 _) (n41 _) i2;simp only[a7A,a8Y] at j2;refine⟨?_,j2⟩;rw[VM x bx.len,VM y Ac.len,gY x hx (by omega) (by omega),gY y hy (by omega) (by omega),e,f];rw[show (x.O.getD 0 zE)=_ from i1,show (x.O.getD 1 zE)=_ from j1];rfl
   .rw[(P9 x hx e).2.2.2,(Qa y hy f).2.2.2] at h;simp only[a8p,a8l,a7A,a8Y,a8c] at h;obtain⟨i1,i2⟩:=oR N _ _ Y4 bx.g0 Ac.g0 0 0 _ _ (n32 _) (n32 _) h;obtain⟨b,t,q1,q2,q3⟩:=Jv _ _ (a7M _) Ac.g1;rw[q1] at i2;simp only[a8p,a7A,a8Y] at i2;exact absurd i2.1.symm q3
  .have f:y.ai=6\/y.ai=7:=by
    rcases ew y hy with f|f|f|f|f|f|f|f;all_goals first|exact .inl f|exact .inr f|exact absurd f QM|(rw[e,f] at hb;exact absurd hb (by decide))
   have bx:=cG x hx (.inr e);have Ac:=cG y hy f;have Y4:bu (x.O.getD 0 zE)+bu (y.O.getD 0 zE)<N:=by have:=bx.l0;have:=Ac.l0;omega
   have QY:bu (x.O.getD 1 zE)+bu (y.O.getD 1 zE)<N:=by have:=bx.l1;have:=Ac.l1;omega
   rcases f with f|f
   .rw[(Qa x hx e).2.2.2,(P9 y hy f).2.2.2] at h;simp only[a8p,a8l,a7A,a8Y,a8c] at h;obtain⟨i1,i2⟩:=oR N _ _ Y4 bx.g0 Ac.g0 0 0 _ _ (n32 _) (n32 _) h;obtain⟨b,t,q1,q2,q3⟩:=Jv _ _ (a7M _) bx.g1;rw[q1] at i2;simp only[a8p,a7A,a8Y] at i2;exact absurd i2.1 q3
   .rw[(Qa x hx e).2.2.2,(Qa y hy f).2.2.2] at h;simp only[a8p,a8l,a7A,a8Y,a8c] at h;obtain⟨i1,i2⟩:=oR N _ _ Y4 bx.g0 Ac.g0 0 0 _ _ (n32 _) (n32 _) h;simp only[a7A,a8Y] at i2;obtain⟨j1,j2⟩:=oR N _ _ QY bx.g1 Ac.g1 0 0 _ _ (n41 _) (n41 _) i2;simp only[a7A,a8Y] at j2;refine⟨?_,j2⟩;rw[VM x bx.len,VM y Ac.len,gY x hx (by omega) (by omega),gY y hy (by omega) (by omega),e,f];rw[show (x.O.getD 0 zE)=_ from i1,show (x.O.getD 1 zE)=_ from j1];rfl
  .exact absurd e h8
def Ot{x y:J}(hx:aB x=true)(hy:aB y=true)(h:bE x=bE y):x=y :=
 (oR _ x y (Nat.lt_succ_self _) hx hy 0 0 [] [] NS.nil NS.nil (by simpa using h)).1
def Sf(x:J)(fs:List (List J->List J))(out:List J):List J :=
 if x.ai=1 then out else if x.ai=6 then fs.getD 1 id (fs.getD 0 id out) else out++[x]
def wW(x:J)(out:List J):List J:=ym Sf x out
def Ug(x:J)(out:List J):wW x out=Sf x (jn Sf x.O) out:=congrFun (ki _ x) out
def YB(x:J)(out:List J)(h:x.ai=1):wW x out=out:=by rw[Ug];simp[Sf,h]
def YC(x:J)(out:List J)(h:x.ai=6)(b:B2 x):wW x out=wW (x.O.getD 1 zE) (wW (x.O.getD 0 zE) out):=by
 rw[Ug];simp only[Sf,h];rw[eM Sf id zE x.O 0 (by have:=b.len;omega),eM Sf id zE x.O 1 (by have:=b.len;omega)];rfl
def YD(x:J)(out:List J)(h1:¬ x.ai=1)(h6:¬ x.ai=6):wW x out=out++[x]:=by
 rw[Ug,Sf,a7z h1,a7z h6]
def MD:∀ (N:Nat) (x:J),bu x<N->aB x=true->∀ out,jF out->jF (wW x out)/\eH (wW x out)<=eH out+aj x+1
 | 0,x,h,_=>by omega
 | N+1,x,hN,h=>by
  intro out ho;by_cases h1:x.ai=1
  .rw[YB x out h1];exact⟨ho,by omega⟩
  by_cases h6:x.ai=6
  .have b:=cG x h (.inl h6);rw[YC x out h6 b];obtain⟨a1,a2⟩:=MD N (x.O.getD 0 zE) (by have:=b.l0;omega) b.g0 out ho;obtain⟨c1,c2⟩:=MD N (x.O.getD 1 zE) (by have:=b.l1;omega) b.g1 _ a1;exact⟨c1,by have:=b.nd;omega⟩
  rw[YD x out h1 h6];refine⟨λ y hy=>?_,?_⟩
  .rcases a7y.1 hy with q|q
   .exact ho y q
   .rw[a7O] at q;rw[q];exact h
  .simp only[eH,xN,cg,a7K,a7I,a7T];omega
noncomputable def Gg(out:List J)(x:J):List J:=if out.any (λ y=>dT y x)=true then out else out++[x]
def RE:∀ (N:Nat) (x:J),bu x<N->aB x=true->∀ ys out,dJ x (ys.foldl Gg out)=(wW x ys).foldl Gg out
 | 0,x,h,_=>by omega
 | N+1,x,hN,h=>by
  intro ys out;by_cases h1:x.ai=1
  .rw[a0e x _ h1,YB x _ h1]
  by_cases h6:x.ai=6
  .have b:=cG x h (.inl h6);rw[a0f x _ h6 b,YC x _ h6 b,RE N (x.O.getD 0 zE) (by have:=b.l0;omega) b.g0,RE N (x.O.getD 1 zE) (by have:=b.l1;omega) b.g1]
  rw[YD x _ h1 h6,a9G];show _=Gg _ x;rcases a8L ((ys.foldl Gg out).any (λ y=>dT y x)) with e|e
  .rw[a0h x _ h1 h6 e,Gg,a7E e]
  .rw[a0g x _ h1 h6 e,Gg,a7z (by rw[e];decide)]
noncomputable def tU(L:List J)(k:Nat):List J:=(L.take k).foldl Gg []
def Mq(L:List J)(k:Nat)(x:J)(h:L[k]?=some x):tU L (k+1)=Gg (tU L k) x:=by
 rw[tU,a9H,h];simp only[Option.toList_some,a9G,a9E,b0I];rfl
def a0R(x y:J)(hx:aB x=true)(hy:aB y=true)(k:Nat)(h:(wW y (wW x [])).length<=k):tU (wW y (wW x [])) k=dJ y (dJ x []):=by
 rw[tU,a8o h,<-RE _ y (a7M _) hy,<-RE _ x (a7M _) hx];rfl
def a0Q(out:List J)(x:J)(hx:aB x=true)(ho:jF out):out.any (λ y=>dT y x)=true↔∃ z∈out,bE z=bE x:=by
 rw[b1d];constructor
 .rintro⟨z,h1,h2⟩;exact⟨z,h1,by rw[Mv.1 h2]⟩
 .rintro⟨z,h1,h2⟩;exact⟨z,h1,Mv.2 (Ot (ho z h1) hx h2)⟩
def AW(L:List J)(h:jF L):∀ k,jF (tU L k)
 | 0=>λ y hy=>by simp[tU] at hy
 | k+1=>by
  cases hk:L[k]? with
  | none =>
   have e:tU L (k+1)=tU L k:=by rw[tU,tU,a9H,hk];simp
   rw[e];exact AW L h k
  | some x =>
   rw[Mq L k x hk,Gg];split
   .exact AW L h k
   .intro y hy;rcases a7y.1 hy with q|q
    .exact AW L h k y q
    .rw[a7O] at q;rw[q];exact h x (a8i hk)
def QA(L:List J):∀ k,(tU L k).length<=k
 | 0=>by simp[tU]
 | k+1=>by
  have ih:=QA L k;cases hk:L[k]? with
  | none =>
   have e:tU L (k+1)=tU L k:=by rw[tU,tU,a9H,hk];simp
   rw[e];omega
  | some x =>
   rw[Mq L k x hk,Gg];split
   .omega
   .simp;omega
def D5:∀ x:List UInt8,Op.bytesLess x x=false
 | []=>rfl
 | a::x=>by simp[Op.bytesLess,D5 x]
def Qn:∀ x y:List UInt8,Op.bytesLess x y=false->Op.bytesLess y x=false->x=y
 | [],[],_,_=>rfl
 | [],_::_,h,_=>by simp[Op.bytesLess] at h
 | _::_,[],_,h=>by simp[Op.bytesLess] at h
 | a::x,b::y,h,k=>by
  simp only[Op.bytesLess,b1z,b0w,a7C,a8C] at h k;have e:a=b:=UInt8.le_antisymm (b1g.1 k.1) (b1g.1 h.1);subst e;rw[Qn x y (h.2.resolve_left λ q=>q rfl) (k.2.resolve_left λ q=>q rfl)]
def Cf:∀ x y z:List UInt8,Op.bytesLess x y=true->Op.bytesLess y z=true->Op.bytesLess x z=true
 | _,[],_,h,_=>by cases (by simpa [Op.bytesLess] using h:False)
 | _,_::_,[],_,h=>by cases (by simpa [Op.bytesLess] using h:False)
 | [],_::_,_::_,_,_=>rfl
 | a::x,b::y,c::z,h,k=>by
  simp only[Op.bytesLess,a9c,a7H,a7D,a9p] at h k ⊢;rcases h with h|⟨rfl,h⟩
  .rcases k with k|⟨rfl,k⟩
   .exact .inl (UInt8.lt_trans h k)
   .exact .inl h
  .rcases k with k|⟨rfl,k⟩
   .exact .inl k
   .exact .inr ⟨rfl,Cf x y z h k⟩
def Me(x y z:List UInt8)(h:Op.bytesLess x y=false)(k:Op.bytesLess y z=false):Op.bytesLess x z=false:=by
 cases hxz:Op.bytesLess x z with
 | false=>rfl
 | true =>
  cases hzy:Op.bytesLess z y with
  | true=>rw[Cf x z y hxz hzy] at h;cases h
  | false =>
   have e:=Qn y z k hzy;subst e;rw[h] at hxz;cases hxz
def DR(xs:List J):Prop:=xs.Pairwise λ a b=>OZ b a=false
def IL(x:J):∀ ys,(fw x ys).Perm (x::ys)
 | [] => .refl _
 | y::ys=>by
  rw[fw];split
  .exact ((IL x ys).cons y).trans (.swap x y ys)
  .exact .refl _
def SI(x:J):∀ ys,DR ys->DR (fw x ys)
 | [],_=>by simp[fw,DR]
 | y::ys,h=>by
  have ⟨h1,h2⟩:=a9d.1 h;rw[fw];split
  .rename_i hl;refine a9d.2 ⟨λ z hz=>?_,SI x ys h2⟩;rcases a7J.1 ((IL x ys).mem_iff.1 hz) with rfl|q
   .cases hzy:OZ z y with
    | false=>rfl
    | true=>have:=Cf _ _ _ hl hzy;rw[D5] at this;cases this
   .exact h1 z q
  .rename_i hl;have hl:OZ y x=false:=by simpa using hl
   refine a9d.2 ⟨λ z hz=>?_,h⟩;rcases a7J.1 hz with rfl|q
   .exact hl
   .exact Me _ _ _ (h1 z q) hl
def Wp:∀ (xs acc:List J),DR acc->DR (xs.foldl (λ out x=>fw x out) acc)/\(xs.foldl (λ out x=>fw x out) acc).Perm (xs++acc)
 | [],acc,h=>⟨h, .refl _⟩
 | x::xs,acc,h=>by
  obtain⟨h1,h2⟩:=Wp xs (fw x acc) (SI x acc h);refine⟨h1,h2.trans ?_⟩;exact ((IL x acc).append_left xs).trans b1e
def PV:∀ xs ys:List J,xs.Perm ys->DR xs->DR ys->jF xs->xs=ys
 | [],ys,h,_,_,_=>(List.nil_perm.1 h).symm
 | x::xs,[],h,_,_,_=>absurd h.length_eq (by simp)
 | x::xs,y::ys,h,hx,hy,hg=>by
  obtain⟨x1,x2⟩:=a9d.1 hx;obtain⟨y1,y2⟩:=a9d.1 hy;have e:x=y:=by
   rcases a7J.1 (h.mem_iff.1 (a9D)) with q|q
   .exact q
   rcases a7J.1 (h.mem_iff.2 (a9D)) with p|p
   .exact p.symm
   .exact Ot (hg x (by simp)) (hg y (by simp[p])) (Qn _ _ (y1 x q) (x1 y p))
  subst e;rw[PV xs ys h.cons_inv x2 y2 λ z hz=>hg z (by simp[hz])]
def a0q(xs zs:List J)(hg:jF xs)(hp:zs.Perm xs)(ho:DR zs):zs=yM xs:=by
 obtain⟨h1,h2⟩:=Wp xs [] (by simp[DR]);rw[a8z] at h2;exact PV zs _ (hp.trans h2.symm) ho h1 λ z hz=>hg z (hp.mem_iff.1 hz)
def gA:aW:=⟨Hl,[.v (.int .i64), .v (.int .i64)],λ (k:Int) (m:Int)=>⟨(none,[⟨(.st .expr),J.mk k m []⟩])⟩⟩
def Rb(k:Int)(m:Int):Nat->aL:=cB
def ga:aW.Good gA:=by
 refine⟨aD Dl,?_⟩;intro (k:Int) (m:Int) _;refine aV [] [] [] [] trivial Dl Ks (Rb k m) ((J.mk k m [])=(J.mk k m [])) ?_;refine rfl;all_goals try and_intros
 all_goals first|rfl|trivial|omega|(simp only[a7D,a7C,aE,au,cI,iE,cN,bB] at *;omega)|(simp[aE,au] at *;omega)|grind
def fi:aW:=⟨Hm,[.v (.int .i64), .v (.slice (.st .expr))],λ (k:Int) (ks:List J)=>⟨(none,[⟨(.st .expr),J.mk k 0 ks⟩])⟩⟩
def Rf(k:Int)(ks:List J):Nat->aL:=cB
def eU:aW.Good fi:=by
 refine⟨aD Dm,?_⟩;intro (k:Int) (ks:List J) _;refine aV [] [] [] [] trivial Dm Ku (Rf k ks) ((J.mk k (0:Int) ks)=(J.mk k 0 ks)) ?_;refine ?_;all_goals try and_intros
 all_goals first|rfl|trivial|omega|(simp only[a7D,a7C,aE,au,cI,iE,cN,bB] at *;omega)|(simp[aE,au] at *;omega)|grind
end
end Go.Proofs.YtncejbehidimmaaGreatDoor

namespace Go.Proofs
open Go.Shelf
def Tryz.Rg:Go.Shelf.Ren:=⟨λ|106=>93|213=>108|265=>125|n=>n,λ|9=>9|3=>3|n=>n,λ|n=>n⟩
def Tryz.Zu:Go.Proofs.Lays.n106 Tryz.prog Tryz.Rg:={
 mixed:=by kernel_rfl
 f106:=Tryz.func93.trans (congrArg some (by kernel_rfl))
 f213:=Tryz.func108.trans (congrArg some (by kernel_rfl))
 f265:=Tryz.func125.trans (congrArg some (by kernel_rfl))
 t3:=Tryz.underlying3
 a3:=Tryz.isAgg3
 z3:=Tryz.sizeOf3
 v3:=Tryz.zeroValue3
 t9:=Tryz.underlying9
 a9:=Tryz.isAgg9
 z9:=Tryz.sizeOf9
 v9:=Tryz.zeroValue9 }
open Go.RowKit in
def Tryz.strings_Compare(a b:ByteArray)(w:World) :
  Calls Tryz.prog 93 #[.string a, .string b] w λ e w'=>e = .returned (.int .i64 (Lib.compareBytes a.data.toList b.data.toList))/\w'=w:=Any.strings_Compare Tryz.Zu a b w
def Tryz.Tn:Go.Shelf.Ren:=⟨λ|6=>91|15=>107|14=>106|28=>123|29=>124|20=>115|21=>116|22=>117|23=>118|24=>119|25=>120|26=>121|27=>122|46=>131|47=>132|48=>133|49=>134|50=>135|57=>140|n=>n,λ|22=>133|24=>138|25=>141|3=>3|39=>132|0=>0|53=>170|55=>172|4=>4|46=>163|45=>162|50=>167|5=>5|9=>9|66=>178|70=>182|76=>189|77=>190|n=>n,λ|n=>n⟩
def Tryz.a1C:Go.Proofs.SlLaysF0.n6 Tryz.prog Tryz.Tn:={
 mixed:=by kernel_rfl
 f6:=⟨Tryz.f91.name,by decide,Tryz.func91.trans (congrArg some (by kernel_rfl))⟩
 f14:=⟨Tryz.f106.name,by decide,Tryz.func106.trans (congrArg some (by kernel_rfl))⟩
 f15:=Tryz.func107.trans (congrArg some (by kernel_rfl))
 f20:=⟨Tryz.f115.name,by decide,Tryz.func115.trans (congrArg some (by kernel_rfl))⟩
 f21:=⟨Tryz.f116.name,by decide,Tryz.func116.trans (congrArg some (by kernel_rfl))⟩
 f22:=⟨Tryz.f117.name,by decide,Tryz.func117.trans (congrArg some (by kernel_rfl))⟩
 f23:=⟨Tryz.f118.name,by decide,Tryz.func118.trans (congrArg some (by kernel_rfl))⟩
 f24:=⟨Tryz.f119.name,by decide,Tryz.func119.trans (congrArg some (by kernel_rfl))⟩
 f25:=⟨Tryz.f120.name,by decide,Tryz.func120.trans (congrArg some (by kernel_rfl))⟩
 f26:=⟨Tryz.f121.name,by decide,Tryz.func121.trans (congrArg some (by kernel_rfl))⟩
 f27:=⟨Tryz.f122.name,by decide,Tryz.func122.trans (congrArg some (by kernel_rfl))⟩
 f28:=Tryz.func123.trans (congrArg some (by kernel_rfl))
 f29:=Tryz.func124.trans (congrArg some (by kernel_rfl))
 f46:=⟨Tryz.f131.name,by decide,Tryz.func131.trans (congrArg some (by kernel_rfl))⟩
 f47:=Tryz.func132.trans (congrArg some (by kernel_rfl))
 f48:=Tryz.func133.trans (congrArg some (by kernel_rfl))
 f49:=⟨Tryz.f134.name,by decide,Tryz.func134.trans (congrArg some (by kernel_rfl))⟩
 f50:=⟨Tryz.f135.name,by decide,Tryz.func135.trans (congrArg some (by kernel_rfl))⟩
 f57:=⟨Tryz.f140.name,by decide,Tryz.func140.trans (congrArg some (by kernel_rfl))⟩
 t0:=Tryz.underlying0
 a0:=Tryz.isAgg0
 z0:=Tryz.sizeOf0
 v0:=Tryz.zeroValue0
 t3:=Tryz.underlying3
 a3:=Tryz.isAgg3
 z3:=Tryz.sizeOf3
 v3:=Tryz.zeroValue3
 t4:=Tryz.underlying4
 a4:=Tryz.isAgg4
 z4:=Tryz.sizeOf4
 v4:=Tryz.zeroValue4
 t5:=Tryz.underlying5
 a5:=Tryz.isAgg5
 z5:=Tryz.sizeOf5
 v5:=Tryz.zeroValue5
 t9:=Tryz.underlying9
 a9:=Tryz.isAgg9
 z9:=Tryz.sizeOf9
 v9:=Tryz.zeroValue9
 t22:=Tryz.underlying133
 a22:=Tryz.isAgg133
 z22:=Tryz.sizeOf133
 v22:=Tryz.zeroValue133
 t25:=Tryz.underlying141
 a25:=Tryz.isAgg141
 z25:=Tryz.sizeOf141
 v25:=Tryz.zeroValue141
 t39:=Tryz.underlying132
 a39:=Tryz.isAgg132
 z39:=Tryz.sizeOf132
 v39:=Tryz.zeroValue132
 t45:=Tryz.underlying162
 a45:=Tryz.isAgg162
 z45:=Tryz.sizeOf162
 v45:=Tryz.zeroValue162
 t46:=Tryz.underlying163
 a46:=Tryz.isAgg163
 z46:=Tryz.sizeOf163
 v46:=Tryz.zeroValue163
 t50:=Tryz.underlying167
 a50:=Tryz.isAgg167
 z50:=Tryz.sizeOf167
 v50:=Tryz.zeroValue167
 t53:=Tryz.underlying170
 a53:=Tryz.isAgg170
 z53:=Tryz.sizeOf170
 v53:=Tryz.zeroValue170
 t55:=Tryz.underlying172
 a55:=Tryz.isAgg172
 z55:=Tryz.sizeOf172
 v55:=Tryz.zeroValue172
 t66:=Tryz.underlying178
 a66:=Tryz.isAgg178
 z66:=Tryz.sizeOf178
 v66:=Tryz.zeroValue178
 t70:=Tryz.underlying182
 a70:=Tryz.isAgg182
 z70:=Tryz.sizeOf182
 v70:=Tryz.zeroValue182
 t76:=Tryz.underlying189
 a76:=Tryz.isAgg189
 z76:=Tryz.sizeOf189
 v76:=Tryz.zeroValue189
 t77:=Tryz.underlying190
 a77:=Tryz.isAgg190
 z77:=Tryz.sizeOf190
 v77:=Tryz.zeroValue190 }
end Go.Proofs

/- VmExpr, VmExpr2, VmShaped, VmTruth, VmValid, VmBw, VmShelf, VmWe, VmText, VmSrc, VmGen, VmSz, VmBld, VmBld2, VmGen2, VmDTidy, VmDMach, VmDSum. -/
import Derived.Test.YtofnjfpeimhifaaGreatDoorVmSame1
import Derived.Test.YtofnjfpeimhifaaGreatDoorProg
import Derived.WalkKit
import Derived.Lib.Builder
import Derived.Lib.AppendStr
import Derived.Lib.UnsafeStr
import Derived.Lib.Walk
import Derived.Lib.Strings
import Derived.Lib.Slices
import Derived.Lib.MakeNoZero
import Derived.Laws.Externs
import Derived.Laws.IdiomCopy
import Derived.BigCall
import Derived.OwnWalk
import Derived.Shelf.Strings.Builder1
import Derived.Shelf.Small.Bits
import Derived.Shelf.Small.Strs
import Derived.Shelf.Utf8.RuneCount
import Derived.Shelf.Strconv.Itoa0
import Derived.Shelf.Strconv.Itoa1
import Derived.Shelf.LaysM
import Derived.Shelf.Strconv.Itoa2
import Derived.Shelf.Strconv.Itoa3
import Derived.Shelf.Strings.Search1
import Derived.Shelf.Strings.Search2
import Derived.Shelf.Strings.Search3
import Derived.Shelf.Strings.Count
import Derived.Shelf.Strings.Shaped
import Derived.Shelf.Strings.Split
import Derived.Shelf.Strings.SplitShaped
import Derived.Shelf.Unicode.Decode
import Derived.Shelf.Strings.RuneCount
import Derived.Shelf.Strings.Explode
import Derived.Shelf.Unicode.DecodeSlow
import Derived.Shelf.Unicode.DecodeAny
import Derived.LoopTactic
import Derived.Deep.RegionHeld3
import Derived.Deep.AppendLies
import Derived.Maps.AppendAt
import Derived.Deep.DeepCutAuto
import Derived.Deep.CutBlock
import Derived.Lib.SliceRun
set_option linter.all false
set_option maxHeartbeats 4000000
set_option maxRecDepth 4000
namespace Go.Proofs.YtofnjfpeimhifaaGreatDoor
def b3p:=@Int.lt_or_le
def b2p:=@Int.fdiv_eq_ediv_of_nonneg
def a9E:=@Bool.not_eq_false'
def b0a:=@Go.Lib.alloc_old
def b2b:=@Go.Oper.upon_value
def b0R:=@Go.RowKit.Below.refl
def b0I:=@Go.Lib.cell_of_heap
def b3k:=@Go.Lib.fresh_isBuilder
def b2N:=@Nat.le_succ
def b1u:=@Bool.and_true
def a9Z:=@decide_eq_true
def b0D:=@decide_eq_false
def b3q:=@Bool.true_or
def b0j:=@Bool.eq_false_or_eq_true
def b1D:=@List.take_add_one
def b2G:=@Go.bodyPost_ret
def b3r:=@Go.results_none
def b2Y:=@Go.info_parts
def b2f:=@Go.World.news_of_block
def b0F:=@Go.heap_setCell_other
def b0m:=@Go.heap_setCell_same
def b1B:=@Go.World.ownsRow_made
def b2n:=@List.append_of_mem
def b0N:=@List.mem_of_mem_drop
def b1R:=@Go.wpList_append_own
def b2Z:=@Go.wpList_append_own_at
noncomputable section
mutual
def ar:J->Nat
 | ⟨_,_,ks⟩=>1+fR ks
def fR:List J->Nat
 | []=>0
 | k::ks=>ar k+fR ks
end
def Mi:∀ xs,fR xs=cT ar xs
 | []=>rfl
 | x::xs=>by rw[fR,cT,Mi xs]
def gR(x:J):ar x=1+cT ar x.ae:=by
 cases x;simp[ar,Mi]
mutual
def bF:J->Nat
 | ⟨_,_,ks⟩=>1+jX ks
def jX:List J->Nat
 | []=>0
 | k::ks=>max (bF k) (jX ks)
end
def LX:∀ xs,jX xs=iB bF xs
 | []=>rfl
 | x::xs=>by rw[jX,iB,LX xs]
def Gq(x:J):bF x=1+iB bF x.ae:=by
 cases x;simp[bF,LX]
mutual
def Ib:∀ x:J,bF x<=ar x
 | ⟨k,n,ks⟩=>by
  have:=Fi ks;simp only[bF,ar];omega
def Fi:∀ xs:List J,jX xs<=fR xs
 | []=>by simp[jX]
 | x::xs=>by
  have h1:=Ib x;have h2:=Fi xs;simp only[jX,fR];omega
end
def ua(k:Int):Bool:=decide (k=1)||decide (k=2)||decide (k=3)||decide (k=5)||decide (k=6)||decide (k=7)
mutual
def bD:J->Bool
 | ⟨k,_,ks⟩=>ua k&&zZ ks
def zZ:List J->Bool
 | []=>true
 | k::ks=>bD k&&zZ ks
end
def Ox:∀ xs,zZ xs=bX bD xs
 | []=>rfl
 | x::xs=>by rw[zZ,bX,Ox xs]
def tm(x:J):bD x=(ua x.ah&&bX bD x.ae):=by
 cases x;simp[bD,Ox]
def cA(k:Int):Int:=if k=1\/k=2\/k=3\/k=4 then 0 else if k=5\/k=8 then 1 else if k=6\/k=7 then 2 else -1
def fP:aX:=⟨Dy,[.v (.int .i64), .v (.int .i64), .v (.int .i64)],λ (n:Int) (least:Int) (most:Int)=>⟨(none,[⟨.bool,decide (least<=n/\n<=most)⟩])⟩⟩
def Pw(n:Int)(least:Int)(most:Int):Nat->aJ:=cj
def gA:aX.Good fP:=by
 refine⟨aD A6,?_⟩;intro (n:Int) (least:Int) (most:Int) _;refine aY [] [] [] [] trivial A6 HY (Pw n least most) (let v0:=decide (least<=n/\n<=most);((((decide (least<=n))=true->((decide (n<=most))=v0))/\((decide (least<=n))=(!true)->(false=v0))))) ?_;refine⟨λ _=>?_,λ _=>?_⟩;all_goals try and_intros
 all_goals first|rfl|trivial|(simp_all;done)|(simp_all;omega)
def gP:aX:=⟨FD,[.v (.int .i64), .v (.int .i64), .v (.int .i64)],λ (n:Int) (low:Int) (high:Int)=>⟨(none,[⟨.bool,decide (low<=n/\n<=high)⟩])⟩⟩
def Q5(n:Int)(low:Int)(high:Int):Nat->aJ:=cj
def kQ:aX.Good gP:=by
 refine⟨aD Cp,?_⟩;intro (n:Int) (low:Int) (high:Int) _;refine aY [] [] [] [] trivial Cp J6 (Q5 n low high) (let v0:=decide (low<=n/\n<=high);((((decide (low<=n))=true->((decide (n<=high))=v0))/\((decide (low<=n))=(!true)->(false=v0))))) ?_;refine⟨λ _=>?_,λ _=>?_⟩;all_goals try and_intros
 all_goals first|rfl|trivial|(simp_all;done)|(simp_all;omega)
def uX:aX:=⟨DB,[.v (.int .i64), .v (.int .i64)],λ (a:Int) (b:Int)=>⟨(none,[⟨(.int .i64),max a b⟩])⟩⟩
def Py(a:Int)(b:Int):Nat->aJ:=cj
def ID:aX.Good uX:=by
 refine⟨aD Bb,?_⟩;intro (a:Int) (b:Int) _;refine aY [] [] [] [] trivial Bb H2 (Py a b) ((((decide (b<a))=true->a=(max a b))/\((decide (b<a))=false->b=(max a b)))) ?_;refine⟨λ _=>?_,λ _=>?_⟩;all_goals try and_intros
 all_goals first|rfl|trivial|(simp_all;omega)
def uV:aX:=⟨Dv,[.v (.int .i64)],λ (k:Int)=>⟨(none,[⟨(.int .i64),cA k⟩])⟩⟩
def Pt(k:Int):Nat->aJ:=cj
abbrev yO(k:Int):Prop:=(let v0:=decide (k=(6:Int));((v0=true ->
 ((v0=true ->
 (2:Int)=(cA k))/\(v0=false ->
 (-1:Int)=(cA k))))/\(v0=false ->
 (((decide (k=(7:Int)))=true ->
 (2:Int)=(cA k))/\((decide (k=(7:Int)))=false ->
 (-1:Int)=(cA k))))))
abbrev KE(k:Int):Prop:=(let v0:=decide (k=(5:Int));((v0=true ->
 ((v0=true ->
 (1:Int)=(cA k))/\(v0=false ->
 (yO k))))/\(v0=false ->
 (((decide (k=(8:Int)))=true ->
 (1:Int)=(cA k))/\((decide (k=(8:Int)))=false ->
 (yO k))))))
def Iy:aX.Good uV:=by
 refine⟨aD A4,?_⟩;intro (k:Int) _;refine aY [] [] [] [] trivial A4 HV (Pt k) (let v0:=decide (k=(1:Int));let v1:=decide (k=(2:Int));let v2:=decide (k=(3:Int));let v3:=KE k;(((v0=true->((v0=true->(0:Int)=(cA k))/\(v0=false->v3)))/\(v0=false->((v1=true->((v1=true->(0:Int)=(cA k))/\(v1=false->v3)))/\(v1=false->((v2=true->((v2=true->(0:Int)=(cA k))/\(v2=false->v3)))/\(v2=false->(((decide (k=(4:Int)))=true->(0:Int)=(cA k))/\((decide (k=(4:Int)))=false->v3)))))))))) ?_;refine⟨λ _=>⟨λ _=>?_,λ _=>⟨λ _=>⟨λ _=>?_,λ _=>⟨λ _=>⟨λ _=>?_,λ _=>?_⟩,λ _=>⟨λ _=>?_,λ _=>?_⟩⟩⟩,λ _=>⟨λ _=>?_,λ _=>⟨λ _=>⟨λ _=>?_,λ _=>?_⟩,λ _=>⟨λ _=>?_,λ _=>?_⟩⟩⟩⟩⟩,λ _=>⟨λ _=>⟨λ _=>?_,λ _=>⟨λ _=>⟨λ _=>?_,λ _=>⟨λ _=>⟨λ _=>?_,λ _=>?_⟩,λ _=>⟨λ _=>?_,λ _=>?_⟩⟩⟩,λ _=>⟨λ _=>?_,λ _=>⟨λ _=>⟨λ _=>?_,λ _=>?_⟩,λ _=>⟨λ _=>?_,λ _=>?_⟩⟩⟩⟩⟩,λ _=>⟨λ _=>⟨λ _=>?_,λ _=>⟨λ _=>⟨λ _=>?_,λ _=>⟨λ _=>⟨λ _=>?_,λ _=>?_⟩,λ _=>⟨λ _=>?_,λ _=>?_⟩⟩⟩,λ _=>⟨λ _=>?_,λ _=>⟨λ _=>⟨λ _=>?_,λ _=>?_⟩,λ _=>⟨λ _=>?_,λ _=>?_⟩⟩⟩⟩⟩,λ _=>⟨λ _=>?_,λ _=>⟨λ _=>⟨λ _=>?_,λ _=>⟨λ _=>⟨λ _=>?_,λ _=>?_⟩,λ _=>⟨λ _=>?_,λ _=>?_⟩⟩⟩,λ _=>⟨λ _=>?_,λ _=>⟨λ _=>⟨λ _=>?_,λ _=>?_⟩,λ _=>⟨λ _=>?_,λ _=>?_⟩⟩⟩⟩⟩⟩⟩⟩;all_goals try and_intros
 all_goals first|rfl|trivial|(simp only[decide_eq_true_eq,decide_eq_false_iff_not] at *;simp[cA, *];done)|(simp only[decide_eq_true_eq,decide_eq_false_iff_not] at *;unfold cA;repeat (first|omega|split))
def rT:aX:=⟨BD,[.v (.int .i64)],λ (k:Int)=>⟨(none,[⟨(.int .i64),cA k⟩])⟩⟩
def M7(k:Int):Nat->aJ:=cj
abbrev wP(k:Int):Prop:=(let v0:=decide (k=(6:Int));((v0=true ->
 ((v0=true ->
 (2:Int)=(cA k))/\(v0=false ->
 (-1:Int)=(cA k))))/\(v0=false ->
 (((decide (k=(7:Int)))=true ->
 (2:Int)=(cA k))/\((decide (k=(7:Int)))=false ->
 (-1:Int)=(cA k))))))
abbrev IZ(k:Int):Prop:=(let v0:=decide (k=(5:Int));((v0=true ->
 ((v0=true ->
 (1:Int)=(cA k))/\(v0=false ->
 (wP k))))/\(v0=false ->
 (((decide (k=(8:Int)))=true ->
 (1:Int)=(cA k))/\((decide (k=(8:Int)))=false ->
 (wP k))))))
def GC:aX.Good rT:=by
 refine⟨aD yo,?_⟩;intro (k:Int) _;refine aY [] [] [] [] trivial yo F8 (M7 k) (let v0:=decide (k=(1:Int));let v1:=decide (k=(2:Int));let v2:=decide (k=(3:Int));let v3:=IZ k;(((v0=true->((v0=true->(0:Int)=(cA k))/\(v0=false->v3)))/\(v0=false->((v1=true->((v1=true->(0:Int)=(cA k))/\(v1=false->v3)))/\(v1=false->((v2=true->((v2=true->(0:Int)=(cA k))/\(v2=false->v3)))/\(v2=false->(((decide (k=(4:Int)))=true->(0:Int)=(cA k))/\((decide (k=(4:Int)))=false->v3)))))))))) ?_;refine⟨λ _=>⟨λ _=>?_,λ _=>⟨λ _=>⟨λ _=>?_,λ _=>⟨λ _=>⟨λ _=>?_,λ _=>?_⟩,λ _=>⟨λ _=>?_,λ _=>?_⟩⟩⟩,λ _=>⟨λ _=>?_,λ _=>⟨λ _=>⟨λ _=>?_,λ _=>?_⟩,λ _=>⟨λ _=>?_,λ _=>?_⟩⟩⟩⟩⟩,λ _=>⟨λ _=>⟨λ _=>?_,λ _=>⟨λ _=>⟨λ _=>?_,λ _=>⟨λ _=>⟨λ _=>?_,λ _=>?_⟩,λ _=>⟨λ _=>?_,λ _=>?_⟩⟩⟩,λ _=>⟨λ _=>?_,λ _=>⟨λ _=>⟨λ _=>?_,λ _=>?_⟩,λ _=>⟨λ _=>?_,λ _=>?_⟩⟩⟩⟩⟩,λ _=>⟨λ _=>⟨λ _=>?_,λ _=>⟨λ _=>⟨λ _=>?_,λ _=>⟨λ _=>⟨λ _=>?_,λ _=>?_⟩,λ _=>⟨λ _=>?_,λ _=>?_⟩⟩⟩,λ _=>⟨λ _=>?_,λ _=>⟨λ _=>⟨λ _=>?_,λ _=>?_⟩,λ _=>⟨λ _=>?_,λ _=>?_⟩⟩⟩⟩⟩,λ _=>⟨λ _=>?_,λ _=>⟨λ _=>⟨λ _=>?_,λ _=>⟨λ _=>⟨λ _=>?_,λ _=>?_⟩,λ _=>⟨λ _=>?_,λ _=>?_⟩⟩⟩,λ _=>⟨λ _=>?_,λ _=>⟨λ _=>⟨λ _=>?_,λ _=>?_⟩,λ _=>⟨λ _=>?_,λ _=>?_⟩⟩⟩⟩⟩⟩⟩⟩;all_goals try and_intros
 all_goals first|rfl|trivial|(simp only[decide_eq_true_eq,decide_eq_false_iff_not] at *;simp[cA, *];done)|(simp only[decide_eq_true_eq,decide_eq_false_iff_not] at *;unfold cA;repeat (first|omega|split))
def gE(n:Nat):aX:=⟨lV,[.v (.st .expr)],λ (x:J)=>⟨(some (bH x<n),[⟨.bool,bD x⟩])⟩⟩
def gZ:aX:=⟨lV,[.v (.st .expr)],λ (x:J)=>⟨(none,[⟨.bool,bD x⟩])⟩⟩
def E0(x:J):Nat->aJ:=(eA 1 (.b (Nat) (λ k=>k<=x.ae.length/\bX bD (x.ae.take k)=true) (λ k=>x.ae.length - k) [0,1,5,6,7,8,9,10,11,12,13,14] (λ k=>[(17, .aN ⟨(.int .i64),((k:Int):Int)⟩)])) cj)
abbrev B8(n:Nat)(x:J):Prop:=(let v0:=(x.ae.length:Int);(x.ae.length<=140737488355328 ->
 (ai v0 ->
 ((∃ k1:Nat,((k1<=x.ae.length/\bX bD (x.ae.take k1)=true)/\((x.ae=x.ae/\(v0=v0/\((0:Int)=(k1:Int)/\True)))/\True)))/\(∀ k1:Nat,let v1:=aU (x.ae.getD k1 zE);((k1<=x.ae.length/\bX bD (x.ae.take k1)=true) ->
 (((decide ((k1:Int)<v0))=true ->
 (aB (k1:Int) x.ae.length/\(bH v1<n/\(((!(bD v1))=true ->
 false=(bD x))/\((!(bD v1))=false ->
 (ai ((k1:Int)+(1:Int))/\(∃ k2:Nat,((k2<=x.ae.length/\bX bD (x.ae.take k2)=true)/\(x.ae.length - k2<x.ae.length - k1/\((x.ae=x.ae/\(v0=v0/\(((k1:Int)+(1:Int))=(k2:Int)/\True)))/\True))))))))))/\((decide ((k1:Int)<v0))=false ->
 true=(bD x)))))))))
def DJ(n:Nat)(hE:bo [gE n]):aX.Good (gE (n+1)):=by
 refine⟨aD gi,?_⟩;intro (x:J) (hp:bH x<n+1);refine aY [gE n] [] [] [1] hE gi zN (E0 x) (let v0:=B8 n x;let v1:=decide (x.ah=(1:Int));let v2:=decide (x.ah=(2:Int));let v3:=decide (x.ah=(3:Int));let v4:=decide (x.ah=(5:Int));let v5:=decide (x.ah=(6:Int));let v6:=bD x;((ai x.ah->((v1=true->((v1=true->v0)/\(v1=false->false=v6)))/\(v1=false->((v2=true->((v2=true->v0)/\(v2=false->false=v6)))/\(v2=false->((v3=true->((v3=true->v0)/\(v3=false->false=v6)))/\(v3=false->((v4=true->((v4=true->v0)/\(v4=false->false=v6)))/\(v4=false->((v5=true->((v5=true->v0)/\(v5=false->false=v6)))/\(v5=false->(((decide (x.ah=(7:Int)))=true->v0)/\((decide (x.ah=(7:Int)))=false->false=v6))))))))))))))) ?_;have f0:=fK x;have f1:=all_zero bD x.ae;refine λ _=>⟨λ _=>⟨λ _ _ _=>⟨⟨0,?_,⟨rfl,rfl,?_,U⟩,U⟩,λ k1 _=>have a6a:=de bD zE x.ae k1;have a6b:=dJ bD zE x.ae k1;have a6c:=eJ bD x.ae k1;have a8t:=cB zE x.ae k1;⟨λ _=>⟨?_,?_,λ _=>?_,λ _=>⟨?_,k1+1,?_,?_,⟨rfl,rfl,?_,U⟩,U⟩⟩,λ _=>?_⟩⟩,λ _=>?_⟩,λ _=>⟨λ _=>⟨λ _ _ _=>⟨⟨0,?_,⟨rfl,rfl,?_,U⟩,U⟩,λ k1 _=>have a8u:=de bD zE x.ae k1;have a8v:=dJ bD zE x.ae k1;have a8w:=eJ bD x.ae k1;have a8x:=cB zE x.ae k1;⟨λ _=>⟨?_,?_,λ _=>?_,λ _=>⟨?_,k1+1,?_,?_,⟨rfl,rfl,?_,U⟩,U⟩⟩,λ _=>?_⟩⟩,λ _=>?_⟩,λ _=>⟨λ _=>⟨λ _ _ _=>⟨⟨0,?_,⟨rfl,rfl,?_,U⟩,U⟩,λ k1 _=>have a0j:=de bD zE x.ae k1;have a0k:=dJ bD zE x.ae k1;have a0l:=eJ bD x.ae k1;have a3H:=cB zE x.ae k1;⟨λ _=>⟨?_,?_,λ _=>?_,λ _=>⟨?_,k1+1,?_,?_,⟨rfl,rfl,?_,U⟩,U⟩⟩,λ _=>?_⟩⟩,λ _=>?_⟩,λ _=>⟨λ _=>⟨λ _ _ _=>⟨⟨0,?_,⟨rfl,rfl,?_,U⟩,U⟩,λ k1 _=>have a8y:=de bD zE x.ae k1;have a8z:=dJ bD zE x.ae k1;have a8A:=eJ bD x.ae k1;have a8B:=cB zE x.ae k1;⟨λ _=>⟨?_,?_,λ _=>?_,λ _=>⟨?_,k1+1,?_,?_,⟨rfl,rfl,?_,U⟩,U⟩⟩,λ _=>?_⟩⟩,λ _=>?_⟩,λ _=>⟨λ _=>⟨λ _ _ _=>⟨⟨0,?_,⟨rfl,rfl,?_,U⟩,U⟩,λ k1 _=>have a3I:=de bD zE x.ae k1;have a3J:=dJ bD zE x.ae k1;have a3K:=eJ bD x.ae k1;have a6j:=cB zE x.ae k1;⟨λ _=>⟨?_,?_,λ _=>?_,λ _=>⟨?_,k1+1,?_,?_,⟨rfl,rfl,?_,U⟩,U⟩⟩,λ _=>?_⟩⟩,λ _=>?_⟩,λ _=>⟨λ _ _ _=>⟨⟨0,?_,⟨rfl,rfl,?_,U⟩,U⟩,λ k1 _=>have a3I:=de bD zE x.ae k1;have a3J:=dJ bD zE x.ae k1;have a3K:=eJ bD x.ae k1;have a6j:=cB zE x.ae k1;⟨λ _=>⟨?_,?_,λ _=>?_,λ _=>⟨?_,k1+1,?_,?_,⟨rfl,rfl,?_,U⟩,U⟩⟩,λ _=>?_⟩⟩,λ _=>?_⟩⟩⟩⟩⟩⟩;all_goals try and_intros
 all_goals try (first|with_reducible rfl|with_reducible assumption)
 all_goals try simp only[J.eta,cC] at *
 all_goals try rw[tm x]
 all_goals first|rfl|trivial|(simp only[a9d,a8Z,aB,ai] at *;omega)|(simp_all [ua];done)|(simp_all [ua,aB,ai];omega)
def Lw :∀ n,bo [gE n]
 | 0=>⟨⟨aD gi,λ _ h=>absurd h (a9K _)⟩,U⟩
 | n+1=>by
  have ih:=Lw  n;exact⟨DJ n ⟨ih.1,U⟩,U⟩
def od :aX.Good gZ :=
 ⟨aD gi,λ x hp=>(Lw  (bH x+1)).1.2 x (a9o _)⟩
def fW(n:Nat):aX:=⟨kl,[.r (.st .expr)],λ (x:J)=>⟨(some (bH x<n),[⟨.bool,bD x⟩])⟩⟩
def gD:aX:=⟨kl,[.r (.st .expr)],λ (x:J)=>⟨(none,[⟨.bool,bD x⟩])⟩⟩
def Di(x:J):Nat->aJ:=(eA 0 (.b (Nat) (λ k=>k<=x.ae.length/\bX bD (x.ae.take k)=true) (λ k=>x.ae.length - k) [4,5,6,7,8,9,10,11,12,13,14,15,16] (λ k=>[(3, .aN ⟨(.int .i64),((k:Int):Int)⟩)])) cj)
abbrev oo(n:Nat)(x:J):Prop:=(let v0:=(x.ae.length:Int);((∃ k1:Nat,((k1<=x.ae.length/\bX bD (x.ae.take k1)=true)/\((x=x/\((0:Int)=(k1:Int)/\True))/\True)))/\(∀ k1:Nat,let v1:=x.ae.getD k1 zE;((k1<=x.ae.length/\bX bD (x.ae.take k1)=true) ->
 (x.ae.length<=140737488355328 ->
 (ai v0 ->
 (((decide ((k1:Int)<v0))=true ->
 (x.ae.length<=140737488355328 ->
 (aB (k1:Int) x.ae.length/\(bH v1<n/\(((!(bD v1))=true ->
 false=(bD x))/\((!(bD v1))=false ->
 (ai ((k1:Int)+(1:Int))/\(∃ k2:Nat,((k2<=x.ae.length/\bX bD (x.ae.take k2)=true)/\(x.ae.length - k2<x.ae.length - k1/\((x=x/\(((k1:Int)+(1:Int))=(k2:Int)/\True))/\True)))))))))))/\((decide ((k1:Int)<v0))=false ->
 true=(bD x)))))))))
def Ci(n:Nat)(hE:bo [fW n,gP]):aX.Good (fW (n+1)):=by
 refine⟨aD fU,?_⟩;intro (x:J) (hp:bH x<n+1);refine aY [fW n,gP] [] [] [] hE fU yv (Di x) (let v0 := !(decide ((1:Int)<=x.ah/\x.ah<=(7:Int)));((ai x.ah->(((v0=false)->(ai x.ah->(((decide (x.ah=(4:Int)))=true->false=(bD x))/\((decide (x.ah=(4:Int)))=false->(oo n x)))))/\((v0=(!false))->((true=true->false=(bD x))/\(true=false->(oo n x)))))))) ?_;have f0:=fK x;have f1:=all_zero bD x.ae;refine λ _=>⟨λ _ _=>⟨λ _=>?_,λ _=>⟨⟨0,?_,⟨rfl,?_,U⟩,U⟩,λ k1 _=>have a5X:=de bD zE x.ae k1;have a5Y:=dJ bD zE x.ae k1;have a5Z:=eJ bD x.ae k1;have a8s:=cB zE x.ae k1;λ _ _=>⟨λ _ _=>⟨?_,?_,λ _=>?_,λ _=>⟨?_,k1+1,?_,?_,⟨rfl,?_,U⟩,U⟩⟩,λ _=>?_⟩⟩⟩,λ _=>⟨λ _=>?_,λ _=>⟨⟨0,?_,⟨rfl,?_,U⟩,U⟩,λ k1 _=>have a8o:=de bD zE x.ae k1;have a8p:=dJ bD zE x.ae k1;have a8q:=eJ bD x.ae k1;have a8r:=cB zE x.ae k1;λ _ _=>⟨λ _ _=>⟨?_,?_,λ _=>?_,λ _=>⟨?_,k1+1,?_,?_,⟨rfl,?_,U⟩,U⟩⟩,λ _=>?_⟩⟩⟩⟩;all_goals try and_intros
 all_goals try rw[tm x]
 all_goals first|rfl|trivial|(simp only[a9d,a8Z,aB,ai] at *;omega)|(simp_all [ua];done)|(simp_all [ua,aB,ai];omega)
def Lx :∀ n,bo [fW n]
 | 0=>⟨⟨aD fU,λ _ h=>absurd h (a9K _)⟩,U⟩
 | n+1=>by
  have ih:=Lx  n;exact⟨Ci n ⟨ih.1,kQ,U⟩,U⟩
def nu :aX.Good gD :=
 ⟨aD fU,λ x hp=>(Lx  (bH x+1)).1.2 x (a9o _)⟩
def oh(t a:Int)(x:J):Bool:=decide (cA x.ah=(x.ae.length:Int)) &&
 (if x.ah=3 then decide (0<=x.bl/\x.bl<=t) else if x.ah=4 then decide (0<=x.bl/\x.bl<=a) else decide (x.bl=0)) &&
 (!decide (x.ah=5)||bD (x.ae.getD 0 ⟨0,0,[]⟩))
mutual
def bR(t a:Int):J->Bool
 | ⟨k,n,ks⟩=>oh t a ⟨k,n,ks⟩&&qn t a ks
def qn(t a:Int):List J->Bool
 | []=>true
 | k::ks=>bR t a k&&qn t a ks
end
def QB(t a:Int):∀ xs,qn t a xs=bX (bR t a) xs
 | []=>rfl
 | x::xs=>by rw[qn,bX,QB t a xs]
def jv(t a:Int)(x:J):bR t a x=(oh t a x&&bX (bR t a) x.ae):=by
 cases x;simp[bR,QB]
def aZ(n:Int):Int:=IntKind.wrap .i64 (n - 1)
def AP(n:Int)(h : -9223372036854775807<=n/\n<=9223372036854775807):aZ n=n - 1:=by
 simp[aZ,IntKind.wrap,IntKind.signed,IntKind.bits];omega
def lh(n:Nat):aX:=⟨sj,[.r (.st .expr), .v (.int .i64)],λ (x:J) (left:Int)=>⟨(some (bH x<n/\0<=left/\left<=1048576),[⟨(.int .i64),E8 (ar x) left⟩])⟩⟩
def Bq:aX:=⟨sj,[.r (.st .expr), .v (.int .i64)],λ (x:J) (left:Int)=>⟨(some (0<=left/\left<=1048576),[⟨(.int .i64),E8 (ar x) left⟩])⟩⟩
def M8(x:J)(left:Int):Nat->aJ:=(eA 0 (.b (Nat) (λ k=>k<=x.ae.length) (λ k=>x.ae.length - k) [4,6,7] (λ k=>[(5, .aN ⟨(.int .i64),((k:Int):Int)⟩),(1, .aN ⟨(.int .i64),(E8 (1+cT ar (x.ae.take k)) left:Int)⟩)])) cj)
abbrev wQ(n:Nat)(x:J)(left:Int)(k1:Nat):Prop:=(let v0:=E8 (1+cT ar (x.ae.take k1)) left;let v1:=E8 (ar (x.ae.getD k1 zE)) v0;(x.ae.length<=140737488355328 ->
 (aB (k1:Int) x.ae.length/\((bH (x.ae.getD k1 zE)<n/\0<=v0/\v0<=1048576)/\(ai v1 ->
 (ai ((k1:Int)+(1:Int))/\(∃ k2:Nat,(k2<=x.ae.length/\(x.ae.length - k2<x.ae.length - k1/\((x=x/\(v1=(E8 (1+cT ar (x.ae.take k2)) left)/\(((k1:Int)+(1:Int))=(k2:Int)/\True)))/\True))))))))))
def La(n:Nat)(hE:bo [lh n]):aX.Good (lh (n+1)):=by
 refine⟨aD kB,?_⟩;intro (x:J) (left:Int) (hp:bH x<n+1/\0<=left/\left<=1048576);refine aY [lh n] [] [] [] hE kB F9 (M8 x left) (let v0:=(x.ae.length:Int);((ai (left - (1:Int))/\((∃ k1:Nat,(k1<=x.ae.length/\((x=x/\((left - (1:Int))=(E8 (1+cT ar (x.ae.take k1)) left)/\((0:Int)=(k1:Int)/\True)))/\True)))/\(∀ k1:Nat,let v1:=E8 (1+cT ar (x.ae.take k1)) left;(k1<=x.ae.length->(x.ae.length<=140737488355328->(ai v0->(((decide ((k1:Int)<v0))=true->(((decide ((0:Int)<=v1))=true->(wQ n x left k1))/\((decide ((0:Int)<=v1))=false->v1=(E8 (ar x) left))))/\((decide ((k1:Int)<v0))=(!true)->((false=true->(wQ n x left k1))/\(false=false->v1=(E8 (ar x) left))))))))))))) ?_;have f0:=fK x;have f1:=Em ar x.ae;have f2:=En (1+cT ar (x.ae.take 0)) left;refine⟨?_,⟨0,?_,⟨rfl,?_,?_,U⟩,U⟩,λ k1 _=>have a3C:=nF ar zE x.ae k1;have a3D:=er ar x.ae k1;have a3E:=er ar x.ae (k1+1);have a3F:=vK ar x.ae k1;have a3G:=cB zE x.ae k1;have a5W:=En (1+cT ar (x.ae.take k1)) left;have a8b:=En (1+cT ar (x.ae.take (k1+1))) left;have a8c:=En (ar (x.ae.getD k1 zE)) (E8 (1+cT ar (x.ae.take k1)) left);have a8d:=En (1+cT ar x.ae) left;λ _ _=>⟨λ _=>⟨λ _ _=>⟨?_,?_,λ _=>⟨?_,k1+1,?_,?_,⟨rfl,?_,?_,U⟩,U⟩⟩,λ _=>?_⟩,λ _=>⟨λ _ _=>⟨?_,?_,λ _=>⟨?_,k1+1,?_,?_,⟨rfl,?_,?_,U⟩,U⟩⟩,λ _=>?_⟩⟩⟩;all_goals try and_intros
 all_goals try rw[gR x]
 all_goals first|rfl|trivial|omega|(simp only[a9d,a8Z,aB,ai,ca,fv,dh,bz] at *;omega)|(simp[aB,ai] at *;omega)|grind
def Ly :∀ n,bo [lh n]
 | 0=>⟨⟨aD kB,λ _ _ h=>absurd h.1 (a9K _)⟩,U⟩
 | n+1=>by
  have ih:=Ly  n;exact⟨La n ⟨ih.1,U⟩,U⟩
def GD :aX.Good Bq :=
 ⟨aD kB,λ x left hp=>(Ly  (bH x+1)).1.2 x left (⟨a9o _,hp⟩)⟩
def jO(n:Nat):aX:=⟨pU,[.r (.st .expr)],λ (x:J)=>⟨(some (bH x<n/\bF x<=1048576),[⟨(.int .i64),(bF x:Int)⟩])⟩⟩
def yX:aX:=⟨pU,[.r (.st .expr)],λ (x:J)=>⟨(some (bF x<=1048576),[⟨(.int .i64),(bF x:Int)⟩])⟩⟩
def KU(x:J):Nat->aJ:=(eA 0 (.b (Nat) (λ k=>k<=x.ae.length) (λ k=>x.ae.length - k) [2] (λ k=>[(4, .aN ⟨(.int .i64),((k:Int):Int)⟩),(3, .aN ⟨(.int .i64),((iB bF (x.ae.take k):Int):Int)⟩)])) cj)
def Jn(n:Nat)(hE:bo [jO n,uX]):aX.Good (jO (n+1)):=by
 refine⟨aD jI,?_⟩;intro (x:J) (hp:bH x<n+1/\bF x<=1048576);refine aY [jO n,uX] [] [] [] hE jI EH (KU x) (let v0:=(x.ae.length:Int);(((∃ k1:Nat,(k1<=x.ae.length/\((x=x/\((0:Int)=(iB bF (x.ae.take k1):Int)/\((0:Int)=(k1:Int)/\True)))/\True)))/\(∀ k1:Nat,let v1:=(iB bF (x.ae.take k1):Int);let v3:=x.ae.getD k1 zE;let v2:=(bF v3:Int);(k1<=x.ae.length->(x.ae.length<=140737488355328->(ai v0->(((decide ((k1:Int)<v0))=true->(x.ae.length<=140737488355328->(aB (k1:Int) x.ae.length/\((bH v3<n/\bF v3<=1048576)/\(ai v2->(ai (max v1 v2)->(ai ((k1:Int)+(1:Int))/\(∃ k2:Nat,(k2<=x.ae.length/\(x.ae.length - k2<x.ae.length - k1/\((x=x/\((max v1 v2)=(iB bF (x.ae.take k2):Int)/\(((k1:Int)+(1:Int))=(k2:Int)/\True)))/\True)))))))))))/\((decide ((k1:Int)<v0))=false->(ai (v1+(1:Int))/\(v1+(1:Int))=(bF x:Int))))))))))) ?_;rw[Gq x] at hp;have f0:=fK x;have f1:=PR bF x.ae;refine⟨⟨0,?_,⟨rfl,?_,?_,U⟩,U⟩,λ k1 _=>have a3C:=pR bF zE x.ae k1;have a3D:=gQ bF x.ae k1;have a3E:=gQ bF x.ae (k1+1);have a3F:=yY bF x.ae k1;have a3G:=cB zE x.ae k1;have a5W:=PQ bF zE x.ae k1;λ _ _=>⟨λ _ _=>⟨?_,?_,λ _ _=>⟨?_,k1+1,?_,?_,⟨rfl,?_,?_,U⟩,U⟩⟩,λ _=>⟨?_,?_⟩⟩⟩;all_goals try and_intros
 all_goals try rw[Gq x]
 all_goals first|rfl|trivial|omega|(simp only[a9d,a8Z,aB,ai,ca,fv,dh,bz] at *;omega)|(simp[aB,ai] at *;omega)|grind
def HJ :∀ n,bo [jO n]
 | 0=>⟨⟨aD jI,λ _ h=>absurd h.1 (a9K _)⟩,U⟩
 | n+1=>by
  have ih:=HJ  n;exact⟨Jn n ⟨ih.1,ID,U⟩,U⟩
def ER :aX.Good yX :=
 ⟨aD jI,λ x hp=>(HJ  (bH x+1)).1.2 x (⟨a9o _,hp⟩)⟩
def lq(n:Nat):aX:=⟨so,[.v (.st .sig), .r (.st .expr)],λ (gg:aF) (x:J)=>⟨(some (bH x<n),[⟨.bool,bR (aZ gg.aK) (aZ gg.au) x⟩])⟩⟩
def Br:aX:=⟨so,[.v (.st .sig), .r (.st .expr)],λ (gg:aF) (x:J)=>⟨(none,[⟨.bool,bR (aZ gg.aK) (aZ gg.au) x⟩])⟩⟩
def Nc(gg:aF)(x:J):Nat->aJ:=(eA 1 (.b (Nat) (λ k=>k<=x.ae.length/\bX (bR (aZ gg.aK) (aZ gg.au)) (x.ae.take k)=true) (λ k=>x.ae.length - k) [0,6,7,8,9,10,11,12,13,14,15,16,17,18,19,20,21,22,31,32,41,42,43,44,45,46,47,48,49,50,51,52,53,54,55,56,57,58,59,60,61] (λ k=>[(5, .aN ⟨(.int .i64),((k:Int):Int)⟩)])) cj)
abbrev I0(n:Nat)(gg:aF)(x:J):Prop:=(let v0:=aZ gg.au;let v1:=aZ gg.aK;let v2:=(x.ae.length:Int);((∃ k1:Nat,((k1<=x.ae.length/\bX (bR v1 v0) (x.ae.take k1)=true)/\((x=x/\(gg=gg/\((0:Int)=(k1:Int)/\True)))/\True)))/\(∀ k1:Nat,let v3 := !(bR v1 v0 (x.ae.getD k1 zE));((k1<=x.ae.length/\bX (bR v1 v0) (x.ae.take k1)=true) ->
 (x.ae.length<=140737488355328 ->
 (ai v2 ->
 (((decide ((k1:Int)<v2))=true ->
 (aB (k1:Int) x.ae.length/\(x.ae.length<=140737488355328 ->
 (bH (x.ae.getD k1 zE)<n/\((v3=true ->
 false=(bR v1 v0 x))/\(v3=false ->
 (ai ((k1:Int)+(1:Int))/\(∃ k2:Nat,((k2<=x.ae.length/\bX (bR v1 v0) (x.ae.take k2)=true)/\(x.ae.length - k2<x.ae.length - k1/\((x=x/\(gg=gg/\(((k1:Int)+(1:Int))=(k2:Int)/\True)))/\True)))))))))))/\((decide ((k1:Int)<v2))=false ->
 true=(bR v1 v0 x)))))))))
def Le(n:Nat)(hE:bo [lq n,rT,gP,gD]):aX.Good (lq (n+1)):=by
 refine⟨aD kH,?_⟩;intro (gg:aF) (x:J) (hp:bH x<n+1);refine aY [lq n,rT,gP,gD] [29,39] [] [2] hE kH Gd (Nc gg x) (let v0:=bR (aZ gg.aK) (aZ gg.au) x;let v1 := !(decide (((x.ae.length:Int))=(cA x.ah)));let v2:=I0 n gg x;let v3 := !(decide (x.bl=(0:Int)));((x.ae.length<=140737488355328->(ai ((x.ae.length:Int))->(ai x.ah->(ai (cA x.ah)->((v1=true->false=v0)/\(v1=false->(ai x.ah->(((decide (x.ah=(3:Int)))=true->(ai x.bl->(ai gg.aK->((decide ((0:Int)<=x.bl/\x.bl<=(IntKind.wrap .i64 (gg.aK - (1:Int)))))=v0))))/\((decide (x.ah=(3:Int)))=false->(((decide (x.ah=(4:Int)))=true->(ai x.bl->(ai gg.au->((decide ((0:Int)<=x.bl/\x.bl<=(IntKind.wrap .i64 (gg.au - (1:Int)))))=v0))))/\((decide (x.ah=(4:Int)))=false->(ai x.bl->((v3=false->(ai x.ah->(((decide (x.ah=(5:Int)))=true->(x.ae.length<=140737488355328->(aB (0:Int) x.ae.length/\(((!(bD (x.ae.getD 0 zE)))=true->false=v0)/\((!(bD (x.ae.getD 0 zE)))=false->v2)))))/\((decide (x.ah=(5:Int)))=(!true)->((false=true->false=v0)/\(false=false->v2))))))/\(v3=(!false)->((true=true->false=v0)/\(true=false->v2)))))))))))))))))) ?_;have f0:=fK x;have f1:=all_zero (bR (aZ gg.aK) (aZ gg.au)) x.ae;refine λ _ _ _ _=>⟨λ _=>?_,λ _ _=>⟨λ _ _ _=>?_,λ _=>⟨λ _ _ _=>?_,λ _ _=>⟨λ _ _=>⟨λ _ _=>⟨?_,λ _=>?_,λ _=>⟨⟨0,?_,⟨rfl,rfl,?_,U⟩,U⟩,λ k1 _=>have a7R:=de (bR (aZ gg.aK) (aZ gg.au)) zE x.ae k1;have a7S:=dJ (bR (aZ gg.aK) (aZ gg.au)) zE x.ae k1;have a7T:=eJ (bR (aZ gg.aK) (aZ gg.au)) x.ae k1;have a7U:=cB zE x.ae k1;λ _ _=>⟨λ _=>⟨?_,λ _=>⟨?_,λ _=>?_,λ _=>⟨?_,k1+1,?_,?_,⟨rfl,rfl,?_,U⟩,U⟩⟩⟩,λ _=>?_⟩⟩⟩,λ _=>⟨λ _=>?_,λ _=>⟨⟨0,?_,⟨rfl,rfl,?_,U⟩,U⟩,λ k1 _=>have a7N:=de (bR (aZ gg.aK) (aZ gg.au)) zE x.ae k1;have a7O:=dJ (bR (aZ gg.aK) (aZ gg.au)) zE x.ae k1;have a7P:=eJ (bR (aZ gg.aK) (aZ gg.au)) x.ae k1;have a7Q:=cB zE x.ae k1;λ _ _=>⟨λ _=>⟨?_,λ _=>⟨?_,λ _=>?_,λ _=>⟨?_,k1+1,?_,?_,⟨rfl,rfl,?_,U⟩,U⟩⟩⟩,λ _=>?_⟩⟩⟩⟩,λ _=>⟨λ _=>?_,λ _=>⟨⟨0,?_,⟨rfl,rfl,?_,U⟩,U⟩,λ k1 _=>have Wm:=de (bR (aZ gg.aK) (aZ gg.au)) zE x.ae k1;have Wn:=dJ (bR (aZ gg.aK) (aZ gg.au)) zE x.ae k1;have Wo:=eJ (bR (aZ gg.aK) (aZ gg.au)) x.ae k1;have a0i:=cB zE x.ae k1;λ _ _=>⟨λ _=>⟨?_,λ _=>⟨?_,λ _=>?_,λ _=>⟨?_,k1+1,?_,?_,⟨rfl,rfl,?_,U⟩,U⟩⟩⟩,λ _=>?_⟩⟩⟩⟩⟩⟩⟩;all_goals try and_intros
 all_goals try rw[jv _ _ x]
 all_goals first|rfl|trivial|(simp only[decide_eq_true_eq,decide_eq_false_iff_not,aB,ai] at *;omega)|(simp_all [oh,aZ];done)|(simp_all [oh,aZ,aB,ai];omega)|grind [oh,aZ,cA,aB,ai]
def LC :∀ n,bo [lq n]
 | 0=>⟨⟨aD kH,λ _ _ h=>absurd h (a9K _)⟩,U⟩
 | n+1=>by
  have ih:=LC  n;exact⟨Le n ⟨ih.1,GC,kQ,nu,U⟩,U⟩
def GH :aX.Good Br :=
 ⟨aD kH,λ gg x hp=>(LC  (bH x+1)).1.2 gg x (a9o _)⟩
def cG(gg:aF):Bool:=decide (0<=gg.aK/\gg.aK<=3)&&decide (0<=gg.au/\gg.au<=4)
def Ho(gg:aF)(x:J)(bA depth:Int):Bool:=bR (aZ gg.aK) (aZ gg.au) x&&decide ((ar x:Int)<=bA)&&decide ((bF x:Int)<=depth)
def Nu(gg:aF)(x:J)(bA depth:Int):Int:=bif Ho gg x bA depth then bA - ar x else 0
def pK:aX:=⟨y9,[.v (.st .sig)],λ (gg:aF)=>⟨(none,[⟨.bool,cG gg⟩])⟩⟩
def KN(gg:aF):Nat->aJ:=cj
def sH:aX.Good pK:=by
 refine⟨aD wi,?_⟩;intro (gg:aF) _;refine aY [fP] [] [] [1] ⟨gA,U⟩ wi Ez (KN gg) (let v0:=decide ((0:Int)<=gg.aK/\gg.aK<=(3:Int));((ai gg.aK->(((v0=true)->(ai gg.au->((decide ((0:Int)<=gg.au/\gg.au<=(4:Int)))=(cG gg))))/\((v0=(!true))->false=(cG gg)))))) ?_;refine λ _=>⟨λ _ _=>?_,λ _=>?_⟩;all_goals try and_intros
 all_goals first|rfl|trivial|(simp_all [cG];done)|(simp_all [cG];omega)
def uY:aX:=⟨DC,[.v (.st .sig)],λ (gg:aF)=>⟨(none,[⟨.bool,cG gg⟩])⟩⟩
def Pz(gg:aF):Nat->aJ:=cj
def wB:aX.Good uY:=by
 refine⟨aD Bc,?_⟩;intro (gg:aF) _;refine aY [gP] [] [] [1] ⟨kQ,U⟩ Bc H4 (Pz gg) (let v0:=decide ((0:Int)<=gg.aK/\gg.aK<=(3:Int));((ai gg.aK->(((v0=true)->(ai gg.au->((decide ((0:Int)<=gg.au/\gg.au<=(4:Int)))=(cG gg))))/\((v0=(!true))->false=(cG gg)))))) ?_;refine λ _=>⟨λ _ _=>?_,λ _=>?_⟩;all_goals try and_intros
 all_goals first|rfl|trivial|(simp_all [cG];done)|(simp_all [cG];omega)
def AO(t a:Int)(x:J):Bool:=if x.ah=3 then decide (0<=x.bl/\x.bl<=t) else if x.ah=4 then decide (0<=x.bl/\x.bl<=a) else decide (x.bl=0)
def nv(t a:Int)(x:J):oh t a x=(decide (cA x.ah=(x.ae.length:Int))&&AO t a x&&(!decide (x.ah=5)||bD (x.ae.getD 0 ⟨0,0,[]⟩))):=rfl
def vH(gg:aF)(x:J)(bA depth:Int) :
  (bR (aZ gg.aK) (aZ gg.au) x=true/\(ar x:Int)<=bA/\(bF x:Int)<=depth/\Ho gg x bA depth=true/\Nu gg x bA depth=bA - ar x) \/
  ((bR (aZ gg.aK) (aZ gg.au) x=false\/bA<(ar x:Int)\/depth<(bF x:Int))/\Ho gg x bA depth=false/\Nu gg x bA depth=0):=by
 unfold Nu Ho;cases bR (aZ gg.aK) (aZ gg.au) x
 .right;simp
 .rcases b3p bA (ar x) with h|h
  .right;simp[h,Int.not_le.2 h]
  .rcases b3p depth (bF x) with h'|h'
   .right;simp[h',Int.not_le.2 h']
   .left;simp[h,h']
def mL(n:Nat):aX:=⟨vA,[.v (.st .sig), .v (.st .expr), .v (.int .i64), .v (.int .i64)],λ (gg:aF) (x:J) (bA:Int) (depth:Int)=>⟨(some (bH x<n/\0<=bA/\bA<=1048576/\0<=depth/\depth<=1048576),[⟨(.int .i64),Nu gg x bA depth⟩,⟨.bool,Ho gg x bA depth⟩])⟩⟩
def Df:aX:=⟨vA,[.v (.st .sig), .v (.st .expr), .v (.int .i64), .v (.int .i64)],λ (gg:aF) (x:J) (bA:Int) (depth:Int)=>⟨(some (0<=bA/\bA<=1048576/\0<=depth/\depth<=1048576),[⟨(.int .i64),Nu gg x bA depth⟩,⟨.bool,Ho gg x bA depth⟩])⟩⟩
def Pv(gg:aF)(x:J)(bA:Int)(depth:Int):Nat->aJ:=(eA 100012 (.u (cA x.ah=(x.ae.length:Int)/\1<=bA/\1<=depth/\AO (aZ gg.aK) (aZ gg.au) x=true) [0,1,14,15,16,17,18,19,20,21,22,23,24,25,26,27,28] [] [] [] (eA 100014 (.u (oh (aZ gg.aK) (aZ gg.au) x=true/\1<=bA/\1<=depth) [] [] [] [] (eA 1 (.b (Nat) (λ k=>k<=x.ae.length/\bX (bR (aZ gg.aK) (aZ gg.au)) (x.ae.take k)=true/\1+(cT ar (x.ae.take k):Int)<=bA/\1+(iB bF (x.ae.take k):Int)<=depth) (λ k=>x.ae.length - k) [5,63,64,65] (λ k=>[(68, .aN ⟨(.int .i64),((k:Int):Int)⟩),(2, .aN ⟨(.int .i64),(bA - (1+(cT ar (x.ae.take k):Int)):Int)⟩)])) cj)) cj)) cj)
abbrev KF(gg:aF)(x:J)(bA:Int)(depth:Int):Prop:=(∃ u1:Unit,((cA x.ah=(x.ae.length:Int)/\1<=bA/\1<=depth/\AO (aZ gg.aK) (aZ gg.au) x=true)/\((bA=bA/\(depth=depth/\(gg=gg/\(x=x/\True))))/\True)))
abbrev KG(gg:aF)(x:J)(bA:Int)(depth:Int):Prop:=(∃ u2:Unit,((oh (aZ gg.aK) (aZ gg.au) x=true/\1<=bA/\1<=depth)/\((bA=bA/\(depth=depth/\(gg=gg/\(x=x/\True))))/\True)))
abbrev yR(n:Nat)(gg:aF)(x:J)(bA:Int)(depth:Int):Prop:=(let v1:=(x.ae.length:Int);let v6:=KF gg x bA depth;let v7:=(0:Int);let v0:=v7=(Nu gg x bA depth)/\false=(Ho gg x bA depth);let v8:=(1:Int);let v2:=depth - v8;let v3 := !(decide (v7<=x.bl/\x.bl<=(IntKind.wrap .i64 (gg.au - v8))));let v4 := !(decide (v7<=x.bl/\x.bl<=(IntKind.wrap .i64 (gg.aK - v8))));let v9:=aZ gg.au;let va:=KG gg x bA depth;let vb:=aZ gg.aK;let v5:=bR vb v9;((ai x.ah ->
 (((decide (x.ah=(3:Int)))=true ->
 (ai x.bl ->
 (ai gg.aK ->
 (((v4=true) ->
 v0)/\((v4=false) ->
 v6)))))/\((decide (x.ah=(3:Int)))=false ->
 (((decide (x.ah=(4:Int)))=true ->
 (ai x.bl ->
 (ai gg.au ->
 (((v3=true) ->
 v0)/\((v3=false) ->
 v6)))))/\((decide (x.ah=(4:Int)))=false ->
 (ai x.bl ->
 (((!(decide (x.bl=v7)))=true ->
 v0)/\((!(decide (x.bl=v7)))=false ->
 v6))))))))/\(∀ u1:Unit,((cA x.ah=v1/\1<=bA/\1<=depth/\AO vb v9 x=true) ->
 ((ai x.ah ->
 (((decide (x.ah=(5:Int)))=true ->
 (x.ae.length<=140737488355328 ->
 (aB v7 x.ae.length/\(((!(bD (x.ae.getD 0 zE)))=true ->
 v0)/\((!(bD (x.ae.getD 0 zE)))=false ->
 va)))))/\((decide (x.ah=(5:Int)))=(!true) ->
 ((false=true ->
 v0)/\(false=false ->
 va)))))/\(∀ u2:Unit,((oh vb v9 x=true/\1<=bA/\1<=depth) ->
 (ai (bA - v8)/\(x.ae.length<=140737488355328 ->
 (ai (v1) ->
 ((∃ k3:Nat,let vc:=x.ae.take k3;((k3<=x.ae.length/\bX v5 vc=true/\1+(cT ar vc:Int)<=bA/\1+(iB bF vc:Int)<=depth)/\(((bA - v8)=(bA - (1+(cT ar vc:Int)))/\(depth=depth/\(gg=gg/\(x.ae=x.ae/\((v1)=(v1)/\(v7=(k3:Int)/\True))))))/\True)))/\(∀ k3:Nat,let vd:=aU (x.ae.getD k3 zE);let ve:=x.ae.take k3;let vc:=bA - (1+(cT ar ve:Int));((k3<=x.ae.length/\bX v5 ve=true/\1+(cT ar ve:Int)<=bA/\1+(iB bF ve:Int)<=depth) ->
 (((decide ((k3:Int)<(v1)))=true ->
 (aB (k3:Int) x.ae.length/\(ai v2/\((bH vd<n/\0<=vc/\vc<=1048576/\0<=v2/\v2<=1048576)/\(ai (Nu gg vd vc v2) ->
 (((!(Ho gg vd vc v2))=true ->
 v0)/\((!(Ho gg vd vc v2))=false ->
 (ai ((k3:Int)+v8)/\(∃ k4:Nat,let vf:=x.ae.take k4;((k4<=x.ae.length/\bX v5 vf=true/\1+(cT ar vf:Int)<=bA/\1+(iB bF vf:Int)<=depth)/\(x.ae.length - k4<x.ae.length - k3/\(((Nu gg vd vc v2)=(bA - (1+(cT ar vf:Int)))/\(depth=depth/\(gg=gg/\(x.ae=x.ae/\((v1)=(v1)/\(((k3:Int)+v8)=(k4:Int)/\True))))))/\True))))))))))))/\((decide ((k3:Int)<(v1)))=false ->
 (vc=(Nu gg x bA depth)/\true=(Ho gg x bA depth)))))))))))))))))
abbrev KH(n:Nat)(gg:aF)(x:J)(bA:Int)(depth:Int):Prop:=(let v0 := !(decide ((cA x.ah)=((x.ae.length:Int))));(ai x.ah ->
 (ai (cA x.ah) ->
 (x.ae.length<=140737488355328 ->
 (ai ((x.ae.length:Int)) ->
 ((v0=true ->
 ((0:Int)=(Nu gg x bA depth)/\false=(Ho gg x bA depth)))/\(v0=false ->
 (yR n gg x bA depth))))))))
abbrev KI(n:Nat)(gg:aF)(x:J)(bA:Int)(depth:Int):Prop:=((true=true ->
 ((0:Int)=(Nu gg x bA depth)/\false=(Ho gg x bA depth)))/\(true=false ->
 (yR n gg x bA depth)))
def Ns(n:Nat)(hE:bo [mL n,uV,fP,gZ]):aX.Good (mL (n+1)):=by
 refine⟨aD mE,?_⟩;intro (gg:aF) (x:J) (bA:Int) (depth:Int) (hp:bH x<n+1/\0<=bA/\bA<=1048576/\0<=depth/\depth<=1048576);refine aY [mL n,uV,fP,gZ] [40,49] [] [4,5] hE mE HX (Pv gg x bA depth) (let v0:=KH n gg x bA depth;let v1:=KI n gg x bA depth;((((decide (bA=(0:Int)))=false->(((decide (depth=(0:Int)))=false->v0)/\((decide (depth=(0:Int)))=(!false)->v1)))/\((decide (bA=(0:Int)))=(!false)->((true=false->v0)/\(true=(!false)->v1)))))) ?_;have fs:=vH gg x bA depth;rw[jv _ _ x,gR x,Gq x] at fs;have f0:=fK x;have f1:=Em ar x.ae;have f2:=PR bF x.ae;have f3:=all_zero (bR (aZ gg.aK) (aZ gg.au)) x.ae;refine⟨λ _=>⟨λ _ _ _ _ _=>⟨λ _=>⟨?_,?_⟩,λ _=>⟨λ _=>⟨λ _ _ _=>⟨λ _=>⟨?_,?_⟩,λ _=>⟨(),?_,⟨rfl,rfl,rfl,rfl,U⟩,U⟩⟩,λ _=>⟨λ _ _ _=>⟨λ _=>⟨?_,?_⟩,λ _=>⟨(),?_,⟨rfl,rfl,rfl,rfl,U⟩,U⟩⟩,λ _ _=>⟨λ _=>⟨?_,?_⟩,λ _=>⟨(),?_,⟨rfl,rfl,rfl,rfl,U⟩,U⟩⟩⟩⟩,λ u1 _=>⟨λ _=>⟨λ _ _=>⟨?_,λ _=>⟨?_,?_⟩,λ _=>⟨(),?_,⟨rfl,rfl,rfl,rfl,U⟩,U⟩⟩,λ _=>⟨λ _=>⟨?_,?_⟩,λ _=>⟨(),?_,⟨rfl,rfl,rfl,rfl,U⟩,U⟩⟩⟩,λ u2 _=>⟨?_,λ _ _=>⟨⟨0,?_,⟨?_,rfl,rfl,rfl,rfl,?_,U⟩,U⟩,λ k3 _=>have Wm:=de (bR (aZ gg.aK) (aZ gg.au)) zE x.ae k3;have Wn:=dJ (bR (aZ gg.aK) (aZ gg.au)) zE x.ae k3;have Wo:=eJ (bR (aZ gg.aK) (aZ gg.au)) x.ae k3;have a0i:=cB zE x.ae k3;have a4Q:=nF ar zE x.ae k3;have a4R:=er ar x.ae (k3+1);have a4S:=vK ar x.ae k3;have a4T:=pR bF zE x.ae k3;have a4U:=gQ bF x.ae (k3+1);have a4V:=yY bF x.ae k3;have a2H:=vH gg (x.ae.getD k3 zE) (bA - (1+(cT ar (x.ae.take k3):Int))) (depth - 1);⟨λ _=>⟨?_,?_,?_,λ _=>⟨λ _=>⟨?_,?_⟩,λ _=>⟨?_,k3+1,?_,?_,⟨?_,rfl,rfl,rfl,rfl,?_,U⟩,U⟩⟩⟩,λ _=>⟨?_,?_⟩⟩⟩⟩⟩⟩⟩,λ _=>⟨λ _=>⟨?_,?_⟩,λ _=>⟨λ _=>⟨λ _ _ _=>⟨λ _=>⟨?_,?_⟩,λ _=>⟨(),?_,⟨rfl,rfl,rfl,rfl,U⟩,U⟩⟩,λ _=>⟨λ _ _ _=>⟨λ _=>⟨?_,?_⟩,λ _=>⟨(),?_,⟨rfl,rfl,rfl,rfl,U⟩,U⟩⟩,λ _ _=>⟨λ _=>⟨?_,?_⟩,λ _=>⟨(),?_,⟨rfl,rfl,rfl,rfl,U⟩,U⟩⟩⟩⟩,λ u1 _=>⟨λ _=>⟨λ _ _=>⟨?_,λ _=>⟨?_,?_⟩,λ _=>⟨(),?_,⟨rfl,rfl,rfl,rfl,U⟩,U⟩⟩,λ _=>⟨λ _=>⟨?_,?_⟩,λ _=>⟨(),?_,⟨rfl,rfl,rfl,rfl,U⟩,U⟩⟩⟩,λ u2 _=>⟨?_,λ _ _=>⟨⟨0,?_,⟨?_,rfl,rfl,rfl,rfl,?_,U⟩,U⟩,λ k3 _=>have a0j:=de (bR (aZ gg.aK) (aZ gg.au)) zE x.ae k3;have a0k:=dJ (bR (aZ gg.aK) (aZ gg.au)) zE x.ae k3;have a0l:=eJ (bR (aZ gg.aK) (aZ gg.au)) x.ae k3;have a3H:=cB zE x.ae k3;have a6d:=nF ar zE x.ae k3;have a6e:=er ar x.ae (k3+1);have a6f:=vK ar x.ae k3;have a6g:=pR bF zE x.ae k3;have a6h:=gQ bF x.ae (k3+1);have a6i:=yY bF x.ae k3;have a4W:=vH gg (x.ae.getD k3 zE) (bA - (1+(cT ar (x.ae.take k3):Int))) (depth - 1);⟨λ _=>⟨?_,?_,?_,λ _=>⟨λ _=>⟨?_,?_⟩,λ _=>⟨?_,k3+1,?_,?_,⟨?_,rfl,rfl,rfl,rfl,?_,U⟩,U⟩⟩⟩,λ _=>⟨?_,?_⟩⟩⟩⟩⟩⟩⟩⟩,λ _=>⟨λ _ _ _ _ _=>⟨λ _=>⟨?_,?_⟩,λ _=>⟨λ _=>⟨λ _ _ _=>⟨λ _=>⟨?_,?_⟩,λ _=>⟨(),?_,⟨rfl,rfl,rfl,rfl,U⟩,U⟩⟩,λ _=>⟨λ _ _ _=>⟨λ _=>⟨?_,?_⟩,λ _=>⟨(),?_,⟨rfl,rfl,rfl,rfl,U⟩,U⟩⟩,λ _ _=>⟨λ _=>⟨?_,?_⟩,λ _=>⟨(),?_,⟨rfl,rfl,rfl,rfl,U⟩,U⟩⟩⟩⟩,λ u1 _=>⟨λ _=>⟨λ _ _=>⟨?_,λ _=>⟨?_,?_⟩,λ _=>⟨(),?_,⟨rfl,rfl,rfl,rfl,U⟩,U⟩⟩,λ _=>⟨λ _=>⟨?_,?_⟩,λ _=>⟨(),?_,⟨rfl,rfl,rfl,rfl,U⟩,U⟩⟩⟩,λ u2 _=>⟨?_,λ _ _=>⟨⟨0,?_,⟨?_,rfl,rfl,rfl,rfl,?_,U⟩,U⟩,λ k3 _=>have Wm:=de (bR (aZ gg.aK) (aZ gg.au)) zE x.ae k3;have Wn:=dJ (bR (aZ gg.aK) (aZ gg.au)) zE x.ae k3;have Wo:=eJ (bR (aZ gg.aK) (aZ gg.au)) x.ae k3;have a0i:=cB zE x.ae k3;have a4Q:=nF ar zE x.ae k3;have a4R:=er ar x.ae (k3+1);have a4S:=vK ar x.ae k3;have a4T:=pR bF zE x.ae k3;have a4U:=gQ bF x.ae (k3+1);have a4V:=yY bF x.ae k3;have a2H:=vH gg (x.ae.getD k3 zE) (bA - (1+(cT ar (x.ae.take k3):Int))) (depth - 1);⟨λ _=>⟨?_,?_,?_,λ _=>⟨λ _=>⟨?_,?_⟩,λ _=>⟨?_,k3+1,?_,?_,⟨?_,rfl,rfl,rfl,rfl,?_,U⟩,U⟩⟩⟩,λ _=>⟨?_,?_⟩⟩⟩⟩⟩⟩⟩,λ _=>⟨λ _=>⟨?_,?_⟩,λ _=>⟨λ _=>⟨λ _ _ _=>⟨λ _=>⟨?_,?_⟩,λ _=>⟨(),?_,⟨rfl,rfl,rfl,rfl,U⟩,U⟩⟩,λ _=>⟨λ _ _ _=>⟨λ _=>⟨?_,?_⟩,λ _=>⟨(),?_,⟨rfl,rfl,rfl,rfl,U⟩,U⟩⟩,λ _ _=>⟨λ _=>⟨?_,?_⟩,λ _=>⟨(),?_,⟨rfl,rfl,rfl,rfl,U⟩,U⟩⟩⟩⟩,λ u1 _=>⟨λ _=>⟨λ _ _=>⟨?_,λ _=>⟨?_,?_⟩,λ _=>⟨(),?_,⟨rfl,rfl,rfl,rfl,U⟩,U⟩⟩,λ _=>⟨λ _=>⟨?_,?_⟩,λ _=>⟨(),?_,⟨rfl,rfl,rfl,rfl,U⟩,U⟩⟩⟩,λ u2 _=>⟨?_,λ _ _=>⟨⟨0,?_,⟨?_,rfl,rfl,rfl,rfl,?_,U⟩,U⟩,λ k3 _=>have a0j:=de (bR (aZ gg.aK) (aZ gg.au)) zE x.ae k3;have a0k:=dJ (bR (aZ gg.aK) (aZ gg.au)) zE x.ae k3;have a0l:=eJ (bR (aZ gg.aK) (aZ gg.au)) x.ae k3;have a3H:=cB zE x.ae k3;have a6d:=nF ar zE x.ae k3;have a6e:=er ar x.ae (k3+1);have a6f:=vK ar x.ae k3;have a6g:=pR bF zE x.ae k3;have a6h:=gQ bF x.ae (k3+1);have a6i:=yY bF x.ae k3;have a4W:=vH gg (x.ae.getD k3 zE) (bA - (1+(cT ar (x.ae.take k3):Int))) (depth - 1);⟨λ _=>⟨?_,?_,?_,λ _=>⟨λ _=>⟨?_,?_⟩,λ _=>⟨?_,k3+1,?_,?_,⟨?_,rfl,rfl,rfl,rfl,?_,U⟩,U⟩⟩⟩,λ _=>⟨?_,?_⟩⟩⟩⟩⟩⟩⟩⟩⟩;all_goals try and_intros
 all_goals try (first|with_reducible rfl|with_reducible assumption)
 all_goals try simp only[J.eta,cC] at *
 all_goals ((try simp only[aZ] at *);generalize IntKind.wrap .i64 (gg.aK - 1)=T at *;generalize IntKind.wrap .i64 (gg.au - 1)=A at *;first|rfl|trivial|(simp only[decide_eq_true_eq,decide_eq_false_iff_not,aB,ai] at *;omega)|(rcases fs with ⟨t1,t2,t3,t4,t5⟩|⟨t1,t4,t5⟩<;>(try rw[t4])<;>(try rw[t5])<;>clear t4 t5<;>simp only[decide_eq_true_eq,decide_eq_false_iff_not,nv,AO,Bool.and_eq_true,Bool.and_eq_false_iff,Bool.not_eq_true',Bool.not_eq_false',ai] at *<;>first|rfl|omega|grind|grind [cA]))
def Fb :∀ n,bo [mL n]
 | 0=>⟨⟨aD mE,λ _ _ _ _ h=>absurd h.1 (a9K _)⟩,U⟩
 | n+1=>by
  have ih:=Fb  n;exact⟨Ns n ⟨ih.1,Iy,gA,od,U⟩,U⟩
def Iz :aX.Good Df :=
 ⟨aD mE,λ gg x bA depth hp=>(Fb  (bH x+1)).1.2 gg x bA depth (⟨a9o _,hp⟩)⟩
def SE(a n:Int):Bool:=decide (((Int.toNat (Int.fdiv a (2 ^ n.toNat)) &&& Int.toNat 1:Nat):Int)=1)
def Ri(k n a:Int)(p q:Bool):Bool:=if k=2 then true else if k=3 then SE a n else if k=5 then !p else if k=6 then p||q else if k=7 then p&&q else false
mutual
def fZ(a:Int):J->Bool
 | ⟨k,n,ks⟩=>Ri k n a ((DX a ks).getD 0 false) ((DX a ks).getD 1 false)
def DX(a:Int):List J->List Bool
 | []=>[]
 | k::ks=>fZ a k::DX a ks
end
def nG(a:Int)(z:J):∀ (xs:List J) (i:Nat),i<xs.length->(DX a xs).getD i false=fZ a (xs.getD i z)
 | [],i,h=>by simp at h
 | x::xs,0,h=>by simp[DX]
 | x::xs,i+1,h=>by
  have:=nG a z xs i (by simpa using h);simpa [DX] using this
def QC(a:Int)(x:J):fZ a x=Ri x.ah x.bl a ((DX a x.ae).getD 0 false) ((DX a x.ae).getD 1 false):=by
 cases x;rfl
def im(x:J):Bool:=bR 62 62 x&&bD x
def uB(x:J)(i:Nat):Prop:=im (x.ae.getD i ⟨0,0,[]⟩)=true/\bH (x.ae.getD i ⟨0,0,[]⟩)<bH x
def WK(x:J)(h:im x=true)(i:Nat)(hi:i<x.ae.length):uB x i:=by
 unfold uB;simp only[im,Bool.and_eq_true] at h ⊢;rw[jv,tm] at h;simp only[Bool.and_eq_true] at h;refine⟨⟨D1 _ _ _ _ hi h.1.2,D1 _ _ _ _ hi h.2.2⟩,?_⟩;have:=cB (⟨0,0,[]⟩:J) x.ae i hi;have:=fK x;omega
def Ag(x:J)(h:im x=true):(x.ah=3->0<=x.bl/\x.bl<=62) /\
  (x.ah=5->x.ae.length=1/\uB x 0)/\((x.ah=6\/x.ah=7)->x.ae.length=2/\uB x 0/\uB x 1) /\
  (x.ah=1\/x.ah=2\/x.ah=3\/x.ah=5\/x.ah=6\/x.ah=7):=by
 have hk:=WK x h;simp only[im,a9e] at h;rw[jv,tm,nv] at h;simp only[a9e,a9d] at h;obtain⟨⟨⟨⟨h1,h2⟩,_⟩,_⟩,h5,_⟩:=h;simp only[ua,b0B,a9d] at h5;refine⟨λ e=>?_,λ e=>?_,λ e=>?_,by omega⟩
 .simpa [AO,e] using h2
 .rw[e] at h1;have td:x.ae.length=1:=by simp[cA] at h1;omega
  exact⟨td,hk 0 (by omega)⟩
 .have td:x.ae.length=2:=by
   rcases e with e|e<;>rw[e] at h1<;>simp[cA] at h1<;>omega
  exact⟨td,hk 0 (by omega),hk 1 (by omega)⟩
def Mu(a:Int)(x:J)(h:im x=true):(x.ah=1->fZ a x=false)/\(x.ah=2->fZ a x=true)/\(x.ah=3->fZ a x=SE a x.bl) /\
  (x.ah=5->fZ a x = !fZ a (x.ae.getD 0 ⟨0,0,[]⟩))/\(x.ah=6->fZ a x=(fZ a (x.ae.getD 0 ⟨0,0,[]⟩)||fZ a (x.ae.getD 1 ⟨0,0,[]⟩))) /\
  (x.ah=7->fZ a x=(fZ a (x.ae.getD 0 ⟨0,0,[]⟩)&&fZ a (x.ae.getD 1 ⟨0,0,[]⟩))):=by
 have hf:=Ag x h;rw[QC];refine⟨λ e=>?_,λ e=>?_,λ e=>?_,λ e=>?_,λ e=>?_,λ e=>?_⟩
 .simp[Ri,e]
 .simp[Ri,e]
 .simp[Ri,e]
 .have:=(hf.2.1 e).1;simp only[Ri,e];rw[nG a ⟨0,0,[]⟩ x.ae 0 (by omega)];rfl
 .have:=(hf.2.2.1 (.inl e)).1;simp only[Ri,e];rw[nG a ⟨0,0,[]⟩ x.ae 0 (by omega),nG a ⟨0,0,[]⟩ x.ae 1 (by omega)];rfl
 .have:=(hf.2.2.1 (.inr e)).1;simp only[Ri,e];rw[nG a ⟨0,0,[]⟩ x.ae 0 (by omega),nG a ⟨0,0,[]⟩ x.ae 1 (by omega)];rfl
def Il(a n:Int)(h:0<=a/\a<=4096):0<=Int.fdiv a (2 ^ n.toNat)/\Int.fdiv a (2 ^ n.toNat)<=4096:=by
 have e:(2:Int) ^ n.toNat=((2 ^ n.toNat:Nat):Int):=by norm_cast
 have hp:0<2 ^ n.toNat:=Nat.pow_pos (by omega);rw[e,b2p _ (by omega)];refine⟨Int.ediv_nonneg h.1 (by omega),?_⟩;have:=Int.ediv_le_self (2 ^ n.toNat:Nat) h.1;omega
def wF(n:Int):ca .u64 n=(0<=n/\n<=18446744073709551615):=rfl
theorem zB:IntKind.u64.min=0:=rfl
theorem zA:IntKind.u64.max=18446744073709551615:=rfl
def wE(n:Int):ca .i64 n=ai n:=rfl
def ov(n:Nat):aX:=⟨x6,[.v (.st .expr), .v (.int .i64)],λ (x:J) (atom:Int)=>⟨(some (bH x<n/\im x=true/\0<=atom/\atom<=4096),[⟨.bool,fZ atom x⟩])⟩⟩
def xV:aX:=⟨x6,[.v (.st .expr), .v (.int .i64)],λ (x:J) (atom:Int)=>⟨(some (im x=true/\0<=atom/\atom<=4096),[⟨.bool,fZ atom x⟩])⟩⟩
def Q4(x:J)(atom:Int):Nat->aJ:=cj
abbrev Bj(n:Nat)(x:J)(atom:Int):Prop:=(let v0:=x.ae.getD 1 zE;(x.ae.length<=140737488355328 ->
 (aB (1:Int) x.ae.length/\((bH v0<n/\im v0=true/\0<=atom/\atom<=4096)/\(fZ atom v0)=(fZ atom x)))))
def P3(n:Nat)(hE:bo [ov n]):aX.Good (ov (n+1)):=by
 refine⟨aD nO,?_⟩;intro (x:J) (atom:Int) (hp:bH x<n+1/\im x=true/\0<=atom/\atom<=4096);refine aY [ov n] [] [] [2] hE nO J5 (Q4 x atom) (let v2:=atom.fdiv (2 ^ x.bl.toNat);let v3:=fZ atom x;let v4:=x.ae.getD 0 zE;let v0:=bH v4<n/\im v4=true/\0<=atom/\atom<=4096;let v1:=fZ atom v4;let v5:=(0:Int);((ai x.ah->(((decide (x.ah=(2:Int)))=true->true=v3)/\((decide (x.ah=(2:Int)))=false->(((decide (x.ah=(3:Int)))=true->(ai x.bl->((v5<=x.bl/\(x.bl<(64:Int)/\ai v2))/\((v5<=v2/\(v5<=(1:Int)/\(ai v2/\ai (1:Int))))/\(decide ((((v2.toNat &&& (1:Int).toNat:Nat):Int))=(1:Int)))=v3))))/\((decide (x.ah=(3:Int)))=false->(((decide (x.ah=(5:Int)))=true->(x.ae.length<=140737488355328->(aB v5 x.ae.length/\(v0/\(!v1)=v3))))/\((decide (x.ah=(5:Int)))=false->(((decide (x.ah=(6:Int)))=true->(x.ae.length<=140737488355328->(aB v5 x.ae.length/\(v0/\((v1=false->(Bj n x atom))/\(v1=(!false)->true=v3))))))/\((decide (x.ah=(6:Int)))=false->(((decide (x.ah=(7:Int)))=true->(x.ae.length<=140737488355328->(aB v5 x.ae.length/\(v0/\((v1=true->(Bj n x atom))/\(v1=(!true)->false=v3))))))/\((decide (x.ah=(7:Int)))=false->false=v3))))))))))))) ?_;have f1:=Ag x hp.2.1;have f2:=Mu atom x hp.2.1;have f3:=Il atom x.bl ⟨hp.2.2.1,hp.2.2.2⟩;refine λ _=>⟨λ _=>?_,λ _=>⟨λ _ _=>⟨⟨?_,?_,?_⟩,⟨?_,?_,?_,?_⟩,?_⟩,λ _=>⟨λ _ _=>⟨?_,?_,?_⟩,λ _=>⟨λ _ _=>⟨?_,?_,λ _ _=>⟨?_,?_,?_⟩,λ _=>?_⟩,λ _=>⟨λ _ _=>⟨?_,?_,λ _ _=>⟨?_,?_,?_⟩,λ _=>?_⟩,λ _=>?_⟩⟩⟩⟩⟩;all_goals try and_intros
 all_goals first|rfl|trivial|omega|(simp only[decide_eq_true_eq,decide_eq_false_iff_not,aB,ai,wF,wE,zB,zA] at *;omega)|(simp only[uB] at *;grind [aB,ai,SE,zB,zA])
def HK :∀ n,bo [ov n]
 | 0=>⟨⟨aD nO,λ _ _ h=>absurd h.1 (a9K _)⟩,U⟩
 | n+1=>by
  have ih:=HK  n;exact⟨P3 n ⟨ih.1,U⟩,U⟩
def Kp :aX.Good xV :=
 ⟨aD nO,λ x atom hp=>(HK  (bH x+1)).1.2 x atom (⟨a9o _,hp⟩)⟩
def lu(n:Nat):aX:=⟨sq,[.r (.st .expr), .v (.int .i64)],λ (x:J) (atom:Int)=>⟨(some (bH x<n/\im x=true/\0<=atom/\atom<=4096),[⟨.bool,fZ atom x⟩])⟩⟩
def rW:aX:=⟨sq,[.r (.st .expr), .v (.int .i64)],λ (x:J) (atom:Int)=>⟨(some (im x=true/\0<=atom/\atom<=4096),[⟨.bool,fZ atom x⟩])⟩⟩
def Nd(x:J)(atom:Int):Nat->aJ:=cj
abbrev wS(n:Nat)(x:J)(atom:Int):Prop:=(let v0:=x.ae.getD 1 zE;(x.ae.length<=140737488355328 ->
 (aB (1:Int) x.ae.length/\((bH v0<n/\im v0=true/\0<=atom/\atom<=4096)/\(fZ atom v0)=(fZ atom x)))))
def Lf(n:Nat)(hE:bo [lu n]):aX.Good (lu (n+1)):=by
 refine⟨aD kI,?_⟩;intro (x:J) (atom:Int) (hp:bH x<n+1/\im x=true/\0<=atom/\atom<=4096);refine aY [lu n] [] [] [] hE kI Ge (Nd x atom) (let v2:=atom.fdiv (2 ^ x.bl.toNat);let v3:=fZ atom x;let v4:=x.ae.getD 0 zE;let v0:=bH v4<n/\im v4=true/\0<=atom/\atom<=4096;let v1:=fZ atom v4;let v5:=(1:Int);let v6:=(0:Int);((ai x.ah->(((decide (x.ah=v5))=true->false=v3)/\((decide (x.ah=v5))=false->(((decide (x.ah=(2:Int)))=true->true=v3)/\((decide (x.ah=(2:Int)))=false->(((decide (x.ah=(3:Int)))=true->(ai x.bl->(ca .u64 x.bl/\((v6<=x.bl/\(x.bl<(64:Int)/\ai v2))/\((v6<=v2/\(v6<=v5/\(ai v2/\ai v5)))/\(decide ((((v2.toNat &&& v5.toNat:Nat):Int))=v5))=v3)))))/\((decide (x.ah=(3:Int)))=false->(((decide (x.ah=(5:Int)))=true->(x.ae.length<=140737488355328->(aB v6 x.ae.length/\(v0/\(!v1)=v3))))/\((decide (x.ah=(5:Int)))=false->(((decide (x.ah=(6:Int)))=true->(x.ae.length<=140737488355328->(aB v6 x.ae.length/\(v0/\((v1=false->(wS n x atom))/\(v1=(!false)->true=v3))))))/\((decide (x.ah=(6:Int)))=false->(x.ae.length<=140737488355328->(aB v6 x.ae.length/\(v0/\((v1=true->(wS n x atom))/\(v1=(!true)->false=v3)))))))))))))))))) ?_;have f1:=Ag x hp.2.1;have f2:=Mu atom x hp.2.1;have f3:=Il atom x.bl ⟨hp.2.2.1,hp.2.2.2⟩;refine λ _=>⟨λ _=>?_,λ _=>⟨λ _=>?_,λ _=>⟨λ _ _=>⟨?_,⟨?_,?_,?_⟩,⟨?_,?_,?_,?_⟩,?_⟩,λ _=>⟨λ _ _=>⟨?_,?_,?_⟩,λ _=>⟨λ _ _=>⟨?_,?_,λ _ _=>⟨?_,?_,?_⟩,λ _=>?_⟩,λ _ _=>⟨?_,?_,λ _ _=>⟨?_,?_,?_⟩,λ _=>?_⟩⟩⟩⟩⟩⟩;all_goals try and_intros
 all_goals first|rfl|trivial|omega|(simp only[decide_eq_true_eq,decide_eq_false_iff_not,aB,ai,wF,wE,zB,zA] at *;omega)|(simp only[uB] at *;grind [aB,ai,SE,zB,zA])
def HL :∀ n,bo [lu n]
 | 0=>⟨⟨aD kI,λ _ _ h=>absurd h.1 (a9K _)⟩,U⟩
 | n+1=>by
  have ih:=HL  n;exact⟨Lf n ⟨ih.1,U⟩,U⟩
def GI :aX.Good rW :=
 ⟨aD kI,λ x atom hp=>(HL  (bH x+1)).1.2 x atom (⟨a9o _,hp⟩)⟩
def aV(gg:aF):Int:=1 * 2 ^ gg.aK.toNat
def cK(gg:aF)(h:0<=gg.aK/\gg.aK<=3):1<=aV gg/\aV gg<=8:=by
 have:gg.aK=0\/gg.aK=1\/gg.aK=2\/gg.aK=3:=by omega
 unfold aV;rcases this with e|e|e|e<;>rw[e]<;>decide
def dA(gg:aF):cG gg=true↔(0<=gg.aK/\gg.aK<=3)/\(0<=gg.au/\gg.au<=4):=by
 simp[cG]
def isE(gg:aF)(x:J):Bool:=Ho gg x 200 40
def okE(gg:aF)(x:J):Bool:=cG gg&&isE gg x
def Ve(gg:aF)(x:J):isE gg x=true↔bR (aZ gg.aK) (aZ gg.au) x=true/\ar x<=200/\bF x<=40:=by
 simp only[isE,Ho,a9e,a9d];constructor
 .rintro⟨⟨a,b⟩,c⟩;exact⟨a,by omega,by omega⟩
 .rintro⟨a,b,c⟩;exact⟨⟨a,by omega⟩,by omega⟩
def UW(t a t' a':Int)(h1:t<=t')(h2:a<=a')(x:J)(h:oh t a x=true):oh t' a' x=true:=by
 rw[nv] at h ⊢;simp only[Bool.and_eq_true] at h ⊢;refine⟨⟨h.1.1,?_⟩,h.2⟩;have:=h.1.2;unfold AO at this ⊢;split
 .rename_i e;rw[a9l e] at this;simp only[a9d] at this ⊢;omega
 .rename_i e;rw[a9c e] at this;split
  .rename_i e';rw[a9l e'] at this;simp only[a9d] at this ⊢;omega
  .rename_i e';rw[a9c e'] at this;exact this
mutual
def DW(t a t' a':Int)(h1:t<=t')(h2:a<=a'):∀ x:J,bR t a x=true->bR t' a' x=true
 | ⟨k,n,ks⟩=>λ h=>by
  simp only[bR,a9e] at h ⊢;exact⟨UW t a t' a' h1 h2 _ h.1,JQ t a t' a' h1 h2 ks h.2⟩
def JQ(t a t' a':Int)(h1:t<=t')(h2:a<=a'):∀ xs:List J,qn t a xs=true->qn t' a' xs=true
 | []=>λ _=>rfl
 | x::xs=>λ h=>by
  simp only[qn,a9e] at h ⊢;exact⟨DW t a t' a' h1 h2 x h.1,JQ t a t' a' h1 h2 xs h.2⟩
end
def wa(p:Nat->Bool):Nat->Bool
 | 0=>true
 | n+1=>wa p n&&p n
def Rp(p:Nat->Bool):∀ (n k:Nat),k<n->p k=false->wa p n=false
 | n+1,k,h,e=>by
  rcases a9O k n with h'|h'
  .simp[wa,Rp p n k h' e]
  .have:k=n:=by omega
   subst this;simp[wa,e]
def N4(p:Nat->Bool)(n:Nat):wa p (n+1)=(wa p n&&p n):=rfl
def jj:aX:=⟨Bx,[.v (.st .sig)],λ (gg:aF)=>⟨(some (0<=gg.aK/\gg.aK<=3),[⟨(.int .i64),aV gg⟩])⟩⟩
def MZ(gg:aF):Nat->aJ:=cj
def iT:aX.Good jj:=by
 refine⟨aD yj,?_⟩;intro (gg:aF) (hp:0<=gg.aK/\gg.aK<=3);refine aY [] [] [] [1] trivial yj F1 (MZ gg) (let v0:=(1:Int) * 2 ^ gg.aK.toNat;((ai gg.aK->(((0:Int)<=gg.aK/\(gg.aK<(64:Int)/\ai v0))/\v0=(aV gg))))) ?_;have f1:=cK gg hp;refine λ _=>⟨⟨?_,?_,?_⟩,?_⟩;all_goals try and_intros
 all_goals first|rfl|trivial|(simp only[a9d,a8Z,aB,ai,wF,wE,zB,zA,aV] at *;omega)
def pN:aX:=⟨zh,[.v (.st .sig)],λ (gg:aF)=>⟨(some (0<=gg.aK/\gg.aK<=3),[⟨(.int .i64),aV gg⟩])⟩⟩
def KS(gg:aF):Nat->aJ:=cj
def sJ:aX.Good pN:=by
 refine⟨aD wu,?_⟩;intro (gg:aF) (hp:0<=gg.aK/\gg.aK<=3);refine aY [] [] [] [1] trivial wu EG (KS gg) (let v0:=(1:Int) * 2 ^ gg.aK.toNat;((ai gg.aK->(ca .u64 gg.aK/\(((0:Int)<=gg.aK/\(gg.aK<(64:Int)/\ai v0))/\v0=(aV gg)))))) ?_;have f1:=cK gg hp;refine λ _=>⟨?_,⟨?_,?_,?_⟩,?_⟩;all_goals try and_intros
 all_goals first|rfl|trivial|(simp only[a9d,a8Z,aB,ai,wF,wE,zB,zA,aV] at *;omega)
def De:aX:=⟨Du,[.v (.st .sig), .v (.st .expr)],λ (gg:aF) (x:J)=>⟨(none,[⟨.bool,isE gg x⟩])⟩⟩
def Ps(gg:aF)(x:J):Nat->aJ:=cj
def Ix:aX.Good De:=by
 refine⟨aD A3,?_⟩;intro (gg:aF) (x:J) _;refine aY [Df] [] [] [2,3] ⟨Iz,U⟩ A3 HU (Ps gg x) (((0<=(200:Int)/\(200:Int)<=1048576/\0<=(40:Int)/\(40:Int)<=1048576)/\(ai (Nu gg x (200:Int) (40:Int))->(Ho gg x (200:Int) (40:Int))=(isE gg x)))) ?_;refine⟨?_,λ _=>?_⟩;all_goals try and_intros
 all_goals first|rfl|trivial|omega|(simp only[a9d,a8Z,aB,ai,ca,fv,dh,bz] at *;omega)|(simp[aB,ai] at *;omega)|grind
def gC:aX:=⟨xd,[.v (.st .sig), .v (.st .expr)],λ (gg:aF) (x:J)=>⟨(none,[⟨.bool,okE gg x⟩])⟩⟩
def I3(gg:aF)(x:J):Nat->aJ:=cj
def gw:aX.Good gC:=by
 refine⟨aD tO,?_⟩;intro (gg:aF) (x:J) _;refine aY [De,pK] [] [] [2,3] ⟨Ix,sH,U⟩ tO Cs (I3 gg x) ((((cG gg)=true->(isE gg x)=(okE gg x))/\((cG gg)=(!true)->false=(okE gg x)))) ?_;refine⟨λ _=>?_,λ _=>?_⟩;all_goals try and_intros
 all_goals first|rfl|trivial|(simp_all [okE];done)
def xW:aX:=⟨FE,[.v (.st .sig), .r (.st .expr)],λ (gg:aF) (x:J)=>⟨(none,[⟨.bool,okE gg x⟩])⟩⟩
def Q6(gg:aF)(x:J):Nat->aJ:=cj
abbrev Bk(gg:aF)(x:J):Prop:=(let v0:=decide (((bF x:Int))<=(40:Int));(bF x<=1048576/\(ai ((bF x:Int)) ->
 ((v0=true ->
 (bR (aZ gg.aK) (aZ gg.au) x)=(okE gg x))/\(v0=(!true) ->
 false=(okE gg x))))))
def yH:aX.Good xW:=by
 refine⟨aD Cq,?_⟩;intro (gg:aF) (x:J) _;refine aY [uY,Bq,yX,Br] [] [] [2] ⟨wB,GD,ER,GH,U⟩ Cq J7 (Q6 gg x) (let v0:=decide ((0:Int)<=(E8 (ar x) (200:Int)));let v1:=bR (aZ gg.aK) (aZ gg.au) x;((((cG gg)=true->((0<=(200:Int)/\(200:Int)<=1048576)/\(ai (E8 (ar x) (200:Int))->((v0=true->(Bk gg x))/\(v0=(!true)->((false=true->v1=(okE gg x))/\(false=(!true)->false=(okE gg x))))))))/\((cG gg)=(!true)->((false=true->(Bk gg x))/\(false=(!true)->((false=true->v1=(okE gg x))/\(false=(!true)->false=(okE gg x))))))))) ?_;have f1:=En (ar x) 200;have f2:=Ib x;have f3:okE gg x=(cG gg&&(bR (aZ gg.aK) (aZ gg.au) x&&decide ((ar x:Int)<=200)&&decide ((bF x:Int)<=40))):=rfl;refine⟨λ _=>⟨?_,λ _=>⟨λ _=>⟨?_,λ _=>⟨λ _=>?_,λ _=>?_⟩⟩,λ _=>⟨λ _=>?_,λ _=>?_⟩⟩⟩,λ _=>⟨λ _=>⟨?_,λ _=>⟨λ _=>?_,λ _=>?_⟩⟩,λ _=>⟨λ _=>?_,λ _=>?_⟩⟩⟩;all_goals try and_intros
 all_goals try rw[f3]
 all_goals first|rfl|trivial|omega|(simp only[a9d,a8Z,a9t,a9E] at *;omega)|grind
end
end Go.Proofs.YtofnjfpeimhifaaGreatDoor

namespace Go.Proofs.YtofnjfpeimhifaaGreatDoor
open Go.RowKit Go.Proofs
def Uu:(Tryz.prog.info? 126).map (·.size)=some 2:=by kernel_rfl
def a0q:liesAt Tryz.prog Tryz.prog.depth 126 (2 / Tryz.prog.cellsOf 126) 0 126 1=true:=by kernel_rfl
def a0p:(Tryz.prog.info? 5).map (λ i=>(i.zero,i.size,i.bytes))=some (some (.int .u8 0),1,1):=by kernel_rfl
def ib(b:Nat)(w w':World):Prop:=∀ k cs T fz,w.heap[k]?=some (.cells cs T fz)->T≠5->k≠b->w'.heap[k]?=w.heap[k]?
def ib.refl(b:Nat)(w:World):ib b w w:=λ _ _ _ _ _ _ _=>rfl
def ib.trans{b:Nat}{w w1 w2:World}(h:ib b w w1)(k:ib b w1 w2):ib b w w2:=λ i cs T fz hi hT hb=>by
 have e:=h i cs T fz hi hT hb;rw[k i cs T fz (e.trans hi) hT hb,e]
def ib.setCell{b:Nat}{w w1:World}(h:ib b w w1)(o:Nat)(v:Value):ib b w (w1.setCell ⟨b,o,none⟩ v):=λ i cs T fz hi hT hb=>by
 rw[Below.heap_setCell w1 _ v i hb];exact h i cs T fz hi hT hb
def bp{w:World}{k:Nat}{x:Obj}(h:w.heap[k]?=some x):k<w.heap.size:=by
 rcases a9O k w.heap.size with h'|h'
 .exact h'
 .simp[b0o h'] at h
def ib.alloc{b:Nat}{w w1:World}(h:ib b w w1)(o:Obj):ib b w (w1.alloc o):=λ i cs T fz hi hT hb=>by
 have e:=h i cs T fz hi hT hb;rw[<-e];exact b0a w1 o i (bp (e.trans hi))
set_option maxRecDepth 100000 in
def MD(b:Nat)(w:World)(h0:w.cell? ⟨b,0,none⟩=some (.pointer (some ⟨b,0,none⟩))) :
  Calls Tryz.prog 112 #[.pointer (some ⟨b,0,none⟩)] w λ e w'=>e = .returned (.tuple #[])/\w'=w:=by
 obtain⟨j,hj,_⟩:=a9D.1 Uu;go_enter Tryz.func112,Tryz.ntmps112;go_wp2;rw[Lib.run_neq_ptr_same w _ Tryz.underlying124 hj];go_wp2;go_end0;exact⟨rfl,rfl⟩
set_option maxRecDepth 100000 in
def Kb(b:Nat)(w:World)(h0:w.cell? ⟨b,0,none⟩=some (.pointer none))(B4:w.shape? b=some (126,2))(hfz:w.frozen? ⟨b,0,none⟩=false) :
  Calls Tryz.prog 112 #[.pointer (some ⟨b,0,none⟩)] w λ e w'=>e = .returned (.tuple #[])/\w'=w.setCell ⟨b,0,none⟩ (.pointer (some ⟨b,0,none⟩)):=by
 obtain⟨j,hj,hjs⟩:=a9D.1 Uu;go_enter Tryz.func112,Tryz.ntmps112;go_wp2;rw[Lib.run_to_unsafe w ⟨b,0,none⟩ Tryz.underlying124 Tryz.underlying176 hj (by rw[hjs];decide) B4 (Nat.zero_lt_succ 1)];simp only[Result.andThen];rw[b2b];go_wp2;rw[run_callFunc_extern Tryz.func128 (by kernel_rfl) (by kernel_rfl) (by kernel_rfl) (e:=Extern.AbiNoEscape.same) (by kernel_rfl)];rw[Lib.run_noEscape];simp only[Result.andThen];rw[b2b];go_wp2;rw[Lib.run_from_unsafe w ⟨b,0,none⟩ Tryz.underlying176 Tryz.underlying124 hj B4 a0q];simp only[Result.andThen];rw[b2b];go_wp2;go_end0;exact⟨rfl,rfl⟩
def Wv(B b:Nat)(bs:List Value)(w:World)(h:Lib.IsBuilder 126 5 B b bs w) :
  Calls Tryz.prog 112 #[.pointer (some ⟨b,0,none⟩)] w λ e w'=>e = .returned (.tuple #[])/\(Lib.BuilderAt 126 5 B b (.pointer (some ⟨b,0,none⟩)) bs w'/\Below B w w'/\ib b w w'):=by
 rcases h with h|h
 .refine (Kb b w h.cell0 h.shape h.frozen0).mono ?_;rintro e w' ⟨rfl,rfl⟩;exact⟨rfl,h.used _,(b0R B w).setCell (p:=⟨b,0,none⟩) h.1 _,(ib.refl b w).setCell 0 _⟩
 .refine (MD b w h.cell0).mono ?_;rintro e w' ⟨rfl,rfl⟩;exact⟨rfl,h,b0R B _,ib.refl b _⟩
set_option maxRecDepth 100000 in
def writeString(B b:Nat)(bs:List Value)(s:ByteArray)(w:World)(h:Lib.IsBuilder 126 5 B b bs w)(hlen:bs.length+s.size<=140737488355328)(gH:B<=w.heap.size) :
  Calls Tryz.prog 82 #[.pointer (some ⟨b,0,none⟩), .string s] w λ e w'=>e = .returned (.tuple #[.int .i64 s.size, .nilIface])/\(Lib.IsBuilder 126 5 B b (bs++Lib.strCells s) w'/\Below B w w'/\ib b w w'):=by
 obtain⟨i0,hi,hz⟩:=a9D.1 a0p;simp only[a8Y] at hz;obtain⟨GY,KC,MW⟩:=hz;go_enter Tryz.func82,Tryz.ntmps82;go_wp2_with (go_at_call 112;refine (Wv B b bs _ h).mono ?_);rintro e w1 ⟨rfl,h1,rJ,oO⟩;obtain⟨hB,v,WR,dF,dv⟩:=h1;have c0:w1.cell? ⟨b,0,none⟩=some (.pointer (some ⟨b,0,none⟩)):=by rw[b0I WR];rfl
 have c1:w1.cell? ⟨b,1,none⟩=some v:=by rw[b0I WR];rfl
 go_wp2_with (at_builtin;refine Lib.wpList_append_own_string _ rfl _ _ 22 9 rfl B 5 i0 Tryz.underlying22 Tryz.underlying9 hi GY KC MW _ _ _ rfl dF s rfl ?c3 ?c4 ?c5 ?_);case c3=>unfold maxLen;omega
 case c4=>omega
 case c5=>have:=rJ.size;omega
 intro v' w2 a1b di _;have bj:b<w1.heap.size:=bp WR;have CZ:w2.heap[b]?=some (.cells #[.pointer (some ⟨b,0,none⟩),v] 126 (0,0)):=by
  rw[di.block b bj (λ e=>dv e.symm)];exact WR
 have d0:w2.cell? ⟨b,0,none⟩=some (.pointer (some ⟨b,0,none⟩)):=by rw[b0I CZ];rfl
 have d1:w2.cell? ⟨b,1,none⟩=some v:=by rw[b0I CZ];rfl
 have f1:w2.frozen? ⟨b,1,none⟩=false:=Lib.frozen_of_heap CZ 1;have hk2:ib b w1 w2:=λ i cs T fz hi hT hib=>di.block i (bp hi) λ e=>by
  rcases dF.2 with ⟨hv,_⟩|⟨g,cap,cur,hv,_,hg,_⟩
  .rw[hv] at e;cases e
  .rw[hv] at e;injection e with e;subst e;rw[hg] at hi;simp only[a8V,Obj.cells.injEq] at hi;exact hT hi.2.1.symm
 obtain⟨ao,n',cap,rfl⟩:∃ ao n' cap,v' = .slice ao n' cap:=by
  rcases a1b.2 with ⟨hv,_⟩|⟨g,cap,cur,hv,_⟩
  .exact⟨_,_,_,hv⟩
  .exact⟨_,_,_,hv⟩
 go_wp2;go_ret2;refine⟨rfl,?_,?_,?_⟩
 .exact Or.inr (Lib.BuilderAt.put (T:=126) (e:=5) hB CZ (bs':=bs++Lib.strCells s) (by simpa [Lib.strCells_length] using a1b) (by decide))
 .exact (rJ.grown di (by have:=rJ.size;omega) (λ k hk=>(dF.lt k hk).1)).setCell (p:=⟨b,1,none⟩) hB _
 .exact (oO.trans hk2).setCell 1 _
end Go.Proofs.YtofnjfpeimhifaaGreatDoor

namespace Go.Proofs
open Go.Shelf
def Tryz.I8:Go.Shelf.Ren:=⟨λ|169=>84|n=>n,λ|70=>124|9=>9|0=>0|72=>126|37=>22|127=>158|3=>3|5=>5|n=>n,λ|n=>n⟩
def Tryz.a1n:Go.Proofs.Lays.n169 Tryz.prog Tryz.I8:={
 mixed:=by kernel_rfl
 f169:=Tryz.func84.trans (congrArg some (by kernel_rfl))
 t0:=Tryz.underlying0
 a0:=Tryz.isAgg0
 z0:=Tryz.sizeOf0
 v0:=Tryz.zeroValue0
 t3:=Tryz.underlying3
 a3:=Tryz.isAgg3
 z3:=Tryz.sizeOf3
 v3:=Tryz.zeroValue3
 t9:=Tryz.underlying9
 a9:=Tryz.isAgg9
 z9:=Tryz.sizeOf9
 v9:=Tryz.zeroValue9
 t37:=Tryz.underlying22
 a37:=Tryz.isAgg22
 z37:=Tryz.sizeOf22
 v37:=Tryz.zeroValue22
 t70:=Tryz.underlying124
 a70:=Tryz.isAgg124
 z70:=Tryz.sizeOf124
 v70:=Tryz.zeroValue124
 t72:=Tryz.underlying126
 a72:=Tryz.isAgg126
 z72:=Tryz.sizeOf126
 v72:=Tryz.zeroValue126
 t127:=Tryz.underlying158
 a127:=Tryz.isAgg158
 z127:=Tryz.sizeOf158
 v127:=Tryz.zeroValue158 }
def Tryz.FU:Builder.Extra Tryz.prog Tryz.I8:={
 sizeBuilder:=by kernel_rfl
 liesBuilder:=by kernel_rfl
 t5:=Tryz.underlying5
 a5:=Tryz.isAgg5
 z5:=Tryz.sizeOf5
 v5:=Tryz.zeroValue5
 infoByte:=by kernel_rfl
 cellsByte:=by kernel_rfl
 sizeByte:=by kernel_rfl
 neB5:=by decide }
open Go.RowKit in
def Tryz.Builder_String_any(B b:Nat)(l:List UInt8)(w:World)(h:Lib.IsBuilder 126 5 B b (Lib.byteCells l) w)(gH:B<=w.heap.size) :
  Calls Tryz.prog 84 #[.pointer (some ⟨b,0,none⟩)] w λ e w'=>e = .returned (.string ⟨l.toArray⟩)/\Below B w w':=Any.Builder_String_any Tryz.a1n Tryz.FU B b l w h gH
def Tryz.TG:Go.Shelf.Ren:=⟨λ|246=>129|283=>139|284=>140|285=>141|286=>142|129=>153|317=>157|318=>158|319=>159|320=>160|337=>166|338=>167|n=>n,λ|2=>2|3=>3|9=>9|4=>4|171=>183|0=>0|53=>97|37=>22|5=>5|173=>186|212=>205|51=>197|20=>20|213=>206|46=>134|232=>217|233=>218|n=>n,λ|17=>3|18=>4|19=>5|n=>n⟩
def Tryz.a1p:Go.Proofs.Lays.n246 Tryz.prog Tryz.TG:={
 mixed:=by kernel_rfl
 f129:=Tryz.func153.trans (congrArg some (by kernel_rfl))
 f246:=Tryz.func129.trans (congrArg some (by kernel_rfl))
 f283:=Tryz.func139.trans (congrArg some (by kernel_rfl))
 f284:=Tryz.func140.trans (congrArg some (by kernel_rfl))
 f285:=Tryz.func141.trans (congrArg some (by kernel_rfl))
 f286:=Tryz.func142.trans (congrArg some (by kernel_rfl))
 f317:=Tryz.func157.trans (congrArg some (by kernel_rfl))
 f318:=Tryz.func158.trans (congrArg some (by kernel_rfl))
 f319:=Tryz.func159.trans (congrArg some (by kernel_rfl))
 f320:=Tryz.func160.trans (congrArg some (by kernel_rfl))
 f337:=Tryz.func166.trans (congrArg some (by kernel_rfl))
 f338:=Tryz.func167.trans (congrArg some (by kernel_rfl))
 t0:=Tryz.underlying0
 a0:=Tryz.isAgg0
 z0:=Tryz.sizeOf0
 v0:=Tryz.zeroValue0
 t2:=Tryz.underlying2
 a2:=Tryz.isAgg2
 z2:=Tryz.sizeOf2
 v2:=Tryz.zeroValue2
 t3:=Tryz.underlying3
 a3:=Tryz.isAgg3
 z3:=Tryz.sizeOf3
 v3:=Tryz.zeroValue3
 t4:=Tryz.underlying4
 a4:=Tryz.isAgg4
 z4:=Tryz.sizeOf4
 v4:=Tryz.zeroValue4
 t5:=Tryz.underlying5
 a5:=Tryz.isAgg5
 z5:=Tryz.sizeOf5
 v5:=Tryz.zeroValue5
 t9:=Tryz.underlying9
 a9:=Tryz.isAgg9
 z9:=Tryz.sizeOf9
 v9:=Tryz.zeroValue9
 t20:=Tryz.underlying20
 a20:=Tryz.isAgg20
 z20:=Tryz.sizeOf20
 v20:=Tryz.zeroValue20
 t37:=Tryz.underlying22
 a37:=Tryz.isAgg22
 z37:=Tryz.sizeOf22
 v37:=Tryz.zeroValue22
 t46:=Tryz.underlying134
 a46:=Tryz.isAgg134
 z46:=Tryz.sizeOf134
 v46:=Tryz.zeroValue134
 t51:=Tryz.underlying197
 a51:=Tryz.isAgg197
 z51:=Tryz.sizeOf197
 v51:=Tryz.zeroValue197
 t53:=Tryz.underlying97
 a53:=Tryz.isAgg97
 z53:=Tryz.sizeOf97
 v53:=Tryz.zeroValue97
 t171:=Tryz.underlying183
 a171:=Tryz.isAgg183
 z171:=Tryz.sizeOf183
 v171:=Tryz.zeroValue183
 t173:=Tryz.underlying186
 a173:=Tryz.isAgg186
 z173:=Tryz.sizeOf186
 v173:=Tryz.zeroValue186
 t212:=Tryz.underlying205
 a212:=Tryz.isAgg205
 z212:=Tryz.sizeOf205
 v212:=Tryz.zeroValue205
 t213:=Tryz.underlying206
 a213:=Tryz.isAgg206
 z213:=Tryz.sizeOf206
 t232:=Tryz.underlying217
 a232:=Tryz.isAgg217
 z232:=Tryz.sizeOf217
 v232:=Tryz.zeroValue217
 t233:=Tryz.underlying218
 a233:=Tryz.isAgg218
 z233:=Tryz.sizeOf218
 v233:=Tryz.zeroValue218
 g17:=by kernel_rfl
 g18:=by kernel_rfl
 g19:=by kernel_rfl }
open Go.RowKit Go.Sort Go.Lib in
def Tryz.internal_strconv_FormatInt_10_small(i:Nat)(hi:i<100)(w:World) :
  Calls Tryz.prog 129 #[.int .i64 i, .int .i64 10] w λ e w'=>e = .returned (.string ⟨(Lib.decDigits i).toArray⟩)/\w'=w:=Any.internal_strconv_FormatInt_10_small Tryz.a1p i hi w
end Go.Proofs

namespace Go.Proofs.YtofnjfpeimhifaaGreatDoor
open Go.RowKit Go.Proofs
def Oi{B b:Nat}{p:Value}{bs:List Value}{w:World}(h:Lib.BuilderAt 126 5 B b p bs w)(o:Obj):Lib.BuilderAt 126 5 B b p bs (w.alloc o):=by
 obtain⟨hB,v,hb,dF,dv⟩:=h;exact⟨hB,v,by rw[b0a w o b (bp hb)];exact hb,dF.alloc _,dv⟩
abbrev pf(B b:Nat)(l:List UInt8)(w:World):Prop:=Lib.IsBuilder 126 5 B b (Lib.byteCells l) w
def kg{B b:Nat}{l:List UInt8}{w:World}(h:pf B b l w)(o:Obj):pf B b l (w.alloc o):=h.imp (λ h=>Oi h o) (λ h=>Oi h o)
def IY{B b:Nat}{l:List UInt8}{w:World}(h:pf B b l w):b<w.heap.size:=by
 rcases h with h|h<;>exact h.lt
def nt{B:Nat}{w:World}(h:B<=w.heap.size)(o:Obj):B<=(w.alloc o).heap.size:=by simp;omega
def yw{b:Nat}{w w1:World}{cs:Array Value}(h:ib b (w.alloc (.cells cs 28)) w1)(hb:b<w.heap.size)(j:Nat){v:Value}(hj:cs[j]?=some v):w1.cell? ⟨w.heap.size,j,none⟩=some v:=by
 have e:=h w.heap.size cs 28 (0,0) (b0k w _) (by decide) (by omega);rw[b1i (a:=⟨w.heap.size,j,none⟩) e,b0I (b0k w _)];exact hj
structure Wr(B b:Nat)(l t:List UInt8)(w w':World):Prop where
 Db:pf B b (l++t) w'
 cQ:Below B w w'
 aL:ib b w w'
def Wr.trans{B b:Nat}{l t u:List UInt8}{w w1 w2:World}(h:Wr B b l t w w1)(k:Wr B b (l++t) u w1 w2):Wr B b l (t++u) w w2 :=
 ⟨by rw[<-a9B];exact k.Db,h.cQ.trans k.cQ,h.aL.trans k.aL⟩
def Wr.alloc{B b:Nat}{l t:List UInt8}{w w1:World}{o:Obj}(h:Wr B b l t (w.alloc o) w1)(gH:B<=w.heap.size):Wr B b l t w w1 :=
 ⟨h.Db,((b0R B w).alloc gH _).trans h.cQ,((ib.refl b w).alloc _).trans h.aL⟩
def ws(B b:Nat)(l:List UInt8)(s:ByteArray)(w:World)(h:pf B b l w)(hlen:l.length+s.data.toList.length<=140737488355328)(gH:B<=w.heap.size) :
  Calls Tryz.prog 82 #[.pointer (some ⟨b,0,none⟩), .string s] w λ e w'=>e = .returned (.tuple #[.int .i64 s.size, .nilIface])/\Wr B b l s.data.toList w w':=by
 refine (writeString B b _ s w h (by simpa [Lib.byteCells_length] using hlen) gH).mono ?_;rintro e w' ⟨rfl,h1,h2,h3⟩;refine⟨rfl,?_,h2,h3⟩;have:Lib.byteCells l++Lib.strCells s=Lib.byteCells (l++s.data.toList):=by simp[Lib.byteCells,Lib.strCells]
 rw[pf,<-this];exact h1
abbrev Ew(B b:Nat)(v:Value)(l t:List UInt8)(w:World):Prop :=
 Calls Tryz.prog 108 #[.pointer (some ⟨b,0,none⟩),v] w λ e w'=>e = .returned (.tuple #[])/\Wr B b l t w w'
set_option maxRecDepth 100000 in
def Kn(i:Nat)(hi:i<100)(w:World) :
  Calls Tryz.prog 113 #[.int .i64 i, .int .i64 10] w λ e w'=>e = .returned (.string ⟨(Lib.decDigits i).toArray⟩)/\w'=w:=by
 go_enter Tryz.func113,Tryz.ntmps113;go_wp2_with (go_at_call 129;refine (Tryz.internal_strconv_FormatInt_10_small i hi _).mono ?_);rintro e w1 ⟨he,hw⟩;subst he hw;go_wp2;go_ret;exact⟨rfl,rfl⟩
set_option maxRecDepth 100000 in
def ig(i:Nat)(hi:i<100)(w:World) :
  Calls Tryz.prog 83 #[.int .i64 i] w λ e w'=>e = .returned (.string ⟨(Lib.decDigits i).toArray⟩)/\w'=w:=by
 go_enter Tryz.func83,Tryz.ntmps83;go_wp2_with (go_at_call 113;refine (Kn i hi _).mono ?_);rintro e w1 ⟨he,hw⟩;subst he hw;go_wp2;go_ret;exact⟨rfl,rfl⟩
set_option maxRecDepth 100000 in
def we1(B b:Nat)(l:List UInt8)(n:Int)(sl:Value)(w:World)(h:pf B b l w)(hlen:l.length+1<=140737488355328)(gH:B<=w.heap.size) :
  Ew B b (.agg #[.int .i64 1, .int .i64 n,sl]) l [48] w:=by
 go_enter Tryz.func108,Tryz.ntmps108;go_wp2_with (go_at_call 82;refine (ws B b l _ _ (kg h _) (by exact hlen) (nt gH _)).mono ?_);intro e w1 he h1;subst he;go_wp2;go_end0;exact⟨rfl,h1.alloc gH⟩
set_option maxRecDepth 100000 in
def we2(B b:Nat)(l:List UInt8)(n:Int)(sl:Value)(w:World)(h:pf B b l w)(hlen:l.length+1<=140737488355328)(gH:B<=w.heap.size) :
  Ew B b (.agg #[.int .i64 2, .int .i64 n,sl]) l [49] w:=by
 go_enter Tryz.func108,Tryz.ntmps108;go_wp2_with (go_at_call 82;refine (ws B b l _ _ (kg h _) (by exact hlen) (nt gH _)).mono ?_);intro e w1 he h1;subst he;go_wp2;go_end0;exact⟨rfl,h1.alloc gH⟩
set_option maxRecDepth 100000 in
def we3(B b:Nat)(l:List UInt8)(i:Nat)(hi:i<100)(sl:Value)(w:World)(h:pf B b l w)(hlen:l.length+((Lib.decDigits i).length+1)<=140737488355328)(gH:B<=w.heap.size) :
  Ew B b (.agg #[.int .i64 3, .int .i64 i,sl]) l (116::Lib.decDigits i) w:=by
 go_enter Tryz.func108,Tryz.ntmps108;go_wp2_with (go_at_call 83;refine (ig i hi _).mono ?_);rintro e w1 ⟨he,hw⟩;subst he hw;go_wp2_with (go_at_call 82;refine (ws B b l _ _ (kg h _) (by simp;omega) (nt gH _)).mono ?_);rintro e w1 ⟨he,h1⟩;subst he;go_wp2;go_end0;exact⟨rfl,by simpa using h1.alloc gH⟩
set_option maxRecDepth 100000 in
def we4(B b:Nat)(l:List UInt8)(i:Nat)(hi:i<100)(sl:Value)(w:World)(h:pf B b l w)(hlen:l.length+((Lib.decDigits i).length+1)<=140737488355328)(gH:B<=w.heap.size) :
  Ew B b (.agg #[.int .i64 4, .int .i64 i,sl]) l (97::Lib.decDigits i) w:=by
 go_enter Tryz.func108,Tryz.ntmps108;go_wp2_with (go_at_call 83;refine (ig i hi _).mono ?_);rintro e w1 ⟨he,hw⟩;subst he hw;go_wp2_with (go_at_call 82;refine (ws B b l _ _ (kg h _) (by simp;omega) (nt gH _)).mono ?_);rintro e w1 ⟨he,h1⟩;subst he;go_wp2;go_end0;exact⟨rfl,by simpa using h1.alloc gH⟩
set_option maxRecDepth 100000 in
def we5(B b:Nat)(l t:List UInt8)(n:Int)(kb ko cap:Nat)(c0 c1 c2:Value)(w:World)(h:pf B b l w)(hlen:l.length+(t.length+1)<=140737488355328)(gH:B<=w.heap.size)
  (kd:∀ w1,Below B w w1->∀ j v,[c0,c1,c2][j]?=some v->w1.cell? ⟨kb,ko+0+j,none⟩=some v)
  (Xb:∀ w1 l1,Below B w w1->pf B b l1 w1->B<=w1.heap.size->l1.length+t.length<=140737488355328->Ew B b (.agg #[c0,c1,c2]) l1 t w1)
  : Ew B b (.agg #[.int .i64 5, .int .i64 n, .slice (some ⟨kb,ko,none⟩) 1 cap]) l (126::t) w:=by
 go_enter Tryz.func108,Tryz.ntmps108;go_wp2_with (go_at_call 82;refine (ws B b l _ _ (kg h _) (by simp;omega) (nt gH _)).mono ?_);intro e w1 he h1;subst he;have c2':=yw h1.aL (IY h) 2 rfl;have q00:w1.cell? ⟨kb,ko,none⟩=some c0:=by simpa [Nat.add_assoc] using kd w1 (h1.alloc gH).cQ 0 _ rfl
 have q01:w1.cell? ⟨kb,ko+1,none⟩=some c1:=by simpa [Nat.add_assoc] using kd w1 (h1.alloc gH).cQ 1 _ rfl
 have q02:w1.cell? ⟨kb,ko+2,none⟩=some c2:=by simpa [Nat.add_assoc] using kd w1 (h1.alloc gH).cQ 2 _ rfl
 go_wp2_with (go_at_call 108;refine (Xb w1 _ (h1.alloc gH).cQ h1.Db (by have:=(h1.alloc gH).cQ.size;omega) (by simp;omega)).mono ?_);rintro e w2 ⟨he,h2⟩;subst he;go_wp2;go_end0;exact⟨rfl,((h1.alloc gH).trans h2)⟩
set_option maxRecDepth 100000 in
def we8(B b:Nat)(l t:List UInt8)(n:Int)(kb ko cap:Nat)(c0 c1 c2:Value)(w:World)(h:pf B b l w)(hlen:l.length+(t.length+1)<=140737488355328)(gH:B<=w.heap.size)
  (kd:∀ w1,Below B w w1->∀ j v,[c0,c1,c2][j]?=some v->w1.cell? ⟨kb,ko+0+j,none⟩=some v)
  (Xb:∀ w1 l1,Below B w w1->pf B b l1 w1->B<=w1.heap.size->l1.length+t.length<=140737488355328->Ew B b (.agg #[c0,c1,c2]) l1 t w1)
  : Ew B b (.agg #[.int .i64 8, .int .i64 n, .slice (some ⟨kb,ko,none⟩) 1 cap]) l (t++[42]) w:=by
 have CY:Below B w (w.alloc (.cells #[.int .i64 8, .int .i64 n, .slice (some ⟨kb,ko,none⟩) 1 cap] 28)):=(Below.refl B w).alloc gH _;have q00:(w.alloc (.cells #[.int .i64 8, .int .i64 n, .slice (some ⟨kb,ko,none⟩) 1 cap] 28)).cell? ⟨kb,ko,none⟩=some c0:=by simpa [Nat.add_assoc] using kd (w.alloc (.cells #[.int .i64 8, .int .i64 n, .slice (some ⟨kb,ko,none⟩) 1 cap] 28)) CY 0 _ rfl
 have q01:(w.alloc (.cells #[.int .i64 8, .int .i64 n, .slice (some ⟨kb,ko,none⟩) 1 cap] 28)).cell? ⟨kb,ko+1,none⟩=some c1:=by simpa [Nat.add_assoc] using kd (w.alloc (.cells #[.int .i64 8, .int .i64 n, .slice (some ⟨kb,ko,none⟩) 1 cap] 28)) CY 1 _ rfl
 have q02:(w.alloc (.cells #[.int .i64 8, .int .i64 n, .slice (some ⟨kb,ko,none⟩) 1 cap] 28)).cell? ⟨kb,ko+2,none⟩=some c2:=by simpa [Nat.add_assoc] using kd (w.alloc (.cells #[.int .i64 8, .int .i64 n, .slice (some ⟨kb,ko,none⟩) 1 cap] 28)) CY 2 _ rfl
 go_enter Tryz.func108,Tryz.ntmps108;go_wp2_with (go_at_call 108;refine (Xb _ _ CY (kg h _) (nt gH _) (by omega)).mono ?_);rintro e w1 ⟨he,h1⟩;subst he;go_wp2_with (go_at_call 82;refine (ws B b _ _ _ h1.Db (by simp;omega) (by have:=(h1.alloc gH).cQ.size;omega)).mono ?_);intro e w2 he h2;subst he;go_wp2;go_end0;exact⟨rfl,((h1.alloc gH).trans h2)⟩
set_option maxRecDepth 100000 in
def we6(B b:Nat)(l t u:List UInt8)(n:Int)(kb ko cap:Nat)(c0 c1 c2 d0 d1 d2:Value)(w:World)(h:pf B b l w)(hlen:l.length+(t.length+u.length+5)<=140737488355328)(gH:B<=w.heap.size)
  (kd:∀ w1,Below B w w1->∀ j v,[c0,c1,c2][j]?=some v->w1.cell? ⟨kb,ko+0+j,none⟩=some v)
  (Xb:∀ w1 l1,Below B w w1->pf B b l1 w1->B<=w1.heap.size->l1.length+t.length<=140737488355328->Ew B b (.agg #[c0,c1,c2]) l1 t w1)
  (oO:∀ w1,Below B w w1->∀ j v,[d0,d1,d2][j]?=some v->w1.cell? ⟨kb,ko+3+j,none⟩=some v)
  (ih1:∀ w1 l1,Below B w w1->pf B b l1 w1->B<=w1.heap.size->l1.length+u.length<=140737488355328->Ew B b (.agg #[d0,d1,d2]) l1 u w1)
  : Ew B b (.agg #[.int .i64 6, .int .i64 n, .slice (some ⟨kb,ko,none⟩) 2 cap]) l ([40]++(t++([32,43,32]++(u++[41])))) w:=by
 go_enter Tryz.func108,Tryz.ntmps108;go_wp2_with (go_at_call 82;refine (ws B b l _ _ (kg h _) (by simp;omega) (nt gH _)).mono ?_);intro e w1 he h1;subst he;have e1:=yw h1.aL (IY h) 2 rfl;have q00:w1.cell? ⟨kb,ko,none⟩=some c0:=by simpa [Nat.add_assoc] using kd w1 (h1.alloc gH).cQ 0 _ rfl
 have q01:w1.cell? ⟨kb,ko+1,none⟩=some c1:=by simpa [Nat.add_assoc] using kd w1 (h1.alloc gH).cQ 1 _ rfl
 have q02:w1.cell? ⟨kb,ko+2,none⟩=some c2:=by simpa [Nat.add_assoc] using kd w1 (h1.alloc gH).cQ 2 _ rfl
 have g1:=h1.alloc gH;have s1:B<=w1.heap.size:=by have:=g1.cQ.size;omega
 go_wp2_with (go_at_call 108;refine (Xb w1 _ g1.cQ h1.Db s1 (by simp;omega)).mono ?_);rintro e w2 ⟨he,h2⟩;subst he;have s2:B<=w2.heap.size:=by have:=h2.cQ.size;omega
 go_wp2_with (go_at_call 82;refine (ws B b _ _ _ h2.Db (by simp;omega) s2).mono ?_);intro e w3 he h3;subst he;have e3:=yw (h1.aL.trans (h2.aL.trans h3.aL)) (IY h) 2 rfl;have g3:=g1.cQ.trans (h2.cQ.trans h3.cQ);have q10:w3.cell? ⟨kb,ko+3,none⟩=some d0:=by simpa [Nat.add_assoc] using oO w3 g3 0 _ rfl
 have q11:w3.cell? ⟨kb,ko+4,none⟩=some d1:=by simpa [Nat.add_assoc] using oO w3 g3 1 _ rfl
 have q12:w3.cell? ⟨kb,ko+5,none⟩=some d2:=by simpa [Nat.add_assoc] using oO w3 g3 2 _ rfl
 have s3:B<=w3.heap.size:=by have:=h3.cQ.size;omega
 go_wp2_with (go_at_call 108;refine (ih1 w3 _ g3 h3.Db s3 (by simp;omega)).mono ?_);rintro e w4 ⟨he,h4⟩;subst he;have s4:B<=w4.heap.size:=by have:=h4.cQ.size;omega
 go_wp2_with (go_at_call 82;refine (ws B b _ _ _ h4.Db (by simp;omega) s4).mono ?_);intro e w5 he h5;subst he;go_wp2;go_end0;have j2:Wr B b (l++[40]) t w1 w2:=by simpa using h2
 have j3:Wr B b (l++[40]++t) [32,43,32] w2 w3:=by simpa using h3
 have j4:Wr B b (l++[40]++t++[32,43,32]) u w3 w4:=by simpa using h4
 have j5:Wr B b (l++[40]++t++[32,43,32]++u) [41] w4 w5:=by simpa using h5
 exact⟨rfl,g1.trans (j2.trans (j3.trans (j4.trans j5)))⟩
set_option maxRecDepth 100000 in
def we7(B b:Nat)(l t u:List UInt8)(n:Int)(kb ko cap:Nat)(c0 c1 c2 d0 d1 d2:Value)(w:World)(h:pf B b l w)(hlen:l.length+(t.length+u.length+3)<=140737488355328)(gH:B<=w.heap.size)
  (kd:∀ w1,Below B w w1->∀ j v,[c0,c1,c2][j]?=some v->w1.cell? ⟨kb,ko+0+j,none⟩=some v)
  (Xb:∀ w1 l1,Below B w w1->pf B b l1 w1->B<=w1.heap.size->l1.length+t.length<=140737488355328->Ew B b (.agg #[c0,c1,c2]) l1 t w1)
  (oO:∀ w1,Below B w w1->∀ j v,[d0,d1,d2][j]?=some v->w1.cell? ⟨kb,ko+3+j,none⟩=some v)
  (ih1:∀ w1 l1,Below B w w1->pf B b l1 w1->B<=w1.heap.size->l1.length+u.length<=140737488355328->Ew B b (.agg #[d0,d1,d2]) l1 u w1)
  : Ew B b (.agg #[.int .i64 7, .int .i64 n, .slice (some ⟨kb,ko,none⟩) 2 cap]) l ([40]++(t++([32]++(u++[41])))) w:=by
 go_enter Tryz.func108,Tryz.ntmps108;go_wp2_with (go_at_call 82;refine (ws B b l _ _ (kg h _) (by simp;omega) (nt gH _)).mono ?_);intro e w1 he h1;subst he;have e1:=yw h1.aL (IY h) 2 rfl;have q00:w1.cell? ⟨kb,ko,none⟩=some c0:=by simpa [Nat.add_assoc] using kd w1 (h1.alloc gH).cQ 0 _ rfl
 have q01:w1.cell? ⟨kb,ko+1,none⟩=some c1:=by simpa [Nat.add_assoc] using kd w1 (h1.alloc gH).cQ 1 _ rfl
 have q02:w1.cell? ⟨kb,ko+2,none⟩=some c2:=by simpa [Nat.add_assoc] using kd w1 (h1.alloc gH).cQ 2 _ rfl
 have g1:=h1.alloc gH;have s1:B<=w1.heap.size:=by have:=g1.cQ.size;omega
 go_wp2_with (go_at_call 108;refine (Xb w1 _ g1.cQ h1.Db s1 (by simp;omega)).mono ?_);rintro e w2 ⟨he,h2⟩;subst he;have s2:B<=w2.heap.size:=by have:=h2.cQ.size;omega
 go_wp2_with (go_at_call 82;refine (ws B b _ _ _ h2.Db (by simp;omega) s2).mono ?_);intro e w3 he h3;subst he;have e3:=yw (h1.aL.trans (h2.aL.trans h3.aL)) (IY h) 2 rfl;have g3:=g1.cQ.trans (h2.cQ.trans h3.cQ);have q10:w3.cell? ⟨kb,ko+3,none⟩=some d0:=by simpa [Nat.add_assoc] using oO w3 g3 0 _ rfl
 have q11:w3.cell? ⟨kb,ko+4,none⟩=some d1:=by simpa [Nat.add_assoc] using oO w3 g3 1 _ rfl
 have q12:w3.cell? ⟨kb,ko+5,none⟩=some d2:=by simpa [Nat.add_assoc] using oO w3 g3 2 _ rfl
 have s3:B<=w3.heap.size:=by have:=h3.cQ.size;omega
 go_wp2_with (go_at_call 108;refine (ih1 w3 _ g3 h3.Db s3 (by simp;omega)).mono ?_);rintro e w4 ⟨he,h4⟩;subst he;have s4:B<=w4.heap.size:=by have:=h4.cQ.size;omega
 go_wp2_with (go_at_call 82;refine (ws B b _ _ _ h4.Db (by simp;omega) s4).mono ?_);intro e w5 he h5;subst he;go_wp2;go_end0;have j2:Wr B b (l++[40]) t w1 w2:=by simpa using h2
 have j3:Wr B b (l++[40]++t) [32] w2 w3:=by simpa using h3
 have j4:Wr B b (l++[40]++t++[32]) u w3 w4:=by simpa using h4
 have j5:Wr B b (l++[40]++t++[32]++u) [41] w4 w5:=by simpa using h5
 exact⟨rfl,g1.trans (j2.trans (j3.trans (j4.trans j5)))⟩
end Go.Proofs.YtofnjfpeimhifaaGreatDoor

namespace Go.Proofs.YtofnjfpeimhifaaGreatDoor
noncomputable section
open Go.RowKit Go.Proofs
def eh(n:Int):List UInt8:=Lib.decDigits n.toNat
def Rk(k n:Int)(p q:List UInt8):List UInt8:=if k=1 then [48] else if k=2 then [49] else if k=3 then 116::eh n else if k=4 then 97::eh n else if k=5 then 126::p
 else if k=6 then [40]++(p++([32,43,32]++(q++[41]))) else if k=7 then [40]++(p++([32]++(q++[41]))) else p++[42]
mutual
def bC:J->List UInt8
 | ⟨k,n,ks⟩=>Rk k n ((Mv ks).getD 0 []) ((Mv ks).getD 1 [])
def Mv:List J->List (List UInt8)
 | []=>[]
 | k::ks=>bC k::Mv ks
end
def nh(z:J):∀ (xs:List J) (i:Nat),i<xs.length->(Mv xs).getD i []=bC (xs.getD i z)
 | [],i,h=>by simp at h
 | x::xs,0,h=>by simp[Mv]
 | x::xs,i+1,h=>by
  have:=nh z xs i (by simpa using h);simpa [Mv] using this
def a3t(x:J):bC x=Rk x.ah x.bl ((Mv x.ae).getD 0 []) ((Mv x.ae).getD 1 []):=by
 cases x;rfl
def aA(x:J):Bool:=bR 9 9 x
def D8(x:J)(i:Nat):Prop:=aA (x.ae.getD i zE)=true/\bH (x.ae.getD i zE)<bH x
def WL(x:J)(h:aA x=true)(i:Nat)(hi:i<x.ae.length):D8 x i:=by
 unfold D8;simp only[aA] at h ⊢;rw[jv] at h;simp only[Bool.and_eq_true] at h;refine⟨D1 _ _ _ _ hi h.2,?_⟩;have:=cB (zE:J) x.ae i hi;have:=fK x;omega
def dG(x:J)(h:aA x=true):((x.ah=3\/x.ah=4)->0<=x.bl/\x.bl<=9) /\
  ((x.ah=5\/x.ah=8)->x.ae.length=1/\D8 x 0)/\((x.ah=6\/x.ah=7)->x.ae.length=2/\D8 x 0/\D8 x 1) /\
  (x.ah=1\/x.ah=2\/x.ah=3\/x.ah=4\/x.ah=5\/x.ah=6\/x.ah=7\/x.ah=8):=by
 have hk:=WL x h;simp only[aA] at h;rw[jv,nv] at h;simp only[a9e,a9d] at h;obtain⟨⟨⟨h1,h2⟩,_⟩,_⟩:=h;refine⟨λ e=>?_,λ e=>?_,λ e=>?_,?_⟩
 .rcases e with e|e<;>simpa [AO,e] using h2
 .have td:x.ae.length=1:=by
   rcases e with e|e<;>rw[e] at h1<;>simp[cA] at h1<;>omega
  exact⟨td,hk 0 (by omega)⟩
 .have td:x.ae.length=2:=by
   rcases e with e|e<;>rw[e] at h1<;>simp[cA] at h1<;>omega
  exact⟨td,hk 0 (by omega),hk 1 (by omega)⟩
 .unfold cA at h1;split at h1
  .omega
  .split at h1
   .omega
   .split at h1<;>omega
def dO(x:J)(h:aA x=true):(x.ah=1->bC x=[48])/\(x.ah=2->bC x=[49])/\(x.ah=3->bC x=116::eh x.bl)/\(x.ah=4->bC x=97::eh x.bl) /\
  (x.ah=5->bC x=126::bC (x.ae.getD 0 zE)) /\
  (x.ah=6->bC x=[40]++(bC (x.ae.getD 0 zE)++([32,43,32]++(bC (x.ae.getD 1 zE)++[41])))) /\
  (x.ah=7->bC x=[40]++(bC (x.ae.getD 0 zE)++([32]++(bC (x.ae.getD 1 zE)++[41])))) /\
  (x.ah=8->bC x=bC (x.ae.getD 0 zE)++[42]):=by
 have hf:=dG x h;rw[a3t];refine⟨λ e=>?_,λ e=>?_,λ e=>?_,λ e=>?_,λ e=>?_,λ e=>?_,λ e=>?_,λ e=>?_⟩
 .simp[Rk,e]
 .simp[Rk,e]
 .simp[Rk,e]
 .simp[Rk,e]
 .have:=(hf.2.1 (.inl e)).1;rw[nh zE x.ae 0 (by omega)];simp[Rk,e]
 .have:=(hf.2.2.1 (.inl e)).1;rw[nh zE x.ae 0 (by omega),nh zE x.ae 1 (by omega)];simp[Rk,e]
 .have:=(hf.2.2.1 (.inr e)).1;rw[nh zE x.ae 0 (by omega),nh zE x.ae 1 (by omega)];simp[Rk,e]
 .have:=(hf.2.1 (.inr e)).1;rw[nh zE x.ae 0 (by omega)];simp[Rk,e]
def CE(n:Int)(h:0<=n/\n<=9):(eh n).length=1:=by
 unfold eh;rw[Lib.decDigits_one (by omega)];rfl
def a2l(f:J->Nat)(z:J)(xs:List J)(h:xs.length=2):cT f xs=f (xs.getD 0 z)+f (xs.getD 1 z):=by
 match xs,h with
 | [a,b],_=>simp[cT]
def a2k(f:J->Nat)(z:J)(xs:List J)(h:xs.length=1):cT f xs=f (xs.getD 0 z):=by
 match xs,h with
 | [a],_=>simp[cT]
def vN:∀ (N:Nat) (x:J),bH x<N->aA x=true->(bC x).length<=5 * ar x
 | 0,x,h,_=>by omega
 | N+1,x,hN,h=>by
  have hf:=dG x h;have ht:=dO x h;have hn:=gR x;rcases hf.2.2.2 with e|e|e|e|e|e|e|e
  .rw[ht.1 e];simp;omega
  .rw[ht.2.1 e];simp;omega
  .rw[ht.2.2.1 e];have:=CE _ (hf.1 (.inl e));simp;omega
  .rw[ht.2.2.2.1 e];have:=CE _ (hf.1 (.inr e));simp;omega
  .rw[ht.2.2.2.2.1 e];obtain⟨hl,h0⟩:=hf.2.1 (.inl e);have i0:=vN N _ (by have:=h0.2;omega) h0.1;rw[a2k _ zE _ hl] at hn;simp only[a9f];omega
  .rw[ht.2.2.2.2.2.1 e];obtain⟨hl,h0,h1⟩:=hf.2.2.1 (.inl e);have i0:=vN N _ (by have:=h0.2;omega) h0.1;have i1:=vN N _ (by have:=h1.2;omega) h1.1;rw[a2l _ zE _ hl] at hn;simp only[a9i,a9f,a9v];omega
  .rw[ht.2.2.2.2.2.2.1 e];obtain⟨hl,h0,h1⟩:=hf.2.2.1 (.inr e);have i0:=vN N _ (by have:=h0.2;omega) h0.1;have i1:=vN N _ (by have:=h1.2;omega) h1.1;rw[a2l _ zE _ hl] at hn;simp only[a9i,a9f,a9v];omega
  .rw[ht.2.2.2.2.2.2.2 e];obtain⟨hl,h0⟩:=hf.2.1 (.inr e);have i0:=vN N _ (by have:=h0.2;omega) h0.1;rw[a2k _ zE _ hl] at hn;simp only[a9i,a9f,a9v];omega
def oE{w:World}{S:Nat->Prop}{x:J}{cs:List Value}(h:Rd w S x.aE cs):∃ a cap,cs=[.int .i64 x.ah, .int .i64 x.bl, .slice a x.ae.length cap] /\
  (x.ae=[]\/∃ b o,a=some ⟨b,o,none⟩/\S b/\cF w S (x.ae.map J.aE) b o):=by
 cases x with
 | mk k n ks =>
  simp only[J.aE,Rd,cJ] at h;obtain⟨v0,r0,rfl,⟨h0,_⟩,v1,r1,rfl,⟨h1,_⟩,v2,r2,rfl,⟨a,cap,h2,_,_,_,h3⟩,rfl⟩:=h;simp only[a9a,a9q] at h0 h1 h2;subst h0 h1 h2;rw[J.JP] at *
  refine⟨a,cap,by simp,h3.imp (λ h=>by simpa using h) id⟩
def Ju{w:World}{S:Nat->Prop}{x:J}{b o:Nat}(h:cF w S (x.ae.map J.aE) b o)(i:Nat)(hi:i<x.ae.length) :
  ∃ c0 c1 c2,Rd w S (x.ae.getD i zE).aE [c0,c1,c2]/\bm w b (o+3 * i) [c0,c1,c2]:=by
 obtain⟨cs,h1,h2,h3⟩:=cF.at_ (n:=3) _ b o h (λ d hd=>by
  obtain⟨y,_,rfl⟩:=a9b.1 hd;cases y;rfl) i (x.ae.getD i zE).aE (by simp[b0w,a9h,a9j hi])
 match cs,h1 with
 | [c0,c1,c2],_=>exact⟨c0,c1,c2,h2,by rw[Nat.mul_comm];exact h3⟩
def FR(B b:Nat)(S:Nat->Prop)(hS:∀ k,S k->k<B):∀ (N:Nat) (x:J),bH x<N->aA x=true->∀ (l:List UInt8) (w:World) (cs:List Value),pf B b l w->B<=w.heap.size ->
  l.length+(bC x).length<=140737488355328->Rd w S x.aE cs->Ew B b (.agg cs.toArray) l (bC x) w
 | 0,x,h,_=>by omega
 | N+1,x,hN,h=>by
  intro l w cs hI hB hl hr;have hf:=dG x h;have ht:=dO x h;obtain⟨a,cap,rfl,hk⟩:=oE hr;have Zk:∀ i,i<x.ae.length->D8 x i->∃ kb ko c0 c1 c2,a=some ⟨kb,ko,none⟩/\(∀ j,j≠i->True)/\(∀ w1,Below B w w1->∀ j v,[c0,c1,c2][j]?=some v->w1.cell? ⟨kb,ko+3 * i+j,none⟩=some v) /\
    (∀ w1 l1,Below B w w1->pf B b l1 w1->B<=w1.heap.size->l1.length+(bC (x.ae.getD i zE)).length<=140737488355328->Ew B b (.agg #[c0,c1,c2]) l1 (bC (x.ae.getD i zE)) w1):=by
   intro i hi hg;rcases hk with hk|⟨kb,ko,rfl,Y3,eW⟩
   .rw[hk] at hi;simp at hi
   .obtain⟨c0,c1,c2,h1,h2⟩:=Ju eW i hi;refine⟨kb,ko,c0,c1,c2,rfl,λ _ _=>trivial,λ w1 hw j v hj=>?_,λ w1 l1 hw hI1 hB1 MR=>?_⟩
    .exact h2.aL (hw.block kb (hS kb Y3)) j v hj
    .exact FR B b S hS N _ (by have:=hg.2;omega) hg.1 l1 w1 [c0,c1,c2] hI1 hB1 MR (h1.aL (λ _ h=>h) (λ k hk=>hw.block k (hS k hk)))
  rcases hf.2.2.2 with e|e|e|e|e|e|e|e
  .rw[ht.1 e] at hl ⊢;rw[e];exact we1 B b l _ _ w hI hl hB
  .rw[ht.2.1 e] at hl ⊢;rw[e];exact we2 B b l _ _ w hI hl hB
  .have hn:=hf.1 (.inl e);rw[ht.2.2.1 e] at hl ⊢;rw[e,show x.bl=((x.bl.toNat:Nat):Int) by omega];exact we3 B b l _ (by omega) _ w hI (by simpa [eh] using hl) hB
  .have hn:=hf.1 (.inr e);rw[ht.2.2.2.1 e] at hl ⊢;rw[e,show x.bl=((x.bl.toNat:Nat):Int) by omega];exact we4 B b l _ (by omega) _ w hI (by simpa [eh] using hl) hB
  .obtain⟨hn,h0⟩:=hf.2.1 (.inl e);obtain⟨kb,ko,c0,c1,c2,rfl,_,q1,q2⟩:=Zk 0 (by omega) h0;rw[ht.2.2.2.2.1 e] at hl ⊢;rw[e,hn];exact we5 B b l _ _ kb ko cap c0 c1 c2 w hI (by simpa using hl) hB q1 q2
  .obtain⟨hn,h0,h1⟩:=hf.2.2.1 (.inl e);obtain⟨kb,ko,c0,c1,c2,rfl,_,q1,q2⟩:=Zk 0 (by omega) h0;obtain⟨kb',ko',d0,d1,d2,eq,_,p1,p2⟩:=Zk 1 (by omega) h1;cases eq;rw[ht.2.2.2.2.2.1 e] at hl ⊢;rw[e,hn];exact we6 B b l _ _ _ kb ko cap c0 c1 c2 d0 d1 d2 w hI (by simp at hl ⊢;omega) hB q1 q2 p1 p2
  .obtain⟨hn,h0,h1⟩:=hf.2.2.1 (.inr e);obtain⟨kb,ko,c0,c1,c2,rfl,_,q1,q2⟩:=Zk 0 (by omega) h0;obtain⟨kb',ko',d0,d1,d2,eq,_,p1,p2⟩:=Zk 1 (by omega) h1;cases eq;rw[ht.2.2.2.2.2.2.1 e] at hl ⊢;rw[e,hn];exact we7 B b l _ _ _ kb ko cap c0 c1 c2 d0 d1 d2 w hI (by simp at hl ⊢;omega) hB q1 q2 p1 p2
  .obtain⟨hn,h0⟩:=hf.2.1 (.inr e);obtain⟨kb,ko,c0,c1,c2,rfl,_,q1,q2⟩:=Zk 0 (by omega) h0;rw[ht.2.2.2.2.2.2.2 e] at hl ⊢;rw[e,hn];exact we8 B b l _ _ kb ko cap c0 c1 c2 w hI (by simpa using hl) hB q1 q2
def Dg:aX:=⟨Dx,[.v (.st .expr)],λ (x:J)=>⟨(some (aA x=true/\(bC x).length<=1000000),[⟨.str,bC x⟩])⟩⟩
set_option maxRecDepth 100000 in
def JO(x:J)(w:World)(S:Nat->Prop)(hS:∀ b,S b->b<w.heap.size)(hg:aA x=true)(hl:(bC x).length<=1000000)(cs:List Value)(hr:Rd w S x.aE cs) :
  Calls Tryz.prog 78 #[.agg cs.toArray] w λ e w'=>e = .returned (.string ⟨(bC x).toArray⟩)/\Below w.heap.size w w':=by
 obtain⟨a,cap,rfl,hk⟩:=oE hr;have hI:∀ o:Obj,pf (w.heap.size+1) (w.heap.size+1) [] ((w.alloc o).alloc (.cells #[.pointer none, .slice none 0 0] 126)):=λ o=>by
  have:=b3k 126 5 (w.alloc o);rw[show (w.alloc o).heap.size=w.heap.size+1 by simp] at this;exact this
 have hB:∀ o p:Obj,w.heap.size+1<=((w.alloc o).alloc p).heap.size:=λ o p=>by simp
 have hw:∀ o p:Obj,Below w.heap.size w ((w.alloc o).alloc p):=λ o p=>((Below.refl _ w).alloc (Nat.le_refl _) o).alloc (by simp) p;go_enter Tryz.func78,Tryz.ntmps78;go_wp2_with (go_at_call 108;refine (FR (w.heap.size+1) (w.heap.size+1) S (λ k hk=>Nat.lt_succ_of_lt (hS k hk)) (bH x+1) x (Nat.lt_succ_self _) hg [] _ _ (hI _) (hB _ _) (by simp;omega) (hr.aL (λ _ h=>h) (λ k hk=>(hw _ _).block k (hS k hk)))).mono ?_);rintro e w1 ⟨he,h1⟩;subst he;have b1:Below w.heap.size w w1:=(hw _ _).trans (h1.cQ.mono (Nat.le_succ _));have g1:pf (w.heap.size+1) (w.heap.size+1) (bC x) w1:=by simpa using h1.Db
 have z1:w.heap.size+1<=w1.heap.size:=b0b (hB _ _) h1.cQ.size;clear h1;go_wp2_with (go_at_call 84;refine (Tryz.Builder_String_any (w.heap.size+1) (w.heap.size+1) (bC x) w1 g1 z1).mono ?_);rintro e w2 ⟨he,h2⟩;subst he;go_wp2;go_ret;exact⟨rfl,b1.trans (h2.mono (b2N _))⟩
def zL{w w':World}(h:Below w.heap.size w w'):bI (λ _=>False) w w':=⟨h.os,h.tape,h.output,h.size,λ b hb _=>h.block b hb⟩
def TU{w:World}{S:Nat->Prop}(l:List UInt8)(h:l.length<=140737488355328):dC w S ⟨.str,l⟩ (.string ⟨l.toArray⟩) :=
 ⟨⟨l.toArray⟩,rfl,by simp,by simpa [ByteArray.size] using h⟩
def IA:aX.Good Dg:=by
 refine⟨aD Mw rfl (by decide),?_⟩;intro x hp w S bV ⟨hS,_⟩ ha;match bV,ha with
 | [v],ha =>
  obtain⟨⟨cs,rfl,hr⟩,_⟩:=ha;refine (JO x w S hS hp.1 hp.2 cs hr).mono ?_;rintro e w' ⟨rfl,hb⟩;exact⟨_,S,_,rfl,rfl,zL hb,λ _ _=>b0X,λ b h=>a9g (hS b h) hb.size,TU (w:=w') (S:=S) _ (by have:=hp.2;omega)⟩
def rS:aX:=⟨BB,[.v (.int .i64)],λ (n:Int)=>⟨(some (0<=n/\n<=9),[⟨.str,eh n⟩])⟩⟩
set_option maxRecDepth 100000 in
def QH(n:Nat)(h:n<10)(w:World) :
  Calls Tryz.prog 143 #[.int .i64 n] w λ e w'=>e = .returned (.string ⟨(Lib.decDigits n).toArray⟩)/\Below w.heap.size w w':=by
 rw[Lib.decDigits_one h];have hn:¬ (10:Int)<=(n:Int):=by omega
 go_enter Tryz.func143,Tryz.ntmps143;go_wp2;rw[show (convert 22 9 (.slice (some ⟨w.heap.size,0,none⟩) 1 1)).run Tryz.prog (w.alloc (.cells #[.int .u8 (48+(n:Int))] 5))=_ from run_convert_bytes_back _ 22 9 5 ⟨w.heap.size,0,none⟩ 1 [UInt8.ofNat (48+n)] Tryz.underlying22 Tryz.underlying5 Tryz.underlying9 (by
  intro j hj;have hj0:j=0:=by simpa using hj
  subst hj0;show World.cell? _ ⟨w.heap.size,0,none⟩=_;rw[b0I (b0k w _)];have e:(UInt8.ofNat (48+n)).toNat=48+n:=by rw[UInt8.toNat_ofNat'];omega
  simp[e];omega)]
 simp only[Result.andThen];rw[b2b];go_wp2;go_ret;exact⟨by first|rfl|(simp;done)|(show Ending.returned (.string ⟨#[48+UInt8.ofNat n]⟩)=_;rw[UInt8.ofNat_add];rfl),(b0R _ w).alloc (a9n _) _⟩
def GA:aX.Good rS:=by
 refine⟨aD J2 rfl (by decide),?_⟩;intro (n:Int) hp w S bV ⟨hS,_⟩ ha;match bV,ha with
 | [v],ha =>
  obtain⟨⟨hv,_⟩,_⟩:=ha;simp only[a9a,a9q] at hv;have hp:0<=n/\n<=9:=hp;subst hv;have:=QH n.toNat (by omega) w;rw[show ((n.toNat:Nat):Int)=n by omega] at this;refine this.mono ?_;rintro e w' ⟨rfl,hb⟩;exact⟨_,S,_,rfl,rfl,zL hb,λ _ _=>b0X,λ b h=>a9g (hS b h) hb.size,TU (w:=w') (S:=S) (eh n) (by rw[CE n hp];decide)⟩
def tk(x:J)(i:Nat):J:=x.ae.getD i zE
structure TK(x:J)(i:Nat):Prop where
 qD:aA (x.ae.getD i zE)=true
 less:bH (x.ae.getD i zE)<bH x
 len:(bC (x.ae.getD i zE)).length<=(bC x).length
def YF(x:J)(h:aA x=true)(e:x.ah=3):0<=x.bl/\x.bl<=9/\(eh x.bl).length=1/\bC x=[116]++eh x.bl:=by
 have:=(dG x h).1 (.inl e);exact⟨this.1,this.2,CE _ this,(dO x h).2.2.1 e⟩
def YG(x:J)(h:aA x=true)(e:x.ah=4):0<=x.bl/\x.bl<=9/\(eh x.bl).length=1/\bC x=[97]++eh x.bl:=by
 have:=(dG x h).1 (.inr e);exact⟨this.1,this.2,CE _ this,(dO x h).2.2.2.1 e⟩
def YH(x:J)(h:aA x=true)(e:x.ah=5):x.ae.length=1/\TK x 0/\bC x=[126]++bC (x.ae.getD 0 zE):=by
 have hk:=(dG x h).2.1 (.inl e);have ht:=(dO x h).2.2.2.2.1 e;exact⟨hk.1,⟨hk.2.1,hk.2.2,by rw[ht];simp⟩,ht⟩
def Sl(x:J)(h:aA x=true)(e:x.ah=6):x.ae.length=2/\TK x 0/\TK x 1/\bC x=[40]++bC (x.ae.getD 0 zE)++[32,43,32]++bC (x.ae.getD 1 zE)++[41]:=by
 have hk:=(dG x h).2.2.1 (.inl e);have ht:=(dO x h).2.2.2.2.2.1 e;exact⟨hk.1,⟨hk.2.1.1,hk.2.1.2,by rw[ht];simp;omega⟩,⟨hk.2.2.1,hk.2.2.2,by rw[ht];simp;omega⟩,by rw[ht];simp⟩
def Sm(x:J)(h:aA x=true)(e:x.ah=7):x.ae.length=2/\TK x 0/\TK x 1/\bC x=[40]++bC (x.ae.getD 0 zE)++[32]++bC (x.ae.getD 1 zE)++[41]:=by
 have hk:=(dG x h).2.2.1 (.inr e);have ht:=(dO x h).2.2.2.2.2.2.1 e;exact⟨hk.1,⟨hk.2.1.1,hk.2.1.2,by rw[ht];simp;omega⟩,⟨hk.2.2.1,hk.2.2.2,by rw[ht];simp;omega⟩,by rw[ht];simp⟩
def a4G(x:J)(h:aA x=true)(e1:¬ x.ah=1)(e2:¬ x.ah=2)(e3:¬ x.ah=3)(e4:¬ x.ah=4)(e5:¬ x.ah=5)(e6:¬ x.ah=6)(e7:¬ x.ah=7):x.ae.length=1/\TK x 0/\bC x=bC (x.ae.getD 0 zE)++[42]:=by
 have e:x.ah=8:=by have:=(dG x h).2.2.2;omega
 have hk:=(dG x h).2.1 (.inr e);have ht:=(dO x h).2.2.2.2.2.2.2 e;exact⟨hk.1,⟨hk.2.1,hk.2.2,by rw[ht];simp⟩,ht⟩
def lp(n:Nat):aX:=⟨mP,[.r (.st .expr)],λ (x:J)=>⟨(some (bH x<n/\aA x=true/\(bC x).length<=1000000),[⟨.str,bC x⟩])⟩⟩
def MX:aX:=⟨mP,[.r (.st .expr)],λ (x:J)=>⟨(some (aA x=true/\(bC x).length<=1000000),[⟨.str,bC x⟩])⟩⟩
def Nb(x:J):Nat->aJ:=cj
def Ld(n:Nat)(hE:bo [lp n,rS]):aX.Good (lp (n+1)):=by
 refine⟨aD kG,?_⟩;intro (x:J) (hp:bH x<n+1/\aA x=true/\(bC x).length<=1000000);refine aY [lp n,rS] [] [] [] hE kG Gc (Nb x) (let v0:=x.ae.getD 0 zE;let v1:=x.ae.getD 1 zE;let v5:=bC v0;let v2:=bH v0<n/\aA v0=true/\v5.length<=1000000;let v3:=([40])++v5;let v6:=eh x.bl;let v7:=bC v1;let v4:=bH v1<n/\aA v1=true/\v7.length<=1000000;let v8:=v3++([32,43,32]);((ai x.ah->(((decide (x.ah=(1:Int)))=true->([48])=(bC x))/\((decide (x.ah=(1:Int)))=false->(((decide (x.ah=(2:Int)))=true->([49])=(bC x))/\((decide (x.ah=(2:Int)))=false->(((decide (x.ah=(3:Int)))=true->(ai x.bl->((0<=x.bl/\x.bl<=9)/\(v6.length<=140737488355328->(([116]).length+v6.length<=140737488355328/\(([116])++v6)=(bC x))))))/\((decide (x.ah=(3:Int)))=false->(((decide (x.ah=(4:Int)))=true->(ai x.bl->((0<=x.bl/\x.bl<=9)/\(v6.length<=140737488355328->(([97]).length+v6.length<=140737488355328/\(([97])++v6)=(bC x))))))/\((decide (x.ah=(4:Int)))=false->(((decide (x.ah=(5:Int)))=true->(x.ae.length<=140737488355328->(aB (0:Int) x.ae.length/\(v2/\(v5.length<=140737488355328->(([126]).length+v5.length<=140737488355328/\(([126])++v5)=(bC x)))))))/\((decide (x.ah=(5:Int)))=false->(((decide (x.ah=(6:Int)))=true->(aB (0:Int) x.ae.length/\(v2/\(([40]).length+v5.length<=140737488355328/\(v3.length+([32,43,32]).length<=140737488355328/\(aB (1:Int) x.ae.length/\(v4/\(x.ae.length<=140737488355328->(v5.length<=140737488355328->(x.ae.length<=140737488355328->(v7.length<=140737488355328->(v8.length+v7.length<=140737488355328/\((v8++v7).length+([41]).length<=140737488355328/\((v8++v7)++([41]))=(bC x))))))))))))))/\((decide (x.ah=(6:Int)))=false->(((decide (x.ah=(7:Int)))=true->(aB (0:Int) x.ae.length/\(v2/\(([40]).length+v5.length<=140737488355328/\(v3.length+([32]).length<=140737488355328/\(aB (1:Int) x.ae.length/\(v4/\(x.ae.length<=140737488355328->(v5.length<=140737488355328->(x.ae.length<=140737488355328->(v7.length<=140737488355328->((v3++([32])).length+v7.length<=140737488355328/\(((v3++([32]))++v7).length+([41]).length<=140737488355328/\(((v3++([32]))++v7)++([41]))=(bC x))))))))))))))/\((decide (x.ah=(7:Int)))=false->(x.ae.length<=140737488355328->(aB (0:Int) x.ae.length/\(v2/\(v5.length<=140737488355328->(v5.length+([42]).length<=140737488355328/\(v5++([42]))=(bC x))))))))))))))))))))))) ?_;obtain⟨hm,hg,hl⟩:=hp;have f1:=(dO x hg).1;have f2:=(dO x hg).2.1;have f3:=YF x hg;have f4:=YG x hg;have f5:=YH x hg;have f6:=Sl x hg;have f7:=Sm x hg;have f8:=a4G x hg;refine λ _=>⟨λ _=>?_,λ _=>⟨λ _=>?_,λ _=>⟨λ a3 a4=>⟨?_,λ a5=>⟨?_,?_⟩⟩,λ a3=>⟨λ a4 a5=>⟨?_,λ a6=>⟨?_,?_⟩⟩,λ a4=>⟨λ a5 a6=>⟨?_,?_,λ a7=>⟨?_,?_⟩⟩,λ a5=>⟨λ a6=>⟨?_,?_,?_,?_,?_,?_,λ a7 a8 _ _=>⟨?_,?_,?_⟩⟩,λ a6=>⟨λ a7=>⟨?_,?_,?_,?_,?_,?_,λ a8 _ _ _=>⟨?_,?_,?_⟩⟩,λ a7 a8=>⟨?_,?_,λ _=>⟨?_,?_⟩⟩⟩⟩⟩⟩⟩⟩⟩;all_goals try and_intros
 all_goals ((try simp only[a9d,a8Z,aB] at *);(first|replace f1:=f1 (by with_reducible assumption)|clear f1);(first|replace f2:=f2 (by with_reducible assumption)|clear f2);(first|replace f3:=f3 (by with_reducible assumption)|clear f3);(first|replace f4:=f4 (by with_reducible assumption)|clear f4);(first|replace f5:=f5 (by with_reducible assumption)|clear f5);(first|replace f6:=f6 (by with_reducible assumption)|clear f6);(first|replace f7:=f7 (by with_reducible assumption)|clear f7);(first|replace f8:=f8 (by with_reducible assumption) (by with_reducible assumption) (by with_reducible assumption) (by with_reducible assumption) (by with_reducible assumption) (by with_reducible assumption) (by with_reducible assumption)|clear f8);(try obtain⟨a5,b5,c5⟩:=f5);(try obtain⟨a8,b8,c8⟩:=f8);(try obtain⟨a3,b3,b3b,c3⟩:=f3);(try obtain⟨a4,b4,b4b,c4⟩:=f4);(try obtain⟨a6,b6,b6b,c6⟩:=f6);(try obtain⟨a7,b7,b7b,c7⟩:=f7);  first|rfl|omega|exact TK.qD (by assumption)|exact f1.symm|exact f2.symm|(have t0:=TK.len ‹TK x 0›;have t1:=TK.less ‹TK x 0›;omega)|(have t0:=TK.len ‹TK x 1›;have t1:=TK.less ‹TK x 1›;omega)|exact (Eq.symm (by assumption))|(simp only[a9i,a9f,a9v];have t0:=TK.len ‹TK x 0›;first|omega|(have t1:=TK.len ‹TK x 1›;omega))|(simp only[a9i,a9f,a9v];omega))
def LB :∀ n,bo [lp n]
 | 0=>⟨⟨aD kG,λ _ h=>absurd h.1 (a9K _)⟩,U⟩
 | n+1=>by
  have ih:=LB  n;exact⟨Ld n ⟨ih.1,GA,U⟩,U⟩
def GG :aX.Good MX :=
 ⟨aD kG,λ x hp=>(LB  (bH x+1)).1.2 x (⟨a9o _,hp⟩)⟩
end
end Go.Proofs.YtofnjfpeimhifaaGreatDoor

namespace Go.Proofs.YtofnjfpeimhifaaGreatDoor
noncomputable section
def Mo(O:List Int)(pos:Int):Int:=if pos<(O.length:Int) then O.getD pos.toNat 0 else 0
def kv(O:List Int)(pos az:Int):Int:=IntKind.u64.wrap (IntKind.u64.wrap (IntKind.u64.wrap (az * 6364136223846793005)+Mo O pos)+1442695040888963407)
def Mp(s:Int):Int:=(((s.fdiv (2 ^ Int.toNat 40)).toNat &&& Int.toNat 255:Nat):Int)
def oK(O:List Int)(pos az:Int):Int:=if pos+1<=(O.length:Int) then Mo O pos else Mp (kv O pos az)
def cW(O:List Int):Prop:=∀ i,i<O.length->0<=O.getD i 0/\O.getD i 0<=255
def Sn(n:Int):0<=IntKind.u64.wrap n/\IntKind.u64.wrap n<=18446744073709551615:=by
 simp[IntKind.wrap,IntKind.signed,IntKind.bits];omega
def a7J:IntKind.u64.min=0:=rfl
def a7I:IntKind.u64.max=18446744073709551615:=rfl
def a7o(n:Int):ca .u64 n↔0<=n/\n<=18446744073709551615:=by
 have e1:IntKind.u64.min=0:=by decide
 have e2:IntKind.u64.max=18446744073709551615:=by decide
 show (IntKind.u64.min<=n/\n<=IntKind.u64.max)↔_;rw[e1,e2]
def DQ(O:List Int)(pos az:Int):0<=kv O pos az/\kv O pos az<=18446744073709551615:=Sn _
def VW(O:List Int)(pos:Int)(h:cW O)(h0:0<=pos):0<=Mo O pos/\Mo O pos<=255:=by
 unfold Mo;split
 .exact h _ (by omega)
 .omega
def a2e(s:Int):0<=Mp s/\Mp s<=255:=by
 have:(s.fdiv (2 ^ Int.toNat 40)).toNat &&& Int.toNat 255<=255:=Nat.and_le_right;unfold Mp;omega
def JE(O:List Int)(pos az:Int)(h:cW O)(h0:0<=pos):0<=oK O pos az/\oK O pos az<=255:=by
 unfold oK;split
 .exact VW O pos h h0
 .exact a2e _
def X8(n:Int):0<=(IntKind.u64.wrap n).fdiv (2 ^ (40:Int).toNat)/\(IntKind.u64.wrap n).fdiv (2 ^ (40:Int).toNat)<=18446744073709551615:=by
 have h:=Sn n;have e:(2:Int) ^ (40:Int).toNat=1099511627776:=by decide
 rw[e,b2p _ (by omega)];omega
def Sw(n:Nat):n &&& (255:Int).toNat<=255:=Nat.and_le_right
def YD(O:List Int)(pos az:Int)(h:pos+1<=(O.length:Int)):oK O pos az=Mo O pos:=a9l h
def NR(O:List Int)(pos az:Int)(h:¬ (pos+1<=(O.length:Int))):oK O pos az=Mp (kv O pos az):=a9c h
def NQ(O:List Int)(pos:Int)(h:pos<(O.length:Int)):O.getD pos.toNat 0=Mo O pos:=(a9l h).symm
def NP(O:List Int)(pos:Int)(h:¬ (pos<(O.length:Int))):(0:Int)=Mo O pos:=(a9c h).symm
def a2f(O:List Int)(pos az:Int)(h1:¬ (pos<(O.length:Int)))(h2:¬ (pos+1<=(O.length:Int))):((((IntKind.u64.wrap ((IntKind.u64.wrap ((IntKind.u64.wrap (az * (6364136223846793005:Int)))+(0:Int)))+(1442695040888963407:Int))).fdiv (2 ^ (40:Int).toNat)).toNat &&& (255:Int).toNat:Nat):Int)=oK O pos az:=by
 have e:=NP O pos h1;rw[NR O pos az h2,Mp,kv,<-e]
def qJ:nH:=⟨sT,[[.d (.slice (.int .u8)), .d (.int .i64), .d (.int .u64)]],[.b 0],[[(.slice (.int .u8)),(.int .i64),(.int .u64)]],λ (O:List Int) (pos:Int) (az:Int)=>⟨(some (cW O/\0<=pos/\pos<=1000000000/\O.length<=1000000/\0<=az/\az<=18446744073709551615),[⟨(.int .i64),oK O pos az⟩],[[⟨(.slice (.int .u8)),O⟩,⟨(.int .i64),pos+1⟩,⟨(.int .u64),kv O pos az⟩]])⟩⟩
def Dm(O:List Int)(pos:Int)(az:Int):Nat->aJ:=cj
abbrev Ar(O:List Int)(pos:Int)(az:Int):Prop:=((O=O/\((pos+(1:Int))=(pos+1)/\(IntKind.u64.wrap ((IntKind.u64.wrap ((IntKind.u64.wrap (az * (6364136223846793005:Int)))+(O.getD (Int.toNat pos) (0:Int))))+(1442695040888963407:Int)))=(kv O pos az)))/\True)
abbrev As(O:List Int)(pos:Int)(az:Int):Prop:=((O=O/\((pos+(1:Int))=(pos+1)/\(IntKind.u64.wrap ((IntKind.u64.wrap ((IntKind.u64.wrap (az * (6364136223846793005:Int)))+(0:Int)))+(1442695040888963407:Int)))=(kv O pos az)))/\True)
def zw:nH.Good qJ:=by
 refine⟨aD qx,?_⟩;intro (O:List Int) (pos:Int) (az:Int) (hp:cW O/\0<=pos/\pos<=1000000000/\O.length<=1000000/\0<=az/\az<=18446744073709551615);refine qe [] [] [] [] [] [] [] [] trivial trivial trivial trivial qx zQ (Dm O pos az) rfl rfl (let v4:=(O.length:Int);let v5:=pos+(1:Int);let v2:=decide (v5<=v4);let v6:=(255:Int);let v7:=(0:Int);let v3:=O.getD (Int.toNat pos) v7;let v8:=IntKind.u64.wrap (az * (6364136223846793005:Int));let v9:=oK O pos az;let vc:=(40:Int);let v0:=(IntKind.u64.wrap ((IntKind.u64.wrap (v8+v3))+(1442695040888963407:Int))).fdiv (2 ^ vc.toNat);let v1:=(IntKind.u64.wrap ((IntKind.u64.wrap (v8+v7))+(1442695040888963407:Int))).fdiv (2 ^ vc.toNat);let va:=((v0.toNat &&& v6.toNat:Nat):Int);let vb:=((v1.toNat &&& v6.toNat:Nat):Int);let vd:=Ar O pos az;let ve:=As O pos az;((ai pos->(O.length<=140737488355328->(ai v4->(((decide (pos<v4))=true->(O.length<=140737488355328->(ai pos->(aB pos O.length/\(ai v3/\(ai pos->(ai v5/\(ca .u64 v3/\(ai v5->(O.length<=140737488355328->(ai v4->((v2=true->(v3=v9/\vd))/\(v2=false->((v7<=vc/\(vc<(64:Int)/\ca .u64 v0))/\((v7<=v0/\(v7<=v6/\(ca .u64 v0/\ca .u64 v6)))/\(ai va/\(va=v9/\vd)))))))))))))))))/\((decide (pos<v4))=false->(ai pos->(ai v5/\(ca .u64 v7/\(ai v5->(O.length<=140737488355328->(ai v4->((v2=true->(v7=v9/\ve))/\(v2=false->((v7<=vc/\(vc<(64:Int)/\ca .u64 v1))/\((v7<=v1/\(v7<=v6/\(ca .u64 v1/\ca .u64 v6)))/\(ai vb/\(vb=v9/\ve))))))))))))))))))) ?_;obtain⟨h1,h2,h3,h4,h5,h6⟩:=hp;have f1:=VW O pos h1 h2;have f2:=DQ O pos az;refine λ _ _ _=>⟨λ _ _ _=>⟨?_,?_,λ _=>⟨?_,?_,λ _ _ _=>⟨λ _=>⟨?_,⟨rfl,?_,?_⟩,U⟩,λ _=>⟨⟨?_,?_,?_⟩,⟨?_,?_,?_,?_⟩,?_,?_,⟨rfl,?_,?_⟩,U⟩⟩⟩⟩,λ _ _=>⟨?_,?_,λ _ _ _=>⟨λ _=>⟨?_,⟨rfl,?_,?_⟩,U⟩,λ _=>⟨⟨?_,?_,?_⟩,⟨?_,?_,?_,?_⟩,?_,?_,⟨rfl,?_,?_⟩,U⟩⟩⟩⟩;all_goals try and_intros
 all_goals first|rfl|trivial|omega|(simp only[decide_eq_true_eq,decide_eq_false_iff_not] at *;exact a2f O pos az (by omega) (by omega))|(simp only[decide_eq_true_eq,decide_eq_false_iff_not,aB,ai,a7o,a7J,a7I] at *;first|omega|(rw[NQ O pos (by omega)];omega)|exact X8 _|(have:=X8;have:=Sw;grind)|(rw[NQ O pos (by omega)];first|omega|rfl|(rw[YD O pos az (by omega)];done)|(rw[NR O pos az (by omega)];rfl))|(rw[YD O pos az (by omega)];exact NP O pos (by omega))|(unfold kv;rw[<-NP O pos (by omega)];done)|(rw[NR O pos az (by omega)];unfold Mp kv;rw[<-NP O pos (by omega)];rfl)|(unfold kv;rw[<-NQ O pos (by omega)];done)|(rw[NR O pos az (by omega)];unfold Mp kv;rw[<-NQ O pos (by omega)];rfl)|(have:=Sw;constructor<;>first|omega|(refine Int.le_trans (Int.ofNat_le.2 (Sw _)) ?_;omega)))
def pkX(O:List Int)(pos az n:Int):Int:=if 200<n then oK O pos az * 256+oK O (pos+1) (kv O pos az) else oK O pos az
def VB(O:List Int)(pos az n:Int):Int:=if n<=1 then 0 else (pkX O pos az n).tmod n
def TQ(pos n:Int):Int:=if n<=1 then pos else if 200<n then pos+1+1 else pos+1
def Xt(O:List Int)(pos az n:Int):Int:=if n<=1 then az else if 200<n then kv O (pos+1) (kv O pos az) else kv O pos az
def Qz(a n:Int)(h:0<=a)(hn:0<n):0<=a.tmod n/\a.tmod n<n:=by
 rw[Int.tmod_eq_emod_of_nonneg h];exact⟨Int.emod_nonneg _ (by omega),Int.emod_lt_of_pos _ hn⟩
def Yr(O:List Int)(pos az n:Int)(h:cW O)(h0:0<=pos):0<=VB O pos az n/\(VB O pos az n=0\/VB O pos az n<n):=by
 have h1:=JE O pos az h h0;have h2:=JE O (pos+1) (kv O pos az) h (by omega);unfold VB pkX;split
 .omega
 .split
  .have:=Qz (oK O pos az * 256+oK O (pos+1) (kv O pos az)) n (by omega) (by omega);omega
  .have:=Qz (oK O pos az) n (by omega) (by omega);omega
structure Sr where
 pos:Int
 az:Int
def cI(O:List Int)(s:Sr)(n:Int):Sr:=⟨TQ s.pos n,Xt O s.pos s.az n⟩
def pk(O:List Int)(s:Sr)(n:Int):Int:=VB O s.pos s.az n
def N0(s:Sr):Sr.mk s.pos s.az=s:=rfl
def a7p(O:List Int)(s:Sr)(n:Int):pk O s n=VB O s.pos s.az n:=rfl
def a7q(O:List Int)(s:Sr)(n:Int):(cI O s n).pos=TQ s.pos n:=rfl
def a7r(O:List Int)(s:Sr)(n:Int):(cI O s n).az=Xt O s.pos s.az n:=rfl
structure bU(O:List Int)(s:Sr)(m:Int):Prop where
 c:cW O
 p:0<=s.pos
 m:s.pos<=m
 l:O.length<=1000000
 s0:0<=s.az
 s1:s.az<=18446744073709551615
def a3l(O:List Int)(pos az n:Int)(h:0<=az/\az<=18446744073709551615):0<=Xt O pos az n/\Xt O pos az n<=18446744073709551615:=by
 unfold Xt;split
 .exact h
 .split
  .exact DQ _ _ _
  .exact DQ _ _ _
def a3k(pos n:Int):pos<=TQ pos n/\TQ pos n<=pos+2:=by
 unfold TQ;split
 .omega
 .split<;>omega
def bU.next{O:List Int}{s:Sr}{m:Int}(h:bU O s m)(n:Int):bU O (cI O s n) (m+2):=by
 have h1:=a3k s.pos n;have h2:=a3l O s.pos s.az n ⟨h.s0,h.s1⟩;have:=h.p;have:=h.m;exact⟨h.c,by show 0<=TQ s.pos n;omega,by show TQ s.pos n<=m+2;omega,h.l,h2.1,h2.2⟩
def bU.mono{O:List Int}{s:Sr}{m k:Int}(h:bU O s m)(hk:m<=k):bU O s k:=⟨h.c,h.p,by have:=h.m;omega,h.l,h.s0,h.s1⟩
def bU.pk{O:List Int}{s:Sr}{m:Int}(h:bU O s m)(n:Int):0<=pk O s n/\(pk O s n=0\/pk O s n<n):=Yr O s.pos s.az n h.c h.p
def eg:nH:=⟨sU,[[.d (.slice (.int .u8)), .d (.int .i64), .d (.int .u64)]],[.b 0, .v (.int .i64)],[[(.slice (.int .u8)),(.int .i64),(.int .u64)]],λ (n:Int) (O:List Int) (pos:Int) (az:Int)=>⟨(some (bU O (Sr.mk pos az) 999999000/\n<=1000000),[⟨(.int .i64),pk O (Sr.mk pos az) n⟩],[[⟨(.slice (.int .u8)),O⟩,⟨(.int .i64),(cI O (Sr.mk pos az) n).pos⟩,⟨(.int .u64),(cI O (Sr.mk pos az) n).az⟩]])⟩⟩
def Dn(n:Int)(O:List Int)(pos:Int)(az:Int):Nat->aJ:=cj
def fj:nH.Good eg:=by
 refine⟨aD qy,?_⟩;intro (n:Int) (O:List Int) (pos:Int) (az:Int) (hp:bU O (Sr.mk pos az) 999999000/\n<=1000000);refine qe [] [] [] [qJ] [] [] [] [] trivial trivial trivial ⟨zw,U⟩ qy zR (Dn n O pos az) rfl rfl (let v1:=cI O (Sr.mk pos az) n;let v2:=kv O pos az;let v3:=oK O pos az;let v4:=pk O (Sr.mk pos az) n;let v5:=pos+1;let v0:=(v3 * (256:Int))+(oK O v5 v2);((((decide (n<=(1:Int)))=true->((0:Int)=v4/\((O=O/\(pos=(v1.pos)/\az=(v1.az)))/\True)))/\((decide (n<=(1:Int)))=false->((cW O/\0<=pos/\pos<=1000000000/\O.length<=1000000/\0<=az/\az<=18446744073709551615)/\(((decide ((200:Int)<n))=true->(ai (v3 * (256:Int))/\((cW O/\0<=v5/\v5<=1000000000/\O.length<=1000000/\0<=v2/\v2<=18446744073709551615)/\(ai v0/\((n≠(0:Int)/\ai (v0.tmod n))/\((v0.tmod n)=v4/\((O=O/\((v5+1)=(v1.pos)/\(kv O v5 v2)=(v1.az)))/\True)))))))/\((decide ((200:Int)<n))=false->((n≠(0:Int)/\ai (v3.tmod n))/\((v3.tmod n)=v4/\((O=O/\(v5=(v1.pos)/\v2=(v1.az)))/\True)))))))))) ?_;obtain⟨⟨h1,h2,h3,h4,h5,h6⟩,h7⟩:=hp;simp only at h2 h3 h5 h6;have f1:=JE O pos az h1 h2;have f2:=DQ O pos az;have f3:=JE O (pos+1) (kv O pos az) h1 (by omega);have f4:=DQ O (pos+1) (kv O pos az);have f5:=Yr O pos az n h1 h2;have f6:=λ (a:Int) (h:0<=a) (hn:¬ n<=1)=>Qz a n h (by omega);have f7:=λ hn=>f6 (oK O pos az) f1.1 hn;have f8:=λ hn=>f6 (oK O pos az * 256+oK O (pos+1) (kv O pos az)) (by omega) hn;refine⟨λ _=>⟨?_,⟨rfl,?_,?_⟩,U⟩,λ _=>⟨?_,λ _=>⟨?_,?_,?_,⟨?_,?_⟩,?_,⟨rfl,?_,?_⟩,U⟩,λ _=>⟨⟨?_,?_⟩,?_,⟨rfl,?_,?_⟩,U⟩⟩⟩;all_goals try and_intros
 all_goals (try simp only[a7p,a7q,a7r]);first|rfl|trivial|omega|(simp only[decide_eq_true_eq,decide_eq_false_iff_not,aB,ai] at *;first|omega|(have g7:=f7 (by omega);have g8:=f8 (by omega);clear f6 f7 f8;first|omega|grind [VB,pkX,TQ,Xt])|grind [VB,pkX,TQ,Xt])
def oD(O:List Int)(s:Sr)(n:Int):Bool:=decide (pk O s n=0)
def hJ:nH:=⟨vB,[[.d (.slice (.int .u8)), .d (.int .i64), .d (.int .u64)]],[.b 0, .v (.int .i64)],[[(.slice (.int .u8)),(.int .i64),(.int .u64)]],λ (n:Int) (O:List Int) (pos:Int) (az:Int)=>⟨(some (bU O (Sr.mk pos az) 999999000/\n<=1000000),[⟨.bool,oD O (Sr.mk pos az) n⟩],[[⟨(.slice (.int .u8)),O⟩,⟨(.int .i64),(cI O (Sr.mk pos az) n).pos⟩,⟨(.int .u64),(cI O (Sr.mk pos az) n).az⟩]])⟩⟩
def E4(n:Int)(O:List Int)(pos:Int)(az:Int):Nat->aJ:=cj
def oH:nH.Good hJ:=by
 refine⟨aD sD,?_⟩;intro (n:Int) (O:List Int) (pos:Int) (az:Int) (hp:bU O (Sr.mk pos az) 999999000/\n<=1000000);refine qe [] [] [] [eg] [] [] [] [] trivial trivial trivial ⟨fj,U⟩ sD BQ (E4 n O pos az) rfl rfl (let v1:=Sr.mk pos az;let v0:=cI O v1 n;(((bU O v1 999999000/\n<=1000000)/\((decide ((pk O v1 n)=(0:Int)))=(oD O v1 n)/\((O=O/\((v0.pos)=(v0.pos)/\(v0.az)=(v0.az)))/\True))))) ?_;refine⟨?_,⟨?_,⟨⟨rfl,⟨rfl,rfl⟩⟩,U⟩⟩⟩;all_goals try and_intros
 all_goals first|rfl|trivial|omega|(simp only[a9d,a8Z,aB,ai,ca,fv,dh,bz] at *;omega)|(simp[aB,ai] at *;omega)|grind
def Kg(O:List Int)(s:Sr):Sr:=cI O (cI O (cI O s 2) 2) 12
def QL(O:List Int)(s:Sr):Int:=pk O (cI O (cI O s 2) 2) 12
def ME(O:List Int)(s:Sr):aF :=
 if QL O s=0 then aF.mk (pk O (Kg O s) 4) (1+pk O (cI O s 2) 2) else if QL O s=1 then aF.mk (1+pk O s 2) (pk O (Kg O s) 5) else aF.mk (1+pk O s 2) (1+pk O (cI O s 2) 2)
def Kh(O:List Int)(s:Sr):Sr:=if QL O s=0 then cI O (Kg O s) 4 else if QL O s=1 then cI O (Kg O s) 5 else Kg O s
def jr(O:List Int)(s:Sr):(QL O s=0->ME O s=aF.mk (pk O (Kg O s) 4) (1+pk O (cI O s 2) 2)/\Kh O s=cI O (Kg O s) 4) /\
  (QL O s=1->ME O s=aF.mk (1+pk O s 2) (pk O (Kg O s) 5)/\Kh O s=cI O (Kg O s) 5) /\
  (¬ QL O s=0->¬ QL O s=1->ME O s=aF.mk (1+pk O s 2) (1+pk O (cI O s 2) 2)/\Kh O s=Kg O s):=by
 unfold ME Kh;refine⟨λ h=>?_,λ h=>?_,λ h1 h2=>?_⟩
 .rw[a9l h,a9l h];exact⟨rfl,rfl⟩
 .rw[a9c (by omega),a9l h,a9c (by omega),a9l h];exact⟨rfl,rfl⟩
 .rw[a9c h1,a9c h2,a9c h1,a9c h2];exact⟨rfl,rfl⟩
def a4Z(O:List Int)(s:Sr)(m:Int)(h:bU O s m):cG (ME O s)=true/\bU O (Kh O s) (m+8):=by
 have a1:=h.pk 2;have h1:=h.next 2;have a2:=h1.pk 2;have h2:=h1.next 2;have h3:=h2.next 12;have a4:=h3.pk 4;have a5:=h3.pk 5;have b4:=h3.next 4;have b5:=h3.next 5;obtain⟨c1,c2,c3⟩:=jr O s;by_cases k0:QL O s=0
 .rw[(c1 k0).1,(c1 k0).2];refine⟨(dA _).2 ?_,b4.mono (by omega)⟩;show (0<=pk O (Kg O s) 4/\_)/\_;have:pk O (Kg O s) 4=pk O (cI O (cI O (cI O s 2) 2) 12) 4:=rfl;simp only;omega
 .by_cases k1:QL O s=1
  .rw[(c2 k1).1,(c2 k1).2];refine⟨(dA _).2 ?_,b5.mono (by omega)⟩;have:pk O (Kg O s) 5=pk O (cI O (cI O (cI O s 2) 2) 12) 5:=rfl;simp only;omega
  .rw[(c3 k0 k1).1,(c3 k0 k1).2];refine⟨(dA _).2 ?_,h3.mono (by omega)⟩;simp only;omega
def sQ:nH:=⟨vC,[[.d (.slice (.int .u8)), .d (.int .i64), .d (.int .u64)]],[.b 0],[[(.slice (.int .u8)),(.int .i64),(.int .u64)]],λ (O:List Int) (pos:Int) (az:Int)=>⟨(some (bU O (Sr.mk pos az) 900000000),[⟨(.st .sig),ME O (Sr.mk pos az)⟩],[[⟨(.slice (.int .u8)),O⟩,⟨(.int .i64),(Kh O (Sr.mk pos az)).pos⟩,⟨(.int .u64),(Kh O (Sr.mk pos az)).az⟩]])⟩⟩
def E5(O:List Int)(pos:Int)(az:Int):Nat->aJ:=cj
def AT:nH.Good sQ:=by
 refine⟨aD sE,?_⟩;intro (O:List Int) (pos:Int) (az:Int) (hp:bU O (Sr.mk pos az) 900000000);refine qe [] [] [] [eg] [] [] [] [] trivial trivial trivial ⟨fj,U⟩ sE BR (E5 O pos az) rfl rfl (let v1:=Sr.mk pos az;let v6:=Kh O v1;let v7:=(2:Int);let v0:=cI O (cI O v1 v7) v7;let v2:=cI O v0 (12:Int);let v3:=(1:Int)+(pk O (cI O v1 v7) v7);let v4:=(1:Int)+(pk O v1 v7);let v5:=pk O v0 (12:Int);(((bU O v1 999999000/\v7<=1000000)/\(ai v4/\((bU O (cI O v1 v7) 999999000/\v7<=1000000)/\(ai v3/\((bU O v0 999999000/\(12:Int)<=1000000)/\(((decide (v5=(0:Int)))=true->((bU O v2 999999000/\(4:Int)<=1000000)/\((aF.mk (pk O v2 (4:Int)) v3)=(ME O v1)/\((O=O/\(((cI O v2 (4:Int)).pos)=(v6.pos)/\((cI O v2 (4:Int)).az)=(v6.az)))/\True))))/\((decide (v5=(0:Int)))=false->(((decide (v5=(1:Int)))=true->((bU O v2 999999000/\(5:Int)<=1000000)/\((aF.mk v4 (pk O v2 (5:Int)))=(ME O v1)/\((O=O/\(((cI O v2 (5:Int)).pos)=(v6.pos)/\((cI O v2 (5:Int)).az)=(v6.az)))/\True))))/\((decide (v5=(1:Int)))=false->((aF.mk v4 v3)=(ME O v1)/\((O=O/\((v2.pos)=(v6.pos)/\(v2.az)=(v6.az)))/\True))))))))))))) ?_;have q0:=hp;have q1:=q0.next 2;have q2:=q1.next 2;have q3:=q2.next 12;have p1:=q0.pk 2;have p2:=q1.pk 2;have p3:=q2.pk 12;refine⟨?_,?_,?_,?_,?_,λ _=>⟨?_,?_,⟨rfl,?_,?_⟩,U⟩,λ _=>⟨λ _=>⟨?_,?_,⟨rfl,?_,?_⟩,U⟩,λ _=>⟨?_,⟨rfl,?_,?_⟩,U⟩⟩⟩;all_goals try and_intros
 all_goals first|rfl|trivial|omega|((try simp only[N0,a9d,a8Z,ai] at *);first|omega|exact ((jr O (Sr.mk pos az)).1 (by assumption)).1.symm|exact congrArg Sr.pos ((jr O (Sr.mk pos az)).1 (by assumption)).2.symm|exact congrArg Sr.az ((jr O (Sr.mk pos az)).1 (by assumption)).2.symm|exact ((jr O (Sr.mk pos az)).2.1 (by assumption)).1.symm|exact congrArg Sr.pos ((jr O (Sr.mk pos az)).2.1 (by assumption)).2.symm|exact congrArg Sr.az ((jr O (Sr.mk pos az)).2.1 (by assumption)).2.symm|exact ((jr O (Sr.mk pos az)).2.2 (by assumption) (by assumption)).1.symm|exact congrArg Sr.pos ((jr O (Sr.mk pos az)).2.2 (by assumption) (by assumption)).2.symm|exact congrArg Sr.az ((jr O (Sr.mk pos az)).2.2 (by assumption) (by assumption)).2.symm|exact q0.mono (by decide)|exact q1.mono (by decide)|exact q2.mono (by decide)|exact q3.mono (by decide))
mutual
def cv:J->Nat
 | ⟨_,_,ae⟩=>ae.length+tB ae
def tB:List J->Nat
 | []=>0
 | k::ks=>cv k+tB ks
end
def JJ:∀ xs,tB xs=cT cv xs
 | []=>rfl
 | x::xs=>by rw[tB,cT,JJ xs]
def Ms(x:J):cv x=(x.ae.length+cT cv x.ae):=by
 cases x;simp[cv,JJ];try omega
def iZ(n:Nat):aX:=⟨pT,[.v (.st .expr)],λ (e:J)=>⟨(some (bH e<n/\cv e<=1048576),[⟨(.st .expr),e⟩])⟩⟩
def fh:aX:=⟨pT,[.v (.st .expr)],λ (e:J)=>⟨(some (cv e<=1048576),[⟨(.st .expr),e⟩])⟩⟩
def Jc(e:J):Nat->aJ:=(eA 0 (.a (Nat) (λ i=>i<=e.ae.length) (λ i=>e.ae.length - i) [0,1,6,7,8,9,10,11] (λ i=>[(14, .aN ⟨(.int .i64),((i:Int):Int)⟩)]) [2] (λ i=>[(3, .box [.aN ⟨(.int .i64),(e.ah:Int)⟩, .aN ⟨(.int .i64),(e.bl:Int)⟩, .aC 2400]),(2400, .aC (.st .expr) (e.ae.take i:List J))])) cj)
def Hf(n:Nat)(hE:bo [])(hO:vX [iZ n])(hM:A0 [])(hS:yb []):aX.tK (iZ (n+1)):=by
 refine⟨aD jH,?_⟩;intro (e:J) (hp:bH e<n+1/\cv e<=1048576);refine p9 [] [iZ n] [] [] [21,22,23] [] [] [1] hE hO hM hS jH EA (Jc e) (let v0:=(e.ae.length:Int);let v1:=((0:Int)=(0:Int)/\((0:Int)=(0:Int)/\(True/\True)))/\True;let v2:=(3:Nat)=3/\(2:Nat)=2;let v3:=e.ah=e.ah/\(e.bl=e.bl/\(True/\True));((ai e.ah->(ai e.bl->(e.ae.length<=140737488355328->(ai v0->((∃ i1:Nat,(i1<=e.ae.length/\((True/\(True/\(e.ae=e.ae/\(v0=v0/\((0:Int)=(i1:Int)/\True)))))/\(v3/\((e.ae.take i1)=[]/\v1)))))/\(∀ i1:Nat,let v4:=e.ae.getD i1 zE;(i1<=e.ae.length->(((decide ((i1:Int)<v0))=true->(aB (i1:Int) e.ae.length/\(v2/\((2400:Nat)=2400/\((v4.ah=v4.ah/\(v4.bl=v4.bl/\(v4.ae=v4.ae/\True)))/\((bH (aU v4)<n/\cv (aU v4)<=1048576)/\(v2/\((2400:Nat)=2400/\(v2/\((2400:Nat)=2400/\(bz ((e.ae.take i1).length+([(aU v4)]).length) 40/\(ai ((i1:Int)+(1:Int))/\(∃ i2:Nat,(i2<=e.ae.length/\(e.ae.length - i2<e.ae.length - i1/\((True/\(True/\(e.ae=e.ae/\(v0=v0/\(((i1:Int)+(1:Int))=(i2:Int)/\True)))))/\(v3/\(((e.ae.take i1)++([(aU v4)]))=(e.ae.take i2)/\v1))))))))))))))))))/\((decide ((i1:Int)<v0))=false->(J.mk e.ah e.bl (e.ae.take i1))=e))))))))))) ?_;rw[Ms] at hp;have f0:=fK e;have f1:=λ i (h:i<e.ae.length)=>Lq cv zE e.ae i h;have f2:=λ i (h:i<e.ae.length)=>cB zE e.ae i h;have f3:=λ i (h:i<e.ae.length)=>eu zE e.ae i h;have f4:e.ae.take 0=[]:=by simp
 have f5:∀ i,e.ae.length<=i->e.ae.take i=e.ae:=λ i h=>a9A h;have f6:∀ i,(e.ae.take i).length<=e.ae.length:=λ i=>by simp;omega
 have f7:∀ ks,ks=e.ae->J.mk e.ah e.bl ks=e:=λ ks h=>by subst h;cases e;rfl
 refine λ _ _ _ _=>⟨⟨0,?_,⟨U,U,rfl,rfl,?_,U⟩,⟨rfl,rfl,U,U⟩,?_,⟨rfl,rfl,U,U⟩,U⟩,λ i1 _=>⟨λ _=>⟨?_,⟨?_,?_⟩,?_,⟨rfl,rfl,rfl,?_⟩,?_,⟨?_,?_⟩,?_,⟨?_,?_⟩,?_,?_,?_,i1+1,?_,?_,⟨U,U,rfl,rfl,?_,U⟩,⟨rfl,rfl,U,U⟩,?_,⟨rfl,rfl,U,U⟩,U⟩,λ _=>?_⟩⟩;all_goals try and_intros
 all_goals try (first|with_reducible rfl|with_reducible assumption)
 all_goals try simp only[J.eta,cC] at *
 all_goals first|rfl|trivial|omega|(simp only[a9d,a8Z,aB,ai,bz,a9f,a9v] at *;first|omega|(have:=f6 i1;omega)|exact f7 _ (f5 _ (by omega))|grind)|grind
def LD:∀ n,vX [iZ n]
 | 0=>⟨⟨aD jH,λ _ h=>absurd h.1 (a9K _)⟩,U⟩
 | n+1=>by
  have ih:=LD n;exact⟨Hf n trivial ⟨ih.1,U⟩ trivial trivial,U⟩
def DI:aX.tK fh :=
 ⟨aD jH,λ e hp=>(LD (bH e+1)).1.2 e (⟨a9o _,hp⟩)⟩
def lA(n:Nat):aX:=⟨oB,[.r (.st .expr)],λ (e:J)=>⟨(some (bH e<n/\cv e<=1048576),[⟨(.st .expr),e⟩])⟩⟩
def fA:aX:=⟨oB,[.r (.st .expr)],λ (e:J)=>⟨(some (cv e<=1048576),[⟨(.st .expr),e⟩])⟩⟩
def Nr(e:J):Nat->aJ:=(eA 0 (.a (Nat) (λ i=>i<=e.ae.length) (λ i=>e.ae.length - i) [5,6,7,8,9,10,11,12,13] (λ i=>[(4, .aN ⟨(.int .i64),((i:Int):Int)⟩)]) [2] (λ i=>[(3, .box [.aN ⟨(.int .i64),(e.ah:Int)⟩, .aN ⟨(.int .i64),(e.bl:Int)⟩, .aC 3400]),(3400, .aC (.st .expr) (e.ae.take i:List J))])) cj)
def Li(n:Nat)(hE:bo [])(hO:vX [lA n])(hM:A0 [])(hS:yb []):aX.tK (lA (n+1)):=by
 refine⟨aD mF,?_⟩;intro (e:J) (hp:bH e<n+1/\cv e<=1048576);refine p9 [] [lA n] [] [] [31,32,33] [] [] [] hE hO hM hS mF H3 (Nr e) (let v0:=((0:Int)=(0:Int)/\((0:Int)=(0:Int)/\(True/\True)))/\True;let v1:=(3:Nat)=3/\(2:Nat)=2;let v2:=e.ah=e.ah/\(e.bl=e.bl/\(True/\True));let v3:=(e.ae.length:Int);((ai e.ah->(ai e.bl->((∃ i1:Nat,(i1<=e.ae.length/\((e=e/\(True/\(True/\((0:Int)=(i1:Int)/\True))))/\(v2/\((e.ae.take i1)=[]/\v0)))))/\(∀ i1:Nat,let v4:=e.ae.getD i1 zE;let v5:=(i1:Int);(i1<=e.ae.length->(e.ae.length<=140737488355328->(ai v3->(((decide (v5<v3))=true->(e.ae.length<=140737488355328->(ai v5->(aB v5 e.ae.length/\(v1/\((3400:Nat)=3400/\(e=e/\(e=e/\(e.ae=e.ae/\(e.ae=e.ae/\(v5=v5/\(aB v5 e.ae.length/\(v4=v4/\((bH v4<n/\cv v4<=1048576)/\(v1/\((3400:Nat)=3400/\(v1/\((3400:Nat)=3400/\(bz ((e.ae.take i1).length+([(aU v4)]).length) 40/\(ai (v5+(1:Int))/\(∃ i2:Nat,(i2<=e.ae.length/\(e.ae.length - i2<e.ae.length - i1/\((e=e/\(True/\(True/\((v5+(1:Int))=(i2:Int)/\True))))/\(v2/\(((e.ae.take i1)++([(aU v4)]))=(e.ae.take i2)/\v0))))))))))))))))))))))))))/\((decide (v5<v3))=false->(J.mk e.ah e.bl (e.ae.take i1))=e))))))))))) ?_;rw[Ms] at hp;have f0:=fK e;have f1:=λ i (h:i<e.ae.length)=>Lq cv zE e.ae i h;have f2:=λ i (h:i<e.ae.length)=>cB zE e.ae i h;have f3:=λ i (h:i<e.ae.length)=>eu zE e.ae i h;have f4:e.ae.take 0=[]:=by simp
 have f5:∀ i,e.ae.length<=i->e.ae.take i=e.ae:=λ i h=>a9A h;have f6:∀ i,(e.ae.take i).length<=e.ae.length:=λ i=>by simp;omega
 have f7:∀ ks,ks=e.ae->J.mk e.ah e.bl ks=e:=λ ks h=>by subst h;cases e;rfl
 refine λ _ _=>⟨⟨0,?_,⟨rfl,U,U,?_,U⟩,⟨rfl,rfl,U,U⟩,?_,⟨rfl,rfl,U,U⟩,U⟩,λ i1 _ _ _=>⟨λ _ _ _=>⟨?_,⟨?_,?_⟩,?_,rfl,rfl,rfl,rfl,rfl,?_,rfl,?_,⟨?_,?_⟩,?_,⟨?_,?_⟩,?_,?_,?_,i1+1,?_,?_,⟨rfl,U,U,?_,U⟩,⟨rfl,rfl,U,U⟩,?_,⟨rfl,rfl,U,U⟩,U⟩,λ _=>?_⟩⟩;all_goals try and_intros
 all_goals try (first|with_reducible rfl|with_reducible assumption)
 all_goals try simp only[J.eta,cC] at *
 all_goals first|rfl|trivial|omega|(simp only[a9d,a8Z,aB,ai,bz,a9f,a9v] at *;first|omega|(have:=f6 i1;omega)|exact f7 _ (f5 _ (by omega))|grind)|grind
def N6:∀ n,vX [lA n]
 | 0=>⟨⟨aD mF,λ _ h=>absurd h.1 (a9K _)⟩,U⟩
 | n+1=>by
  have ih:=N6 n;exact⟨Li n trivial ⟨ih.1,U⟩ trivial trivial,U⟩
def He:aX.tK fA :=
 ⟨aD mF,λ e hp=>(N6 (bH e+1)).1.2 e (⟨a9o _,hp⟩)⟩
def pQ:aX:=⟨mQ,[.v (.int .i64), .o (.st .expr), .o (.st .expr)],λ (k:Int) (a:J) (b:J)=>⟨(none,[⟨(.st .expr),J.mk k 0 [a,b]⟩])⟩⟩
def K2(k:Int)(a:J)(b:J):Nat->aJ:=cj
def E6:aX.tK pQ:=by
 refine⟨aD kJ,?_⟩;intro (k:Int) (a:J) (b:J) _;refine p9 [] [] [] [] [10] [] [] [] trivial trivial trivial trivial kJ tW (K2 k a b) ((J.mk k (0:Int) ([(aU a),(aU b)]))=(J.mk k 0 [a,b])) ?_;refine ?_;all_goals try and_intros
 all_goals try (first|with_reducible rfl|with_reducible assumption)
 all_goals try simp only[J.eta,cC] at *
 all_goals first|rfl|trivial|omega|(simp only[a9d,a8Z,aB,ai,ca,fv,dh,bz] at *;omega)|(simp[aB,ai] at *;omega)|grind
def jM:aX.Good fA:=He.plain
mutual
def Sh:∀ x:J,cv x+1=ar x
 | ⟨_,_,ks⟩=>by
  have:=Qw ks;simp only[cv,ar];omega
def Qw:∀ xs:List J,xs.length+tB xs=fR xs
 | []=>rfl
 | x::xs=>by
  have h1:=Sh x;have h2:=Qw xs;simp only[tB,fR,a9f];omega
end
def lfA(a:Int)(c:Bool):Bool := !c&&decide (0<a)
def xX(O:List Int)(a:Int)(c:Bool)(s:Sr):Sr:=if lfA a c=true then cI O s 3 else s
def lfX(O:List Int)(a:Int)(c:Bool)(s:Sr):Bool:=lfA a c && !oD O s 3
def K0(O:List Int)(t:Int)(s:Sr):Sr:=if 0<t then cI O s 4 else s
def lfY(O:List Int)(t:Int)(s:Sr):Bool:=decide (0<t) && !oD O s 4
def PD(O:List Int)(t a:Int)(c:Bool)(s:Sr):J :=
 if lfX O a c s=true then J.mk 4 (pk O (xX O a c s) a) [] else if lfY O t (xX O a c s)=true then J.mk 3 (pk O (K0 O t (xX O a c s)) t) [] else J.mk (1+pk O (K0 O t (xX O a c s)) 2) 0 []
def Jb(O:List Int)(t a:Int)(c:Bool)(s:Sr):Sr :=
 if lfX O a c s=true then cI O (xX O a c s) a else if lfY O t (xX O a c s)=true then cI O (K0 O t (xX O a c s)) t else cI O (K0 O t (xX O a c s)) 2
structure Gn where
 e:J
 s:Sr
 left:Int
def UM(O:List Int)(t a:Int)(c:Bool)(s:Sr)(l:Int):Gn:=⟨PD O t a c s,Jb O t a c s,l⟩
def MI(O:List Int)(c:Bool)(s:Sr)(n:Int):Bool:=c||oD O s n
def Gt(O:List Int)(c:Bool)(s:Sr)(n:Int):Sr:=if c=true then s else cI O s n
def mV(O:List Int)(s:Sr):Int:=pk O (cI O s 6) 10
def iF(O:List Int)(s:Sr):Sr:=cI O (cI O s 6) 10
def dV(O:List Int)(t a:Int):Nat->Bool->Sr->Int->Gn
 | 0,c,s,left=>UM O t a c s (left - 1)
 | d+1,c,s,left =>
  if left - 1<1 then UM O t a c s (left - 1) else
  if oD O s 6=true then UM O t a c (cI O s 6) (left - 1) else
  if mV O s=0\/(c=true/\mV O s<4) then ⟨J.mk 5 0 [(dV O t a d true (iF O s) (left - 1)).e],(dV O t a d true (iF O s) (left - 1)).s,(dV O t a d true (iF O s) (left - 1)).left⟩ else
  if mV O s<4 then ⟨J.mk 8 0 [(dV O t a d false (iF O s) (left - 1)).e],(dV O t a d false (iF O s) (left - 1)).s,(dV O t a d false (iF O s) (left - 1)).left⟩ else
  let ra:=dV O t a d (MI O c (iF O s) 5) (Gt O c (iF O s) 5) (left - 1);let rb:=dV O t a d (MI O c ra.s 6) (Gt O c ra.s 6) ra.left;⟨J.mk (if mV O s<6 then 6 else 7) 0 [ra.e,rb.e],rb.s,rb.left⟩
def wG:Nat->Nat
 | 0=>1
 | d+1=>1+wG d+wG d
structure ZY(O:List Int)(t a:Int)(d:Nat)(c:Bool)(m left:Int)(r:Gn):Prop where
 tr:bR (t - 1) (a - 1) r.e=true
 cn:c=true->bD r.e=true
 nd:ar r.e<=wG d
 dp:bF r.e<=d+1
 sr:bU O r.s (m+16 * wG d)
 l0:left - wG d<=r.left
 l1:r.left<=left
def JT(d:Nat):1<=wG d:=by cases d<;>simp[wG];omega
def UU(t a k n:Int)(hk:cA k=0)(h5:¬ k=5)(hn:if k=3 then 0<=n/\n<=t else if k=4 then 0<=n/\n<=a else n=0):bR t a (J.mk k n [])=true:=by
 simp only[bR,qn,oh,b1u];rw[a9Z (show cA k=(([]:List J).length:Int) from hk),b0D h5];simp only[b1s,a9J,b3q,b1u];split
 .rename_i h;rw[a9l h] at hn;exact a9Z hn
 .rename_i h;rw[a9c h] at hn;split
  .rename_i h';rw[a9l h'] at hn;exact a9Z hn
  .rename_i h';rw[a9c h'] at hn;exact a9Z hn
def Xf(O:List Int)(t a:Int)(c:Bool)(s:Sr)(m l left b:Int)(d:Nat)(hb:m+6<=b+16 * (wG d:Int))(h:bU O s m)(ht:0<=t/\t<=3)(ha:0<=a/\a<=4)(hl:l=left - 1):ZY O t a d c b left (UM O t a c s l):=by
 have hw:=JT d;have h1:bU O (xX O a c s) (m+2):=by
  unfold xX;split
  .exact h.next 3
  .exact h.mono (by omega)
 have h2:bU O (K0 O t (xX O a c s)) (m+4):=by
  unfold K0;split
  .exact (h1.next 4).mono (by omega)
  .exact h1.mono (by omega)
 have key:∀ (k n:Int) (s':Sr),cA k=0->¬ k=5->(if k=3 then 0<=n/\n<=t - 1 else if k=4 then 0<=n/\n<=a - 1 else n=0)->(c=true->ua k=true)->bU O s' (m+6) ->
   PD O t a c s=J.mk k n []->Jb O t a c s=s'->ZY O t a d c b left (UM O t a c s l):=by
  intro k n s' hk h5 hn hc hs e1 e2;unfold UM;rw[e1,e2];refine⟨UU _ _ k n hk h5 hn,λ q=>?_,by simp[ar,fR];omega,by simp[bF,jX],hs.mono (by omega),by show left - _<=l;omega,by show l<=left;omega⟩;simp[bD,zZ,hc q]
 by_cases x:lfX O a c s=true
 .have hx:=x;simp only[lfX,lfA,Bool.and_eq_true,Bool.not_eq_true',decide_eq_true_eq] at hx;obtain⟨⟨EW,hx2⟩,hx3⟩:=hx;have hp:=h1.pk a;refine key 4 (pk O (xX O a c s) a) (cI O (xX O a c s) a) (by decide) (by decide) ?_ (λ q=>by rw[EW] at q;cases q) ((h1.next a).mono (by omega)) (by unfold PD;rw[if_pos x]) (by unfold Jb;rw[if_pos x]);rw[if_neg (by decide),if_pos rfl];omega
 .by_cases y:lfY O t (xX O a c s)=true
  .have hy:=y;simp only[lfY,Bool.and_eq_true,Bool.not_eq_true',decide_eq_true_eq] at hy;have hp:=h2.pk t;refine key 3 (pk O (K0 O t (xX O a c s)) t) (cI O (K0 O t (xX O a c s)) t) (by decide) (by decide) ?_ (λ _=>by decide) ((h2.next t).mono (by omega)) (by unfold PD;rw[if_neg x,if_pos y]) (by unfold Jb;rw[if_neg x,if_pos y]);rw[if_pos rfl];omega
  .have hp:=h2.pk 2;have hv:pk O (K0 O t (xX O a c s)) 2=0\/pk O (K0 O t (xX O a c s)) 2=1:=by omega
   refine key (1+pk O (K0 O t (xX O a c s)) 2) 0 (cI O (K0 O t (xX O a c s)) 2) ?_ (by omega) ?_ (λ _=>?_) ((h2.next 2).mono (by omega)) (by unfold PD;rw[if_neg x,if_neg y]) (by unfold Jb;rw[if_neg x,if_neg y])
   .rcases hv with e|e<;>rw[e]<;>decide
   .rw[a9c (by omega),a9c (by omega)]
   .rcases hv with e|e<;>rw[e]<;>decide
def Lt(t a:Int)(x:J)(k:Int)(h:bR t a x=true)(hk:(k=5/\bD x=true)\/k=8):bR t a (J.mk k 0 [x])=true:=by
 simp only[bR,qn,oh,h,b1u];rcases hk with ⟨rfl,hc⟩|rfl
 .simp[cA,hc]
 .simp[cA]
def Sk(t a:Int)(x y:J)(k:Int)(h1:bR t a x=true)(h2:bR t a y=true)(hk:k=6\/k=7):bR t a (J.mk k 0 [x,y])=true:=by
 simp only[bR,qn,oh,h1,h2,b1u];rcases hk with rfl|rfl<;>simp[cA]
def Kj(O:List Int)(t a:Int)(ht:0<=t/\t<=3)(ha:0<=a/\a<=4):∀ (d:Nat) (c:Bool) (s:Sr) (m left:Int),bU O s m->ZY O t a d c m left (dV O t a d c s left)
 | 0,c,s,m,left,h=>Xf O t a c s m (left - 1) left m 0 (by simp only[wG];omega) h ht ha rfl
 | d+1,c,s,m,left,h=>by
  have hw:=JT d;have hw1:wG (d+1)=1+wG d+wG d:=rfl;unfold dV;by_cases c1:left - 1<1
  .rw[a9l c1];exact Xf O t a c s m (left - 1) left m (d+1) (by omega) h ht ha rfl
  rw[a9c c1];by_cases c2:oD O s 6=true
  .rw[a9l c2];exact Xf O t a c _ (m+2) (left - 1) left m (d+1) (by omega) (h.next 6) ht ha rfl
  rw[a9c c2];have h2:bU O (iF O s) (m+4):=((h.next 6).next 10).mono (by omega);by_cases c3:mV O s=0\/(c=true/\mV O s<4)
  .rw[a9l c3];have r:=Kj O t a ht ha d true (iF O s) (m+4) (left - 1) h2;refine⟨Lt _ _ _ 5 r.tr (.inl ⟨rfl,r.cn rfl⟩),λ _=>?_,?_,?_,r.sr.mono (by omega),?_,?_⟩
   .simp[bD,zZ,r.cn rfl,ua]
   .have:=r.nd;simp only[ar,fR];omega
   .have:=r.dp;simp only[bF,jX];omega
   .have:=r.l0;show left - _<=(dV O t a d true (iF O s) (left - 1)).left;omega
   .have:=r.l1;show (dV O t a d true (iF O s) (left - 1)).left<=left;omega
  rw[a9c c3];by_cases c4:mV O s<4
  .rw[a9l c4];have r:=Kj O t a ht ha d false (iF O s) (m+4) (left - 1) h2;refine⟨Lt _ _ _ 8 r.tr (.inr rfl),λ q=>absurd (.inr ⟨q,c4⟩) c3,?_,?_,r.sr.mono (by omega),?_,?_⟩
   .have:=r.nd;simp only[ar,fR];omega
   .have:=r.dp;simp only[bF,jX];omega
   .have:=r.l0;show left - _<=(dV O t a d false (iF O s) (left - 1)).left;omega
   .have:=r.l1;show (dV O t a d false (iF O s) (left - 1)).left<=left;omega
  rw[a9c c4];have hS:∀ (x:Sr) (k n:Int),bU O x k->bU O (Gt O c x n) (k+2):=λ x k n q=>by
   unfold Gt;split
   .exact q.mono (by omega)
   .exact q.next n
  have ra:=Kj O t a ht ha d (MI O c (iF O s) 5) (Gt O c (iF O s) 5) (m+4+2) (left - 1) (hS _ _ 5 h2);generalize dV O t a d (MI O c (iF O s) 5) (Gt O c (iF O s) 5) (left - 1)=A at ra;have rb:=Kj O t a ht ha d (MI O c A.s 6) (Gt O c A.s 6) (m+4+2+16 * wG d+2) A.left (hS _ _ 6 ra.sr);simp only;generalize dV O t a d (MI O c A.s 6) (Gt O c A.s 6) A.left=B at rb;have hk:(if mV O s<6 then (6:Int) else 7)=6\/(if mV O s<6 then (6:Int) else 7)=7:=by split<;>simp
  generalize (if mV O s<6 then (6:Int) else 7)=k at hk;refine⟨Sk _ _ _ _ k ra.tr rb.tr hk,λ q=>?_,?_,?_,rb.sr.mono (by omega),?_,?_⟩
  .have q1:=ra.cn (by simp[MI,q]);have q2:=rb.cn (by simp[MI,q]);rcases hk with rfl|rfl<;>simp[bD,zZ,q1,q2,ua]
  .have:=ra.nd;have:=rb.nd;simp only[ar,fR];omega
  .have:=ra.dp;have:=rb.dp;simp only[bF,jX];omega
  .have:=ra.l0;have:=rb.l0;show left - _<=B.left;omega
  .have:=ra.l1;have:=rb.l1;show B.left<=left;omega
def kh:nH:=⟨sV,[[.p 1, .d (.int .i64), .d (.int .i64), .d (.int .i64)],[.d (.slice (.int .u8)), .d (.int .i64), .d (.int .u64)]],[.b 0, .v .bool],[[(.int .i64),(.int .i64),(.int .i64)],[(.slice (.int .u8)),(.int .i64),(.int .u64)]],λ (c:Bool) (tn:Int) (an:Int) (left:Int) (O:List Int) (pos:Int) (az:Int)=>⟨(some (bU O (Sr.mk pos az) 990000000/\(0<=tn/\tn<=3)/\0<=an/\an<=4),[⟨(.st .expr),PD O tn an c (Sr.mk pos az)⟩],[[⟨(.int .i64),tn⟩,⟨(.int .i64),an⟩,⟨(.int .i64),left⟩],[⟨(.slice (.int .u8)),O⟩,⟨(.int .i64),(Jb O tn an c (Sr.mk pos az)).pos⟩,⟨(.int .u64),(Jb O tn an c (Sr.mk pos az)).az⟩]])⟩⟩
def Dq(c:Bool)(tn:Int)(an:Int)(left:Int)(O:List Int)(pos:Int)(az:Int):Nat->aJ:=cj
abbrev AA(c:Bool)(tn:Int)(an:Int)(left:Int)(O:List Int)(pos:Int)(az:Int):Prop:=(let v3:=tn=tn/\(an=an/\left=left);let v5:=Sr.mk pos az;let v1:=Jb O tn an c v5;let v4:=PD O tn an c v5;let v6:=(2:Int);let v7:=(3:Int);let v0:=cI O v5 v7;let v2:=cI O v0 (4:Int);((bU O v5 999999000/\v7<=1000000)/\(((!(oD O v5 v7))=true ->
 (ai an ->
 ((bU O v0 999999000/\an<=1000000)/\((J.mk (4:Int) (pk O v0 an) [])=v4/\(v3/\((O=O/\(((cI O v0 an).pos)=(v1.pos)/\((cI O v0 an).az)=(v1.az)))/\True))))))/\((!(oD O v5 v7))=false ->
 (ai tn ->
 (((decide ((0:Int)<tn))=true ->
 ((bU O v0 999999000/\(4:Int)<=1000000)/\(((!(oD O v0 (4:Int)))=true ->
 (ai tn ->
 ((bU O v2 999999000/\tn<=1000000)/\((J.mk v7 (pk O v2 tn) [])=v4/\(v3/\((O=O/\(((cI O v2 tn).pos)=(v1.pos)/\((cI O v2 tn).az)=(v1.az)))/\True))))))/\((!(oD O v0 (4:Int)))=false ->
 ((bU O v2 999999000/\v6<=1000000)/\(ai ((1:Int)+(pk O v2 v6))/\((J.mk ((1:Int)+(pk O v2 v6)) (0:Int) [])=v4/\(v3/\((O=O/\(((cI O v2 v6).pos)=(v1.pos)/\((cI O v2 v6).az)=(v1.az)))/\True)))))))))/\((decide ((0:Int)<tn))=(!true) ->
 ((false=true ->
 (ai tn ->
 ((bU O v0 999999000/\tn<=1000000)/\((J.mk v7 (pk O v0 tn) [])=v4/\(v3/\((O=O/\(((cI O v0 tn).pos)=(v1.pos)/\((cI O v0 tn).az)=(v1.az)))/\True))))))/\(false=false ->
 ((bU O v0 999999000/\v6<=1000000)/\(ai ((1:Int)+(pk O v0 v6))/\((J.mk ((1:Int)+(pk O v0 v6)) (0:Int) [])=v4/\(v3/\((O=O/\(((cI O v0 v6).pos)=(v1.pos)/\((cI O v0 v6).az)=(v1.az)))/\True))))))))))))))
abbrev AB(c:Bool)(tn:Int)(an:Int)(left:Int)(O:List Int)(pos:Int)(az:Int):Prop:=(let v0:=Sr.mk pos az;let v1:=Jb O tn an c v0;let v2:=cI O v0 (4:Int);let v3:=tn=tn/\(an=an/\left=left);let v4:=PD O tn an c v0;let v5:=(2:Int);((false=true ->
 (ai an ->
 ((bU O v0 999999000/\an<=1000000)/\((J.mk (4:Int) (pk O v0 an) [])=v4/\(v3/\((O=O/\(((cI O v0 an).pos)=(v1.pos)/\((cI O v0 an).az)=(v1.az)))/\True))))))/\(false=false ->
 (ai tn ->
 (((decide ((0:Int)<tn))=true ->
 ((bU O v0 999999000/\(4:Int)<=1000000)/\(((!(oD O v0 (4:Int)))=true ->
 (ai tn ->
 ((bU O v2 999999000/\tn<=1000000)/\((J.mk (3:Int) (pk O v2 tn) [])=v4/\(v3/\((O=O/\(((cI O v2 tn).pos)=(v1.pos)/\((cI O v2 tn).az)=(v1.az)))/\True))))))/\((!(oD O v0 (4:Int)))=false ->
 ((bU O v2 999999000/\v5<=1000000)/\(ai ((1:Int)+(pk O v2 v5))/\((J.mk ((1:Int)+(pk O v2 v5)) (0:Int) [])=v4/\(v3/\((O=O/\(((cI O v2 v5).pos)=(v1.pos)/\((cI O v2 v5).az)=(v1.az)))/\True)))))))))/\((decide ((0:Int)<tn))=(!true) ->
 ((false=true ->
 (ai tn ->
 ((bU O v0 999999000/\tn<=1000000)/\((J.mk (3:Int) (pk O v0 tn) [])=v4/\(v3/\((O=O/\(((cI O v0 tn).pos)=(v1.pos)/\((cI O v0 tn).az)=(v1.az)))/\True))))))/\(false=false ->
 ((bU O v0 999999000/\v5<=1000000)/\(ai ((1:Int)+(pk O v0 v5))/\((J.mk ((1:Int)+(pk O v0 v5)) (0:Int) [])=v4/\(v3/\((O=O/\(((cI O v0 v5).pos)=(v1.pos)/\((cI O v0 v5).az)=(v1.az)))/\True)))))))))))))
def zy:nH.Good kh:=by
 refine⟨aD qz,?_⟩;intro (c:Bool) (tn:Int) (an:Int) (left:Int) (O:List Int) (pos:Int) (az:Int) (hp:bU O (Sr.mk pos az) 990000000/\(0<=tn/\tn<=3)/\0<=an/\an<=4);refine qe [] [] [] [hJ,eg] [] [] [] [] trivial trivial trivial ⟨oH,fj,U⟩ qz zT (Dq c tn an left O pos az) rfl rfl (let v0:=AA c tn an left O pos az;let v1:=AB c tn an left O pos az;((((!c)=true->(ai an->(((decide ((0:Int)<an))=true->v0)/\((decide ((0:Int)<an))=(!true)->v1))))/\((!c)=(!true)->((false=true->v0)/\(false=(!true)->v1)))))) ?_;have p0:=hp.1.pk 2;have p1:=(hp.1.next 3).pk 2;have p2:=(hp.1.next 4).pk 2;have p3:=((hp.1.next 3).next 4).pk 2;refine⟨λ _ _=>⟨λ _=>⟨?_,λ _ _=>⟨?_,?_,⟨rfl,rfl,rfl⟩,⟨rfl,?_,?_⟩,U⟩,λ _ _=>⟨λ _=>⟨?_,λ _ _=>⟨?_,?_,⟨rfl,rfl,rfl⟩,⟨rfl,?_,?_⟩,U⟩,λ _=>⟨?_,?_,?_,⟨rfl,rfl,rfl⟩,⟨rfl,?_,?_⟩,U⟩⟩,λ _=>⟨λ _ _=>⟨?_,?_,⟨rfl,rfl,rfl⟩,⟨rfl,?_,?_⟩,U⟩,λ _=>⟨?_,?_,?_,⟨rfl,rfl,rfl⟩,⟨rfl,?_,?_⟩,U⟩⟩⟩⟩,λ _=>⟨λ _ _=>⟨?_,?_,⟨rfl,rfl,rfl⟩,⟨rfl,?_,?_⟩,U⟩,λ _ _=>⟨λ _=>⟨?_,λ _ _=>⟨?_,?_,⟨rfl,rfl,rfl⟩,⟨rfl,?_,?_⟩,U⟩,λ _=>⟨?_,?_,?_,⟨rfl,rfl,rfl⟩,⟨rfl,?_,?_⟩,U⟩⟩,λ _=>⟨λ _ _=>⟨?_,?_,⟨rfl,rfl,rfl⟩,⟨rfl,?_,?_⟩,U⟩,λ _=>⟨?_,?_,?_,⟨rfl,rfl,rfl⟩,⟨rfl,?_,?_⟩,U⟩⟩⟩⟩⟩,λ _=>⟨λ _=>⟨?_,λ _ _=>⟨?_,?_,⟨rfl,rfl,rfl⟩,⟨rfl,?_,?_⟩,U⟩,λ _ _=>⟨λ _=>⟨?_,λ _ _=>⟨?_,?_,⟨rfl,rfl,rfl⟩,⟨rfl,?_,?_⟩,U⟩,λ _=>⟨?_,?_,?_,⟨rfl,rfl,rfl⟩,⟨rfl,?_,?_⟩,U⟩⟩,λ _=>⟨λ _ _=>⟨?_,?_,⟨rfl,rfl,rfl⟩,⟨rfl,?_,?_⟩,U⟩,λ _=>⟨?_,?_,?_,⟨rfl,rfl,rfl⟩,⟨rfl,?_,?_⟩,U⟩⟩⟩⟩,λ _=>⟨λ _ _=>⟨?_,?_,⟨rfl,rfl,rfl⟩,⟨rfl,?_,?_⟩,U⟩,λ _ _=>⟨λ _=>⟨?_,λ _ _=>⟨?_,?_,⟨rfl,rfl,rfl⟩,⟨rfl,?_,?_⟩,U⟩,λ _=>⟨?_,?_,?_,⟨rfl,rfl,rfl⟩,⟨rfl,?_,?_⟩,U⟩⟩,λ _=>⟨λ _ _=>⟨?_,?_,⟨rfl,rfl,rfl⟩,⟨rfl,?_,?_⟩,U⟩,λ _=>⟨?_,?_,?_,⟨rfl,rfl,rfl⟩,⟨rfl,?_,?_⟩,U⟩⟩⟩⟩⟩⟩;all_goals try and_intros
 all_goals (try simp only[N0] at *);first|omega|(first|exact bU.mono hp.1 (by decide)|exact bU.mono (hp.1.next _) (by decide)|exact bU.mono ((hp.1.next _).next _) (by decide))|(cases c<;>grind [PD,Jb,lfX,lfY,xX,K0,lfA])
def pg(aP:Int)(h:¬ aP<1):aP.toNat=(aP - 1).toNat+1:=by omega
def QE(aP:Int)(h:¬ aP<1):(wG aP.toNat:Int)=1+2 * (wG (aP - 1).toNat:Int):=by
 rw[pg aP h];simp only[wG];omega
def a5d(O:List Int)(t a aP left:Int)(c:Bool)(s:Sr)(h:aP<1\/left - 1<1):dV O t a aP.toNat c s left=UM O t a c s (left - 1):=by
 by_cases hd:aP<1
 .rw[show aP.toNat=0 by omega,dV]
 .rw[pg aP hd,dV,a9l (by omega)]
def a5e(O:List Int)(t a aP left:Int)(c:Bool)(s:Sr)(hd:¬ aP<1)(hl:¬ left - 1<1)(h:oD O s 6=true):dV O t a aP.toNat c s left=UM O t a c (cI O s 6) (left - 1):=by
 rw[pg aP hd,dV,a9c hl,a9l h]
def a5D{x:Int}{c:Bool}(h2:¬ x=0)(h3:c=false):¬ (x=0\/(c=true/\x<4)):=by
 intro q;rcases q with q|q
 .exact h2 q
 .exact absurd (q.1.symm.trans h3) (by decide)
structure BL(O:List Int)(aP left:Int)(s:Sr):Prop where
 d:¬ aP<1
 l:¬ left - 1<1
 o:oD O s 6=false
def a5f(O:List Int)(t a aP left:Int)(c:Bool)(s:Sr)(g:BL O aP left s)(h:mV O s=0\/(c=true/\mV O s<4)):dV O t a aP.toNat c s left=⟨J.mk 5 0 [(dV O t a (aP - 1).toNat true (iF O s) (left - 1)).e],(dV O t a (aP - 1).toNat true (iF O s) (left - 1)).s,(dV O t a (aP - 1).toNat true (iF O s) (left - 1)).left⟩:=by
 rw[pg aP g.d,dV,a9c g.l,a9c (by rw[g.o];decide),a9l h]
def a5g(O:List Int)(t a aP left:Int)(c:Bool)(s:Sr)(g:BL O aP left s)(h:¬ (mV O s=0\/(c=true/\mV O s<4)))(h4:mV O s<4):dV O t a aP.toNat c s left=⟨J.mk 8 0 [(dV O t a (aP - 1).toNat false (iF O s) (left - 1)).e],(dV O t a (aP - 1).toNat false (iF O s) (left - 1)).s,(dV O t a (aP - 1).toNat false (iF O s) (left - 1)).left⟩:=by
 rw[pg aP g.d,dV,a9c g.l,a9c (by rw[g.o];decide),a9c h,a9l h4]
def xN(O:List Int)(t a aP left:Int)(c:Bool)(s:Sr):Gn:=dV O t a (aP - 1).toNat (MI O c (iF O s) 5) (Gt O c (iF O s) 5) (left - 1)
def QP(O:List Int)(t a aP:Int)(c:Bool)(r:Gn):Gn:=dV O t a (aP - 1).toNat (MI O c r.s 6) (Gt O c r.s 6) r.left
def gnX(O:List Int)(s:Sr):Int:=if mV O s<6 then 6 else 7
def a0C(O:List Int)(t a aP left:Int)(c:Bool)(s:Sr)(g:BL O aP left s)(h4:¬ mV O s<4):dV O t a aP.toNat c s left=⟨J.mk (gnX O s) 0 [(xN O t a aP left c s).e,(QP O t a aP c (xN O t a aP left c s)).e],(QP O t a aP c (xN O t a aP left c s)).s,(QP O t a aP c (xN O t a aP left c s)).left⟩:=by
 rw[pg aP g.d,dV,a9c g.l,a9c (by rw[g.o];decide),a9c,a9c h4]
 .rfl
 .have:=g.o;intro q;rcases q with q|q<;>omega
structure Wd(O:List Int)(aP left:Int)(s:Sr)(k:Int):Prop where
 s:bU O s (980000000 - 16 * (wG (aP - 1).toNat:Int) - k)
 l0 : -1000000+(wG (aP - 1).toNat:Int)<=left
 l1:left<=1000000
def Ya(O:List Int)(c:Bool)(s:Sr)(n k:Int)(h:bU O s k):bU O (Gt O c s n) (k+2):=by
 unfold Gt;split
 .exact h.mono (by omega)
 .exact h.next n
def a5h(O:List Int)(aP left:Int)(s:Sr)(hd:¬ aP<1)(hs:bU O s (980000000 - 16 * (wG aP.toNat:Int)))(h0 : -1000000+(wG aP.toNat:Int)<=left)(h1:left<=1000000):Wd O aP (left - 1) (iF O s) 8:=by
 have hw:=QE aP hd;have hp:=JT (aP - 1).toNat;exact⟨((hs.next 6).next 10).mono (by omega),by omega,by omega⟩
def a5i(O:List Int)(t a aP left:Int)(c:Bool)(s:Sr)(hd:¬ aP<1)(hs:bU O s (980000000 - 16 * (wG aP.toNat:Int)))(h0 : -1000000+(wG aP.toNat:Int)<=left)(h1:left<=1000000)(ht:0<=t/\t<=3)(ha:0<=a/\a<=4) :
  Wd O aP (xN O t a aP left c s).left (xN O t a aP left c s).s 8:=by
 have hw:=QE aP hd;have hp:=JT (aP - 1).toNat;have r:=Kj O t a ht ha (aP - 1).toNat (MI O c (iF O s) 5) (Gt O c (iF O s) 5) _ (left - 1) (Ya O c _ 5 _ ((hs.next 6).next 10));have e:xN O t a aP left c s=dV O t a (aP - 1).toNat (MI O c (iF O s) 5) (Gt O c (iF O s) 5) (left - 1):=rfl;rw[<-e] at r;have r0:=r.l0;have r1:=r.l1;exact⟨r.sr.mono (by omega),by omega,by omega⟩
def Wd.go{O:List Int}{aP left:Int}{s:Sr}(h:Wd O aP left s 8)(c:Bool)(n:Int):Wd O aP left (Gt O c s n) 0:=⟨(Ya O c s n _ h.s).mono (by omega),h.l0,h.l1⟩
def fX(n:Nat):nH:=⟨lX,[[.p 1, .d (.int .i64), .d (.int .i64), .d (.int .i64)],[.d (.slice (.int .u8)), .d (.int .i64), .d (.int .u64)]],[.b 0, .v .bool, .v (.int .i64)],[[(.int .i64),(.int .i64),(.int .i64)],[(.slice (.int .u8)),(.int .i64),(.int .u64)]],λ (c:Bool) (aP:Int) (tn:Int) (an:Int) (left:Int) (O:List Int) (pos:Int) (az:Int)=>⟨(some (aP.toNat<n/\bU O (Sr.mk pos az) (980000000 - 16 * (wG aP.toNat:Int))/\(0<=tn/\tn<=3)/\(0<=an/\an<=4)/\aP<=10 /\ -1000000+(wG aP.toNat:Int)<=left/\left<=1000000),[⟨(.st .expr),(dV O tn an aP.toNat c (Sr.mk pos az) left).e⟩],[[⟨(.int .i64),tn⟩,⟨(.int .i64),an⟩,⟨(.int .i64),(dV O tn an aP.toNat c (Sr.mk pos az) left).left⟩],[⟨(.slice (.int .u8)),O⟩,⟨(.int .i64),(dV O tn an aP.toNat c (Sr.mk pos az) left).s.pos⟩,⟨(.int .u64),(dV O tn an aP.toNat c (Sr.mk pos az) left).s.az⟩]])⟩⟩
def qK:nH:=⟨lX,[[.p 1, .d (.int .i64), .d (.int .i64), .d (.int .i64)],[.d (.slice (.int .u8)), .d (.int .i64), .d (.int .u64)]],[.b 0, .v .bool, .v (.int .i64)],[[(.int .i64),(.int .i64),(.int .i64)],[(.slice (.int .u8)),(.int .i64),(.int .u64)]],λ (c:Bool) (aP:Int) (tn:Int) (an:Int) (left:Int) (O:List Int) (pos:Int) (az:Int)=>⟨(some (bU O (Sr.mk pos az) (980000000 - 16 * (wG aP.toNat:Int))/\(0<=tn/\tn<=3)/\(0<=an/\an<=4)/\aP<=10 /\ -1000000+(wG aP.toNat:Int)<=left/\left<=1000000),[⟨(.st .expr),(dV O tn an aP.toNat c (Sr.mk pos az) left).e⟩],[[⟨(.int .i64),tn⟩,⟨(.int .i64),an⟩,⟨(.int .i64),(dV O tn an aP.toNat c (Sr.mk pos az) left).left⟩],[⟨(.slice (.int .u8)),O⟩,⟨(.int .i64),(dV O tn an aP.toNat c (Sr.mk pos az) left).s.pos⟩,⟨(.int .u64),(dV O tn an aP.toNat c (Sr.mk pos az) left).s.az⟩]])⟩⟩
def Dp(c:Bool)(aP:Int)(tn:Int)(an:Int)(left:Int)(O:List Int)(pos:Int)(az:Int):Nat->aJ:=(eA 100004 (.u (BL O aP left (Sr.mk pos az)) [11,12,13,14,15,16,17] [] [6] [(400000, .box [.ptr 400001 0, .aN ⟨(.int .i64),(tn:Int)⟩, .aN ⟨(.int .i64),(an:Int)⟩, .aN ⟨(.int .i64),(left - 1:Int)⟩]),(400001, .box [.aN ⟨(.slice (.int .u8)),(O:List Int)⟩, .aN ⟨(.int .i64),((cI O (Sr.mk pos az) 6).pos:Int)⟩, .aN ⟨(.int .u64),((cI O (Sr.mk pos az) 6).az:Int)⟩])] (eA 100009 (.u (BL O aP left (Sr.mk pos az)/\¬ mV O (Sr.mk pos az)<4) [37,38,39,40,41] [(7, .aN ⟨(.int .i64),(mV O (Sr.mk pos az):Int)⟩)] [6] [(400000, .box [.ptr 400001 0, .aN ⟨(.int .i64),(tn:Int)⟩, .aN ⟨(.int .i64),(an:Int)⟩, .aN ⟨(.int .i64),(left - 1:Int)⟩]),(400001, .box [.aN ⟨(.slice (.int .u8)),(O:List Int)⟩, .aN ⟨(.int .i64),((iF O (Sr.mk pos az)).pos:Int)⟩, .aN ⟨(.int .u64),((iF O (Sr.mk pos az)).az:Int)⟩])] (eA 100012 (.u (BL O aP left (Sr.mk pos az)/\¬ mV O (Sr.mk pos az)<4) [7] [(8, .aN ⟨(.int .i64),(gnX O (Sr.mk pos az):Int)⟩)] [6] [(400000, .box [.ptr 400001 0, .aN ⟨(.int .i64),(tn:Int)⟩, .aN ⟨(.int .i64),(an:Int)⟩, .aN ⟨(.int .i64),(left - 1:Int)⟩]),(400001, .box [.aN ⟨(.slice (.int .u8)),(O:List Int)⟩, .aN ⟨(.int .i64),((iF O (Sr.mk pos az)).pos:Int)⟩, .aN ⟨(.int .u64),((iF O (Sr.mk pos az)).az:Int)⟩])] (eA 100013 (.u (BL O aP left (Sr.mk pos az)/\¬ mV O (Sr.mk pos az)<4) [] [(9, .ptr 9 0)] [6] [(400000, .box [.ptr 400001 0, .aN ⟨(.int .i64),(tn:Int)⟩, .aN ⟨(.int .i64),(an:Int)⟩, .aN ⟨(.int .i64),((xN O tn an aP left c (Sr.mk pos az)).left:Int)⟩]),(400001, .box [.aN ⟨(.slice (.int .u8)),(O:List Int)⟩, .aN ⟨(.int .i64),((xN O tn an aP left c (Sr.mk pos az)).s.pos:Int)⟩, .aN ⟨(.int .u64),((xN O tn an aP left c (Sr.mk pos az)).s.az:Int)⟩]),(9, .box [.aN ⟨(.int .i64),((xN O tn an aP left c (Sr.mk pos az)).e.ah:Int)⟩, .aN ⟨(.int .i64),((xN O tn an aP left c (Sr.mk pos az)).e.bl:Int)⟩, .aC 7000]),(7000, .aC (.st .expr) ((xN O tn an aP left c (Sr.mk pos az)).e.ae:List J))] (eA 100014 (.u (BL O aP left (Sr.mk pos az)/\¬ mV O (Sr.mk pos az)<4) [0,1,2] [(10, .ptr 10 0)] [6,9,7000] [(400000, .box [.ptr 400001 0, .aN ⟨(.int .i64),(tn:Int)⟩, .aN ⟨(.int .i64),(an:Int)⟩, .aN ⟨(.int .i64),((QP O tn an aP c (xN O tn an aP left c (Sr.mk pos az))).left:Int)⟩]),(400001, .box [.aN ⟨(.slice (.int .u8)),(O:List Int)⟩, .aN ⟨(.int .i64),((QP O tn an aP c (xN O tn an aP left c (Sr.mk pos az))).s.pos:Int)⟩, .aN ⟨(.int .u64),((QP O tn an aP c (xN O tn an aP left c (Sr.mk pos az))).s.az:Int)⟩]),(10, .box [.aN ⟨(.int .i64),((QP O tn an aP c (xN O tn an aP left c (Sr.mk pos az))).e.ah:Int)⟩, .aN ⟨(.int .i64),((QP O tn an aP c (xN O tn an aP left c (Sr.mk pos az))).e.bl:Int)⟩, .aC 7100]),(7100, .aC (.st .expr) ((QP O tn an aP c (xN O tn an aP left c (Sr.mk pos az))).e.ae:List J))] cj) cj)) cj)) cj)) cj)) cj)
abbrev Au(c:Bool)(aP:Int)(tn:Int)(an:Int)(left:Int)(O:List Int)(pos:Int)(az:Int):Prop:=(let v0:=Sr.mk pos az;let v1:=dV O tn an aP.toNat c v0 left;let v2:=cI O v0 (6:Int);((bU O v0 999999000/\(6:Int)<=1000000)/\(((oD O v0 (6:Int))=true ->
 ((bU O v2 990000000/\(0<=tn/\tn<=3)/\0<=an/\an<=4)/\((aU (PD O tn an c v2))=(v1.e)/\((tn=tn/\(an=an/\(left - (1:Int))=(v1.left)))/\((O=O/\(((Jb O tn an c v2).pos)=(v1.s.pos)/\((Jb O tn an c v2).az)=(v1.s.az)))/\True)))))/\((oD O v0 (6:Int))=false ->
 (∃ u1:Unit,(BL O aP left v0/\((True/\(c=c/\(aP=aP/\(True/\True))))/\((True/\(tn=tn/\(an=an/\((left - (1:Int))=(left - 1)/\True))))/\((O=O/\((v2.pos)=((cI O v0 6).pos)/\((v2.az)=((cI O v0 6).az)/\True)))/\(((0:Int)=(0:Int)/\((0:Int)=(0:Int)/\(True/\True)))/\True))))))))))
abbrev Av(c:Bool)(aP:Int)(tn:Int)(an:Int)(left:Int)(O:List Int)(pos:Int)(az:Int):Prop:=(let v1:=Sr.mk pos az;let v0:=dV O tn an aP.toNat c v1 left;((true=true ->
 ((bU O v1 990000000/\(0<=tn/\tn<=3)/\0<=an/\an<=4)/\((aU (PD O tn an c v1))=(v0.e)/\((tn=tn/\(an=an/\(left - (1:Int))=(v0.left)))/\((O=O/\(((Jb O tn an c v1).pos)=(v0.s.pos)/\((Jb O tn an c v1).az)=(v0.s.az)))/\True)))))/\(true=false ->
 (∃ u1:Unit,(BL O aP left v1/\((True/\(c=c/\(aP=aP/\(True/\True))))/\((True/\(tn=tn/\(an=an/\((left - (1:Int))=(left - 1)/\True))))/\((O=O/\(pos=((cI O v1 6).pos)/\(az=((cI O v1 6).az)/\True)))/\(((0:Int)=(0:Int)/\((0:Int)=(0:Int)/\(True/\True)))/\True)))))))))
abbrev Aw(n:Nat)(c:Bool)(aP:Int)(tn:Int)(an:Int)(left:Int)(O:List Int)(pos:Int)(az:Int):Prop:=(let v1:=dV O tn an aP.toNat c (Sr.mk pos az) left;let v2:=aP - (1:Int);let v3:=cI O (cI O (Sr.mk pos az) 6) (10:Int);let v0:=dV O tn an v2.toNat true v3 (left - 1);(ai v2/\((v2.toNat<n/\bU O v3 (980000000 - 16 * (wG v2.toNat:Int))/\(0<=tn/\tn<=3)/\(0<=an/\an<=4)/\v2<=10 /\ -1000000+(wG v2.toNat:Int)<=(left - 1)/\(left - 1)<=1000000)/\((J.mk (5:Int) (0:Int) ([(aU (v0.e))]))=(v1.e)/\((tn=tn/\(an=an/\(v0.left)=(v1.left)))/\((O=O/\((v0.s.pos)=(v1.s.pos)/\(v0.s.az)=(v1.s.az)))/\True))))))
abbrev Ax(n:Nat)(c:Bool)(aP:Int)(tn:Int)(an:Int)(left:Int)(O:List Int)(pos:Int)(az:Int):Prop:=(let v1:=Sr.mk pos az;let v2:=cI O (cI O v1 6) (10:Int);let v3:=dV O tn an aP.toNat c v1 left;let v4:=aP - (1:Int);let v0:=dV O tn an v4.toNat false v2 (left - 1);let v5:=pk O (cI O v1 6) (10:Int);(((decide (v5<(4:Int)))=true ->
 (ai v4/\((v4.toNat<n/\bU O v2 (980000000 - 16 * (wG v4.toNat:Int))/\(0<=tn/\tn<=3)/\(0<=an/\an<=4)/\v4<=10 /\ -1000000+(wG v4.toNat:Int)<=(left - 1)/\(left - 1)<=1000000)/\((J.mk (8:Int) (0:Int) ([(aU (v0.e))]))=(v3.e)/\((tn=tn/\(an=an/\(v0.left)=(v3.left)))/\((O=O/\((v0.s.pos)=(v3.s.pos)/\(v0.s.az)=(v3.s.az)))/\True))))))/\((decide (v5<(4:Int)))=false ->
 (∃ u2:Unit,((BL O aP left v1/\¬ mV O v1<4)/\((True/\(c=c/\(aP=aP/\(True/\(v5=(mV O v1)/\True)))))/\((True/\(tn=tn/\(an=an/\((left - 1)=(left - 1)/\True))))/\((O=O/\((v2.pos)=((iF O v1).pos)/\((v2.az)=((iF O v1).az)/\True)))/\(((0:Int)=(0:Int)/\((0:Int)=(0:Int)/\(True/\True)))/\True)))))))))
abbrev Ay(tn:Int)(an:Int)(left:Int)(O:List Int)(pos:Int)(az:Int):Prop:=(let v0:=iF O (Sr.mk pos az);((True/\(tn=tn/\(an=an/\((left - 1)=(left - 1)/\True))))/\((O=O/\((v0.pos)=(v0.pos)/\((v0.az)=(v0.az)/\True)))/\(((0:Int)=(0:Int)/\((0:Int)=(0:Int)/\(True/\True)))/\True))))
abbrev Az(c:Bool)(aP:Int)(tn:Int)(an:Int)(left:Int)(O:List Int)(pos:Int)(az:Int):Prop:=(let v0:=xN O tn an aP left c (Sr.mk pos az);(((v0.e.ah)=(v0.e.ah)/\((v0.e.bl)=(v0.e.bl)/\(True/\True)))/\((v0.e.ae)=(v0.e.ae)/\(((0:Int)=(0:Int)/\((0:Int)=(0:Int)/\(True/\True)))/\True))))
def Cj(n:Nat)(hE:bo [])(hO:vX [pQ])(hM:A0 [])(hS:yb [hJ,eg,kh,fX n]):nH.Good (fX (n+1)):=by
 refine⟨aD gj,?_⟩;intro (c:Bool) (aP:Int) (tn:Int) (an:Int) (left:Int) (O:List Int) (pos:Int) (az:Int) (hp:aP.toNat<n+1/\bU O (Sr.mk pos az) (980000000 - 16 * (wG aP.toNat:Int))/\(0<=tn/\tn<=3)/\(0<=an/\an<=4)/\aP<=10 /\ -1000000+(wG aP.toNat:Int)<=left/\left<=1000000);refine qe [] [pQ] [] [hJ,eg,kh,fX n] [36,55,56,64,65,80,92,96] [] [] [] hE hO hM hS gj zS (Dp c aP tn an left O pos az) rfl rfl (let v1:=Sr.mk pos az;let v0:=xN O tn an aP left c v1;let v5:=QP O tn an aP c v0;let v6:=BL O aP left v1/\¬ mV O v1<4;let v9:=Sr.mk (v0.s.pos) (v0.s.az);let vb:=Aw n c aP tn an left O pos az;let vc:=Ax n c aP tn an left O pos az;let vd:=True/\True;let ve:=dV O tn an aP.toNat c v1 left;let vf:=pk O (cI O v1 6) (10:Int);let vg:=gnX O v1;let vi:=True/\(c=c/\(aP=aP/\(True/\(vg=vg/\vd))));let vj:=0<=tn/\tn<=3;let vk:=0<=an/\an<=4;let vm:=Au c aP tn an left O pos az;let vn:=Av c aP tn an left O pos az;let vo:=Az c aP tn an left O pos az;let vp:=iF O v1;let vq:=(1:Int);let v4:=aP - vq;let va:=(wG v4.toNat:Int);let vl:=980000000 - 16 * va;let vr:=Ay tn an left O pos az;let vs:=v0.left;let v7:=dV O tn an v4.toNat true v9 vs;let vt:=True/\(vg=vg/\(True/\vd));let vu:=(6:Int);let v2:=dV O tn an v4.toNat (oD O v9 vu) (cI O v9 vu) vs;let vv:=left - 1;let v3:=dV O tn an v4.toNat (oD O vp (5:Int)) (cI O vp (5:Int)) vv;let v8:=dV O tn an v4.toNat true vp vv;let vw:=(0:Int);let vh:=(vw=vw/\(vw=vw/\vd))/\True;((ai left->(ai (left - vq)/\((ai (left - vq)->(((decide ((left - vq)<vq))=false->(((decide (aP<vq))=false->vm)/\((decide (aP<vq))=(!false)->vn)))/\((decide ((left - vq)<vq))=(!false)->((true=false->vm)/\(true=(!false)->vn)))))/\(∀ u1:Unit,(BL O aP left v1->((bU O (cI O v1 6) 999999000/\(10:Int)<=1000000)/\((((decide (vf=vw))=false->((c=true->(((decide (vf<(4:Int)))=true->vb)/\((decide (vf<(4:Int)))=false->vc)))/\(c=(!true)->((false=true->vb)/\(false=false->vc)))))/\((decide (vf=vw))=(!false)->((true=true->vb)/\(true=false->vc))))/\(∀ u2:Unit,(v6->((((decide ((mV O v1)<vu))=true->(∃ u3:Unit,(v6/\((True/\(c=c/\(aP=aP/\(True/\(vu=vg/\True)))))/\vr))))/\((decide ((mV O v1)<vu))=false->(∃ u3:Unit,(v6/\((True/\(c=c/\(aP=aP/\(True/\((7:Int)=vg/\True)))))/\vr)))))/\(∀ u3:Unit,(v6->(((c=false->((bU O vp 999999000/\(5:Int)<=1000000)/\(ai v4/\((v4.toNat<n/\bU O (cI O vp (5:Int)) vl/\vj/\vk/\v4<=10 /\ -1000000+va<=vv/\vv<=1000000)/\(∃ u4:Unit,(v6/\(vi/\((True/\(tn=tn/\(an=an/\((v3.left)=vs/\True))))/\((O=O/\((v3.s.pos)=(v0.s.pos)/\((v3.s.az)=(v0.s.az)/\True)))/\(((v3.e).ah=(v0.e.ah)/\((v3.e).bl=(v0.e.bl)/\vd))/\((v3.e).ae=(v0.e.ae)/\vh)))))))))))/\(c=(!false)->(ai v4/\((v4.toNat<n/\bU O vp vl/\vj/\vk/\v4<=10 /\ -1000000+va<=vv/\vv<=1000000)/\(∃ u4:Unit,(v6/\(vi/\((True/\(tn=tn/\(an=an/\((v8.left)=vs/\True))))/\((O=O/\((v8.s.pos)=(v0.s.pos)/\((v8.s.az)=(v0.s.az)/\True)))/\(((v8.e).ah=(v0.e.ah)/\((v8.e).bl=(v0.e.bl)/\vd))/\((v8.e).ae=(v0.e.ae)/\vh)))))))))))/\(∀ u4:Unit,(v6->(((c=false->((bU O v9 999999000/\vu<=1000000)/\(ai v4/\((v4.toNat<n/\bU O (cI O v9 vu) vl/\vj/\vk/\v4<=10 /\ -1000000+va<=vs/\vs<=1000000)/\(∃ u5:Unit,(v6/\(vt/\((True/\(tn=tn/\(an=an/\((v2.left)=(v5.left)/\True))))/\((O=O/\((v2.s.pos)=(v5.s.pos)/\((v2.s.az)=(v5.s.az)/\True)))/\(((v2.e).ah=(v5.e.ah)/\((v2.e).bl=(v5.e.bl)/\vd))/\((v2.e).ae=(v5.e.ae)/\vo)))))))))))/\(c=(!false)->(ai v4/\((v4.toNat<n/\bU O v9 vl/\vj/\vk/\v4<=10 /\ -1000000+va<=vs/\vs<=1000000)/\(∃ u5:Unit,(v6/\(vt/\((True/\(tn=tn/\(an=an/\((v7.left)=(v5.left)/\True))))/\((O=O/\((v7.s.pos)=(v5.s.pos)/\((v7.s.az)=(v5.s.az)/\True)))/\(((v7.e).ah=(v5.e.ah)/\((v7.e).bl=(v5.e.bl)/\vd))/\((v7.e).ae=(v5.e.ae)/\vo)))))))))))/\(∀ u5:Unit,(v6->((aU (J.mk vg 0 [(J.mk (v0.e.ah) (v0.e.bl) (v0.e.ae)),(J.mk (v5.e.ah) (v5.e.bl) (v5.e.ae))]))=(ve.e)/\((tn=tn/\(an=an/\(v5.left)=(ve.left)))/\((O=O/\((v5.s.pos)=(ve.s.pos)/\(v5.s.az)=(ve.s.az)))/\True))))))))))))))))))))))) ?_;obtain⟨bj,hs,ht,ha,a8I,U0,MR⟩:=hp;have hw:=JT aP.toNat;have hwd:=QE aP;have CY:=λ hd=>a5h O aP left (Sr.mk pos az) hd hs U0 MR;have rJ:=λ hd=>a5i O tn an aP left c (Sr.mk pos az) hd hs U0 MR ht ha;refine λ _=>⟨?_,λ a1=>⟨λ _=>⟨λ _=>⟨?_,λ a4=>⟨?_,?_,⟨rfl,rfl,?_⟩,⟨rfl,?_,?_⟩,U⟩,λ a4=>⟨(),?_,⟨U,rfl,rfl,U,U⟩,⟨U,rfl,rfl,?_,U⟩,⟨rfl,?_,?_,U⟩,⟨rfl,rfl,U,U⟩,U⟩⟩,λ _=>⟨λ a4=>⟨?_,?_,⟨rfl,rfl,?_⟩,⟨rfl,?_,?_⟩,U⟩,λ a4=>⟨(),?_,⟨U,rfl,rfl,U,U⟩,⟨U,rfl,rfl,?_,U⟩,⟨rfl,?_,?_,U⟩,⟨rfl,rfl,U,U⟩,U⟩⟩⟩,λ _=>⟨λ _=>⟨?_,λ a4=>⟨?_,?_,⟨rfl,rfl,?_⟩,⟨rfl,?_,?_⟩,U⟩,λ a4=>⟨(),?_,⟨U,rfl,rfl,U,U⟩,⟨U,rfl,rfl,?_,U⟩,⟨rfl,?_,?_,U⟩,⟨rfl,rfl,U,U⟩,U⟩⟩,λ _=>⟨λ a4=>⟨?_,?_,⟨rfl,rfl,?_⟩,⟨rfl,?_,?_⟩,U⟩,λ a4=>⟨(),?_,⟨U,rfl,rfl,U,U⟩,⟨U,rfl,rfl,?_,U⟩,⟨rfl,?_,?_,U⟩,⟨rfl,rfl,U,U⟩,U⟩⟩⟩⟩,λ u1 a1=>have a8e:=a1.d;have a8f:=hwd a1.d;have a8g:=CY a1.d;have a8h:=(CY a1.d).l0;have a8i:=(CY a1.d).l1;⟨?_,⟨λ _=>⟨λ _=>⟨λ a4=>⟨?_,?_,?_,⟨rfl,rfl,?_⟩,⟨rfl,?_,?_⟩,U⟩,λ a4=>⟨λ _=>⟨?_,?_,?_,⟨rfl,rfl,?_⟩,⟨rfl,?_,?_⟩,U⟩,λ _=>⟨(),?_,⟨U,rfl,rfl,U,?_,U⟩,⟨U,rfl,rfl,rfl,U⟩,⟨rfl,?_,?_,U⟩,⟨rfl,rfl,U,U⟩,U⟩⟩⟩,λ _=>⟨λ a4=>⟨?_,?_,?_,⟨rfl,rfl,?_⟩,⟨rfl,?_,?_⟩,U⟩,λ a4=>⟨λ _=>⟨?_,?_,?_,⟨rfl,rfl,?_⟩,⟨rfl,?_,?_⟩,U⟩,λ _=>⟨(),?_,⟨U,rfl,rfl,U,?_,U⟩,⟨U,rfl,rfl,rfl,U⟩,⟨rfl,?_,?_,U⟩,⟨rfl,rfl,U,U⟩,U⟩⟩⟩⟩,λ _=>⟨λ _=>⟨?_,?_,?_,⟨rfl,rfl,?_⟩,⟨rfl,?_,?_⟩,U⟩,λ _=>⟨λ a4=>⟨?_,?_,?_,⟨rfl,rfl,?_⟩,⟨rfl,?_,?_⟩,U⟩,λ a4=>⟨(),?_,⟨U,rfl,rfl,U,?_,U⟩,⟨U,rfl,rfl,rfl,U⟩,⟨rfl,?_,?_,U⟩,⟨rfl,rfl,U,U⟩,U⟩⟩⟩⟩,λ u2 _=>⟨⟨λ _=>⟨(),?_,⟨U,rfl,rfl,U,?_,U⟩,⟨U,rfl,rfl,rfl,U⟩,⟨rfl,rfl,rfl,U⟩,⟨rfl,rfl,U,U⟩,U⟩,λ _=>⟨(),?_,⟨U,rfl,rfl,U,?_,U⟩,⟨U,rfl,rfl,rfl,U⟩,⟨rfl,rfl,rfl,U⟩,⟨rfl,rfl,U,U⟩,U⟩⟩,λ u3 _=>⟨⟨λ a4=>⟨?_,?_,?_,(),?_,⟨U,rfl,rfl,U,rfl,U,U⟩,⟨U,rfl,rfl,?_,U⟩,⟨rfl,?_,?_,U⟩,⟨?_,?_,U,U⟩,?_,⟨rfl,rfl,U,U⟩,U⟩,λ a4=>⟨?_,?_,(),?_,⟨U,rfl,rfl,U,rfl,U,U⟩,⟨U,rfl,rfl,?_,U⟩,⟨rfl,?_,?_,U⟩,⟨?_,?_,U,U⟩,?_,⟨rfl,rfl,U,U⟩,U⟩⟩,λ u4 a4=>have a5X:=rJ a4.1.d;have a5Y:=(rJ a4.1.d).l0;have a5Z:=(rJ a4.1.d).l1;⟨⟨λ _=>⟨?_,?_,?_,(),?_,⟨U,rfl,U,U,U⟩,⟨U,rfl,rfl,?_,U⟩,⟨rfl,?_,?_,U⟩,⟨?_,?_,U,U⟩,?_,⟨rfl,rfl,U,U⟩,rfl,⟨rfl,rfl,U,U⟩,U⟩,λ _=>⟨?_,?_,(),?_,⟨U,rfl,U,U,U⟩,⟨U,rfl,rfl,?_,U⟩,⟨rfl,?_,?_,U⟩,⟨?_,?_,U,U⟩,?_,⟨rfl,rfl,U,U⟩,rfl,⟨rfl,rfl,U,U⟩,U⟩⟩,λ u5 _=>⟨?_,⟨rfl,rfl,?_⟩,⟨rfl,?_,?_⟩,U⟩⟩⟩⟩⟩⟩;all_goals try and_intros
 all_goals try (first|with_reducible rfl|with_reducible assumption)
 all_goals try simp only[J.eta,cC] at *
 all_goals (try simp only[N0,J.eta,decide_eq_true_eq,decide_eq_false_iff_not,Bool.not_true,Bool.not_false,ai] at *);first|rfl|trivial|omega|with_reducible assumption|exact hs.mono (by omega)|exact (hs.next _).mono (by omega)|exact BL.mk (by omega) (by omega) (by assumption)|exact bU.mono (Wd.s (by assumption)) (by omega)|exact bU.mono (bU.next (Wd.s (by assumption)) _) (by omega)|(rw[a5d O tn an aP left c _ (by omega)];rfl)|(rw[a5e O tn an aP left c _ (by omega) (by omega) (by assumption)];rfl)|(rw[a5f O tn an aP left c _ (by assumption) (by first|(left;assumption)|(right;exact⟨by assumption,by assumption⟩))];rfl)|(rw[a5g O tn an aP left c _ (by assumption) (a5D (by assumption) (by assumption)) (by assumption)];rfl)|(rw[a0C O tn an aP left c _ (And.left (show BL O aP left (Sr.mk pos az)/\¬ mV O (Sr.mk pos az)<4 by assumption)) (And.right (show BL O aP left (Sr.mk pos az)/\¬ mV O (Sr.mk pos az)<4 by assumption))];rfl)|(unfold gnX;first|rw[if_pos (by assumption)]|rw[if_neg (by assumption)])|(cases c<;>first|rfl|contradiction)|contradiction |(rw[a0C O tn an aP left c _ (And.left (show BL O aP left (Sr.mk pos az)/\¬ mV O (Sr.mk pos az)<4 by assumption)) (And.right (show BL O aP left (Sr.mk pos az)/\¬ mV O (Sr.mk pos az)<4 by assumption))])
def Rx:∀ n,yb [fX n]
 | 0=>⟨⟨aD gj,λ _ _ _ _ _ _ _ _ h=>absurd h.1 (a9K _)⟩,U⟩
 | n+1=>by
  have ih:=Rx n;exact⟨Cj n trivial ⟨E6,U⟩ trivial ⟨oH,fj,zy,ih.1,U⟩,U⟩
def zx:nH.Good qK :=
 ⟨aD gj,λ c aP tn an left O pos az hp=>(Rx (aP.toNat+1)).1.2 c aP tn an left O pos az (⟨a9o _,hp⟩)⟩
mutual
def Ae{α:Type}(f:J->List α->α):J->α
 | ⟨k,n,ks⟩=>f ⟨k,n,ks⟩ (jL f ks)
def jL{α:Type}(f:J->List α->α):List J->List α
 | []=>[]
 | x::xs=>Ae f x::jL f xs
end
def eQ{α:Type}(f:J->List α->α)(d:α)(z:J):∀ (xs:List J) (i:Nat),i<xs.length->(jL f xs).getD i d=Ae f (xs.getD i z)
 | [],i,h=>by simp at h
 | x::xs,0,h=>by simp[jL]
 | x::xs,i+1,h=>by
  have:=eQ f d z xs i (by simpa using h);simpa [jL] using this
def kP{α:Type}(f:J->List α->α)(x:J):Ae f x=f x (jL f x.ae):=by
 cases x;rfl
structure B2(x:J):Prop where
 len:x.ae.length=2
 g0:aA (x.ae.getD 0 zE)=true
 g1:aA (x.ae.getD 1 zE)=true
 l0:bH (x.ae.getD 0 zE)<bH x
 l1:bH (x.ae.getD 1 zE)<bH x
 nd:ar x=1+ar (x.ae.getD 0 zE)+ar (x.ae.getD 1 zE)
structure B1(x:J):Prop where
 len:x.ae.length=1
 g0:aA (x.ae.getD 0 zE)=true
 l0:bH (x.ae.getD 0 zE)<bH x
 nd:ar x=1+ar (x.ae.getD 0 zE)
def cH(x:J)(h:aA x=true)(e:x.ah=6\/x.ah=7):B2 x:=by
 obtain⟨h1,h2,h3⟩:=(dG x h).2.2.1 e;have hn:=gR x;rw[a2l ar zE _ h1] at hn;exact⟨h1,h2.1,h3.1,h2.2,h3.2,by omega⟩
def j9(x:J)(h:aA x=true)(e:x.ah=5\/x.ah=8):B1 x:=by
 obtain⟨h1,h2⟩:=(dG x h).2.1 e;have hn:=gR x;rw[a2k ar zE _ h1] at hn;exact⟨h1,h2.1,h2.2,by omega⟩
def Hc(x:J):1<=ar x:=by rw[gR];omega
def ez(x:J)(h:aA x=true):x.ah=1\/x.ah=2\/x.ah=3\/x.ah=4\/x.ah=5\/x.ah=6\/x.ah=7\/x.ah=8:=(dG x h).2.2.2
def Yb(x:J)(h:aA x=true)(e:x.ah=1\/x.ah=2\/x.ah=3\/x.ah=5):im x=true:=by
 have h':=h;unfold im;rw[DW 9 9 62 62 (by decide) (by decide) x (by simpa [aA] using h),Bool.true_and,tm,Bool.and_eq_true];simp only[aA] at h;rw[jv,nv] at h;simp only[Bool.and_eq_true,decide_eq_true_eq] at h;refine⟨by rcases e with e|e|e|e<;>rw[e]<;>decide,?_⟩;by_cases h5:x.ah=5
 .have hl:=(j9 x h' (.inl h5)).len;have hc:bD (x.ae.getD 0 zE)=true:=by simpa [h5] using h.1.2
  match hk:x.ae,hl with
  | [a],_ =>
   rw[hk] at hc;simp only[bX,Bool.and_true];simpa using hc
 .have:x.ae.length=0:=by
   have h1:=h.1.1.1;rcases e with e|e|e|e
   .rw[e] at h1;simp[cA] at h1;omega
   .rw[e] at h1;simp[cA] at h1;omega
   .rw[e] at h1;simp[cA] at h1;omega
   .exact absurd e h5
  rw[b0d this];rfl
def gG(a b:J)(k:Int)(h1:aA a=true)(h2:aA b=true)(hk:k=6\/k=7):aA (J.mk k 0 [a,b])=true:=Sk 9 9 a b k h1 h2 hk
def WM(a:J)(h1:aA a=true):aA (J.mk 8 0 [a])=true:=Lt 9 9 a 8 h1 (.inr rfl)
def RQ:aA (J.mk 2 0 [])=true:=by decide
def GM:aA (J.mk 1 0 [])=true:=by decide
def km(k:Int)(a b:J):ar (J.mk k 0 [a,b])=1+ar a+ar b:=by simp[ar,fR];omega
def Vt(k:Int)(a:J):ar (J.mk k 0 [a])=1+ar a:=by simp[ar,fR]
def DG(k n:Int):ar (J.mk k n [])=1:=by simp[ar,fR]
def SR(a:Int)(x:J)(bs:List Bool):Bool:=if x.ah=4 then false else if x.ah=6 then bs.getD 0 false||bs.getD 1 false else if x.ah=7 then bs.getD 0 false&&bs.getD 1 false else if x.ah=8 then true else fZ a x
def emV(a:Int)(x:J):Bool:=Ae (SR a) x
def OF(a:Int)(x:J):emV a x=SR a x (jL (SR a) x.ae):=kP _ x
def X6(a:Int)(x:J)(i:Nat)(h:i<x.ae.length):(jL (SR a) x.ae).getD i false=emV a (x.ae.getD i zE):=eQ _ _ _ _ i h
def a3R(a:Int)(x:J)(h:x.ah=4):false=emV a x:=by rw[OF];simp[SR,h]
def a3S(a:Int)(x:J)(h:x.ah=6)(b:B2 x):emV a x=(emV a (x.ae.getD 0 zE)||emV a (x.ae.getD 1 zE)):=by
 rw[OF];simp only[SR,h];rw[X6 a x 0 (by have:=b.len;omega),X6 a x 1 (by have:=b.len;omega)];rfl
def a3T(a:Int)(x:J)(h:x.ah=7)(b:B2 x):emV a x=(emV a (x.ae.getD 0 zE)&&emV a (x.ae.getD 1 zE)):=by
 rw[OF];simp only[SR,h];rw[X6 a x 0 (by have:=b.len;omega),X6 a x 1 (by have:=b.len;omega)];rfl
def a3U(a:Int)(x:J)(h:x.ah=8):true=emV a x:=by rw[OF];simp[SR,h]
def X5(a:Int)(x:J)(h4:¬ x.ah=4)(h6:¬ x.ah=6)(h7:¬ x.ah=7)(h8:¬ x.ah=8):fZ a x=emV a x:=by rw[OF];simp[SR,h4,h6,h7,h8]
noncomputable def TZ(x:J)(fs:List (List J->List J))(out:List J):List J :=
 if x.ah=1 then out else if x.ah=6 then fs.getD 1 id (fs.getD 0 id out) else if out.any (λ y=>gu y x)=true then out else out++[x]
noncomputable def dN(x:J)(out:List J):List J:=Ae TZ x out
def T1(x:J)(out:List J):dN x out=TZ x (jL TZ x.ae) out:=congrFun (kP _ x) out
def a1R(x:J)(out:List J)(h:x.ah=1):dN x out=out:=by rw[T1];simp[TZ,h]
def a1S(x:J)(out:List J)(h:x.ah=6)(b:B2 x):dN x out=dN (x.ae.getD 1 zE) (dN (x.ae.getD 0 zE) out):=by
 rw[T1];simp only[TZ,h];rw[eQ TZ id zE x.ae 0 (by have:=b.len;omega),eQ TZ id zE x.ae 1 (by have:=b.len;omega)];rfl
def a1U(x:J)(out:List J)(h1:¬ x.ah=1)(h6:¬ x.ah=6)(ha:out.any (λ y=>gu y x)=true):dN x out=out:=by
 rw[T1,TZ,a9c h1,a9c h6,a9l ha]
def a1T(x:J)(out:List J)(h1:¬ x.ah=1)(h6:¬ x.ah=6)(ha:out.any (λ y=>gu y x)=false):dN x out=out++[x]:=by
 rw[T1,TZ,a9c h1,a9c h6,a9c (by rw[ha];decide)]
def eI(xs:List J):Nat:=cT ar xs+xs.length
def j8(xs:List J):Prop:=∀ y∈xs,aA y=true
def zz{α:Type}(f:α->Nat):∀ xs ys:List α,cT f (xs++ys)=cT f xs+cT f ys
 | [],ys=>by simp[cT]
 | x::xs,ys=>by simp only[a9X,cT,zz f xs ys];omega
def Hp:∀ (N:Nat) (x:J),bH x<N->aA x=true->∀ out,j8 out->j8 (dN x out)/\eI (dN x out)<=eI out+ar x+1
 | 0,x,h,_=>by omega
 | N+1,x,hN,h=>by
  intro out ho;by_cases h1:x.ah=1
  .rw[a1R x out h1];exact⟨ho,by omega⟩
  by_cases h6:x.ah=6
  .have b:=cH x h (.inl h6);rw[a1S x out h6 b];obtain⟨a1,a2⟩:=Hp N (x.ae.getD 0 zE) (by have:=b.l0;omega) b.g0 out ho;obtain⟨c1,c2⟩:=Hp N (x.ae.getD 1 zE) (by have:=b.l1;omega) b.g1 _ a1;exact⟨c1,by have:=b.nd;omega⟩
  rcases b0j (out.any (λ y=>gu y x)) with e|e
  .rw[a1U x out h1 h6 e];exact⟨ho,by omega⟩
  .rw[a1T x out h1 h6 e];refine⟨λ y hy=>?_,?_⟩
   .rcases a8X.1 hy with q|q
    .exact ho y q
    .rw[a9w] at q;rw[q];exact h
   .simp only[eI,zz,cT,a9i,a9f,a9v];omega
def Q8(y x:J):Bool:=Op.bytesLess (bC y) (bC x)
def fG(x:J):List J->List J
 | []=>[x]
 | y::ys=>if Q8 y x=true then y::fG x ys else x::y::ys
def Pn(x:J):∀ (ys:List J) (k:Nat),k<=ys.length->(∀ j y,j<k->ys[j]?=some y->Q8 y x=true)->(∀ y,ys[k]?=some y->Q8 y x=false)->fG x ys=ys.take k++x::ys.drop k
 | [],0,_,_,_=>rfl
 | y::ys,0,_,_,h=>by
  have:=h y rfl;rw[fG,a9c (by rw[this];decide)];rfl
 | y::ys,k+1,hk,h1,h2=>by
  have h0:=h1 0 y (by omega) rfl;have ih:=Pn x ys k (by simpa using hk) (λ j z hj e=>h1 (j+1) z (by omega) e) (λ z e=>h2 z e);rw[fG,if_pos h0,ih];rfl
 | [],k+1,hk,_,_=>by simp at hk
def Va(x:J):∀ ys y,y∈fG x ys↔y=x\/y∈ys
 | [],y=>by simp[fG]
 | z::zs,y=>by
  rw[fG];split
  .simp only[a9k,Va x zs y];constructor
   .rintro (h|h|h)
    .exact .inr (.inl h)
    .exact .inl h
    .exact .inr (.inr h)
   .rintro (h|h|h)
    .exact .inr (.inl h)
    .exact .inl h
    .exact .inr (.inr h)
  .simp only[a9k]
def Vd(x:J):∀ ys,eI (fG x ys)=eI ys+ar x+1
 | []=>by simp[fG,eI,cT]
 | z::zs=>by
  have ih:=Vd x zs;rw[fG];split
  .simp only[eI,cT,a9f] at ih ⊢;omega
  .simp only[eI,cT,a9f];omega
def AW(xs:List J):List J:=xs.foldl (λ out x=>fG x out) []
def T8(xs:List J)(k:Nat):List J:=AW (xs.take k)
def ZI(xs:List J)(k:Nat)(x:J)(h:xs[k]?=some x):T8 xs (k+1)=fG x (T8 xs k):=by
 have e:xs.take (k+1)=xs.take k++[x]:=by rw[b1D,h];rfl
 simp only[T8,AW,e,b1h,b0C,b2k]
def T9:∀ (xs acc:List J),(∀ y,y∈xs.foldl (λ out x=>fG x out) acc↔y∈xs\/y∈acc)/\eI (xs.foldl (λ out x=>fG x out) acc)=eI xs+eI acc/\(xs.foldl (λ out x=>fG x out) acc).length=xs.length+acc.length
 | [],acc=>by simp[eI,cT]
 | x::xs,acc=>by
  obtain⟨h1,h2,h3⟩:=T9 xs (fG x acc);have ht:=Vd x acc;have hl:∀ ys:List J,(fG x ys).length=ys.length+1:=by
   intro ys;induction ys with
   | nil=>rfl
   | cons y ys ih=>rw[fG];split<;>simp[ih]
  refine⟨λ y=>?_,?_,?_⟩
  .rw[b0C,h1,Va,a9k];constructor
   .rintro (h|h|h)
    .exact .inl (.inr h)
    .exact .inl (.inl h)
    .exact .inr h
   .rintro ((h|h)|h)
    .exact .inr (.inl h)
    .exact .inl h
    .exact .inr (.inr h)
  .rw[b0C,h2,ht];simp only[eI,cT,a9f];omega
  .rw[b0C,h3,hl,a9f];omega
def nb:List J->J
 | []=>J.mk 1 0 []
 | x::xs=>xs.foldl (λ o y=>J.mk 6 0 [o,y]) x
noncomputable def Nv(a b:J):J:=nb (AW (dN b (dN a [])))
def Vg:∀ (xs:List J) (o:J),aA o=true->j8 xs->aA (xs.foldl (λ o y=>J.mk 6 0 [o,y]) o)=true/\ar (xs.foldl (λ o y=>J.mk 6 0 [o,y]) o)=ar o+eI xs
 | [],o,h,_=>⟨h,by simp[eI,cT]⟩
 | x::xs,o,h,hx=>by
  obtain⟨h1,h2⟩:=Vg xs (J.mk 6 0 [o,x]) (gG o x 6 h (hx x (by simp)) (.inl rfl)) (λ y hy=>hx y (by simp[hy]));refine⟨h1,?_⟩;rw[b0C,h2,km];simp only[eI,cT,a9f];omega
structure Z6(a b r:J):Prop where
 g:aA r=true
 n:ar r<=ar a+ar b+1
def a2i(a b:J)(h1:aA a=true)(h2:aA b=true):j8 (AW (dN b (dN a [])))/\eI (AW (dN b (dN a [])))<=ar a+ar b+2:=by
 obtain⟨a1,a2⟩:=Hp _ a (a9o _) h1 [] (λ y hy=>by cases hy);obtain⟨b1,b2⟩:=Hp _ b (a9o _) h2 _ a1;obtain⟨c1,c2,_⟩:=T9 (dN b (dN a [])) [];have e0:eI []=0:=rfl;refine⟨λ y hy=>?_,?_⟩
 .rcases (c1 y).1 hy with q|q
  .exact b1 y q
  .cases q
 .unfold AW;omega
def a5P(a b:J)(h1:aA a=true)(h2:aA b=true):Z6 a b (Nv a b):=by
 obtain⟨g,t⟩:=a2i a b h1 h2;unfold Nv;generalize AW (dN b (dN a []))=L at g t;match L with
 | []=>exact⟨GM,by show ar (J.mk 1 0 [])<=_;rw[DG];omega⟩
 | x::xs =>
  obtain⟨q1,q2⟩:=Vg xs x (g x (by simp)) (λ y hy=>g y (by simp[hy]));refine⟨q1,?_⟩;show ar (xs.foldl _ x)<=_;rw[q2];simp only[eI,cT,a9f] at t ⊢;omega
def QM(x:J)(fs:List (J->J))(b:J):J :=
 if x.ah=1\/b.ah=1 then J.mk 1 0 [] else if x.ah=2 then b else if b.ah=2 then x else if x.ah=7 then fs.getD 0 id (fs.getD 1 id b) else J.mk 7 0 [x,b]
def jT(x b:J):J:=Ae QM x b
def OC(x b:J):jT x b=QM x (jL QM x.ae) b:=congrFun (kP _ x) b
def Ic(x b:J)(h:x.ah=1\/b.ah=1):jT x b=J.mk 1 0 []:=by rw[OC,QM,a9l h]
def Ie(x b:J)(h:¬ (x.ah=1\/b.ah=1))(h2:x.ah=2):jT x b=b:=by rw[OC,QM,a9c h,a9l h2]
def Ig(x b:J)(h:¬ (x.ah=1\/b.ah=1))(h2:¬ x.ah=2)(h3:b.ah=2):jT x b=x:=by rw[OC,QM,a9c h,a9c h2,a9l h3]
def Ih(x b:J)(h:¬ (x.ah=1\/b.ah=1))(h2:¬ x.ah=2)(h3:¬ b.ah=2)(h7:x.ah=7)(g:B2 x):jT x b=jT (x.ae.getD 0 zE) (jT (x.ae.getD 1 zE) b):=by
 rw[OC,QM,a9c h,a9c h2,a9c h3,a9l h7];rw[eQ QM id zE x.ae 0 (by have:=g.len;omega),eQ QM id zE x.ae 1 (by have:=g.len;omega)];rfl
def Ii(x b:J)(h:¬ (x.ah=1\/b.ah=1))(h2:¬ x.ah=2)(h3:¬ b.ah=2)(h7:¬ x.ah=7):jT x b=J.mk 7 0 [x,b]:=by rw[OC,QM,a9c h,a9c h2,a9c h3,a9c h7]
def SP:∀ (N:Nat) (x:J),bH x<N->aA x=true->∀ b,aA b=true->Z6 x b (jT x b)
 | 0,x,h,_=>by omega
 | N+1,x,hN,h=>by
  intro b hb;have hx:=Hc x;have WS:=Hc b;by_cases h1:x.ah=1\/b.ah=1
  .rw[Ic x b h1];exact⟨GM,by rw[DG];omega⟩
  by_cases h2:x.ah=2
  .rw[Ie x b h1 h2];exact⟨hb,by omega⟩
  by_cases h3:b.ah=2
  .rw[Ig x b h1 h2 h3];exact⟨h,by omega⟩
  by_cases h7:x.ah=7
  .have g:=cH x h (.inr h7);rw[Ih x b h1 h2 h3 h7 g];have r:=SP N (x.ae.getD 1 zE) (by have:=g.l1;omega) g.g1 b hb;have q:=SP N (x.ae.getD 0 zE) (by have:=g.l0;omega) g.g0 _ r.g;exact⟨q.g,by have:=q.n;have:=r.n;have:=g.nd;omega⟩
  .rw[Ii x b h1 h2 h3 h7];exact⟨gG x b 7 h hb (.inr rfl),by rw[km];omega⟩
def DR(a:J):J:=if bD a=true then J.mk 2 0 [] else if a.ah=8 then a else J.mk 8 0 [a]
def a5N(a:J)(h:aA a=true):aA (DR a)=true/\ar (DR a)<=ar a+1:=by
 have:=Hc a;unfold DR;split
 .exact⟨RQ,by rw[DG];omega⟩
 .split
  .exact⟨h,by omega⟩
  .exact⟨WM a h,by rw[Vt];omega⟩
noncomputable def ZO(x:J)(ys:List J):J :=
 if x.ah=6 then Nv (ys.getD 0 x) (ys.getD 1 x) else if x.ah=7 then jT (ys.getD 0 x) (ys.getD 1 x) else if x.ah=8 then DR (ys.getD 0 x) else x
noncomputable def eC(x:J):J:=Ae ZO x
def V2(x:J)(i:Nat)(h:i<x.ae.length):(jL ZO x.ae).getD i x=eC (x.ae.getD i zE):=eQ _ _ _ _ i h
def a2p(x:J)(h:x.ah=6)(b:B2 x):eC x=Nv (eC (x.ae.getD 0 zE)) (eC (x.ae.getD 1 zE)):=by
 rw[eC,kP];simp only[ZO,h];rw[V2 x 0 (by have:=b.len;omega),V2 x 1 (by have:=b.len;omega)];rfl
def a2q(x:J)(h:x.ah=7)(b:B2 x):eC x=jT (eC (x.ae.getD 0 zE)) (eC (x.ae.getD 1 zE)):=by
 rw[eC,kP];simp only[ZO,h];rw[V2 x 0 (by have:=b.len;omega),V2 x 1 (by have:=b.len;omega)];rfl
def a2r(x:J)(h:x.ah=8)(b:B1 x):eC x=DR (eC (x.ae.getD 0 zE)):=by
 rw[eC,kP];simp only[ZO,h];rw[V2 x 0 (by have:=b.len;omega)];rfl
def a2s(x:J)(h6:¬ x.ah=6)(h7:¬ x.ah=7)(h8:¬ x.ah=8):eC x=x:=by
 rw[eC,kP];simp[ZO,h6,h7,h8]
structure a3A(x r:J):Prop where
 g:aA r=true
 n:ar r<=ar x
def Lr:∀ (N:Nat) (x:J),bH x<N->aA x=true->a3A x (eC x)
 | 0,x,h,_=>by omega
 | N+1,x,hN,h=>by
  by_cases h6:x.ah=6
  .have b:=cH x h (.inl h6);rw[a2p x h6 b];have p:=Lr N (x.ae.getD 0 zE) (by have:=b.l0;omega) b.g0;have q:=Lr N (x.ae.getD 1 zE) (by have:=b.l1;omega) b.g1;have r:=a5P _ _ p.g q.g;exact⟨r.g,by have:=r.n;have:=p.n;have:=q.n;have:=b.nd;omega⟩
  by_cases h7:x.ah=7
  .have b:=cH x h (.inr h7);rw[a2q x h7 b];have p:=Lr N (x.ae.getD 0 zE) (by have:=b.l0;omega) b.g0;have q:=Lr N (x.ae.getD 1 zE) (by have:=b.l1;omega) b.g1;have r:=SP _ _ (a9o _) p.g _ q.g;exact⟨r.g,by have:=r.n;have:=p.n;have:=q.n;have:=b.nd;omega⟩
  by_cases h8:x.ah=8
  .have b:=j9 x h (.inr h8);rw[a2r x h8 b];have p:=Lr N (x.ae.getD 0 zE) (by have:=b.l0;omega) b.g0;have r:=a5N _ p.g;exact⟨r.1,by have:=r.2;have:=p.n;have:=b.nd;omega⟩
  .rw[a2s x h6 h7 h8];exact⟨h,a9n _⟩
def Ck(x:J)(h:aA x=true):a3A x (eC x):=Lr _ x (a9o _) h
def dtT(x b:J)(h:aA x=true)(hb:aA b=true):Z6 x b (jT x b):=SP _ x (a9o _) h b hb
def lB(x:J)(h:ar x<=9000):cv x<=1048576:=by have:=Sh x;omega
def Ug(x:J)(h:aA x=true)(hn:ar x<=9000):(bC x).length<=1000000:=by have:=vN _ x (a9o _) h;omega
def ou:aX:=⟨DD,[],⟨(none,[⟨(.st .expr),J.mk 2 0 []⟩])⟩⟩
def PB :Nat->aJ:=cj
def wC:aX.Good ou:=by
 refine⟨aD Bd,?_⟩;intro  _;refine aY [] [] [] [] trivial Bd H6 (PB ) ((J.mk (2:Int) (0:Int) [])=(J.mk 2 0 [])) ?_;refine ?_;all_goals try and_intros
 all_goals first|rfl|trivial|omega|(simp only[a9d,a8Z,aB,ai,ca,fv,dh,bz] at *;omega)|(simp[aB,ai] at *;omega)|grind
def jm:aX:=⟨sw,[],⟨(none,[⟨(.st .expr),J.mk 1 0 []⟩])⟩⟩
def Nk :Nat->aJ:=cj
def mZ:aX.Good jm:=by
 refine⟨aD yr,?_⟩;intro  _;refine aY [] [] [] [] trivial yr Gk (Nk ) ((J.mk (1:Int) (0:Int) [])=(J.mk 1 0 [])) ?_;refine ?_;all_goals try and_intros
 all_goals first|rfl|trivial|omega|(simp only[a9d,a8Z,aB,ai,ca,fv,dh,bz] at *;omega)|(simp[aB,ai] at *;omega)|grind
def jl:aX:=⟨mQ,[.v (.int .i64), .v (.st .expr), .v (.st .expr)],λ (k:Int) (a:J) (b:J)=>⟨(none,[⟨(.st .expr),J.mk k 0 [a,b]⟩])⟩⟩
def Ng(k:Int)(a:J)(b:J):Nat->aJ:=cj
def mY:aX.Good jl:=by
 refine⟨aD kJ,?_⟩;intro (k:Int) (a:J) (b:J) _;refine aY [] [] [] [4,5] trivial kJ tW (Ng k a b) ((J.mk k (0:Int) ([a,b]))=(J.mk k 0 [a,b])) ?_;refine ?_;all_goals try and_intros
 all_goals first|rfl|trivial|omega|(simp only[a9d,a8Z,aB,ai,ca,fv,dh,bz] at *;omega)|(simp[aB,ai] at *;omega)|grind
def jP(n:Nat):aX:=⟨pV,[.r (.st .expr), .v (.int .i64)],λ (x:J) (atom:Int)=>⟨(some (bH x<n/\aA x=true/\0<=atom/\atom<=4096),[⟨.bool,emV atom x⟩])⟩⟩
def pO:aX:=⟨pV,[.r (.st .expr), .v (.int .i64)],λ (x:J) (atom:Int)=>⟨(some (aA x=true/\0<=atom/\atom<=4096),[⟨.bool,emV atom x⟩])⟩⟩
def KV(x:J)(atom:Int):Nat->aJ:=cj
abbrev uT(n:Nat)(x:J)(atom:Int):Prop:=(let v0:=x.ae.getD 1 zE;(x.ae.length<=140737488355328 ->
 (aB (1:Int) x.ae.length/\((bH v0<n/\aA v0=true/\0<=atom/\atom<=4096)/\(emV atom v0)=(emV atom x)))))
def Jo(n:Nat)(hE:bo [jP n,rW]):aX.Good (jP (n+1)):=by
 refine⟨aD jJ,?_⟩;intro (x:J) (atom:Int) (hp:bH x<n+1/\aA x=true/\0<=atom/\atom<=4096);refine aY [jP n,rW] [] [] [] hE jJ EJ (KV x atom) (let v0:=x.ae.getD 0 zE;let v1:=bH v0<n/\aA v0=true/\0<=atom/\atom<=4096;let v2:=emV atom x;let v3:=emV atom v0;((ai x.ah->(((decide (x.ah=(4:Int)))=true->false=v2)/\((decide (x.ah=(4:Int)))=false->(((decide (x.ah=(6:Int)))=true->(x.ae.length<=140737488355328->(aB (0:Int) x.ae.length/\(v1/\((v3=false->(uT n x atom))/\(v3=(!false)->true=v2))))))/\((decide (x.ah=(6:Int)))=false->(((decide (x.ah=(7:Int)))=true->(x.ae.length<=140737488355328->(aB (0:Int) x.ae.length/\(v1/\((v3=true->(uT n x atom))/\(v3=(!true)->false=v2))))))/\((decide (x.ah=(7:Int)))=false->(((decide (x.ah=(8:Int)))=true->true=v2)/\((decide (x.ah=(8:Int)))=false->((im x=true/\0<=atom/\atom<=4096)/\(fZ atom x)=v2)))))))))))) ?_;obtain⟨hm,hg,h0,h1⟩:=hp;refine λ _=>⟨λ _=>?_,λ _=>⟨λ _ _=>⟨?_,?_,λ _ _=>⟨?_,?_,?_⟩,λ _=>?_⟩,λ _=>⟨λ _ _=>⟨?_,?_,λ _ _=>⟨?_,?_,?_⟩,λ _=>?_⟩,λ _=>⟨λ _=>?_,λ _=>⟨?_,?_⟩⟩⟩⟩⟩;all_goals try and_intros
 all_goals first|rfl|trivial|omega|((try simp only[a9d,a8Z,aB,b3q,b1s,b3e,Bool.false_and,Bool.or_true,b1u] at *);first|rfl|omega|exact a3R atom x (by omega)|exact a3U atom x (by omega)|exact X5 atom x (by omega) (by omega) (by omega) (by omega)|exact Yb x hg (by have:=ez x hg;omega)|(have b:=cH x hg (by omega);first|(have:=b.len;omega)|exact b.g0|exact b.g1|(have:=b.l0;omega)|(have:=b.l1;omega)|(rw[a3S atom x (by omega) b];simp_all;done)|(rw[a3T atom x (by omega) b];simp_all;done)))
def Uo :∀ n,bo [jP n]
 | 0=>⟨⟨aD jJ,λ _ _ h=>absurd h.1 (a9K _)⟩,U⟩
 | n+1=>by
  have ih:=Uo  n;exact⟨Jo n ⟨ih.1,GI,U⟩,U⟩
def ES :aX.Good pO :=
 ⟨aD jJ,λ x atom hp=>(Uo  (bH x+1)).1.2 x atom (⟨a9o _,hp⟩)⟩
def ll(n:Nat):aX:=⟨sn,[.r (.st .expr)],λ (x:J)=>⟨(some (bH x<n/\ar x<=1048576),[⟨(.int .i64),(ar x:Int)⟩])⟩⟩
def rV:aX:=⟨sn,[.r (.st .expr)],λ (x:J)=>⟨(some (ar x<=1048576),[⟨(.int .i64),(ar x:Int)⟩])⟩⟩
def Na(x:J):Nat->aJ:=(eA 0 (.b (Nat) (λ k=>k<=x.ae.length) (λ k=>x.ae.length - k) [2] (λ k=>[(4, .aN ⟨(.int .i64),((k:Int):Int)⟩),(3, .aN ⟨(.int .i64),((1+cT ar (x.ae.take k):Int):Int)⟩)])) cj)
def Lc(n:Nat)(hE:bo [ll n]):aX.Good (ll (n+1)):=by
 refine⟨aD kF,?_⟩;intro (x:J) (hp:bH x<n+1/\ar x<=1048576);refine aY [ll n] [] [] [] hE kF Gb (Na x) (let v0:=(x.ae.length:Int);(((∃ k1:Nat,(k1<=x.ae.length/\((x=x/\((1:Int)=(1+cT ar (x.ae.take k1):Int)/\((0:Int)=(k1:Int)/\True)))/\True)))/\(∀ k1:Nat,let v2:=x.ae.getD k1 zE;let v3:=(1+cT ar (x.ae.take k1):Int);let v1:=v3+((ar v2:Int));(k1<=x.ae.length->(x.ae.length<=140737488355328->(ai v0->(((decide ((k1:Int)<v0))=true->(x.ae.length<=140737488355328->(aB (k1:Int) x.ae.length/\((bH v2<n/\ar v2<=1048576)/\(ai ((ar v2:Int))->(ai v1/\(ai ((k1:Int)+(1:Int))/\(∃ k2:Nat,(k2<=x.ae.length/\(x.ae.length - k2<x.ae.length - k1/\((x=x/\(v1=(1+cT ar (x.ae.take k2):Int)/\(((k1:Int)+(1:Int))=(k2:Int)/\True)))/\True)))))))))))/\((decide ((k1:Int)<v0))=false->v3=(ar x:Int)))))))))) ?_;rw[gR x] at hp;have f0:=fK x;have f1:=Em ar x.ae;refine⟨⟨0,?_,⟨rfl,?_,?_,U⟩,U⟩,λ k1 _=>have a3C:=nF ar zE x.ae k1;have a3D:=er ar x.ae k1;have a3E:=er ar x.ae (k1+1);have a3F:=vK ar x.ae k1;have a3G:=cB zE x.ae k1;λ _ _=>⟨λ _ _=>⟨?_,?_,λ _=>⟨?_,?_,k1+1,?_,?_,⟨rfl,?_,?_,U⟩,U⟩⟩,λ _=>?_⟩⟩;all_goals try and_intros
 all_goals try rw[gR x]
 all_goals first|rfl|trivial|omega|(simp only[a9d,a8Z,aB,ai,ca,fv,dh,bz] at *;omega)|(simp[aB,ai] at *;omega)|grind
def N5 :∀ n,bo [ll n]
 | 0=>⟨⟨aD kF,λ _ h=>absurd h.1 (a9K _)⟩,U⟩
 | n+1=>by
  have ih:=N5  n;exact⟨Lc n ⟨ih.1,U⟩,U⟩
def GF :aX.Good rV :=
 ⟨aD kF,λ x hp=>(N5  (bH x+1)).1.2 x (⟨a9o _,hp⟩)⟩
def mM(n:Nat):aX:=⟨vD,[.r (.st .expr), .r (.st .expr)],λ (x:J) (b:J)=>⟨(some (bH x<n/\aA x=true/\aA b=true/\ar x+ar b<=4000),[⟨(.st .expr),jT x b⟩])⟩⟩
def uZ:aX:=⟨vD,[.r (.st .expr), .r (.st .expr)],λ (x:J) (b:J)=>⟨(some (aA x=true/\aA b=true/\ar x+ar b<=4000),[⟨(.st .expr),jT x b⟩])⟩⟩
def PA(x:J)(b:J):Nat->aJ:=cj
abbrev yS(n:Nat)(x:J)(b:J):Prop:=(let v0:=x.ae.getD 1 zE;let v1:=x.ae.getD 0 zE;let v2:=aU (jT v0 b);(ai x.ah ->
 (((decide (x.ah=(2:Int)))=true ->
 (cv b<=1048576/\(aU b)=(jT x b)))/\((decide (x.ah=(2:Int)))=false ->
 (ai b.ah ->
 (((decide (b.ah=(2:Int)))=true ->
 (cv x<=1048576/\(aU x)=(jT x b)))/\((decide (b.ah=(2:Int)))=false ->
 (ai x.ah ->
 (((decide (x.ah=(7:Int)))=true ->
 (x.ae.length<=140737488355328 ->
 (aB (1:Int) x.ae.length/\((bH v0<n/\aA v0=true/\aA b=true/\ar v0+ar b<=4000)/\(x.ae.length<=140737488355328 ->
 (aB (0:Int) x.ae.length/\((bH v1<n/\aA v1=true/\aA v2=true/\ar v1+ar v2<=4000)/\(aU (jT v1 v2))=(jT x b))))))))/\((decide (x.ah=(7:Int)))=false ->
 (cv x<=1048576/\(cv b<=1048576/\(aU (J.mk (7:Int) 0 [x,b]))=(jT x b)))))))))))))
def Nt(n:Nat)(hE:bo [mM n,fA,jm,jl]):aX.Good (mM (n+1)):=by
 refine⟨aD mG,?_⟩;intro (x:J) (b:J) (hp:bH x<n+1/\aA x=true/\aA b=true/\ar x+ar b<=4000);refine aY [mM n,fA,jm,jl] [] [] [] hE mG H5 (PA x b) ((ai x.ah->(((decide (x.ah=(1:Int)))=false->(ai b.ah->(((decide (b.ah=(1:Int)))=true->(aU (J.mk 1 0 []))=(jT x b))/\((decide (b.ah=(1:Int)))=false->(yS n x b)))))/\((decide (x.ah=(1:Int)))=(!false)->((true=true->(aU (J.mk 1 0 []))=(jT x b))/\(true=false->(yS n x b))))))) ?_;obtain⟨hm,hg,hb,hn⟩:=hp;refine λ _=>⟨λ _ _=>⟨λ _=>?_,λ _ _=>⟨λ _=>⟨?_,?_⟩,λ _ _=>⟨λ _=>⟨?_,?_⟩,λ _ _=>⟨λ _ _=>⟨?_,?_,λ _=>⟨?_,?_,?_⟩⟩,λ _=>⟨?_,?_,?_⟩⟩⟩⟩⟩,λ _=>⟨λ _=>?_,λ _ _=>⟨λ _=>⟨?_,?_⟩,λ _ _=>⟨λ _=>⟨?_,?_⟩,λ _ _=>⟨λ _ _=>⟨?_,?_,λ _=>⟨?_,?_,?_⟩⟩,λ _=>⟨?_,?_,?_⟩⟩⟩⟩⟩⟩;all_goals try and_intros
 all_goals try (first|with_reducible rfl|with_reducible assumption)
 all_goals try simp only[J.eta,cC] at *
 all_goals (try simp only[a9J,a9N,a9d,a8Z,aB,J.eta] at *);first|rfl|trivial|omega|exact lB _ (by omega)|exact (Ic x b (by omega)).symm|exact (Ie x b (by omega) (by omega)).symm|exact (Ig x b (by omega) (by omega) (by omega)).symm|exact (Ii x b (by omega) (by omega) (by omega) (by omega)).symm|with_reducible assumption|(have g:=cH x hg (by omega);first|(have:=g.len;omega)|exact g.g0|exact g.g1|(have:=g.l0;omega)|(have:=g.l1;omega)|exact (dtT _ b g.g1 hb).g|(have:=g.nd;omega)|(have:=g.nd;have:=(dtT _ b g.g1 hb).n;omega)|exact (Ih x b (by omega) (by omega) (by omega) (by omega) g).symm)|exact congrArg J.ah (Ic x b (by omega)).symm|exact congrArg J.ah (Ie x b (by omega) (by omega)).symm|exact congrArg J.ah (Ig x b (by omega) (by omega) (by omega)).symm|exact congrArg J.ah (Ii x b (by omega) (by omega) (by omega) (by omega)).symm|exact congrArg J.ah (Ih x b (by omega) (by omega) (by omega) (by omega) (cH x hg (by omega))).symm|exact congrArg J.bl (Ic x b (by omega)).symm|exact congrArg J.bl (Ie x b (by omega) (by omega)).symm|exact congrArg J.bl (Ig x b (by omega) (by omega) (by omega)).symm|exact congrArg J.bl (Ii x b (by omega) (by omega) (by omega) (by omega)).symm|exact congrArg J.bl (Ih x b (by omega) (by omega) (by omega) (by omega) (cH x hg (by omega))).symm|exact congrArg J.ae (Ic x b (by omega)).symm|exact congrArg J.ae (Ie x b (by omega) (by omega)).symm|exact congrArg J.ae (Ig x b (by omega) (by omega) (by omega)).symm|exact congrArg J.ae (Ii x b (by omega) (by omega) (by omega) (by omega)).symm|exact congrArg J.ae (Ih x b (by omega) (by omega) (by omega) (by omega) (cH x hg (by omega))).symm
def Rs :∀ n,bo [mM n]
 | 0=>⟨⟨aD mG,λ _ _ h=>absurd h.1 (a9K _)⟩,U⟩
 | n+1=>by
  have ih:=Rs  n;exact⟨Nt n ⟨ih.1,jM,mZ,mY,U⟩,U⟩
def IE :aX.Good uZ :=
 ⟨aD mG,λ x b hp=>(Rs  (bH x+1)).1.2 x b (⟨a9o _,hp⟩)⟩
def rX:aX:=⟨BF,[.r (.st .expr)],λ (x:J)=>⟨(some (aA x=true/\ar x<=4000),[⟨(.st .expr),DR x⟩])⟩⟩
def Nh(x:J):Nat->aJ:=cj
def GK:aX.Good rX:=by
 refine⟨aD yq,?_⟩;intro (x:J) (hp:aA x=true/\ar x<=4000);refine aY [gD,fA,ou] [] [] [] ⟨nu,jM,wC,U⟩ yq Gg (Nh x) ((((bD x)=true->(aU (J.mk 2 0 []))=(DR x))/\((bD x)=false->(ai x.ah->(((decide (x.ah=(8:Int)))=true->(cv x<=1048576/\(aU x)=(DR x)))/\((decide (x.ah=(8:Int)))=false->(cv x<=1048576/\(J.mk (8:Int) (0:Int) ([x]))=(DR x)))))))) ?_;obtain⟨hg,hn⟩:=hp;refine⟨λ _=>?_,λ _ _=>⟨λ _=>⟨?_,?_⟩,λ _=>⟨?_,?_⟩⟩⟩;all_goals try and_intros
 all_goals try (first|with_reducible rfl|with_reducible assumption)
 all_goals try simp only[J.eta,cC] at *
 all_goals (try simp only[decide_eq_true_eq,decide_eq_false_iff_not,aB,J.eta] at *);first|rfl|trivial|omega|exact lB _ (by omega)|(unfold DR;first|(rw[if_pos (by with_reducible assumption)];done)|(rw[if_neg (by simp_all),if_pos (by with_reducible assumption)];done)|(rw[if_neg (by simp_all),if_neg (by with_reducible assumption)];done))
open Go.RowKit Go.Proofs
def a1V{w0 w:World}{S:Nat->Prop}(hS:jf w0 S)(hb:Below w0.heap.size w0 w):jf w S :=
 ⟨λ b h=>a9g (hS.1 b h) hb.size,hS.2.mono (λ _ h=>h) λ b h=>hb.block b (hS.1 b h)⟩
def Ys{w0 w:World}{S:Nat->Prop}(hS:jf w0 S)(hb:Below w0.heap.size w0 w){d:D}{cs:List Value}(r:Rd w0 S d cs):Rd w S d cs:=Rd.aL (λ _ h=>h) (λ b h=>hb.block b (hS.1 b h)) _ r
def qA{B:Nat}{w w':World}(h:bI (λ _=>False) w w')(hB:B<=w.heap.size):Below B w w':=⟨h.os,h.tape,h.output,h.size,λ k hk=>h.block k (by omega) id⟩
def Xz{w0 w:World}{S:Nat->Prop}(hS:jf w0 S)(hb:Below w0.heap.size w0 w)(x y:J)(b o b' o':Nat)(cx cy:List Value)(h1:b<w.heap.size)(h2:bm w b o cx)(rx:Rd w0 S x.aE cx)
  (td:b'<w.heap.size) (CX:bm w b' o' cy) (ry:Rd w0 S y.aE cy) :
  Calls prog mO #[.pointer (some ⟨b,o,none⟩), .pointer (some ⟨b',o',none⟩)] w λ e w'=>e = .returned (.bool (gu x y))/\bI (λ _=>False) w w':=by
 refine (mX.2 x y trivial w _ [_,_] (a1V hS hb) ⟨⟨b,o,cx,rfl,h1,h2,Ys hS hb rx⟩,⟨b',o',cy,rfl,td,CX,Ys hS hb ry⟩,U⟩).mono ?_;rintro e w' ⟨v,S',res,rfl,rfl,eK,_,_,hr⟩;have hr:[v]=[.bool (gu x y)]:=hr;simp only[a9a,a9q] at hr;subst hr;exact⟨rfl,eK⟩
structure Cm(q:Nat)(v v':Value)(w w':World):Prop where
 os:w'.os=w.os
 tape:w'.tape=w.tape
 output:w'.output=w.output
 size:w.heap.size<=w'.heap.size
 block:∀ k,k<w.heap.size->k≠q->v.ownBlock≠some k->w'.heap[k]?=w.heap[k]?
 own:∀ k,v'.ownBlock=some k->v.ownBlock=some k\/w.heap.size<=k
def Cm.trans{q:Nat}{v v' v'':Value}{w w' JS:World}(h:Cm q v v' w w')(g:Cm q v' v'' w' JS):Cm q v v'' w JS:=by
 refine⟨g.os.trans h.os,g.tape.trans h.tape,g.output.trans h.output,b0b h.size g.size,λ k h1 h2 h3=>?_,λ k hk=>?_⟩
 .rw[g.block k (a9g h1 h.size) h2 λ e=>?_,h.block k h1 h2 h3];rcases h.own k e with q|q
  .exact h3 q
  .omega
 .rcases g.own k hk with q|q
  .exact h.own k q
  .exact .inr (b0b h.size q)
def Cm.below{q B:Nat}{v v':Value}{w w':World}(h:Cm q v v' w w')(hB:B<=w.heap.size)(hq:B<=q)(hv:∀ k,v.ownBlock=some k->B<=k):Below B w w' :=
 ⟨h.os,h.tape,h.output,h.size,λ k hk=>h.block k (by omega) (by omega) λ e=>by have:=hv k e;omega⟩
def Cm.same{q:Nat}{v:Value}{w w':World}(h:bI (λ _=>False) w w'):Cm q v v w w':=⟨h.os,h.tape,h.output,h.size,λ k hk _ _=>h.block k hk id,λ k e => .inl e⟩
structure Er(w0:World)(S:Nat->Prop)(q:Nat)(w:World)(v:Value)(ys:List J)(L:List Value):Prop where
 cQ:Below w0.heap.size w0 w
 q0:w0.heap.size<=q
 var:w.heap[q]?=some (.cells #[v] 26 (0,0))
 own:w.ownsRow w0.heap.size 28 3 v ys.length L
 rd:cZ w0 S (ys.map J.aE) L
 ne:v.ownBlock≠some q
 nn:v ≠ .slice none 0 0
def Er.lt{w0:World}{S:Nat->Prop}{q:Nat}{w:World}{v:Value}{ys:List J}{L:List Value}(h:Er w0 S q w v ys L):q<w.heap.size:=bp h.var
def Er.form{w0:World}{S:Nat->Prop}{q:Nat}{w:World}{v:Value}{ys:List J}{L:List Value}(h:Er w0 S q w v ys L):∃ g cap cur,v = .slice (some ⟨g,0,none⟩) ys.length cap/\w0.heap.size<=g/\g≠q/\w.heap[g]?=some (.cells cur 28 (0,0))/\ys.length<=cap/\cap<=maxLen/\cur.toList.take (ys.length * 3)=L:=by
 rcases h.own.2 with ⟨e,_⟩|⟨g,cap,cur,rfl,h1,h2,h3,h4,h5,h6⟩
 .exact absurd e h.nn
 .exact⟨g,cap,cur,rfl,h1,λ e=>h.ne (by rw[e];rfl),h2,h3,h4,h6⟩
def Er.aL{w0:World}{S:Nat->Prop}{q:Nat}{w w':World}{v:Value}{ys:List J}{L:List Value}(h:Er w0 S q w v ys L)(hk:bI (λ _=>False) w w'):Er w0 S q w' v ys L :=
 ⟨h.cQ.trans (qA hk h.cQ.size),h.q0,(hk.block q h.lt id).trans h.var,h.own.kept (row:=none) ⟨hk.os,hk.tape,hk.output,hk.size,λ k h1 _=>hk.block k h1 id⟩ (by cases hv:v.ownBlock<;>simp),h.rd,h.ne,h.nn⟩
def OJ(ys:List J):∀ d∈ys.map J.aE,d.size=3:=λ d hd=>by
 obtain⟨y,_,rfl⟩:=a9b.1 hd;cases y;rfl
def DN{w0:World}{S:Nat->Prop}{ys:List J}{L:List Value}{w:World}{g:Nat}{cur:Array Value}(hg:w.heap[g]?=some (.cells cur 28 (0,0)))(ht:cur.toList.take (ys.length * 3)=L)(hr:cZ w0 S (ys.map J.aE) L)
  (k:Nat) (y:J) (hy:ys[k]?=some y):∃ c0 c1 c2,bm w g (k * 3) [c0,c1,c2]/\Rd w0 S y.aE [c0,c1,c2]:=by
 have hk:k<ys.length:=(a9p.1 hy).1;have r:=cZ.at_ (n:=3) _ hr (OJ ys) k y.aE (by simp[hy]);have hl:=cZ.length (n:=3) _ hr (OJ ys);rw[a9M] at hl;have h3:((L.drop (k * 3)).take 3).length=3:=by rw[a9W,b0h];omega
 match hm:(L.drop (k * 3)).take 3,h3 with
 | [c0,c1,c2],_ =>
  rw[hm] at r;refine⟨c0,c1,c2,λ j v hj=>?_,r⟩;rw[<-hm] at hj;have hj3:j<3:=by have:=(a9p.1 hj).1;omega
  rw[List.getElem?_take_of_lt hj3,List.getElem?_drop,<-ht,List.getElem?_take_of_lt (by omega)] at hj;rw[cell_of_row w g (k * 3+j) cur 28 (0,0) hg];simpa using hj
def PM{w0:World}{S:Nat->Prop}{q:Nat}{w:World}{v:Value}{ys:List J}{L:List Value}(h:Er w0 S q w v ys L):w.cell? ⟨q,0,none⟩=some v:=by simp[World.cell?,h.var]
def yz{w0 w:World}(hb:Below w0.heap.size w0 w){b o:Nat}{cs:List Value}(h:bm w0 b o cs)(h1:b<w0.heap.size):bm w b o cs:=h.aL (hb.block b h1)
abbrev Rm(w0:World)(S:Nat->Prop)(x:J)(b o q:Nat)(v:Value)(ys:List J)(w:World):Prop :=
 Calls prog 115 #[.pointer (some ⟨b,o,none⟩), .pointer (some ⟨q,0,none⟩)] w λ e w'=>e = .returned (.tuple #[])/\∃ v' L',Er w0 S q w' v' (dN x ys) L'/\Cm q v v' w w'
def kN:Value->Nat
 | .int _ k=>k.toNat
 | _=>0
set_option maxRecDepth 100000 in
def a7A(w0:World)(S:Nat->Prop)(x:J)(h1:x.ah=1)(b o q:Nat)(v:Value)(ys:List J)(L:List Value)(w:World)(hl:Er w0 S q w v ys L)(hc:w.cell? ⟨b,o,none⟩=some (.int .i64 1)):Rm w0 S x b o q v ys w:=by
 go_enter Tryz.func115,Tryz.ntmps115;go_wp2;(try simp only[Exit.inBlock,Exit.then]);refine bodyPost_ret (results_none rfl _ _ _) rfl ?_;rw[a1R x ys h1];exact⟨rfl,v,L,hl,Cm.same (bI.refl _ w)⟩
set_option maxRecDepth 100000 in
def a7B(w0:World)(S:Nat->Prop)(x:J)(h6:x.ah=6)(b2:B2 x)(b o q kb ko cap:Nat)(v:Value)(ys:List J)(w:World)(c0:w.cell? ⟨b,o,none⟩=some (.int .i64 6))
  (c2:∀ w',(∃ v',Cm q v v' w w')->w'.cell? ⟨b,o+2,none⟩=some (.slice (some ⟨kb,ko,none⟩) 2 cap))
  (i0:Rm w0 S (x.ae.getD 0 zE) kb ko q v ys w)
  (i1:∀ w' v' L',Er w0 S q w' v' (dN (x.ae.getD 0 zE) ys) L'->Cm q v v' w w'->Rm w0 S (x.ae.getD 1 zE) kb (ko+3) q v' (dN (x.ae.getD 0 zE) ys) w'):Rm w0 S x b o q v ys w:=by
 have c2':=c2 w ⟨v,Cm.same (bI.refl _ w)⟩;go_enter Tryz.func115,Tryz.ntmps115;go_wp2_with (go_at_call 115;refine i0.mono ?_);rintro e w1 ⟨he,v1,L1,l1,f1⟩;subst he;have a8C:=c2 w1 ⟨v1,f1⟩;go_wp2_with (go_at_call 115;refine (i1 w1 v1 L1 l1 f1).mono ?_);rintro e w2 ⟨he,v2,L2,l2,f2⟩;subst he;go_wp2;(try simp only[Exit.inBlock,Exit.then]);refine b2G (b3r rfl _ _ _) rfl ?_;rw[a1S x ys h6 b2];exact⟨rfl,v2,L2,l2,f1.trans f2⟩
def a7y(L:List Value)(z0 z1 z2 a b c:Value)(n:Nat)(h:L.length=n):(((L++[z0,z1,z2]).set n a).set (n+1) b).set (n+2) c=L++[a,b,c]:=by
 subst h;rw[b1E _ _ (by omega),b1E _ _ (by omega),b1E _ _ (by omega)];simp
def a2j{w0 w wr w2 W:World}{S:Nat->Prop}{q g gg FQ Iv:Nat}{x:J}{ys:List J}{L:List Value}{a b c:Value}{cur3:Array Value}{o1:Obj}(lr:Er w0 S q wr (.slice (some ⟨g,0,none⟩) ys.length FQ) ys L)
  (jU:bI (λ _=>False) w wr) (hqw:q<w.heap.size) (hgw:g<w.heap.size) (di:(wr.alloc o1).grownBy w2 (some g)) (Ks:some g=some gg\/gg=wr.heap.size+1) (a4k:gg<w2.heap.size) (gq2:gg≠q)
  (s3:w2.heap[gg]?=some (.cells cur3 28 (0,0))) (s4:cur3.size=Iv * 3) (s5:ys.length+1<=Iv) (s6:Iv<=maxLen) (s7:w0.heap.size<=gg) (s8:cur3.toList.take ((ys.length+1) * 3)=L++[.int .i64 0, .int .i64 0, .slice none 0 0])
  (rx:Rd w0 S x.aE [a,b,c]) (k1:W.os=w2.os) (k2:W.tape=w2.tape) (k3:W.output=w2.output) (k4:W.heap.size=w2.heap.size) (k5:∀ k,k≠q->k≠gg->W.heap[k]?=w2.heap[k]?)
  (k6:W.heap[q]?=some (.cells #[.slice (some ⟨gg,0,none⟩) (ys.length+1) Iv] 26 (0,0)))
  (k7:W.heap[gg]?=some (.cells (((cur3.setIfInBounds (ys.length * 3) a).setIfInBounds (ys.length * 3+1) b).setIfInBounds (ys.length * 3+2) c) 28 (0,0))) :
  Er w0 S q W (.slice (some ⟨gg,0,none⟩) (ys.length+1) Iv) (ys++[x]) (L++[a,b,c])/\Cm q (.slice (some ⟨g,0,none⟩) ys.length FQ) (.slice (some ⟨gg,0,none⟩) (ys.length+1) Iv) w W:=by
 have hLl:L.length=ys.length * 3:=lr.own.1;have hg0:w0.heap.size<=g:=(lr.own.lt g rfl).1;have sz:(wr.alloc o1).heap.size=wr.heap.size+1:=by simp
 have dk:∀ k,k<wr.heap.size->k≠q->k≠g->W.heap[k]?=wr.heap[k]?:=λ k h1 h2 h3=>by
  rw[k5 k h2 (λ e=>by rcases Ks with r|r<;>first|omega|(cases r;exact h3 e)),di.block k (by omega) (λ e=>h3 (by cases e;rfl)),b0a _ _ _ h1]
 have fr:Cm q (.slice (some ⟨g,0,none⟩) ys.length FQ) (.slice (some ⟨gg,0,none⟩) (ys.length+1) Iv) w W:=by
  refine⟨k1.trans (di.os.trans jU.os),k2.trans (di.tape.trans jU.tape),k3.trans (di.output.trans jU.output),by have:=di.size;have:=jU.size;omega,λ k h1 h2 h3=>?_,λ k hk=>?_⟩
  .have hk:k<wr.heap.size:=a9g h1 jU.size;rw[dk k hk h2 (λ e=>h3 (by rw[e];rfl)),jU.block k h1 id]
  .simp only[Value.ownBlock,a8V] at hk ⊢;subst hk;rcases Ks with e|e
   .cases e;exact .inl rfl
   .exact .inr (by have:=jU.size;omega)
 refine⟨⟨?_,lr.q0,k6,⟨?_, .inr ⟨gg,Iv,_,?_,s7,k7,by simpa using s5,s6,by simpa using s4,?_⟩⟩,?_,λ e=>gq2 (by simpa [Value.ownBlock] using e),by simp⟩,fr⟩
 .refine lr.cQ.trans ⟨k1.trans di.os,k2.trans di.tape,k3.trans di.output,by have:=di.size;omega,λ k hk=>dk k ?_ ?_ ?_⟩
  .have:=lr.cQ.size;omega
  .have:=lr.q0;omega
  .omega
 .simp[hLl];omega
 .simp
 .simp only[Array.toList_setIfInBounds,List.take_set,a9i,a9f,a9v,b0t,s8];exact a7y L _ _ _ a b c _ hLl
 .rw[b0p];exact cZ.append _ _ lr.rd ⟨_,[],by simp,rx,rfl⟩
def Tu:(Tryz.prog.info? 28).map (λ i=>(i.zero,i.size,i.bytes))=some (some (.agg #[.int .i64 0, .int .i64 0, .slice none 0 0]),3,40):=by kernel_rfl
def P6{w:World}{base e n g cap:Nat}{L:List Value}{c0 c1 c2:Value}(h:w.ownsRow base e 3 (.slice (some ⟨g,0,none⟩) (n+1) cap) (n+1) (L++[c0,c1,c2]))(hl:L.length=n * 3) :
  (w.cell? ⟨g,n * 3,none⟩=some c0/\w.cell? ⟨g,n * 3+1,none⟩=some c1/\w.cell? ⟨g,n * 3+2,none⟩=some c2)/\∃ cur,w.heap[g]?=some (.cells cur e (0,0))/\cur.size=cap * 3/\n+1<=cap/\cap<=maxLen/\base<=g/\cur.toList.take ((n+1) * 3)=L++[c0,c1,c2]:=by
 have hc:=h.cells (g:=g) rfl;refine⟨⟨?_,?_,?_⟩,?_⟩
 .have:=hc (n * 3) c0 (by rw[List.getElem?_append_right (by omega),hl];simp);simpa [Addr.add_lit] using this
 .have:=hc (n * 3+1) c1 (by rw[List.getElem?_append_right (by omega),hl];simp);simpa [Addr.add_lit] using this
 .have:=hc (n * 3+2) c2 (by rw[List.getElem?_append_right (by omega),hl];simp);simpa [Addr.add_lit] using this
 .rcases h.2 with ⟨e,_⟩|⟨g',Ot,cur,e,h1,h2,h3,h4,h5,h6⟩
  .cases e
  .cases e;exact⟨cur,h2,h5,h3,h4,h1,h6⟩
def S3{w:World}{g e j:Nat}{cur:Array Value}(h:w.heap[g]?=some (.cells cur e (0,0))):w.frozen? ⟨g,j,none⟩=false:=by simp[World.frozen?,h]
set_option maxRecDepth 100000 in
def a7C(w0:World)(S:Nat->Prop)(hS:jf w0 S)(x:J)(hg:aA x=true)(n1:¬ x.ah=1)(n6:¬ x.ah=6)(b o q:Nat)(cs:List Value)(v:Value)(ys:List J)(L:List Value)(w:World)(hl:Er w0 S q w v ys L)
  (hb:b<w0.heap.size) (hc:bm w0 b o cs) (hr:Rd w0 S x.aE cs) (hn:ys.length<=8000):Rm w0 S x b o q v ys w:=by
 obtain⟨a,cap,rfl,_⟩:=oE hr;have C0:b<w.heap.size:=Nat.lt_of_lt_of_le hb hl.cQ.size;have d0:w.cell? ⟨b,o,none⟩=some (.int .i64 x.ah):=yz hl.cQ hc hb 0 _ rfl;obtain⟨g,FQ,cur,rfl,hg0,hgq,oi,hgc,hgm,hgt⟩:=hl.form;have hv:=PM hl;have kb1:(x.ah == 1)=false:=by simpa using n1
 have kb6:(x.ah == 6)=false:=by simpa using n6
 go_enter Tryz.func115,Tryz.ntmps115;go_wp2;go_loopw [4] (λ i wr=>∃ k:Nat,i = .int .i64 k/\k<=ys.length/\bI (λ _=>False) w wr/\∀ j y,j<k->ys[j]?=some y->gu y x=false) (λ i wr=>ys.length - kN i)
 .exact⟨0,rfl,a9F _,bI.refl _ w,λ j y h=>absurd h (a9K _)⟩
 obtain⟨k,rfl,hk,jU,dv⟩:=hrel;have lr:=hl.aL jU;have Ph:=PM lr;have hbr:b<wr.heap.size:=a9g C0 jU.size;have a4i:wr.heap[g]?=some (.cells cur 28 (0,0)):=(jU.block g (bp oi) id).trans oi;by_cases bj:k<ys.length
 .obtain⟨y,hy⟩:∃ y,ys[k]?=some y:=⟨_,a9j bj⟩;obtain⟨e0,e1,e2,ce,re⟩:=DN a4i hgt hl.rd k y hy;go_wp2_with (go_at_call 59;refine (Xz hS lr.cQ y x g (k * 3) b o _ _ (bp a4i) ce re hbr (yz lr.cQ hc hb) hr).mono ?_);rintro e w1 ⟨he,h1⟩;subst he;go_wp2
  .rename_i he;(try simp only[Exit.inBlock,Exit.then]);refine b2G (b3r rfl _ _ _) rfl ?_;have ha:ys.any (λ z=>gu z x)=true:=b2D.2 ⟨y,a9C hy,he⟩;rw[a1U x ys n1 n6 ha];exact⟨rfl,_,L,lr.aL h1,Cm.same (jU.trans h1 λ _ _ h=>h)⟩
  .rename_i he;refine⟨⟨k+1,by first|rfl|simp,bj,jU.trans h1 λ _ _ h=>h,λ j z hj hz=>?_⟩,?_⟩
   .rcases a9O j k with q|q
    .exact dv j z q hz
    .have:j=k:=by omega
     subst this;rw[hy] at hz;cases hz;simpa using he
   .simp only[kN];omega
 .have ha:ys.any (λ z=>gu z x)=false:=by
   rw[b1Q];intro z hz;obtain⟨j,hj,e⟩:=b0K hz;have:=dv j z (by omega) (by rw[a9j hj,e]);rw[this];decide
  have hek:k=ys.length:=by omega
  subst hek;clear dv bj hk;have cb:=yz lr.cQ hc hb;have r0:wr.cell? ⟨b,o,none⟩=some (.int .i64 x.ah):=cb 0 _ rfl;have r1:wr.cell? ⟨b,o+1,none⟩=some (.int .i64 x.bl):=cb 1 _ rfl;have r2:wr.cell? ⟨b,o+2,none⟩=some (.slice a x.ae.length cap):=cb 2 _ rfl;have r3:wr.cell? ⟨q,0,none⟩=some (.slice (some ⟨g,0,none⟩) ys.length FQ):=by simp[World.cell?,lr.var]
  have gq:g≠q:=hgq;obtain⟨i0,QW,GY,KC,MW⟩:=b2Y Tu;have hlq:=lr.lt;have dF:=lr.own;have hLl:L.length=ys.length * 3:=dF.1;have bi0:(0:Int)<=(ys.length:Int):=by omega
  have bi1:(ys.length:Int)<(ys.length:Int)+1:=by omega
  have bi2:(ys.length:Int)<((ys.length+1:Nat):Int):=by omega
  have bq:b≠q:=by have:=lr.q0;omega
  have qb:q≠b:=b3u bq;have bg:b≠g:=by omega
  have aq:some q≠(Value.slice (some ⟨g,0,none⟩) ys.length FQ).ownBlock:=λ e=>hgq (by simpa [Value.ownBlock] using e.symm);have ab:some b≠(Value.slice (some ⟨g,0,none⟩) ys.length FQ).ownBlock:=λ e=>by
   have:b=g:=by simpa [Value.ownBlock] using e
   omega
  go_wp2_with fail;go_region_law
   ((
    refine step_append_lies _ (by rfl) _ _ _ (by rfl) w0.heap.size 28 i0 _ 3 40 Tryz.underlying26 QW GY KC MW rfl (by omega) _ ys.length L (by rfl) ((dF.alloc _).drew)
      ⟨wr.heap.size,0,none⟩ 1 1 [.int .i64 0, .int .i64 0, .slice none 0 0] (by rfl) (by rfl) (b2f (cs := #[.int .i64 0, .int .i64 0, .slice none 0 0]) (t:=28) (fr:=(0,0)) (b0k wr _)) (by simp[Value.oneCell'])
      (by omega) (by simp[maxLen];omega) (by omega) (by simp;have:=lr.cQ.size;omega) (wr.heap.size+1) (by simp) ?_;intro gg Iv w2 a1c di Ks a4k
    have gq2:gg≠q:=by
     rcases Ks with e|e
     .exact λ h=>aq (by rw[<-h,e])
     .omega
    have gb2:gg≠b:=by
     rcases Ks with e|e
     .exact λ h=>ab (by rw[<-h,e])
     .omega
    obtain⟨⟨s0,s1,s2⟩,cur3,s3,s4,s5,s6,s7,s8⟩:=P6 a1c hLl
    have z0:=S3 (j:=ys.length * 3) s3
    have z1:=S3 (j:=ys.length * 3+1) s3
    have z2:=S3 (j:=ys.length * 3+2) s3
    have uN:w2.heap[q]?=some (.cells #[.slice (some ⟨g,0,none⟩) ys.length FQ] 26 (0,0)):=(di.block q (by simp;omega) aq).trans ((show _=wr.heap[q]? from b0a wr _ q hlq).trans lr.var)
    have fq2:=S3 (j:=0) uN
    have vq:w2.cell? ⟨q,0,none⟩=some (.slice (some ⟨g,0,none⟩) ys.length FQ):=by simp[World.cell?,uN]))
  all_goals
   (try simp only[Exit.inBlock,Exit.then])
   refine bodyPost_end (b3r rfl _ _ _) rfl ?_
   rw[a1T x ys n1 n6 ha]
   obtain⟨⟨s0,s1,s2⟩,cur3,s3,s4,s5,s6,s7,s8⟩:=P6 a1c hLl
   have uN:w2.heap[q]?=some (.cells #[.slice (some ⟨g,0,none⟩) ys.length FQ] 26 (0,0)):=(di.block q (by simp;omega) aq).trans ((show _=wr.heap[q]? from b0a wr _ q hlq).trans lr.var)
   have gq3:q≠gg:=b3u gq2
   refine⟨rfl,_,_,a2j (cur3:=cur3) lr jU hl.lt (bp oi) ⟨di.os,di.tape,di.output,di.size,di.block⟩ Ks a4k gq2 s3 s4 s5 s6 s7 s8 hr rfl rfl rfl (by simp) (λ k e1 e2=>?_) ?_ ?_⟩
   .repeat rw[b0F _ _ _ _ (by assumption)]
   .first
     | (rw[b0m _ _ _ _ _ _ (by (repeat rw[b0F _ _ _ _ (by assumption)]);exact uN)];rfl)
     | (
       repeat rw[b0F _ _ _ _ (by assumption)]
       rw[b0m _ _ _ _ _ _ uN];rfl)
   .first
     | (
       rw[b0F _ _ _ _ (by assumption)]
       exact b0m _ _ _ _ _ _ (b0m _ _ _ _ _ _ (b0m _ _ _ _ _ _ s3)))
     | exact b0m _ _ _ _ _ _ (b0m _ _ _ _ _ _ (b0m _ _ _ _ _ _ ((b0F _ _ _ _ (by assumption)).trans s3)))
def El(w0:World)(S:Nat->Prop)(hS:jf w0 S):∀ (N:Nat) (x:J),bH x<N->aA x=true->∀ (b o q:Nat) (cs:List Value) (v:Value) (ys:List J) (L:List Value) (w:World),Er w0 S q w v ys L->b<w0.heap.size->bm w0 b o cs->Rd w0 S x.aE cs ->
  j8 ys->eI ys+ar x<=8000->Rm w0 S x b o q v ys w
 | 0,x,h,_=>by omega
 | N+1,x,hN,hg=>by
  intro b o q cs v ys L w hl hb hc hr QV hn;by_cases h1:x.ah=1
  .obtain⟨a,cap,rfl,_⟩:=oE hr;exact a7A w0 S x h1 b o q v ys L w hl (by rw[<-h1];exact yz hl.cQ hc hb 0 _ rfl)
  by_cases h6:x.ah=6
  .have b2:=cH x hg (.inl h6);obtain⟨a,cap,rfl,hk⟩:=oE hr;obtain⟨kb,ko,rfl,Y3,eW⟩:∃ kb ko,a=some ⟨kb,ko,none⟩/\S kb/\cF w0 S (x.ae.map J.aE) kb ko:=by
    rcases hk with hk|hk
    .have:=b2.len;rw[hk] at this;cases this
    .obtain⟨kb,ko,e1,e2,e3⟩:=hk;exact⟨kb,ko,e1,e2,e3⟩
   obtain⟨c0,c1,c2,r0,q0⟩:=Ju eW 0 (by have:=b2.len;omega);obtain⟨d0,d1,d2,r1,q1⟩:=Ju eW 1 (by have:=b2.len;omega);have a6M:∀ w',(∃ v',Cm q v v' w w')->Below w0.heap.size w0 w':=λ w' ⟨v',f⟩=>hl.cQ.trans (f.below hl.cQ.size hl.q0 λ k hk=>(hl.own.lt k hk).1);obtain⟨g1,t1⟩:=Hp _ (x.ae.getD 0 zE) (a9o _) b2.g0 ys QV;have nd:=b2.nd;refine a7B w0 S x h6 b2 b o q kb ko cap v ys w (by rw[<-h6];exact yz hl.cQ hc hb 0 _ rfl) (λ w' W9=>by have:=yz (a6M w' W9) hc hb 2 _ rfl;rw[b2.len] at this;exact this)
    (El w0 S hS N _ (by have:=b2.l0;omega) b2.g0 kb ko q _ v ys L w hl (hS.1 kb Y3) (by simpa using q0) r0 QV (by omega)) λ w' v' L' l' f' =>
    El w0 S hS N _ (by have:=b2.l1;omega) b2.g1 kb (ko+3) q _ v' _ L' w' l' (hS.1 kb Y3) (by simpa using q1) r1 g1 (by omega)
  .exact a7C w0 S hS x hg h1 h6 b o q cs v ys L w hl hb hc hr (by have:eI ys=cT ar ys+ys.length:=rfl;omega)
def XH{w0 w:World}{S:Nat->Prop}(hS:jf w0 S)(hb:Below w0.heap.size w0 w)(x:J)(hg:aA x=true)(hl:(bC x).length<=1000000)(b o:Nat)(cx:List Value)(h1:b<w.heap.size)(h2:bm w b o cx)(rx:Rd w0 S x.aE cx) :
  Calls prog mP #[.pointer (some ⟨b,o,none⟩)] w λ e w'=>e = .returned (.string ⟨(bC x).toArray⟩)/\bI (λ _=>False) w w':=by
 refine (GG.2 x ⟨hg,hl⟩ w _ [_] (a1V hS hb) ⟨⟨b,o,cx,rfl,h1,h2,Ys hS hb rx⟩,U⟩).mono ?_;rintro e w' ⟨v,S',res,rfl,rfl,eK,_,_,hr⟩;obtain⟨s,hs,oj,_⟩:=(show ∃ s:ByteArray,[v]=[.string s]/\s.data.toList=bC x/\s.size<=140737488355328 from hr);simp only[a9a,a9q] at hs;subst hs;refine⟨?_,eK⟩;rw[<-oj]
def strs(ys:List J):List Value:=ys.map λ y => .string ⟨(bC y).toArray⟩
def ZM(ys:List J)(k:Nat)(y:J)(h:ys[k]?=some y):(strs ys)[k]?=some (.string ⟨(bC y).toArray⟩):=by simp[strs,h]
def VV(xs:List J)(k:Nat)(h:k<=xs.length):(T8 xs k).length=k:=by
 have:=(T9 (xs.take k) []).2.2;unfold T8 AW;rw[this,List.length_take,List.length_nil];omega
def yI{w w':World}(h:Below w.heap.size w w'):w.grownBy w' none:=⟨h.os,h.tape,h.output,h.size,λ k h1 _=>h.block k h1⟩
def Mj{w:World}{B e sz g n c k:Nat}{xs:List Value}(h:w.ownsRow B e sz (.slice (some ⟨g,0,none⟩) n c) n xs)(hk:k<=n):w.ownsRow B e sz (.slice (some ⟨g,0,none⟩) k c) k (xs.take (k * sz)):=by
 obtain⟨h1,h2⟩:=h;have hm:=b0H sz hk;refine⟨by rw[a9W];omega,?_⟩;rcases h2 with ⟨q,_⟩|⟨g',c',cur,q,q1,q2,q3,q4,q5,q6⟩
 .cases q
 .cases q;exact .inr ⟨g,c,cur,rfl,q1,q2,by omega,q4,q5,by rw[<-q6,List.take_take,b2M hm]⟩
structure SrR(w0:World)(S:Nat->Prop)(B:Nat)(w wr:World)(ys:List J)(gt ct go co:Nat)(Lo:List Value):Prop where
 cQ:Below B w wr
 t:wr.ownsRow B 9 1 (.slice (some ⟨gt,0,none⟩) ys.length ct) ys.length (strs ys)
 o:wr.ownsRow B 28 3 (.slice (some ⟨go,0,none⟩) ys.length co) ys.length Lo
 rd:cZ w0 S (ys.map J.aE) Lo
 ne:gt≠go
def a5x:(Tryz.prog.info? 9).map (λ i=>(i.zero,i.size,i.bytes))=some (some (.string ⟨#[]⟩),1,16):=by kernel_rfl
def P8{w:World}{S:Nat->Prop}:∀ (ds es:List D) {l:List Value},cZ w S (ds++es) l->∃ l1 l2,l=l1++l2/\cZ w S ds l1/\cZ w S es l2
 | [],es,l,h=>⟨[],l,rfl,rfl,h⟩
 | d::ds,es,l,h=>by
  obtain⟨c,r,rfl,h1,h2⟩:=h;obtain⟨l1,l2,rfl,h3,h4⟩:=P8 ds es h2;exact⟨c++l1,l2,by simp,⟨c,l1,rfl,h1,h3⟩,h4⟩
def a1J{w0:World}{S:Nat->Prop}{ys:List J}{Lo:List Value}{x:J}{c0 c1 c2:Value}{k:Nat}(h:cZ w0 S (ys.map J.aE) Lo)(hx:Rd w0 S x.aE [c0,c1,c2])(hk:k<=ys.length) :
  cZ w0 S ((ys.take k++x::ys.drop k).map J.aE) (Lo.take (k * 3)++[c0,c1,c2]++Lo.drop (k * 3)):=by
 have e:ys.map J.aE=(ys.take k).map J.aE++(ys.drop k).map J.aE:=by rw[<-b0p,b0r]
 rw[e] at h;obtain⟨l1,l2,rfl,h1,h2⟩:=P8 _ _ h;have hl:=cZ.length (n:=3) _ h1 (OJ _);rw[a9M,a9W,b2M hk] at hl;rw[List.take_left' hl,List.drop_left' hl,b0p,a9x,a9B];exact cZ.append _ _ h1 ⟨[c0,c1,c2],l2,rfl,hx,h2⟩
def BK{P:Program}{w:World}{ops:Array Oper}{o:Oper}{a:Act}{K:Act->World->Prop}{Q:Exit->Act->World->Prop}{E:Prop}(hgd:o.guard=none)(s x:Operand)(t:TypeId)
  (ho:o.op = .call { callee := .builtin .append,args := #[s,x],argTypes := #[t,t] })
  (base:Nat) (e:TypeId) (i:TypeInfo) (z:Value) (size bytes:Nat) (ht:P.underlying t=some (.slice e)) (hi:P.info? e=some i) (hz:i.zero=some z)
  (xS:i.size=size) (hby:i.bytes=bytes) (Pk:z.cells.size=size) (bZ:0<size)
  (v:Value) (n:Nat) (xs:List Value) (hs:a.eval s=v) (dF:w.ownsRow base e size v n xs)
  (ad:Addr) (m c:Nat) (news:List Value) (hx:a.eval x = .slice (some ad) m c) (hl:news.length=m * size) (Am:∀ j u,news[j]?=some u->w.cell? (ad.add j)=some u) (h1:∀ u∈news,u.oneCell'=true)
  (h63:n+m<=maxLen) (Tc:(n+m) * bytes<=140737488355328) (Ku:base<=w.heap.size)
  (h:∀ v' w',w'.ownsRow base e size v' (n+m) (xs++news)->w.grownBy w' v.ownBlock->(v'.ownBlock=v.ownBlock\/v'.ownBlock=some w.heap.size)->K (a.put o.dst v') w') :
  if Region.wanted o (yielded ops a.tmps)=true then Oper.wp P o a w K Q else E:=by
 have hw:Region.wanted o (yielded ops a.tmps)=true:=by simp[Region.wanted,hgd]
 rw[if_pos hw];obtain⟨v',w',hr,h2,h3,h4,h5⟩:=run_append_own_at (P:=P) w base t o.type e i z size bytes ht hi hz xS hby Pk bZ v n xs dF ad m c news hl Am h1 h63 Tc Ku;unfold Oper.wp execOp;simp only[ho,resolve,invoke,builtin,Sem.run_bind,Sem.run_pure,Result.andThen_ok,List.map_toArray,List.map_cons,List.map_nil,hs,hx,hr];exact h v' w' h2 h3 h5
set_option maxRecDepth 100000 in
def T5(
           w0:World) (S:Nat->Prop) (hS:jf w0 S) (xs:List J) (hx:j8 xs) (hn:eI xs<=9000) (w:World) (hb:Below w0.heap.size w0 w) (g cap:Nat) (hgw:g<w.heap.size)
  (hc:∀ k y,xs[k]?=some y->∃ c0 c1 c2,bm w g (k * 3) [c0,c1,c2]/\Rd w0 S y.aE [c0,c1,c2]) :
  Calls prog 116 #[.slice (some ⟨g,0,none⟩) xs.length cap] w λ e w'=>∃ g' c' L',e = .returned (.slice (some ⟨g',0,none⟩) xs.length c')/\w'.ownsRow w.heap.size 28 3 (.slice (some ⟨g',0,none⟩) xs.length c') xs.length L'/\cZ w0 S ((AW xs).map J.aE) L'/\Below w.heap.size w w':=by
 have hlen:xs.length<=9000:=by have:eI xs=cT ar xs+xs.length:=rfl;omega
 have B0:Below w.heap.size w ((w.alloc (.cells #[] 9)).alloc (.cells #[] 28)):=((b0R _ w).alloc (a9n _) _).alloc (by simp) _;have T0:((w.alloc (.cells #[] 9)).alloc (.cells #[] 28)).ownsRow w.heap.size 9 1 (.slice (some ⟨w.heap.size,0,none⟩) 0 0) 0 []:=(b1B w #[] 0 (a9n _) (a9F _) (by simp)).alloc _;have O0:((w.alloc (.cells #[] 9)).alloc (.cells #[] 28)).ownsRow w.heap.size 28 3 (.slice (some ⟨w.heap.size+1,0,none⟩) 0 0) 0 []:=by
  have:=World.ownsRow_made (base:=w.heap.size) (e:=28) (size:=3) (w.alloc (.cells #[] 9)) #[] 0 (by simp) (Nat.zero_le _) (by simp);simpa using this
 go_enter Tryz.func116,Tryz.ntmps116;go_wp2;go_loopw [3,4,5] (λ vt vo i wr=>∃ (k gt ct go co:Nat) (Lo:List Value),i = .int .i64 k/\k<=xs.length/\vt = .slice (some ⟨gt,0,none⟩) k ct/\vo = .slice (some ⟨go,0,none⟩) k co/\SrR w0 S w.heap.size w wr (T8 xs k) gt ct go co Lo) (λ vt vo i wr=>xs.length - kN i)
 .exact⟨0,_,_,_,_,[],rfl,a9F _,rfl,rfl,⟨B0,T0,O0,rfl,by simp⟩⟩
 obtain⟨i,gt,ct,go,co,Lo,rfl,hi,rfl,rfl,hR⟩:=hrel;clear B0 T0 O0;by_cases bj:i<xs.length
 .obtain⟨x,EX⟩:∃ x,xs[i]?=some x:=⟨_,a9j bj⟩;have hgx:aA x=true:=hx x (a9C EX);obtain⟨c0,c1,c2,hcx,hrx⟩:=hc i x EX;have B7:=VV xs i hi;have vU:ar x<=9000:=by
   have:ar x<=cT ar xs:=by
    obtain⟨a,b,rfl⟩:=b2n (a9C EX);rw[zz];simp[cT];omega
   have:eI xs=cT ar xs+xs.length:=rfl;omega
  have hbr:Below w0.heap.size w0 wr:=hb.trans (hR.cQ.mono hb.size);have oi:g<wr.heap.size:=a9g hgw hR.cQ.size;have Kx:bm wr g (i * 3) [c0,c1,c2]:=hcx.aL (hR.cQ.block g hgw);have a7j:=ZI xs i x EX;generalize hY:T8 xs i=ys at *
  go_wp2_with (go_at_call 130;refine (XH hS hbr x hgx (Ug x hgx vU) g (i * 3) _ oi Kx hrx).mono ?_);rintro e w1 ⟨he,oO⟩;subst he;have b1:Below w.heap.size w w1:=hR.cQ.trans (qA oO hR.cQ.size);have gk:wr.grownBy w1 none:=⟨oO.os,oO.tape,oO.output,oO.size,λ k h1 _=>oO.block k h1 id⟩;have t1:=hR.t.kept gk (.inr (by simp[Value.ownBlock]));have o1:=hR.o.kept gk (.inr (by simp[Value.ownBlock]));have EW:bm w1 g (i * 3) [c0,c1,c2]:=Kx.aL (oO.block g oi id);have dv:=hR.ne;have ff:=hR.rd;rw[B7] at t1 o1;clear hR oO gk Kx oi hbr;have tc:=t1.cells (g:=gt) rfl;obtain⟨i9,h9,h90,h91,h92⟩:=b2Y a5x;obtain⟨i0,QW,GY,KC,MW⟩:=b2Y Tu;have kt:i<=ct:=by
   rcases t1.2 with ⟨e,_⟩|⟨_,_,_,e,_,_,e1,_⟩
   .cases e
   .cases e;exact e1
  have ko:i<=co:=by
   rcases o1.2 with ⟨e,_⟩|⟨_,_,_,e,_,_,e1,_⟩
   .cases e
   .cases e;exact e1
  have oc:=o1.cells (g:=go) rfl;have hLo:Lo.length=i * 3:=o1.1;have cd:(strs ys).length=i:=by rw[strs,a9M,B7]
  have hB1:=b1.size;go_upto_block 2 with fail;go_cut [7] (λ s7 wx=>wx=w1/\∃ k:Nat,s7 = .int .i64 k/\k<=i/\fG x ys=ys.take k++x::ys.drop k);case first =>
   go_wp2;go_loopw [7] (λ a V9=>V9=w1/\∃ k:Nat,a = .int .i64 k/\k<=i/\∀ j y,j<k->ys[j]?=some y->Q8 y x=true) (λ a V9=>i - kN a)
   .exact⟨rfl,0,rfl,a9F _,λ j y h=>absurd h (a9K _)⟩
   obtain⟨rfl,k,rfl,hk,a0X⟩:=hrel;by_cases GS:k<i
   .obtain⟨y,hy⟩:∃ y,ys[k]?=some y:=⟨_,a9j (by omega)⟩;have ck:wr.cell? ⟨gt,k,none⟩=some (.string ⟨(bC y).toArray⟩):=by
     have:=tc k _ (ZM ys k y hy);simpa [Addr.add_lit] using this
    have L8:Op.bytesLess (bC y) (bC x)=Q8 y x:=rfl;cases hL:Q8 y x
    .rw[hL] at L8;go_wp2;go_meet;refine⟨rfl,k,rfl,hk,Pn x ys k (by omega) a0X λ z hz=>?_⟩;rw[hy] at hz;cases hz;exact hL
    .rw[hL] at L8;go_wp2;refine⟨⟨U,k+1,by simp,by omega,λ j z hj hz=>?_⟩,?_⟩
     .rcases a9O j k with q|q
      .exact a0X j z q hz
      .have:j=k:=by omega
       subst this;rw[hy] at hz;cases hz;exact hL
     .simp only[kN];omega
   .go_wp2;go_meet;refine⟨rfl,k,rfl,hk,Pn x ys k (by omega) a0X λ z hz=>?_⟩;have:=(a9p.1 hz).1;omega
  case rest =>
   obtain⟨rfl,k,rfl,hk,a0U⟩:=hcut;obtain⟨w1,rfl⟩:∃ w1,w1=wc:=⟨_,rfl⟩;have b1:Below w.heap.size w w1:=by assumption
   go_upto_region 10 with fail;go_cut [8] (λ s8 wx=>∃ g8 c8,s8 = .slice (some ⟨g8,0,none⟩) (i - k) c8/\wx.ownsRow w1.heap.size 9 1 (.slice (some ⟨g8,0,none⟩) (i - k) c8) (i - k) ((strs ys).drop k)/\Below w1.heap.size w1 wx);case first =>
    have hd:((strs ys).drop k).length=(i - k) * 1:=by rw[b0h,cd,Nat.mul_one]
    have uM:∀ u∈(strs ys).drop k,u.oneCell'=true:=λ u hu=>by
     obtain⟨y,_,rfl⟩:=a9b.1 (b0N hu);rfl
    by_cases hck:ct=k
    .subst hck;go_wp2_with (at_builtin;refine b1R _ rfl _ _ 80 rfl w1.heap.size 9 i9 _ 1 16 Tryz.underlying80 h9 h90 h91 h92 rfl (by decide) _ _ _ rfl (b1B w1 #[] 0 (a9n _) (a9F _) (by simp)) ⟨gt,0,none⟩ 0 0 [] rfl rfl (λ j u hj=>by simp at hj) (λ u hu=>by simp at hu) (by simp[maxLen]) (by omega) (by simp) ?_);intro v' w2 dF di iK;go_wp2;go_meet;try simp only[b0t,a9L] at dF
     have e1:i - ct=0:=by omega
     have e2:(strs ys).drop ct=[]:=b1c (by omega);rw[e1,e2];rcases dF.2 with ⟨e,_⟩|⟨g8,c8,a6l,e,q1,q2,q3,q4,q5,q6⟩
     .exact absurd e iK
     .subst e;exact⟨g8,c8,rfl,dF,((b0R _ w1).alloc (a9n _) _).grown di (by simp) (by intro k hk;simp[Value.ownBlock] at hk;omega)⟩
    .go_wp2_with (at_builtin;refine b1R _ rfl _ _ 80 rfl w1.heap.size 9 i9 _ 1 16 Tryz.underlying80 h9 h90 h91 h92 rfl (by decide) _ _ _ rfl (b1B w1 #[] 0 (a9n _) (a9F _) (by simp)) ⟨gt,k,none⟩ (i - k) (ct - k) ((strs ys).drop k) rfl hd ?qb uM (by simp[maxLen];omega) (by omega) (by simp) ?_);case qb =>
      intro j u hj;rw[List.getElem?_drop] at hj;have:=tc _ _ hj;rw[Addr.add_lit];rw[Addr.add_lit] at this;simpa using Lib.cell?_alloc_some _ this
     .intro v' w2 dF di iK;go_wp2;go_meet;try simp only[b0t,a9L] at dF
      rcases dF.2 with ⟨e,_⟩|⟨g8,c8,a6l,e,q1,q2,q3,q4,q5,q6⟩
      .exact absurd e iK
      .subst e;exact⟨g8,c8,rfl,dF,((b0R _ w1).alloc (a9n _) _).grown di (by simp) (by intro k hk;simp[Value.ownBlock] at hk;omega)⟩
   case rest =>
    obtain⟨g8,c8,hs8,a4u,LN⟩:=hcut;have A8:Aside (_=Value.slice (some ⟨g8,0,none⟩) (i - k) c8):=hs8;clear hs8;obtain⟨w2,rfl⟩:∃ w2,w2=wc:=⟨_,rfl⟩;have t2:=t1.kept (yI LN) (.inr (by simp[Value.ownBlock]));have o2:=o1.kept (yI LN) (.inr (by simp[Value.ownBlock]));have hx2:bm w2 g (i * 3) [c0,c1,c2]:=EW.aL (LN.block g (by omega));have n8:=(a4u.lt g8 rfl);have oc:=o2.cells (g:=go) rfl;go_upto_region 11 with fail;go_cut [9] (λ s9 wx=>∃ g9 c9,s9 = .slice (some ⟨g9,0,none⟩) (i - k) c9/\wx.ownsRow w2.heap.size 28 3 (.slice (some ⟨g9,0,none⟩) (i - k) c9) (i - k) (Lo.drop (k * 3))/\Below w2.heap.size w2 wx);case first =>
     have hd:(Lo.drop (k * 3)).length=(i - k) * 3:=by rw[b0h,hLo,Nat.sub_mul]
     have uM:∀ u∈Lo.drop (k * 3),u.oneCell'=true:=λ u hu=>cZ.jt (τ := .st .expr) ff u (b0N hu);by_cases hck:co=k
     .subst hck;go_wp2_with (at_builtin;refine b1R _ rfl _ _ 26 rfl w2.heap.size 28 i0 _ 3 40 Tryz.underlying26 QW GY KC MW rfl (by decide) _ _ _ rfl (b1B w2 #[] 0 (a9n _) (a9F _) (by simp)) ⟨go,0,none⟩ 0 0 [] rfl rfl (λ j u hj=>by simp at hj) (λ u hu=>by simp at hu) (by simp[maxLen]) (by omega) (by simp) ?_);intro v' w3 dF di iK;go_wp2;go_meet;try simp only[b0t,a9L] at dF
      have e1:i - co=0:=by omega
      have e2:Lo.drop (co * 3)=[]:=b1c (by omega);rw[e1,e2];rcases dF.2 with ⟨e,_⟩|⟨g9,c9,a6m,e,q1,q2,q3,q4,q5,q6⟩
      .exact absurd e iK
      .subst e;exact⟨g9,c9,rfl,dF,((b0R _ w2).alloc (a9n _) _).grown di (by simp) (by intro k hk;simp[Value.ownBlock] at hk;omega)⟩
     .go_wp2_with (at_builtin;refine b1R _ rfl _ _ 26 rfl w2.heap.size 28 i0 _ 3 40 Tryz.underlying26 QW GY KC MW rfl (by decide) _ _ _ rfl (b1B w2 #[] 0 (a9n _) (a9F _) (by simp)) ⟨go,k * 3,none⟩ (i - k) (co - k) (Lo.drop (k * 3)) rfl hd ?qb uM (by simp[maxLen];omega) (by omega) (by simp) ?_);case qb =>
       intro j u hj;rw[List.getElem?_drop] at hj;have:=oc _ _ hj;rw[Addr.add_lit];rw[Addr.add_lit] at this;simpa using Lib.cell?_alloc_some _ this
      .intro v' w3 dF di iK;go_wp2;go_meet;try simp only[b0t,a9L] at dF
       rcases dF.2 with ⟨e,_⟩|⟨g9,c9,a6m,e,q1,q2,q3,q4,q5,q6⟩
       .exact absurd e iK
       .subst e;exact⟨g9,c9,rfl,dF,((b0R _ w2).alloc (a9n _) _).grown di (by simp) (by intro k hk;simp[Value.ownBlock] at hk;omega)⟩
    case rest =>
     obtain⟨g9,c9,hs9,a4v,Oj⟩:=hcut;have A9:Aside (_=Value.slice (some ⟨g9,0,none⟩) (i - k) c9):=hs9;clear hs9;obtain⟨w3,rfl⟩:∃ w3,w3=wc:=⟨_,rfl⟩;have t3:=t2.kept (yI Oj) (.inr (by simp[Value.ownBlock]));have o3:=o2.kept (yI Oj) (.inr (by simp[Value.ownBlock]));have a1E:=a4u.kept (yI Oj) (.inr (by simp[Value.ownBlock]));have hx3:bm w3 g (i * 3) [c0,c1,c2]:=hx2.aL (Oj.block g (by have:=LN.size;omega));have n9:=(a4v.lt g9 rfl);obtain rfl:=A8.out;obtain rfl:=A9.out;clear A8 A9;have s2:=LN.size;have s3:=Oj.size;have q8:=a1E.cells (g:=g8) rfl;have h8:g8<w3.heap.size:=by omega
     have ng8:g8≠gt:=by
      have:=(t1.lt gt rfl).2;omega
     have E12:Aside ((strs ys).take k ++ .string ⟨(bC x).toArray⟩::(strs ys).drop k=strs (fG x ys)):=show _=_ by
      rw[a0U];simp[strs,List.map_take,List.map_drop]
     have a3z:Aside (fG x ys=ys.take k++x::ys.drop k):=a0U;clear a0U;go_upto_region 12 with fail;go_cut [3] (λ s3 wx=>∃ g3 c3,s3 = .slice (some ⟨g3,0,none⟩) (i+1) c3/\wx.ownsRow w.heap.size 9 1 (.slice (some ⟨g3,0,none⟩) (i+1) c3) (i+1) (strs (fG x ys))/\w3.grownBy wx (some gt)/\(g3=gt\/w3.heap.size<=g3));case first =>
      have pt:=(Mj t3 hk).alloc (.cells #[.string ⟨(bC x).toArray⟩] 9);go_wp2_with (at_builtin;refine b2Z _ rfl _ _ 80 rfl w.heap.size 9 i9 _ 1 16 Tryz.underlying80 h9 h90 h91 h92 rfl (by decide) _ k _ rfl pt ⟨w3.heap.size,0,none⟩ 1 1 [.string ⟨(bC x).toArray⟩] rfl rfl (cell_one_new _ _ _) (by simp[Value.oneCell']) (by simp[maxLen];omega) (by omega) (by simp;omega) ?_);intro v51 w4 a5t D9 a7Y a6I;have a5F:=(a1E.alloc (.cells #[.string ⟨(bC x).toArray⟩] 9)).kept D9 (.inr (by simp[Value.ownBlock];omega));have U7:=D9.size;go_wp2_with (at_builtin;refine b2Z _ rfl _ _ 80 rfl w.heap.size 9 i9 _ 1 16 Tryz.underlying80 h9 h90 h91 h92 rfl (by decide) v51 (k+1) _ rfl a5t ⟨g8,0,none⟩ (i - k) c8 ((strs ys).drop k) rfl (by rw[b0h,cd,Nat.mul_one]) (a5F.cells (g:=g8) rfl) (λ u hu=>?_) (by simp[maxLen];omega) (by omega) (by simp at U7;omega) ?_)
      .obtain⟨y,_,rfl⟩:=a9b.1 (b0N hu);rfl
      .intro v53 w5 Ao IQ a7Z a6J;go_wp2;go_meet;have hi1:k+1+(i - k)=i+1:=by omega
       rw[hi1,E12.out] at Ao;rcases Ao.2 with ⟨e,_⟩|⟨g3,c3,cur3,e,q1,q2,q3,q4,q5,q6⟩
       .have:=Ao.1;rw[e] at Ao;simp at *
       .subst e;have a1:∀ j,v51.ownBlock=some j->j=gt\/j=w3.heap.size+1:=λ j hj=>by
         rcases a6I with h|h
         .rw[h] at hj;left;simpa [Value.ownBlock] using hj.symm
         .rw[h] at hj;right;simpa using hj.symm
        refine⟨g3,c3,rfl,Ao,⟨IQ.os.trans D9.os,IQ.tape.trans D9.tape,IQ.output.trans D9.output,by have:=IQ.size;simp at U7;omega,λ j h1 h2=>?_⟩,?_⟩
        .rw[IQ.block j (by simp at U7;omega) λ e=>?_,D9.block j (by simp;omega) h2]
         .exact b0a _ _ _ h1
         .rcases a1 j e.symm with h|h
          .exact h2 (congrArg some h)
          .omega
        .rcases a6J with h|h
         .rcases a1 g3 (h.symm.trans rfl) with h|h
          .exact .inl h
          .exact .inr (by omega)
         .right;have:g3=w4.heap.size:=by simpa [Value.ownBlock] using h
          simp at U7;omega
     case rest =>
      obtain⟨g3,c3,rfl,t4,UN,hg3⟩:=hcut;obtain⟨w4,rfl⟩:∃ w4,w4=wc:=⟨_,rfl⟩;have ngo:go≠gt:=b3u dv;have o4:=o3.kept UN (.inr (by simp[Value.ownBlock];exact ngo));have ng9:g9≠gt:=by have:=(t1.lt gt rfl).2;omega
      have a1F:=a4v.kept UN (.inr (by simp[Value.ownBlock];exact ng9));have a6Y:=(t1.lt gt rfl).1;have hx4:bm w4 g (i * 3) [c0,c1,c2]:=hx3.aL (UN.block g (by omega) λ e=>by cases e;omega);have q9:=a1F.cells (g:=g9) rfl;have E34:Aside ((ys.take k).map J.aE++x.aE::(ys.drop k).map J.aE=(fG x ys).map J.aE):=show _=_ by
       rw[a3z.out];simp
      have QV:g<w4.heap.size:=by have:=UN.size;omega
      have r0:w4.cell? ⟨g,i * 3,none⟩=some c0:=hx4 0 _ rfl;have r1:w4.cell? ⟨g,i * 3+1,none⟩=some c1:=hx4 1 _ rfl;have r2:w4.cell? ⟨g,i * 3+2,none⟩=some c2:=hx4 2 _ rfl;have bi0:(0:Int)<=(i:Int):=by omega
      have bi1:(i:Int)<(xs.length:Int):=by omega
      have bk0:(0:Int)<=(k:Int):=by omega
      have bk1:(k:Int)<=(co:Int):=by omega
      have a5r:∀ u∈[c0,c1,c2],u.oneCell'=true:=cZ.jt (τ := .st .expr) (xs:=[x]) (S:=S) (w:=w0) ⟨[c0,c1,c2],[],rfl,hrx,rfl⟩;have a5s:∀ u∈Lo.drop (k * 3),u.oneCell'=true:=λ u hu=>cZ.jt (τ := .st .expr) ff u (b0N hu);go_wp2_with fail;have gog:some g≠some go:=λ e=>by cases e;have:=(o1.lt g rfl).1;omega
      have po:=((Mj o4 hk).alloc (.cells #[c0,c1,c2] 28)).drew;have a8U:g9≠go:=by have:=(o1.lt go rfl).2;have:=LN.size;omega
      go_region_held3 (λ w'=>w'.cell? ⟨g,i * 3,none⟩=some c0/\w'.cell? ⟨g,i * 3+1,none⟩=some c1/\w'.cell? ⟨g,i * 3+2,none⟩=some c2)
       (first
        | go_keep
        | (
          go_split_ands
          refine⟨?_,?_,?_⟩
          ·(rw[Ea.cell_far _ (by simp at *;omega) gg6];assumption)
          ·(rw[Ea.cell_far _ (by simp at *;omega) gg6];assumption)
          ·(rw[Ea.cell_far _ (by simp at *;omega) gg6];assumption))
        | (
          go_split_ands
          refine⟨?_,?_,?_⟩
          ·(rw[gY.cell_far _ (by simp;omega) gog];assumption)
          ·(rw[gY.cell_far _ (by simp;omega) gog];assumption)
          ·(rw[gY.cell_far _ (by simp;omega) gog];assumption)))
       ((first
         | (
           refine BK (by rfl) _ _ _ (by rfl) w.heap.size 28 i0 _ 3 40 Tryz.underlying26 QW GY KC MW rfl (by omega) _ k _ (by rfl) po ⟨w4.heap.size,0,none⟩ 1 1 [c0,c1,c2] (by rfl) (by rfl) (b2f (cs := #[c0,c1,c2]) (t:=28) (fr:=(0,0)) (b0k w4 _)) a5r (by simp[maxLen];omega) (by omega) (by simp;have:=UN.size;omega) ?_
           intro v62 w6 W3 gY a0N
           have a6:∀ j,v62.ownBlock=some j->j=go\/j=w4.heap.size+1:=λ j hj=>by
            rcases a0N with h|h
            .rw[h] at hj;left;simpa [Value.ownBlock] using hj.symm
            .rw[h] at hj;right;simpa using hj.symm
           have gg6:some g≠v62.ownBlock:=λ e=>by
            rcases a6 g e.symm with h|h
            .exact gog (congrArg some h)
            .omega
           have hw6:w4.heap.size+1<=w6.heap.size:=by simpa using gY.size
           have a5G:w6.ownsRow w2.heap.size 28 3 (Value.slice (some ⟨g9,0,none⟩) (i - k) c9) (i - k) (Lo.drop (k * 3)):=((a1F.alloc (.cells #[c0,c1,c2] 28)).drew).kept gY (.inr (by simp[Value.ownBlock];omega))
           have q96:=a5G.cells (g:=g9) rfl)
         | (
           refine BK (by rfl) _ _ _ (by rfl) w.heap.size 28 i0 _ 3 40 Tryz.underlying26 QW GY KC MW rfl (by omega) v62 (k+1) _ (by rfl) W3 ⟨g9,0,none⟩ (i - k) c9 (Lo.drop (k * 3)) (by rfl) (by rw[b0h,hLo,Nat.sub_mul]) q96 a5s (by simp[maxLen];omega) (by omega) (by have:=UN.size;omega) ?_
           intro v64 w7 Ti Ea a6K)))
      go_wp2;have hz4:=UN.size;have hz6:w4.heap.size+1<=w6.heap.size:=by simpa using gY.size
      have hz7:=Ea.size;have hc7:v64.ownBlock=some go\/v64.ownBlock=some (w4.heap.size+1)\/v64.ownBlock=some w6.heap.size:=by
       rcases a6K with h|h
       .rcases a0N with h'|h'
        .exact .inl (h.trans (h'.trans rfl))
        .exact .inr (.inl (h.trans (by simpa using h')))
       .exact .inr (.inr h)
      have hc6:v62.ownBlock=some go\/v62.ownBlock=some (w4.heap.size+1):=by
       rcases a0N with h'|h'
       .exact .inl (h'.trans rfl)
       .exact .inr (by simpa using h')
      have a8M:=o1.lt go rfl;have a8J:=(t4.lt g3 rfl);have a6A:g3≠go:=by rcases hg3 with h|h<;>omega
      have hik:k+1+(i - k)=i+1:=by omega
      have a1d:w7.ownsRow w.heap.size 28 3 v64 (i+1) (Lo.take (k * 3)++[c0,c1,c2]++Lo.drop (k * 3)):=by
       rw[hik] at Ti;simpa using Ti
      have u1:=b1.size;have u2:=LN.size;have u3:=Oj.size;have u5:w.heap.size<=gt:=a6Y;have hB:Below w.heap.size w w7:=by
       have h1:Below w.heap.size w w4:=(b1.trans ((LN.mono hB1).trans (Oj.mono (by omega)))).grown UN (by omega) (by intro j e;cases e;omega);exact ((h1.alloc (by omega) _).grown ⟨gY.os,gY.tape,gY.output,gY.size,gY.block⟩ (by simp;omega) (λ j e=>by have e':go=j:=b0g e;omega)).grown Ea (by omega) (by
        intro j e;rcases hc6 with h|h
        .have:go=j:=b0g (h.symm.trans e);omega
        .have:w4.heap.size+1=j:=b0g (h.symm.trans e);omega)
      have t7:=((t4.alloc (.cells #[c0,c1,c2] 28)).kept ⟨gY.os,gY.tape,gY.output,gY.size,gY.block⟩ (.inr (by simp[Value.ownBlock];omega))).kept Ea (.inr (by
       intro e;rcases hc6 with h|h
       .rw[h] at e;exact a6A (by simpa [Value.ownBlock] using e)
       .rw[h] at e;have:g3=w4.heap.size+1:=by simpa [Value.ownBlock] using e
        omega))
      rcases a1d.2 with ⟨_,e⟩|⟨g10,c10,a7W,e,q1,q2,q3,q4,q5,q6⟩
      .omega
      .subst e;have a0V:=a3z.out;have il:(fG x ys).length=i+1:=by rw[a0V];simp;omega
       refine⟨⟨i+1,g3,c3,g10,c10,Lo.take (k * 3)++[c0,c1,c2]++Lo.drop (k * 3),by simp,by omega,by first|rfl|simp,by first|rfl|simp,?_⟩,?_⟩
       .rw[a7j];refine⟨hB,by rw[il];exact t7,by rw[il];exact a1d,?_,?_⟩
        .rw[a0V];exact a1J ff hrx (by omega)
        .rcases hc7 with h|h|h
         .have:g10=go:=by simpa [Value.ownBlock] using h
          omega
         .have:g10=w4.heap.size+1:=by simpa [Value.ownBlock] using h
          omega
         .have:g10=w6.heap.size:=by simpa [Value.ownBlock] using h
          omega
       .simp only[kN];omega
 .have gI:i=xs.length:=by omega
  subst gI;have hl:=VV xs _ hi;have uP:T8 xs xs.length=AW xs:=by unfold T8;rw[List.take_length]
  have hro:=hR.o;have Q1:=hR.rd;have hrb:=hR.cQ;rw[hl] at hro;rw[uP] at Q1;clear hR;go_wp2;go_ret;exact⟨go,co,Lo,rfl,hro,Q1,hrb⟩
def Sx(w0:World)(S Z:Nat->Prop)(w:World):Nat->Prop:=λ b=>S b\/(w0.heap.size<=b/\b<w.heap.size/\¬ Z b)
def Lp{w0 w:World}{S:Nat->Prop}(Z:Nat->Prop)(hS:jf w0 S)(hb:Below w0.heap.size w0 w):jf w (Sx w0 S Z w) :=
 ⟨λ b h=>h.elim (λ h=>a9g (hS.1 b h) hb.size) (λ h=>h.2.1),hS.2.mono (λ _ h => .inl h) λ b h=>hb.block b (hS.1 b h)⟩
def qS{w0 w w':World}{S Z Z':Nat->Prop}(hS:jf w0 S)(hb:Below w0.heap.size w0 w)(hz:w.heap.size<=w'.heap.size)(Y4:∀ b,Z b->w0.heap.size<=b)(hk:∀ b,b<w.heap.size->¬ Z b->w'.heap[b]?=w.heap[b]?)(hZ:∀ b,b<w.heap.size->Z' b->Z b){d:D}{cs:List Value}(r:Rd w (Sx w0 S Z w) d cs):Rd w' (Sx w0 S Z' w') d cs :=
 Rd.aL (λ b h=>h.imp id λ h=>⟨h.1,a9g h.2.1 hz,λ q=>h.2.2 (hZ b h.2.1 q)⟩) (λ b h=>by
  rcases h with h|h
  .have:=hS.1 b h;exact hk b (a9g this hb.size) λ q=>by have:=Y4 b q;omega
  .exact hk b h.2.1 h.2.2) _ r
def Qv{w0 w w':World}{S Z:Nat->Prop}(hS:jf w0 S)(hb:Below w0.heap.size w0 w)(hk:bI (λ _=>False) w w'){d:D}{cs:List Value}(r:Rd w (Sx w0 S Z w) d cs):Rd w' (Sx w0 S Z w') d cs :=
 Rd.aL (λ b h=>h.imp id λ h=>⟨h.1,a9g h.2.1 hk.size,h.2.2⟩) (λ b h=>hk.block b ((Lp Z hS hb).1 b h) id) _ r
def Uc{w0 w:World}{S:Nat->Prop}(Z:Nat->Prop)(hS:jf w0 S)(hb:Below w0.heap.size w0 w){d:D}{cs:List Value}(r:Rd w0 S d cs):Rd w (Sx w0 S Z w) d cs :=
 Rd.aL (λ b h => .inl h) (λ b h=>hb.block b (hS.1 b h)) _ r
def JI{w0 w w':World}{S S' Z:Nat->Prop}(hS:jf w0 S)(hb:Below w0.heap.size w0 w)(hZ:∀ b,Z b->b<w.heap.size)(hk:bI (λ _=>False) w w')(h1:∀ b,b<w.heap.size->(S' b↔Sx w0 S Z w b))(h2:∀ b,S' b->b<w'.heap.size){d:D}{cs:List Value}(r:Rd w' S' d cs):Rd w' (Sx w0 S Z w') d cs :=
 Rd.aL (λ b h=>by
  rcases a9O b w.heap.size with q|q
  .exact ((h1 b q).1 h).imp id λ h=>⟨h.1,by have:=hk.size;omega,h.2.2⟩
  .exact .inr ⟨by have:=hb.size;omega,h2 b h,λ z=>by have:=hZ b z;omega⟩) (λ _ _=>rfl) _ r
def Lv{w:World}{S:Nat->Prop}{x:J}{cs:List Value}(h:Rd w S x.aE cs):∃ (k n:Int) (a:Option Addr) (l c:Nat),cs=[.int .i64 k, .int .i64 n, .slice a l c]:=by
 obtain⟨a,cap,rfl,_⟩:=oE h;exact⟨_,_,_,_,_,rfl⟩
def P5{w0 w:World}{S Z:Nat->Prop}(hS:jf w0 S)(hb:Below w0.heap.size w0 w)(hZ:∀ b,Z b->b<w.heap.size)(x:J)(hx:cv x<=1048576)(b o:Nat)(cx:List Value)(h1:b<w.heap.size)(h2:bm w b o cx)(rx:Rd w (Sx w0 S Z w) x.aE cx) :
  Calls prog oB #[.pointer (some ⟨b,o,none⟩)] w λ e w'=>∃ (k' n':Int) (a':Option Addr) (l' c':Nat),e = .returned (.agg #[.int .i64 k', .int .i64 n', .slice a' l' c'])/\bI (λ _=>False) w w'/\Rd w' (Sx w0 S Z w') x.aE [.int .i64 k', .int .i64 n', .slice a' l' c']:=by
 refine (jM.2 x hx w _ [_] (Lp Z hS hb) ⟨⟨b,o,cx,rfl,h1,h2,rx⟩,U⟩).mono ?_;rintro e w' ⟨v,S',res,rfl,rfl,eK,td,CX,hr⟩;obtain⟨cs,rfl,vV⟩:=(show ∃ cs,v = .agg cs.toArray/\Rd w' S' x.aE cs from hr);obtain⟨_,_,_,_,_,rfl⟩:=Lv vV;exact⟨_,_,_,_,_,rfl,eK,JI hS hb hZ eK td CX vV⟩
def Vz{w0 w:World}{S Z:Nat->Prop}(hS:jf w0 S)(hb:Below w0.heap.size w0 w)(hZ:∀ b,Z b->b<w.heap.size)(x y:J)(a0 a1 a2 b0 b1 b2:Value)(rx:Rd w (Sx w0 S Z w) x.aE [a0,a1,a2])(ry:Rd w (Sx w0 S Z w) y.aE [b0,b1,b2]) :
  Calls prog mQ #[.int .i64 6, .agg #[a0,a1,a2], .agg #[b0,b1,b2]] w λ e w'=>∃ (k' n':Int) (a':Option Addr) (l' c':Nat),e = .returned (.agg #[.int .i64 k', .int .i64 n', .slice a' l' c'])/\bI (λ _=>False) w w'/\Rd w' (Sx w0 S Z w') (J.mk 6 0 [x,y]).aE [.int .i64 k', .int .i64 n', .slice a' l' c']:=by
 refine (mY.2 (6:Int) x y trivial w _ [_,_,_] (Lp Z hS hb) ⟨⟨rfl,by decide,by decide⟩,⟨[a0,a1,a2],rfl,rx⟩,⟨[b0,b1,b2],rfl,ry⟩,U⟩).mono ?_;rintro e w' ⟨v,S',res,rfl,rfl,eK,td,CX,hr⟩;obtain⟨cs,rfl,vV⟩:=(show ∃ cs,v = .agg cs.toArray/\Rd w' S' (J.mk 6 0 [x,y]).aE cs from hr);obtain⟨_,_,_,_,_,rfl⟩:=Lv vV;exact⟨_,_,_,_,_,rfl,eK,JI hS hb hZ eK td CX vV⟩
def Wa{w0 w:World}{S Z:Nat->Prop}(hS:jf w0 S)(hb:Below w0.heap.size w0 w)(hZ:∀ b,Z b->b<w.heap.size) :
  Calls prog sw #[] w λ e w'=>∃ (k' n':Int) (a':Option Addr) (l' c':Nat),e = .returned (.agg #[.int .i64 k', .int .i64 n', .slice a' l' c'])/\bI (λ _=>False) w w'/\Rd w' (Sx w0 S Z w') (J.mk 1 0 []).aE [.int .i64 k', .int .i64 n', .slice a' l' c']:=by
 refine (mZ.2 trivial w _ [] (Lp Z hS hb) trivial).mono ?_;rintro e w' ⟨v,S',res,rfl,rfl,eK,td,CX,hr⟩;obtain⟨cs,rfl,vV⟩:=(show ∃ cs,v = .agg cs.toArray/\Rd w' S' (J.mk 1 0 []).aE cs from hr);obtain⟨_,_,_,_,_,rfl⟩:=Lv vV;exact⟨_,_,_,_,_,rfl,eK,JI hS hb hZ eK td CX vV⟩
def qY{w:World}{b t:Nat}{u0 u1 u2:Value}(h:w.heap[b]?=some (.cells #[u0,u1,u2] t (0,0))):(w.cell? ⟨b,0,none⟩=some u0/\w.cell? ⟨b,1,none⟩=some u1/\w.cell? ⟨b,2,none⟩=some u2)/\w.frozen? ⟨b,0,none⟩=false/\w.frozen? ⟨b,1,none⟩=false/\w.frozen? ⟨b,2,none⟩=false :=
 ⟨⟨by simp[World.cell?,h],by simp[World.cell?,h],by simp[World.cell?,h]⟩,S3 h,S3 h,S3 h⟩
def Qr{w:World}{b t:Nat}{u0 u1 u2:Value}(c0 c1 c2:Value)(h:w.heap[b]?=some (.cells #[u0,u1,u2] t (0,0))):(((w.setCell ⟨b,0,none⟩ c0).setCell ⟨b,1,none⟩ c1).setCell ⟨b,2,none⟩ c2).heap[b]?=some (.cells #[c0,c1,c2] t (0,0)) /\
  ∀ k,k≠b->(((w.setCell ⟨b,0,none⟩ c0).setCell ⟨b,1,none⟩ c1).setCell ⟨b,2,none⟩ c2).heap[k]?=w.heap[k]? :=
 ⟨b0m _ _ _ _ _ _ (b0m _ _ _ _ _ _ (b0m _ _ _ _ _ _ h)),λ k hk=>by rw[b0F _ _ _ _ hk,b0F _ _ _ _ hk,b0F _ _ _ _ hk]⟩
def JH{a:Act}{w:World}{b:Nat}{cs:List Value}{t:TypeId}(h4:a.tmps.getD 4 undef = .pointer (some ⟨b,0,none⟩))(hb:w.heap[b]?=some (.cells cs.toArray t (0,0)))(hl:cs.length=3)(hd:a.defers=[])
  {R:Ending->World->Prop} (hR:R (.returned (.agg cs.toArray)) w):bodyPost prog Tryz.f91 R .ret a w:=by
 refine b2G ?_ hd hR;have cz:(Instr.loadAt 28 (.pointer (some ⟨b,0,none⟩))).run prog w = .ok (.agg cs.toArray) w:=gF (D5 (l:=[]) (wr:=[]) (cl:=[]) (ro:=[]) trivial) (T:=28) (τ := .st .expr) rfl (λ j v hj=>by simp[World.cell?,hb,hj]) hl;simp only[Instr.loadAt,Instr.sureAddr,a9r,a9u,a9m] at cz;rw[qP,b0U];simp only[a9r,b2l,Tryz.f91,b1m,List.mapM_nil,lD,h4,asAddr,a9u,a9m,cz];rfl
def Vf(L:List J)(z:J)(h:0<L.length):nb (L++[z])=J.mk 6 0 [nb L,z]:=by
 match L,h with
 | x::xs,_=>simp[nb,b1h]
def Ma(ZS:List J)(k:Nat)(z:J)(h1:1<=k)(hz:ZS[k]?=some z):nb (ZS.take (k+1))=J.mk 6 0 [nb (ZS.take k),z]:=by
 have:=(a9p.1 hz).1;rw[b1D,hz];exact Vf _ z (by rw[a9W];omega)
def a0J(ZS:List J)(N:Nat)(hN:N<=9000)(h:eI ZS<=N)(k:Nat)(z:J)(hz:ZS[k]?=some z):cv z<=1048576:=by
 have:ar z<=cT ar ZS:=by
  obtain⟨a,b,rfl⟩:=b2n (a9C hz);rw[zz];simp[cT];omega
 have:eI ZS=cT ar ZS+ZS.length:=rfl;exact lB z (by omega)
set_option maxRecDepth 100000 in
def Tv(w:World)(S:Nat->Prop)(hS:jf w S)(x y:J)(hx:aA x=true)(hy:aA y=true)(hn:ar x+ar y<=7000)(bx ox bY oy:Nat)(cx cy:List Value)(C2:bx<w.heap.size)(hcx:bm w bx ox cx)(rx:Rd w S x.aE cx)
  (hby:bY<w.heap.size) (hcy:bm w bY oy cy) (ry:Rd w S y.aE cy) :
  Calls prog vF #[.pointer (some ⟨bx,ox,none⟩), .pointer (some ⟨bY,oy,none⟩)] w λ e w'=>∃ cs,e = .returned (.agg cs.toArray)/\Rd w' (Sx w S (λ _=>False) w') (Nv x y).aE cs/\bI (λ _=>False) w w':=by
 have l0:Er w S (w.heap.size+1+1) (((w.alloc (.cells #[.int .i64 0, .int .i64 0, .slice none 0 0] 28)).alloc (.cells #[] 28)).alloc (.cells #[.slice (some ⟨w.heap.size+1,0,none⟩) 0 0] 26)) (.slice (some ⟨w.heap.size+1,0,none⟩) 0 0) [] []:=by
  refine⟨(((b0R _ w).alloc (a9n _) _).alloc (by simp) _).alloc (by simp;omega) _,by omega,?_,?_,rfl,by simp[Value.ownBlock],by simp⟩
  .have:=heap_alloc_new ((w.alloc (.cells #[.int .i64 0, .int .i64 0, .slice none 0 0] 28)).alloc (.cells #[] 28)) (.cells #[.slice (some ⟨w.heap.size+1,0,none⟩) 0 0] 26);simpa using this
  .have:=(World.ownsRow_made (base:=w.heap.size) (e:=28) (size:=3) (w.alloc (.cells #[.int .i64 0, .int .i64 0, .slice none 0 0] 28)) #[] 0 (by simp) (Nat.zero_le _) (by simp)).alloc (.cells #[.slice (some ⟨w.heap.size+1,0,none⟩) 0 0] 26);simpa using this
 have z0:(((w.alloc (.cells #[.int .i64 0, .int .i64 0, .slice none 0 0] 28)).alloc (.cells #[] 28)).alloc (.cells #[.slice (some ⟨w.heap.size+1,0,none⟩) 0 0] 26)).heap[w.heap.size]?=some (.cells #[.int .i64 0, .int .i64 0, .slice none 0 0] 28 (0,0)):=by
  rw[b0a _ _ _ (by simp;omega),b0a _ _ _ (by simp)];exact b0k w _
 have tx:=Hp _ x (a9o _) hx [] (λ y hy=>by cases hy);have t0:eI []=0:=rfl;go_enter Tryz.func91,Tryz.ntmps91;go_wp2_with (go_at_call 115;refine (El w S hS _ x (a9o _) hx bx ox _ cx _ [] [] _ l0 C2 hcx rx (λ y hy=>by cases hy) (by omega)).mono ?_);rintro e w1 ⟨he,v1,L1,l1,f1⟩;subst he;have z1:w1.heap[w.heap.size]?=some (.cells #[.int .i64 0, .int .i64 0, .slice none 0 0] 28 (0,0)):=(f1.block _ (by simp;omega) (by omega) (by simp[Value.ownBlock])).trans z0;have n1:v1.ownBlock≠some w.heap.size:=λ e=>by
  rcases f1.own _ e with h|h
  .simp[Value.ownBlock] at h
  .simp at h;omega
 go_wp2_with (go_at_call 115;refine (El w S hS _ y (a9o _) hy bY oy _ cy v1 _ L1 _ l1 hby hcy ry tx.1 (by omega)).mono ?_);rintro e w2 ⟨he,v2,L2,l2,f2⟩;subst he;have s1:=f1.size;have z2:w2.heap[w.heap.size]?=some (.cells #[.int .i64 0, .int .i64 0, .slice none 0 0] 28 (0,0)):=(f2.block _ (bp z1) (by omega) n1).trans z1;have ty:=Hp _ y (a9o _) hy _ tx.1;obtain⟨g,cap,cur,rfl,q1,q2,q3,q4,q5,q6⟩:=l2.form;have vq:=PM l2;go_wp2_with (go_at_call 116;refine (T5 w S hS (dN y (dN x [])) ty.1 (by omega) w2 l2.cQ g cap (bp q3) (λ k z hz=>DN q3 q6 l2.rd k z hz)).mono ?_);rintro e w3 ⟨g3,c3,L3,he,a4s,rd3,b3⟩;subst he;have s2:=f2.size;have sb3:=b3.size;have sl:=bp z2;have lq2:=l2.lt;have b3w:Below w.heap.size w w3:=l2.cQ.trans (b3.mono (by omega));have z3:=(b3.block _ sl).trans z2;have vq3:=(b3.block _ lq2).trans l2.var;have vc3:w3.cell? ⟨w.heap.size+1+1,0,none⟩=some (.slice (some ⟨g,0,none⟩) (dN y (dN x [])).length cap):=by simp[World.cell?,vq3]
 have vf3:=S3 (j:=0) vq3;have a8F:=a4s.lt g3 rfl;have ngq:g3≠w.heap.size+1+1:=by omega
 have ngr:g3≠w.heap.size:=by omega
 have heq:∀ k,k≠w.heap.size+1+1->(w3.setCell ⟨w.heap.size+1+1,0,none⟩ (.slice (some ⟨g3,0,none⟩) (dN y (dN x [])).length c3)).heap[k]?=w3.heap[k]?:=λ k hk=>b0F _ _ _ _ hk;have vq4:(w3.setCell ⟨w.heap.size+1+1,0,none⟩ (.slice (some ⟨g3,0,none⟩) (dN y (dN x [])).length c3)).heap[w.heap.size+1+1]?=some (.cells #[.slice (some ⟨g3,0,none⟩) (dN y (dN x [])).length c3] 26 (0,0)):=b0m _ _ _ _ _ _ vq3;have b4:Below w.heap.size w (w3.setCell ⟨w.heap.size+1+1,0,none⟩ (.slice (some ⟨g3,0,none⟩) (dN y (dN x [])).length c3)):=b3w.setCell (by show w.heap.size<=w.heap.size+1+1;omega) _;have sz4:(w3.setCell ⟨w.heap.size+1+1,0,none⟩ (.slice (some ⟨g3,0,none⟩) (dN y (dN x [])).length c3)).heap.size=w3.heap.size:=by simp
 have vc4:(w3.setCell ⟨w.heap.size+1+1,0,none⟩ (.slice (some ⟨g3,0,none⟩) (dN y (dN x [])).length c3)).cell? ⟨w.heap.size+1+1,0,none⟩=some (.slice (some ⟨g3,0,none⟩) (dN y (dN x [])).length c3):=by simp[World.cell?,vq4]
 have a4t:=a4s.kept (row:=some (w.heap.size+1+1)) (w':=w3.setCell ⟨w.heap.size+1+1,0,none⟩ (.slice (some ⟨g3,0,none⟩) (dN y (dN x [])).length c3)) ⟨rfl,rfl,rfl,by simp,λ k _ h=>heq k λ e=>h (by rw[e])⟩ (.inr (by simp[Value.ownBlock];exact ngq));have z4:=(heq w.heap.size (by omega)).trans z3;have hlen:=(T9 (dN y (dN x [])) []).2.2;have hsu:=a2i x y hx hy;have Zg:Nv x y=nb (AW (dN y (dN x []))):=rfl;have hlr:(AW (dN y (dN x []))).length=(dN y (dN x [])).length:=by rw[show AW (dN y (dN x []))=_ from rfl] at *;simpa [AW] using hlen
 clear hlen heq;go_upto_region 5 with fail;generalize (dN y (dN x [])).length=n at *
 generalize AW (dN y (dN x []))=ZS at *
 generalize w3.setCell ⟨w.heap.size+1+1,0,none⟩ (.slice (some ⟨g3,0,none⟩) n c3)=w4 at *
 have Y4:∀ b,b=w.heap.size->w.heap.size<=b:=λ b h=>by omega
 have lt4:=bp z4;by_cases hn0:n=0
 .subst hn0;have e0:ZS=[]:=List.eq_nil_of_length_eq_zero hlr;go_wp2_with (go_at_call 30;refine (Wa (Z:=λ b=>b=w.heap.size) hS b4 (λ b hb=>by have hb:b=w.heap.size:=hb;omega)).mono ?_);rintro e w5 ⟨ek,en,ea,em,ec,he,O6,r5⟩;subst he;have z5:=(O6.block _ lt4 id).trans z4;have b5:=b4.trans (qA O6 b4.size);obtain⟨⟨k0,k1,k2⟩,g0,g1,g2⟩:=qY z5;go_wp2;obtain⟨z6,o6⟩:=Qr (.int .i64 ek) (.int .i64 en) (.slice ea em ec) z5;refine JH (cs:=[.int .i64 ek, .int .i64 en, .slice ea em ec]) rfl z6 rfl rfl ?_;refine⟨[.int .i64 ek, .int .i64 en, .slice ea em ec],rfl,?_,b5.os,b5.tape,b5.output,by simpa using b5.size,λ b hb _=>(o6 b (by omega)).trans (b5.block b hb)⟩;rw[Zg,e0];exact qS hS b5 (by simp) Y4 (λ b _ h=>o6 b h) (λ b _ h=>h.elim) r5
 .have dF:=a4t;rcases a4t.2 with ⟨e,_⟩|⟨g',c',cur3,e,p1,p2,p3,p4,p5,p6⟩
  .cases e
  cases e;rw[<-hlr] at p6;have el:=λ k z hz=>DN p2 p6 rd3 k z hz;obtain⟨z,hz⟩:∃ z,ZS[0]?=some z:=⟨_,a9j (by omega)⟩;obtain⟨a0,a1,a2,hca,hra⟩:=el 0 z hz;have hga:=bp p2;have bZ:=a0J ZS _ (by omega) hsu.2;have bi0:(0:Int)<(n:Int):=by omega
  have hn9:n<=8000:=by have:eI ZS=cT ar ZS+ZS.length:=rfl;omega
  go_wp2_with (go_at_call 28;refine (P5 (Z:=λ b=>b=w.heap.size) hS b4 (λ b hb=>by have hb:b=w.heap.size:=hb;omega) z (bZ 0 z hz) g3 0 _ hga (by simpa using hca) (Uc _ hS b4 hra)).mono ?_);rintro e w5 ⟨ek,en,ea,em,ec,he,O6,r5⟩;subst he;have b5:=b4.trans (qA O6 b4.size);have z5:=(O6.block _ lt4 id).trans z4;have sz5:=O6.size;have vq5:=(O6.block _ (bp vq4) id).trans vq4;have p25:=(O6.block _ hga id).trans p2;have ha:=heap_alloc_new w5 (.cells #[.int .i64 0, .int .i64 0, .slice none 0 0] 28);obtain⟨⟨k0,k1,k2⟩,g0,g1,g2⟩:=qY ha;obtain⟨z6,o6⟩:=Qr (.int .i64 ek) (.int .i64 en) (.slice ea em ec) ha;go_upto_block 0 with fail;have b6:Below w.heap.size w (w5.alloc (.cells #[.int .i64 ek, .int .i64 en, .slice ea em ec] 28)):=b5.alloc (by omega) _;have t6:=heap_alloc_new w5 (.cells #[.int .i64 ek, .int .i64 en, .slice ea em ec] 28);have m6:∀ b,b<w5.heap.size->(w5.alloc (.cells #[.int .i64 ek, .int .i64 en, .slice ea em ec] 28)).heap[b]?=w5.heap[b]?:=λ b hb=>Lib.alloc_old _ _ _ hb;have lt5:=bp z5;have lq5:=bp vq5;have lg5:=bp p25;have z6r:=(m6 _ lt5).trans z5;have vq6:=(m6 _ lq5).trans vq5;have p26:=(m6 _ lg5).trans p25;have s6:(w5.alloc (.cells #[.int .i64 ek, .int .i64 en, .slice ea em ec] 28)).heap.size=w5.heap.size+1:=by simp
  have r6:Rd (w5.alloc (.cells #[.int .i64 ek, .int .i64 en, .slice ea em ec] 28)) (Sx w S (λ b=>b=w.heap.size\/b=w5.heap.size) (w5.alloc (.cells #[.int .i64 ek, .int .i64 en, .slice ea em ec] 28))) (nb (ZS.take 1)).aE [.int .i64 ek, .int .i64 en, .slice ea em ec]:=by
   have:nb (ZS.take 1)=z:=by
    match ZS,hz with
    | z'::_,hz=>cases hz;rfl
   rw[this];exact qS hS b5 (by omega) Y4 (λ b hb _=>m6 b hb) (λ b hb h=>h.elim id λ h=>by omega) r5
  generalize w5.alloc (.cells #[.int .i64 ek, .int .i64 en, .slice ea em ec] 28)=w6 at *
  generalize hT:w5.heap.size=T at *
  have hT0:w.heap.size<=T:=by have:=b5.size;omega
  have nTq:T≠w.heap.size+1+1:=by omega
  have nTg:g3≠T:=by omega
  clear k0 k1 k2 g0 g1 g2 z6 o6 m6 ha;go_wp2;go_loopw [7] (λ i wr=>∃ (k:Nat) (k' n':Int) (a':Option Addr) (l' c':Nat),i = .int .i64 k/\1<=k/\k<=n/\w6.grownBy wr (some T)/\wr.heap[T]?=some (.cells #[.int .i64 k', .int .i64 n', .slice a' l' c'] 28 (0,0)) /\
   Rd wr (Sx w S (λ b=>b=w.heap.size\/b=T) wr) (nb (ZS.take k)).aE [.int .i64 k', .int .i64 n', .slice a' l' c']) (λ i wr=>n - kN i)
  .exact⟨1,ek,en,ea,em,ec,rfl,a9n _,by omega,⟨rfl,rfl,rfl,a9n _,λ _ _ _=>rfl⟩,t6,r6⟩
  obtain⟨k,ak,an,aa,al,ac,rfl,oO,hkn,oi,oP,Q1⟩:=hrel;have nB:w.heap.size≠T:=by omega
  have br:Below w.heap.size w wr:=b6.grown oi (by omega) (λ j e=>by have e':T=j:=b0g e;omega);have vqr:=(oi.block _ (by omega) (λ e=>nTq (b0g e).symm)).trans vq6;have vqc:wr.cell? ⟨w.heap.size+1+1,0,none⟩=some (.slice (some ⟨g3,0,none⟩) n c3):=by simp[World.cell?,vqr]
  have pr:=(oi.block _ (by omega) (λ e=>nTg (b0g e))).trans p26;have ltr:=bp oP;have lqr:=bp vqr;have szr:=oi.size;by_cases BZ:k<n
  .obtain⟨y',Pj⟩:∃ y',ZS[k]?=some y':=⟨_,a9j (by omega)⟩;obtain⟨d0,d1,d2,hcd,ff⟩:=DN pr p6 rd3 k y' Pj;obtain⟨⟨k0,k1,k2⟩,g0,g1,g2⟩:=qY oP;have bk0:(0:Int)<=(k:Int):=by omega
   have bk1:(k:Int)<(n:Int):=by omega
   have hj:=Ma ZS k y' oO Pj;have hZr:∀ b,(b=w.heap.size\/b=T)->b<wr.heap.size:=λ b h=>by rcases h with h|h<;>omega
   have brd:Below w.heap.size w wr.drew:=br.drew;have a7h:Rd wr.drew (Sx w S (λ b=>b=w.heap.size\/b=T) wr.drew) (nb (ZS.take k)).aE [.int .i64 ak, .int .i64 an, .slice aa al ac] :=
    qS (w':=wr.drew) (Z:=λ b=>b=w.heap.size\/b=T) (Z':=λ b=>b=w.heap.size\/b=T) hS br (a9n _) (λ b h=>by rcases h with h|h<;>omega) (λ _ _ _=>rfl) (λ _ _ h=>h) Q1
   have a7k:wr.drew.heap[T]?=some (.cells #[.int .i64 ak, .int .i64 an, .slice aa al ac] 28 (0,0)):=oP;have a2w:wr.drew.heap[w.heap.size+1+1]?=some (.cells #[.slice (some ⟨g3,0,none⟩) n c3] 26 (0,0)):=vqr;have a4b:∀ b,(b=w.heap.size\/b=T)->b<wr.drew.heap.size:=hZr;have prd:g3<wr.drew.heap.size:=bp pr;have a6Q:bm wr.drew g3 (k * 3) [d0,d1,d2]:=hcd;go_wp2_with fail;go_region_with
    (first
     | (
       go_at_call 28
       refine (P5 (w:=wr.drew) (Z:=λ b=>b=w.heap.size\/b=T) hS brd a4b y' (bZ k y' Pj) g3 (k * 3) _ prd a6Q (Uc _ hS brd ff)).mono ?_
       rintro e w7 ⟨fk,fn,fa,fm,fc,he,MQ,r7⟩
       subst he
       have b7:=brd.trans (qA MQ brd.size)
       have t7:=(MQ.block _ ltr id).trans a7k
       obtain⟨⟨u0,u1,u2⟩,v0,v1,v2⟩:=qY t7
       have vq7:w7.cell? ⟨w.heap.size+1+1,0,none⟩=some (.slice (some ⟨g3,0,none⟩) n c3):=by simp[World.cell?,(MQ.block _ lqr id).trans a2w]
       have rr7:=Qv hS brd MQ a7h
       have hZ7:∀ b,(b=w.heap.size\/b=T)->b<w7.heap.size:=λ b h=>a9g (a4b b h) MQ.size)
     | (
       go_at_call 27
       refine (Vz (w:=w7) (Z:=λ b=>b=w.heap.size\/b=T) hS b7 hZ7 _ y' _ _ _ _ _ _ rr7 r7).mono ?_
       rintro e w8 ⟨hk,tf,ha',hm,Kv,he,UZ,r8⟩
       subst he
       have t8:=(UZ.block _ (bp t7) id).trans t7
       obtain⟨⟨x0,x1,x2⟩,y0,y1,y2⟩:=qY t8
       have vq8:w8.cell? ⟨w.heap.size+1+1,0,none⟩=some (.slice (some ⟨g3,0,none⟩) n c3):=by simp[World.cell?,(UZ.block _ (bp ((MQ.block _ lqr id).trans a2w)) id).trans ((MQ.block _ lqr id).trans a2w)]))
   all_goals
    go_wp2
    obtain⟨z9,o9⟩:=Qr (.int .i64 hk) (.int .i64 tf) (.slice ha' hm Kv) t8
    have b8:=b7.trans (qA UZ b7.size)
    have s7:wr.heap.size<=w7.heap.size:=MQ.size
    have s8:=UZ.size
    refine⟨⟨k+1,hk,tf,ha',hm,Kv,by simp,by omega,by omega,⟨UZ.os.trans (MQ.os.trans oi.os),UZ.tape.trans (MQ.tape.trans oi.tape),UZ.output.trans (MQ.output.trans oi.output),by simp;omega,λ j hj dv=>?_⟩,z9,?_⟩,?_⟩
    .exact (o9 j (λ e=>dv (by rw[e]))).trans ((UZ.block j (by omega) id).trans ((MQ.block j (by show j<wr.heap.size;omega) id).trans (oi.block j hj dv)))
    .rw[hj];exact qS (Z:=λ b=>b=w.heap.size\/b=T) hS b8 (by simp) (λ b h=>by rcases h with h|h<;>omega) (λ b _ hb=>o9 b λ e=>hb (.inr e)) (λ _ _ h=>h) r8
    .simp only[kN];omega
  .have a7a:k=n:=by omega
   subst a7a;have zr:=(oi.block _ (by omega) (λ e=>nB (Option.some.inj e))).trans z6r;obtain⟨⟨k0,k1,k2⟩,g0,g1,g2⟩:=qY oP;obtain⟨⟨x0,x1,x2⟩,y0,y1,y2⟩:=qY zr;obtain⟨z9,o9⟩:=Qr (.int .i64 ak) (.int .i64 an) (.slice aa al ac) zr;go_wp2;refine JH (cs:=[.int .i64 ak, .int .i64 an, .slice aa al ac]) rfl z9 rfl rfl ?_;refine⟨[.int .i64 ak, .int .i64 an, .slice aa al ac],rfl,?_,br.os,br.tape,br.output,by simpa using br.size,λ b hb _=>(o9 b (by omega)).trans (br.block b hb)⟩;rw[Zg];rw[show ZS.take k=ZS from by rw[<-hlr,List.take_length]] at Q1;exact qS (Z:=λ b=>b=w.heap.size\/b=T) hS br (by simp) (λ b h=>by rcases h with h|h<;>omega) (λ b _ hb=>o9 b λ e=>hb (.inl e)) (λ b _ h=>h.elim) Q1
def u9:aX:=⟨vF,[.r (.st .expr), .r (.st .expr)],λ (x:J) (b:J)=>⟨(some (aA x=true/\aA b=true/\ar x+ar b<=7000),[⟨(.st .expr),Nv x b⟩])⟩⟩
def IF:aX.Good u9:=by
 refine⟨aD Mx rfl (by decide),?_⟩;intro x y hp w S bV hS ha;match bV,ha with
 | [v1,v2],ha =>
  obtain⟨⟨bx,ox,cx,rfl,h1,h2,rx⟩,⟨b',oy,cy,rfl,td,CX,ry⟩,_⟩:=ha;refine (Tv w S hS x y hp.1 hp.2.1 hp.2.2 bx ox b' oy cx cy h1 h2 rx td CX ry).mono ?_;rintro e w' ⟨cs,rfl,hr,hk⟩;exact⟨_,Sx w S (λ _=>False) w',_,rfl,rfl,hk,λ b hb=>⟨λ h=>h.elim id λ h=>by omega, .inl⟩,λ b h=>h.elim (λ h=>a9g (hS.1 b h) hk.size) λ h=>h.2.1,⟨cs,rfl,hr⟩⟩
end
end Go.Proofs.YtofnjfpeimhifaaGreatDoor

/- VmExpr, VmExpr2, VmShaped, VmTruth, VmValid, VmBw, VmShelf, VmWe, VmText, VmSame1, VmSrc, VmGen, VmSz, VmBld, VmBld2, VmGen2, VmDTidy, VmDMach, VmDSum. -/
import Derived.Test.YtofnjfpeimhifaaGreatDoorVmLib
import Derived.Test.YtofnjfpeimhifaaGreatDoorProg
import Derived.WalkKit
import Derived.Lib.Builder
import Derived.Lib.AppendStr
import Derived.Lib.UnsafeStr
import Derived.Lib.Walk
import Derived.Lib.Strings
import Derived.Lib.Slices
import Derived.Lib.MakeNoZero
import Derived.Laws.Externs
import Derived.Laws.IdiomCopy
import Derived.BigCall
import Derived.OwnWalk
import Derived.Shelf.Strings.Builder1
import Derived.Shelf.Small.Bits
import Derived.Shelf.Small.Strs
import Derived.Shelf.Utf8.RuneCount
import Derived.Shelf.Strconv.Itoa0
import Derived.Shelf.Strconv.Itoa1
import Derived.Shelf.LaysM
import Derived.Shelf.Strconv.Itoa2
import Derived.Shelf.Strconv.Itoa3
import Derived.Shelf.Strings.Search1
import Derived.Shelf.Strings.Search2
import Derived.Shelf.Strings.Search3
import Derived.Shelf.Strings.Count
import Derived.Shelf.Strings.Shaped
import Derived.Shelf.Strings.Split
import Derived.Shelf.Strings.SplitShaped
import Derived.Shelf.Unicode.Decode
import Derived.Shelf.Strings.RuneCount
import Derived.Shelf.Strings.Explode
import Derived.Shelf.Unicode.DecodeSlow
import Derived.Shelf.Unicode.DecodeAny
import Derived.LoopTactic
import Derived.Deep.RegionHeld3
import Derived.Deep.AppendLies
import Derived.Maps.AppendAt
import Derived.Deep.DeepCutAuto
import Derived.Deep.CutBlock
import Derived.Lib.SliceRun
set_option linter.all false
set_option maxHeartbeats 4000000
set_option maxRecDepth 4000
namespace Go.Proofs.YtofnjfpeimhifaaGreatDoor
def b1b:=@Nat.lt_succ_self
def b4n:=@Int.fdiv_eq_ediv_of_nonneg
def b1r:=@Bool.not_eq_false'
def b2a:=@Go.Lib.alloc_old
def b4a:=@Go.Oper.upon_value
def b2Q:=@Go.RowKit.Below.refl
def b3h:=@Go.Lib.cell_of_heap
def b3D:=@Bool.and_true
def b3K:=@decide_eq_true
def b5k:=@Bool.true_or
def b1C:=@Bool.eq_false_or_eq_true
def b2Z:=@List.take_add_one
def b4T:=@Bool.false_and
def b4F:=@Go.bodyPost_ret
def b5l:=@Go.results_none
def b4Y:=@Go.info_parts
def b4e:=@Go.World.news_of_block
def b2t:=@Go.heap_setCell_other
def b2d:=@Go.heap_setCell_same
def b3o:=@Go.World.ownsRow_made
def b4m:=@List.append_of_mem
def b3z:=@List.mem_of_mem_drop
def b3O:=@Go.wpList_append_own
def b4Z:=@Go.wpList_append_own_at
noncomputable section
mutual
def ar:J->Nat
 | ⟨_,_,ks⟩=>1+gw ks
def gw:List J->Nat
 | []=>0
 | k::ks=>ar k+gw ks
end
def Mb:∀ xs,gw xs=cV ar xs
 | []=>rfl
 | x::xs=>by rw[gw,cV,Mb xs]
def ib(x:J):ar x=1+cV ar x.U:=by
 cases x;simp[ar,Mb]
mutual
def bM:J->Nat
 | ⟨_,_,ks⟩=>1+kf ks
def kf:List J->Nat
 | []=>0
 | k::ks=>max (bM k) (kf ks)
end
def LO:∀ xs,kf xs=iK bM xs
 | []=>rfl
 | x::xs=>by rw[kf,iK,LO xs]
def Gr(x:J):bM x=1+iK bM x.U:=by
 cases x;simp[bM,LO]
mutual
def Ig:∀ x:J,bM x<=ar x
 | ⟨k,n,ks⟩=>by
  have:=Fa ks;simp only[bM,ar];omega
def Fa:∀ xs:List J,kf xs<=gw xs
 | []=>by simp[kf]
 | x::xs=>by
  have h1:=Ig x;have h2:=Fa xs;simp only[kf,gw];omega
end
def tM(k:Int):Bool:=decide (k=1)||decide (k=2)||decide (k=3)||decide (k=5)||decide (k=6)||decide (k=7)
mutual
def bD:J->Bool
 | ⟨k,_,ks⟩=>tM k&&zN ks
def zN:List J->Bool
 | []=>true
 | k::ks=>bD k&&zN ks
end
def Oq:∀ xs,zN xs=cM bD xs
 | []=>rfl
 | x::xs=>by rw[zN,cM,Oq xs]
def oV(x:J):bD x=(tM x.ah&&cM bD x.U):=by
 cases x;simp[bD,Oq]
def cB(k:Int):Int:=if k=1\/k=2\/k=3\/k=4 then 0 else if k=5\/k=8 then 1 else if k=6\/k=7 then 2 else -1
def oi:bc:=⟨Dm,[.v (.int .i64), .v (.int .i64), .v (.int .i64)],λ (n:Int) (least:Int) (most:Int)=>⟨(none,[⟨.bool,decide (least<=n/\n<=most)⟩])⟩⟩
def Pr(n:Int)(least:Int)(most:Int):Nat->aP:=cw
def vW:bc.Good oi:=by
 refine⟨aH AJ,?_⟩;intro (n:Int) (least:Int) (most:Int) _;refine bf [] [] [] [] trivial AJ H3 (Pr n least most) (let v0:=decide (least<=n/\n<=most);((((decide (least<=n))=true->((decide (n<=most))=v0))/\((decide (least<=n))=(!true)->(false=v0))))) ?_;refine⟨λ _=>?_,λ _=>?_⟩;all_goals try and_intros
 all_goals first|rfl|trivial|(simp_all;done)|(simp_all;omega)
def jD:bc:=⟨FE,[.v (.int .i64), .v (.int .i64), .v (.int .i64)],λ (n:Int) (low:Int) (high:Int)=>⟨(none,[⟨.bool,decide (low<=n/\n<=high)⟩])⟩⟩
def Q6(n:Int)(low:Int)(high:Int):Nat->aP:=cw
def pq:bc.Good jD:=by
 refine⟨aH Cb,?_⟩;intro (n:Int) (low:Int) (high:Int) _;refine bf [] [] [] [] trivial Cb J5 (Q6 n low high) (let v0:=decide (low<=n/\n<=high);((((decide (low<=n))=true->((decide (n<=high))=v0))/\((decide (low<=n))=(!true)->(false=v0))))) ?_;refine⟨λ _=>?_,λ _=>?_⟩;all_goals try and_intros
 all_goals first|rfl|trivial|(simp_all;done)|(simp_all;omega)
def uE:bc:=⟨Dp,[.v (.int .i64), .v (.int .i64)],λ (a:Int) (b:Int)=>⟨(none,[⟨(.int .i64),max a b⟩])⟩⟩
def Pt(a:Int)(b:Int):Nat->aP:=cw
def IC:bc.Good uE:=by
 refine⟨aH AL,?_⟩;intro (a:Int) (b:Int) _;refine bf [] [] [] [] trivial AL H5 (Pt a b) ((((decide (b<a))=true->a=(max a b))/\((decide (b<a))=false->b=(max a b)))) ?_;refine⟨λ _=>?_,λ _=>?_⟩;all_goals try and_intros
 all_goals first|rfl|trivial|(simp_all;omega)
def uC:bc:=⟨Dj,[.v (.int .i64)],λ (k:Int)=>⟨(none,[⟨(.int .i64),cB k⟩])⟩⟩
def Po(k:Int):Nat->aP:=cw
abbrev yC(k:Int):Prop:=(let v0:=decide (k=(6:Int));((v0=true ->
 ((v0=true ->
 (2:Int)=(cB k))/\(v0=false ->
 (-1:Int)=(cB k))))/\(v0=false ->
 (((decide (k=(7:Int)))=true ->
 (2:Int)=(cB k))/\((decide (k=(7:Int)))=false ->
 (-1:Int)=(cB k))))))
abbrev KA(k:Int):Prop:=(let v0:=decide (k=(5:Int));((v0=true ->
 ((v0=true ->
 (1:Int)=(cB k))/\(v0=false ->
 (yC k))))/\(v0=false ->
 (((decide (k=(8:Int)))=true ->
 (1:Int)=(cB k))/\((decide (k=(8:Int)))=false ->
 (yC k))))))
def Ix:bc.Good uC:=by
 refine⟨aH AH,?_⟩;intro (k:Int) _;refine bf [] [] [] [] trivial AH HZ (Po k) (let v0:=decide (k=(1:Int));let v1:=decide (k=(2:Int));let v2:=decide (k=(3:Int));let v3:=KA k;(((v0=true->((v0=true->(0:Int)=(cB k))/\(v0=false->v3)))/\(v0=false->((v1=true->((v1=true->(0:Int)=(cB k))/\(v1=false->v3)))/\(v1=false->((v2=true->((v2=true->(0:Int)=(cB k))/\(v2=false->v3)))/\(v2=false->(((decide (k=(4:Int)))=true->(0:Int)=(cB k))/\((decide (k=(4:Int)))=false->v3)))))))))) ?_;refine⟨λ _=>⟨λ _=>?_,λ _=>⟨λ _=>⟨λ _=>?_,λ _=>⟨λ _=>⟨λ _=>?_,λ _=>?_⟩,λ _=>⟨λ _=>?_,λ _=>?_⟩⟩⟩,λ _=>⟨λ _=>?_,λ _=>⟨λ _=>⟨λ _=>?_,λ _=>?_⟩,λ _=>⟨λ _=>?_,λ _=>?_⟩⟩⟩⟩⟩,λ _=>⟨λ _=>⟨λ _=>?_,λ _=>⟨λ _=>⟨λ _=>?_,λ _=>⟨λ _=>⟨λ _=>?_,λ _=>?_⟩,λ _=>⟨λ _=>?_,λ _=>?_⟩⟩⟩,λ _=>⟨λ _=>?_,λ _=>⟨λ _=>⟨λ _=>?_,λ _=>?_⟩,λ _=>⟨λ _=>?_,λ _=>?_⟩⟩⟩⟩⟩,λ _=>⟨λ _=>⟨λ _=>?_,λ _=>⟨λ _=>⟨λ _=>?_,λ _=>⟨λ _=>⟨λ _=>?_,λ _=>?_⟩,λ _=>⟨λ _=>?_,λ _=>?_⟩⟩⟩,λ _=>⟨λ _=>?_,λ _=>⟨λ _=>⟨λ _=>?_,λ _=>?_⟩,λ _=>⟨λ _=>?_,λ _=>?_⟩⟩⟩⟩⟩,λ _=>⟨λ _=>?_,λ _=>⟨λ _=>⟨λ _=>?_,λ _=>⟨λ _=>⟨λ _=>?_,λ _=>?_⟩,λ _=>⟨λ _=>?_,λ _=>?_⟩⟩⟩,λ _=>⟨λ _=>?_,λ _=>⟨λ _=>⟨λ _=>?_,λ _=>?_⟩,λ _=>⟨λ _=>?_,λ _=>?_⟩⟩⟩⟩⟩⟩⟩⟩;all_goals try and_intros
 all_goals first|rfl|trivial|(simp only[decide_eq_true_eq,decide_eq_false_iff_not] at *;simp[cB, *];done)|(simp only[decide_eq_true_eq,decide_eq_false_iff_not] at *;unfold cB;repeat (first|omega|split))
def rJ:bc:=⟨Bn,[.v (.int .i64)],λ (k:Int)=>⟨(none,[⟨(.int .i64),cB k⟩])⟩⟩
def MX(k:Int):Nat->aP:=cw
abbrev wA(k:Int):Prop:=(let v0:=decide (k=(6:Int));((v0=true ->
 ((v0=true ->
 (2:Int)=(cB k))/\(v0=false ->
 (-1:Int)=(cB k))))/\(v0=false ->
 (((decide (k=(7:Int)))=true ->
 (2:Int)=(cB k))/\((decide (k=(7:Int)))=false ->
 (-1:Int)=(cB k))))))
abbrev IX(k:Int):Prop:=(let v0:=decide (k=(5:Int));((v0=true ->
 ((v0=true ->
 (1:Int)=(cB k))/\(v0=false ->
 (wA k))))/\(v0=false ->
 (((decide (k=(8:Int)))=true ->
 (1:Int)=(cB k))/\((decide (k=(8:Int)))=false ->
 (wA k))))))
def GH:bc.Good rJ:=by
 refine⟨aH xX,?_⟩;intro (k:Int) _;refine bf [] [] [] [] trivial xX Ga (MX k) (let v0:=decide (k=(1:Int));let v1:=decide (k=(2:Int));let v2:=decide (k=(3:Int));let v3:=IX k;(((v0=true->((v0=true->(0:Int)=(cB k))/\(v0=false->v3)))/\(v0=false->((v1=true->((v1=true->(0:Int)=(cB k))/\(v1=false->v3)))/\(v1=false->((v2=true->((v2=true->(0:Int)=(cB k))/\(v2=false->v3)))/\(v2=false->(((decide (k=(4:Int)))=true->(0:Int)=(cB k))/\((decide (k=(4:Int)))=false->v3)))))))))) ?_;refine⟨λ _=>⟨λ _=>?_,λ _=>⟨λ _=>⟨λ _=>?_,λ _=>⟨λ _=>⟨λ _=>?_,λ _=>?_⟩,λ _=>⟨λ _=>?_,λ _=>?_⟩⟩⟩,λ _=>⟨λ _=>?_,λ _=>⟨λ _=>⟨λ _=>?_,λ _=>?_⟩,λ _=>⟨λ _=>?_,λ _=>?_⟩⟩⟩⟩⟩,λ _=>⟨λ _=>⟨λ _=>?_,λ _=>⟨λ _=>⟨λ _=>?_,λ _=>⟨λ _=>⟨λ _=>?_,λ _=>?_⟩,λ _=>⟨λ _=>?_,λ _=>?_⟩⟩⟩,λ _=>⟨λ _=>?_,λ _=>⟨λ _=>⟨λ _=>?_,λ _=>?_⟩,λ _=>⟨λ _=>?_,λ _=>?_⟩⟩⟩⟩⟩,λ _=>⟨λ _=>⟨λ _=>?_,λ _=>⟨λ _=>⟨λ _=>?_,λ _=>⟨λ _=>⟨λ _=>?_,λ _=>?_⟩,λ _=>⟨λ _=>?_,λ _=>?_⟩⟩⟩,λ _=>⟨λ _=>?_,λ _=>⟨λ _=>⟨λ _=>?_,λ _=>?_⟩,λ _=>⟨λ _=>?_,λ _=>?_⟩⟩⟩⟩⟩,λ _=>⟨λ _=>?_,λ _=>⟨λ _=>⟨λ _=>?_,λ _=>⟨λ _=>⟨λ _=>?_,λ _=>?_⟩,λ _=>⟨λ _=>?_,λ _=>?_⟩⟩⟩,λ _=>⟨λ _=>?_,λ _=>⟨λ _=>⟨λ _=>?_,λ _=>?_⟩,λ _=>⟨λ _=>?_,λ _=>?_⟩⟩⟩⟩⟩⟩⟩⟩;all_goals try and_intros
 all_goals first|rfl|trivial|(simp only[decide_eq_true_eq,decide_eq_false_iff_not] at *;simp[cB, *];done)|(simp only[decide_eq_true_eq,decide_eq_false_iff_not] at *;unfold cB;repeat (first|omega|split))
def gX(n:Nat):bc:=⟨ma,[.v (.st .expr)],λ (x:J)=>⟨(some (bG x<n),[⟨.bool,bD x⟩])⟩⟩
def iu:bc:=⟨ma,[.v (.st .expr)],λ (x:J)=>⟨(none,[⟨.bool,bD x⟩])⟩⟩
def ER(x:J):Nat->aP:=(eR 1 (.b (Nat) (λ k=>k<=x.U.length/\cM bD (x.U.take k)=true) (λ k=>x.U.length - k) [0,1,5,6,7,8,9,10,11,12,13,14] (λ k=>[(17, .aO ⟨(.int .i64),((k:Int):Int)⟩)])) cw)
abbrev BT(n:Nat)(x:J):Prop:=(let v0:=(x.U.length:Int);(x.U.length<=140737488355328 ->
 (av v0 ->
 ((∃ k1:Nat,((k1<=x.U.length/\cM bD (x.U.take k1)=true)/\((x.U=x.U/\(v0=v0/\((0:Int)=(k1:Int)/\True)))/\True)))/\(∀ k1:Nat,let v1:=aQ (x.U.getD k1 zE);((k1<=x.U.length/\cM bD (x.U.take k1)=true) ->
 (((decide ((k1:Int)<v0))=true ->
 (aI (k1:Int) x.U.length/\(bG v1<n/\(((!(bD v1))=true ->
 false=(bD x))/\((!(bD v1))=false ->
 (av ((k1:Int)+(1:Int))/\(∃ k2:Nat,((k2<=x.U.length/\cM bD (x.U.take k2)=true)/\(x.U.length - k2<x.U.length - k1/\((x.U=x.U/\(v0=v0/\(((k1:Int)+(1:Int))=(k2:Int)/\True)))/\True))))))))))/\((decide ((k1:Int)<v0))=false ->
 true=(bD x)))))))))
def Dx(n:Nat)(hE:bu [gX n]):bc.Good (gX (n+1)):=by
 refine⟨aH gO,?_⟩;intro (x:J) (hp:bG x<n+1);refine bf [gX n] [] [] [1] hE gO zC (ER x) (let v0:=BT n x;let v1:=decide (x.ah=(1:Int));let v2:=decide (x.ah=(2:Int));let v3:=decide (x.ah=(3:Int));let v4:=decide (x.ah=(5:Int));let v5:=decide (x.ah=(6:Int));let v6:=bD x;((av x.ah->((v1=true->((v1=true->v0)/\(v1=false->false=v6)))/\(v1=false->((v2=true->((v2=true->v0)/\(v2=false->false=v6)))/\(v2=false->((v3=true->((v3=true->v0)/\(v3=false->false=v6)))/\(v3=false->((v4=true->((v4=true->v0)/\(v4=false->false=v6)))/\(v4=false->((v5=true->((v5=true->v0)/\(v5=false->false=v6)))/\(v5=false->(((decide (x.ah=(7:Int)))=true->v0)/\((decide (x.ah=(7:Int)))=false->false=v6))))))))))))))) ?_;have f0:=gf x;have f1:=all_zero bD x.U;refine λ _=>⟨λ _=>⟨λ _ _ _=>⟨⟨0,?_,⟨rfl,rfl,?_,ag⟩,ag⟩,λ k1 _=>have a7I:=ez bD zE x.U k1;have a7J:=eQ bD zE x.U k1;have a7K:=eJ bD x.U k1;have b0h:=cF zE x.U k1;⟨λ _=>⟨?_,?_,λ _=>?_,λ _=>⟨?_,k1+1,?_,?_,⟨rfl,rfl,?_,ag⟩,ag⟩⟩,λ _=>?_⟩⟩,λ _=>?_⟩,λ _=>⟨λ _=>⟨λ _ _ _=>⟨⟨0,?_,⟨rfl,rfl,?_,ag⟩,ag⟩,λ k1 _=>have b0i:=ez bD zE x.U k1;have b0j:=eQ bD zE x.U k1;have b0k:=eJ bD x.U k1;have b0l:=cF zE x.U k1;⟨λ _=>⟨?_,?_,λ _=>?_,λ _=>⟨?_,k1+1,?_,?_,⟨rfl,rfl,?_,ag⟩,ag⟩⟩,λ _=>?_⟩⟩,λ _=>?_⟩,λ _=>⟨λ _=>⟨λ _ _ _=>⟨⟨0,?_,⟨rfl,rfl,?_,ag⟩,ag⟩,λ k1 _=>have a0M:=ez bD zE x.U k1;have a0N:=eQ bD zE x.U k1;have a0O:=eJ bD x.U k1;have a4G:=cF zE x.U k1;⟨λ _=>⟨?_,?_,λ _=>?_,λ _=>⟨?_,k1+1,?_,?_,⟨rfl,rfl,?_,ag⟩,ag⟩⟩,λ _=>?_⟩⟩,λ _=>?_⟩,λ _=>⟨λ _=>⟨λ _ _ _=>⟨⟨0,?_,⟨rfl,rfl,?_,ag⟩,ag⟩,λ k1 _=>have b0m:=ez bD zE x.U k1;have b0n:=eQ bD zE x.U k1;have b0o:=eJ bD x.U k1;have b0p:=cF zE x.U k1;⟨λ _=>⟨?_,?_,λ _=>?_,λ _=>⟨?_,k1+1,?_,?_,⟨rfl,rfl,?_,ag⟩,ag⟩⟩,λ _=>?_⟩⟩,λ _=>?_⟩,λ _=>⟨λ _=>⟨λ _ _ _=>⟨⟨0,?_,⟨rfl,rfl,?_,ag⟩,ag⟩,λ k1 _=>have a4H:=ez bD zE x.U k1;have a4I:=eQ bD zE x.U k1;have a4J:=eJ bD x.U k1;have a7R:=cF zE x.U k1;⟨λ _=>⟨?_,?_,λ _=>?_,λ _=>⟨?_,k1+1,?_,?_,⟨rfl,rfl,?_,ag⟩,ag⟩⟩,λ _=>?_⟩⟩,λ _=>?_⟩,λ _=>⟨λ _ _ _=>⟨⟨0,?_,⟨rfl,rfl,?_,ag⟩,ag⟩,λ k1 _=>have a4H:=ez bD zE x.U k1;have a4I:=eQ bD zE x.U k1;have a4J:=eJ bD x.U k1;have a7R:=cF zE x.U k1;⟨λ _=>⟨?_,?_,λ _=>?_,λ _=>⟨?_,k1+1,?_,?_,⟨rfl,rfl,?_,ag⟩,ag⟩⟩,λ _=>?_⟩⟩,λ _=>?_⟩⟩⟩⟩⟩⟩;all_goals try and_intros
 all_goals try (first|with_reducible rfl|with_reducible assumption)
 all_goals try simp only[J.eta,cu] at *
 all_goals try rw[oV x]
 all_goals first|rfl|trivial|(simp only[b0R,b0Q,aI,av] at *;omega)|(simp_all [tM];done)|(simp_all [tM,aI,av];omega)
def Lr :∀ n,bu [gX n]
 | 0=>⟨⟨aH gO,λ _ h=>absurd h (b1x _)⟩,ag⟩
 | n+1=>by
  have ih:=Lr  n;exact⟨Dx n ⟨ih.1,ag⟩,ag⟩
def nT :bc.Good iu :=
 ⟨aH gO,λ x hp=>(Lr  (bG x+1)).1.2 x (b1b _)⟩
def gE(n:Nat):bc:=⟨kB,[.r (.st .expr)],λ (x:J)=>⟨(some (bG x<n),[⟨.bool,bD x⟩])⟩⟩
def gW:bc:=⟨kB,[.r (.st .expr)],λ (x:J)=>⟨(none,[⟨.bool,bD x⟩])⟩⟩
def C8(x:J):Nat->aP:=(eR 0 (.b (Nat) (λ k=>k<=x.U.length/\cM bD (x.U.take k)=true) (λ k=>x.U.length - k) [4,5,6,7,8,9,10,11,12,13,14,15,16] (λ k=>[(3, .aO ⟨(.int .i64),((k:Int):Int)⟩)])) cw)
abbrev og(n:Nat)(x:J):Prop:=(let v0:=(x.U.length:Int);((∃ k1:Nat,((k1<=x.U.length/\cM bD (x.U.take k1)=true)/\((x=x/\((0:Int)=(k1:Int)/\True))/\True)))/\(∀ k1:Nat,let v1:=x.U.getD k1 zE;((k1<=x.U.length/\cM bD (x.U.take k1)=true) ->
 (x.U.length<=140737488355328 ->
 (av v0 ->
 (((decide ((k1:Int)<v0))=true ->
 (x.U.length<=140737488355328 ->
 (aI (k1:Int) x.U.length/\(bG v1<n/\(((!(bD v1))=true ->
 false=(bD x))/\((!(bD v1))=false ->
 (av ((k1:Int)+(1:Int))/\(∃ k2:Nat,((k2<=x.U.length/\cM bD (x.U.take k2)=true)/\(x.U.length - k2<x.U.length - k1/\((x=x/\(((k1:Int)+(1:Int))=(k2:Int)/\True))/\True)))))))))))/\((decide ((k1:Int)<v0))=false ->
 true=(bD x)))))))))
def BV(n:Nat)(hE:bu [gE n,jD]):bc.Good (gE (n+1)):=by
 refine⟨aH gD,?_⟩;intro (x:J) (hp:bG x<n+1);refine bf [gE n,jD] [] [] [] hE gD yc (C8 x) (let v0 := !(decide ((1:Int)<=x.ah/\x.ah<=(7:Int)));((av x.ah->(((v0=false)->(av x.ah->(((decide (x.ah=(4:Int)))=true->false=(bD x))/\((decide (x.ah=(4:Int)))=false->(og n x)))))/\((v0=(!false))->((true=true->false=(bD x))/\(true=false->(og n x)))))))) ?_;have f0:=gf x;have f1:=all_zero bD x.U;refine λ _=>⟨λ _ _=>⟨λ _=>?_,λ _=>⟨⟨0,?_,⟨rfl,?_,ag⟩,ag⟩,λ k1 _=>have a7F:=ez bD zE x.U k1;have a7G:=eQ bD zE x.U k1;have a7H:=eJ bD x.U k1;have b0g:=cF zE x.U k1;λ _ _=>⟨λ _ _=>⟨?_,?_,λ _=>?_,λ _=>⟨?_,k1+1,?_,?_,⟨rfl,?_,ag⟩,ag⟩⟩,λ _=>?_⟩⟩⟩,λ _=>⟨λ _=>?_,λ _=>⟨⟨0,?_,⟨rfl,?_,ag⟩,ag⟩,λ k1 _=>have b0c:=ez bD zE x.U k1;have b0d:=eQ bD zE x.U k1;have b0e:=eJ bD x.U k1;have b0f:=cF zE x.U k1;λ _ _=>⟨λ _ _=>⟨?_,?_,λ _=>?_,λ _=>⟨?_,k1+1,?_,?_,⟨rfl,?_,ag⟩,ag⟩⟩,λ _=>?_⟩⟩⟩⟩;all_goals try and_intros
 all_goals try rw[oV x]
 all_goals first|rfl|trivial|(simp only[b0R,b0Q,aI,av] at *;omega)|(simp_all [tM];done)|(simp_all [tM,aI,av];omega)
def Ls :∀ n,bu [gE n]
 | 0=>⟨⟨aH gD,λ _ h=>absurd h (b1x _)⟩,ag⟩
 | n+1=>by
  have ih:=Ls  n;exact⟨BV n ⟨ih.1,pq,ag⟩,ag⟩
def np :bc.Good gW :=
 ⟨aH gD,λ x hp=>(Ls  (bG x+1)).1.2 x (b1b _)⟩
def nW(t a:Int)(x:J):Bool:=decide (cB x.ah=(x.U.length:Int)) &&
 (if x.ah=3 then decide (0<=x.aX/\x.aX<=t) else if x.ah=4 then decide (0<=x.aX/\x.aX<=a) else decide (x.aX=0)) &&
 (!decide (x.ah=5)||bD (x.U.getD 0 ⟨0,0,[]⟩))
mutual
def bV(t a:Int):J->Bool
 | ⟨k,n,ks⟩=>nW t a ⟨k,n,ks⟩&&pY t a ks
def pY(t a:Int):List J->Bool
 | []=>true
 | k::ks=>bV t a k&&pY t a ks
end
def QC(t a:Int):∀ xs,pY t a xs=cM (bV t a) xs
 | []=>rfl
 | x::xs=>by rw[pY,cM,QC t a xs]
def jH(t a:Int)(x:J):bV t a x=(nW t a x&&cM (bV t a) x.U):=by
 cases x;simp[bV,QC]
def aZ(n:Int):Int:=IntKind.wrap .i64 (n - 1)
def P3(n:Int)(h : -9223372036854775807<=n/\n<=9223372036854775807):aZ n=n - 1:=by
 simp[aZ,IntKind.wrap,IntKind.signed,IntKind.bits];omega
def lq(n:Nat):bc:=⟨rS,[.r (.st .expr), .v (.int .i64)],λ (x:J) (left:Int)=>⟨(some (bG x<n/\0<=left/\left<=1048576),[⟨(.int .i64),EZ (ar x) left⟩])⟩⟩
def A5:bc:=⟨rS,[.r (.st .expr), .v (.int .i64)],λ (x:J) (left:Int)=>⟨(some (0<=left/\left<=1048576),[⟨(.int .i64),EZ (ar x) left⟩])⟩⟩
def MY(x:J)(left:Int):Nat->aP:=(eR 0 (.b (Nat) (λ k=>k<=x.U.length) (λ k=>x.U.length - k) [4,6,7] (λ k=>[(5, .aO ⟨(.int .i64),((k:Int):Int)⟩),(1, .aO ⟨(.int .i64),(EZ (1+cV ar (x.U.take k)) left:Int)⟩)])) cw)
abbrev wB(n:Nat)(x:J)(left:Int)(k1:Nat):Prop:=(let v0:=EZ (1+cV ar (x.U.take k1)) left;let v1:=EZ (ar (x.U.getD k1 zE)) v0;(x.U.length<=140737488355328 ->
 (aI (k1:Int) x.U.length/\((bG (x.U.getD k1 zE)<n/\0<=v0/\v0<=1048576)/\(av v1 ->
 (av ((k1:Int)+(1:Int))/\(∃ k2:Nat,(k2<=x.U.length/\(x.U.length - k2<x.U.length - k1/\((x=x/\(v1=(EZ (1+cV ar (x.U.take k2)) left)/\(((k1:Int)+(1:Int))=(k2:Int)/\True)))/\True))))))))))
def K1(n:Nat)(hE:bu [lq n]):bc.Good (lq (n+1)):=by
 refine⟨aH kQ,?_⟩;intro (x:J) (left:Int) (hp:bG x<n+1/\0<=left/\left<=1048576);refine bf [lq n] [] [] [] hE kQ Gb (MY x left) (let v0:=(x.U.length:Int);((av (left - (1:Int))/\((∃ k1:Nat,(k1<=x.U.length/\((x=x/\((left - (1:Int))=(EZ (1+cV ar (x.U.take k1)) left)/\((0:Int)=(k1:Int)/\True)))/\True)))/\(∀ k1:Nat,let v1:=EZ (1+cV ar (x.U.take k1)) left;(k1<=x.U.length->(x.U.length<=140737488355328->(av v0->(((decide ((k1:Int)<v0))=true->(((decide ((0:Int)<=v1))=true->(wB n x left k1))/\((decide ((0:Int)<=v1))=false->v1=(EZ (ar x) left))))/\((decide ((k1:Int)<v0))=(!true)->((false=true->(wB n x left k1))/\(false=false->v1=(EZ (ar x) left))))))))))))) ?_;have f0:=gf x;have f1:=Eg ar x.U;have f2:=Eh (1+cV ar (x.U.take 0)) left;refine⟨?_,⟨0,?_,⟨rfl,?_,?_,ag⟩,ag⟩,λ k1 _=>have a4B:=nD ar zE x.U k1;have a4C:=eH ar x.U k1;have a4D:=eH ar x.U (k1+1);have a4E:=u6 ar x.U k1;have a4F:=cF zE x.U k1;have a7B:=Eh (1+cV ar (x.U.take k1)) left;have a9S:=Eh (1+cV ar (x.U.take (k1+1))) left;have a9T:=Eh (ar (x.U.getD k1 zE)) (EZ (1+cV ar (x.U.take k1)) left);have a9U:=Eh (1+cV ar x.U) left;λ _ _=>⟨λ _=>⟨λ _ _=>⟨?_,?_,λ _=>⟨?_,k1+1,?_,?_,⟨rfl,?_,?_,ag⟩,ag⟩⟩,λ _=>?_⟩,λ _=>⟨λ _ _=>⟨?_,?_,λ _=>⟨?_,k1+1,?_,?_,⟨rfl,?_,?_,ag⟩,ag⟩⟩,λ _=>?_⟩⟩⟩;all_goals try and_intros
 all_goals try rw[ib x]
 all_goals first|rfl|trivial|omega|(simp only[b0R,b0Q,aI,av,cD,mJ,dH,bC] at *;omega)|(simp[aI,av] at *;omega)|grind
def Lt :∀ n,bu [lq n]
 | 0=>⟨⟨aH kQ,λ _ _ h=>absurd h.1 (b1x _)⟩,ag⟩
 | n+1=>by
  have ih:=Lt  n;exact⟨K1 n ⟨ih.1,ag⟩,ag⟩
def GI :bc.Good A5 :=
 ⟨aH kQ,λ x left hp=>(Lt  (bG x+1)).1.2 x left (⟨b1b _,hp⟩)⟩
def jW(n:Nat):bc:=⟨pG,[.r (.st .expr)],λ (x:J)=>⟨(some (bG x<n/\bM x<=1048576),[⟨(.int .i64),(bM x:Int)⟩])⟩⟩
def yK:bc:=⟨pG,[.r (.st .expr)],λ (x:J)=>⟨(some (bM x<=1048576),[⟨(.int .i64),(bM x:Int)⟩])⟩⟩
def KP(x:J):Nat->aP:=(eR 0 (.b (Nat) (λ k=>k<=x.U.length) (λ k=>x.U.length - k) [2] (λ k=>[(4, .aO ⟨(.int .i64),((k:Int):Int)⟩),(3, .aO ⟨(.int .i64),((iK bM (x.U.take k):Int):Int)⟩)])) cw)
def Jj(n:Nat)(hE:bu [jW n,uE]):bc.Good (jW (n+1)):=by
 refine⟨aH jT,?_⟩;intro (x:J) (hp:bG x<n+1/\bM x<=1048576);refine bf [jW n,uE] [] [] [] hE jT Ez (KP x) (let v0:=(x.U.length:Int);(((∃ k1:Nat,(k1<=x.U.length/\((x=x/\((0:Int)=(iK bM (x.U.take k1):Int)/\((0:Int)=(k1:Int)/\True)))/\True)))/\(∀ k1:Nat,let v1:=(iK bM (x.U.take k1):Int);let v3:=x.U.getD k1 zE;let v2:=(bM v3:Int);(k1<=x.U.length->(x.U.length<=140737488355328->(av v0->(((decide ((k1:Int)<v0))=true->(x.U.length<=140737488355328->(aI (k1:Int) x.U.length/\((bG v3<n/\bM v3<=1048576)/\(av v2->(av (max v1 v2)->(av ((k1:Int)+(1:Int))/\(∃ k2:Nat,(k2<=x.U.length/\(x.U.length - k2<x.U.length - k1/\((x=x/\((max v1 v2)=(iK bM (x.U.take k2):Int)/\(((k1:Int)+(1:Int))=(k2:Int)/\True)))/\True)))))))))))/\((decide ((k1:Int)<v0))=false->(av (v1+(1:Int))/\(v1+(1:Int))=(bM x:Int))))))))))) ?_;rw[Gr x] at hp;have f0:=gf x;have f1:=PJ bM x.U;refine⟨⟨0,?_,⟨rfl,?_,?_,ag⟩,ag⟩,λ k1 _=>have a4B:=pC bM zE x.U k1;have a4C:=ia bM x.U k1;have a4D:=ia bM x.U (k1+1);have a4E:=yM bM x.U k1;have a4F:=cF zE x.U k1;have a7B:=PI bM zE x.U k1;λ _ _=>⟨λ _ _=>⟨?_,?_,λ _ _=>⟨?_,k1+1,?_,?_,⟨rfl,?_,?_,ag⟩,ag⟩⟩,λ _=>⟨?_,?_⟩⟩⟩;all_goals try and_intros
 all_goals try rw[Gr x]
 all_goals first|rfl|trivial|omega|(simp only[b0R,b0Q,aI,av,cD,mJ,dH,bC] at *;omega)|(simp[aI,av] at *;omega)|grind
def HS :∀ n,bu [jW n]
 | 0=>⟨⟨aH jT,λ _ h=>absurd h.1 (b1x _)⟩,ag⟩
 | n+1=>by
  have ih:=HS  n;exact⟨Jj n ⟨ih.1,IC,ag⟩,ag⟩
def EL :bc.Good yK :=
 ⟨aH jT,λ x hp=>(HS  (bG x+1)).1.2 x (⟨b1b _,hp⟩)⟩
def lA(n:Nat):bc:=⟨rU,[.v (.st .sig), .r (.st .expr)],λ (gg:aF) (x:J)=>⟨(some (bG x<n),[⟨.bool,bV (aZ gg.aS) (aZ gg.aw) x⟩])⟩⟩
def A7:bc:=⟨rU,[.v (.st .sig), .r (.st .expr)],λ (gg:aF) (x:J)=>⟨(none,[⟨.bool,bV (aZ gg.aS) (aZ gg.aw) x⟩])⟩⟩
def M3(gg:aF)(x:J):Nat->aP:=(eR 1 (.b (Nat) (λ k=>k<=x.U.length/\cM (bV (aZ gg.aS) (aZ gg.aw)) (x.U.take k)=true) (λ k=>x.U.length - k) [0,6,7,8,9,10,11,12,13,14,15,16,17,18,19,20,21,22,31,32,41,42,43,44,45,46,47,48,49,50,51,52,53,54,55,56,57,58,59,60,61] (λ k=>[(5, .aO ⟨(.int .i64),((k:Int):Int)⟩)])) cw)
abbrev IY(n:Nat)(gg:aF)(x:J):Prop:=(let v0:=aZ gg.aw;let v1:=aZ gg.aS;let v2:=(x.U.length:Int);((∃ k1:Nat,((k1<=x.U.length/\cM (bV v1 v0) (x.U.take k1)=true)/\((x=x/\(gg=gg/\((0:Int)=(k1:Int)/\True)))/\True)))/\(∀ k1:Nat,let v3 := !(bV v1 v0 (x.U.getD k1 zE));((k1<=x.U.length/\cM (bV v1 v0) (x.U.take k1)=true) ->
 (x.U.length<=140737488355328 ->
 (av v2 ->
 (((decide ((k1:Int)<v2))=true ->
 (aI (k1:Int) x.U.length/\(x.U.length<=140737488355328 ->
 (bG (x.U.getD k1 zE)<n/\((v3=true ->
 false=(bV v1 v0 x))/\(v3=false ->
 (av ((k1:Int)+(1:Int))/\(∃ k2:Nat,((k2<=x.U.length/\cM (bV v1 v0) (x.U.take k2)=true)/\(x.U.length - k2<x.U.length - k1/\((x=x/\(gg=gg/\(((k1:Int)+(1:Int))=(k2:Int)/\True)))/\True)))))))))))/\((decide ((k1:Int)<v2))=false ->
 true=(bV v1 v0 x)))))))))
def K5(n:Nat)(hE:bu [lA n,rJ,jD,gW]):bc.Good (lA (n+1)):=by
 refine⟨aH kX,?_⟩;intro (gg:aF) (x:J) (hp:bG x<n+1);refine bf [lA n,rJ,jD,gW] [29,39] [] [2] hE kX Gf (M3 gg x) (let v0:=bV (aZ gg.aS) (aZ gg.aw) x;let v1 := !(decide (((x.U.length:Int))=(cB x.ah)));let v2:=IY n gg x;let v3 := !(decide (x.aX=(0:Int)));((x.U.length<=140737488355328->(av ((x.U.length:Int))->(av x.ah->(av (cB x.ah)->((v1=true->false=v0)/\(v1=false->(av x.ah->(((decide (x.ah=(3:Int)))=true->(av x.aX->(av gg.aS->((decide ((0:Int)<=x.aX/\x.aX<=(IntKind.wrap .i64 (gg.aS - (1:Int)))))=v0))))/\((decide (x.ah=(3:Int)))=false->(((decide (x.ah=(4:Int)))=true->(av x.aX->(av gg.aw->((decide ((0:Int)<=x.aX/\x.aX<=(IntKind.wrap .i64 (gg.aw - (1:Int)))))=v0))))/\((decide (x.ah=(4:Int)))=false->(av x.aX->((v3=false->(av x.ah->(((decide (x.ah=(5:Int)))=true->(x.U.length<=140737488355328->(aI (0:Int) x.U.length/\(((!(bD (x.U.getD 0 zE)))=true->false=v0)/\((!(bD (x.U.getD 0 zE)))=false->v2)))))/\((decide (x.ah=(5:Int)))=(!true)->((false=true->false=v0)/\(false=false->v2))))))/\(v3=(!false)->((true=true->false=v0)/\(true=false->v2)))))))))))))))))) ?_;have f0:=gf x;have f1:=all_zero (bV (aZ gg.aS) (aZ gg.aw)) x.U;refine λ _ _ _ _=>⟨λ _=>?_,λ _ _=>⟨λ _ _ _=>?_,λ _=>⟨λ _ _ _=>?_,λ _ _=>⟨λ _ _=>⟨λ _ _=>⟨?_,λ _=>?_,λ _=>⟨⟨0,?_,⟨rfl,rfl,?_,ag⟩,ag⟩,λ k1 _=>have a9H:=ez (bV (aZ gg.aS) (aZ gg.aw)) zE x.U k1;have a9I:=eQ (bV (aZ gg.aS) (aZ gg.aw)) zE x.U k1;have a9J:=eJ (bV (aZ gg.aS) (aZ gg.aw)) x.U k1;have a9K:=cF zE x.U k1;λ _ _=>⟨λ _=>⟨?_,λ _=>⟨?_,λ _=>?_,λ _=>⟨?_,k1+1,?_,?_,⟨rfl,rfl,?_,ag⟩,ag⟩⟩⟩,λ _=>?_⟩⟩⟩,λ _=>⟨λ _=>?_,λ _=>⟨⟨0,?_,⟨rfl,rfl,?_,ag⟩,ag⟩,λ k1 _=>have a9D:=ez (bV (aZ gg.aS) (aZ gg.aw)) zE x.U k1;have a9E:=eQ (bV (aZ gg.aS) (aZ gg.aw)) zE x.U k1;have a9F:=eJ (bV (aZ gg.aS) (aZ gg.aw)) x.U k1;have a9G:=cF zE x.U k1;λ _ _=>⟨λ _=>⟨?_,λ _=>⟨?_,λ _=>?_,λ _=>⟨?_,k1+1,?_,?_,⟨rfl,rfl,?_,ag⟩,ag⟩⟩⟩,λ _=>?_⟩⟩⟩⟩,λ _=>⟨λ _=>?_,λ _=>⟨⟨0,?_,⟨rfl,rfl,?_,ag⟩,ag⟩,λ k1 _=>have WB:=ez (bV (aZ gg.aS) (aZ gg.aw)) zE x.U k1;have WC:=eQ (bV (aZ gg.aS) (aZ gg.aw)) zE x.U k1;have WD:=eJ (bV (aZ gg.aS) (aZ gg.aw)) x.U k1;have a0L:=cF zE x.U k1;λ _ _=>⟨λ _=>⟨?_,λ _=>⟨?_,λ _=>?_,λ _=>⟨?_,k1+1,?_,?_,⟨rfl,rfl,?_,ag⟩,ag⟩⟩⟩,λ _=>?_⟩⟩⟩⟩⟩⟩⟩;all_goals try and_intros
 all_goals try rw[jH _ _ x]
 all_goals first|rfl|trivial|(simp only[decide_eq_true_eq,decide_eq_false_iff_not,aI,av] at *;omega)|(simp_all [nW,aZ];done)|(simp_all [nW,aZ,aI,av];omega)|grind [nW,aZ,cB,aI,av]
def Lx :∀ n,bu [lA n]
 | 0=>⟨⟨aH kX,λ _ _ h=>absurd h (b1x _)⟩,ag⟩
 | n+1=>by
  have ih:=Lx  n;exact⟨K5 n ⟨ih.1,GH,pq,np,ag⟩,ag⟩
def GL :bc.Good A7 :=
 ⟨aH kX,λ gg x hp=>(Lx  (bG x+1)).1.2 gg x (b1b _)⟩
def bS(gg:aF):Bool:=decide (0<=gg.aS/\gg.aS<=3)&&decide (0<=gg.aw/\gg.aw<=4)
def HC(gg:aF)(x:J)(bE depth:Int):Bool:=bV (aZ gg.aS) (aZ gg.aw) x&&decide ((ar x:Int)<=bE)&&decide ((bM x:Int)<=depth)
def Np(gg:aF)(x:J)(bE depth:Int):Int:=bif HC gg x bE depth then bE - ar x else 0
def yG:bc:=⟨yP,[.v (.st .sig)],λ (gg:aF)=>⟨(none,[⟨.bool,bS gg⟩])⟩⟩
def KI(gg:aF):Nat->aP:=cw
def EF:bc.Good yG:=by
 refine⟨aH vM,?_⟩;intro (gg:aF) _;refine bf [oi] [] [] [1] ⟨vW,ag⟩ vM Es (KI gg) (let v0:=decide ((0:Int)<=gg.aS/\gg.aS<=(3:Int));((av gg.aS->(((v0=true)->(av gg.aw->((decide ((0:Int)<=gg.aw/\gg.aw<=(4:Int)))=(bS gg))))/\((v0=(!true))->false=(bS gg)))))) ?_;refine λ _=>⟨λ _ _=>?_,λ _=>?_⟩;all_goals try and_intros
 all_goals first|rfl|trivial|(simp_all [bS];done)|(simp_all [bS];omega)
def uF:bc:=⟨Dq,[.v (.st .sig)],λ (gg:aF)=>⟨(none,[⟨.bool,bS gg⟩])⟩⟩
def Pu(gg:aF):Nat->aP:=cw
def vX:bc.Good uF:=by
 refine⟨aH AM,?_⟩;intro (gg:aF) _;refine bf [jD] [] [] [1] ⟨pq,ag⟩ AM H7 (Pu gg) (let v0:=decide ((0:Int)<=gg.aS/\gg.aS<=(3:Int));((av gg.aS->(((v0=true)->(av gg.aw->((decide ((0:Int)<=gg.aw/\gg.aw<=(4:Int)))=(bS gg))))/\((v0=(!true))->false=(bS gg)))))) ?_;refine λ _=>⟨λ _ _=>?_,λ _=>?_⟩;all_goals try and_intros
 all_goals first|rfl|trivial|(simp_all [bS];done)|(simp_all [bS];omega)
def Au(t a:Int)(x:J):Bool:=if x.ah=3 then decide (0<=x.aX/\x.aX<=t) else if x.ah=4 then decide (0<=x.aX/\x.aX<=a) else decide (x.aX=0)
def nr(t a:Int)(x:J):nW t a x=(decide (cB x.ah=(x.U.length:Int))&&Au t a x&&(!decide (x.ah=5)||bD (x.U.getD 0 ⟨0,0,[]⟩))):=rfl
def uX(gg:aF)(x:J)(bE depth:Int) :
  (bV (aZ gg.aS) (aZ gg.aw) x=true/\(ar x:Int)<=bE/\(bM x:Int)<=depth/\HC gg x bE depth=true/\Np gg x bE depth=bE - ar x) \/
  ((bV (aZ gg.aS) (aZ gg.aw) x=false\/bE<(ar x:Int)\/depth<(bM x:Int))/\HC gg x bE depth=false/\Np gg x bE depth=0):=by
 unfold Np HC;cases bV (aZ gg.aS) (aZ gg.aw) x
 .right;simp
 .rcases Int.lt_or_le bE (ar x) with h|h
  .right;simp[h,Int.not_le.2 h]
  .rcases Int.lt_or_le depth (bM x) with h'|h'
   .right;simp[h',Int.not_le.2 h']
   .left;simp[h,h']
def mC(n:Nat):bc:=⟨uO,[.v (.st .sig), .v (.st .expr), .v (.int .i64), .v (.int .i64)],λ (gg:aF) (x:J) (bE:Int) (depth:Int)=>⟨(some (bG x<n/\0<=bE/\bE<=1048576/\0<=depth/\depth<=1048576),[⟨(.int .i64),Np gg x bE depth⟩,⟨.bool,HC gg x bE depth⟩])⟩⟩
def C0:bc:=⟨uO,[.v (.st .sig), .v (.st .expr), .v (.int .i64), .v (.int .i64)],λ (gg:aF) (x:J) (bE:Int) (depth:Int)=>⟨(some (0<=bE/\bE<=1048576/\0<=depth/\depth<=1048576),[⟨(.int .i64),Np gg x bE depth⟩,⟨.bool,HC gg x bE depth⟩])⟩⟩
def Pq(gg:aF)(x:J)(bE:Int)(depth:Int):Nat->aP:=(eR 100012 (.u (cB x.ah=(x.U.length:Int)/\1<=bE/\1<=depth/\Au (aZ gg.aS) (aZ gg.aw) x=true) [0,1,14,15,16,17,18,19,20,21,22,23,24,25,26,27,28] [] [] [] (eR 100014 (.u (nW (aZ gg.aS) (aZ gg.aw) x=true/\1<=bE/\1<=depth) [] [] [] [] (eR 1 (.b (Nat) (λ k=>k<=x.U.length/\cM (bV (aZ gg.aS) (aZ gg.aw)) (x.U.take k)=true/\1+(cV ar (x.U.take k):Int)<=bE/\1+(iK bM (x.U.take k):Int)<=depth) (λ k=>x.U.length - k) [5,63,64,65] (λ k=>[(68, .aO ⟨(.int .i64),((k:Int):Int)⟩),(2, .aO ⟨(.int .i64),(bE - (1+(cV ar (x.U.take k):Int)):Int)⟩)])) cw)) cw)) cw)
abbrev KB(gg:aF)(x:J)(bE:Int)(depth:Int):Prop:=(∃ u1:Unit,((cB x.ah=(x.U.length:Int)/\1<=bE/\1<=depth/\Au (aZ gg.aS) (aZ gg.aw) x=true)/\((bE=bE/\(depth=depth/\(gg=gg/\(x=x/\True))))/\True)))
abbrev KC(gg:aF)(x:J)(bE:Int)(depth:Int):Prop:=(∃ u2:Unit,((nW (aZ gg.aS) (aZ gg.aw) x=true/\1<=bE/\1<=depth)/\((bE=bE/\(depth=depth/\(gg=gg/\(x=x/\True))))/\True)))
abbrev yD(n:Nat)(gg:aF)(x:J)(bE:Int)(depth:Int):Prop:=(let v1:=(x.U.length:Int);let v6:=KB gg x bE depth;let v7:=(0:Int);let v0:=v7=(Np gg x bE depth)/\false=(HC gg x bE depth);let v8:=(1:Int);let v2:=depth - v8;let v3 := !(decide (v7<=x.aX/\x.aX<=(IntKind.wrap .i64 (gg.aw - v8))));let v4 := !(decide (v7<=x.aX/\x.aX<=(IntKind.wrap .i64 (gg.aS - v8))));let v9:=aZ gg.aw;let va:=KC gg x bE depth;let vb:=aZ gg.aS;let v5:=bV vb v9;((av x.ah ->
 (((decide (x.ah=(3:Int)))=true ->
 (av x.aX ->
 (av gg.aS ->
 (((v4=true) ->
 v0)/\((v4=false) ->
 v6)))))/\((decide (x.ah=(3:Int)))=false ->
 (((decide (x.ah=(4:Int)))=true ->
 (av x.aX ->
 (av gg.aw ->
 (((v3=true) ->
 v0)/\((v3=false) ->
 v6)))))/\((decide (x.ah=(4:Int)))=false ->
 (av x.aX ->
 (((!(decide (x.aX=v7)))=true ->
 v0)/\((!(decide (x.aX=v7)))=false ->
 v6))))))))/\(∀ u1:Unit,((cB x.ah=v1/\1<=bE/\1<=depth/\Au vb v9 x=true) ->
 ((av x.ah ->
 (((decide (x.ah=(5:Int)))=true ->
 (x.U.length<=140737488355328 ->
 (aI v7 x.U.length/\(((!(bD (x.U.getD 0 zE)))=true ->
 v0)/\((!(bD (x.U.getD 0 zE)))=false ->
 va)))))/\((decide (x.ah=(5:Int)))=(!true) ->
 ((false=true ->
 v0)/\(false=false ->
 va)))))/\(∀ u2:Unit,((nW vb v9 x=true/\1<=bE/\1<=depth) ->
 (av (bE - v8)/\(x.U.length<=140737488355328 ->
 (av (v1) ->
 ((∃ k3:Nat,let vc:=x.U.take k3;((k3<=x.U.length/\cM v5 vc=true/\1+(cV ar vc:Int)<=bE/\1+(iK bM vc:Int)<=depth)/\(((bE - v8)=(bE - (1+(cV ar vc:Int)))/\(depth=depth/\(gg=gg/\(x.U=x.U/\((v1)=(v1)/\(v7=(k3:Int)/\True))))))/\True)))/\(∀ k3:Nat,let vd:=aQ (x.U.getD k3 zE);let ve:=x.U.take k3;let vc:=bE - (1+(cV ar ve:Int));((k3<=x.U.length/\cM v5 ve=true/\1+(cV ar ve:Int)<=bE/\1+(iK bM ve:Int)<=depth) ->
 (((decide ((k3:Int)<(v1)))=true ->
 (aI (k3:Int) x.U.length/\(av v2/\((bG vd<n/\0<=vc/\vc<=1048576/\0<=v2/\v2<=1048576)/\(av (Np gg vd vc v2) ->
 (((!(HC gg vd vc v2))=true ->
 v0)/\((!(HC gg vd vc v2))=false ->
 (av ((k3:Int)+v8)/\(∃ k4:Nat,let vf:=x.U.take k4;((k4<=x.U.length/\cM v5 vf=true/\1+(cV ar vf:Int)<=bE/\1+(iK bM vf:Int)<=depth)/\(x.U.length - k4<x.U.length - k3/\(((Np gg vd vc v2)=(bE - (1+(cV ar vf:Int)))/\(depth=depth/\(gg=gg/\(x.U=x.U/\((v1)=(v1)/\(((k3:Int)+v8)=(k4:Int)/\True))))))/\True))))))))))))/\((decide ((k3:Int)<(v1)))=false ->
 (vc=(Np gg x bE depth)/\true=(HC gg x bE depth)))))))))))))))))
abbrev KD(n:Nat)(gg:aF)(x:J)(bE:Int)(depth:Int):Prop:=(let v0 := !(decide ((cB x.ah)=((x.U.length:Int))));(av x.ah ->
 (av (cB x.ah) ->
 (x.U.length<=140737488355328 ->
 (av ((x.U.length:Int)) ->
 ((v0=true ->
 ((0:Int)=(Np gg x bE depth)/\false=(HC gg x bE depth)))/\(v0=false ->
 (yD n gg x bE depth))))))))
abbrev KE(n:Nat)(gg:aF)(x:J)(bE:Int)(depth:Int):Prop:=((true=true ->
 ((0:Int)=(Np gg x bE depth)/\false=(HC gg x bE depth)))/\(true=false ->
 (yD n gg x bE depth)))
def Nk(n:Nat)(hE:bu [mC n,uC,oi,iu]):bc.Good (mC (n+1)):=by
 refine⟨aH mw,?_⟩;intro (gg:aF) (x:J) (bE:Int) (depth:Int) (hp:bG x<n+1/\0<=bE/\bE<=1048576/\0<=depth/\depth<=1048576);refine bf [mC n,uC,oi,iu] [40,49] [] [4,5] hE mw H2 (Pq gg x bE depth) (let v0:=KD n gg x bE depth;let v1:=KE n gg x bE depth;((((decide (bE=(0:Int)))=false->(((decide (depth=(0:Int)))=false->v0)/\((decide (depth=(0:Int)))=(!false)->v1)))/\((decide (bE=(0:Int)))=(!false)->((true=false->v0)/\(true=(!false)->v1)))))) ?_;have fs:=uX gg x bE depth;rw[jH _ _ x,ib x,Gr x] at fs;have f0:=gf x;have f1:=Eg ar x.U;have f2:=PJ bM x.U;have f3:=all_zero (bV (aZ gg.aS) (aZ gg.aw)) x.U;refine⟨λ _=>⟨λ _ _ _ _ _=>⟨λ _=>⟨?_,?_⟩,λ _=>⟨λ _=>⟨λ _ _ _=>⟨λ _=>⟨?_,?_⟩,λ _=>⟨(),?_,⟨rfl,rfl,rfl,rfl,ag⟩,ag⟩⟩,λ _=>⟨λ _ _ _=>⟨λ _=>⟨?_,?_⟩,λ _=>⟨(),?_,⟨rfl,rfl,rfl,rfl,ag⟩,ag⟩⟩,λ _ _=>⟨λ _=>⟨?_,?_⟩,λ _=>⟨(),?_,⟨rfl,rfl,rfl,rfl,ag⟩,ag⟩⟩⟩⟩,λ u1 _=>⟨λ _=>⟨λ _ _=>⟨?_,λ _=>⟨?_,?_⟩,λ _=>⟨(),?_,⟨rfl,rfl,rfl,rfl,ag⟩,ag⟩⟩,λ _=>⟨λ _=>⟨?_,?_⟩,λ _=>⟨(),?_,⟨rfl,rfl,rfl,rfl,ag⟩,ag⟩⟩⟩,λ u2 _=>⟨?_,λ _ _=>⟨⟨0,?_,⟨?_,rfl,rfl,rfl,rfl,?_,ag⟩,ag⟩,λ k3 _=>have WB:=ez (bV (aZ gg.aS) (aZ gg.aw)) zE x.U k3;have WC:=eQ (bV (aZ gg.aS) (aZ gg.aw)) zE x.U k3;have WD:=eJ (bV (aZ gg.aS) (aZ gg.aw)) x.U k3;have a0L:=cF zE x.U k3;have a5V:=nD ar zE x.U k3;have a5W:=eH ar x.U (k3+1);have a5X:=u6 ar x.U k3;have a5Y:=pC bM zE x.U k3;have a5Z:=ia bM x.U (k3+1);have a6a:=yM bM x.U k3;have a3z:=uX gg (x.U.getD k3 zE) (bE - (1+(cV ar (x.U.take k3):Int))) (depth - 1);⟨λ _=>⟨?_,?_,?_,λ _=>⟨λ _=>⟨?_,?_⟩,λ _=>⟨?_,k3+1,?_,?_,⟨?_,rfl,rfl,rfl,rfl,?_,ag⟩,ag⟩⟩⟩,λ _=>⟨?_,?_⟩⟩⟩⟩⟩⟩⟩,λ _=>⟨λ _=>⟨?_,?_⟩,λ _=>⟨λ _=>⟨λ _ _ _=>⟨λ _=>⟨?_,?_⟩,λ _=>⟨(),?_,⟨rfl,rfl,rfl,rfl,ag⟩,ag⟩⟩,λ _=>⟨λ _ _ _=>⟨λ _=>⟨?_,?_⟩,λ _=>⟨(),?_,⟨rfl,rfl,rfl,rfl,ag⟩,ag⟩⟩,λ _ _=>⟨λ _=>⟨?_,?_⟩,λ _=>⟨(),?_,⟨rfl,rfl,rfl,rfl,ag⟩,ag⟩⟩⟩⟩,λ u1 _=>⟨λ _=>⟨λ _ _=>⟨?_,λ _=>⟨?_,?_⟩,λ _=>⟨(),?_,⟨rfl,rfl,rfl,rfl,ag⟩,ag⟩⟩,λ _=>⟨λ _=>⟨?_,?_⟩,λ _=>⟨(),?_,⟨rfl,rfl,rfl,rfl,ag⟩,ag⟩⟩⟩,λ u2 _=>⟨?_,λ _ _=>⟨⟨0,?_,⟨?_,rfl,rfl,rfl,rfl,?_,ag⟩,ag⟩,λ k3 _=>have a0M:=ez (bV (aZ gg.aS) (aZ gg.aw)) zE x.U k3;have a0N:=eQ (bV (aZ gg.aS) (aZ gg.aw)) zE x.U k3;have a0O:=eJ (bV (aZ gg.aS) (aZ gg.aw)) x.U k3;have a4G:=cF zE x.U k3;have a7L:=nD ar zE x.U k3;have a7M:=eH ar x.U (k3+1);have a7N:=u6 ar x.U k3;have a7O:=pC bM zE x.U k3;have a7P:=ia bM x.U (k3+1);have a7Q:=yM bM x.U k3;have a6b:=uX gg (x.U.getD k3 zE) (bE - (1+(cV ar (x.U.take k3):Int))) (depth - 1);⟨λ _=>⟨?_,?_,?_,λ _=>⟨λ _=>⟨?_,?_⟩,λ _=>⟨?_,k3+1,?_,?_,⟨?_,rfl,rfl,rfl,rfl,?_,ag⟩,ag⟩⟩⟩,λ _=>⟨?_,?_⟩⟩⟩⟩⟩⟩⟩⟩,λ _=>⟨λ _ _ _ _ _=>⟨λ _=>⟨?_,?_⟩,λ _=>⟨λ _=>⟨λ _ _ _=>⟨λ _=>⟨?_,?_⟩,λ _=>⟨(),?_,⟨rfl,rfl,rfl,rfl,ag⟩,ag⟩⟩,λ _=>⟨λ _ _ _=>⟨λ _=>⟨?_,?_⟩,λ _=>⟨(),?_,⟨rfl,rfl,rfl,rfl,ag⟩,ag⟩⟩,λ _ _=>⟨λ _=>⟨?_,?_⟩,λ _=>⟨(),?_,⟨rfl,rfl,rfl,rfl,ag⟩,ag⟩⟩⟩⟩,λ u1 _=>⟨λ _=>⟨λ _ _=>⟨?_,λ _=>⟨?_,?_⟩,λ _=>⟨(),?_,⟨rfl,rfl,rfl,rfl,ag⟩,ag⟩⟩,λ _=>⟨λ _=>⟨?_,?_⟩,λ _=>⟨(),?_,⟨rfl,rfl,rfl,rfl,ag⟩,ag⟩⟩⟩,λ u2 _=>⟨?_,λ _ _=>⟨⟨0,?_,⟨?_,rfl,rfl,rfl,rfl,?_,ag⟩,ag⟩,λ k3 _=>have WB:=ez (bV (aZ gg.aS) (aZ gg.aw)) zE x.U k3;have WC:=eQ (bV (aZ gg.aS) (aZ gg.aw)) zE x.U k3;have WD:=eJ (bV (aZ gg.aS) (aZ gg.aw)) x.U k3;have a0L:=cF zE x.U k3;have a5V:=nD ar zE x.U k3;have a5W:=eH ar x.U (k3+1);have a5X:=u6 ar x.U k3;have a5Y:=pC bM zE x.U k3;have a5Z:=ia bM x.U (k3+1);have a6a:=yM bM x.U k3;have a3z:=uX gg (x.U.getD k3 zE) (bE - (1+(cV ar (x.U.take k3):Int))) (depth - 1);⟨λ _=>⟨?_,?_,?_,λ _=>⟨λ _=>⟨?_,?_⟩,λ _=>⟨?_,k3+1,?_,?_,⟨?_,rfl,rfl,rfl,rfl,?_,ag⟩,ag⟩⟩⟩,λ _=>⟨?_,?_⟩⟩⟩⟩⟩⟩⟩,λ _=>⟨λ _=>⟨?_,?_⟩,λ _=>⟨λ _=>⟨λ _ _ _=>⟨λ _=>⟨?_,?_⟩,λ _=>⟨(),?_,⟨rfl,rfl,rfl,rfl,ag⟩,ag⟩⟩,λ _=>⟨λ _ _ _=>⟨λ _=>⟨?_,?_⟩,λ _=>⟨(),?_,⟨rfl,rfl,rfl,rfl,ag⟩,ag⟩⟩,λ _ _=>⟨λ _=>⟨?_,?_⟩,λ _=>⟨(),?_,⟨rfl,rfl,rfl,rfl,ag⟩,ag⟩⟩⟩⟩,λ u1 _=>⟨λ _=>⟨λ _ _=>⟨?_,λ _=>⟨?_,?_⟩,λ _=>⟨(),?_,⟨rfl,rfl,rfl,rfl,ag⟩,ag⟩⟩,λ _=>⟨λ _=>⟨?_,?_⟩,λ _=>⟨(),?_,⟨rfl,rfl,rfl,rfl,ag⟩,ag⟩⟩⟩,λ u2 _=>⟨?_,λ _ _=>⟨⟨0,?_,⟨?_,rfl,rfl,rfl,rfl,?_,ag⟩,ag⟩,λ k3 _=>have a0M:=ez (bV (aZ gg.aS) (aZ gg.aw)) zE x.U k3;have a0N:=eQ (bV (aZ gg.aS) (aZ gg.aw)) zE x.U k3;have a0O:=eJ (bV (aZ gg.aS) (aZ gg.aw)) x.U k3;have a4G:=cF zE x.U k3;have a7L:=nD ar zE x.U k3;have a7M:=eH ar x.U (k3+1);have a7N:=u6 ar x.U k3;have a7O:=pC bM zE x.U k3;have a7P:=ia bM x.U (k3+1);have a7Q:=yM bM x.U k3;have a6b:=uX gg (x.U.getD k3 zE) (bE - (1+(cV ar (x.U.take k3):Int))) (depth - 1);⟨λ _=>⟨?_,?_,?_,λ _=>⟨λ _=>⟨?_,?_⟩,λ _=>⟨?_,k3+1,?_,?_,⟨?_,rfl,rfl,rfl,rfl,?_,ag⟩,ag⟩⟩⟩,λ _=>⟨?_,?_⟩⟩⟩⟩⟩⟩⟩⟩⟩;all_goals try and_intros
 all_goals try (first|with_reducible rfl|with_reducible assumption)
 all_goals try simp only[J.eta,cu] at *
 all_goals ((try simp only[aZ] at *);generalize IntKind.wrap .i64 (gg.aS - 1)=T at *;generalize IntKind.wrap .i64 (gg.aw - 1)=A at *;first|rfl|trivial|(simp only[decide_eq_true_eq,decide_eq_false_iff_not,aI,av] at *;omega)|(rcases fs with ⟨t1,t2,t3,t4,t5⟩|⟨t1,t4,t5⟩<;>(try rw[t4])<;>(try rw[t5])<;>clear t4 t5<;>simp only[decide_eq_true_eq,decide_eq_false_iff_not,nr,Au,Bool.and_eq_true,Bool.and_eq_false_iff,Bool.not_eq_true',Bool.not_eq_false',av] at *<;>first|rfl|omega|grind|grind [cB]))
def E2 :∀ n,bu [mC n]
 | 0=>⟨⟨aH mw,λ _ _ _ _ h=>absurd h.1 (b1x _)⟩,ag⟩
 | n+1=>by
  have ih:=E2  n;exact⟨Nk n ⟨ih.1,Ix,vW,nT,ag⟩,ag⟩
def Iz :bc.Good C0 :=
 ⟨aH mw,λ gg x bE depth hp=>(E2  (bG x+1)).1.2 gg x bE depth (⟨b1b _,hp⟩)⟩
def SE(a n:Int):Bool:=decide (((Int.toNat (Int.fdiv a (2 ^ n.toNat)) &&& Int.toNat 1:Nat):Int)=1)
def Ri(k n a:Int)(p q:Bool):Bool:=if k=2 then true else if k=3 then SE a n else if k=5 then !p else if k=6 then p||q else if k=7 then p&&q else false
mutual
def fZ(a:Int):J->Bool
 | ⟨k,n,ks⟩=>Ri k n a ((DP a ks).getD 0 false) ((DP a ks).getD 1 false)
def DP(a:Int):List J->List Bool
 | []=>[]
 | k::ks=>fZ a k::DP a ks
end
def nE(a:Int)(z:J):∀ (xs:List J) (i:Nat),i<xs.length->(DP a xs).getD i false=fZ a (xs.getD i z)
 | [],i,h=>by simp at h
 | x::xs,0,h=>by simp[DP]
 | x::xs,i+1,h=>by
  have:=nE a z xs i (by simpa using h);simpa [DP] using this
def QD(a:Int)(x:J):fZ a x=Ri x.ah x.aX a ((DP a x.U).getD 0 false) ((DP a x.U).getD 1 false):=by
 cases x;rfl
def iD(x:J):Bool:=bV 62 62 x&&bD x
def ud(x:J)(i:Nat):Prop:=iD (x.U.getD i ⟨0,0,[]⟩)=true/\bG (x.U.getD i ⟨0,0,[]⟩)<bG x
def W1(x:J)(h:iD x=true)(i:Nat)(hi:i<x.U.length):ud x i:=by
 unfold ud;simp only[iD,Bool.and_eq_true] at h ⊢;rw[jH,oV] at h;simp only[Bool.and_eq_true] at h;refine⟨⟨xP _ _ _ _ hi h.1.2,xP _ _ _ _ hi h.2.2⟩,?_⟩;have:=cF (⟨0,0,[]⟩:J) x.U i hi;have:=gf x;omega
def zT(x:J)(h:iD x=true):(x.ah=3->0<=x.aX/\x.aX<=62) /\
  (x.ah=5->x.U.length=1/\ud x 0)/\((x.ah=6\/x.ah=7)->x.U.length=2/\ud x 0/\ud x 1) /\
  (x.ah=1\/x.ah=2\/x.ah=3\/x.ah=5\/x.ah=6\/x.ah=7):=by
 have hk:=W1 x h;simp only[iD,b0U] at h;rw[jH,oV,nr] at h;simp only[b0U,b0R] at h;obtain⟨⟨⟨⟨h1,h2⟩,_⟩,_⟩,h5,_⟩:=h;simp only[tM,b2m,b0R] at h5;refine⟨λ e=>?_,λ e=>?_,λ e=>?_,by omega⟩
 .simpa [Au,e] using h2
 .rw[e] at h1;have vB:x.U.length=1:=by simp[cB] at h1;omega
  exact⟨vB,hk 0 (by omega)⟩
 .have vB:x.U.length=2:=by
   rcases e with e|e<;>rw[e] at h1<;>simp[cB] at h1<;>omega
  exact⟨vB,hk 0 (by omega),hk 1 (by omega)⟩
def wZ(a:Int)(x:J)(h:iD x=true):(x.ah=1->fZ a x=false)/\(x.ah=2->fZ a x=true)/\(x.ah=3->fZ a x=SE a x.aX) /\
  (x.ah=5->fZ a x = !fZ a (x.U.getD 0 ⟨0,0,[]⟩))/\(x.ah=6->fZ a x=(fZ a (x.U.getD 0 ⟨0,0,[]⟩)||fZ a (x.U.getD 1 ⟨0,0,[]⟩))) /\
  (x.ah=7->fZ a x=(fZ a (x.U.getD 0 ⟨0,0,[]⟩)&&fZ a (x.U.getD 1 ⟨0,0,[]⟩))):=by
 have hf:=zT x h;rw[QD];refine⟨λ e=>?_,λ e=>?_,λ e=>?_,λ e=>?_,λ e=>?_,λ e=>?_⟩
 .simp[Ri,e]
 .simp[Ri,e]
 .simp[Ri,e]
 .have:=(hf.2.1 e).1;simp only[Ri,e];rw[nE a ⟨0,0,[]⟩ x.U 0 (by omega)];rfl
 .have:=(hf.2.2.1 (.inl e)).1;simp only[Ri,e];rw[nE a ⟨0,0,[]⟩ x.U 0 (by omega),nE a ⟨0,0,[]⟩ x.U 1 (by omega)];rfl
 .have:=(hf.2.2.1 (.inr e)).1;simp only[Ri,e];rw[nE a ⟨0,0,[]⟩ x.U 0 (by omega),nE a ⟨0,0,[]⟩ x.U 1 (by omega)];rfl
def Il(a n:Int)(h:0<=a/\a<=4096):0<=Int.fdiv a (2 ^ n.toNat)/\Int.fdiv a (2 ^ n.toNat)<=4096:=by
 have e:(2:Int) ^ n.toNat=((2 ^ n.toNat:Nat):Int):=by norm_cast
 have hp:0<2 ^ n.toNat:=Nat.pow_pos (by omega);rw[e,b4n _ (by omega)];refine⟨Int.ediv_nonneg h.1 (by omega),?_⟩;have:=Int.ediv_le_self (2 ^ n.toNat:Nat) h.1;omega
def we(n:Int):cD .u64 n=(0<=n/\n<=18446744073709551615):=rfl
theorem zj:IntKind.u64.min=0:=rfl
theorem zh:IntKind.u64.max=18446744073709551615:=rfl
def wb(n:Int):cD .i64 n=av n:=rfl
def om(n:Nat):bc:=⟨xG,[.v (.st .expr), .v (.int .i64)],λ (x:J) (atom:Int)=>⟨(some (bG x<n/\iD x=true/\0<=atom/\atom<=4096),[⟨.bool,fZ atom x⟩])⟩⟩
def xC:bc:=⟨xG,[.v (.st .expr), .v (.int .i64)],λ (x:J) (atom:Int)=>⟨(some (iD x=true/\0<=atom/\atom<=4096),[⟨.bool,fZ atom x⟩])⟩⟩
def Q5(x:J)(atom:Int):Nat->aP:=cw
abbrev AZ(n:Nat)(x:J)(atom:Int):Prop:=(let v0:=x.U.getD 1 zE;(x.U.length<=140737488355328 ->
 (aI (1:Int) x.U.length/\((bG v0<n/\iD v0=true/\0<=atom/\atom<=4096)/\(fZ atom v0)=(fZ atom x)))))
def PY(n:Nat)(hE:bu [om n]):bc.Good (om (n+1)):=by
 refine⟨aH nL,?_⟩;intro (x:J) (atom:Int) (hp:bG x<n+1/\iD x=true/\0<=atom/\atom<=4096);refine bf [om n] [] [] [2] hE nL J4 (Q5 x atom) (let v2:=atom.fdiv (2 ^ x.aX.toNat);let v3:=fZ atom x;let v4:=x.U.getD 0 zE;let v0:=bG v4<n/\iD v4=true/\0<=atom/\atom<=4096;let v1:=fZ atom v4;let v5:=(0:Int);((av x.ah->(((decide (x.ah=(2:Int)))=true->true=v3)/\((decide (x.ah=(2:Int)))=false->(((decide (x.ah=(3:Int)))=true->(av x.aX->((v5<=x.aX/\(x.aX<(64:Int)/\av v2))/\((v5<=v2/\(v5<=(1:Int)/\(av v2/\av (1:Int))))/\(decide ((((v2.toNat &&& (1:Int).toNat:Nat):Int))=(1:Int)))=v3))))/\((decide (x.ah=(3:Int)))=false->(((decide (x.ah=(5:Int)))=true->(x.U.length<=140737488355328->(aI v5 x.U.length/\(v0/\(!v1)=v3))))/\((decide (x.ah=(5:Int)))=false->(((decide (x.ah=(6:Int)))=true->(x.U.length<=140737488355328->(aI v5 x.U.length/\(v0/\((v1=false->(AZ n x atom))/\(v1=(!false)->true=v3))))))/\((decide (x.ah=(6:Int)))=false->(((decide (x.ah=(7:Int)))=true->(x.U.length<=140737488355328->(aI v5 x.U.length/\(v0/\((v1=true->(AZ n x atom))/\(v1=(!true)->false=v3))))))/\((decide (x.ah=(7:Int)))=false->false=v3))))))))))))) ?_;have f1:=zT x hp.2.1;have f2:=wZ atom x hp.2.1;have f3:=Il atom x.aX ⟨hp.2.2.1,hp.2.2.2⟩;refine λ _=>⟨λ _=>?_,λ _=>⟨λ _ _=>⟨⟨?_,?_,?_⟩,⟨?_,?_,?_,?_⟩,?_⟩,λ _=>⟨λ _ _=>⟨?_,?_,?_⟩,λ _=>⟨λ _ _=>⟨?_,?_,λ _ _=>⟨?_,?_,?_⟩,λ _=>?_⟩,λ _=>⟨λ _ _=>⟨?_,?_,λ _ _=>⟨?_,?_,?_⟩,λ _=>?_⟩,λ _=>?_⟩⟩⟩⟩⟩;all_goals try and_intros
 all_goals first|rfl|trivial|omega|(simp only[decide_eq_true_eq,decide_eq_false_iff_not,aI,av,we,wb,zj,zh] at *;omega)|(simp only[ud] at *;grind [aI,av,SE,zj,zh])
def HT :∀ n,bu [om n]
 | 0=>⟨⟨aH nL,λ _ _ h=>absurd h.1 (b1x _)⟩,ag⟩
 | n+1=>by
  have ih:=HT  n;exact⟨PY n ⟨ih.1,ag⟩,ag⟩
def Ki :bc.Good xC :=
 ⟨aH nL,λ x atom hp=>(HT  (bG x+1)).1.2 x atom (⟨b1b _,hp⟩)⟩
def lB(n:Nat):bc:=⟨rV,[.r (.st .expr), .v (.int .i64)],λ (x:J) (atom:Int)=>⟨(some (bG x<n/\iD x=true/\0<=atom/\atom<=4096),[⟨.bool,fZ atom x⟩])⟩⟩
def rL:bc:=⟨rV,[.r (.st .expr), .v (.int .i64)],λ (x:J) (atom:Int)=>⟨(some (iD x=true/\0<=atom/\atom<=4096),[⟨.bool,fZ atom x⟩])⟩⟩
def M4(x:J)(atom:Int):Nat->aP:=cw
abbrev wD(n:Nat)(x:J)(atom:Int):Prop:=(let v0:=x.U.getD 1 zE;(x.U.length<=140737488355328 ->
 (aI (1:Int) x.U.length/\((bG v0<n/\iD v0=true/\0<=atom/\atom<=4096)/\(fZ atom v0)=(fZ atom x)))))
def K6(n:Nat)(hE:bu [lB n]):bc.Good (lB (n+1)):=by
 refine⟨aH kY,?_⟩;intro (x:J) (atom:Int) (hp:bG x<n+1/\iD x=true/\0<=atom/\atom<=4096);refine bf [lB n] [] [] [] hE kY Gg (M4 x atom) (let v2:=atom.fdiv (2 ^ x.aX.toNat);let v3:=fZ atom x;let v4:=x.U.getD 0 zE;let v0:=bG v4<n/\iD v4=true/\0<=atom/\atom<=4096;let v1:=fZ atom v4;let v5:=(1:Int);let v6:=(0:Int);((av x.ah->(((decide (x.ah=v5))=true->false=v3)/\((decide (x.ah=v5))=false->(((decide (x.ah=(2:Int)))=true->true=v3)/\((decide (x.ah=(2:Int)))=false->(((decide (x.ah=(3:Int)))=true->(av x.aX->(cD .u64 x.aX/\((v6<=x.aX/\(x.aX<(64:Int)/\av v2))/\((v6<=v2/\(v6<=v5/\(av v2/\av v5)))/\(decide ((((v2.toNat &&& v5.toNat:Nat):Int))=v5))=v3)))))/\((decide (x.ah=(3:Int)))=false->(((decide (x.ah=(5:Int)))=true->(x.U.length<=140737488355328->(aI v6 x.U.length/\(v0/\(!v1)=v3))))/\((decide (x.ah=(5:Int)))=false->(((decide (x.ah=(6:Int)))=true->(x.U.length<=140737488355328->(aI v6 x.U.length/\(v0/\((v1=false->(wD n x atom))/\(v1=(!false)->true=v3))))))/\((decide (x.ah=(6:Int)))=false->(x.U.length<=140737488355328->(aI v6 x.U.length/\(v0/\((v1=true->(wD n x atom))/\(v1=(!true)->false=v3)))))))))))))))))) ?_;have f1:=zT x hp.2.1;have f2:=wZ atom x hp.2.1;have f3:=Il atom x.aX ⟨hp.2.2.1,hp.2.2.2⟩;refine λ _=>⟨λ _=>?_,λ _=>⟨λ _=>?_,λ _=>⟨λ _ _=>⟨?_,⟨?_,?_,?_⟩,⟨?_,?_,?_,?_⟩,?_⟩,λ _=>⟨λ _ _=>⟨?_,?_,?_⟩,λ _=>⟨λ _ _=>⟨?_,?_,λ _ _=>⟨?_,?_,?_⟩,λ _=>?_⟩,λ _ _=>⟨?_,?_,λ _ _=>⟨?_,?_,?_⟩,λ _=>?_⟩⟩⟩⟩⟩⟩;all_goals try and_intros
 all_goals first|rfl|trivial|omega|(simp only[decide_eq_true_eq,decide_eq_false_iff_not,aI,av,we,wb,zj,zh] at *;omega)|(simp only[ud] at *;grind [aI,av,SE,zj,zh])
def HU :∀ n,bu [lB n]
 | 0=>⟨⟨aH kY,λ _ _ h=>absurd h.1 (b1x _)⟩,ag⟩
 | n+1=>by
  have ih:=HU  n;exact⟨K6 n ⟨ih.1,ag⟩,ag⟩
def GM :bc.Good rL :=
 ⟨aH kY,λ x atom hp=>(HU  (bG x+1)).1.2 x atom (⟨b1b _,hp⟩)⟩
def bn(gg:aF):Int:=1 * 2 ^ gg.aS.toNat
def jc(gg:aF)(h:0<=gg.aS/\gg.aS<=3):1<=bn gg/\bn gg<=8:=by
 have:gg.aS=0\/gg.aS=1\/gg.aS=2\/gg.aS=3:=by omega
 unfold bn;rcases this with e|e|e|e<;>rw[e]<;>decide
def dy(gg:aF):bS gg=true↔(0<=gg.aS/\gg.aS<=3)/\(0<=gg.aw/\gg.aw<=4):=by
 simp[bS]
def gb(gg:aF)(x:J):Bool:=HC gg x 200 40
def dZ(gg:aF)(x:J):Bool:=bS gg&&gb gg x
def a1X(gg:aF)(x:J):gb gg x=true↔bV (aZ gg.aS) (aZ gg.aw) x=true/\ar x<=200/\bM x<=40:=by
 simp only[gb,HC,b0U,b0R];constructor
 .rintro⟨⟨a,b⟩,c⟩;exact⟨a,by omega,by omega⟩
 .rintro⟨a,b,c⟩;exact⟨⟨a,by omega⟩,by omega⟩
def U4(t a t' a':Int)(h1:t<=t')(h2:a<=a')(x:J)(h:nW t a x=true):nW t' a' x=true:=by
 rw[nr] at h ⊢;simp only[Bool.and_eq_true] at h ⊢;refine⟨⟨h.1.1,?_⟩,h.2⟩;have:=h.1.2;unfold Au at this ⊢;split
 .rename_i e;rw[b0T e] at this;simp only[b0R] at this ⊢;omega
 .rename_i e;rw[b0N e] at this;split
  .rename_i e';rw[b0T e'] at this;simp only[b0R] at this ⊢;omega
  .rename_i e';rw[b0N e'] at this;exact this
mutual
def DO(t a t' a':Int)(h1:t<=t')(h2:a<=a'):∀ x:J,bV t a x=true->bV t' a' x=true
 | ⟨k,n,ks⟩=>λ h=>by
  simp only[bV,b0U] at h ⊢;exact⟨U4 t a t' a' h1 h2 _ h.1,JJ t a t' a' h1 h2 ks h.2⟩
def JJ(t a t' a':Int)(h1:t<=t')(h2:a<=a'):∀ xs:List J,pY t a xs=true->pY t' a' xs=true
 | []=>λ _=>rfl
 | x::xs=>λ h=>by
  simp only[pY,b0U] at h ⊢;exact⟨DO t a t' a' h1 h2 x h.1,JJ t a t' a' h1 h2 xs h.2⟩
end
def jy:bc:=⟨Bh,[.v (.st .sig)],λ (gg:aF)=>⟨(some (0<=gg.aS/\gg.aS<=3),[⟨(.int .i64),bn gg⟩])⟩⟩
def MP(gg:aF):Nat->aP:=cw
def je:bc.Good jy:=by
 refine⟨aH xT,?_⟩;intro (gg:aF) (hp:0<=gg.aS/\gg.aS<=3);refine bf [] [] [] [1] trivial xT F3 (MP gg) (let v0:=(1:Int) * 2 ^ gg.aS.toNat;((av gg.aS->(((0:Int)<=gg.aS/\(gg.aS<(64:Int)/\av v0))/\v0=(bn gg))))) ?_;have f1:=jc gg hp;refine λ _=>⟨⟨?_,?_,?_⟩,?_⟩;all_goals try and_intros
 all_goals first|rfl|trivial|(simp only[b0R,b0Q,aI,av,we,wb,zj,zh,bn] at *;omega)
def iG:bc:=⟨yU,[.v (.st .sig)],λ (gg:aF)=>⟨(some (0<=gg.aS/\gg.aS<=3),[⟨(.int .i64),bn gg⟩])⟩⟩
def KO(gg:aF):Nat->aP:=cw
def im:bc.Good iG:=by
 refine⟨aH vR,?_⟩;intro (gg:aF) (hp:0<=gg.aS/\gg.aS<=3);refine bf [] [] [] [1] trivial vR Ey (KO gg) (let v0:=(1:Int) * 2 ^ gg.aS.toNat;((av gg.aS->(cD .u64 gg.aS/\(((0:Int)<=gg.aS/\(gg.aS<(64:Int)/\av v0))/\v0=(bn gg)))))) ?_;have f1:=jc gg hp;refine λ _=>⟨?_,⟨?_,?_,?_⟩,?_⟩;all_goals try and_intros
 all_goals first|rfl|trivial|(simp only[b0R,b0Q,aI,av,we,wb,zj,zh,bn] at *;omega)
def uB:bc:=⟨Di,[.v (.st .sig), .v (.st .expr)],λ (gg:aF) (x:J)=>⟨(none,[⟨.bool,gb gg x⟩])⟩⟩
def Pn(gg:aF)(x:J):Nat->aP:=cw
def vV:bc.Good uB:=by
 refine⟨aH AG,?_⟩;intro (gg:aF) (x:J) _;refine bf [C0] [] [] [2,3] ⟨Iz,ag⟩ AG HY (Pn gg x) (((0<=(200:Int)/\(200:Int)<=1048576/\0<=(40:Int)/\(40:Int)<=1048576)/\(av (Np gg x (200:Int) (40:Int))->(HC gg x (200:Int) (40:Int))=(gb gg x)))) ?_;refine⟨?_,λ _=>?_⟩;all_goals try and_intros
 all_goals first|rfl|trivial|omega|(simp only[b0R,b0Q,aI,av,cD,mJ,dH,bC] at *;omega)|(simp[aI,av] at *;omega)|grind
def xD:bc:=⟨FF,[.v (.st .sig), .r (.st .expr)],λ (gg:aF) (x:J)=>⟨(none,[⟨.bool,dZ gg x⟩])⟩⟩
def Q7(gg:aF)(x:J):Nat->aP:=cw
abbrev A0(gg:aF)(x:J):Prop:=(let v0:=decide (((bM x:Int))<=(40:Int));(bM x<=1048576/\(av ((bM x:Int)) ->
 ((v0=true ->
 (bV (aZ gg.aS) (aZ gg.aw) x)=(dZ gg x))/\(v0=(!true) ->
 false=(dZ gg x))))))
def yq:bc.Good xD:=by
 refine⟨aH Cc,?_⟩;intro (gg:aF) (x:J) _;refine bf [uF,A5,yK,A7] [] [] [2] ⟨vX,GI,EL,GL,ag⟩ Cc J6 (Q7 gg x) (let v0:=decide ((0:Int)<=(EZ (ar x) (200:Int)));let v1:=bV (aZ gg.aS) (aZ gg.aw) x;((((bS gg)=true->((0<=(200:Int)/\(200:Int)<=1048576)/\(av (EZ (ar x) (200:Int))->((v0=true->(A0 gg x))/\(v0=(!true)->((false=true->v1=(dZ gg x))/\(false=(!true)->false=(dZ gg x))))))))/\((bS gg)=(!true)->((false=true->(A0 gg x))/\(false=(!true)->((false=true->v1=(dZ gg x))/\(false=(!true)->false=(dZ gg x))))))))) ?_;have f1:=Eh (ar x) 200;have f2:=Ig x;have f3:dZ gg x=(bS gg&&(bV (aZ gg.aS) (aZ gg.aw) x&&decide ((ar x:Int)<=200)&&decide ((bM x:Int)<=40))):=rfl;refine⟨λ _=>⟨?_,λ _=>⟨λ _=>⟨?_,λ _=>⟨λ _=>?_,λ _=>?_⟩⟩,λ _=>⟨λ _=>?_,λ _=>?_⟩⟩⟩,λ _=>⟨λ _=>⟨?_,λ _=>⟨λ _=>?_,λ _=>?_⟩⟩,λ _=>⟨λ _=>?_,λ _=>?_⟩⟩⟩;all_goals try and_intros
 all_goals try rw[f3]
 all_goals first|rfl|trivial|omega|(simp only[b0R,b0Q,b1g,b1r] at *;omega)|grind
def mY:bc:=⟨uP,[.v (.st .sig), .v (.slice (.st .expr))],λ (gg:aF) (xs:List J)=>⟨(none,[⟨.bool,cM (gb gg) xs&&bS gg⟩])⟩⟩
def Hh(gg:aF)(xs:List J):Nat->aP:=(eR 0 (.b (Nat) (λ k=>k<=xs.length/\cM (gb gg) (xs.take k)=true) (λ k=>xs.length - k) [0,1] (λ k=>[(9, .aO ⟨(.int .i64),((k:Int):Int)⟩)])) cw)
def oN:bc.Good mY:=by
 refine⟨aH sg,?_⟩;intro (gg:aF) (xs:List J) _;refine bf [uB,yG] [] [] [2] ⟨vV,EF,ag⟩ sg BC (Hh gg xs) (let v0:=(xs.length:Int);((av v0->((∃ k1:Nat,((k1<=xs.length/\cM (gb gg) (xs.take k1)=true)/\((gg=gg/\(xs=xs/\(v0=v0/\((0:Int)=(k1:Int)/\True))))/\True)))/\(∀ k1:Nat,let v1 := !(gb gg (aQ (xs.getD k1 zE)));((k1<=xs.length/\cM (gb gg) (xs.take k1)=true)->(((decide ((k1:Int)<v0))=true->(aI (k1:Int) xs.length/\((v1=true->false=(cM (gb gg) xs&&bS gg))/\(v1=false->(av ((k1:Int)+(1:Int))/\(∃ k2:Nat,((k2<=xs.length/\cM (gb gg) (xs.take k2)=true)/\(xs.length - k2<xs.length - k1/\((gg=gg/\(xs=xs/\(v0=v0/\(((k1:Int)+(1:Int))=(k2:Int)/\True))))/\True)))))))))/\((decide ((k1:Int)<v0))=false->(bS gg)=(cM (gb gg) xs&&bS gg))))))))) ?_;have f1:=all_zero (gb gg) xs;refine λ _=>⟨⟨0,?_,⟨rfl,rfl,rfl,?_,ag⟩,ag⟩,λ k1 _=>have a7C:=ez (gb gg) zE xs k1;have a7D:=eQ (gb gg) zE xs k1;have a7E:=eJ (gb gg) xs k1;⟨λ _=>⟨?_,λ _=>?_,λ _=>⟨?_,k1+1,?_,?_,⟨rfl,rfl,rfl,?_,ag⟩,ag⟩⟩,λ _=>?_⟩⟩;all_goals try and_intros
 all_goals try (first|with_reducible rfl|with_reducible assumption)
 all_goals try simp only[J.eta,cu] at *
 all_goals first|rfl|trivial|(simp only[b0R,b0Q,aI,av] at *;omega)|(simp_all;done)|(simp_all [aI,av];omega)
end
end Go.Proofs.YtofnjfpeimhifaaGreatDoor

namespace Go.Proofs.YtofnjfpeimhifaaGreatDoor
open Go.RowKit Go.Proofs
def Uy:(Tryz.prog.info? 126).map (·.size)=some 2:=by kernel_rfl
def a0U:liesAt Tryz.prog Tryz.prog.depth 126 (2 / Tryz.prog.cellsOf 126) 0 126 1=true:=by kernel_rfl
def a0T:(Tryz.prog.info? 5).map (λ i=>(i.zero,i.size,i.bytes))=some (some (.int .u8 0),1,1):=by kernel_rfl
def iz(b:Nat)(w w':World):Prop:=∀ k cs T fz,w.heap[k]?=some (.cells cs T fz)->T≠5->k≠b->w'.heap[k]?=w.heap[k]?
def iz.refl(b:Nat)(w:World):iz b w w:=λ _ _ _ _ _ _ _=>rfl
def iz.trans{b:Nat}{w w1 w2:World}(h:iz b w w1)(k:iz b w1 w2):iz b w w2:=λ i cs T fz hi hT hb=>by
 have e:=h i cs T fz hi hT hb;rw[k i cs T fz (e.trans hi) hT hb,e]
def iz.setCell{b:Nat}{w w1:World}(h:iz b w w1)(o:Nat)(v:Value):iz b w (w1.setCell ⟨b,o,none⟩ v):=λ i cs T fz hi hT hb=>by
 rw[Below.heap_setCell w1 _ v i hb];exact h i cs T fz hi hT hb
def bA{w:World}{k:Nat}{x:Obj}(h:w.heap[k]?=some x):k<w.heap.size:=by
 rcases b1w k w.heap.size with h'|h'
 .exact h'
 .simp[b2f h'] at h
def iz.alloc{b:Nat}{w w1:World}(h:iz b w w1)(o:Obj):iz b w (w1.alloc o):=λ i cs T fz hi hT hb=>by
 have e:=h i cs T fz hi hT hb;rw[<-e];exact b2a w1 o i (bA (e.trans hi))
set_option maxRecDepth 100000 in
def Mw(b:Nat)(w:World)(h0:w.cell? ⟨b,0,none⟩=some (.pointer (some ⟨b,0,none⟩))) :
  Calls Tryz.prog 112 #[.pointer (some ⟨b,0,none⟩)] w λ e w'=>e = .returned (.tuple #[])/\w'=w:=by
 obtain⟨j,hj,_⟩:=b1s.1 Uy;go_enter Tryz.func112,Tryz.ntmps112;go_wp2;rw[Lib.run_neq_ptr_same w _ Tryz.underlying124 hj];go_wp2;go_end0;exact⟨rfl,rfl⟩
set_option maxRecDepth 100000 in
def J9(b:Nat)(w:World)(h0:w.cell? ⟨b,0,none⟩=some (.pointer none))(BR:w.shape? b=some (126,2))(hfz:w.frozen? ⟨b,0,none⟩=false) :
  Calls Tryz.prog 112 #[.pointer (some ⟨b,0,none⟩)] w λ e w'=>e = .returned (.tuple #[])/\w'=w.setCell ⟨b,0,none⟩ (.pointer (some ⟨b,0,none⟩)):=by
 obtain⟨j,hj,hjs⟩:=b1s.1 Uy;go_enter Tryz.func112,Tryz.ntmps112;go_wp2;rw[Lib.run_to_unsafe w ⟨b,0,none⟩ Tryz.underlying124 Tryz.underlying176 hj (by rw[hjs];decide) BR (Nat.zero_lt_succ 1)];simp only[Result.andThen];rw[b4a];go_wp2;rw[run_callFunc_extern Tryz.func128 (by kernel_rfl) (by kernel_rfl) (by kernel_rfl) (e:=Extern.AbiNoEscape.same) (by kernel_rfl)];rw[Lib.run_noEscape];simp only[Result.andThen];rw[b4a];go_wp2;rw[Lib.run_from_unsafe w ⟨b,0,none⟩ Tryz.underlying176 Tryz.underlying124 hj BR a0U];simp only[Result.andThen];rw[b4a];go_wp2;go_end0;exact⟨rfl,rfl⟩
def WN(B b:Nat)(bs:List Value)(w:World)(h:Lib.IsBuilder 126 5 B b bs w) :
  Calls Tryz.prog 112 #[.pointer (some ⟨b,0,none⟩)] w λ e w'=>e = .returned (.tuple #[])/\(Lib.BuilderAt 126 5 B b (.pointer (some ⟨b,0,none⟩)) bs w'/\Below B w w'/\iz b w w'):=by
 rcases h with h|h
 .refine (J9 b w h.cell0 h.shape h.frozen0).mono ?_;rintro e w' ⟨rfl,rfl⟩;exact⟨rfl,h.used _,(b2Q B w).setCell (p:=⟨b,0,none⟩) h.1 _,(iz.refl b w).setCell 0 _⟩
 .refine (Mw b w h.cell0).mono ?_;rintro e w' ⟨rfl,rfl⟩;exact⟨rfl,h,b2Q B _,iz.refl b _⟩
set_option maxRecDepth 100000 in
def writeString(B b:Nat)(bs:List Value)(s:ByteArray)(w:World)(h:Lib.IsBuilder 126 5 B b bs w)(hlen:bs.length+s.size<=140737488355328)(gZ:B<=w.heap.size) :
  Calls Tryz.prog 82 #[.pointer (some ⟨b,0,none⟩), .string s] w λ e w'=>e = .returned (.tuple #[.int .i64 s.size, .nilIface])/\(Lib.IsBuilder 126 5 B b (bs++Lib.strCells s) w'/\Below B w w'/\iz b w w'):=by
 obtain⟨i0,hi,hz⟩:=b1s.1 a0T;simp only[b0M] at hz;obtain⟨Q1,Kw,MJ⟩:=hz;go_enter Tryz.func82,Tryz.ntmps82;go_wp2_with (go_at_call 112;refine (WN B b bs _ h).mono ?_);rintro e w1 ⟨rfl,h1,ui,sR⟩;obtain⟨hB,v,W6,dM,dD⟩:=h1;have c0:w1.cell? ⟨b,0,none⟩=some (.pointer (some ⟨b,0,none⟩)):=by rw[b3h W6];rfl
 have c1:w1.cell? ⟨b,1,none⟩=some v:=by rw[b3h W6];rfl
 go_wp2_with (at_builtin;refine Lib.wpList_append_own_string _ rfl _ _ 22 9 rfl B 5 i0 Tryz.underlying22 Tryz.underlying9 hi Q1 Kw MJ _ _ _ rfl dM s rfl ?c3 ?c4 ?c5 ?_);case c3=>unfold maxLen;omega
 case c4=>omega
 case c5=>have:=ui.size;omega
 intro v' w2 a1O dr _;have bz:b<w1.heap.size:=bA W6;have GU:w2.heap[b]?=some (.cells #[.pointer (some ⟨b,0,none⟩),v] 126 (0,0)):=by
  rw[dr.block b bz (λ e=>dD e.symm)];exact W6
 have d0:w2.cell? ⟨b,0,none⟩=some (.pointer (some ⟨b,0,none⟩)):=by rw[b3h GU];rfl
 have d1:w2.cell? ⟨b,1,none⟩=some v:=by rw[b3h GU];rfl
 have f1:w2.frozen? ⟨b,1,none⟩=false:=Lib.frozen_of_heap GU 1;have hk2:iz b w1 w2:=λ i cs T fz hi hT hib=>dr.block i (bA hi) λ e=>by
  rcases dM.2 with ⟨hv,_⟩|⟨g,cap,cur,hv,_,hg,_⟩
  .rw[hv] at e;cases e
  .rw[hv] at e;injection e with e;subst e;rw[hg] at hi;simp only[b0J,Obj.cells.injEq] at hi;exact hT hi.2.1.symm
 obtain⟨ao,n',cap,rfl⟩:∃ ao n' cap,v' = .slice ao n' cap:=by
  rcases a1O.2 with ⟨hv,_⟩|⟨g,cap,cur,hv,_⟩
  .exact⟨_,_,_,hv⟩
  .exact⟨_,_,_,hv⟩
 go_wp2;go_ret2;refine⟨rfl,?_,?_,?_⟩
 .exact Or.inr (Lib.BuilderAt.put (T:=126) (e:=5) hB GU (bs':=bs++Lib.strCells s) (by simpa [Lib.strCells_length] using a1O) (by decide))
 .exact (ui.grown dr (by have:=ui.size;omega) (λ k hk=>(dM.lt k hk).1)).setCell (p:=⟨b,1,none⟩) hB _
 .exact (sR.trans hk2).setCell 1 _
end Go.Proofs.YtofnjfpeimhifaaGreatDoor

namespace Go.Proofs
open Go.Shelf
def Tryz.I3:Go.Shelf.Ren:=⟨λ|169=>84|n=>n,λ|70=>124|9=>9|0=>0|72=>126|37=>22|127=>158|3=>3|5=>5|n=>n,λ|n=>n⟩
def Tryz.a2e:Go.Proofs.Lays.n169 Tryz.prog Tryz.I3:={
 mixed:=by kernel_rfl
 f169:=Tryz.func84.trans (congrArg some (by kernel_rfl))
 t0:=Tryz.underlying0
 a0:=Tryz.isAgg0
 z0:=Tryz.sizeOf0
 v0:=Tryz.zeroValue0
 t3:=Tryz.underlying3
 a3:=Tryz.isAgg3
 z3:=Tryz.sizeOf3
 v3:=Tryz.zeroValue3
 t9:=Tryz.underlying9
 a9:=Tryz.isAgg9
 z9:=Tryz.sizeOf9
 v9:=Tryz.zeroValue9
 t37:=Tryz.underlying22
 a37:=Tryz.isAgg22
 z37:=Tryz.sizeOf22
 v37:=Tryz.zeroValue22
 t70:=Tryz.underlying124
 a70:=Tryz.isAgg124
 z70:=Tryz.sizeOf124
 v70:=Tryz.zeroValue124
 t72:=Tryz.underlying126
 a72:=Tryz.isAgg126
 z72:=Tryz.sizeOf126
 v72:=Tryz.zeroValue126
 t127:=Tryz.underlying158
 a127:=Tryz.isAgg158
 z127:=Tryz.sizeOf158
 v127:=Tryz.zeroValue158 }
def Tryz.FW:Builder.Extra Tryz.prog Tryz.I3:={
 sizeBuilder:=by kernel_rfl
 liesBuilder:=by kernel_rfl
 t5:=Tryz.underlying5
 a5:=Tryz.isAgg5
 z5:=Tryz.sizeOf5
 v5:=Tryz.zeroValue5
 infoByte:=by kernel_rfl
 cellsByte:=by kernel_rfl
 sizeByte:=by kernel_rfl
 neB5:=by decide }
open Go.RowKit in
def Tryz.Builder_String_any(B b:Nat)(l:List UInt8)(w:World)(h:Lib.IsBuilder 126 5 B b (Lib.byteCells l) w)(gZ:B<=w.heap.size) :
  Calls Tryz.prog 84 #[.pointer (some ⟨b,0,none⟩)] w λ e w'=>e = .returned (.string ⟨l.toArray⟩)/\Below B w w':=Any.Builder_String_any Tryz.a2e Tryz.FW B b l w h gZ
def Tryz.TG:Go.Shelf.Ren:=⟨λ|246=>129|283=>139|284=>140|285=>141|286=>142|129=>153|317=>157|318=>158|319=>159|320=>160|337=>166|338=>167|n=>n,λ|2=>2|3=>3|9=>9|4=>4|171=>183|0=>0|53=>97|37=>22|5=>5|173=>186|212=>205|51=>197|20=>20|213=>206|46=>134|232=>217|233=>218|n=>n,λ|17=>3|18=>4|19=>5|n=>n⟩
def Tryz.a2f:Go.Proofs.Lays.n246 Tryz.prog Tryz.TG:={
 mixed:=by kernel_rfl
 f129:=Tryz.func153.trans (congrArg some (by kernel_rfl))
 f246:=Tryz.func129.trans (congrArg some (by kernel_rfl))
 f283:=Tryz.func139.trans (congrArg some (by kernel_rfl))
 f284:=Tryz.func140.trans (congrArg some (by kernel_rfl))
 f285:=Tryz.func141.trans (congrArg some (by kernel_rfl))
 f286:=Tryz.func142.trans (congrArg some (by kernel_rfl))
 f317:=Tryz.func157.trans (congrArg some (by kernel_rfl))
 f318:=Tryz.func158.trans (congrArg some (by kernel_rfl))
 f319:=Tryz.func159.trans (congrArg some (by kernel_rfl))
 f320:=Tryz.func160.trans (congrArg some (by kernel_rfl))
 f337:=Tryz.func166.trans (congrArg some (by kernel_rfl))
 f338:=Tryz.func167.trans (congrArg some (by kernel_rfl))
 t0:=Tryz.underlying0
 a0:=Tryz.isAgg0
 z0:=Tryz.sizeOf0
 v0:=Tryz.zeroValue0
 t2:=Tryz.underlying2
 a2:=Tryz.isAgg2
 z2:=Tryz.sizeOf2
 v2:=Tryz.zeroValue2
 t3:=Tryz.underlying3
 a3:=Tryz.isAgg3
 z3:=Tryz.sizeOf3
 v3:=Tryz.zeroValue3
 t4:=Tryz.underlying4
 a4:=Tryz.isAgg4
 z4:=Tryz.sizeOf4
 v4:=Tryz.zeroValue4
 t5:=Tryz.underlying5
 a5:=Tryz.isAgg5
 z5:=Tryz.sizeOf5
 v5:=Tryz.zeroValue5
 t9:=Tryz.underlying9
 a9:=Tryz.isAgg9
 z9:=Tryz.sizeOf9
 v9:=Tryz.zeroValue9
 t20:=Tryz.underlying20
 a20:=Tryz.isAgg20
 z20:=Tryz.sizeOf20
 v20:=Tryz.zeroValue20
 t37:=Tryz.underlying22
 a37:=Tryz.isAgg22
 z37:=Tryz.sizeOf22
 v37:=Tryz.zeroValue22
 t46:=Tryz.underlying134
 a46:=Tryz.isAgg134
 z46:=Tryz.sizeOf134
 v46:=Tryz.zeroValue134
 t51:=Tryz.underlying197
 a51:=Tryz.isAgg197
 z51:=Tryz.sizeOf197
 v51:=Tryz.zeroValue197
 t53:=Tryz.underlying97
 a53:=Tryz.isAgg97
 z53:=Tryz.sizeOf97
 v53:=Tryz.zeroValue97
 t171:=Tryz.underlying183
 a171:=Tryz.isAgg183
 z171:=Tryz.sizeOf183
 v171:=Tryz.zeroValue183
 t173:=Tryz.underlying186
 a173:=Tryz.isAgg186
 z173:=Tryz.sizeOf186
 v173:=Tryz.zeroValue186
 t212:=Tryz.underlying205
 a212:=Tryz.isAgg205
 z212:=Tryz.sizeOf205
 v212:=Tryz.zeroValue205
 t213:=Tryz.underlying206
 a213:=Tryz.isAgg206
 z213:=Tryz.sizeOf206
 t232:=Tryz.underlying217
 a232:=Tryz.isAgg217
 z232:=Tryz.sizeOf217
 v232:=Tryz.zeroValue217
 t233:=Tryz.underlying218
 a233:=Tryz.isAgg218
 z233:=Tryz.sizeOf218
 v233:=Tryz.zeroValue218
 g17:=by kernel_rfl
 g18:=by kernel_rfl
 g19:=by kernel_rfl }
open Go.RowKit Go.Sort Go.Lib in
def Tryz.internal_strconv_FormatInt_10_small(i:Nat)(hi:i<100)(w:World) :
  Calls Tryz.prog 129 #[.int .i64 i, .int .i64 10] w λ e w'=>e = .returned (.string ⟨(Lib.decDigits i).toArray⟩)/\w'=w:=Any.internal_strconv_FormatInt_10_small Tryz.a2f i hi w
end Go.Proofs

namespace Go.Proofs.YtofnjfpeimhifaaGreatDoor
open Go.RowKit Go.Proofs
def Od{B b:Nat}{p:Value}{bs:List Value}{w:World}(h:Lib.BuilderAt 126 5 B b p bs w)(o:Obj):Lib.BuilderAt 126 5 B b p bs (w.alloc o):=by
 obtain⟨hB,v,hb,dM,dD⟩:=h;exact⟨hB,v,by rw[b2a w o b (bA hb)];exact hb,dM.alloc _,dD⟩
abbrev sN(B b:Nat)(l:List UInt8)(w:World):Prop:=Lib.IsBuilder 126 5 B b (Lib.byteCells l) w
def kv{B b:Nat}{l:List UInt8}{w:World}(h:sN B b l w)(o:Obj):sN B b l (w.alloc o):=h.imp (λ h=>Od h o) (λ h=>Od h o)
def IW{B b:Nat}{l:List UInt8}{w:World}(h:sN B b l w):b<w.heap.size:=by
 rcases h with h|h<;>exact h.lt
def nm{B:Nat}{w:World}(h:B<=w.heap.size)(o:Obj):B<=(w.alloc o).heap.size:=by simp;omega
def yd{b:Nat}{w w1:World}{cs:Array Value}(h:iz b (w.alloc (.cells cs 28)) w1)(hb:b<w.heap.size)(j:Nat){v:Value}(hj:cs[j]?=some v):w1.cell? ⟨w.heap.size,j,none⟩=some v:=by
 have e:=h w.heap.size cs 28 (0,0) (b2g w _) (by decide) (by omega);rw[b3u (a:=⟨w.heap.size,j,none⟩) e,b3h (b2g w _)];exact hj
structure Wr(B b:Nat)(l t:List UInt8)(w w':World):Prop where
 Kz:sN B b (l++t) w'
 cW:Below B w w'
 aM:iz b w w'
def Wr.trans{B b:Nat}{l t u:List UInt8}{w w1 w2:World}(h:Wr B b l t w w1)(k:Wr B b (l++t) u w1 w2):Wr B b l (t++u) w w2 :=
 ⟨by rw[<-b1o];exact k.Kz,h.cW.trans k.cW,h.aM.trans k.aM⟩
def Wr.alloc{B b:Nat}{l t:List UInt8}{w w1:World}{o:Obj}(h:Wr B b l t (w.alloc o) w1)(gZ:B<=w.heap.size):Wr B b l t w w1 :=
 ⟨h.Kz,((b2Q B w).alloc gZ _).trans h.cW,((iz.refl b w).alloc _).trans h.aM⟩
def ws(B b:Nat)(l:List UInt8)(s:ByteArray)(w:World)(h:sN B b l w)(hlen:l.length+s.data.toList.length<=140737488355328)(gZ:B<=w.heap.size) :
  Calls Tryz.prog 82 #[.pointer (some ⟨b,0,none⟩), .string s] w λ e w'=>e = .returned (.tuple #[.int .i64 s.size, .nilIface])/\Wr B b l s.data.toList w w':=by
 refine (writeString B b _ s w h (by simpa [Lib.byteCells_length] using hlen) gZ).mono ?_;rintro e w' ⟨rfl,h1,h2,h3⟩;refine⟨rfl,?_,h2,h3⟩;have:Lib.byteCells l++Lib.strCells s=Lib.byteCells (l++s.data.toList):=by simp[Lib.byteCells,Lib.strCells]
 rw[sN,<-this];exact h1
abbrev Ep(B b:Nat)(v:Value)(l t:List UInt8)(w:World):Prop :=
 Calls Tryz.prog 108 #[.pointer (some ⟨b,0,none⟩),v] w λ e w'=>e = .returned (.tuple #[])/\Wr B b l t w w'
set_option maxRecDepth 100000 in
def Kf(i:Nat)(hi:i<100)(w:World) :
  Calls Tryz.prog 113 #[.int .i64 i, .int .i64 10] w λ e w'=>e = .returned (.string ⟨(Lib.decDigits i).toArray⟩)/\w'=w:=by
 go_enter Tryz.func113,Tryz.ntmps113;go_wp2_with (go_at_call 129;refine (Tryz.internal_strconv_FormatInt_10_small i hi _).mono ?_);rintro e w1 ⟨he,hw⟩;subst he hw;go_wp2;go_ret;exact⟨rfl,rfl⟩
set_option maxRecDepth 100000 in
def Cn(i:Nat)(hi:i<100)(w:World) :
  Calls Tryz.prog 83 #[.int .i64 i] w λ e w'=>e = .returned (.string ⟨(Lib.decDigits i).toArray⟩)/\w'=w:=by
 go_enter Tryz.func83,Tryz.ntmps83;go_wp2_with (go_at_call 113;refine (Kf i hi _).mono ?_);rintro e w1 ⟨he,hw⟩;subst he hw;go_wp2;go_ret;exact⟨rfl,rfl⟩
set_option maxRecDepth 100000 in
def we1(B b:Nat)(l:List UInt8)(n:Int)(sl:Value)(w:World)(h:sN B b l w)(hlen:l.length+1<=140737488355328)(gZ:B<=w.heap.size) :
  Ep B b (.agg #[.int .i64 1, .int .i64 n,sl]) l [48] w:=by
 go_enter Tryz.func108,Tryz.ntmps108;go_wp2_with (go_at_call 82;refine (ws B b l _ _ (kv h _) (by exact hlen) (nm gZ _)).mono ?_);intro e w1 he h1;subst he;go_wp2;go_end0;exact⟨rfl,h1.alloc gZ⟩
set_option maxRecDepth 100000 in
def we2(B b:Nat)(l:List UInt8)(n:Int)(sl:Value)(w:World)(h:sN B b l w)(hlen:l.length+1<=140737488355328)(gZ:B<=w.heap.size) :
  Ep B b (.agg #[.int .i64 2, .int .i64 n,sl]) l [49] w:=by
 go_enter Tryz.func108,Tryz.ntmps108;go_wp2_with (go_at_call 82;refine (ws B b l _ _ (kv h _) (by exact hlen) (nm gZ _)).mono ?_);intro e w1 he h1;subst he;go_wp2;go_end0;exact⟨rfl,h1.alloc gZ⟩
set_option maxRecDepth 100000 in
def we3(B b:Nat)(l:List UInt8)(i:Nat)(hi:i<100)(sl:Value)(w:World)(h:sN B b l w)(hlen:l.length+((Lib.decDigits i).length+1)<=140737488355328)(gZ:B<=w.heap.size) :
  Ep B b (.agg #[.int .i64 3, .int .i64 i,sl]) l (116::Lib.decDigits i) w:=by
 go_enter Tryz.func108,Tryz.ntmps108;go_wp2_with (go_at_call 83;refine (Cn i hi _).mono ?_);rintro e w1 ⟨he,hw⟩;subst he hw;go_wp2_with (go_at_call 82;refine (ws B b l _ _ (kv h _) (by simp;omega) (nm gZ _)).mono ?_);rintro e w1 ⟨he,h1⟩;subst he;go_wp2;go_end0;exact⟨rfl,by simpa using h1.alloc gZ⟩
set_option maxRecDepth 100000 in
def we4(B b:Nat)(l:List UInt8)(i:Nat)(hi:i<100)(sl:Value)(w:World)(h:sN B b l w)(hlen:l.length+((Lib.decDigits i).length+1)<=140737488355328)(gZ:B<=w.heap.size) :
  Ep B b (.agg #[.int .i64 4, .int .i64 i,sl]) l (97::Lib.decDigits i) w:=by
 go_enter Tryz.func108,Tryz.ntmps108;go_wp2_with (go_at_call 83;refine (Cn i hi _).mono ?_);rintro e w1 ⟨he,hw⟩;subst he hw;go_wp2_with (go_at_call 82;refine (ws B b l _ _ (kv h _) (by simp;omega) (nm gZ _)).mono ?_);rintro e w1 ⟨he,h1⟩;subst he;go_wp2;go_end0;exact⟨rfl,by simpa using h1.alloc gZ⟩
set_option maxRecDepth 100000 in
def we5(B b:Nat)(l t:List UInt8)(n:Int)(kb ko cap:Nat)(c0 c1 c2:Value)(w:World)(h:sN B b l w)(hlen:l.length+(t.length+1)<=140737488355328)(gZ:B<=w.heap.size)
  (qp:∀ w1,Below B w w1->∀ j v,[c0,c1,c2][j]?=some v->w1.cell? ⟨kb,ko+0+j,none⟩=some v)
  (Xo:∀ w1 l1,Below B w w1->sN B b l1 w1->B<=w1.heap.size->l1.length+t.length<=140737488355328->Ep B b (.agg #[c0,c1,c2]) l1 t w1)
  : Ep B b (.agg #[.int .i64 5, .int .i64 n, .slice (some ⟨kb,ko,none⟩) 1 cap]) l (126::t) w:=by
 go_enter Tryz.func108,Tryz.ntmps108;go_wp2_with (go_at_call 82;refine (ws B b l _ _ (kv h _) (by simp;omega) (nm gZ _)).mono ?_);intro e w1 he h1;subst he;have c2':=yd h1.aM (IW h) 2 rfl;have q00:w1.cell? ⟨kb,ko,none⟩=some c0:=by simpa [Nat.add_assoc] using qp w1 (h1.alloc gZ).cW 0 _ rfl
 have q01:w1.cell? ⟨kb,ko+1,none⟩=some c1:=by simpa [Nat.add_assoc] using qp w1 (h1.alloc gZ).cW 1 _ rfl
 have q02:w1.cell? ⟨kb,ko+2,none⟩=some c2:=by simpa [Nat.add_assoc] using qp w1 (h1.alloc gZ).cW 2 _ rfl
 go_wp2_with (go_at_call 108;refine (Xo w1 _ (h1.alloc gZ).cW h1.Kz (by have:=(h1.alloc gZ).cW.size;omega) (by simp;omega)).mono ?_);rintro e w2 ⟨he,h2⟩;subst he;go_wp2;go_end0;exact⟨rfl,((h1.alloc gZ).trans h2)⟩
set_option maxRecDepth 100000 in
def we8(B b:Nat)(l t:List UInt8)(n:Int)(kb ko cap:Nat)(c0 c1 c2:Value)(w:World)(h:sN B b l w)(hlen:l.length+(t.length+1)<=140737488355328)(gZ:B<=w.heap.size)
  (qp:∀ w1,Below B w w1->∀ j v,[c0,c1,c2][j]?=some v->w1.cell? ⟨kb,ko+0+j,none⟩=some v)
  (Xo:∀ w1 l1,Below B w w1->sN B b l1 w1->B<=w1.heap.size->l1.length+t.length<=140737488355328->Ep B b (.agg #[c0,c1,c2]) l1 t w1)
  : Ep B b (.agg #[.int .i64 8, .int .i64 n, .slice (some ⟨kb,ko,none⟩) 1 cap]) l (t++[42]) w:=by
 have CG:Below B w (w.alloc (.cells #[.int .i64 8, .int .i64 n, .slice (some ⟨kb,ko,none⟩) 1 cap] 28)):=(Below.refl B w).alloc gZ _;have q00:(w.alloc (.cells #[.int .i64 8, .int .i64 n, .slice (some ⟨kb,ko,none⟩) 1 cap] 28)).cell? ⟨kb,ko,none⟩=some c0:=by simpa [Nat.add_assoc] using qp (w.alloc (.cells #[.int .i64 8, .int .i64 n, .slice (some ⟨kb,ko,none⟩) 1 cap] 28)) CG 0 _ rfl
 have q01:(w.alloc (.cells #[.int .i64 8, .int .i64 n, .slice (some ⟨kb,ko,none⟩) 1 cap] 28)).cell? ⟨kb,ko+1,none⟩=some c1:=by simpa [Nat.add_assoc] using qp (w.alloc (.cells #[.int .i64 8, .int .i64 n, .slice (some ⟨kb,ko,none⟩) 1 cap] 28)) CG 1 _ rfl
 have q02:(w.alloc (.cells #[.int .i64 8, .int .i64 n, .slice (some ⟨kb,ko,none⟩) 1 cap] 28)).cell? ⟨kb,ko+2,none⟩=some c2:=by simpa [Nat.add_assoc] using qp (w.alloc (.cells #[.int .i64 8, .int .i64 n, .slice (some ⟨kb,ko,none⟩) 1 cap] 28)) CG 2 _ rfl
 go_enter Tryz.func108,Tryz.ntmps108;go_wp2_with (go_at_call 108;refine (Xo _ _ CG (kv h _) (nm gZ _) (by omega)).mono ?_);rintro e w1 ⟨he,h1⟩;subst he;go_wp2_with (go_at_call 82;refine (ws B b _ _ _ h1.Kz (by simp;omega) (by have:=(h1.alloc gZ).cW.size;omega)).mono ?_);intro e w2 he h2;subst he;go_wp2;go_end0;exact⟨rfl,((h1.alloc gZ).trans h2)⟩
set_option maxRecDepth 100000 in
def we6(B b:Nat)(l t u:List UInt8)(n:Int)(kb ko cap:Nat)(c0 c1 c2 d0 d1 d2:Value)(w:World)(h:sN B b l w)(hlen:l.length+(t.length+u.length+5)<=140737488355328)(gZ:B<=w.heap.size)
  (qp:∀ w1,Below B w w1->∀ j v,[c0,c1,c2][j]?=some v->w1.cell? ⟨kb,ko+0+j,none⟩=some v)
  (Xo:∀ w1 l1,Below B w w1->sN B b l1 w1->B<=w1.heap.size->l1.length+t.length<=140737488355328->Ep B b (.agg #[c0,c1,c2]) l1 t w1)
  (sR:∀ w1,Below B w w1->∀ j v,[d0,d1,d2][j]?=some v->w1.cell? ⟨kb,ko+3+j,none⟩=some v)
  (ih1:∀ w1 l1,Below B w w1->sN B b l1 w1->B<=w1.heap.size->l1.length+u.length<=140737488355328->Ep B b (.agg #[d0,d1,d2]) l1 u w1)
  : Ep B b (.agg #[.int .i64 6, .int .i64 n, .slice (some ⟨kb,ko,none⟩) 2 cap]) l ([40]++(t++([32,43,32]++(u++[41])))) w:=by
 go_enter Tryz.func108,Tryz.ntmps108;go_wp2_with (go_at_call 82;refine (ws B b l _ _ (kv h _) (by simp;omega) (nm gZ _)).mono ?_);intro e w1 he h1;subst he;have e1:=yd h1.aM (IW h) 2 rfl;have q00:w1.cell? ⟨kb,ko,none⟩=some c0:=by simpa [Nat.add_assoc] using qp w1 (h1.alloc gZ).cW 0 _ rfl
 have q01:w1.cell? ⟨kb,ko+1,none⟩=some c1:=by simpa [Nat.add_assoc] using qp w1 (h1.alloc gZ).cW 1 _ rfl
 have q02:w1.cell? ⟨kb,ko+2,none⟩=some c2:=by simpa [Nat.add_assoc] using qp w1 (h1.alloc gZ).cW 2 _ rfl
 have g1:=h1.alloc gZ;have s1:B<=w1.heap.size:=by have:=g1.cW.size;omega
 go_wp2_with (go_at_call 108;refine (Xo w1 _ g1.cW h1.Kz s1 (by simp;omega)).mono ?_);rintro e w2 ⟨he,h2⟩;subst he;have s2:B<=w2.heap.size:=by have:=h2.cW.size;omega
 go_wp2_with (go_at_call 82;refine (ws B b _ _ _ h2.Kz (by simp;omega) s2).mono ?_);intro e w3 he h3;subst he;have e3:=yd (h1.aM.trans (h2.aM.trans h3.aM)) (IW h) 2 rfl;have g3:=g1.cW.trans (h2.cW.trans h3.cW);have q10:w3.cell? ⟨kb,ko+3,none⟩=some d0:=by simpa [Nat.add_assoc] using sR w3 g3 0 _ rfl
 have q11:w3.cell? ⟨kb,ko+4,none⟩=some d1:=by simpa [Nat.add_assoc] using sR w3 g3 1 _ rfl
 have q12:w3.cell? ⟨kb,ko+5,none⟩=some d2:=by simpa [Nat.add_assoc] using sR w3 g3 2 _ rfl
 have s3:B<=w3.heap.size:=by have:=h3.cW.size;omega
 go_wp2_with (go_at_call 108;refine (ih1 w3 _ g3 h3.Kz s3 (by simp;omega)).mono ?_);rintro e w4 ⟨he,h4⟩;subst he;have s4:B<=w4.heap.size:=by have:=h4.cW.size;omega
 go_wp2_with (go_at_call 82;refine (ws B b _ _ _ h4.Kz (by simp;omega) s4).mono ?_);intro e w5 he h5;subst he;go_wp2;go_end0;have j2:Wr B b (l++[40]) t w1 w2:=by simpa using h2
 have j3:Wr B b (l++[40]++t) [32,43,32] w2 w3:=by simpa using h3
 have j4:Wr B b (l++[40]++t++[32,43,32]) u w3 w4:=by simpa using h4
 have j5:Wr B b (l++[40]++t++[32,43,32]++u) [41] w4 w5:=by simpa using h5
 exact⟨rfl,g1.trans (j2.trans (j3.trans (j4.trans j5)))⟩
set_option maxRecDepth 100000 in
def we7(B b:Nat)(l t u:List UInt8)(n:Int)(kb ko cap:Nat)(c0 c1 c2 d0 d1 d2:Value)(w:World)(h:sN B b l w)(hlen:l.length+(t.length+u.length+3)<=140737488355328)(gZ:B<=w.heap.size)
  (qp:∀ w1,Below B w w1->∀ j v,[c0,c1,c2][j]?=some v->w1.cell? ⟨kb,ko+0+j,none⟩=some v)
  (Xo:∀ w1 l1,Below B w w1->sN B b l1 w1->B<=w1.heap.size->l1.length+t.length<=140737488355328->Ep B b (.agg #[c0,c1,c2]) l1 t w1)
  (sR:∀ w1,Below B w w1->∀ j v,[d0,d1,d2][j]?=some v->w1.cell? ⟨kb,ko+3+j,none⟩=some v)
  (ih1:∀ w1 l1,Below B w w1->sN B b l1 w1->B<=w1.heap.size->l1.length+u.length<=140737488355328->Ep B b (.agg #[d0,d1,d2]) l1 u w1)
  : Ep B b (.agg #[.int .i64 7, .int .i64 n, .slice (some ⟨kb,ko,none⟩) 2 cap]) l ([40]++(t++([32]++(u++[41])))) w:=by
 go_enter Tryz.func108,Tryz.ntmps108;go_wp2_with (go_at_call 82;refine (ws B b l _ _ (kv h _) (by simp;omega) (nm gZ _)).mono ?_);intro e w1 he h1;subst he;have e1:=yd h1.aM (IW h) 2 rfl;have q00:w1.cell? ⟨kb,ko,none⟩=some c0:=by simpa [Nat.add_assoc] using qp w1 (h1.alloc gZ).cW 0 _ rfl
 have q01:w1.cell? ⟨kb,ko+1,none⟩=some c1:=by simpa [Nat.add_assoc] using qp w1 (h1.alloc gZ).cW 1 _ rfl
 have q02:w1.cell? ⟨kb,ko+2,none⟩=some c2:=by simpa [Nat.add_assoc] using qp w1 (h1.alloc gZ).cW 2 _ rfl
 have g1:=h1.alloc gZ;have s1:B<=w1.heap.size:=by have:=g1.cW.size;omega
 go_wp2_with (go_at_call 108;refine (Xo w1 _ g1.cW h1.Kz s1 (by simp;omega)).mono ?_);rintro e w2 ⟨he,h2⟩;subst he;have s2:B<=w2.heap.size:=by have:=h2.cW.size;omega
 go_wp2_with (go_at_call 82;refine (ws B b _ _ _ h2.Kz (by simp;omega) s2).mono ?_);intro e w3 he h3;subst he;have e3:=yd (h1.aM.trans (h2.aM.trans h3.aM)) (IW h) 2 rfl;have g3:=g1.cW.trans (h2.cW.trans h3.cW);have q10:w3.cell? ⟨kb,ko+3,none⟩=some d0:=by simpa [Nat.add_assoc] using sR w3 g3 0 _ rfl
 have q11:w3.cell? ⟨kb,ko+4,none⟩=some d1:=by simpa [Nat.add_assoc] using sR w3 g3 1 _ rfl
 have q12:w3.cell? ⟨kb,ko+5,none⟩=some d2:=by simpa [Nat.add_assoc] using sR w3 g3 2 _ rfl
 have s3:B<=w3.heap.size:=by have:=h3.cW.size;omega
 go_wp2_with (go_at_call 108;refine (ih1 w3 _ g3 h3.Kz s3 (by simp;omega)).mono ?_);rintro e w4 ⟨he,h4⟩;subst he;have s4:B<=w4.heap.size:=by have:=h4.cW.size;omega
 go_wp2_with (go_at_call 82;refine (ws B b _ _ _ h4.Kz (by simp;omega) s4).mono ?_);intro e w5 he h5;subst he;go_wp2;go_end0;have j2:Wr B b (l++[40]) t w1 w2:=by simpa using h2
 have j3:Wr B b (l++[40]++t) [32] w2 w3:=by simpa using h3
 have j4:Wr B b (l++[40]++t++[32]) u w3 w4:=by simpa using h4
 have j5:Wr B b (l++[40]++t++[32]++u) [41] w4 w5:=by simpa using h5
 exact⟨rfl,g1.trans (j2.trans (j3.trans (j4.trans j5)))⟩
end Go.Proofs.YtofnjfpeimhifaaGreatDoor

namespace Go.Proofs.YtofnjfpeimhifaaGreatDoor
noncomputable section
open Go.RowKit Go.Proofs
def mi(n:Int):List UInt8:=Lib.decDigits n.toNat
def Rk(k n:Int)(p q:List UInt8):List UInt8:=if k=1 then [48] else if k=2 then [49] else if k=3 then 116::mi n else if k=4 then 97::mi n else if k=5 then 126::p
 else if k=6 then [40]++(p++([32,43,32]++(q++[41]))) else if k=7 then [40]++(p++([32]++(q++[41]))) else p++[42]
mutual
def bH:J->List UInt8
 | ⟨k,n,ks⟩=>Rk k n ((Mn ks).getD 0 []) ((Mn ks).getD 1 [])
def Mn:List J->List (List UInt8)
 | []=>[]
 | k::ks=>bH k::Mn ks
end
def nh(z:J):∀ (xs:List J) (i:Nat),i<xs.length->(Mn xs).getD i []=bH (xs.getD i z)
 | [],i,h=>by simp at h
 | x::xs,0,h=>by simp[Mn]
 | x::xs,i+1,h=>by
  have:=nh z xs i (by simpa using h);simpa [Mn] using this
def a4u(x:J):bH x=Rk x.ah x.aX ((Mn x.U).getD 0 []) ((Mn x.U).getD 1 []):=by
 cases x;rfl
def aA(x:J):Bool:=bV 9 9 x
def DZ(x:J)(i:Nat):Prop:=aA (x.U.getD i zE)=true/\bG (x.U.getD i zE)<bG x
def W2(x:J)(h:aA x=true)(i:Nat)(hi:i<x.U.length):DZ x i:=by
 unfold DZ;simp only[aA] at h ⊢;rw[jH] at h;simp only[Bool.and_eq_true] at h;refine⟨xP _ _ _ _ hi h.2,?_⟩;have:=cF (zE:J) x.U i hi;have:=gf x;omega
def dO(x:J)(h:aA x=true):((x.ah=3\/x.ah=4)->0<=x.aX/\x.aX<=9) /\
  ((x.ah=5\/x.ah=8)->x.U.length=1/\DZ x 0)/\((x.ah=6\/x.ah=7)->x.U.length=2/\DZ x 0/\DZ x 1) /\
  (x.ah=1\/x.ah=2\/x.ah=3\/x.ah=4\/x.ah=5\/x.ah=6\/x.ah=7\/x.ah=8):=by
 have hk:=W2 x h;simp only[aA] at h;rw[jH,nr] at h;simp only[b0U,b0R] at h;obtain⟨⟨⟨h1,h2⟩,_⟩,_⟩:=h;refine⟨λ e=>?_,λ e=>?_,λ e=>?_,?_⟩
 .rcases e with e|e<;>simpa [Au,e] using h2
 .have vB:x.U.length=1:=by
   rcases e with e|e<;>rw[e] at h1<;>simp[cB] at h1<;>omega
  exact⟨vB,hk 0 (by omega)⟩
 .have vB:x.U.length=2:=by
   rcases e with e|e<;>rw[e] at h1<;>simp[cB] at h1<;>omega
  exact⟨vB,hk 0 (by omega),hk 1 (by omega)⟩
 .unfold cB at h1;split at h1
  .omega
  .split at h1
   .omega
   .split at h1<;>omega
def dT(x:J)(h:aA x=true):(x.ah=1->bH x=[48])/\(x.ah=2->bH x=[49])/\(x.ah=3->bH x=116::mi x.aX)/\(x.ah=4->bH x=97::mi x.aX) /\
  (x.ah=5->bH x=126::bH (x.U.getD 0 zE)) /\
  (x.ah=6->bH x=[40]++(bH (x.U.getD 0 zE)++([32,43,32]++(bH (x.U.getD 1 zE)++[41])))) /\
  (x.ah=7->bH x=[40]++(bH (x.U.getD 0 zE)++([32]++(bH (x.U.getD 1 zE)++[41])))) /\
  (x.ah=8->bH x=bH (x.U.getD 0 zE)++[42]):=by
 have hf:=dO x h;rw[a4u];refine⟨λ e=>?_,λ e=>?_,λ e=>?_,λ e=>?_,λ e=>?_,λ e=>?_,λ e=>?_,λ e=>?_⟩
 .simp[Rk,e]
 .simp[Rk,e]
 .simp[Rk,e]
 .simp[Rk,e]
 .have:=(hf.2.1 (.inl e)).1;rw[nh zE x.U 0 (by omega)];simp[Rk,e]
 .have:=(hf.2.2.1 (.inl e)).1;rw[nh zE x.U 0 (by omega),nh zE x.U 1 (by omega)];simp[Rk,e]
 .have:=(hf.2.2.1 (.inr e)).1;rw[nh zE x.U 0 (by omega),nh zE x.U 1 (by omega)];simp[Rk,e]
 .have:=(hf.2.1 (.inr e)).1;rw[nh zE x.U 0 (by omega)];simp[Rk,e]
def Cp(n:Int)(h:0<=n/\n<=9):(mi n).length=1:=by
 unfold mi;rw[Lib.decDigits_one (by omega)];rfl
def a3m(f:J->Nat)(z:J)(xs:List J)(h:xs.length=2):cV f xs=f (xs.getD 0 z)+f (xs.getD 1 z):=by
 match xs,h with
 | [a,b],_=>simp[cV]
def a3l(f:J->Nat)(z:J)(xs:List J)(h:xs.length=1):cV f xs=f (xs.getD 0 z):=by
 match xs,h with
 | [a],_=>simp[cV]
def vy:∀ (N:Nat) (x:J),bG x<N->aA x=true->(bH x).length<=5 * ar x
 | 0,x,h,_=>by omega
 | N+1,x,hN,h=>by
  have hf:=dO x h;have ht:=dT x h;have hn:=ib x;rcases hf.2.2.2 with e|e|e|e|e|e|e|e
  .rw[ht.1 e];simp;omega
  .rw[ht.2.1 e];simp;omega
  .rw[ht.2.2.1 e];have:=Cp _ (hf.1 (.inl e));simp;omega
  .rw[ht.2.2.2.1 e];have:=Cp _ (hf.1 (.inr e));simp;omega
  .rw[ht.2.2.2.2.1 e];obtain⟨hl,h0⟩:=hf.2.1 (.inl e);have i0:=vy N _ (by have:=h0.2;omega) h0.1;rw[a3l _ zE _ hl] at hn;simp only[b0W];omega
  .rw[ht.2.2.2.2.2.1 e];obtain⟨hl,h0,h1⟩:=hf.2.2.1 (.inl e);have i0:=vy N _ (by have:=h0.2;omega) h0.1;have i1:=vy N _ (by have:=h1.2;omega) h1.1;rw[a3m _ zE _ hl] at hn;simp only[b0Y,b0W,b1f];omega
  .rw[ht.2.2.2.2.2.2.1 e];obtain⟨hl,h0,h1⟩:=hf.2.2.1 (.inr e);have i0:=vy N _ (by have:=h0.2;omega) h0.1;have i1:=vy N _ (by have:=h1.2;omega) h1.1;rw[a3m _ zE _ hl] at hn;simp only[b0Y,b0W,b1f];omega
  .rw[ht.2.2.2.2.2.2.2 e];obtain⟨hl,h0⟩:=hf.2.1 (.inr e);have i0:=vy N _ (by have:=h0.2;omega) h0.1;rw[a3l _ zE _ hl] at hn;simp only[b0Y,b0W,b1f];omega
def ow{w:World}{S:Nat->Prop}{x:J}{cs:List Value}(h:Rd w S x.aK cs):∃ a cap,cs=[.int .i64 x.ah, .int .i64 x.aX, .slice a x.U.length cap] /\
  (x.U=[]\/∃ b o,a=some ⟨b,o,none⟩/\S b/\df w S (x.U.map J.aK) b o):=by
 cases x with
 | mk k n ks =>
  simp only[J.aK,Rd,cQ] at h;obtain⟨v0,r0,rfl,⟨h0,_⟩,v1,r1,rfl,⟨h1,_⟩,v2,r2,rfl,⟨a,cap,h2,_,_,_,h3⟩,rfl⟩:=h;simp only[b0O,b1i] at h0 h1 h2;subst h0 h1 h2;rw[J.JI] at *
  refine⟨a,cap,by simp,h3.imp (λ h=>by simpa using h) id⟩
def Jq{w:World}{S:Nat->Prop}{x:J}{b o:Nat}(h:df w S (x.U.map J.aK) b o)(i:Nat)(hi:i<x.U.length) :
  ∃ c0 c1 c2,Rd w S (x.U.getD i zE).aK [c0,c1,c2]/\bo w b (o+3 * i) [c0,c1,c2]:=by
 obtain⟨cs,h1,h2,h3⟩:=df.at_ (n:=3) _ b o h (λ d hd=>by
  obtain⟨y,_,rfl⟩:=b0P.1 hd;cases y;rfl) i (x.U.getD i zE).aK (by simp[b2i,b0S,b1a hi])
 match cs,h1 with
 | [c0,c1,c2],_=>exact⟨c0,c1,c2,h2,by rw[Nat.mul_comm];exact h3⟩
def FT(B b:Nat)(S:Nat->Prop)(hS:∀ k,S k->k<B):∀ (N:Nat) (x:J),bG x<N->aA x=true->∀ (l:List UInt8) (w:World) (cs:List Value),sN B b l w->B<=w.heap.size ->
  l.length+(bH x).length<=140737488355328->Rd w S x.aK cs->Ep B b (.agg cs.toArray) l (bH x) w
 | 0,x,h,_=>by omega
 | N+1,x,hN,h=>by
  intro l w cs hI hB hl hr;have hf:=dO x h;have ht:=dT x h;obtain⟨a,cap,rfl,hk⟩:=ow hr;have Pl:∀ i,i<x.U.length->DZ x i->∃ kb ko c0 c1 c2,a=some ⟨kb,ko,none⟩/\(∀ j,j≠i->True)/\(∀ w1,Below B w w1->∀ j v,[c0,c1,c2][j]?=some v->w1.cell? ⟨kb,ko+3 * i+j,none⟩=some v) /\
    (∀ w1 l1,Below B w w1->sN B b l1 w1->B<=w1.heap.size->l1.length+(bH (x.U.getD i zE)).length<=140737488355328->Ep B b (.agg #[c0,c1,c2]) l1 (bH (x.U.getD i zE)) w1):=by
   intro i hi hg;rcases hk with hk|⟨kb,ko,rfl,ZV,fB⟩
   .rw[hk] at hi;simp at hi
   .obtain⟨c0,c1,c2,h1,h2⟩:=Jq fB i hi;refine⟨kb,ko,c0,c1,c2,rfl,λ _ _=>trivial,λ w1 hw j v hj=>?_,λ w1 l1 hw hI1 hB1 MH=>?_⟩
    .exact h2.aM (hw.block kb (hS kb ZV)) j v hj
    .exact FT B b S hS N _ (by have:=hg.2;omega) hg.1 l1 w1 [c0,c1,c2] hI1 hB1 MH (h1.aM (λ _ h=>h) (λ k hk=>hw.block k (hS k hk)))
  rcases hf.2.2.2 with e|e|e|e|e|e|e|e
  .rw[ht.1 e] at hl ⊢;rw[e];exact we1 B b l _ _ w hI hl hB
  .rw[ht.2.1 e] at hl ⊢;rw[e];exact we2 B b l _ _ w hI hl hB
  .have hn:=hf.1 (.inl e);rw[ht.2.2.1 e] at hl ⊢;rw[e,show x.aX=((x.aX.toNat:Nat):Int) by omega];exact we3 B b l _ (by omega) _ w hI (by simpa [mi] using hl) hB
  .have hn:=hf.1 (.inr e);rw[ht.2.2.2.1 e] at hl ⊢;rw[e,show x.aX=((x.aX.toNat:Nat):Int) by omega];exact we4 B b l _ (by omega) _ w hI (by simpa [mi] using hl) hB
  .obtain⟨hn,h0⟩:=hf.2.1 (.inl e);obtain⟨kb,ko,c0,c1,c2,rfl,_,q1,q2⟩:=Pl 0 (by omega) h0;rw[ht.2.2.2.2.1 e] at hl ⊢;rw[e,hn];exact we5 B b l _ _ kb ko cap c0 c1 c2 w hI (by simpa using hl) hB q1 q2
  .obtain⟨hn,h0,h1⟩:=hf.2.2.1 (.inl e);obtain⟨kb,ko,c0,c1,c2,rfl,_,q1,q2⟩:=Pl 0 (by omega) h0;obtain⟨kb',ko',d0,d1,d2,eq,_,p1,p2⟩:=Pl 1 (by omega) h1;cases eq;rw[ht.2.2.2.2.2.1 e] at hl ⊢;rw[e,hn];exact we6 B b l _ _ _ kb ko cap c0 c1 c2 d0 d1 d2 w hI (by simp at hl ⊢;omega) hB q1 q2 p1 p2
  .obtain⟨hn,h0,h1⟩:=hf.2.2.1 (.inr e);obtain⟨kb,ko,c0,c1,c2,rfl,_,q1,q2⟩:=Pl 0 (by omega) h0;obtain⟨kb',ko',d0,d1,d2,eq,_,p1,p2⟩:=Pl 1 (by omega) h1;cases eq;rw[ht.2.2.2.2.2.2.1 e] at hl ⊢;rw[e,hn];exact we7 B b l _ _ _ kb ko cap c0 c1 c2 d0 d1 d2 w hI (by simp at hl ⊢;omega) hB q1 q2 p1 p2
  .obtain⟨hn,h0⟩:=hf.2.1 (.inr e);obtain⟨kb,ko,c0,c1,c2,rfl,_,q1,q2⟩:=Pl 0 (by omega) h0;rw[ht.2.2.2.2.2.2.2 e] at hl ⊢;rw[e,hn];exact we8 B b l _ _ kb ko cap c0 c1 c2 w hI (by simpa using hl) hB q1 q2
def C2:bc:=⟨Dl,[.v (.st .expr)],λ (x:J)=>⟨(some (aA x=true/\(bH x).length<=1000000),[⟨.str,bH x⟩])⟩⟩
set_option maxRecDepth 100000 in
def JH(x:J)(w:World)(S:Nat->Prop)(hS:∀ b,S b->b<w.heap.size)(hg:aA x=true)(hl:(bH x).length<=1000000)(cs:List Value)(hr:Rd w S x.aK cs) :
  Calls Tryz.prog 78 #[.agg cs.toArray] w λ e w'=>e = .returned (.string ⟨(bH x).toArray⟩)/\Below w.heap.size w w':=by
 obtain⟨a,cap,rfl,hk⟩:=ow hr;have hI:∀ o:Obj,sN (w.heap.size+1) (w.heap.size+1) [] ((w.alloc o).alloc (.cells #[.pointer none, .slice none 0 0] 126)):=λ o=>by
  have:=Lib.fresh_isBuilder 126 5 (w.alloc o);rw[show (w.alloc o).heap.size=w.heap.size+1 by simp] at this;exact this
 have hB:∀ o p:Obj,w.heap.size+1<=((w.alloc o).alloc p).heap.size:=λ o p=>by simp
 have hw:∀ o p:Obj,Below w.heap.size w ((w.alloc o).alloc p):=λ o p=>((Below.refl _ w).alloc (Nat.le_refl _) o).alloc (by simp) p;go_enter Tryz.func78,Tryz.ntmps78;go_wp2_with (go_at_call 108;refine (FT (w.heap.size+1) (w.heap.size+1) S (λ k hk=>Nat.lt_succ_of_lt (hS k hk)) (bG x+1) x (Nat.lt_succ_self _) hg [] _ _ (hI _) (hB _ _) (by simp;omega) (hr.aM (λ _ h=>h) (λ k hk=>(hw _ _).block k (hS k hk)))).mono ?_);rintro e w1 ⟨he,h1⟩;subst he;have b1:Below w.heap.size w w1:=(hw _ _).trans (h1.cW.mono (Nat.le_succ _));have g1:sN (w.heap.size+1) (w.heap.size+1) (bH x) w1:=by simpa using h1.Kz
 have z1:w.heap.size+1<=w1.heap.size:=b2c (hB _ _) h1.cW.size;clear h1;go_wp2_with (go_at_call 84;refine (Tryz.Builder_String_any (w.heap.size+1) (w.heap.size+1) (bH x) w1 g1 z1).mono ?_);rintro e w2 ⟨he,h2⟩;subst he;go_wp2;go_ret;exact⟨rfl,b1.trans (h2.mono (Nat.le_succ _))⟩
def HX{w w':World}(h:Below w.heap.size w w'):bK (λ _=>False) w w':=⟨h.os,h.tape,h.output,h.size,λ b hb _=>h.block b hb⟩
def Y5{w:World}{S:Nat->Prop}(l:List UInt8)(h:l.length<=140737488355328):dI w S ⟨.str,l⟩ (.string ⟨l.toArray⟩) :=
 ⟨⟨l.toArray⟩,rfl,by simp,by simpa [ByteArray.size] using h⟩
def IA:bc.Good C2:=by
 refine⟨aH Mp rfl (by decide),?_⟩;intro x hp w S bO ⟨hS,_⟩ ha;match bO,ha with
 | [v],ha =>
  obtain⟨⟨cs,rfl,hr⟩,_⟩:=ha;refine (JH x w S hS hp.1 hp.2 cs hr).mono ?_;rintro e w' ⟨rfl,hb⟩;exact⟨_,S,_,rfl,rfl,HX hb,λ _ _=>b2F,λ b h=>b0V (hS b h) hb.size,Y5 (w:=w') (S:=S) _ (by have:=hp.2;omega)⟩
def rI:bc:=⟨Bm,[.v (.int .i64)],λ (n:Int)=>⟨(some (0<=n/\n<=9),[⟨.str,mi n⟩])⟩⟩
set_option maxRecDepth 100000 in
def QI(n:Nat)(h:n<10)(w:World) :
  Calls Tryz.prog 143 #[.int .i64 n] w λ e w'=>e = .returned (.string ⟨(Lib.decDigits n).toArray⟩)/\Below w.heap.size w w':=by
 rw[Lib.decDigits_one h];have hn:¬ (10:Int)<=(n:Int):=by omega
 go_enter Tryz.func143,Tryz.ntmps143;go_wp2;rw[show (convert 22 9 (.slice (some ⟨w.heap.size,0,none⟩) 1 1)).run Tryz.prog (w.alloc (.cells #[.int .u8 (48+(n:Int))] 5))=_ from run_convert_bytes_back _ 22 9 5 ⟨w.heap.size,0,none⟩ 1 [UInt8.ofNat (48+n)] Tryz.underlying22 Tryz.underlying5 Tryz.underlying9 (by
  intro j hj;have hj0:j=0:=by simpa using hj
  subst hj0;show World.cell? _ ⟨w.heap.size,0,none⟩=_;rw[b3h (b2g w _)];have e:(UInt8.ofNat (48+n)).toNat=48+n:=by rw[UInt8.toNat_ofNat'];omega
  simp[e];omega)]
 simp only[Result.andThen];rw[b4a];go_wp2;go_ret;exact⟨by first|rfl|(simp;done)|(show Ending.returned (.string ⟨#[48+UInt8.ofNat n]⟩)=_;rw[UInt8.ofNat_add];rfl),(b2Q _ w).alloc (b1d _) _⟩
def GG:bc.Good rI:=by
 refine⟨aH JW rfl (by decide),?_⟩;intro (n:Int) hp w S bO ⟨hS,_⟩ ha;match bO,ha with
 | [v],ha =>
  obtain⟨⟨hv,_⟩,_⟩:=ha;simp only[b0O,b1i] at hv;have hp:0<=n/\n<=9:=hp;subst hv;have:=QI n.toNat (by omega) w;rw[show ((n.toNat:Nat):Int)=n by omega] at this;refine this.mono ?_;rintro e w' ⟨rfl,hb⟩;exact⟨_,S,_,rfl,rfl,HX hb,λ _ _=>b2F,λ b h=>b0V (hS b h) hb.size,Y5 (w:=w') (S:=S) (mi n) (by rw[Cp n hp];decide)⟩
def tk(x:J)(i:Nat):J:=x.U.getD i zE
structure TK(x:J)(i:Nat):Prop where
 su:aA (x.U.getD i zE)=true
 less:bG (x.U.getD i zE)<bG x
 len:(bH (x.U.getD i zE)).length<=(bH x).length
def Zr(x:J)(h:aA x=true)(e:x.ah=3):0<=x.aX/\x.aX<=9/\(mi x.aX).length=1/\bH x=[116]++mi x.aX:=by
 have:=(dO x h).1 (.inl e);exact⟨this.1,this.2,Cp _ this,(dT x h).2.2.1 e⟩
def Zs(x:J)(h:aA x=true)(e:x.ah=4):0<=x.aX/\x.aX<=9/\(mi x.aX).length=1/\bH x=[97]++mi x.aX:=by
 have:=(dO x h).1 (.inr e);exact⟨this.1,this.2,Cp _ this,(dT x h).2.2.2.1 e⟩
def Zt(x:J)(h:aA x=true)(e:x.ah=5):x.U.length=1/\TK x 0/\bH x=[126]++bH (x.U.getD 0 zE):=by
 have hk:=(dO x h).2.1 (.inl e);have ht:=(dT x h).2.2.2.2.1 e;exact⟨hk.1,⟨hk.2.1,hk.2.2,by rw[ht];simp⟩,ht⟩
def Sh(x:J)(h:aA x=true)(e:x.ah=6):x.U.length=2/\TK x 0/\TK x 1/\bH x=[40]++bH (x.U.getD 0 zE)++[32,43,32]++bH (x.U.getD 1 zE)++[41]:=by
 have hk:=(dO x h).2.2.1 (.inl e);have ht:=(dT x h).2.2.2.2.2.1 e;exact⟨hk.1,⟨hk.2.1.1,hk.2.1.2,by rw[ht];simp;omega⟩,⟨hk.2.2.1,hk.2.2.2,by rw[ht];simp;omega⟩,by rw[ht];simp⟩
def Si(x:J)(h:aA x=true)(e:x.ah=7):x.U.length=2/\TK x 0/\TK x 1/\bH x=[40]++bH (x.U.getD 0 zE)++[32]++bH (x.U.getD 1 zE)++[41]:=by
 have hk:=(dO x h).2.2.1 (.inr e);have ht:=(dT x h).2.2.2.2.2.2.1 e;exact⟨hk.1,⟨hk.2.1.1,hk.2.1.2,by rw[ht];simp;omega⟩,⟨hk.2.2.1,hk.2.2.2,by rw[ht];simp;omega⟩,by rw[ht];simp⟩
def a5K(x:J)(h:aA x=true)(e1:¬ x.ah=1)(e2:¬ x.ah=2)(e3:¬ x.ah=3)(e4:¬ x.ah=4)(e5:¬ x.ah=5)(e6:¬ x.ah=6)(e7:¬ x.ah=7):x.U.length=1/\TK x 0/\bH x=bH (x.U.getD 0 zE)++[42]:=by
 have e:x.ah=8:=by have:=(dO x h).2.2.2;omega
 have hk:=(dO x h).2.1 (.inr e);have ht:=(dT x h).2.2.2.2.2.2.2 e;exact⟨hk.1,⟨hk.2.1,hk.2.2,by rw[ht];simp⟩,ht⟩
def ly(n:Nat):bc:=⟨mG,[.r (.st .expr)],λ (x:J)=>⟨(some (bG x<n/\aA x=true/\(bH x).length<=1000000),[⟨.str,bH x⟩])⟩⟩
def MN:bc:=⟨mG,[.r (.st .expr)],λ (x:J)=>⟨(some (aA x=true/\(bH x).length<=1000000),[⟨.str,bH x⟩])⟩⟩
def M1(x:J):Nat->aP:=cw
def K4(n:Nat)(hE:bu [ly n,rI]):bc.Good (ly (n+1)):=by
 refine⟨aH kW,?_⟩;intro (x:J) (hp:bG x<n+1/\aA x=true/\(bH x).length<=1000000);refine bf [ly n,rI] [] [] [] hE kW Ge (M1 x) (let v0:=x.U.getD 0 zE;let v1:=x.U.getD 1 zE;let v5:=bH v0;let v2:=bG v0<n/\aA v0=true/\v5.length<=1000000;let v3:=([40])++v5;let v6:=mi x.aX;let v7:=bH v1;let v4:=bG v1<n/\aA v1=true/\v7.length<=1000000;let v8:=v3++([32,43,32]);((av x.ah->(((decide (x.ah=(1:Int)))=true->([48])=(bH x))/\((decide (x.ah=(1:Int)))=false->(((decide (x.ah=(2:Int)))=true->([49])=(bH x))/\((decide (x.ah=(2:Int)))=false->(((decide (x.ah=(3:Int)))=true->(av x.aX->((0<=x.aX/\x.aX<=9)/\(v6.length<=140737488355328->(([116]).length+v6.length<=140737488355328/\(([116])++v6)=(bH x))))))/\((decide (x.ah=(3:Int)))=false->(((decide (x.ah=(4:Int)))=true->(av x.aX->((0<=x.aX/\x.aX<=9)/\(v6.length<=140737488355328->(([97]).length+v6.length<=140737488355328/\(([97])++v6)=(bH x))))))/\((decide (x.ah=(4:Int)))=false->(((decide (x.ah=(5:Int)))=true->(x.U.length<=140737488355328->(aI (0:Int) x.U.length/\(v2/\(v5.length<=140737488355328->(([126]).length+v5.length<=140737488355328/\(([126])++v5)=(bH x)))))))/\((decide (x.ah=(5:Int)))=false->(((decide (x.ah=(6:Int)))=true->(aI (0:Int) x.U.length/\(v2/\(([40]).length+v5.length<=140737488355328/\(v3.length+([32,43,32]).length<=140737488355328/\(aI (1:Int) x.U.length/\(v4/\(x.U.length<=140737488355328->(v5.length<=140737488355328->(x.U.length<=140737488355328->(v7.length<=140737488355328->(v8.length+v7.length<=140737488355328/\((v8++v7).length+([41]).length<=140737488355328/\((v8++v7)++([41]))=(bH x))))))))))))))/\((decide (x.ah=(6:Int)))=false->(((decide (x.ah=(7:Int)))=true->(aI (0:Int) x.U.length/\(v2/\(([40]).length+v5.length<=140737488355328/\(v3.length+([32]).length<=140737488355328/\(aI (1:Int) x.U.length/\(v4/\(x.U.length<=140737488355328->(v5.length<=140737488355328->(x.U.length<=140737488355328->(v7.length<=140737488355328->((v3++([32])).length+v7.length<=140737488355328/\(((v3++([32]))++v7).length+([41]).length<=140737488355328/\(((v3++([32]))++v7)++([41]))=(bH x))))))))))))))/\((decide (x.ah=(7:Int)))=false->(x.U.length<=140737488355328->(aI (0:Int) x.U.length/\(v2/\(v5.length<=140737488355328->(v5.length+([42]).length<=140737488355328/\(v5++([42]))=(bH x))))))))))))))))))))))) ?_;obtain⟨hm,hg,hl⟩:=hp;have f1:=(dT x hg).1;have f2:=(dT x hg).2.1;have f3:=Zr x hg;have f4:=Zs x hg;have f5:=Zt x hg;have f6:=Sh x hg;have f7:=Si x hg;have f8:=a5K x hg;refine λ _=>⟨λ _=>?_,λ _=>⟨λ _=>?_,λ _=>⟨λ a3 a4=>⟨?_,λ a5=>⟨?_,?_⟩⟩,λ a3=>⟨λ a4 a5=>⟨?_,λ a6=>⟨?_,?_⟩⟩,λ a4=>⟨λ a5 a6=>⟨?_,?_,λ a7=>⟨?_,?_⟩⟩,λ a5=>⟨λ a6=>⟨?_,?_,?_,?_,?_,?_,λ a7 a8 _ _=>⟨?_,?_,?_⟩⟩,λ a6=>⟨λ a7=>⟨?_,?_,?_,?_,?_,?_,λ a8 _ _ _=>⟨?_,?_,?_⟩⟩,λ a7 a8=>⟨?_,?_,λ _=>⟨?_,?_⟩⟩⟩⟩⟩⟩⟩⟩⟩;all_goals try and_intros
 all_goals ((try simp only[b0R,b0Q,aI] at *);(first|replace f1:=f1 (by with_reducible assumption)|clear f1);(first|replace f2:=f2 (by with_reducible assumption)|clear f2);(first|replace f3:=f3 (by with_reducible assumption)|clear f3);(first|replace f4:=f4 (by with_reducible assumption)|clear f4);(first|replace f5:=f5 (by with_reducible assumption)|clear f5);(first|replace f6:=f6 (by with_reducible assumption)|clear f6);(first|replace f7:=f7 (by with_reducible assumption)|clear f7);(first|replace f8:=f8 (by with_reducible assumption) (by with_reducible assumption) (by with_reducible assumption) (by with_reducible assumption) (by with_reducible assumption) (by with_reducible assumption) (by with_reducible assumption)|clear f8);(try obtain⟨a5,b5,c5⟩:=f5);(try obtain⟨a8,b8,c8⟩:=f8);(try obtain⟨a3,b3,b3b,c3⟩:=f3);(try obtain⟨a4,b4,b4b,c4⟩:=f4);(try obtain⟨a6,b6,b6b,c6⟩:=f6);(try obtain⟨a7,b7,b7b,c7⟩:=f7);  first|rfl|omega|exact TK.su (by assumption)|exact f1.symm|exact f2.symm|(have t0:=TK.len ‹TK x 0›;have t1:=TK.less ‹TK x 0›;omega)|(have t0:=TK.len ‹TK x 1›;have t1:=TK.less ‹TK x 1›;omega)|exact (Eq.symm (by assumption))|(simp only[b0Y,b0W,b1f];have t0:=TK.len ‹TK x 0›;first|omega|(have t1:=TK.len ‹TK x 1›;omega))|(simp only[b0Y,b0W,b1f];omega))
def Lw :∀ n,bu [ly n]
 | 0=>⟨⟨aH kW,λ _ h=>absurd h.1 (b1x _)⟩,ag⟩
 | n+1=>by
  have ih:=Lw  n;exact⟨K4 n ⟨ih.1,GG,ag⟩,ag⟩
def GK :bc.Good MN :=
 ⟨aH kW,λ x hp=>(Lw  (bG x+1)).1.2 x (⟨b1b _,hp⟩)⟩
end
end Go.Proofs.YtofnjfpeimhifaaGreatDoor

namespace Go.Proofs.YtofnjfpeimhifaaGreatDoor
noncomputable section
def ZL(x y:J):iM x y=(decide (x.ah=y.ah)&&decide (x.aX=y.aX)&&iM x.U y.U):=by
 refine b3E.2 ?_;cases x;cases y;simp[and_assoc]
def lu(n:Nat):bc:=⟨mF,[.r (.st .expr), .r (.st .expr)],λ (x:J) (y:J)=>⟨(some (bG x<n),[⟨.bool,iM x y⟩])⟩⟩
def A6:bc:=⟨mF,[.r (.st .expr), .r (.st .expr)],λ (x:J) (y:J)=>⟨(none,[⟨.bool,iM x y⟩])⟩⟩
def MZ(x:J)(y:J):Nat->aP:=(eR 0 (.b (Nat) (λ k=>k<=x.U.length/\x.U.length=y.U.length/\x.U.take k=y.U.take k/\x.ah=y.ah/\x.aX=y.aX) (λ k=>x.U.length - k) [6,7,8,9,10,11,12,13,14,15,16,17,18,19,20,21,22,23,24,25,26,27,28,29,30,31,32,33,34,35,36,37,38] (λ k=>[(5, .aO ⟨(.int .i64),((k:Int):Int)⟩)])) cw)
abbrev oh(n:Nat)(x:J)(y:J):Prop:=(let v0:=(x.U.length:Int);((∃ k1:Nat,((k1<=x.U.length/\x.U.length=y.U.length/\x.U.take k1=y.U.take k1/\x.ah=y.ah/\x.aX=y.aX)/\((x=x/\(y=y/\((0:Int)=(k1:Int)/\True)))/\True)))/\(∀ k1:Nat,let v1 := !(iM (x.U.getD k1 zE) (y.U.getD k1 zE));let v2:=(k1:Int);((k1<=x.U.length/\x.U.length=y.U.length/\x.U.take k1=y.U.take k1/\x.ah=y.ah/\x.aX=y.aX) ->
 (x.U.length<=140737488355328 ->
 (av v0 ->
 (((decide (v2<v0))=true ->
 (aI v2 x.U.length/\(aI v2 y.U.length/\(x.U.length<=140737488355328 ->
 (y.U.length<=140737488355328 ->
 (bG (x.U.getD k1 zE)<n/\((v1=true ->
 false=(iM x y))/\(v1=false ->
 (av (v2+(1:Int))/\(∃ k2:Nat,((k2<=x.U.length/\x.U.length=y.U.length/\x.U.take k2=y.U.take k2/\x.ah=y.ah/\x.aX=y.aX)/\(x.U.length - k2<x.U.length - k1/\((x=x/\(y=y/\((v2+(1:Int))=(k2:Int)/\True)))/\True)))))))))))))/\((decide (v2<v0))=false ->
 true=(iM x y)))))))))
abbrev wC(n:Nat)(x:J)(y:J):Prop:=(let v0 := !(decide (((x.U.length:Int))=((y.U.length:Int))));(x.U.length<=140737488355328 ->
 (av ((x.U.length:Int)) ->
 (y.U.length<=140737488355328 ->
 (av ((y.U.length:Int)) ->
 ((v0=true ->
 false=(iM x y))/\(v0=false ->
 (oh n x y))))))))
def K2(n:Nat)(hE:bu [lu n]):bc.Good (lu (n+1)):=by
 refine⟨aH kU,?_⟩;intro (x:J) (y:J) (hp:bG x<n+1);refine bf [lu n] [] [] [] hE kU Gc (MZ x y) ((((!(decide (x.ah=y.ah)))=false->(((!(decide (x.aX=y.aX)))=false->(av x.ah->(av y.ah->(av x.aX->(av y.aX->(wC n x y))))))/\((!(decide (x.aX=y.aX)))=(!false)->(av x.ah->(av y.ah->(av x.aX->(av y.aX->((true=true->false=(iM x y))/\(true=false->(oh n x y))))))))))/\((!(decide (x.ah=y.ah)))=(!false)->((true=false->(av x.ah->(av y.ah->(wC n x y))))/\(true=(!false)->(av x.ah->(av y.ah->((true=true->false=(iM x y))/\(true=false->(oh n x y)))))))))) ?_;have f0:=gf x;have f3:=ZL x y;refine⟨λ _=>⟨λ _ _ _ _ _ _ _ _ _=>⟨λ _=>?_,λ _=>⟨⟨0,?_,⟨rfl,rfl,?_,ag⟩,ag⟩,λ k1 _=>have WB:=AE zE x.U y.U k1;have WC:=oD x.U y.U k1;have WD:=cF zE x.U k1;λ _ _=>⟨λ _=>⟨?_,?_,λ _ _=>⟨?_,λ _=>?_,λ _=>⟨?_,k1+1,?_,?_,⟨rfl,rfl,?_,ag⟩,ag⟩⟩⟩,λ _=>?_⟩⟩⟩,λ _ _ _ _ _=>⟨λ _=>?_,λ _=>⟨⟨0,?_,⟨rfl,rfl,?_,ag⟩,ag⟩,λ k1 _=>have a0M:=AE zE x.U y.U k1;have a0N:=oD x.U y.U k1;have a0O:=cF zE x.U k1;λ _ _=>⟨λ _=>⟨?_,?_,λ _ _=>⟨?_,λ _=>?_,λ _=>⟨?_,k1+1,?_,?_,⟨rfl,rfl,?_,ag⟩,ag⟩⟩⟩,λ _=>?_⟩⟩⟩⟩,λ _=>⟨λ _ _ _ _ _ _ _=>⟨λ _=>?_,λ _=>⟨⟨0,?_,⟨rfl,rfl,?_,ag⟩,ag⟩,λ k1 _=>have a4H:=AE zE x.U y.U k1;have a4I:=oD x.U y.U k1;have a4J:=cF zE x.U k1;λ _ _=>⟨λ _=>⟨?_,?_,λ _ _=>⟨?_,λ _=>?_,λ _=>⟨?_,k1+1,?_,?_,⟨rfl,rfl,?_,ag⟩,ag⟩⟩⟩,λ _=>?_⟩⟩⟩,λ _ _ _=>⟨λ _=>?_,λ _=>⟨⟨0,?_,⟨rfl,rfl,?_,ag⟩,ag⟩,λ k1 _=>have a7I:=AE zE x.U y.U k1;have a7J:=oD x.U y.U k1;have a7K:=cF zE x.U k1;λ _ _=>⟨λ _=>⟨?_,?_,λ _ _=>⟨?_,λ _=>?_,λ _=>⟨?_,k1+1,?_,?_,⟨rfl,rfl,?_,ag⟩,ag⟩⟩⟩,λ _=>?_⟩⟩⟩⟩⟩;all_goals try and_intros
 all_goals first|rfl|trivial|(simp only[decide_eq_true_eq,decide_eq_false_iff_not,Bool.not_eq_false',Bool.not_eq_true',decide_not,aI,av] at *;first|omega|grind)|grind [Cu,RF]
def Lu :∀ n,bu [lu n]
 | 0=>⟨⟨aH kU,λ _ _ h=>absurd h (b1x _)⟩,ag⟩
 | n+1=>by
  have ih:=Lu  n;exact⟨K2 n ⟨ih.1,ag⟩,ag⟩
def ug :bc.Good A6 :=
 ⟨aH kU,λ x y hp=>(Lu  (bG x+1)).1.2 x y (b1b _)⟩
def Mg(O:List Int)(pos:Int):Int:=if pos<(O.length:Int) then O.getD pos.toNat 0 else 0
def kH(O:List Int)(pos aD:Int):Int:=IntKind.u64.wrap (IntKind.u64.wrap (IntKind.u64.wrap (aD * 6364136223846793005)+Mg O pos)+1442695040888963407)
def Mh(s:Int):Int:=(((s.fdiv (2 ^ Int.toNat 40)).toNat &&& Int.toNat 255:Nat):Int)
def oC(O:List Int)(pos aD:Int):Int:=if pos+1<=(O.length:Int) then Mg O pos else Mh (kH O pos aD)
def eS(O:List Int):Prop:=∀ i,i<O.length->0<=O.getD i 0/\O.getD i 0<=255
def Sj(n:Int):0<=IntKind.u64.wrap n/\IntKind.u64.wrap n<=18446744073709551615:=by
 simp[IntKind.wrap,IntKind.signed,IntKind.bits];omega
def a9y:IntKind.u64.min=0:=rfl
def a9x:IntKind.u64.max=18446744073709551615:=rfl
def a9e(n:Int):cD .u64 n↔0<=n/\n<=18446744073709551615:=by
 have e1:IntKind.u64.min=0:=by decide
 have e2:IntKind.u64.max=18446744073709551615:=by decide
 show (IntKind.u64.min<=n/\n<=IntKind.u64.max)↔_;rw[e1,e2]
def DJ(O:List Int)(pos aD:Int):0<=kH O pos aD/\kH O pos aD<=18446744073709551615:=Sj _
def V5(O:List Int)(pos:Int)(h:eS O)(h0:0<=pos):0<=Mg O pos/\Mg O pos<=255:=by
 unfold Mg;split
 .exact h _ (by omega)
 .omega
def a3e(s:Int):0<=Mh s/\Mh s<=255:=by
 have:(s.fdiv (2 ^ Int.toNat 40)).toNat &&& Int.toNat 255<=255:=Nat.and_le_right;unfold Mh;omega
def Jy(O:List Int)(pos aD:Int)(h:eS O)(h0:0<=pos):0<=oC O pos aD/\oC O pos aD<=255:=by
 unfold oC;split
 .exact V5 O pos h h0
 .exact a3e _
def Yw(n:Int):0<=(IntKind.u64.wrap n).fdiv (2 ^ (40:Int).toNat)/\(IntKind.u64.wrap n).fdiv (2 ^ (40:Int).toNat)<=18446744073709551615:=by
 have h:=Sj n;have e:(2:Int) ^ (40:Int).toNat=1099511627776:=by decide
 rw[e,b4n _ (by omega)];omega
def Sv(n:Nat):n &&& (255:Int).toNat<=255:=Nat.and_le_right
def Zj(O:List Int)(pos aD:Int)(h:pos+1<=(O.length:Int)):oC O pos aD=Mg O pos:=b0T h
def NP(O:List Int)(pos aD:Int)(h:¬ (pos+1<=(O.length:Int))):oC O pos aD=Mh (kH O pos aD):=b0N h
def NO(O:List Int)(pos:Int)(h:pos<(O.length:Int)):O.getD pos.toNat 0=Mg O pos:=(b0T h).symm
def NN(O:List Int)(pos:Int)(h:¬ (pos<(O.length:Int))):(0:Int)=Mg O pos:=(b0N h).symm
def a3f(O:List Int)(pos aD:Int)(h1:¬ (pos<(O.length:Int)))(h2:¬ (pos+1<=(O.length:Int))):((((IntKind.u64.wrap ((IntKind.u64.wrap ((IntKind.u64.wrap (aD * (6364136223846793005:Int)))+(0:Int)))+(1442695040888963407:Int))).fdiv (2 ^ (40:Int).toNat)).toNat &&& (255:Int).toNat:Nat):Int)=oC O pos aD:=by
 have e:=NN O pos h1;rw[NP O pos aD h2,Mh,kH,<-e]
def qt:mg:=⟨sI,[[.d (.slice (.int .u8)), .d (.int .i64), .d (.int .u64)]],[.b 0],[[(.slice (.int .u8)),(.int .i64),(.int .u64)]],λ (O:List Int) (pos:Int) (aD:Int)=>⟨(some (eS O/\0<=pos/\pos<=1000000000/\O.length<=1000000/\0<=aD/\aD<=18446744073709551615),[⟨(.int .i64),oC O pos aD⟩],[[⟨(.slice (.int .u8)),O⟩,⟨(.int .i64),pos+1⟩,⟨(.int .u64),kH O pos aD⟩]])⟩⟩
def Dc(O:List Int)(pos:Int)(aD:Int):Nat->aP:=cw
abbrev Ab(O:List Int)(pos:Int)(aD:Int):Prop:=((O=O/\((pos+(1:Int))=(pos+1)/\(IntKind.u64.wrap ((IntKind.u64.wrap ((IntKind.u64.wrap (aD * (6364136223846793005:Int)))+(O.getD (Int.toNat pos) (0:Int))))+(1442695040888963407:Int)))=(kH O pos aD)))/\True)
abbrev Ac(O:List Int)(pos:Int)(aD:Int):Prop:=((O=O/\((pos+(1:Int))=(pos+1)/\(IntKind.u64.wrap ((IntKind.u64.wrap ((IntKind.u64.wrap (aD * (6364136223846793005:Int)))+(0:Int)))+(1442695040888963407:Int)))=(kH O pos aD)))/\True)
def zb:mg.Good qt:=by
 refine⟨aH qi,?_⟩;intro (O:List Int) (pos:Int) (aD:Int) (hp:eS O/\0<=pos/\pos<=1000000000/\O.length<=1000000/\0<=aD/\aD<=18446744073709551615);refine tm [] [] [] [] [] [] [] [] trivial trivial trivial trivial qi zF (Dc O pos aD) rfl rfl (let v4:=(O.length:Int);let v5:=pos+(1:Int);let v2:=decide (v5<=v4);let v6:=(255:Int);let v7:=(0:Int);let v3:=O.getD (Int.toNat pos) v7;let v8:=IntKind.u64.wrap (aD * (6364136223846793005:Int));let v9:=oC O pos aD;let vc:=(40:Int);let v0:=(IntKind.u64.wrap ((IntKind.u64.wrap (v8+v3))+(1442695040888963407:Int))).fdiv (2 ^ vc.toNat);let v1:=(IntKind.u64.wrap ((IntKind.u64.wrap (v8+v7))+(1442695040888963407:Int))).fdiv (2 ^ vc.toNat);let va:=((v0.toNat &&& v6.toNat:Nat):Int);let vb:=((v1.toNat &&& v6.toNat:Nat):Int);let vd:=Ab O pos aD;let ve:=Ac O pos aD;((av pos->(O.length<=140737488355328->(av v4->(((decide (pos<v4))=true->(O.length<=140737488355328->(av pos->(aI pos O.length/\(av v3/\(av pos->(av v5/\(cD .u64 v3/\(av v5->(O.length<=140737488355328->(av v4->((v2=true->(v3=v9/\vd))/\(v2=false->((v7<=vc/\(vc<(64:Int)/\cD .u64 v0))/\((v7<=v0/\(v7<=v6/\(cD .u64 v0/\cD .u64 v6)))/\(av va/\(va=v9/\vd)))))))))))))))))/\((decide (pos<v4))=false->(av pos->(av v5/\(cD .u64 v7/\(av v5->(O.length<=140737488355328->(av v4->((v2=true->(v7=v9/\ve))/\(v2=false->((v7<=vc/\(vc<(64:Int)/\cD .u64 v1))/\((v7<=v1/\(v7<=v6/\(cD .u64 v1/\cD .u64 v6)))/\(av vb/\(vb=v9/\ve))))))))))))))))))) ?_;obtain⟨h1,h2,h3,h4,h5,h6⟩:=hp;have f1:=V5 O pos h1 h2;have f2:=DJ O pos aD;refine λ _ _ _=>⟨λ _ _ _=>⟨?_,?_,λ _=>⟨?_,?_,λ _ _ _=>⟨λ _=>⟨?_,⟨rfl,?_,?_⟩,ag⟩,λ _=>⟨⟨?_,?_,?_⟩,⟨?_,?_,?_,?_⟩,?_,?_,⟨rfl,?_,?_⟩,ag⟩⟩⟩⟩,λ _ _=>⟨?_,?_,λ _ _ _=>⟨λ _=>⟨?_,⟨rfl,?_,?_⟩,ag⟩,λ _=>⟨⟨?_,?_,?_⟩,⟨?_,?_,?_,?_⟩,?_,?_,⟨rfl,?_,?_⟩,ag⟩⟩⟩⟩;all_goals try and_intros
 all_goals first|rfl|trivial|omega|(simp only[decide_eq_true_eq,decide_eq_false_iff_not] at *;exact a3f O pos aD (by omega) (by omega))|(simp only[decide_eq_true_eq,decide_eq_false_iff_not,aI,av,a9e,a9y,a9x] at *;first|omega|(rw[NO O pos (by omega)];omega)|exact Yw _|(have:=Yw;have:=Sv;grind)|(rw[NO O pos (by omega)];first|omega|rfl|(rw[Zj O pos aD (by omega)];done)|(rw[NP O pos aD (by omega)];rfl))|(rw[Zj O pos aD (by omega)];exact NN O pos (by omega))|(unfold kH;rw[<-NN O pos (by omega)];done)|(rw[NP O pos aD (by omega)];unfold Mh kH;rw[<-NN O pos (by omega)];rfl)|(unfold kH;rw[<-NO O pos (by omega)];done)|(rw[NP O pos aD (by omega)];unfold Mh kH;rw[<-NO O pos (by omega)];rfl)|(have:=Sv;constructor<;>first|omega|(refine Int.le_trans (Int.ofNat_le.2 (Sv _)) ?_;omega)))
def pkX(O:List Int)(pos aD n:Int):Int:=if 200<n then oC O pos aD * 256+oC O (pos+1) (kH O pos aD) else oC O pos aD
def VL(O:List Int)(pos aD n:Int):Int:=if n<=1 then 0 else (pkX O pos aD n).tmod n
def TT(pos n:Int):Int:=if n<=1 then pos else if 200<n then pos+1+1 else pos+1
def XK(O:List Int)(pos aD n:Int):Int:=if n<=1 then aD else if 200<n then kH O (pos+1) (kH O pos aD) else kH O pos aD
def QA(a n:Int)(h:0<=a)(hn:0<n):0<=a.tmod n/\a.tmod n<n:=by
 rw[Int.tmod_eq_emod_of_nonneg h];exact⟨Int.emod_nonneg _ (by omega),Int.emod_lt_of_pos _ hn⟩
def YW(O:List Int)(pos aD n:Int)(h:eS O)(h0:0<=pos):0<=VL O pos aD n/\(VL O pos aD n=0\/VL O pos aD n<n):=by
 have h1:=Jy O pos aD h h0;have h2:=Jy O (pos+1) (kH O pos aD) h (by omega);unfold VL pkX;split
 .omega
 .split
  .have:=QA (oC O pos aD * 256+oC O (pos+1) (kH O pos aD)) n (by omega) (by omega);omega
  .have:=QA (oC O pos aD) n (by omega) (by omega);omega
structure Sr where
 pos:Int
 aD:Int
def dk(O:List Int)(s:Sr)(n:Int):Sr:=⟨TT s.pos n,XK O s.pos s.aD n⟩
def pk(O:List Int)(s:Sr)(n:Int):Int:=VL O s.pos s.aD n
def Ss(s:Sr):Sr.mk s.pos s.aD=s:=rfl
def a9f(O:List Int)(s:Sr)(n:Int):pk O s n=VL O s.pos s.aD n:=rfl
def a9g(O:List Int)(s:Sr)(n:Int):(dk O s n).pos=TT s.pos n:=rfl
def a9h(O:List Int)(s:Sr)(n:Int):(dk O s n).aD=XK O s.pos s.aD n:=rfl
structure cd(O:List Int)(s:Sr)(m:Int):Prop where
 c:eS O
 p:0<=s.pos
 m:s.pos<=m
 l:O.length<=1000000
 s0:0<=s.aD
 s1:s.aD<=18446744073709551615
def a4h(O:List Int)(pos aD n:Int)(h:0<=aD/\aD<=18446744073709551615):0<=XK O pos aD n/\XK O pos aD n<=18446744073709551615:=by
 unfold XK;split
 .exact h
 .split
  .exact DJ _ _ _
  .exact DJ _ _ _
def a4g(pos n:Int):pos<=TT pos n/\TT pos n<=pos+2:=by
 unfold TT;split
 .omega
 .split<;>omega
def cd.next{O:List Int}{s:Sr}{m:Int}(h:cd O s m)(n:Int):cd O (dk O s n) (m+2):=by
 have h1:=a4g s.pos n;have h2:=a4h O s.pos s.aD n ⟨h.s0,h.s1⟩;have:=h.p;have:=h.m;exact⟨h.c,by show 0<=TT s.pos n;omega,by show TT s.pos n<=m+2;omega,h.l,h2.1,h2.2⟩
def cd.mono{O:List Int}{s:Sr}{m k:Int}(h:cd O s m)(hk:m<=k):cd O s k:=⟨h.c,h.p,by have:=h.m;omega,h.l,h.s0,h.s1⟩
def cd.pk{O:List Int}{s:Sr}{m:Int}(h:cd O s m)(n:Int):0<=pk O s n/\(pk O s n=0\/pk O s n<n):=YW O s.pos s.aD n h.c h.p
def eA:mg:=⟨sJ,[[.d (.slice (.int .u8)), .d (.int .i64), .d (.int .u64)]],[.b 0, .v (.int .i64)],[[(.slice (.int .u8)),(.int .i64),(.int .u64)]],λ (n:Int) (O:List Int) (pos:Int) (aD:Int)=>⟨(some (cd O (Sr.mk pos aD) 999999000/\n<=1000000),[⟨(.int .i64),pk O (Sr.mk pos aD) n⟩],[[⟨(.slice (.int .u8)),O⟩,⟨(.int .i64),(dk O (Sr.mk pos aD) n).pos⟩,⟨(.int .u64),(dk O (Sr.mk pos aD) n).aD⟩]])⟩⟩
def Dd(n:Int)(O:List Int)(pos:Int)(aD:Int):Nat->aP:=cw
def fD:mg.Good eA:=by
 refine⟨aH qj,?_⟩;intro (n:Int) (O:List Int) (pos:Int) (aD:Int) (hp:cd O (Sr.mk pos aD) 999999000/\n<=1000000);refine tm [] [] [] [qt] [] [] [] [] trivial trivial trivial ⟨zb,ag⟩ qj zG (Dd n O pos aD) rfl rfl (let v1:=dk O (Sr.mk pos aD) n;let v2:=kH O pos aD;let v3:=oC O pos aD;let v4:=pk O (Sr.mk pos aD) n;let v5:=pos+1;let v0:=(v3 * (256:Int))+(oC O v5 v2);((((decide (n<=(1:Int)))=true->((0:Int)=v4/\((O=O/\(pos=(v1.pos)/\aD=(v1.aD)))/\True)))/\((decide (n<=(1:Int)))=false->((eS O/\0<=pos/\pos<=1000000000/\O.length<=1000000/\0<=aD/\aD<=18446744073709551615)/\(((decide ((200:Int)<n))=true->(av (v3 * (256:Int))/\((eS O/\0<=v5/\v5<=1000000000/\O.length<=1000000/\0<=v2/\v2<=18446744073709551615)/\(av v0/\((n≠(0:Int)/\av (v0.tmod n))/\((v0.tmod n)=v4/\((O=O/\((v5+1)=(v1.pos)/\(kH O v5 v2)=(v1.aD)))/\True)))))))/\((decide ((200:Int)<n))=false->((n≠(0:Int)/\av (v3.tmod n))/\((v3.tmod n)=v4/\((O=O/\(v5=(v1.pos)/\v2=(v1.aD)))/\True)))))))))) ?_;obtain⟨⟨h1,h2,h3,h4,h5,h6⟩,h7⟩:=hp;simp only at h2 h3 h5 h6;have f1:=Jy O pos aD h1 h2;have f2:=DJ O pos aD;have f3:=Jy O (pos+1) (kH O pos aD) h1 (by omega);have f4:=DJ O (pos+1) (kH O pos aD);have f5:=YW O pos aD n h1 h2;have f6:=λ (a:Int) (h:0<=a) (hn:¬ n<=1)=>QA a n h (by omega);have f7:=λ hn=>f6 (oC O pos aD) f1.1 hn;have f8:=λ hn=>f6 (oC O pos aD * 256+oC O (pos+1) (kH O pos aD)) (by omega) hn;refine⟨λ _=>⟨?_,⟨rfl,?_,?_⟩,ag⟩,λ _=>⟨?_,λ _=>⟨?_,?_,?_,⟨?_,?_⟩,?_,⟨rfl,?_,?_⟩,ag⟩,λ _=>⟨⟨?_,?_⟩,?_,⟨rfl,?_,?_⟩,ag⟩⟩⟩;all_goals try and_intros
 all_goals (try simp only[a9f,a9g,a9h]);first|rfl|trivial|omega|(simp only[decide_eq_true_eq,decide_eq_false_iff_not,aI,av] at *;first|omega|(have g7:=f7 (by omega);have g8:=f8 (by omega);clear f6 f7 f8;first|omega|grind [VL,pkX,TT,XK])|grind [VL,pkX,TT,XK])
def jZ(O:List Int)(s:Sr)(n:Int):Bool:=decide (pk O s n=0)
def fO:mg:=⟨uS,[[.d (.slice (.int .u8)), .d (.int .i64), .d (.int .u64)]],[.b 0, .v (.int .i64)],[[(.slice (.int .u8)),(.int .i64),(.int .u64)]],λ (n:Int) (O:List Int) (pos:Int) (aD:Int)=>⟨(some (cd O (Sr.mk pos aD) 999999000/\n<=1000000),[⟨.bool,jZ O (Sr.mk pos aD) n⟩],[[⟨(.slice (.int .u8)),O⟩,⟨(.int .i64),(dk O (Sr.mk pos aD) n).pos⟩,⟨(.int .u64),(dk O (Sr.mk pos aD) n).aD⟩]])⟩⟩
def EU(n:Int)(O:List Int)(pos:Int)(aD:Int):Nat->aP:=cw
def jo:mg.Good fO:=by
 refine⟨aH sn,?_⟩;intro (n:Int) (O:List Int) (pos:Int) (aD:Int) (hp:cd O (Sr.mk pos aD) 999999000/\n<=1000000);refine tm [] [] [] [eA] [] [] [] [] trivial trivial trivial ⟨fD,ag⟩ sn BF (EU n O pos aD) rfl rfl (let v1:=Sr.mk pos aD;let v0:=dk O v1 n;(((cd O v1 999999000/\n<=1000000)/\((decide ((pk O v1 n)=(0:Int)))=(jZ O v1 n)/\((O=O/\((v0.pos)=(v0.pos)/\(v0.aD)=(v0.aD)))/\True))))) ?_;refine⟨?_,⟨?_,⟨⟨rfl,⟨rfl,rfl⟩⟩,ag⟩⟩⟩;all_goals try and_intros
 all_goals first|rfl|trivial|omega|(simp only[b0R,b0Q,aI,av,cD,mJ,dH,bC] at *;omega)|(simp[aI,av] at *;omega)|grind
mutual
def cJ:J->Nat
 | ⟨_,_,U⟩=>U.length+tp U
def tp:List J->Nat
 | []=>0
 | k::ks=>cJ k+tp ks
end
def JE:∀ xs,tp xs=cV cJ xs
 | []=>rfl
 | x::xs=>by rw[tp,cV,JE xs]
def Mk(x:J):cJ x=(x.U.length+cV cJ x.U):=by
 cases x;simp[cJ,JE];try omega
def jj(n:Nat):bc:=⟨pF,[.v (.st .expr)],λ (e:J)=>⟨(some (bG e<n/\cJ e<=1048576),[⟨(.st .expr),e⟩])⟩⟩
def jY:bc:=⟨pF,[.v (.st .expr)],λ (e:J)=>⟨(some (cJ e<=1048576),[⟨(.st .expr),e⟩])⟩⟩
def I7(e:J):Nat->aP:=(eR 0 (.a (Nat) (λ i=>i<=e.U.length) (λ i=>e.U.length - i) [0,1,6,7,8,9,10,11] (λ i=>[(14, .aO ⟨(.int .i64),((i:Int):Int)⟩)]) [2] (λ i=>[(3, .box [.aO ⟨(.int .i64),(e.ah:Int)⟩, .aO ⟨(.int .i64),(e.aX:Int)⟩, .aE 2400]),(2400, .aE (.st .expr) (e.U.take i:List J))])) cw)
def Hs(n:Nat)(hE:bu [])(hO:qa [jj n])(hM:tv [])(hS:sa []):bc.zq (jj (n+1)):=by
 refine⟨aH jS,?_⟩;intro (e:J) (hp:bG e<n+1/\cJ e<=1048576);refine Hu [] [jj n] [] [] [21,22,23] [] [] [1] hE hO hM hS jS Eu (I7 e) (let v0:=(e.U.length:Int);let v1:=((0:Int)=(0:Int)/\((0:Int)=(0:Int)/\(True/\True)))/\True;let v2:=(3:Nat)=3/\(2:Nat)=2;let v3:=e.ah=e.ah/\(e.aX=e.aX/\(True/\True));((av e.ah->(av e.aX->(e.U.length<=140737488355328->(av v0->((∃ i1:Nat,(i1<=e.U.length/\((True/\(True/\(e.U=e.U/\(v0=v0/\((0:Int)=(i1:Int)/\True)))))/\(v3/\((e.U.take i1)=[]/\v1)))))/\(∀ i1:Nat,let v4:=e.U.getD i1 zE;(i1<=e.U.length->(((decide ((i1:Int)<v0))=true->(aI (i1:Int) e.U.length/\(v2/\((2400:Nat)=2400/\((v4.ah=v4.ah/\(v4.aX=v4.aX/\(v4.U=v4.U/\True)))/\((bG (aQ v4)<n/\cJ (aQ v4)<=1048576)/\(v2/\((2400:Nat)=2400/\(v2/\((2400:Nat)=2400/\(bC ((e.U.take i1).length+([(aQ v4)]).length) 40/\(av ((i1:Int)+(1:Int))/\(∃ i2:Nat,(i2<=e.U.length/\(e.U.length - i2<e.U.length - i1/\((True/\(True/\(e.U=e.U/\(v0=v0/\(((i1:Int)+(1:Int))=(i2:Int)/\True)))))/\(v3/\(((e.U.take i1)++([(aQ v4)]))=(e.U.take i2)/\v1))))))))))))))))))/\((decide ((i1:Int)<v0))=false->(J.mk e.ah e.aX (e.U.take i1))=e))))))))))) ?_;rw[Mk] at hp;have f0:=gf e;have f1:=λ i (h:i<e.U.length)=>Lj cJ zE e.U i h;have f2:=λ i (h:i<e.U.length)=>cF zE e.U i h;have f3:=λ i (h:i<e.U.length)=>nf zE e.U i h;have f4:e.U.take 0=[]:=by simp
 have f5:∀ i,e.U.length<=i->e.U.take i=e.U:=λ i h=>b1I h;have f6:∀ i,(e.U.take i).length<=e.U.length:=λ i=>by simp;omega
 have f7:∀ ks,ks=e.U->J.mk e.ah e.aX ks=e:=λ ks h=>by subst h;cases e;rfl
 refine λ _ _ _ _=>⟨⟨0,?_,⟨ag,ag,rfl,rfl,?_,ag⟩,⟨rfl,rfl,ag,ag⟩,?_,⟨rfl,rfl,ag,ag⟩,ag⟩,λ i1 _=>⟨λ _=>⟨?_,⟨?_,?_⟩,?_,⟨rfl,rfl,rfl,?_⟩,?_,⟨?_,?_⟩,?_,⟨?_,?_⟩,?_,?_,?_,i1+1,?_,?_,⟨ag,ag,rfl,rfl,?_,ag⟩,⟨rfl,rfl,ag,ag⟩,?_,⟨rfl,rfl,ag,ag⟩,ag⟩,λ _=>?_⟩⟩;all_goals try and_intros
 all_goals try (first|with_reducible rfl|with_reducible assumption)
 all_goals try simp only[J.eta,cu] at *
 all_goals first|rfl|trivial|omega|(simp only[b0R,b0Q,aI,av,bC,b0W,b1f] at *;first|omega|(have:=f6 i1;omega)|exact f7 _ (f5 _ (by omega))|grind)|grind
def Ly:∀ n,qa [jj n]
 | 0=>⟨⟨aH jS,λ _ h=>absurd h.1 (b1x _)⟩,ag⟩
 | n+1=>by
  have ih:=Ly n;exact⟨Hs n trivial ⟨ih.1,ag⟩ trivial trivial,ag⟩
def Dw:bc.zq jY :=
 ⟨aH jS,λ e hp=>(Ly (bG e+1)).1.2 e (⟨b1b _,hp⟩)⟩
def lE(n:Nat):bc:=⟨ot,[.r (.st .expr)],λ (e:J)=>⟨(some (bG e<n/\cJ e<=1048576),[⟨(.st .expr),e⟩])⟩⟩
def ei:bc:=⟨ot,[.r (.st .expr)],λ (e:J)=>⟨(some (cJ e<=1048576),[⟨(.st .expr),e⟩])⟩⟩
def Nh(e:J):Nat->aP:=(eR 0 (.a (Nat) (λ i=>i<=e.U.length) (λ i=>e.U.length - i) [5,6,7,8,9,10,11,12,13] (λ i=>[(4, .aO ⟨(.int .i64),((i:Int):Int)⟩)]) [2] (λ i=>[(3, .box [.aO ⟨(.int .i64),(e.ah:Int)⟩, .aO ⟨(.int .i64),(e.aX:Int)⟩, .aE 3400]),(3400, .aE (.st .expr) (e.U.take i:List J))])) cw)
def K9(n:Nat)(hE:bu [])(hO:qa [lE n])(hM:tv [])(hS:sa []):bc.zq (lE (n+1)):=by
 refine⟨aH my,?_⟩;intro (e:J) (hp:bG e<n+1/\cJ e<=1048576);refine Hu [] [lE n] [] [] [31,32,33] [] [] [] hE hO hM hS my H6 (Nh e) (let v0:=((0:Int)=(0:Int)/\((0:Int)=(0:Int)/\(True/\True)))/\True;let v1:=(3:Nat)=3/\(2:Nat)=2;let v2:=e.ah=e.ah/\(e.aX=e.aX/\(True/\True));let v3:=(e.U.length:Int);((av e.ah->(av e.aX->((∃ i1:Nat,(i1<=e.U.length/\((e=e/\(True/\(True/\((0:Int)=(i1:Int)/\True))))/\(v2/\((e.U.take i1)=[]/\v0)))))/\(∀ i1:Nat,let v4:=e.U.getD i1 zE;let v5:=(i1:Int);(i1<=e.U.length->(e.U.length<=140737488355328->(av v3->(((decide (v5<v3))=true->(e.U.length<=140737488355328->(av v5->(aI v5 e.U.length/\(v1/\((3400:Nat)=3400/\(e=e/\(e=e/\(e.U=e.U/\(e.U=e.U/\(v5=v5/\(aI v5 e.U.length/\(v4=v4/\((bG v4<n/\cJ v4<=1048576)/\(v1/\((3400:Nat)=3400/\(v1/\((3400:Nat)=3400/\(bC ((e.U.take i1).length+([(aQ v4)]).length) 40/\(av (v5+(1:Int))/\(∃ i2:Nat,(i2<=e.U.length/\(e.U.length - i2<e.U.length - i1/\((e=e/\(True/\(True/\((v5+(1:Int))=(i2:Int)/\True))))/\(v2/\(((e.U.take i1)++([(aQ v4)]))=(e.U.take i2)/\v0))))))))))))))))))))))))))/\((decide (v5<v3))=false->(J.mk e.ah e.aX (e.U.take i1))=e))))))))))) ?_;rw[Mk] at hp;have f0:=gf e;have f1:=λ i (h:i<e.U.length)=>Lj cJ zE e.U i h;have f2:=λ i (h:i<e.U.length)=>cF zE e.U i h;have f3:=λ i (h:i<e.U.length)=>nf zE e.U i h;have f4:e.U.take 0=[]:=by simp
 have f5:∀ i,e.U.length<=i->e.U.take i=e.U:=λ i h=>b1I h;have f6:∀ i,(e.U.take i).length<=e.U.length:=λ i=>by simp;omega
 have f7:∀ ks,ks=e.U->J.mk e.ah e.aX ks=e:=λ ks h=>by subst h;cases e;rfl
 refine λ _ _=>⟨⟨0,?_,⟨rfl,ag,ag,?_,ag⟩,⟨rfl,rfl,ag,ag⟩,?_,⟨rfl,rfl,ag,ag⟩,ag⟩,λ i1 _ _ _=>⟨λ _ _ _=>⟨?_,⟨?_,?_⟩,?_,rfl,rfl,rfl,rfl,rfl,?_,rfl,?_,⟨?_,?_⟩,?_,⟨?_,?_⟩,?_,?_,?_,i1+1,?_,?_,⟨rfl,ag,ag,?_,ag⟩,⟨rfl,rfl,ag,ag⟩,?_,⟨rfl,rfl,ag,ag⟩,ag⟩,λ _=>?_⟩⟩;all_goals try and_intros
 all_goals try (first|with_reducible rfl|with_reducible assumption)
 all_goals try simp only[J.eta,cu] at *
 all_goals first|rfl|trivial|omega|(simp only[b0R,b0Q,aI,av,bC,b0W,b1f] at *;first|omega|(have:=f6 i1;omega)|exact f7 _ (f5 _ (by omega))|grind)|grind
def N4:∀ n,qa [lE n]
 | 0=>⟨⟨aH my,λ _ h=>absurd h.1 (b1x _)⟩,ag⟩
 | n+1=>by
  have ih:=N4 n;exact⟨K9 n trivial ⟨ih.1,ag⟩ trivial trivial,ag⟩
def Hq:bc.zq ei :=
 ⟨aH my,λ e hp=>(N4 (bG e+1)).1.2 e (⟨b1b _,hp⟩)⟩
def pA:bc:=⟨mH,[.v (.int .i64), .o (.st .expr), .o (.st .expr)],λ (k:Int) (a:J) (b:J)=>⟨(none,[⟨(.st .expr),J.mk k 0 [a,b]⟩])⟩⟩
def KW(k:Int)(a:J)(b:J):Nat->aP:=cw
def EV:bc.zq pA:=by
 refine⟨aH kZ,?_⟩;intro (k:Int) (a:J) (b:J) _;refine Hu [] [] [] [] [10] [] [] [] trivial trivial trivial trivial kZ tK (KW k a b) ((J.mk k (0:Int) ([(aQ a),(aQ b)]))=(J.mk k 0 [a,b])) ?_;refine ?_;all_goals try and_intros
 all_goals try (first|with_reducible rfl|with_reducible assumption)
 all_goals try simp only[J.eta,cu] at *
 all_goals first|rfl|trivial|omega|(simp only[b0R,b0Q,aI,av,cD,mJ,dH,bC] at *;omega)|(simp[aI,av] at *;omega)|grind
def fA:bc.Good ei:=Hq.plain
mutual
def Sd:∀ x:J,cJ x+1=ar x
 | ⟨_,_,ks⟩=>by
  have:=Qv ks;simp only[cJ,ar];omega
def Qv:∀ xs:List J,xs.length+tp xs=gw xs
 | []=>rfl
 | x::xs=>by
  have h1:=Sd x;have h2:=Qv xs;simp only[tp,gw,b0W];omega
end
def lfA(a:Int)(c:Bool):Bool := !c&&decide (0<a)
def xE(O:List Int)(a:Int)(c:Bool)(s:Sr):Sr:=if lfA a c=true then dk O s 3 else s
def lfX(O:List Int)(a:Int)(c:Bool)(s:Sr):Bool:=lfA a c && !jZ O s 3
def KV(O:List Int)(t:Int)(s:Sr):Sr:=if 0<t then dk O s 4 else s
def lfY(O:List Int)(t:Int)(s:Sr):Bool:=decide (0<t) && !jZ O s 4
def Pz(O:List Int)(t a:Int)(c:Bool)(s:Sr):J :=
 if lfX O a c s=true then J.mk 4 (pk O (xE O a c s) a) [] else if lfY O t (xE O a c s)=true then J.mk 3 (pk O (KV O t (xE O a c s)) t) [] else J.mk (1+pk O (KV O t (xE O a c s)) 2) 0 []
def I6(O:List Int)(t a:Int)(c:Bool)(s:Sr):Sr :=
 if lfX O a c s=true then dk O (xE O a c s) a else if lfY O t (xE O a c s)=true then dk O (KV O t (xE O a c s)) t else dk O (KV O t (xE O a c s)) 2
structure Gn where
 e:J
 s:Sr
 left:Int
def UU(O:List Int)(t a:Int)(c:Bool)(s:Sr)(l:Int):Gn:=⟨Pz O t a c s,I6 O t a c s,l⟩
def MA(O:List Int)(c:Bool)(s:Sr)(n:Int):Bool:=c||jZ O s n
def Gw(O:List Int)(c:Bool)(s:Sr)(n:Int):Sr:=if c=true then s else dk O s n
def mU(O:List Int)(s:Sr):Int:=pk O (dk O s 6) 10
def iO(O:List Int)(s:Sr):Sr:=dk O (dk O s 6) 10
def eg(O:List Int)(t a:Int):Nat->Bool->Sr->Int->Gn
 | 0,c,s,left=>UU O t a c s (left - 1)
 | d+1,c,s,left =>
  if left - 1<1 then UU O t a c s (left - 1) else
  if jZ O s 6=true then UU O t a c (dk O s 6) (left - 1) else
  if mU O s=0\/(c=true/\mU O s<4) then ⟨J.mk 5 0 [(eg O t a d true (iO O s) (left - 1)).e],(eg O t a d true (iO O s) (left - 1)).s,(eg O t a d true (iO O s) (left - 1)).left⟩ else
  if mU O s<4 then ⟨J.mk 8 0 [(eg O t a d false (iO O s) (left - 1)).e],(eg O t a d false (iO O s) (left - 1)).s,(eg O t a d false (iO O s) (left - 1)).left⟩ else
  let ra:=eg O t a d (MA O c (iO O s) 5) (Gw O c (iO O s) 5) (left - 1);let rb:=eg O t a d (MA O c ra.s 6) (Gw O c ra.s 6) ra.left;⟨J.mk (if mU O s<6 then 6 else 7) 0 [ra.e,rb.e],rb.s,rb.left⟩
def wG:Nat->Nat
 | 0=>1
 | d+1=>1+wG d+wG d
structure a0u(O:List Int)(t a:Int)(d:Nat)(c:Bool)(m left:Int)(r:Gn):Prop where
 tr:bV (t - 1) (a - 1) r.e=true
 cn:c=true->bD r.e=true
 nd:ar r.e<=wG d
 dp:bM r.e<=d+1
 sr:cd O r.s (m+16 * wG d)
 l0:left - wG d<=r.left
 l1:r.left<=left
def JL(d:Nat):1<=wG d:=by cases d<;>simp[wG];omega
def U3(t a k n:Int)(hk:cB k=0)(h5:¬ k=5)(hn:if k=3 then 0<=n/\n<=t else if k=4 then 0<=n/\n<=a else n=0):bV t a (J.mk k n [])=true:=by
 simp only[bV,pY,nW,b3D];rw[b3K (show cB k=(([]:List J).length:Int) from hk),decide_eq_false h5];simp only[b3C,b1D,b5k,b3D];split
 .rename_i h;rw[b0T h] at hn;exact b3K hn
 .rename_i h;rw[b0N h] at hn;split
  .rename_i h';rw[b0T h'] at hn;exact b3K hn
  .rename_i h';rw[b0N h'] at hn;exact b3K hn
def Xu(O:List Int)(t a:Int)(c:Bool)(s:Sr)(m l left b:Int)(d:Nat)(hb:m+6<=b+16 * (wG d:Int))(h:cd O s m)(ht:0<=t/\t<=3)(ha:0<=a/\a<=4)(hl:l=left - 1):a0u O t a d c b left (UU O t a c s l):=by
 have hw:=JL d;have h1:cd O (xE O a c s) (m+2):=by
  unfold xE;split
  .exact h.next 3
  .exact h.mono (by omega)
 have h2:cd O (KV O t (xE O a c s)) (m+4):=by
  unfold KV;split
  .exact (h1.next 4).mono (by omega)
  .exact h1.mono (by omega)
 have key:∀ (k n:Int) (s':Sr),cB k=0->¬ k=5->(if k=3 then 0<=n/\n<=t - 1 else if k=4 then 0<=n/\n<=a - 1 else n=0)->(c=true->tM k=true)->cd O s' (m+6) ->
   Pz O t a c s=J.mk k n []->I6 O t a c s=s'->a0u O t a d c b left (UU O t a c s l):=by
  intro k n s' hk h5 hn hc hs e1 e2;unfold UU;rw[e1,e2];refine⟨U3 _ _ k n hk h5 hn,λ q=>?_,by simp[ar,gw];omega,by simp[bM,kf],hs.mono (by omega),by show left - _<=l;omega,by show l<=left;omega⟩;simp[bD,zN,hc q]
 by_cases x:lfX O a c s=true
 .have hx:=x;simp only[lfX,lfA,Bool.and_eq_true,Bool.not_eq_true',decide_eq_true_eq] at hx;obtain⟨⟨Pe,hx2⟩,hx3⟩:=hx;have hp:=h1.pk a;refine key 4 (pk O (xE O a c s) a) (dk O (xE O a c s) a) (by decide) (by decide) ?_ (λ q=>by rw[Pe] at q;cases q) ((h1.next a).mono (by omega)) (by unfold Pz;rw[if_pos x]) (by unfold I6;rw[if_pos x]);rw[if_neg (by decide),if_pos rfl];omega
 .by_cases y:lfY O t (xE O a c s)=true
  .have hy:=y;simp only[lfY,Bool.and_eq_true,Bool.not_eq_true',decide_eq_true_eq] at hy;have hp:=h2.pk t;refine key 3 (pk O (KV O t (xE O a c s)) t) (dk O (KV O t (xE O a c s)) t) (by decide) (by decide) ?_ (λ _=>by decide) ((h2.next t).mono (by omega)) (by unfold Pz;rw[if_neg x,if_pos y]) (by unfold I6;rw[if_neg x,if_pos y]);rw[if_pos rfl];omega
  .have hp:=h2.pk 2;have hv:pk O (KV O t (xE O a c s)) 2=0\/pk O (KV O t (xE O a c s)) 2=1:=by omega
   refine key (1+pk O (KV O t (xE O a c s)) 2) 0 (dk O (KV O t (xE O a c s)) 2) ?_ (by omega) ?_ (λ _=>?_) ((h2.next 2).mono (by omega)) (by unfold Pz;rw[if_neg x,if_neg y]) (by unfold I6;rw[if_neg x,if_neg y])
   .rcases hv with e|e<;>rw[e]<;>decide
   .rw[b0N (by omega),b0N (by omega)]
   .rcases hv with e|e<;>rw[e]<;>decide
def Lm(t a:Int)(x:J)(k:Int)(h:bV t a x=true)(hk:(k=5/\bD x=true)\/k=8):bV t a (J.mk k 0 [x])=true:=by
 simp only[bV,pY,nW,h,b3D];rcases hk with ⟨rfl,hc⟩|rfl
 .simp[cB,hc]
 .simp[cB]
def Sg(t a:Int)(x y:J)(k:Int)(h1:bV t a x=true)(h2:bV t a y=true)(hk:k=6\/k=7):bV t a (J.mk k 0 [x,y])=true:=by
 simp only[bV,pY,nW,h1,h2,b3D];rcases hk with rfl|rfl<;>simp[cB]
def Gt(O:List Int)(t a:Int)(ht:0<=t/\t<=3)(ha:0<=a/\a<=4):∀ (d:Nat) (c:Bool) (s:Sr) (m left:Int),cd O s m->a0u O t a d c m left (eg O t a d c s left)
 | 0,c,s,m,left,h=>Xu O t a c s m (left - 1) left m 0 (by simp only[wG];omega) h ht ha rfl
 | d+1,c,s,m,left,h=>by
  have hw:=JL d;have hw1:wG (d+1)=1+wG d+wG d:=rfl;unfold eg;by_cases c1:left - 1<1
  .rw[b0T c1];exact Xu O t a c s m (left - 1) left m (d+1) (by omega) h ht ha rfl
  rw[b0N c1];by_cases c2:jZ O s 6=true
  .rw[b0T c2];exact Xu O t a c _ (m+2) (left - 1) left m (d+1) (by omega) (h.next 6) ht ha rfl
  rw[b0N c2];have h2:cd O (iO O s) (m+4):=((h.next 6).next 10).mono (by omega);by_cases c3:mU O s=0\/(c=true/\mU O s<4)
  .rw[b0T c3];have r:=Gt O t a ht ha d true (iO O s) (m+4) (left - 1) h2;refine⟨Lm _ _ _ 5 r.tr (.inl ⟨rfl,r.cn rfl⟩),λ _=>?_,?_,?_,r.sr.mono (by omega),?_,?_⟩
   .simp[bD,zN,r.cn rfl,tM]
   .have:=r.nd;simp only[ar,gw];omega
   .have:=r.dp;simp only[bM,kf];omega
   .have:=r.l0;show left - _<=(eg O t a d true (iO O s) (left - 1)).left;omega
   .have:=r.l1;show (eg O t a d true (iO O s) (left - 1)).left<=left;omega
  rw[b0N c3];by_cases c4:mU O s<4
  .rw[b0T c4];have r:=Gt O t a ht ha d false (iO O s) (m+4) (left - 1) h2;refine⟨Lm _ _ _ 8 r.tr (.inr rfl),λ q=>absurd (.inr ⟨q,c4⟩) c3,?_,?_,r.sr.mono (by omega),?_,?_⟩
   .have:=r.nd;simp only[ar,gw];omega
   .have:=r.dp;simp only[bM,kf];omega
   .have:=r.l0;show left - _<=(eg O t a d false (iO O s) (left - 1)).left;omega
   .have:=r.l1;show (eg O t a d false (iO O s) (left - 1)).left<=left;omega
  rw[b0N c4];have hS:∀ (x:Sr) (k n:Int),cd O x k->cd O (Gw O c x n) (k+2):=λ x k n q=>by
   unfold Gw;split
   .exact q.mono (by omega)
   .exact q.next n
  have ra:=Gt O t a ht ha d (MA O c (iO O s) 5) (Gw O c (iO O s) 5) (m+4+2) (left - 1) (hS _ _ 5 h2);generalize eg O t a d (MA O c (iO O s) 5) (Gw O c (iO O s) 5) (left - 1)=A at ra;have rb:=Gt O t a ht ha d (MA O c A.s 6) (Gw O c A.s 6) (m+4+2+16 * wG d+2) A.left (hS _ _ 6 ra.sr);simp only;generalize eg O t a d (MA O c A.s 6) (Gw O c A.s 6) A.left=B at rb;have hk:(if mU O s<6 then (6:Int) else 7)=6\/(if mU O s<6 then (6:Int) else 7)=7:=by split<;>simp
  generalize (if mU O s<6 then (6:Int) else 7)=k at hk;refine⟨Sg _ _ _ _ k ra.tr rb.tr hk,λ q=>?_,?_,?_,rb.sr.mono (by omega),?_,?_⟩
  .have q1:=ra.cn (by simp[MA,q]);have q2:=rb.cn (by simp[MA,q]);rcases hk with rfl|rfl<;>simp[bD,zN,q1,q2,tM]
  .have:=ra.nd;have:=rb.nd;simp only[ar,gw];omega
  .have:=ra.dp;have:=rb.dp;simp only[bM,kf];omega
  .have:=ra.l0;have:=rb.l0;show left - _<=B.left;omega
  .have:=ra.l1;have:=rb.l1;show B.left<=left;omega
def ky:mg:=⟨sK,[[.p 1, .d (.int .i64), .d (.int .i64), .d (.int .i64)],[.d (.slice (.int .u8)), .d (.int .i64), .d (.int .u64)]],[.b 0, .v .bool],[[(.int .i64),(.int .i64),(.int .i64)],[(.slice (.int .u8)),(.int .i64),(.int .u64)]],λ (c:Bool) (tn:Int) (an:Int) (left:Int) (O:List Int) (pos:Int) (aD:Int)=>⟨(some (cd O (Sr.mk pos aD) 990000000/\(0<=tn/\tn<=3)/\0<=an/\an<=4),[⟨(.st .expr),Pz O tn an c (Sr.mk pos aD)⟩],[[⟨(.int .i64),tn⟩,⟨(.int .i64),an⟩,⟨(.int .i64),left⟩],[⟨(.slice (.int .u8)),O⟩,⟨(.int .i64),(I6 O tn an c (Sr.mk pos aD)).pos⟩,⟨(.int .u64),(I6 O tn an c (Sr.mk pos aD)).aD⟩]])⟩⟩
def Df(c:Bool)(tn:Int)(an:Int)(left:Int)(O:List Int)(pos:Int)(aD:Int):Nat->aP:=cw
abbrev Aj(c:Bool)(tn:Int)(an:Int)(left:Int)(O:List Int)(pos:Int)(aD:Int):Prop:=(let v3:=tn=tn/\(an=an/\left=left);let v5:=Sr.mk pos aD;let v1:=I6 O tn an c v5;let v4:=Pz O tn an c v5;let v6:=(2:Int);let v7:=(3:Int);let v0:=dk O v5 v7;let v2:=dk O v0 (4:Int);((cd O v5 999999000/\v7<=1000000)/\(((!(jZ O v5 v7))=true ->
 (av an ->
 ((cd O v0 999999000/\an<=1000000)/\((J.mk (4:Int) (pk O v0 an) [])=v4/\(v3/\((O=O/\(((dk O v0 an).pos)=(v1.pos)/\((dk O v0 an).aD)=(v1.aD)))/\True))))))/\((!(jZ O v5 v7))=false ->
 (av tn ->
 (((decide ((0:Int)<tn))=true ->
 ((cd O v0 999999000/\(4:Int)<=1000000)/\(((!(jZ O v0 (4:Int)))=true ->
 (av tn ->
 ((cd O v2 999999000/\tn<=1000000)/\((J.mk v7 (pk O v2 tn) [])=v4/\(v3/\((O=O/\(((dk O v2 tn).pos)=(v1.pos)/\((dk O v2 tn).aD)=(v1.aD)))/\True))))))/\((!(jZ O v0 (4:Int)))=false ->
 ((cd O v2 999999000/\v6<=1000000)/\(av ((1:Int)+(pk O v2 v6))/\((J.mk ((1:Int)+(pk O v2 v6)) (0:Int) [])=v4/\(v3/\((O=O/\(((dk O v2 v6).pos)=(v1.pos)/\((dk O v2 v6).aD)=(v1.aD)))/\True)))))))))/\((decide ((0:Int)<tn))=(!true) ->
 ((false=true ->
 (av tn ->
 ((cd O v0 999999000/\tn<=1000000)/\((J.mk v7 (pk O v0 tn) [])=v4/\(v3/\((O=O/\(((dk O v0 tn).pos)=(v1.pos)/\((dk O v0 tn).aD)=(v1.aD)))/\True))))))/\(false=false ->
 ((cd O v0 999999000/\v6<=1000000)/\(av ((1:Int)+(pk O v0 v6))/\((J.mk ((1:Int)+(pk O v0 v6)) (0:Int) [])=v4/\(v3/\((O=O/\(((dk O v0 v6).pos)=(v1.pos)/\((dk O v0 v6).aD)=(v1.aD)))/\True))))))))))))))
abbrev Ak(c:Bool)(tn:Int)(an:Int)(left:Int)(O:List Int)(pos:Int)(aD:Int):Prop:=(let v0:=Sr.mk pos aD;let v1:=I6 O tn an c v0;let v2:=dk O v0 (4:Int);let v3:=tn=tn/\(an=an/\left=left);let v4:=Pz O tn an c v0;let v5:=(2:Int);((false=true ->
 (av an ->
 ((cd O v0 999999000/\an<=1000000)/\((J.mk (4:Int) (pk O v0 an) [])=v4/\(v3/\((O=O/\(((dk O v0 an).pos)=(v1.pos)/\((dk O v0 an).aD)=(v1.aD)))/\True))))))/\(false=false ->
 (av tn ->
 (((decide ((0:Int)<tn))=true ->
 ((cd O v0 999999000/\(4:Int)<=1000000)/\(((!(jZ O v0 (4:Int)))=true ->
 (av tn ->
 ((cd O v2 999999000/\tn<=1000000)/\((J.mk (3:Int) (pk O v2 tn) [])=v4/\(v3/\((O=O/\(((dk O v2 tn).pos)=(v1.pos)/\((dk O v2 tn).aD)=(v1.aD)))/\True))))))/\((!(jZ O v0 (4:Int)))=false ->
 ((cd O v2 999999000/\v5<=1000000)/\(av ((1:Int)+(pk O v2 v5))/\((J.mk ((1:Int)+(pk O v2 v5)) (0:Int) [])=v4/\(v3/\((O=O/\(((dk O v2 v5).pos)=(v1.pos)/\((dk O v2 v5).aD)=(v1.aD)))/\True)))))))))/\((decide ((0:Int)<tn))=(!true) ->
 ((false=true ->
 (av tn ->
 ((cd O v0 999999000/\tn<=1000000)/\((J.mk (3:Int) (pk O v0 tn) [])=v4/\(v3/\((O=O/\(((dk O v0 tn).pos)=(v1.pos)/\((dk O v0 tn).aD)=(v1.aD)))/\True))))))/\(false=false ->
 ((cd O v0 999999000/\v5<=1000000)/\(av ((1:Int)+(pk O v0 v5))/\((J.mk ((1:Int)+(pk O v0 v5)) (0:Int) [])=v4/\(v3/\((O=O/\(((dk O v0 v5).pos)=(v1.pos)/\((dk O v0 v5).aD)=(v1.aD)))/\True)))))))))))))
def ze:mg.Good ky:=by
 refine⟨aH qk,?_⟩;intro (c:Bool) (tn:Int) (an:Int) (left:Int) (O:List Int) (pos:Int) (aD:Int) (hp:cd O (Sr.mk pos aD) 990000000/\(0<=tn/\tn<=3)/\0<=an/\an<=4);refine tm [] [] [] [fO,eA] [] [] [] [] trivial trivial trivial ⟨jo,fD,ag⟩ qk zI (Df c tn an left O pos aD) rfl rfl (let v0:=Aj c tn an left O pos aD;let v1:=Ak c tn an left O pos aD;((((!c)=true->(av an->(((decide ((0:Int)<an))=true->v0)/\((decide ((0:Int)<an))=(!true)->v1))))/\((!c)=(!true)->((false=true->v0)/\(false=(!true)->v1)))))) ?_;have p0:=hp.1.pk 2;have p1:=(hp.1.next 3).pk 2;have p2:=(hp.1.next 4).pk 2;have p3:=((hp.1.next 3).next 4).pk 2;refine⟨λ _ _=>⟨λ _=>⟨?_,λ _ _=>⟨?_,?_,⟨rfl,rfl,rfl⟩,⟨rfl,?_,?_⟩,ag⟩,λ _ _=>⟨λ _=>⟨?_,λ _ _=>⟨?_,?_,⟨rfl,rfl,rfl⟩,⟨rfl,?_,?_⟩,ag⟩,λ _=>⟨?_,?_,?_,⟨rfl,rfl,rfl⟩,⟨rfl,?_,?_⟩,ag⟩⟩,λ _=>⟨λ _ _=>⟨?_,?_,⟨rfl,rfl,rfl⟩,⟨rfl,?_,?_⟩,ag⟩,λ _=>⟨?_,?_,?_,⟨rfl,rfl,rfl⟩,⟨rfl,?_,?_⟩,ag⟩⟩⟩⟩,λ _=>⟨λ _ _=>⟨?_,?_,⟨rfl,rfl,rfl⟩,⟨rfl,?_,?_⟩,ag⟩,λ _ _=>⟨λ _=>⟨?_,λ _ _=>⟨?_,?_,⟨rfl,rfl,rfl⟩,⟨rfl,?_,?_⟩,ag⟩,λ _=>⟨?_,?_,?_,⟨rfl,rfl,rfl⟩,⟨rfl,?_,?_⟩,ag⟩⟩,λ _=>⟨λ _ _=>⟨?_,?_,⟨rfl,rfl,rfl⟩,⟨rfl,?_,?_⟩,ag⟩,λ _=>⟨?_,?_,?_,⟨rfl,rfl,rfl⟩,⟨rfl,?_,?_⟩,ag⟩⟩⟩⟩⟩,λ _=>⟨λ _=>⟨?_,λ _ _=>⟨?_,?_,⟨rfl,rfl,rfl⟩,⟨rfl,?_,?_⟩,ag⟩,λ _ _=>⟨λ _=>⟨?_,λ _ _=>⟨?_,?_,⟨rfl,rfl,rfl⟩,⟨rfl,?_,?_⟩,ag⟩,λ _=>⟨?_,?_,?_,⟨rfl,rfl,rfl⟩,⟨rfl,?_,?_⟩,ag⟩⟩,λ _=>⟨λ _ _=>⟨?_,?_,⟨rfl,rfl,rfl⟩,⟨rfl,?_,?_⟩,ag⟩,λ _=>⟨?_,?_,?_,⟨rfl,rfl,rfl⟩,⟨rfl,?_,?_⟩,ag⟩⟩⟩⟩,λ _=>⟨λ _ _=>⟨?_,?_,⟨rfl,rfl,rfl⟩,⟨rfl,?_,?_⟩,ag⟩,λ _ _=>⟨λ _=>⟨?_,λ _ _=>⟨?_,?_,⟨rfl,rfl,rfl⟩,⟨rfl,?_,?_⟩,ag⟩,λ _=>⟨?_,?_,?_,⟨rfl,rfl,rfl⟩,⟨rfl,?_,?_⟩,ag⟩⟩,λ _=>⟨λ _ _=>⟨?_,?_,⟨rfl,rfl,rfl⟩,⟨rfl,?_,?_⟩,ag⟩,λ _=>⟨?_,?_,?_,⟨rfl,rfl,rfl⟩,⟨rfl,?_,?_⟩,ag⟩⟩⟩⟩⟩⟩;all_goals try and_intros
 all_goals (try simp only[Ss] at *);first|omega|(first|exact cd.mono hp.1 (by decide)|exact cd.mono (hp.1.next _) (by decide)|exact cd.mono ((hp.1.next _).next _) (by decide))|(cases c<;>grind [Pz,I6,lfX,lfY,xE,KV,lfA])
def oW(aV:Int)(h:¬ aV<1):aV.toNat=(aV - 1).toNat+1:=by omega
def QF(aV:Int)(h:¬ aV<1):(wG aV.toNat:Int)=1+2 * (wG (aV - 1).toNat:Int):=by
 rw[oW aV h];simp only[wG];omega
def a6j(O:List Int)(t a aV left:Int)(c:Bool)(s:Sr)(h:aV<1\/left - 1<1):eg O t a aV.toNat c s left=UU O t a c s (left - 1):=by
 by_cases hd:aV<1
 .rw[show aV.toNat=0 by omega,eg]
 .rw[oW aV hd,eg,b0T (by omega)]
def a6k(O:List Int)(t a aV left:Int)(c:Bool)(s:Sr)(hd:¬ aV<1)(hl:¬ left - 1<1)(h:jZ O s 6=true):eg O t a aV.toNat c s left=UU O t a c (dk O s 6) (left - 1):=by
 rw[oW aV hd,eg,b0N hl,b0T h]
def a6R{x:Int}{c:Bool}(h2:¬ x=0)(h3:c=false):¬ (x=0\/(c=true/\x<4)):=by
 intro q;rcases q with q|q
 .exact h2 q
 .exact absurd (q.1.symm.trans h3) (by decide)
structure Bx(O:List Int)(aV left:Int)(s:Sr):Prop where
 d:¬ aV<1
 l:¬ left - 1<1
 o:jZ O s 6=false
def a6l(O:List Int)(t a aV left:Int)(c:Bool)(s:Sr)(g:Bx O aV left s)(h:mU O s=0\/(c=true/\mU O s<4)):eg O t a aV.toNat c s left=⟨J.mk 5 0 [(eg O t a (aV - 1).toNat true (iO O s) (left - 1)).e],(eg O t a (aV - 1).toNat true (iO O s) (left - 1)).s,(eg O t a (aV - 1).toNat true (iO O s) (left - 1)).left⟩:=by
 rw[oW aV g.d,eg,b0N g.l,b0N (by rw[g.o];decide),b0T h]
def a6m(O:List Int)(t a aV left:Int)(c:Bool)(s:Sr)(g:Bx O aV left s)(h:¬ (mU O s=0\/(c=true/\mU O s<4)))(h4:mU O s<4):eg O t a aV.toNat c s left=⟨J.mk 8 0 [(eg O t a (aV - 1).toNat false (iO O s) (left - 1)).e],(eg O t a (aV - 1).toNat false (iO O s) (left - 1)).s,(eg O t a (aV - 1).toNat false (iO O s) (left - 1)).left⟩:=by
 rw[oW aV g.d,eg,b0N g.l,b0N (by rw[g.o];decide),b0N h,b0T h4]
def xu(O:List Int)(t a aV left:Int)(c:Bool)(s:Sr):Gn:=eg O t a (aV - 1).toNat (MA O c (iO O s) 5) (Gw O c (iO O s) 5) (left - 1)
def QO(O:List Int)(t a aV:Int)(c:Bool)(r:Gn):Gn:=eg O t a (aV - 1).toNat (MA O c r.s 6) (Gw O c r.s 6) r.left
def gnX(O:List Int)(s:Sr):Int:=if mU O s<6 then 6 else 7
def a1o(O:List Int)(t a aV left:Int)(c:Bool)(s:Sr)(g:Bx O aV left s)(h4:¬ mU O s<4):eg O t a aV.toNat c s left=⟨J.mk (gnX O s) 0 [(xu O t a aV left c s).e,(QO O t a aV c (xu O t a aV left c s)).e],(QO O t a aV c (xu O t a aV left c s)).s,(QO O t a aV c (xu O t a aV left c s)).left⟩:=by
 rw[oW aV g.d,eg,b0N g.l,b0N (by rw[g.o];decide),b0N,b0N h4]
 .rfl
 .have:=g.o;intro q;rcases q with q|q<;>omega
structure Wl(O:List Int)(aV left:Int)(s:Sr)(k:Int):Prop where
 s:cd O s (980000000 - 16 * (wG (aV - 1).toNat:Int) - k)
 l0 : -1000000+(wG (aV - 1).toNat:Int)<=left
 l1:left<=1000000
def Yz(O:List Int)(c:Bool)(s:Sr)(n k:Int)(h:cd O s k):cd O (Gw O c s n) (k+2):=by
 unfold Gw;split
 .exact h.mono (by omega)
 .exact h.next n
def a6n(O:List Int)(aV left:Int)(s:Sr)(hd:¬ aV<1)(hs:cd O s (980000000 - 16 * (wG aV.toNat:Int)))(h0 : -1000000+(wG aV.toNat:Int)<=left)(h1:left<=1000000):Wl O aV (left - 1) (iO O s) 8:=by
 have hw:=QF aV hd;have hp:=JL (aV - 1).toNat;exact⟨((hs.next 6).next 10).mono (by omega),by omega,by omega⟩
def a6o(O:List Int)(t a aV left:Int)(c:Bool)(s:Sr)(hd:¬ aV<1)(hs:cd O s (980000000 - 16 * (wG aV.toNat:Int)))(h0 : -1000000+(wG aV.toNat:Int)<=left)(h1:left<=1000000)(ht:0<=t/\t<=3)(ha:0<=a/\a<=4) :
  Wl O aV (xu O t a aV left c s).left (xu O t a aV left c s).s 8:=by
 have hw:=QF aV hd;have hp:=JL (aV - 1).toNat;have r:=Gt O t a ht ha (aV - 1).toNat (MA O c (iO O s) 5) (Gw O c (iO O s) 5) _ (left - 1) (Yz O c _ 5 _ ((hs.next 6).next 10));have e:xu O t a aV left c s=eg O t a (aV - 1).toNat (MA O c (iO O s) 5) (Gw O c (iO O s) 5) (left - 1):=rfl;rw[<-e] at r;have r0:=r.l0;have r1:=r.l1;exact⟨r.sr.mono (by omega),by omega,by omega⟩
def Wl.go{O:List Int}{aV left:Int}{s:Sr}(h:Wl O aV left s 8)(c:Bool)(n:Int):Wl O aV left (Gw O c s n) 0:=⟨(Yz O c s n _ h.s).mono (by omega),h.l0,h.l1⟩
def gF(n:Nat):mg:=⟨mc,[[.p 1, .d (.int .i64), .d (.int .i64), .d (.int .i64)],[.d (.slice (.int .u8)), .d (.int .i64), .d (.int .u64)]],[.b 0, .v .bool, .v (.int .i64)],[[(.int .i64),(.int .i64),(.int .i64)],[(.slice (.int .u8)),(.int .i64),(.int .u64)]],λ (c:Bool) (aV:Int) (tn:Int) (an:Int) (left:Int) (O:List Int) (pos:Int) (aD:Int)=>⟨(some (aV.toNat<n/\cd O (Sr.mk pos aD) (980000000 - 16 * (wG aV.toNat:Int))/\(0<=tn/\tn<=3)/\(0<=an/\an<=4)/\aV<=10 /\ -1000000+(wG aV.toNat:Int)<=left/\left<=1000000),[⟨(.st .expr),(eg O tn an aV.toNat c (Sr.mk pos aD) left).e⟩],[[⟨(.int .i64),tn⟩,⟨(.int .i64),an⟩,⟨(.int .i64),(eg O tn an aV.toNat c (Sr.mk pos aD) left).left⟩],[⟨(.slice (.int .u8)),O⟩,⟨(.int .i64),(eg O tn an aV.toNat c (Sr.mk pos aD) left).s.pos⟩,⟨(.int .u64),(eg O tn an aV.toNat c (Sr.mk pos aD) left).s.aD⟩]])⟩⟩
def qu:mg:=⟨mc,[[.p 1, .d (.int .i64), .d (.int .i64), .d (.int .i64)],[.d (.slice (.int .u8)), .d (.int .i64), .d (.int .u64)]],[.b 0, .v .bool, .v (.int .i64)],[[(.int .i64),(.int .i64),(.int .i64)],[(.slice (.int .u8)),(.int .i64),(.int .u64)]],λ (c:Bool) (aV:Int) (tn:Int) (an:Int) (left:Int) (O:List Int) (pos:Int) (aD:Int)=>⟨(some (cd O (Sr.mk pos aD) (980000000 - 16 * (wG aV.toNat:Int))/\(0<=tn/\tn<=3)/\(0<=an/\an<=4)/\aV<=10 /\ -1000000+(wG aV.toNat:Int)<=left/\left<=1000000),[⟨(.st .expr),(eg O tn an aV.toNat c (Sr.mk pos aD) left).e⟩],[[⟨(.int .i64),tn⟩,⟨(.int .i64),an⟩,⟨(.int .i64),(eg O tn an aV.toNat c (Sr.mk pos aD) left).left⟩],[⟨(.slice (.int .u8)),O⟩,⟨(.int .i64),(eg O tn an aV.toNat c (Sr.mk pos aD) left).s.pos⟩,⟨(.int .u64),(eg O tn an aV.toNat c (Sr.mk pos aD) left).s.aD⟩]])⟩⟩
def De(c:Bool)(aV:Int)(tn:Int)(an:Int)(left:Int)(O:List Int)(pos:Int)(aD:Int):Nat->aP:=(eR 100004 (.u (Bx O aV left (Sr.mk pos aD)) [11,12,13,14,15,16,17] [] [6] [(400000, .box [.ptr 400001 0, .aO ⟨(.int .i64),(tn:Int)⟩, .aO ⟨(.int .i64),(an:Int)⟩, .aO ⟨(.int .i64),(left - 1:Int)⟩]),(400001, .box [.aO ⟨(.slice (.int .u8)),(O:List Int)⟩, .aO ⟨(.int .i64),((dk O (Sr.mk pos aD) 6).pos:Int)⟩, .aO ⟨(.int .u64),((dk O (Sr.mk pos aD) 6).aD:Int)⟩])] (eR 100009 (.u (Bx O aV left (Sr.mk pos aD)/\¬ mU O (Sr.mk pos aD)<4) [37,38,39,40,41] [(7, .aO ⟨(.int .i64),(mU O (Sr.mk pos aD):Int)⟩)] [6] [(400000, .box [.ptr 400001 0, .aO ⟨(.int .i64),(tn:Int)⟩, .aO ⟨(.int .i64),(an:Int)⟩, .aO ⟨(.int .i64),(left - 1:Int)⟩]),(400001, .box [.aO ⟨(.slice (.int .u8)),(O:List Int)⟩, .aO ⟨(.int .i64),((iO O (Sr.mk pos aD)).pos:Int)⟩, .aO ⟨(.int .u64),((iO O (Sr.mk pos aD)).aD:Int)⟩])] (eR 100012 (.u (Bx O aV left (Sr.mk pos aD)/\¬ mU O (Sr.mk pos aD)<4) [7] [(8, .aO ⟨(.int .i64),(gnX O (Sr.mk pos aD):Int)⟩)] [6] [(400000, .box [.ptr 400001 0, .aO ⟨(.int .i64),(tn:Int)⟩, .aO ⟨(.int .i64),(an:Int)⟩, .aO ⟨(.int .i64),(left - 1:Int)⟩]),(400001, .box [.aO ⟨(.slice (.int .u8)),(O:List Int)⟩, .aO ⟨(.int .i64),((iO O (Sr.mk pos aD)).pos:Int)⟩, .aO ⟨(.int .u64),((iO O (Sr.mk pos aD)).aD:Int)⟩])] (eR 100013 (.u (Bx O aV left (Sr.mk pos aD)/\¬ mU O (Sr.mk pos aD)<4) [] [(9, .ptr 9 0)] [6] [(400000, .box [.ptr 400001 0, .aO ⟨(.int .i64),(tn:Int)⟩, .aO ⟨(.int .i64),(an:Int)⟩, .aO ⟨(.int .i64),((xu O tn an aV left c (Sr.mk pos aD)).left:Int)⟩]),(400001, .box [.aO ⟨(.slice (.int .u8)),(O:List Int)⟩, .aO ⟨(.int .i64),((xu O tn an aV left c (Sr.mk pos aD)).s.pos:Int)⟩, .aO ⟨(.int .u64),((xu O tn an aV left c (Sr.mk pos aD)).s.aD:Int)⟩]),(9, .box [.aO ⟨(.int .i64),((xu O tn an aV left c (Sr.mk pos aD)).e.ah:Int)⟩, .aO ⟨(.int .i64),((xu O tn an aV left c (Sr.mk pos aD)).e.aX:Int)⟩, .aE 7000]),(7000, .aE (.st .expr) ((xu O tn an aV left c (Sr.mk pos aD)).e.U:List J))] (eR 100014 (.u (Bx O aV left (Sr.mk pos aD)/\¬ mU O (Sr.mk pos aD)<4) [0,1,2] [(10, .ptr 10 0)] [6,9,7000] [(400000, .box [.ptr 400001 0, .aO ⟨(.int .i64),(tn:Int)⟩, .aO ⟨(.int .i64),(an:Int)⟩, .aO ⟨(.int .i64),((QO O tn an aV c (xu O tn an aV left c (Sr.mk pos aD))).left:Int)⟩]),(400001, .box [.aO ⟨(.slice (.int .u8)),(O:List Int)⟩, .aO ⟨(.int .i64),((QO O tn an aV c (xu O tn an aV left c (Sr.mk pos aD))).s.pos:Int)⟩, .aO ⟨(.int .u64),((QO O tn an aV c (xu O tn an aV left c (Sr.mk pos aD))).s.aD:Int)⟩]),(10, .box [.aO ⟨(.int .i64),((QO O tn an aV c (xu O tn an aV left c (Sr.mk pos aD))).e.ah:Int)⟩, .aO ⟨(.int .i64),((QO O tn an aV c (xu O tn an aV left c (Sr.mk pos aD))).e.aX:Int)⟩, .aE 7100]),(7100, .aE (.st .expr) ((QO O tn an aV c (xu O tn an aV left c (Sr.mk pos aD))).e.U:List J))] cw) cw)) cw)) cw)) cw)) cw)
abbrev Ad(c:Bool)(aV:Int)(tn:Int)(an:Int)(left:Int)(O:List Int)(pos:Int)(aD:Int):Prop:=(let v0:=Sr.mk pos aD;let v1:=eg O tn an aV.toNat c v0 left;let v2:=dk O v0 (6:Int);((cd O v0 999999000/\(6:Int)<=1000000)/\(((jZ O v0 (6:Int))=true ->
 ((cd O v2 990000000/\(0<=tn/\tn<=3)/\0<=an/\an<=4)/\((aQ (Pz O tn an c v2))=(v1.e)/\((tn=tn/\(an=an/\(left - (1:Int))=(v1.left)))/\((O=O/\(((I6 O tn an c v2).pos)=(v1.s.pos)/\((I6 O tn an c v2).aD)=(v1.s.aD)))/\True)))))/\((jZ O v0 (6:Int))=false ->
 (∃ u1:Unit,(Bx O aV left v0/\((True/\(c=c/\(aV=aV/\(True/\True))))/\((True/\(tn=tn/\(an=an/\((left - (1:Int))=(left - 1)/\True))))/\((O=O/\((v2.pos)=((dk O v0 6).pos)/\((v2.aD)=((dk O v0 6).aD)/\True)))/\(((0:Int)=(0:Int)/\((0:Int)=(0:Int)/\(True/\True)))/\True))))))))))
abbrev Ae(c:Bool)(aV:Int)(tn:Int)(an:Int)(left:Int)(O:List Int)(pos:Int)(aD:Int):Prop:=(let v1:=Sr.mk pos aD;let v0:=eg O tn an aV.toNat c v1 left;((true=true ->
 ((cd O v1 990000000/\(0<=tn/\tn<=3)/\0<=an/\an<=4)/\((aQ (Pz O tn an c v1))=(v0.e)/\((tn=tn/\(an=an/\(left - (1:Int))=(v0.left)))/\((O=O/\(((I6 O tn an c v1).pos)=(v0.s.pos)/\((I6 O tn an c v1).aD)=(v0.s.aD)))/\True)))))/\(true=false ->
 (∃ u1:Unit,(Bx O aV left v1/\((True/\(c=c/\(aV=aV/\(True/\True))))/\((True/\(tn=tn/\(an=an/\((left - (1:Int))=(left - 1)/\True))))/\((O=O/\(pos=((dk O v1 6).pos)/\(aD=((dk O v1 6).aD)/\True)))/\(((0:Int)=(0:Int)/\((0:Int)=(0:Int)/\(True/\True)))/\True)))))))))
abbrev Af(n:Nat)(c:Bool)(aV:Int)(tn:Int)(an:Int)(left:Int)(O:List Int)(pos:Int)(aD:Int):Prop:=(let v1:=eg O tn an aV.toNat c (Sr.mk pos aD) left;let v2:=aV - (1:Int);let v3:=dk O (dk O (Sr.mk pos aD) 6) (10:Int);let v0:=eg O tn an v2.toNat true v3 (left - 1);(av v2/\((v2.toNat<n/\cd O v3 (980000000 - 16 * (wG v2.toNat:Int))/\(0<=tn/\tn<=3)/\(0<=an/\an<=4)/\v2<=10 /\ -1000000+(wG v2.toNat:Int)<=(left - 1)/\(left - 1)<=1000000)/\((J.mk (5:Int) (0:Int) ([(aQ (v0.e))]))=(v1.e)/\((tn=tn/\(an=an/\(v0.left)=(v1.left)))/\((O=O/\((v0.s.pos)=(v1.s.pos)/\(v0.s.aD)=(v1.s.aD)))/\True))))))
abbrev Ag(n:Nat)(c:Bool)(aV:Int)(tn:Int)(an:Int)(left:Int)(O:List Int)(pos:Int)(aD:Int):Prop:=(let v1:=Sr.mk pos aD;let v2:=dk O (dk O v1 6) (10:Int);let v3:=eg O tn an aV.toNat c v1 left;let v4:=aV - (1:Int);let v0:=eg O tn an v4.toNat false v2 (left - 1);let v5:=pk O (dk O v1 6) (10:Int);(((decide (v5<(4:Int)))=true ->
 (av v4/\((v4.toNat<n/\cd O v2 (980000000 - 16 * (wG v4.toNat:Int))/\(0<=tn/\tn<=3)/\(0<=an/\an<=4)/\v4<=10 /\ -1000000+(wG v4.toNat:Int)<=(left - 1)/\(left - 1)<=1000000)/\((J.mk (8:Int) (0:Int) ([(aQ (v0.e))]))=(v3.e)/\((tn=tn/\(an=an/\(v0.left)=(v3.left)))/\((O=O/\((v0.s.pos)=(v3.s.pos)/\(v0.s.aD)=(v3.s.aD)))/\True))))))/\((decide (v5<(4:Int)))=false ->
 (∃ u2:Unit,((Bx O aV left v1/\¬ mU O v1<4)/\((True/\(c=c/\(aV=aV/\(True/\(v5=(mU O v1)/\True)))))/\((True/\(tn=tn/\(an=an/\((left - 1)=(left - 1)/\True))))/\((O=O/\((v2.pos)=((iO O v1).pos)/\((v2.aD)=((iO O v1).aD)/\True)))/\(((0:Int)=(0:Int)/\((0:Int)=(0:Int)/\(True/\True)))/\True)))))))))
abbrev Ah(tn:Int)(an:Int)(left:Int)(O:List Int)(pos:Int)(aD:Int):Prop:=(let v0:=iO O (Sr.mk pos aD);((True/\(tn=tn/\(an=an/\((left - 1)=(left - 1)/\True))))/\((O=O/\((v0.pos)=(v0.pos)/\((v0.aD)=(v0.aD)/\True)))/\(((0:Int)=(0:Int)/\((0:Int)=(0:Int)/\(True/\True)))/\True))))
abbrev Ai(c:Bool)(aV:Int)(tn:Int)(an:Int)(left:Int)(O:List Int)(pos:Int)(aD:Int):Prop:=(let v0:=xu O tn an aV left c (Sr.mk pos aD);(((v0.e.ah)=(v0.e.ah)/\((v0.e.aX)=(v0.e.aX)/\(True/\True)))/\((v0.e.U)=(v0.e.U)/\(((0:Int)=(0:Int)/\((0:Int)=(0:Int)/\(True/\True)))/\True))))
def BW(n:Nat)(hE:bu [])(hO:qa [pA])(hM:tv [])(hS:sa [fO,eA,ky,gF n]):mg.Good (gF (n+1)):=by
 refine⟨aH gP,?_⟩;intro (c:Bool) (aV:Int) (tn:Int) (an:Int) (left:Int) (O:List Int) (pos:Int) (aD:Int) (hp:aV.toNat<n+1/\cd O (Sr.mk pos aD) (980000000 - 16 * (wG aV.toNat:Int))/\(0<=tn/\tn<=3)/\(0<=an/\an<=4)/\aV<=10 /\ -1000000+(wG aV.toNat:Int)<=left/\left<=1000000);refine tm [] [pA] [] [fO,eA,ky,gF n] [36,55,56,64,65,80,92,96] [] [] [] hE hO hM hS gP zH (De c aV tn an left O pos aD) rfl rfl (let v1:=Sr.mk pos aD;let v0:=xu O tn an aV left c v1;let v5:=QO O tn an aV c v0;let v6:=Bx O aV left v1/\¬ mU O v1<4;let v9:=Sr.mk (v0.s.pos) (v0.s.aD);let vb:=Af n c aV tn an left O pos aD;let vc:=Ag n c aV tn an left O pos aD;let vd:=True/\True;let ve:=eg O tn an aV.toNat c v1 left;let vf:=pk O (dk O v1 6) (10:Int);let vg:=gnX O v1;let vi:=True/\(c=c/\(aV=aV/\(True/\(vg=vg/\vd))));let vj:=0<=tn/\tn<=3;let vk:=0<=an/\an<=4;let vm:=Ad c aV tn an left O pos aD;let vn:=Ae c aV tn an left O pos aD;let vo:=Ai c aV tn an left O pos aD;let vp:=iO O v1;let vq:=(1:Int);let v4:=aV - vq;let va:=(wG v4.toNat:Int);let vl:=980000000 - 16 * va;let vr:=Ah tn an left O pos aD;let vs:=v0.left;let v7:=eg O tn an v4.toNat true v9 vs;let vt:=True/\(vg=vg/\(True/\vd));let vu:=(6:Int);let v2:=eg O tn an v4.toNat (jZ O v9 vu) (dk O v9 vu) vs;let vv:=left - 1;let v3:=eg O tn an v4.toNat (jZ O vp (5:Int)) (dk O vp (5:Int)) vv;let v8:=eg O tn an v4.toNat true vp vv;let vw:=(0:Int);let vh:=(vw=vw/\(vw=vw/\vd))/\True;((av left->(av (left - vq)/\((av (left - vq)->(((decide ((left - vq)<vq))=false->(((decide (aV<vq))=false->vm)/\((decide (aV<vq))=(!false)->vn)))/\((decide ((left - vq)<vq))=(!false)->((true=false->vm)/\(true=(!false)->vn)))))/\(∀ u1:Unit,(Bx O aV left v1->((cd O (dk O v1 6) 999999000/\(10:Int)<=1000000)/\((((decide (vf=vw))=false->((c=true->(((decide (vf<(4:Int)))=true->vb)/\((decide (vf<(4:Int)))=false->vc)))/\(c=(!true)->((false=true->vb)/\(false=false->vc)))))/\((decide (vf=vw))=(!false)->((true=true->vb)/\(true=false->vc))))/\(∀ u2:Unit,(v6->((((decide ((mU O v1)<vu))=true->(∃ u3:Unit,(v6/\((True/\(c=c/\(aV=aV/\(True/\(vu=vg/\True)))))/\vr))))/\((decide ((mU O v1)<vu))=false->(∃ u3:Unit,(v6/\((True/\(c=c/\(aV=aV/\(True/\((7:Int)=vg/\True)))))/\vr)))))/\(∀ u3:Unit,(v6->(((c=false->((cd O vp 999999000/\(5:Int)<=1000000)/\(av v4/\((v4.toNat<n/\cd O (dk O vp (5:Int)) vl/\vj/\vk/\v4<=10 /\ -1000000+va<=vv/\vv<=1000000)/\(∃ u4:Unit,(v6/\(vi/\((True/\(tn=tn/\(an=an/\((v3.left)=vs/\True))))/\((O=O/\((v3.s.pos)=(v0.s.pos)/\((v3.s.aD)=(v0.s.aD)/\True)))/\(((v3.e).ah=(v0.e.ah)/\((v3.e).aX=(v0.e.aX)/\vd))/\((v3.e).U=(v0.e.U)/\vh)))))))))))/\(c=(!false)->(av v4/\((v4.toNat<n/\cd O vp vl/\vj/\vk/\v4<=10 /\ -1000000+va<=vv/\vv<=1000000)/\(∃ u4:Unit,(v6/\(vi/\((True/\(tn=tn/\(an=an/\((v8.left)=vs/\True))))/\((O=O/\((v8.s.pos)=(v0.s.pos)/\((v8.s.aD)=(v0.s.aD)/\True)))/\(((v8.e).ah=(v0.e.ah)/\((v8.e).aX=(v0.e.aX)/\vd))/\((v8.e).U=(v0.e.U)/\vh)))))))))))/\(∀ u4:Unit,(v6->(((c=false->((cd O v9 999999000/\vu<=1000000)/\(av v4/\((v4.toNat<n/\cd O (dk O v9 vu) vl/\vj/\vk/\v4<=10 /\ -1000000+va<=vs/\vs<=1000000)/\(∃ u5:Unit,(v6/\(vt/\((True/\(tn=tn/\(an=an/\((v2.left)=(v5.left)/\True))))/\((O=O/\((v2.s.pos)=(v5.s.pos)/\((v2.s.aD)=(v5.s.aD)/\True)))/\(((v2.e).ah=(v5.e.ah)/\((v2.e).aX=(v5.e.aX)/\vd))/\((v2.e).U=(v5.e.U)/\vo)))))))))))/\(c=(!false)->(av v4/\((v4.toNat<n/\cd O v9 vl/\vj/\vk/\v4<=10 /\ -1000000+va<=vs/\vs<=1000000)/\(∃ u5:Unit,(v6/\(vt/\((True/\(tn=tn/\(an=an/\((v7.left)=(v5.left)/\True))))/\((O=O/\((v7.s.pos)=(v5.s.pos)/\((v7.s.aD)=(v5.s.aD)/\True)))/\(((v7.e).ah=(v5.e.ah)/\((v7.e).aX=(v5.e.aX)/\vd))/\((v7.e).U=(v5.e.U)/\vo)))))))))))/\(∀ u5:Unit,(v6->((aQ (J.mk vg 0 [(J.mk (v0.e.ah) (v0.e.aX) (v0.e.U)),(J.mk (v5.e.ah) (v5.e.aX) (v5.e.U))]))=(ve.e)/\((tn=tn/\(an=an/\(v5.left)=(ve.left)))/\((O=O/\((v5.s.pos)=(ve.s.pos)/\(v5.s.aD)=(ve.s.aD)))/\True))))))))))))))))))))))) ?_;obtain⟨bz,hs,ht,ha,b0v,U8,MH⟩:=hp;have hw:=JL aV.toNat;have hwd:=QF aV;have CG:=λ hd=>a6n O aV left (Sr.mk pos aD) hd hs U8 MH;have ui:=λ hd=>a6o O tn an aV left c (Sr.mk pos aD) hd hs U8 MH ht ha;refine λ _=>⟨?_,λ a1=>⟨λ _=>⟨λ _=>⟨?_,λ a4=>⟨?_,?_,⟨rfl,rfl,?_⟩,⟨rfl,?_,?_⟩,ag⟩,λ a4=>⟨(),?_,⟨ag,rfl,rfl,ag,ag⟩,⟨ag,rfl,rfl,?_,ag⟩,⟨rfl,?_,?_,ag⟩,⟨rfl,rfl,ag,ag⟩,ag⟩⟩,λ _=>⟨λ a4=>⟨?_,?_,⟨rfl,rfl,?_⟩,⟨rfl,?_,?_⟩,ag⟩,λ a4=>⟨(),?_,⟨ag,rfl,rfl,ag,ag⟩,⟨ag,rfl,rfl,?_,ag⟩,⟨rfl,?_,?_,ag⟩,⟨rfl,rfl,ag,ag⟩,ag⟩⟩⟩,λ _=>⟨λ _=>⟨?_,λ a4=>⟨?_,?_,⟨rfl,rfl,?_⟩,⟨rfl,?_,?_⟩,ag⟩,λ a4=>⟨(),?_,⟨ag,rfl,rfl,ag,ag⟩,⟨ag,rfl,rfl,?_,ag⟩,⟨rfl,?_,?_,ag⟩,⟨rfl,rfl,ag,ag⟩,ag⟩⟩,λ _=>⟨λ a4=>⟨?_,?_,⟨rfl,rfl,?_⟩,⟨rfl,?_,?_⟩,ag⟩,λ a4=>⟨(),?_,⟨ag,rfl,rfl,ag,ag⟩,⟨ag,rfl,rfl,?_,ag⟩,⟨rfl,?_,?_,ag⟩,⟨rfl,rfl,ag,ag⟩,ag⟩⟩⟩⟩,λ u1 a1=>have a7C:=a1.d;have a7D:=hwd a1.d;have a7E:=CG a1.d;have a9V:=(CG a1.d).l0;have a9W:=(CG a1.d).l1;⟨?_,⟨λ _=>⟨λ _=>⟨λ a4=>⟨?_,?_,?_,⟨rfl,rfl,?_⟩,⟨rfl,?_,?_⟩,ag⟩,λ a4=>⟨λ _=>⟨?_,?_,?_,⟨rfl,rfl,?_⟩,⟨rfl,?_,?_⟩,ag⟩,λ _=>⟨(),?_,⟨ag,rfl,rfl,ag,?_,ag⟩,⟨ag,rfl,rfl,rfl,ag⟩,⟨rfl,?_,?_,ag⟩,⟨rfl,rfl,ag,ag⟩,ag⟩⟩⟩,λ _=>⟨λ a4=>⟨?_,?_,?_,⟨rfl,rfl,?_⟩,⟨rfl,?_,?_⟩,ag⟩,λ a4=>⟨λ _=>⟨?_,?_,?_,⟨rfl,rfl,?_⟩,⟨rfl,?_,?_⟩,ag⟩,λ _=>⟨(),?_,⟨ag,rfl,rfl,ag,?_,ag⟩,⟨ag,rfl,rfl,rfl,ag⟩,⟨rfl,?_,?_,ag⟩,⟨rfl,rfl,ag,ag⟩,ag⟩⟩⟩⟩,λ _=>⟨λ _=>⟨?_,?_,?_,⟨rfl,rfl,?_⟩,⟨rfl,?_,?_⟩,ag⟩,λ _=>⟨λ a4=>⟨?_,?_,?_,⟨rfl,rfl,?_⟩,⟨rfl,?_,?_⟩,ag⟩,λ a4=>⟨(),?_,⟨ag,rfl,rfl,ag,?_,ag⟩,⟨ag,rfl,rfl,rfl,ag⟩,⟨rfl,?_,?_,ag⟩,⟨rfl,rfl,ag,ag⟩,ag⟩⟩⟩⟩,λ u2 _=>⟨⟨λ _=>⟨(),?_,⟨ag,rfl,rfl,ag,?_,ag⟩,⟨ag,rfl,rfl,rfl,ag⟩,⟨rfl,rfl,rfl,ag⟩,⟨rfl,rfl,ag,ag⟩,ag⟩,λ _=>⟨(),?_,⟨ag,rfl,rfl,ag,?_,ag⟩,⟨ag,rfl,rfl,rfl,ag⟩,⟨rfl,rfl,rfl,ag⟩,⟨rfl,rfl,ag,ag⟩,ag⟩⟩,λ u3 _=>⟨⟨λ a4=>⟨?_,?_,?_,(),?_,⟨ag,rfl,rfl,ag,rfl,ag,ag⟩,⟨ag,rfl,rfl,?_,ag⟩,⟨rfl,?_,?_,ag⟩,⟨?_,?_,ag,ag⟩,?_,⟨rfl,rfl,ag,ag⟩,ag⟩,λ a4=>⟨?_,?_,(),?_,⟨ag,rfl,rfl,ag,rfl,ag,ag⟩,⟨ag,rfl,rfl,?_,ag⟩,⟨rfl,?_,?_,ag⟩,⟨?_,?_,ag,ag⟩,?_,⟨rfl,rfl,ag,ag⟩,ag⟩⟩,λ u4 a4=>have a7F:=ui a4.1.d;have a7G:=(ui a4.1.d).l0;have a7H:=(ui a4.1.d).l1;⟨⟨λ _=>⟨?_,?_,?_,(),?_,⟨ag,rfl,ag,ag,ag⟩,⟨ag,rfl,rfl,?_,ag⟩,⟨rfl,?_,?_,ag⟩,⟨?_,?_,ag,ag⟩,?_,⟨rfl,rfl,ag,ag⟩,rfl,⟨rfl,rfl,ag,ag⟩,ag⟩,λ _=>⟨?_,?_,(),?_,⟨ag,rfl,ag,ag,ag⟩,⟨ag,rfl,rfl,?_,ag⟩,⟨rfl,?_,?_,ag⟩,⟨?_,?_,ag,ag⟩,?_,⟨rfl,rfl,ag,ag⟩,rfl,⟨rfl,rfl,ag,ag⟩,ag⟩⟩,λ u5 _=>⟨?_,⟨rfl,rfl,?_⟩,⟨rfl,?_,?_⟩,ag⟩⟩⟩⟩⟩⟩;all_goals try and_intros
 all_goals try (first|with_reducible rfl|with_reducible assumption)
 all_goals try simp only[J.eta,cu] at *
 all_goals (try simp only[Ss,J.eta,decide_eq_true_eq,decide_eq_false_iff_not,Bool.not_true,Bool.not_false,av] at *);first|rfl|trivial|omega|with_reducible assumption|exact hs.mono (by omega)|exact (hs.next _).mono (by omega)|exact Bx.mk (by omega) (by omega) (by assumption)|exact cd.mono (Wl.s (by assumption)) (by omega)|exact cd.mono (cd.next (Wl.s (by assumption)) _) (by omega)|(rw[a6j O tn an aV left c _ (by omega)];rfl)|(rw[a6k O tn an aV left c _ (by omega) (by omega) (by assumption)];rfl)|(rw[a6l O tn an aV left c _ (by assumption) (by first|(left;assumption)|(right;exact⟨by assumption,by assumption⟩))];rfl)|(rw[a6m O tn an aV left c _ (by assumption) (a6R (by assumption) (by assumption)) (by assumption)];rfl)|(rw[a1o O tn an aV left c _ (And.left (show Bx O aV left (Sr.mk pos aD)/\¬ mU O (Sr.mk pos aD)<4 by assumption)) (And.right (show Bx O aV left (Sr.mk pos aD)/\¬ mU O (Sr.mk pos aD)<4 by assumption))];rfl)|(unfold gnX;first|rw[if_pos (by assumption)]|rw[if_neg (by assumption)])|(cases c<;>first|rfl|contradiction)|contradiction |(rw[a1o O tn an aV left c _ (And.left (show Bx O aV left (Sr.mk pos aD)/\¬ mU O (Sr.mk pos aD)<4 by assumption)) (And.right (show Bx O aV left (Sr.mk pos aD)/\¬ mU O (Sr.mk pos aD)<4 by assumption))])
def Rw:∀ n,sa [gF n]
 | 0=>⟨⟨aH gP,λ _ _ _ _ _ _ _ _ h=>absurd h.1 (b1x _)⟩,ag⟩
 | n+1=>by
  have ih:=Rw n;exact⟨BW n trivial ⟨EV,ag⟩ trivial ⟨jo,fD,ze,ih.1,ag⟩,ag⟩
def zd:mg.Good qu :=
 ⟨aH gP,λ c aV tn an left O pos aD hp=>(Rw (aV.toNat+1)).1.2 c aV tn an left O pos aD (⟨b1b _,hp⟩)⟩
mutual
def xp{α:Type}(f:J->List α->α):J->α
 | ⟨k,n,ks⟩=>f ⟨k,n,ks⟩ (ik f ks)
def ik{α:Type}(f:J->List α->α):List J->List α
 | []=>[]
 | x::xs=>xp f x::ik f xs
end
def eD{α:Type}(f:J->List α->α)(d:α)(z:J):∀ (xs:List J) (i:Nat),i<xs.length->(ik f xs).getD i d=xp f (xs.getD i z)
 | [],i,h=>by simp at h
 | x::xs,0,h=>by simp[ik]
 | x::xs,i+1,h=>by
  have:=eD f d z xs i (by simpa using h);simpa [ik] using this
def jC{α:Type}(f:J->List α->α)(x:J):xp f x=f x (ik f x.U):=by
 cases x;rfl
structure B2(x:J):Prop where
 len:x.U.length=2
 g0:aA (x.U.getD 0 zE)=true
 g1:aA (x.U.getD 1 zE)=true
 l0:bG (x.U.getD 0 zE)<bG x
 l1:bG (x.U.getD 1 zE)<bG x
 nd:ar x=1+ar (x.U.getD 0 zE)+ar (x.U.getD 1 zE)
structure B1(x:J):Prop where
 len:x.U.length=1
 g0:aA (x.U.getD 0 zE)=true
 l0:bG (x.U.getD 0 zE)<bG x
 nd:ar x=1+ar (x.U.getD 0 zE)
def bZ(x:J)(h:aA x=true)(e:x.ah=6\/x.ah=7):B2 x:=by
 obtain⟨h1,h2,h3⟩:=(dO x h).2.2.1 e;have hn:=ib x;rw[a3m ar zE _ h1] at hn;exact⟨h1,h2.1,h3.1,h2.2,h3.2,by omega⟩
def gp(x:J)(h:aA x=true)(e:x.ah=5\/x.ah=8):B1 x:=by
 obtain⟨h1,h2⟩:=(dO x h).2.1 e;have hn:=ib x;rw[a3l ar zE _ h1] at hn;exact⟨h1,h2.1,h2.2,by omega⟩
def Hp(x:J):1<=ar x:=by rw[ib];omega
def eL(x:J)(h:aA x=true):x.ah=1\/x.ah=2\/x.ah=3\/x.ah=4\/x.ah=5\/x.ah=6\/x.ah=7\/x.ah=8:=(dO x h).2.2.2
def NA(x:J)(h:aA x=true)(e:x.ah=1\/x.ah=2\/x.ah=3\/x.ah=5):iD x=true:=by
 have h':=h;unfold iD;rw[DO 9 9 62 62 (by decide) (by decide) x (by simpa [aA] using h),Bool.true_and,oV,Bool.and_eq_true];simp only[aA] at h;rw[jH,nr] at h;simp only[Bool.and_eq_true,decide_eq_true_eq] at h;refine⟨by rcases e with e|e|e|e<;>rw[e]<;>decide,?_⟩;by_cases h5:x.ah=5
 .have hl:=(gp x h' (.inl h5)).len;have hc:bD (x.U.getD 0 zE)=true:=by simpa [h5] using h.1.2
  match hk:x.U,hl with
  | [a],_ =>
   rw[hk] at hc;simp only[cM,Bool.and_true];simpa using hc
 .have:x.U.length=0:=by
   have h1:=h.1.1.1;rcases e with e|e|e|e
   .rw[e] at h1;simp[cB] at h1;omega
   .rw[e] at h1;simp[cB] at h1;omega
   .rw[e] at h1;simp[cB] at h1;omega
   .exact absurd e h5
  rw[b1W this];rfl
def eE(a b:J)(k:Int)(h1:aA a=true)(h2:aA b=true)(hk:k=6\/k=7):aA (J.mk k 0 [a,b])=true:=Sg 9 9 a b k h1 h2 hk
def W3(a:J)(h1:aA a=true):aA (J.mk 8 0 [a])=true:=Lm 9 9 a 8 h1 (.inr rfl)
def Kj:aA (J.mk 2 0 [])=true:=by decide
def zV:aA (J.mk 1 0 [])=true:=by decide
def kE(k:Int)(a b:J):ar (J.mk k 0 [a,b])=1+ar a+ar b:=by simp[ar,gw];omega
def VE(k:Int)(a:J):ar (J.mk k 0 [a])=1+ar a:=by simp[ar,gw]
def Dv(k n:Int):ar (J.mk k n [])=1:=by simp[ar,gw]
def S2(a:Int)(x:J)(bs:List Bool):Bool:=if x.ah=4 then false else if x.ah=6 then bs.getD 0 false||bs.getD 1 false else if x.ah=7 then bs.getD 0 false&&bs.getD 1 false else if x.ah=8 then true else fZ a x
def eC(a:Int)(x:J):Bool:=xp (S2 a) x
def Oz(a:Int)(x:J):eC a x=S2 a x (ik (S2 a) x.U):=jC _ x
def Yt(a:Int)(x:J)(i:Nat)(h:i<x.U.length):(ik (S2 a) x.U).getD i false=eC a (x.U.getD i zE):=eD _ _ _ _ i h
def a1i(a:Int)(x:J)(h:x.ah=4):false=eC a x:=by rw[Oz];simp[S2,h]
def a1j(a:Int)(x:J)(h:x.ah=6)(b:B2 x):eC a x=(eC a (x.U.getD 0 zE)||eC a (x.U.getD 1 zE)):=by
 rw[Oz];simp only[S2,h];rw[Yt a x 0 (by have:=b.len;omega),Yt a x 1 (by have:=b.len;omega)];rfl
def a1k(a:Int)(x:J)(h:x.ah=7)(b:B2 x):eC a x=(eC a (x.U.getD 0 zE)&&eC a (x.U.getD 1 zE)):=by
 rw[Oz];simp only[S2,h];rw[Yt a x 0 (by have:=b.len;omega),Yt a x 1 (by have:=b.len;omega)];rfl
def a1l(a:Int)(x:J)(h:x.ah=8):true=eC a x:=by rw[Oz];simp[S2,h]
def UI(a:Int)(x:J)(h4:¬ x.ah=4)(h6:¬ x.ah=6)(h7:¬ x.ah=7)(h8:¬ x.ah=8):fZ a x=eC a x:=by rw[Oz];simp[S2,h4,h6,h7,h8]
noncomputable def T7(x:J)(fs:List (List J->List J))(out:List J):List J :=
 if x.ah=1 then out else if x.ah=6 then fs.getD 1 id (fs.getD 0 id out) else if out.any (λ y=>iM y x)=true then out else out++[x]
noncomputable def dB(x:J)(out:List J):List J:=xp T7 x out
def T8(x:J)(out:List J):dB x out=T7 x (ik T7 x.U) out:=congrFun (jC _ x) out
def Ze(x:J)(out:List J)(h:x.ah=1):dB x out=out:=by rw[T8];simp[T7,h]
def Zf(x:J)(out:List J)(h:x.ah=6)(b:B2 x):dB x out=dB (x.U.getD 1 zE) (dB (x.U.getD 0 zE) out):=by
 rw[T8];simp only[T7,h];rw[eD T7 id zE x.U 0 (by have:=b.len;omega),eD T7 id zE x.U 1 (by have:=b.len;omega)];rfl
def Zh(x:J)(out:List J)(h1:¬ x.ah=1)(h6:¬ x.ah=6)(ha:out.any (λ y=>iM y x)=true):dB x out=out:=by
 rw[T8,T7,b0N h1,b0N h6,b0T ha]
def Zg(x:J)(out:List J)(h1:¬ x.ah=1)(h6:¬ x.ah=6)(ha:out.any (λ y=>iM y x)=false):dB x out=out++[x]:=by
 rw[T8,T7,b0N h1,b0N h6,b0N (by rw[ha];decide)]
def eV(xs:List J):Nat:=cV ar xs+xs.length
def kl(xs:List J):Prop:=∀ y∈xs,aA y=true
def zg{α:Type}(f:α->Nat):∀ xs ys:List α,cV f (xs++ys)=cV f xs+cV f ys
 | [],ys=>by simp[cV]
 | x::xs,ys=>by simp only[b1B,cV,zg f xs ys];omega
def HD:∀ (N:Nat) (x:J),bG x<N->aA x=true->∀ out,kl out->kl (dB x out)/\eV (dB x out)<=eV out+ar x+1
 | 0,x,h,_=>by omega
 | N+1,x,hN,h=>by
  intro out ho;by_cases h1:x.ah=1
  .rw[Ze x out h1];exact⟨ho,by omega⟩
  by_cases h6:x.ah=6
  .have b:=bZ x h (.inl h6);rw[Zf x out h6 b];obtain⟨a1,a2⟩:=HD N (x.U.getD 0 zE) (by have:=b.l0;omega) b.g0 out ho;obtain⟨c1,c2⟩:=HD N (x.U.getD 1 zE) (by have:=b.l1;omega) b.g1 _ a1;exact⟨c1,by have:=b.nd;omega⟩
  rcases b1C (out.any (λ y=>iM y x)) with e|e
  .rw[Zh x out h1 h6 e];exact⟨ho,by omega⟩
  .rw[Zg x out h1 h6 e];refine⟨λ y hy=>?_,?_⟩
   .rcases b0K.1 hy with q|q
    .exact ho y q
    .rw[b0Z] at q;rw[q];exact h
   .simp only[eV,zg,cV,b0Y,b0W,b1f];omega
def Q9(y x:J):Bool:=Op.bytesLess (bH y) (bH x)
def fW(x:J):List J->List J
 | []=>[x]
 | y::ys=>if Q9 y x=true then y::fW x ys else x::y::ys
def Pj(x:J):∀ (ys:List J) (k:Nat),k<=ys.length->(∀ j y,j<k->ys[j]?=some y->Q9 y x=true)->(∀ y,ys[k]?=some y->Q9 y x=false)->fW x ys=ys.take k++x::ys.drop k
 | [],0,_,_,_=>rfl
 | y::ys,0,_,_,h=>by
  have:=h y rfl;rw[fW,b0N (by rw[this];decide)];rfl
 | y::ys,k+1,hk,h1,h2=>by
  have h0:=h1 0 y (by omega) rfl;have ih:=Pj x ys k (by simpa using hk) (λ j z hj e=>h1 (j+1) z (by omega) e) (λ z e=>h2 z e);rw[fW,if_pos h0,ih];rfl
 | [],k+1,hk,_,_=>by simp at hk
def Vk(x:J):∀ ys y,y∈fW x ys↔y=x\/y∈ys
 | [],y=>by simp[fW]
 | z::zs,y=>by
  rw[fW];split
  .simp only[b0X,Vk x zs y];constructor
   .rintro (h|h|h)
    .exact .inr (.inl h)
    .exact .inl h
    .exact .inr (.inr h)
   .rintro (h|h|h)
    .exact .inr (.inl h)
    .exact .inl h
    .exact .inr (.inr h)
  .simp only[b0X]
def Vm(x:J):∀ ys,eV (fW x ys)=eV ys+ar x+1
 | []=>by simp[fW,eV,cV]
 | z::zs=>by
  have ih:=Vm x zs;rw[fW];split
  .simp only[eV,cV,b0W] at ih ⊢;omega
  .simp only[eV,cV,b0W];omega
def xJ(xs:List J):List J:=xs.foldl (λ out x=>fW x out) []
def Ue(xs:List J)(k:Nat):List J:=xJ (xs.take k)
def a0p(xs:List J)(k:Nat)(x:J)(h:xs[k]?=some x):Ue xs (k+1)=fW x (Ue xs k):=by
 have e:xs.take (k+1)=xs.take k++[x]:=by rw[b2Z,h];rfl
 simp only[Ue,xJ,e,b2Y,b2N,b4i]
def Qn:∀ (xs acc:List J),(∀ y,y∈xs.foldl (λ out x=>fW x out) acc↔y∈xs\/y∈acc)/\eV (xs.foldl (λ out x=>fW x out) acc)=eV xs+eV acc/\(xs.foldl (λ out x=>fW x out) acc).length=xs.length+acc.length
 | [],acc=>by simp[eV,cV]
 | x::xs,acc=>by
  obtain⟨h1,h2,h3⟩:=Qn xs (fW x acc);have ht:=Vm x acc;have hl:∀ ys:List J,(fW x ys).length=ys.length+1:=by
   intro ys;induction ys with
   | nil=>rfl
   | cons y ys ih=>rw[fW];split<;>simp[ih]
  refine⟨λ y=>?_,?_,?_⟩
  .rw[b2N,h1,Vk,b0X];constructor
   .rintro (h|h|h)
    .exact .inl (.inr h)
    .exact .inl (.inl h)
    .exact .inr h
   .rintro ((h|h)|h)
    .exact .inr (.inl h)
    .exact .inl h
    .exact .inr (.inr h)
  .rw[b2N,h2,ht];simp only[eV,cV,b0W];omega
  .rw[b2N,h3,hl,b0W];omega
def l9:List J->J
 | []=>J.mk 1 0 []
 | x::xs=>xs.foldl (λ o y=>J.mk 6 0 [o,y]) x
noncomputable def JA(a b:J):J:=l9 (xJ (dB b (dB a [])))
def Vp:∀ (xs:List J) (o:J),aA o=true->kl xs->aA (xs.foldl (λ o y=>J.mk 6 0 [o,y]) o)=true/\ar (xs.foldl (λ o y=>J.mk 6 0 [o,y]) o)=ar o+eV xs
 | [],o,h,_=>⟨h,by simp[eV,cV]⟩
 | x::xs,o,h,hx=>by
  obtain⟨h1,h2⟩:=Vp xs (J.mk 6 0 [o,x]) (eE o x 6 h (hx x (by simp)) (.inl rfl)) (λ y hy=>hx y (by simp[hy]));refine⟨h1,?_⟩;rw[b2N,h2,kE];simp only[eV,cV,b0W];omega
structure a0z(a b r:J):Prop where
 g:aA r=true
 n:ar r<=ar a+ar b+1
def a3j(a b:J)(h1:aA a=true)(h2:aA b=true):kl (xJ (dB b (dB a [])))/\eV (xJ (dB b (dB a [])))<=ar a+ar b+2:=by
 obtain⟨a1,a2⟩:=HD _ a (b1b _) h1 [] (λ y hy=>by cases hy);obtain⟨b1,b2⟩:=HD _ b (b1b _) h2 _ a1;obtain⟨c1,c2,_⟩:=Qn (dB b (dB a [])) [];have e0:eV []=0:=rfl;refine⟨λ y hy=>?_,?_⟩
 .rcases (c1 y).1 hy with q|q
  .exact b1 y q
  .cases q
 .unfold xJ;omega
def a7k(a b:J)(h1:aA a=true)(h2:aA b=true):a0z a b (JA a b):=by
 obtain⟨g,t⟩:=a3j a b h1 h2;unfold JA;generalize xJ (dB b (dB a []))=L at g t;match L with
 | []=>exact⟨zV,by show ar (J.mk 1 0 [])<=_;rw[Dv];omega⟩
 | x::xs =>
  obtain⟨q1,q2⟩:=Vp xs x (g x (by simp)) (λ y hy=>g y (by simp[hy]));refine⟨q1,?_⟩;show ar (xs.foldl _ x)<=_;rw[q2];simp only[eV,cV,b0W] at t ⊢;omega
def QM(x:J)(fs:List (J->J))(b:J):J :=
 if x.ah=1\/b.ah=1 then J.mk 1 0 [] else if x.ah=2 then b else if b.ah=2 then x else if x.ah=7 then fs.getD 0 id (fs.getD 1 id b) else J.mk 7 0 [x,b]
def jJ(x b:J):J:=xp QM x b
def Ox(x b:J):jJ x b=QM x (ik QM x.U) b:=congrFun (jC _ x) b
def Fc(x b:J)(h:x.ah=1\/b.ah=1):jJ x b=J.mk 1 0 []:=by rw[Ox,QM,b0T h]
def Fe(x b:J)(h:¬ (x.ah=1\/b.ah=1))(h2:x.ah=2):jJ x b=b:=by rw[Ox,QM,b0N h,b0T h2]
def Ff(x b:J)(h:¬ (x.ah=1\/b.ah=1))(h2:¬ x.ah=2)(h3:b.ah=2):jJ x b=x:=by rw[Ox,QM,b0N h,b0N h2,b0T h3]
def Fg(x b:J)(h:¬ (x.ah=1\/b.ah=1))(h2:¬ x.ah=2)(h3:¬ b.ah=2)(h7:x.ah=7)(g:B2 x):jJ x b=jJ (x.U.getD 0 zE) (jJ (x.U.getD 1 zE) b):=by
 rw[Ox,QM,b0N h,b0N h2,b0N h3,b0T h7];rw[eD QM id zE x.U 0 (by have:=g.len;omega),eD QM id zE x.U 1 (by have:=g.len;omega)];rfl
def Fh(x b:J)(h:¬ (x.ah=1\/b.ah=1))(h2:¬ x.ah=2)(h3:¬ b.ah=2)(h7:¬ x.ah=7):jJ x b=J.mk 7 0 [x,b]:=by rw[Ox,QM,b0N h,b0N h2,b0N h3,b0N h7]
def SY:∀ (N:Nat) (x:J),bG x<N->aA x=true->∀ b,aA b=true->a0z x b (jJ x b)
 | 0,x,h,_=>by omega
 | N+1,x,hN,h=>by
  intro b hb;have hx:=Hp x;have W7:=Hp b;by_cases h1:x.ah=1\/b.ah=1
  .rw[Fc x b h1];exact⟨zV,by rw[Dv];omega⟩
  by_cases h2:x.ah=2
  .rw[Fe x b h1 h2];exact⟨hb,by omega⟩
  by_cases h3:b.ah=2
  .rw[Ff x b h1 h2 h3];exact⟨h,by omega⟩
  by_cases h7:x.ah=7
  .have g:=bZ x h (.inr h7);rw[Fg x b h1 h2 h3 h7 g];have r:=SY N (x.U.getD 1 zE) (by have:=g.l1;omega) g.g1 b hb;have q:=SY N (x.U.getD 0 zE) (by have:=g.l0;omega) g.g0 _ r.g;exact⟨q.g,by have:=q.n;have:=r.n;have:=g.nd;omega⟩
  .rw[Fh x b h1 h2 h3 h7];exact⟨eE x b 7 h hb (.inr rfl),by rw[kE];omega⟩
def Az(a:J):J:=if bD a=true then J.mk 2 0 [] else if a.ah=8 then a else J.mk 8 0 [a]
def a7h(a:J)(h:aA a=true):aA (Az a)=true/\ar (Az a)<=ar a+1:=by
 have:=Hp a;unfold Az;split
 .exact⟨Kj,by rw[Dv];omega⟩
 .split
  .exact⟨h,by omega⟩
  .exact⟨W3 a h,by rw[VE];omega⟩
noncomputable def tdF(x:J)(ys:List J):J :=
 if x.ah=6 then JA (ys.getD 0 x) (ys.getD 1 x) else if x.ah=7 then jJ (ys.getD 0 x) (ys.getD 1 x) else if x.ah=8 then Az (ys.getD 0 x) else x
noncomputable def eu(x:J):J:=xp tdF x
def Wb(x:J)(i:Nat)(h:i<x.U.length):(ik tdF x.U).getD i x=eu (x.U.getD i zE):=eD _ _ _ _ i h
def Zm(x:J)(h:x.ah=6)(b:B2 x):eu x=JA (eu (x.U.getD 0 zE)) (eu (x.U.getD 1 zE)):=by
 rw[eu,jC];simp only[tdF,h];rw[Wb x 0 (by have:=b.len;omega),Wb x 1 (by have:=b.len;omega)];rfl
def Zn(x:J)(h:x.ah=7)(b:B2 x):eu x=jJ (eu (x.U.getD 0 zE)) (eu (x.U.getD 1 zE)):=by
 rw[eu,jC];simp only[tdF,h];rw[Wb x 0 (by have:=b.len;omega),Wb x 1 (by have:=b.len;omega)];rfl
def Zo(x:J)(h:x.ah=8)(b:B1 x):eu x=Az (eu (x.U.getD 0 zE)):=by
 rw[eu,jC];simp only[tdF,h];rw[Wb x 0 (by have:=b.len;omega)];rfl
def Zp(x:J)(h6:¬ x.ah=6)(h7:¬ x.ah=7)(h8:¬ x.ah=8):eu x=x:=by
 rw[eu,jC];simp[tdF,h6,h7,h8]
structure a4y(x r:J):Prop where
 g:aA r=true
 n:ar r<=ar x
def Ll:∀ (N:Nat) (x:J),bG x<N->aA x=true->a4y x (eu x)
 | 0,x,h,_=>by omega
 | N+1,x,hN,h=>by
  by_cases h6:x.ah=6
  .have b:=bZ x h (.inl h6);rw[Zm x h6 b];have p:=Ll N (x.U.getD 0 zE) (by have:=b.l0;omega) b.g0;have q:=Ll N (x.U.getD 1 zE) (by have:=b.l1;omega) b.g1;have r:=a7k _ _ p.g q.g;exact⟨r.g,by have:=r.n;have:=p.n;have:=q.n;have:=b.nd;omega⟩
  by_cases h7:x.ah=7
  .have b:=bZ x h (.inr h7);rw[Zn x h7 b];have p:=Ll N (x.U.getD 0 zE) (by have:=b.l0;omega) b.g0;have q:=Ll N (x.U.getD 1 zE) (by have:=b.l1;omega) b.g1;have r:=SY _ _ (b1b _) p.g _ q.g;exact⟨r.g,by have:=r.n;have:=p.n;have:=q.n;have:=b.nd;omega⟩
  by_cases h8:x.ah=8
  .have b:=gp x h (.inr h8);rw[Zo x h8 b];have p:=Ll N (x.U.getD 0 zE) (by have:=b.l0;omega) b.g0;have r:=a7h _ p.g;exact⟨r.1,by have:=r.2;have:=p.n;have:=b.nd;omega⟩
  .rw[Zp x h6 h7 h8];exact⟨h,b1d _⟩
def u9(x:J)(h:aA x=true):a4y x (eu x):=Ll _ x (b1b _) h
def dtT(x b:J)(h:aA x=true)(hb:aA b=true):a0z x b (jJ x b):=SY _ x (b1b _) h b hb
def lF(x:J)(h:ar x<=9000):cJ x<=1048576:=by have:=Sd x;omega
def Um(x:J)(h:aA x=true)(hn:ar x<=9000):(bH x).length<=1000000:=by have:=vy _ x (b1b _) h;omega
def oj:bc:=⟨Ds,[],⟨(none,[⟨(.st .expr),J.mk 2 0 []⟩])⟩⟩
def Px :Nat->aP:=cw
def vY:bc.Good oj:=by
 refine⟨aH AO,?_⟩;intro  _;refine bf [] [] [] [] trivial AO Ia (Px ) ((J.mk (2:Int) (0:Int) [])=(J.mk 2 0 [])) ?_;refine ?_;all_goals try and_intros
 all_goals first|rfl|trivial|omega|(simp only[b0R,b0Q,aI,av,cD,mJ,dH,bC] at *;omega)|(simp[aI,av] at *;omega)|grind
def fJ:bc:=⟨rY,[],⟨(none,[⟨(.st .expr),J.mk 1 0 []⟩])⟩⟩
def Nb :Nat->aP:=cw
def gu:bc.Good fJ:=by
 refine⟨aH x7,?_⟩;intro  _;refine bf [] [] [] [] trivial x7 Gp (Nb ) ((J.mk (1:Int) (0:Int) [])=(J.mk 1 0 [])) ?_;refine ?_;all_goals try and_intros
 all_goals first|rfl|trivial|omega|(simp only[b0R,b0Q,aI,av,cD,mJ,dH,bC] at *;omega)|(simp[aI,av] at *;omega)|grind
def eM:bc:=⟨mH,[.v (.int .i64), .v (.st .expr), .v (.st .expr)],λ (k:Int) (a:J) (b:J)=>⟨(none,[⟨(.st .expr),J.mk k 0 [a,b]⟩])⟩⟩
def M7(k:Int)(a:J)(b:J):Nat->aP:=cw
def eW:bc.Good eM:=by
 refine⟨aH kZ,?_⟩;intro (k:Int) (a:J) (b:J) _;refine bf [] [] [] [4,5] trivial kZ tK (M7 k a b) ((J.mk k (0:Int) ([a,b]))=(J.mk k 0 [a,b])) ?_;refine ?_;all_goals try and_intros
 all_goals first|rfl|trivial|omega|(simp only[b0R,b0Q,aI,av,cD,mJ,dH,bC] at *;omega)|(simp[aI,av] at *;omega)|grind
def jX(n:Nat):bc:=⟨pH,[.r (.st .expr), .v (.int .i64)],λ (x:J) (atom:Int)=>⟨(some (bG x<n/\aA x=true/\0<=atom/\atom<=4096),[⟨.bool,eC atom x⟩])⟩⟩
def lj:bc:=⟨pH,[.r (.st .expr), .v (.int .i64)],λ (x:J) (atom:Int)=>⟨(some (aA x=true/\0<=atom/\atom<=4096),[⟨.bool,eC atom x⟩])⟩⟩
def KQ(x:J)(atom:Int):Nat->aP:=cw
abbrev ux(n:Nat)(x:J)(atom:Int):Prop:=(let v0:=x.U.getD 1 zE;(x.U.length<=140737488355328 ->
 (aI (1:Int) x.U.length/\((bG v0<n/\aA v0=true/\0<=atom/\atom<=4096)/\(eC atom v0)=(eC atom x)))))
def Jk(n:Nat)(hE:bu [jX n,rL]):bc.Good (jX (n+1)):=by
 refine⟨aH jU,?_⟩;intro (x:J) (atom:Int) (hp:bG x<n+1/\aA x=true/\0<=atom/\atom<=4096);refine bf [jX n,rL] [] [] [] hE jU EB (KQ x atom) (let v0:=x.U.getD 0 zE;let v1:=bG v0<n/\aA v0=true/\0<=atom/\atom<=4096;let v2:=eC atom x;let v3:=eC atom v0;((av x.ah->(((decide (x.ah=(4:Int)))=true->false=v2)/\((decide (x.ah=(4:Int)))=false->(((decide (x.ah=(6:Int)))=true->(x.U.length<=140737488355328->(aI (0:Int) x.U.length/\(v1/\((v3=false->(ux n x atom))/\(v3=(!false)->true=v2))))))/\((decide (x.ah=(6:Int)))=false->(((decide (x.ah=(7:Int)))=true->(x.U.length<=140737488355328->(aI (0:Int) x.U.length/\(v1/\((v3=true->(ux n x atom))/\(v3=(!true)->false=v2))))))/\((decide (x.ah=(7:Int)))=false->(((decide (x.ah=(8:Int)))=true->true=v2)/\((decide (x.ah=(8:Int)))=false->((iD x=true/\0<=atom/\atom<=4096)/\(fZ atom x)=v2)))))))))))) ?_;obtain⟨hm,hg,h0,h1⟩:=hp;refine λ _=>⟨λ _=>?_,λ _=>⟨λ _ _=>⟨?_,?_,λ _ _=>⟨?_,?_,?_⟩,λ _=>?_⟩,λ _=>⟨λ _ _=>⟨?_,?_,λ _ _=>⟨?_,?_,?_⟩,λ _=>?_⟩,λ _=>⟨λ _=>?_,λ _=>⟨?_,?_⟩⟩⟩⟩⟩;all_goals try and_intros
 all_goals first|rfl|trivial|omega|((try simp only[b0R,b0Q,aI,b5k,b3C,b5b,b4T,Bool.or_true,b3D] at *);first|rfl|omega|exact a1i atom x (by omega)|exact a1l atom x (by omega)|exact UI atom x (by omega) (by omega) (by omega) (by omega)|exact NA x hg (by have:=eL x hg;omega)|(have b:=bZ x hg (by omega);first|(have:=b.len;omega)|exact b.g0|exact b.g1|(have:=b.l0;omega)|(have:=b.l1;omega)|(rw[a1j atom x (by omega) b];simp_all;done)|(rw[a1k atom x (by omega) b];simp_all;done)))
def Ut :∀ n,bu [jX n]
 | 0=>⟨⟨aH jU,λ _ _ h=>absurd h.1 (b1x _)⟩,ag⟩
 | n+1=>by
  have ih:=Ut  n;exact⟨Jk n ⟨ih.1,GM,ag⟩,ag⟩
def sA :bc.Good lj :=
 ⟨aH jU,λ x atom hp=>(Ut  (bG x+1)).1.2 x atom (⟨b1b _,hp⟩)⟩
def lv(n:Nat):bc:=⟨rT,[.r (.st .expr)],λ (x:J)=>⟨(some (bG x<n/\ar x<=1048576),[⟨(.int .i64),(ar x:Int)⟩])⟩⟩
def rK:bc:=⟨rT,[.r (.st .expr)],λ (x:J)=>⟨(some (ar x<=1048576),[⟨(.int .i64),(ar x:Int)⟩])⟩⟩
def M0(x:J):Nat->aP:=(eR 0 (.b (Nat) (λ k=>k<=x.U.length) (λ k=>x.U.length - k) [2] (λ k=>[(4, .aO ⟨(.int .i64),((k:Int):Int)⟩),(3, .aO ⟨(.int .i64),((1+cV ar (x.U.take k):Int):Int)⟩)])) cw)
def K3(n:Nat)(hE:bu [lv n]):bc.Good (lv (n+1)):=by
 refine⟨aH kV,?_⟩;intro (x:J) (hp:bG x<n+1/\ar x<=1048576);refine bf [lv n] [] [] [] hE kV Gd (M0 x) (let v0:=(x.U.length:Int);(((∃ k1:Nat,(k1<=x.U.length/\((x=x/\((1:Int)=(1+cV ar (x.U.take k1):Int)/\((0:Int)=(k1:Int)/\True)))/\True)))/\(∀ k1:Nat,let v2:=x.U.getD k1 zE;let v3:=(1+cV ar (x.U.take k1):Int);let v1:=v3+((ar v2:Int));(k1<=x.U.length->(x.U.length<=140737488355328->(av v0->(((decide ((k1:Int)<v0))=true->(x.U.length<=140737488355328->(aI (k1:Int) x.U.length/\((bG v2<n/\ar v2<=1048576)/\(av ((ar v2:Int))->(av v1/\(av ((k1:Int)+(1:Int))/\(∃ k2:Nat,(k2<=x.U.length/\(x.U.length - k2<x.U.length - k1/\((x=x/\(v1=(1+cV ar (x.U.take k2):Int)/\(((k1:Int)+(1:Int))=(k2:Int)/\True)))/\True)))))))))))/\((decide ((k1:Int)<v0))=false->v3=(ar x:Int)))))))))) ?_;rw[ib x] at hp;have f0:=gf x;have f1:=Eg ar x.U;refine⟨⟨0,?_,⟨rfl,?_,?_,ag⟩,ag⟩,λ k1 _=>have a4B:=nD ar zE x.U k1;have a4C:=eH ar x.U k1;have a4D:=eH ar x.U (k1+1);have a4E:=u6 ar x.U k1;have a4F:=cF zE x.U k1;λ _ _=>⟨λ _ _=>⟨?_,?_,λ _=>⟨?_,?_,k1+1,?_,?_,⟨rfl,?_,?_,ag⟩,ag⟩⟩,λ _=>?_⟩⟩;all_goals try and_intros
 all_goals try rw[ib x]
 all_goals first|rfl|trivial|omega|(simp only[b0R,b0Q,aI,av,cD,mJ,dH,bC] at *;omega)|(simp[aI,av] at *;omega)|grind
def N3 :∀ n,bu [lv n]
 | 0=>⟨⟨aH kV,λ _ h=>absurd h.1 (b1x _)⟩,ag⟩
 | n+1=>by
  have ih:=N3  n;exact⟨K3 n ⟨ih.1,ag⟩,ag⟩
def GJ :bc.Good rK :=
 ⟨aH kV,λ x hp=>(N3  (bG x+1)).1.2 x (⟨b1b _,hp⟩)⟩
def mD(n:Nat):bc:=⟨uT,[.r (.st .expr), .r (.st .expr)],λ (x:J) (b:J)=>⟨(some (bG x<n/\aA x=true/\aA b=true/\ar x+ar b<=4000),[⟨(.st .expr),jJ x b⟩])⟩⟩
def uG:bc:=⟨uT,[.r (.st .expr), .r (.st .expr)],λ (x:J) (b:J)=>⟨(some (aA x=true/\aA b=true/\ar x+ar b<=4000),[⟨(.st .expr),jJ x b⟩])⟩⟩
def Pv(x:J)(b:J):Nat->aP:=cw
abbrev yE(n:Nat)(x:J)(b:J):Prop:=(let v0:=x.U.getD 1 zE;let v1:=x.U.getD 0 zE;let v2:=aQ (jJ v0 b);(av x.ah ->
 (((decide (x.ah=(2:Int)))=true ->
 (cJ b<=1048576/\(aQ b)=(jJ x b)))/\((decide (x.ah=(2:Int)))=false ->
 (av b.ah ->
 (((decide (b.ah=(2:Int)))=true ->
 (cJ x<=1048576/\(aQ x)=(jJ x b)))/\((decide (b.ah=(2:Int)))=false ->
 (av x.ah ->
 (((decide (x.ah=(7:Int)))=true ->
 (x.U.length<=140737488355328 ->
 (aI (1:Int) x.U.length/\((bG v0<n/\aA v0=true/\aA b=true/\ar v0+ar b<=4000)/\(x.U.length<=140737488355328 ->
 (aI (0:Int) x.U.length/\((bG v1<n/\aA v1=true/\aA v2=true/\ar v1+ar v2<=4000)/\(aQ (jJ v1 v2))=(jJ x b))))))))/\((decide (x.ah=(7:Int)))=false ->
 (cJ x<=1048576/\(cJ b<=1048576/\(aQ (J.mk (7:Int) 0 [x,b]))=(jJ x b)))))))))))))
def Nl(n:Nat)(hE:bu [mD n,ei,fJ,eM]):bc.Good (mD (n+1)):=by
 refine⟨aH mz,?_⟩;intro (x:J) (b:J) (hp:bG x<n+1/\aA x=true/\aA b=true/\ar x+ar b<=4000);refine bf [mD n,ei,fJ,eM] [] [] [] hE mz H8 (Pv x b) ((av x.ah->(((decide (x.ah=(1:Int)))=false->(av b.ah->(((decide (b.ah=(1:Int)))=true->(aQ (J.mk 1 0 []))=(jJ x b))/\((decide (b.ah=(1:Int)))=false->(yE n x b)))))/\((decide (x.ah=(1:Int)))=(!false)->((true=true->(aQ (J.mk 1 0 []))=(jJ x b))/\(true=false->(yE n x b))))))) ?_;obtain⟨hm,hg,hb,hn⟩:=hp;refine λ _=>⟨λ _ _=>⟨λ _=>?_,λ _ _=>⟨λ _=>⟨?_,?_⟩,λ _ _=>⟨λ _=>⟨?_,?_⟩,λ _ _=>⟨λ _ _=>⟨?_,?_,λ _=>⟨?_,?_,?_⟩⟩,λ _=>⟨?_,?_,?_⟩⟩⟩⟩⟩,λ _=>⟨λ _=>?_,λ _ _=>⟨λ _=>⟨?_,?_⟩,λ _ _=>⟨λ _=>⟨?_,?_⟩,λ _ _=>⟨λ _ _=>⟨?_,?_,λ _=>⟨?_,?_,?_⟩⟩,λ _=>⟨?_,?_,?_⟩⟩⟩⟩⟩⟩;all_goals try and_intros
 all_goals try (first|with_reducible rfl|with_reducible assumption)
 all_goals try simp only[J.eta,cu] at *
 all_goals (try simp only[b1D,b1J,b0R,b0Q,aI,J.eta] at *);first|rfl|trivial|omega|exact lF _ (by omega)|exact (Fc x b (by omega)).symm|exact (Fe x b (by omega) (by omega)).symm|exact (Ff x b (by omega) (by omega) (by omega)).symm|exact (Fh x b (by omega) (by omega) (by omega) (by omega)).symm|with_reducible assumption|(have g:=bZ x hg (by omega);first|(have:=g.len;omega)|exact g.g0|exact g.g1|(have:=g.l0;omega)|(have:=g.l1;omega)|exact (dtT _ b g.g1 hb).g|(have:=g.nd;omega)|(have:=g.nd;have:=(dtT _ b g.g1 hb).n;omega)|exact (Fg x b (by omega) (by omega) (by omega) (by omega) g).symm)|exact congrArg J.ah (Fc x b (by omega)).symm|exact congrArg J.ah (Fe x b (by omega) (by omega)).symm|exact congrArg J.ah (Ff x b (by omega) (by omega) (by omega)).symm|exact congrArg J.ah (Fh x b (by omega) (by omega) (by omega) (by omega)).symm|exact congrArg J.ah (Fg x b (by omega) (by omega) (by omega) (by omega) (bZ x hg (by omega))).symm|exact congrArg J.aX (Fc x b (by omega)).symm|exact congrArg J.aX (Fe x b (by omega) (by omega)).symm|exact congrArg J.aX (Ff x b (by omega) (by omega) (by omega)).symm|exact congrArg J.aX (Fh x b (by omega) (by omega) (by omega) (by omega)).symm|exact congrArg J.aX (Fg x b (by omega) (by omega) (by omega) (by omega) (bZ x hg (by omega))).symm|exact congrArg J.U (Fc x b (by omega)).symm|exact congrArg J.U (Fe x b (by omega) (by omega)).symm|exact congrArg J.U (Ff x b (by omega) (by omega) (by omega)).symm|exact congrArg J.U (Fh x b (by omega) (by omega) (by omega) (by omega)).symm|exact congrArg J.U (Fg x b (by omega) (by omega) (by omega) (by omega) (bZ x hg (by omega))).symm
def Rr :∀ n,bu [mD n]
 | 0=>⟨⟨aH mz,λ _ _ h=>absurd h.1 (b1x _)⟩,ag⟩
 | n+1=>by
  have ih:=Rr  n;exact⟨Nl n ⟨ih.1,fA,gu,eW,ag⟩,ag⟩
def ID :bc.Good uG :=
 ⟨aH mz,λ x b hp=>(Rr  (bG x+1)).1.2 x b (⟨b1b _,hp⟩)⟩
def rM:bc:=⟨Bq,[.r (.st .expr)],λ (x:J)=>⟨(some (aA x=true/\ar x<=4000),[⟨(.st .expr),Az x⟩])⟩⟩
def M8(x:J):Nat->aP:=cw
def GP:bc.Good rM:=by
 refine⟨aH x6,?_⟩;intro (x:J) (hp:aA x=true/\ar x<=4000);refine bf [gW,ei,oj] [] [] [] ⟨np,fA,vY,ag⟩ x6 Gk (M8 x) ((((bD x)=true->(aQ (J.mk 2 0 []))=(Az x))/\((bD x)=false->(av x.ah->(((decide (x.ah=(8:Int)))=true->(cJ x<=1048576/\(aQ x)=(Az x)))/\((decide (x.ah=(8:Int)))=false->(cJ x<=1048576/\(J.mk (8:Int) (0:Int) ([x]))=(Az x)))))))) ?_;obtain⟨hg,hn⟩:=hp;refine⟨λ _=>?_,λ _ _=>⟨λ _=>⟨?_,?_⟩,λ _=>⟨?_,?_⟩⟩⟩;all_goals try and_intros
 all_goals try (first|with_reducible rfl|with_reducible assumption)
 all_goals try simp only[J.eta,cu] at *
 all_goals (try simp only[decide_eq_true_eq,decide_eq_false_iff_not,aI,J.eta] at *);first|rfl|trivial|omega|exact lF _ (by omega)|(unfold Az;first|(rw[if_pos (by with_reducible assumption)];done)|(rw[if_neg (by simp_all),if_pos (by with_reducible assumption)];done)|(rw[if_neg (by simp_all),if_neg (by with_reducible assumption)];done))
open Go.RowKit Go.Proofs
def a2X{w0 w:World}{S:Nat->Prop}(hS:iZ w0 S)(hb:Below w0.heap.size w0 w):iZ w S :=
 ⟨λ b h=>b0V (hS.1 b h) hb.size,hS.2.mono (λ _ h=>h) λ b h=>hb.block b (hS.1 b h)⟩
def Y4{w0 w:World}{S:Nat->Prop}(hS:iZ w0 S)(hb:Below w0.heap.size w0 w){d:D}{cs:List Value}(r:Rd w0 S d cs):Rd w S d cs:=Rd.aM (λ _ h=>h) (λ b h=>hb.block b (hS.1 b h)) _ r
def qm{B:Nat}{w w':World}(h:bK (λ _=>False) w w')(hB:B<=w.heap.size):Below B w w':=⟨h.os,h.tape,h.output,h.size,λ k hk=>h.block k (by omega) id⟩
def XW{w0 w:World}{S:Nat->Prop}(hS:iZ w0 S)(hb:Below w0.heap.size w0 w)(x y:J)(b o b' o':Nat)(cx cy:List Value)(h1:b<w.heap.size)(h2:bo w b o cx)(rx:Rd w0 S x.aK cx)
  (vB:b'<w.heap.size) (yv:bo w b' o' cy) (ry:Rd w0 S y.aK cy) :
  Calls prog mF #[.pointer (some ⟨b,o,none⟩), .pointer (some ⟨b',o',none⟩)] w λ e w'=>e = .returned (.bool (iM x y))/\bK (λ _=>False) w w':=by
 refine (ug.2 x y trivial w _ [_,_] (a2X hS hb) ⟨⟨b,o,cx,rfl,h1,h2,Y4 hS hb rx⟩,⟨b',o',cy,rfl,vB,yv,Y4 hS hb ry⟩,ag⟩).mono ?_;rintro e w' ⟨v,S',res,rfl,rfl,eX,_,_,hr⟩;have hr:[v]=[.bool (iM x y)]:=hr;simp only[b0O,b1i] at hr;subst hr;exact⟨rfl,eX⟩
structure B6(q:Nat)(v v':Value)(w w':World):Prop where
 os:w'.os=w.os
 tape:w'.tape=w.tape
 output:w'.output=w.output
 size:w.heap.size<=w'.heap.size
 block:∀ k,k<w.heap.size->k≠q->v.ownBlock≠some k->w'.heap[k]?=w.heap[k]?
 own:∀ k,v'.ownBlock=some k->v.ownBlock=some k\/w.heap.size<=k
def B6.trans{q:Nat}{v v' v'':Value}{w w' Rl:World}(h:B6 q v v' w w')(g:B6 q v' v'' w' Rl):B6 q v v'' w Rl:=by
 refine⟨g.os.trans h.os,g.tape.trans h.tape,g.output.trans h.output,b2c h.size g.size,λ k h1 h2 h3=>?_,λ k hk=>?_⟩
 .rw[g.block k (b0V h1 h.size) h2 λ e=>?_,h.block k h1 h2 h3];rcases h.own k e with q|q
  .exact h3 q
  .omega
 .rcases g.own k hk with q|q
  .exact h.own k q
  .exact .inr (b2c h.size q)
def B6.below{q B:Nat}{v v':Value}{w w':World}(h:B6 q v v' w w')(hB:B<=w.heap.size)(hq:B<=q)(hv:∀ k,v.ownBlock=some k->B<=k):Below B w w' :=
 ⟨h.os,h.tape,h.output,h.size,λ k hk=>h.block k (by omega) (by omega) λ e=>by have:=hv k e;omega⟩
def B6.same{q:Nat}{v:Value}{w w':World}(h:bK (λ _=>False) w w'):B6 q v v w w':=⟨h.os,h.tape,h.output,h.size,λ k hk _ _=>h.block k hk id,λ k e => .inl e⟩
structure Ek(w0:World)(S:Nat->Prop)(q:Nat)(w:World)(v:Value)(ys:List J)(L:List Value):Prop where
 cW:Below w0.heap.size w0 w
 q0:w0.heap.size<=q
 var:w.heap[q]?=some (.cells #[v] 26 (0,0))
 own:w.ownsRow w0.heap.size 28 3 v ys.length L
 rd:dj w0 S (ys.map J.aK) L
 ne:v.ownBlock≠some q
 nn:v ≠ .slice none 0 0
def Ek.lt{w0:World}{S:Nat->Prop}{q:Nat}{w:World}{v:Value}{ys:List J}{L:List Value}(h:Ek w0 S q w v ys L):q<w.heap.size:=bA h.var
def Ek.form{w0:World}{S:Nat->Prop}{q:Nat}{w:World}{v:Value}{ys:List J}{L:List Value}(h:Ek w0 S q w v ys L):∃ g cap cur,v = .slice (some ⟨g,0,none⟩) ys.length cap/\w0.heap.size<=g/\g≠q/\w.heap[g]?=some (.cells cur 28 (0,0))/\ys.length<=cap/\cap<=maxLen/\cur.toList.take (ys.length * 3)=L:=by
 rcases h.own.2 with ⟨e,_⟩|⟨g,cap,cur,rfl,h1,h2,h3,h4,h5,h6⟩
 .exact absurd e h.nn
 .exact⟨g,cap,cur,rfl,h1,λ e=>h.ne (by rw[e];rfl),h2,h3,h4,h6⟩
def Ek.aM{w0:World}{S:Nat->Prop}{q:Nat}{w w':World}{v:Value}{ys:List J}{L:List Value}(h:Ek w0 S q w v ys L)(hk:bK (λ _=>False) w w'):Ek w0 S q w' v ys L :=
 ⟨h.cW.trans (qm hk h.cW.size),h.q0,(hk.block q h.lt id).trans h.var,h.own.kept (row:=none) ⟨hk.os,hk.tape,hk.output,hk.size,λ k h1 _=>hk.block k h1 id⟩ (by cases hv:v.ownBlock<;>simp),h.rd,h.ne,h.nn⟩
def OC(ys:List J):∀ d∈ys.map J.aK,d.size=3:=λ d hd=>by
 obtain⟨y,_,rfl⟩:=b0P.1 hd;cases y;rfl
def DA{w0:World}{S:Nat->Prop}{ys:List J}{L:List Value}{w:World}{g:Nat}{cur:Array Value}(hg:w.heap[g]?=some (.cells cur 28 (0,0)))(ht:cur.toList.take (ys.length * 3)=L)(hr:dj w0 S (ys.map J.aK) L)
  (k:Nat) (y:J) (hy:ys[k]?=some y):∃ c0 c1 c2,bo w g (k * 3) [c0,c1,c2]/\Rd w0 S y.aK [c0,c1,c2]:=by
 have hk:k<ys.length:=(b1h.1 hy).1;have r:=dj.at_ (n:=3) _ hr (OC ys) k y.aK (by simp[hy]);have hl:=dj.length (n:=3) _ hr (OC ys);rw[b1F] at hl;have h3:((L.drop (k * 3)).take 3).length=3:=by rw[b1T,b1Z];omega
 match hm:(L.drop (k * 3)).take 3,h3 with
 | [c0,c1,c2],_ =>
  rw[hm] at r;refine⟨c0,c1,c2,λ j v hj=>?_,r⟩;rw[<-hm] at hj;have hj3:j<3:=by have:=(b1h.1 hj).1;omega
  rw[List.getElem?_take_of_lt hj3,List.getElem?_drop,<-ht,List.getElem?_take_of_lt (by omega)] at hj;rw[cell_of_row w g (k * 3+j) cur 28 (0,0) hg];simpa using hj
def PF{w0:World}{S:Nat->Prop}{q:Nat}{w:World}{v:Value}{ys:List J}{L:List Value}(h:Ek w0 S q w v ys L):w.cell? ⟨q,0,none⟩=some v:=by simp[World.cell?,h.var]
def yg{w0 w:World}(hb:Below w0.heap.size w0 w){b o:Nat}{cs:List Value}(h:bo w0 b o cs)(h1:b<w0.heap.size):bo w b o cs:=h.aM (hb.block b h1)
abbrev Rn(w0:World)(S:Nat->Prop)(x:J)(b o q:Nat)(v:Value)(ys:List J)(w:World):Prop :=
 Calls prog 115 #[.pointer (some ⟨b,o,none⟩), .pointer (some ⟨q,0,none⟩)] w λ e w'=>e = .returned (.tuple #[])/\∃ v' L',Ek w0 S q w' v' (dB x ys) L'/\B6 q v v' w w'
def kN:Value->Nat
 | .int _ k=>k.toNat
 | _=>0
set_option maxRecDepth 100000 in
def a9q(w0:World)(S:Nat->Prop)(x:J)(h1:x.ah=1)(b o q:Nat)(v:Value)(ys:List J)(L:List Value)(w:World)(hl:Ek w0 S q w v ys L)(hc:w.cell? ⟨b,o,none⟩=some (.int .i64 1)):Rn w0 S x b o q v ys w:=by
 go_enter Tryz.func115,Tryz.ntmps115;go_wp2;(try simp only[Exit.inBlock,Exit.then]);refine bodyPost_ret (results_none rfl _ _ _) rfl ?_;rw[Ze x ys h1];exact⟨rfl,v,L,hl,B6.same (bK.refl _ w)⟩
set_option maxRecDepth 100000 in
def a9r(w0:World)(S:Nat->Prop)(x:J)(h6:x.ah=6)(b2:B2 x)(b o q kb ko cap:Nat)(v:Value)(ys:List J)(w:World)(c0:w.cell? ⟨b,o,none⟩=some (.int .i64 6))
  (c2:∀ w',(∃ v',B6 q v v' w w')->w'.cell? ⟨b,o+2,none⟩=some (.slice (some ⟨kb,ko,none⟩) 2 cap))
  (i0:Rn w0 S (x.U.getD 0 zE) kb ko q v ys w)
  (i1:∀ w' v' L',Ek w0 S q w' v' (dB (x.U.getD 0 zE) ys) L'->B6 q v v' w w'->Rn w0 S (x.U.getD 1 zE) kb (ko+3) q v' (dB (x.U.getD 0 zE) ys) w'):Rn w0 S x b o q v ys w:=by
 have c2':=c2 w ⟨v,B6.same (bK.refl _ w)⟩;go_enter Tryz.func115,Tryz.ntmps115;go_wp2_with (go_at_call 115;refine i0.mono ?_);rintro e w1 ⟨he,v1,L1,l1,f1⟩;subst he;have b0q:=c2 w1 ⟨v1,f1⟩;go_wp2_with (go_at_call 115;refine (i1 w1 v1 L1 l1 f1).mono ?_);rintro e w2 ⟨he,v2,L2,l2,f2⟩;subst he;go_wp2;(try simp only[Exit.inBlock,Exit.then]);refine b4F (b5l rfl _ _ _) rfl ?_;rw[Zf x ys h6 b2];exact⟨rfl,v2,L2,l2,f1.trans f2⟩
def a9m(L:List Value)(z0 z1 z2 a b c:Value)(n:Nat)(h:L.length=n):(((L++[z0,z1,z2]).set n a).set (n+1) b).set (n+2) c=L++[a,b,c]:=by
 subst h;rw[b3q _ _ (by omega),b3q _ _ (by omega),b3q _ _ (by omega)];simp
def a3k{w0 w wr w2 W:World}{S:Nat->Prop}{q g gg FR Iv:Nat}{x:J}{ys:List J}{L:List Value}{a b c:Value}{cur3:Array Value}{o1:Obj}(lr:Ek w0 S q wr (.slice (some ⟨g,0,none⟩) ys.length FR) ys L)
  (kc:bK (λ _=>False) w wr) (hqw:q<w.heap.size) (hgw:g<w.heap.size) (dr:(wr.alloc o1).grownBy w2 (some g)) (Km:some g=some gg\/gg=wr.heap.size+1) (a5i:gg<w2.heap.size) (gq2:gg≠q)
  (s3:w2.heap[gg]?=some (.cells cur3 28 (0,0))) (s4:cur3.size=Iv * 3) (s5:ys.length+1<=Iv) (s6:Iv<=maxLen) (s7:w0.heap.size<=gg) (s8:cur3.toList.take ((ys.length+1) * 3)=L++[.int .i64 0, .int .i64 0, .slice none 0 0])
  (rx:Rd w0 S x.aK [a,b,c]) (k1:W.os=w2.os) (k2:W.tape=w2.tape) (k3:W.output=w2.output) (k4:W.heap.size=w2.heap.size) (k5:∀ k,k≠q->k≠gg->W.heap[k]?=w2.heap[k]?)
  (k6:W.heap[q]?=some (.cells #[.slice (some ⟨gg,0,none⟩) (ys.length+1) Iv] 26 (0,0)))
  (k7:W.heap[gg]?=some (.cells (((cur3.setIfInBounds (ys.length * 3) a).setIfInBounds (ys.length * 3+1) b).setIfInBounds (ys.length * 3+2) c) 28 (0,0))) :
  Ek w0 S q W (.slice (some ⟨gg,0,none⟩) (ys.length+1) Iv) (ys++[x]) (L++[a,b,c])/\B6 q (.slice (some ⟨g,0,none⟩) ys.length FR) (.slice (some ⟨gg,0,none⟩) (ys.length+1) Iv) w W:=by
 have hLl:L.length=ys.length * 3:=lr.own.1;have hg0:w0.heap.size<=g:=(lr.own.lt g rfl).1;have sz:(wr.alloc o1).heap.size=wr.heap.size+1:=by simp
 have dw:∀ k,k<wr.heap.size->k≠q->k≠g->W.heap[k]?=wr.heap[k]?:=λ k h1 h2 h3=>by
  rw[k5 k h2 (λ e=>by rcases Km with r|r<;>first|omega|(cases r;exact h3 e)),dr.block k (by omega) (λ e=>h3 (by cases e;rfl)),b2a _ _ _ h1]
 have fr:B6 q (.slice (some ⟨g,0,none⟩) ys.length FR) (.slice (some ⟨gg,0,none⟩) (ys.length+1) Iv) w W:=by
  refine⟨k1.trans (dr.os.trans kc.os),k2.trans (dr.tape.trans kc.tape),k3.trans (dr.output.trans kc.output),by have:=dr.size;have:=kc.size;omega,λ k h1 h2 h3=>?_,λ k hk=>?_⟩
  .have hk:k<wr.heap.size:=b0V h1 kc.size;rw[dw k hk h2 (λ e=>h3 (by rw[e];rfl)),kc.block k h1 id]
  .simp only[Value.ownBlock,b0J] at hk ⊢;subst hk;rcases Km with e|e
   .cases e;exact .inl rfl
   .exact .inr (by have:=kc.size;omega)
 refine⟨⟨?_,lr.q0,k6,⟨?_, .inr ⟨gg,Iv,_,?_,s7,k7,by simpa using s5,s6,by simpa using s4,?_⟩⟩,?_,λ e=>gq2 (by simpa [Value.ownBlock] using e),by simp⟩,fr⟩
 .refine lr.cW.trans ⟨k1.trans dr.os,k2.trans dr.tape,k3.trans dr.output,by have:=dr.size;omega,λ k hk=>dw k ?_ ?_ ?_⟩
  .have:=lr.cW.size;omega
  .have:=lr.q0;omega
  .omega
 .simp[hLl];omega
 .simp
 .simp only[Array.toList_setIfInBounds,List.take_set,b0Y,b0W,b1f,b2l,s8];exact a9m L _ _ _ a b c _ hLl
 .rw[b2b];exact dj.append _ _ lr.rd ⟨_,[],by simp,rx,rfl⟩
def Tz:(Tryz.prog.info? 28).map (λ i=>(i.zero,i.size,i.bytes))=some (some (.agg #[.int .i64 0, .int .i64 0, .slice none 0 0]),3,40):=by kernel_rfl
def P1{w:World}{base e n g cap:Nat}{L:List Value}{c0 c1 c2:Value}(h:w.ownsRow base e 3 (.slice (some ⟨g,0,none⟩) (n+1) cap) (n+1) (L++[c0,c1,c2]))(hl:L.length=n * 3) :
  (w.cell? ⟨g,n * 3,none⟩=some c0/\w.cell? ⟨g,n * 3+1,none⟩=some c1/\w.cell? ⟨g,n * 3+2,none⟩=some c2)/\∃ cur,w.heap[g]?=some (.cells cur e (0,0))/\cur.size=cap * 3/\n+1<=cap/\cap<=maxLen/\base<=g/\cur.toList.take ((n+1) * 3)=L++[c0,c1,c2]:=by
 have hc:=h.cells (g:=g) rfl;refine⟨⟨?_,?_,?_⟩,?_⟩
 .have:=hc (n * 3) c0 (by rw[List.getElem?_append_right (by omega),hl];simp);simpa [Addr.add_lit] using this
 .have:=hc (n * 3+1) c1 (by rw[List.getElem?_append_right (by omega),hl];simp);simpa [Addr.add_lit] using this
 .have:=hc (n * 3+2) c2 (by rw[List.getElem?_append_right (by omega),hl];simp);simpa [Addr.add_lit] using this
 .rcases h.2 with ⟨e,_⟩|⟨g',Om,cur,e,h1,h2,h3,h4,h5,h6⟩
  .cases e
  .cases e;exact⟨cur,h2,h5,h3,h4,h1,h6⟩
def Ta{w:World}{g e j:Nat}{cur:Array Value}(h:w.heap[g]?=some (.cells cur e (0,0))):w.frozen? ⟨g,j,none⟩=false:=by simp[World.frozen?,h]
set_option maxRecDepth 100000 in
def a9s(w0:World)(S:Nat->Prop)(hS:iZ w0 S)(x:J)(hg:aA x=true)(n1:¬ x.ah=1)(n6:¬ x.ah=6)(b o q:Nat)(cs:List Value)(v:Value)(ys:List J)(L:List Value)(w:World)(hl:Ek w0 S q w v ys L)
  (hb:b<w0.heap.size) (hc:bo w0 b o cs) (hr:Rd w0 S x.aK cs) (hn:ys.length<=8000):Rn w0 S x b o q v ys w:=by
 obtain⟨a,cap,rfl,_⟩:=ow hr;have CH:b<w.heap.size:=Nat.lt_of_lt_of_le hb hl.cW.size;have d0:w.cell? ⟨b,o,none⟩=some (.int .i64 x.ah):=yg hl.cW hc hb 0 _ rfl;obtain⟨g,FR,cur,rfl,hg0,hgq,nX,hgc,hgm,hgt⟩:=hl.form;have hv:=PF hl;have kb1:(x.ah == 1)=false:=by simpa using n1
 have kb6:(x.ah == 6)=false:=by simpa using n6
 go_enter Tryz.func115,Tryz.ntmps115;go_wp2;go_loopw [4] (λ i wr=>∃ k:Nat,i = .int .i64 k/\k<=ys.length/\bK (λ _=>False) w wr/\∀ j y,j<k->ys[j]?=some y->iM y x=false) (λ i wr=>ys.length - kN i)
 .exact⟨0,rfl,b1G _,bK.refl _ w,λ j y h=>absurd h (b1x _)⟩
 obtain⟨k,rfl,hk,kc,dD⟩:=hrel;have lr:=hl.aM kc;have Pd:=PF lr;have hbr:b<wr.heap.size:=b0V CH kc.size;have a5g:wr.heap[g]?=some (.cells cur 28 (0,0)):=(kc.block g (bA nX) id).trans nX;by_cases bz:k<ys.length
 .obtain⟨y,hy⟩:∃ y,ys[k]?=some y:=⟨_,b1a bz⟩;obtain⟨e0,e1,e2,ce,re⟩:=DA a5g hgt hl.rd k y hy;go_wp2_with (go_at_call 59;refine (XW hS lr.cW y x g (k * 3) b o _ _ (bA a5g) ce re hbr (yg lr.cW hc hb) hr).mono ?_);rintro e w1 ⟨he,h1⟩;subst he;go_wp2
  .rename_i he;(try simp only[Exit.inBlock,Exit.then]);refine b4F (b5l rfl _ _ _) rfl ?_;have ha:ys.any (λ z=>iM z x)=true:=b3R.2 ⟨y,b1y hy,he⟩;rw[Zh x ys n1 n6 ha];exact⟨rfl,_,L,lr.aM h1,B6.same (kc.trans h1 λ _ _ h=>h)⟩
  .rename_i he;refine⟨⟨k+1,by first|rfl|simp,bz,kc.trans h1 λ _ _ h=>h,λ j z hj hz=>?_⟩,?_⟩
   .rcases b1w j k with q|q
    .exact dD j z q hz
    .have:j=k:=by omega
     subst this;rw[hy] at hz;cases hz;simpa using he
   .simp only[kN];omega
 .have ha:ys.any (λ z=>iM z x)=false:=by
   rw[b3M];intro z hz;obtain⟨j,hj,e⟩:=b2R hz;have:=dD j z (by omega) (by rw[b1a hj,e]);rw[this];decide
  have hek:k=ys.length:=by omega
  subst hek;clear dD bz hk;have cb:=yg lr.cW hc hb;have r0:wr.cell? ⟨b,o,none⟩=some (.int .i64 x.ah):=cb 0 _ rfl;have r1:wr.cell? ⟨b,o+1,none⟩=some (.int .i64 x.aX):=cb 1 _ rfl;have r2:wr.cell? ⟨b,o+2,none⟩=some (.slice a x.U.length cap):=cb 2 _ rfl;have r3:wr.cell? ⟨q,0,none⟩=some (.slice (some ⟨g,0,none⟩) ys.length FR):=by simp[World.cell?,lr.var]
  have gq:g≠q:=hgq;obtain⟨i0,QV,Q1,Kw,MJ⟩:=b4Y Tz;have hlq:=lr.lt;have dM:=lr.own;have hLl:L.length=ys.length * 3:=dM.1;have bi0:(0:Int)<=(ys.length:Int):=by omega
  have bi1:(ys.length:Int)<(ys.length:Int)+1:=by omega
  have bi2:(ys.length:Int)<((ys.length+1:Nat):Int):=by omega
  have bq:b≠q:=by have:=lr.q0;omega
  have qb:q≠b:=b5o bq;have bg:b≠g:=by omega
  have aq:some q≠(Value.slice (some ⟨g,0,none⟩) ys.length FR).ownBlock:=λ e=>hgq (by simpa [Value.ownBlock] using e.symm);have ab:some b≠(Value.slice (some ⟨g,0,none⟩) ys.length FR).ownBlock:=λ e=>by
   have:b=g:=by simpa [Value.ownBlock] using e
   omega
  go_wp2_with fail;go_region_law
   ((
    refine step_append_lies _ (by rfl) _ _ _ (by rfl) w0.heap.size 28 i0 _ 3 40 Tryz.underlying26 QV Q1 Kw MJ rfl (by omega) _ ys.length L (by rfl) ((dM.alloc _).drew)
      ⟨wr.heap.size,0,none⟩ 1 1 [.int .i64 0, .int .i64 0, .slice none 0 0] (by rfl) (by rfl) (b4e (cs := #[.int .i64 0, .int .i64 0, .slice none 0 0]) (t:=28) (fr:=(0,0)) (b2g wr _)) (by simp[Value.oneCell'])
      (by omega) (by simp[maxLen];omega) (by omega) (by simp;have:=lr.cW.size;omega) (wr.heap.size+1) (by simp) ?_;intro gg Iv w2 a1P dr Km a5i
    have gq2:gg≠q:=by
     rcases Km with e|e
     .exact λ h=>aq (by rw[<-h,e])
     .omega
    have gb2:gg≠b:=by
     rcases Km with e|e
     .exact λ h=>ab (by rw[<-h,e])
     .omega
    obtain⟨⟨s0,s1,s2⟩,cur3,s3,s4,s5,s6,s7,s8⟩:=P1 a1P hLl
    have z0:=Ta (j:=ys.length * 3) s3
    have z1:=Ta (j:=ys.length * 3+1) s3
    have z2:=Ta (j:=ys.length * 3+2) s3
    have uq:w2.heap[q]?=some (.cells #[.slice (some ⟨g,0,none⟩) ys.length FR] 26 (0,0)):=(dr.block q (by simp;omega) aq).trans ((show _=wr.heap[q]? from b2a wr _ q hlq).trans lr.var)
    have fq2:=Ta (j:=0) uq
    have vq:w2.cell? ⟨q,0,none⟩=some (.slice (some ⟨g,0,none⟩) ys.length FR):=by simp[World.cell?,uq]))
  all_goals
   (try simp only[Exit.inBlock,Exit.then])
   refine bodyPost_end (b5l rfl _ _ _) rfl ?_
   rw[Zg x ys n1 n6 ha]
   obtain⟨⟨s0,s1,s2⟩,cur3,s3,s4,s5,s6,s7,s8⟩:=P1 a1P hLl
   have uq:w2.heap[q]?=some (.cells #[.slice (some ⟨g,0,none⟩) ys.length FR] 26 (0,0)):=(dr.block q (by simp;omega) aq).trans ((show _=wr.heap[q]? from b2a wr _ q hlq).trans lr.var)
   have gq3:q≠gg:=b5o gq2
   refine⟨rfl,_,_,a3k (cur3:=cur3) lr kc hl.lt (bA nX) ⟨dr.os,dr.tape,dr.output,dr.size,dr.block⟩ Km a5i gq2 s3 s4 s5 s6 s7 s8 hr rfl rfl rfl (by simp) (λ k e1 e2=>?_) ?_ ?_⟩
   .repeat rw[b2t _ _ _ _ (by assumption)]
   .first
     | (rw[b2d _ _ _ _ _ _ (by (repeat rw[b2t _ _ _ _ (by assumption)]);exact uq)];rfl)
     | (
       repeat rw[b2t _ _ _ _ (by assumption)]
       rw[b2d _ _ _ _ _ _ uq];rfl)
   .first
     | (
       rw[b2t _ _ _ _ (by assumption)]
       exact b2d _ _ _ _ _ _ (b2d _ _ _ _ _ _ (b2d _ _ _ _ _ _ s3)))
     | exact b2d _ _ _ _ _ _ (b2d _ _ _ _ _ _ (b2d _ _ _ _ _ _ ((b2t _ _ _ _ (by assumption)).trans s3)))
def Ef(w0:World)(S:Nat->Prop)(hS:iZ w0 S):∀ (N:Nat) (x:J),bG x<N->aA x=true->∀ (b o q:Nat) (cs:List Value) (v:Value) (ys:List J) (L:List Value) (w:World),Ek w0 S q w v ys L->b<w0.heap.size->bo w0 b o cs->Rd w0 S x.aK cs ->
  kl ys->eV ys+ar x<=8000->Rn w0 S x b o q v ys w
 | 0,x,h,_=>by omega
 | N+1,x,hN,hg=>by
  intro b o q cs v ys L w hl hb hc hr QU hn;by_cases h1:x.ah=1
  .obtain⟨a,cap,rfl,_⟩:=ow hr;exact a9q w0 S x h1 b o q v ys L w hl (by rw[<-h1];exact yg hl.cW hc hb 0 _ rfl)
  by_cases h6:x.ah=6
  .have b2:=bZ x hg (.inl h6);obtain⟨a,cap,rfl,hk⟩:=ow hr;obtain⟨kb,ko,rfl,ZV,fB⟩:∃ kb ko,a=some ⟨kb,ko,none⟩/\S kb/\df w0 S (x.U.map J.aK) kb ko:=by
    rcases hk with hk|hk
    .have:=b2.len;rw[hk] at this;cases this
    .obtain⟨kb,ko,e1,e2,e3⟩:=hk;exact⟨kb,ko,e1,e2,e3⟩
   obtain⟨c0,c1,c2,r0,q0⟩:=Jq fB 0 (by have:=b2.len;omega);obtain⟨d0,d1,d2,r1,q1⟩:=Jq fB 1 (by have:=b2.len;omega);have a8C:∀ w',(∃ v',B6 q v v' w w')->Below w0.heap.size w0 w':=λ w' ⟨v',f⟩=>hl.cW.trans (f.below hl.cW.size hl.q0 λ k hk=>(hl.own.lt k hk).1);obtain⟨g1,t1⟩:=HD _ (x.U.getD 0 zE) (b1b _) b2.g0 ys QU;have nd:=b2.nd;refine a9r w0 S x h6 b2 b o q kb ko cap v ys w (by rw[<-h6];exact yg hl.cW hc hb 0 _ rfl) (λ w' yB=>by have:=yg (a8C w' yB) hc hb 2 _ rfl;rw[b2.len] at this;exact this)
    (Ef w0 S hS N _ (by have:=b2.l0;omega) b2.g0 kb ko q _ v ys L w hl (hS.1 kb ZV) (by simpa using q0) r0 QU (by omega)) λ w' v' L' l' f' =>
    Ef w0 S hS N _ (by have:=b2.l1;omega) b2.g1 kb (ko+3) q _ v' _ L' w' l' (hS.1 kb ZV) (by simpa using q1) r1 g1 (by omega)
  .exact a9s w0 S hS x hg h1 h6 b o q cs v ys L w hl hb hc hr (by have:eV ys=cV ar ys+ys.length:=rfl;omega)
def X5{w0 w:World}{S:Nat->Prop}(hS:iZ w0 S)(hb:Below w0.heap.size w0 w)(x:J)(hg:aA x=true)(hl:(bH x).length<=1000000)(b o:Nat)(cx:List Value)(h1:b<w.heap.size)(h2:bo w b o cx)(rx:Rd w0 S x.aK cx) :
  Calls prog mG #[.pointer (some ⟨b,o,none⟩)] w λ e w'=>e = .returned (.string ⟨(bH x).toArray⟩)/\bK (λ _=>False) w w':=by
 refine (GK.2 x ⟨hg,hl⟩ w _ [_] (a2X hS hb) ⟨⟨b,o,cx,rfl,h1,h2,Y4 hS hb rx⟩,ag⟩).mono ?_;rintro e w' ⟨v,S',res,rfl,rfl,eX,_,_,hr⟩;obtain⟨s,hs,mW,_⟩:=(show ∃ s:ByteArray,[v]=[.string s]/\s.data.toList=bH x/\s.size<=140737488355328 from hr);simp only[b0O,b1i] at hs;subst hs;refine⟨?_,eX⟩;rw[<-mW]
def strs(ys:List J):List Value:=ys.map λ y => .string ⟨(bH y).toArray⟩
def a0r(ys:List J)(k:Nat)(y:J)(h:ys[k]?=some y):(strs ys)[k]?=some (.string ⟨(bH y).toArray⟩):=by simp[strs,h]
def V4(xs:List J)(k:Nat)(h:k<=xs.length):(Ue xs k).length=k:=by
 have:=(Qn (xs.take k) []).2.2;unfold Ue xJ;rw[this,List.length_take,List.length_nil];omega
def yr{w w':World}(h:Below w.heap.size w w'):w.grownBy w' none:=⟨h.os,h.tape,h.output,h.size,λ k h1 _=>h.block k h1⟩
def Mc{w:World}{B e sz g n c k:Nat}{xs:List Value}(h:w.ownsRow B e sz (.slice (some ⟨g,0,none⟩) n c) n xs)(hk:k<=n):w.ownsRow B e sz (.slice (some ⟨g,0,none⟩) k c) k (xs.take (k * sz)):=by
 obtain⟨h1,h2⟩:=h;have hm:=b2u sz hk;refine⟨by rw[b1T];omega,?_⟩;rcases h2 with ⟨q,_⟩|⟨g',c',cur,q,q1,q2,q3,q4,q5,q6⟩
 .cases q
 .cases q;exact .inr ⟨g,c,cur,rfl,q1,q2,by omega,q4,q5,by rw[<-q6,List.take_take,b4M hm]⟩
structure SrR(w0:World)(S:Nat->Prop)(B:Nat)(w wr:World)(ys:List J)(gt ct go co:Nat)(Lo:List Value):Prop where
 cW:Below B w wr
 t:wr.ownsRow B 9 1 (.slice (some ⟨gt,0,none⟩) ys.length ct) ys.length (strs ys)
 o:wr.ownsRow B 28 3 (.slice (some ⟨go,0,none⟩) ys.length co) ys.length Lo
 rd:dj w0 S (ys.map J.aK) Lo
 ne:gt≠go
def a6D:(Tryz.prog.info? 9).map (λ i=>(i.zero,i.size,i.bytes))=some (some (.string ⟨#[]⟩),1,16):=by kernel_rfl
def P5{w:World}{S:Nat->Prop}:∀ (ds es:List D) {l:List Value},dj w S (ds++es) l->∃ l1 l2,l=l1++l2/\dj w S ds l1/\dj w S es l2
 | [],es,l,h=>⟨[],l,rfl,rfl,h⟩
 | d::ds,es,l,h=>by
  obtain⟨c,r,rfl,h1,h2⟩:=h;obtain⟨l1,l2,rfl,h3,h4⟩:=P5 ds es h2;exact⟨c++l1,l2,by simp,⟨c,l1,rfl,h1,h3⟩,h4⟩
def a2O{w0:World}{S:Nat->Prop}{ys:List J}{Lo:List Value}{x:J}{c0 c1 c2:Value}{k:Nat}(h:dj w0 S (ys.map J.aK) Lo)(hx:Rd w0 S x.aK [c0,c1,c2])(hk:k<=ys.length) :
  dj w0 S ((ys.take k++x::ys.drop k).map J.aK) (Lo.take (k * 3)++[c0,c1,c2]++Lo.drop (k * 3)):=by
 have e:ys.map J.aK=(ys.take k).map J.aK++(ys.drop k).map J.aK:=by rw[<-b2b,b2q]
 rw[e] at h;obtain⟨l1,l2,rfl,h1,h2⟩:=P5 _ _ h;have hl:=dj.length (n:=3) _ h1 (OC _);rw[b1F,b1T,b4M hk] at hl;rw[List.take_left' hl,List.drop_left' hl,b2b,b1p,b1o];exact dj.append _ _ h1 ⟨[c0,c1,c2],l2,rfl,hx,h2⟩
def Bv{P:Program}{w:World}{ops:Array Oper}{o:Oper}{a:Act}{K:Act->World->Prop}{Q:Exit->Act->World->Prop}{E:Prop}(hgd:o.guard=none)(s x:Operand)(t:TypeId)
  (ho:o.op = .call { callee := .builtin .append,args := #[s,x],argTypes := #[t,t] })
  (base:Nat) (e:TypeId) (i:TypeInfo) (z:Value) (size bytes:Nat) (ht:P.underlying t=some (.slice e)) (hi:P.info? e=some i) (hz:i.zero=some z)
  (xw:i.size=size) (hby:i.bytes=bytes) (Kx:z.cells.size=size) (cj:0<size)
  (v:Value) (n:Nat) (xs:List Value) (hs:a.eval s=v) (dM:w.ownsRow base e size v n xs)
  (ad:Addr) (m c:Nat) (news:List Value) (hx:a.eval x = .slice (some ad) m c) (hl:news.length=m * size) (zY:∀ j u,news[j]?=some u->w.cell? (ad.add j)=some u) (h1:∀ u∈news,u.oneCell'=true)
  (h63:n+m<=maxLen) (Tj:(n+m) * bytes<=140737488355328) (Kn:base<=w.heap.size)
  (h:∀ v' w',w'.ownsRow base e size v' (n+m) (xs++news)->w.grownBy w' v.ownBlock->(v'.ownBlock=v.ownBlock\/v'.ownBlock=some w.heap.size)->K (a.put o.dst v') w') :
  if Region.wanted o (yielded ops a.tmps)=true then Oper.wp P o a w K Q else E:=by
 have hw:Region.wanted o (yielded ops a.tmps)=true:=by simp[Region.wanted,hgd]
 rw[if_pos hw];obtain⟨v',w',hr,h2,h3,h4,h5⟩:=run_append_own_at (P:=P) w base t o.type e i z size bytes ht hi hz xw hby Kx cj v n xs dM ad m c news hl zY h1 h63 Tj Kn;unfold Oper.wp execOp;simp only[ho,resolve,invoke,builtin,Sem.run_bind,Sem.run_pure,Result.andThen_ok,List.map_toArray,List.map_cons,List.map_nil,hs,hx,hr];exact h v' w' h2 h3 h5
set_option maxRecDepth 100000 in
def Uc(
           w0:World) (S:Nat->Prop) (hS:iZ w0 S) (xs:List J) (hx:kl xs) (hn:eV xs<=9000) (w:World) (hb:Below w0.heap.size w0 w) (g cap:Nat) (hgw:g<w.heap.size)
  (hc:∀ k y,xs[k]?=some y->∃ c0 c1 c2,bo w g (k * 3) [c0,c1,c2]/\Rd w0 S y.aK [c0,c1,c2]) :
  Calls prog 116 #[.slice (some ⟨g,0,none⟩) xs.length cap] w λ e w'=>∃ g' c' L',e = .returned (.slice (some ⟨g',0,none⟩) xs.length c')/\w'.ownsRow w.heap.size 28 3 (.slice (some ⟨g',0,none⟩) xs.length c') xs.length L'/\dj w0 S ((xJ xs).map J.aK) L'/\Below w.heap.size w w':=by
 have hlen:xs.length<=9000:=by have:eV xs=cV ar xs+xs.length:=rfl;omega
 have B0:Below w.heap.size w ((w.alloc (.cells #[] 9)).alloc (.cells #[] 28)):=((b2Q _ w).alloc (b1d _) _).alloc (by simp) _;have T0:((w.alloc (.cells #[] 9)).alloc (.cells #[] 28)).ownsRow w.heap.size 9 1 (.slice (some ⟨w.heap.size,0,none⟩) 0 0) 0 []:=(b3o w #[] 0 (b1d _) (b1G _) (by simp)).alloc _;have O0:((w.alloc (.cells #[] 9)).alloc (.cells #[] 28)).ownsRow w.heap.size 28 3 (.slice (some ⟨w.heap.size+1,0,none⟩) 0 0) 0 []:=by
  have:=World.ownsRow_made (base:=w.heap.size) (e:=28) (size:=3) (w.alloc (.cells #[] 9)) #[] 0 (by simp) (Nat.zero_le _) (by simp);simpa using this
 go_enter Tryz.func116,Tryz.ntmps116;go_wp2;go_loopw [3,4,5] (λ vt vo i wr=>∃ (k gt ct go co:Nat) (Lo:List Value),i = .int .i64 k/\k<=xs.length/\vt = .slice (some ⟨gt,0,none⟩) k ct/\vo = .slice (some ⟨go,0,none⟩) k co/\SrR w0 S w.heap.size w wr (Ue xs k) gt ct go co Lo) (λ vt vo i wr=>xs.length - kN i)
 .exact⟨0,_,_,_,_,[],rfl,b1G _,rfl,rfl,⟨B0,T0,O0,rfl,by simp⟩⟩
 obtain⟨i,gt,ct,go,co,Lo,rfl,hi,rfl,rfl,hR⟩:=hrel;clear B0 T0 O0;by_cases bz:i<xs.length
 .obtain⟨x,EO⟩:∃ x,xs[i]?=some x:=⟨_,b1a bz⟩;have hgx:aA x=true:=hx x (b1y EO);obtain⟨c0,c1,c2,hcx,hrx⟩:=hc i x EO;have EP:=V4 xs i hi;have vF:ar x<=9000:=by
   have:ar x<=cV ar xs:=by
    obtain⟨a,b,rfl⟩:=b4m (b1y EO);rw[zg];simp[cV];omega
   have:eV xs=cV ar xs+xs.length:=rfl;omega
  have hbr:Below w0.heap.size w0 wr:=hb.trans (hR.cW.mono hb.size);have nX:g<wr.heap.size:=b0V hgw hR.cW.size;have Tl:bo wr g (i * 3) [c0,c1,c2]:=hcx.aM (hR.cW.block g hgw);have a8Y:=a0p xs i x EO;generalize hY:Ue xs i=ys at *
  go_wp2_with (go_at_call 130;refine (X5 hS hbr x hgx (Um x hgx vF) g (i * 3) _ nX Tl hrx).mono ?_);rintro e w1 ⟨he,sR⟩;subst he;have b1:Below w.heap.size w w1:=hR.cW.trans (qm sR hR.cW.size);have gk:wr.grownBy w1 none:=⟨sR.os,sR.tape,sR.output,sR.size,λ k h1 _=>sR.block k h1 id⟩;have t1:=hR.t.kept gk (.inr (by simp[Value.ownBlock]));have o1:=hR.o.kept gk (.inr (by simp[Value.ownBlock]));have Pe:bo w1 g (i * 3) [c0,c1,c2]:=Tl.aM (sR.block g nX id);have dD:=hR.ne;have fv:=hR.rd;rw[EP] at t1 o1;clear hR sR gk Tl nX hbr;have tc:=t1.cells (g:=gt) rfl;obtain⟨i9,h9,h90,h91,h92⟩:=b4Y a6D;obtain⟨i0,QV,Q1,Kw,MJ⟩:=b4Y Tz;have kt:i<=ct:=by
   rcases t1.2 with ⟨e,_⟩|⟨_,_,_,e,_,_,e1,_⟩
   .cases e
   .cases e;exact e1
  have ko:i<=co:=by
   rcases o1.2 with ⟨e,_⟩|⟨_,_,_,e,_,_,e1,_⟩
   .cases e
   .cases e;exact e1
  have oc:=o1.cells (g:=go) rfl;have hLo:Lo.length=i * 3:=o1.1;have cf:(strs ys).length=i:=by rw[strs,b1F,EP]
  have hB1:=b1.size;go_upto_block 2 with fail;go_cut [7] (λ s7 wx=>wx=w1/\∃ k:Nat,s7 = .int .i64 k/\k<=i/\fW x ys=ys.take k++x::ys.drop k);case first =>
   go_wp2;go_loopw [7] (λ a wr'=>wr'=w1/\∃ k:Nat,a = .int .i64 k/\k<=i/\∀ j y,j<k->ys[j]?=some y->Q9 y x=true) (λ a wr'=>i - kN a)
   .exact⟨rfl,0,rfl,b1G _,λ j y h=>absurd h (b1x _)⟩
   obtain⟨rfl,k,rfl,hk,a1K⟩:=hrel;by_cases G5:k<i
   .obtain⟨y,hy⟩:∃ y,ys[k]?=some y:=⟨_,b1a (by omega)⟩;have ck:wr.cell? ⟨gt,k,none⟩=some (.string ⟨(bH y).toArray⟩):=by
     have:=tc k _ (a0r ys k y hy);simpa [Addr.add_lit] using this
    have LY:Op.bytesLess (bH y) (bH x)=Q9 y x:=rfl;cases hL:Q9 y x
    .rw[hL] at LY;go_wp2;go_meet;refine⟨rfl,k,rfl,hk,Pj x ys k (by omega) a1K λ z hz=>?_⟩;rw[hy] at hz;cases hz;exact hL
    .rw[hL] at LY;go_wp2;refine⟨⟨ag,k+1,by simp,by omega,λ j z hj hz=>?_⟩,?_⟩
     .rcases b1w j k with q|q
      .exact a1K j z q hz
      .have:j=k:=by omega
       subst this;rw[hy] at hz;cases hz;exact hL
     .simp only[kN];omega
   .go_wp2;go_meet;refine⟨rfl,k,rfl,hk,Pj x ys k (by omega) a1K λ z hz=>?_⟩;have:=(b1h.1 hz).1;omega
  case rest =>
   obtain⟨rfl,k,rfl,hk,a1H⟩:=hcut;obtain⟨w1,rfl⟩:∃ w1,w1=wc:=⟨_,rfl⟩;have b1:Below w.heap.size w w1:=by assumption
   go_upto_region 10 with fail;go_cut [8] (λ s8 wx=>∃ g8 c8,s8 = .slice (some ⟨g8,0,none⟩) (i - k) c8/\wx.ownsRow w1.heap.size 9 1 (.slice (some ⟨g8,0,none⟩) (i - k) c8) (i - k) ((strs ys).drop k)/\Below w1.heap.size w1 wx);case first =>
    have hd:((strs ys).drop k).length=(i - k) * 1:=by rw[b1Z,cf,Nat.mul_one]
    have uo:∀ u∈(strs ys).drop k,u.oneCell'=true:=λ u hu=>by
     obtain⟨y,_,rfl⟩:=b0P.1 (b3z hu);rfl
    by_cases hck:ct=k
    .subst hck;go_wp2_with (at_builtin;refine b3O _ rfl _ _ 80 rfl w1.heap.size 9 i9 _ 1 16 Tryz.underlying80 h9 h90 h91 h92 rfl (by decide) _ _ _ rfl (b3o w1 #[] 0 (b1d _) (b1G _) (by simp)) ⟨gt,0,none⟩ 0 0 [] rfl rfl (λ j u hj=>by simp at hj) (λ u hu=>by simp at hu) (by simp[maxLen]) (by omega) (by simp) ?_);intro v' w2 dM dr iU;go_wp2;go_meet;try simp only[b2l,b1v] at dM
     have e1:i - ct=0:=by omega
     have e2:(strs ys).drop ct=[]:=b2U (by omega);rw[e1,e2];rcases dM.2 with ⟨e,_⟩|⟨g8,c8,a7T,e,q1,q2,q3,q4,q5,q6⟩
     .exact absurd e iU
     .subst e;exact⟨g8,c8,rfl,dM,((b2Q _ w1).alloc (b1d _) _).grown dr (by simp) (by intro k hk;simp[Value.ownBlock] at hk;omega)⟩
    .go_wp2_with (at_builtin;refine b3O _ rfl _ _ 80 rfl w1.heap.size 9 i9 _ 1 16 Tryz.underlying80 h9 h90 h91 h92 rfl (by decide) _ _ _ rfl (b3o w1 #[] 0 (b1d _) (b1G _) (by simp)) ⟨gt,k,none⟩ (i - k) (ct - k) ((strs ys).drop k) rfl hd ?qb uo (by simp[maxLen];omega) (by omega) (by simp) ?_);case qb =>
      intro j u hj;rw[List.getElem?_drop] at hj;have:=tc _ _ hj;rw[Addr.add_lit];rw[Addr.add_lit] at this;simpa using Lib.cell?_alloc_some _ this
     .intro v' w2 dM dr iU;go_wp2;go_meet;try simp only[b2l,b1v] at dM
      rcases dM.2 with ⟨e,_⟩|⟨g8,c8,a7T,e,q1,q2,q3,q4,q5,q6⟩
      .exact absurd e iU
      .subst e;exact⟨g8,c8,rfl,dM,((b2Q _ w1).alloc (b1d _) _).grown dr (by simp) (by intro k hk;simp[Value.ownBlock] at hk;omega)⟩
   case rest =>
    obtain⟨g8,c8,hs8,a5y,LJ⟩:=hcut;have A8:Aside (_=Value.slice (some ⟨g8,0,none⟩) (i - k) c8):=hs8;clear hs8;obtain⟨w2,rfl⟩:∃ w2,w2=wc:=⟨_,rfl⟩;have t2:=t1.kept (yr LJ) (.inr (by simp[Value.ownBlock]));have o2:=o1.kept (yr LJ) (.inr (by simp[Value.ownBlock]));have hx2:bo w2 g (i * 3) [c0,c1,c2]:=Pe.aM (LJ.block g (by omega));have n8:=(a5y.lt g8 rfl);have oc:=o2.cells (g:=go) rfl;go_upto_region 11 with fail;go_cut [9] (λ s9 wx=>∃ g9 c9,s9 = .slice (some ⟨g9,0,none⟩) (i - k) c9/\wx.ownsRow w2.heap.size 28 3 (.slice (some ⟨g9,0,none⟩) (i - k) c9) (i - k) (Lo.drop (k * 3))/\Below w2.heap.size w2 wx);case first =>
     have hd:(Lo.drop (k * 3)).length=(i - k) * 3:=by rw[b1Z,hLo,Nat.sub_mul]
     have uo:∀ u∈Lo.drop (k * 3),u.oneCell'=true:=λ u hu=>dj.jF (τ := .st .expr) fv u (b3z hu);by_cases hck:co=k
     .subst hck;go_wp2_with (at_builtin;refine b3O _ rfl _ _ 26 rfl w2.heap.size 28 i0 _ 3 40 Tryz.underlying26 QV Q1 Kw MJ rfl (by decide) _ _ _ rfl (b3o w2 #[] 0 (b1d _) (b1G _) (by simp)) ⟨go,0,none⟩ 0 0 [] rfl rfl (λ j u hj=>by simp at hj) (λ u hu=>by simp at hu) (by simp[maxLen]) (by omega) (by simp) ?_);intro v' w3 dM dr iU;go_wp2;go_meet;try simp only[b2l,b1v] at dM
      have e1:i - co=0:=by omega
      have e2:Lo.drop (co * 3)=[]:=b2U (by omega);rw[e1,e2];rcases dM.2 with ⟨e,_⟩|⟨g9,c9,a7U,e,q1,q2,q3,q4,q5,q6⟩
      .exact absurd e iU
      .subst e;exact⟨g9,c9,rfl,dM,((b2Q _ w2).alloc (b1d _) _).grown dr (by simp) (by intro k hk;simp[Value.ownBlock] at hk;omega)⟩
     .go_wp2_with (at_builtin;refine b3O _ rfl _ _ 26 rfl w2.heap.size 28 i0 _ 3 40 Tryz.underlying26 QV Q1 Kw MJ rfl (by decide) _ _ _ rfl (b3o w2 #[] 0 (b1d _) (b1G _) (by simp)) ⟨go,k * 3,none⟩ (i - k) (co - k) (Lo.drop (k * 3)) rfl hd ?qb uo (by simp[maxLen];omega) (by omega) (by simp) ?_);case qb =>
       intro j u hj;rw[List.getElem?_drop] at hj;have:=oc _ _ hj;rw[Addr.add_lit];rw[Addr.add_lit] at this;simpa using Lib.cell?_alloc_some _ this
      .intro v' w3 dM dr iU;go_wp2;go_meet;try simp only[b2l,b1v] at dM
       rcases dM.2 with ⟨e,_⟩|⟨g9,c9,a7U,e,q1,q2,q3,q4,q5,q6⟩
       .exact absurd e iU
       .subst e;exact⟨g9,c9,rfl,dM,((b2Q _ w2).alloc (b1d _) _).grown dr (by simp) (by intro k hk;simp[Value.ownBlock] at hk;omega)⟩
    case rest =>
     obtain⟨g9,c9,hs9,a5z,Oe⟩:=hcut;have A9:Aside (_=Value.slice (some ⟨g9,0,none⟩) (i - k) c9):=hs9;clear hs9;obtain⟨w3,rfl⟩:∃ w3,w3=wc:=⟨_,rfl⟩;have t3:=t2.kept (yr Oe) (.inr (by simp[Value.ownBlock]));have o3:=o2.kept (yr Oe) (.inr (by simp[Value.ownBlock]));have a2B:=a5y.kept (yr Oe) (.inr (by simp[Value.ownBlock]));have hx3:bo w3 g (i * 3) [c0,c1,c2]:=hx2.aM (Oe.block g (by have:=LJ.size;omega));have n9:=(a5z.lt g9 rfl);obtain rfl:=A8.out;obtain rfl:=A9.out;clear A8 A9;have s2:=LJ.size;have s3:=Oe.size;have q8:=a2B.cells (g:=g8) rfl;have h8:g8<w3.heap.size:=by omega
     have ng8:g8≠gt:=by
      have:=(t1.lt gt rfl).2;omega
     have E12:Aside ((strs ys).take k ++ .string ⟨(bH x).toArray⟩::(strs ys).drop k=strs (fW x ys)):=show _=_ by
      rw[a1H];simp[strs,List.map_take,List.map_drop]
     have a4w:Aside (fW x ys=ys.take k++x::ys.drop k):=a1H;clear a1H;go_upto_region 12 with fail;go_cut [3] (λ s3 wx=>∃ g3 c3,s3 = .slice (some ⟨g3,0,none⟩) (i+1) c3/\wx.ownsRow w.heap.size 9 1 (.slice (some ⟨g3,0,none⟩) (i+1) c3) (i+1) (strs (fW x ys))/\w3.grownBy wx (some gt)/\(g3=gt\/w3.heap.size<=g3));case first =>
      have pt:=(Mc t3 hk).alloc (.cells #[.string ⟨(bH x).toArray⟩] 9);go_wp2_with (at_builtin;refine b4Z _ rfl _ _ 80 rfl w.heap.size 9 i9 _ 1 16 Tryz.underlying80 h9 h90 h91 h92 rfl (by decide) _ k _ rfl pt ⟨w3.heap.size,0,none⟩ 1 1 [.string ⟨(bH x).toArray⟩] rfl rfl (cell_one_new _ _ _) (by simp[Value.oneCell']) (by simp[maxLen];omega) (by omega) (by simp;omega) ?_);intro v51 w4 a6z D0 a9O a8y;have a6T:=(a2B.alloc (.cells #[.string ⟨(bH x).toArray⟩] 9)).kept D0 (.inr (by simp[Value.ownBlock];omega));have Vh:=D0.size;go_wp2_with (at_builtin;refine b4Z _ rfl _ _ 80 rfl w.heap.size 9 i9 _ 1 16 Tryz.underlying80 h9 h90 h91 h92 rfl (by decide) v51 (k+1) _ rfl a6z ⟨g8,0,none⟩ (i - k) c8 ((strs ys).drop k) rfl (by rw[b1Z,cf,Nat.mul_one]) (a6T.cells (g:=g8) rfl) (λ u hu=>?_) (by simp[maxLen];omega) (by omega) (by simp at Vh;omega) ?_)
      .obtain⟨y,_,rfl⟩:=b0P.1 (b3z hu);rfl
      .intro v53 w5 z7 IN a9P a8z;go_wp2;go_meet;have hi1:k+1+(i - k)=i+1:=by omega
       rw[hi1,E12.out] at z7;rcases z7.2 with ⟨e,_⟩|⟨g3,c3,cur3,e,q1,q2,q3,q4,q5,q6⟩
       .have:=z7.1;rw[e] at z7;simp at *
       .subst e;have a1:∀ j,v51.ownBlock=some j->j=gt\/j=w3.heap.size+1:=λ j hj=>by
         rcases a8y with h|h
         .rw[h] at hj;left;simpa [Value.ownBlock] using hj.symm
         .rw[h] at hj;right;simpa using hj.symm
        refine⟨g3,c3,rfl,z7,⟨IN.os.trans D0.os,IN.tape.trans D0.tape,IN.output.trans D0.output,by have:=IN.size;simp at Vh;omega,λ j h1 h2=>?_⟩,?_⟩
        .rw[IN.block j (by simp at Vh;omega) λ e=>?_,D0.block j (by simp;omega) h2]
         .exact b2a _ _ _ h1
         .rcases a1 j e.symm with h|h
          .exact h2 (congrArg some h)
          .omega
        .rcases a8z with h|h
         .rcases a1 g3 (h.symm.trans rfl) with h|h
          .exact .inl h
          .exact .inr (by omega)
         .right;have:g3=w4.heap.size:=by simpa [Value.ownBlock] using h
          simp at Vh;omega
     case rest =>
      obtain⟨g3,c3,rfl,t4,UW,hg3⟩:=hcut;obtain⟨w4,rfl⟩:∃ w4,w4=wc:=⟨_,rfl⟩;have ngo:go≠gt:=b5o dD;have o4:=o3.kept UW (.inr (by simp[Value.ownBlock];exact ngo));have ng9:g9≠gt:=by have:=(t1.lt gt rfl).2;omega
      have a2C:=a5z.kept UW (.inr (by simp[Value.ownBlock];exact ng9));have a8O:=(t1.lt gt rfl).1;have hx4:bo w4 g (i * 3) [c0,c1,c2]:=hx3.aM (UW.block g (by omega) λ e=>by cases e;omega);have q9:=a2C.cells (g:=g9) rfl;have E34:Aside ((ys.take k).map J.aK++x.aK::(ys.drop k).map J.aK=(fW x ys).map J.aK):=show _=_ by
       rw[a4w.out];simp
      have QU:g<w4.heap.size:=by have:=UW.size;omega
      have r0:w4.cell? ⟨g,i * 3,none⟩=some c0:=hx4 0 _ rfl;have r1:w4.cell? ⟨g,i * 3+1,none⟩=some c1:=hx4 1 _ rfl;have r2:w4.cell? ⟨g,i * 3+2,none⟩=some c2:=hx4 2 _ rfl;have bi0:(0:Int)<=(i:Int):=by omega
      have bi1:(i:Int)<(xs.length:Int):=by omega
      have bk0:(0:Int)<=(k:Int):=by omega
      have bk1:(k:Int)<=(co:Int):=by omega
      have a6x:∀ u∈[c0,c1,c2],u.oneCell'=true:=dj.jF (τ := .st .expr) (xs:=[x]) (S:=S) (w:=w0) ⟨[c0,c1,c2],[],rfl,hrx,rfl⟩;have a6y:∀ u∈Lo.drop (k * 3),u.oneCell'=true:=λ u hu=>dj.jF (τ := .st .expr) fv u (b3z hu);go_wp2_with fail;have gog:some g≠some go:=λ e=>by cases e;have:=(o1.lt g rfl).1;omega
      have po:=((Mc o4 hk).alloc (.cells #[c0,c1,c2] 28)).drew;have b0I:g9≠go:=by have:=(o1.lt go rfl).2;have:=LJ.size;omega
      go_region_held3 (λ w'=>w'.cell? ⟨g,i * 3,none⟩=some c0/\w'.cell? ⟨g,i * 3+1,none⟩=some c1/\w'.cell? ⟨g,i * 3+2,none⟩=some c2)
       (first
        | go_keep
        | (
          go_split_ands
          refine⟨?_,?_,?_⟩
          ·(rw[D1.cell_far _ (by simp at *;omega) gg6];assumption)
          ·(rw[D1.cell_far _ (by simp at *;omega) gg6];assumption)
          ·(rw[D1.cell_far _ (by simp at *;omega) gg6];assumption))
        | (
          go_split_ands
          refine⟨?_,?_,?_⟩
          ·(rw[iq.cell_far _ (by simp;omega) gog];assumption)
          ·(rw[iq.cell_far _ (by simp;omega) gog];assumption)
          ·(rw[iq.cell_far _ (by simp;omega) gog];assumption)))
       ((first
         | (
           refine Bv (by rfl) _ _ _ (by rfl) w.heap.size 28 i0 _ 3 40 Tryz.underlying26 QV Q1 Kw MJ rfl (by omega) _ k _ (by rfl) po ⟨w4.heap.size,0,none⟩ 1 1 [c0,c1,c2] (by rfl) (by rfl) (b4e (cs := #[c0,c1,c2]) (t:=28) (fr:=(0,0)) (b2g w4 _)) a6x (by simp[maxLen];omega) (by omega) (by simp;have:=UW.size;omega) ?_
           intro v62 w6 Xi iq a1B
           have a6:∀ j,v62.ownBlock=some j->j=go\/j=w4.heap.size+1:=λ j hj=>by
            rcases a1B with h|h
            .rw[h] at hj;left;simpa [Value.ownBlock] using hj.symm
            .rw[h] at hj;right;simpa using hj.symm
           have gg6:some g≠v62.ownBlock:=λ e=>by
            rcases a6 g e.symm with h|h
            .exact gog (congrArg some h)
            .omega
           have hw6:w4.heap.size+1<=w6.heap.size:=by simpa using iq.size
           have a6U:w6.ownsRow w2.heap.size 28 3 (Value.slice (some ⟨g9,0,none⟩) (i - k) c9) (i - k) (Lo.drop (k * 3)):=((a2C.alloc (.cells #[c0,c1,c2] 28)).drew).kept iq (.inr (by simp[Value.ownBlock];omega))
           have q96:=a6U.cells (g:=g9) rfl)
         | (
           refine Bv (by rfl) _ _ _ (by rfl) w.heap.size 28 i0 _ 3 40 Tryz.underlying26 QV Q1 Kw MJ rfl (by omega) v62 (k+1) _ (by rfl) Xi ⟨g9,0,none⟩ (i - k) c9 (Lo.drop (k * 3)) (by rfl) (by rw[b1Z,hLo,Nat.sub_mul]) q96 a6y (by simp[maxLen];omega) (by omega) (by have:=UW.size;omega) ?_
           intro v64 w7 Tq D1 a8A)))
      go_wp2;have hz4:=UW.size;have hz6:w4.heap.size+1<=w6.heap.size:=by simpa using iq.size
      have hz7:=D1.size;have hc7:v64.ownBlock=some go\/v64.ownBlock=some (w4.heap.size+1)\/v64.ownBlock=some w6.heap.size:=by
       rcases a8A with h|h
       .rcases a1B with h'|h'
        .exact .inl (h.trans (h'.trans rfl))
        .exact .inr (.inl (h.trans (by simpa using h')))
       .exact .inr (.inr h)
      have hc6:v62.ownBlock=some go\/v62.ownBlock=some (w4.heap.size+1):=by
       rcases a1B with h'|h'
       .exact .inl (h'.trans rfl)
       .exact .inr (by simpa using h')
      have b0z:=o1.lt go rfl;have b0w:=(t4.lt g3 rfl);have a8q:g3≠go:=by rcases hg3 with h|h<;>omega
      have hik:k+1+(i - k)=i+1:=by omega
      have a1Q:w7.ownsRow w.heap.size 28 3 v64 (i+1) (Lo.take (k * 3)++[c0,c1,c2]++Lo.drop (k * 3)):=by
       rw[hik] at Tq;simpa using Tq
      have u1:=b1.size;have u2:=LJ.size;have u3:=Oe.size;have u5:w.heap.size<=gt:=a8O;have hB:Below w.heap.size w w7:=by
       have h1:Below w.heap.size w w4:=(b1.trans ((LJ.mono hB1).trans (Oe.mono (by omega)))).grown UW (by omega) (by intro j e;cases e;omega);exact ((h1.alloc (by omega) _).grown ⟨iq.os,iq.tape,iq.output,iq.size,iq.block⟩ (by simp;omega) (λ j e=>by have e':go=j:=b1Y e;omega)).grown D1 (by omega) (by
        intro j e;rcases hc6 with h|h
        .have:go=j:=b1Y (h.symm.trans e);omega
        .have:w4.heap.size+1=j:=b1Y (h.symm.trans e);omega)
      have t7:=((t4.alloc (.cells #[c0,c1,c2] 28)).kept ⟨iq.os,iq.tape,iq.output,iq.size,iq.block⟩ (.inr (by simp[Value.ownBlock];omega))).kept D1 (.inr (by
       intro e;rcases hc6 with h|h
       .rw[h] at e;exact a8q (by simpa [Value.ownBlock] using e)
       .rw[h] at e;have:g3=w4.heap.size+1:=by simpa [Value.ownBlock] using e
        omega))
      rcases a1Q.2 with ⟨_,e⟩|⟨g10,c10,a9M,e,q1,q2,q3,q4,q5,q6⟩
      .omega
      .subst e;have a1I:=a4w.out;have il:(fW x ys).length=i+1:=by rw[a1I];simp;omega
       refine⟨⟨i+1,g3,c3,g10,c10,Lo.take (k * 3)++[c0,c1,c2]++Lo.drop (k * 3),by simp,by omega,by first|rfl|simp,by first|rfl|simp,?_⟩,?_⟩
       .rw[a8Y];refine⟨hB,by rw[il];exact t7,by rw[il];exact a1Q,?_,?_⟩
        .rw[a1I];exact a2O fv hrx (by omega)
        .rcases hc7 with h|h|h
         .have:g10=go:=by simpa [Value.ownBlock] using h
          omega
         .have:g10=w4.heap.size+1:=by simpa [Value.ownBlock] using h
          omega
         .have:g10=w6.heap.size:=by simpa [Value.ownBlock] using h
          omega
       .simp only[kN];omega
 .have jw:i=xs.length:=by omega
  subst jw;have hl:=V4 xs _ hi;have uu:Ue xs xs.length=xJ xs:=by unfold Ue;rw[List.take_length]
  have hro:=hR.o;have QZ:=hR.rd;have hrb:=hR.cW;rw[hl] at hro;rw[uu] at QZ;clear hR;go_wp2;go_ret;exact⟨go,co,Lo,rfl,hro,QZ,hrb⟩
def Sx(w0:World)(S Z:Nat->Prop)(w:World):Nat->Prop:=λ b=>S b\/(w0.heap.size<=b/\b<w.heap.size/\¬ Z b)
def Li{w0 w:World}{S:Nat->Prop}(Z:Nat->Prop)(hS:iZ w0 S)(hb:Below w0.heap.size w0 w):iZ w (Sx w0 S Z w) :=
 ⟨λ b h=>h.elim (λ h=>b0V (hS.1 b h) hb.size) (λ h=>h.2.1),hS.2.mono (λ _ h => .inl h) λ b h=>hb.block b (hS.1 b h)⟩
def qC{w0 w w':World}{S Z Z':Nat->Prop}(hS:iZ w0 S)(hb:Below w0.heap.size w0 w)(hz:w.heap.size<=w'.heap.size)(ZW:∀ b,Z b->w0.heap.size<=b)(hk:∀ b,b<w.heap.size->¬ Z b->w'.heap[b]?=w.heap[b]?)(hZ:∀ b,b<w.heap.size->Z' b->Z b){d:D}{cs:List Value}(r:Rd w (Sx w0 S Z w) d cs):Rd w' (Sx w0 S Z' w') d cs :=
 Rd.aM (λ b h=>h.imp id λ h=>⟨h.1,b0V h.2.1 hz,λ q=>h.2.2 (hZ b h.2.1 q)⟩) (λ b h=>by
  rcases h with h|h
  .have:=hS.1 b h;exact hk b (b0V this hb.size) λ q=>by have:=ZW b q;omega
  .exact hk b h.2.1 h.2.2) _ r
def Qu{w0 w w':World}{S Z:Nat->Prop}(hS:iZ w0 S)(hb:Below w0.heap.size w0 w)(hk:bK (λ _=>False) w w'){d:D}{cs:List Value}(r:Rd w (Sx w0 S Z w) d cs):Rd w' (Sx w0 S Z w') d cs :=
 Rd.aM (λ b h=>h.imp id λ h=>⟨h.1,b0V h.2.1 hk.size,h.2.2⟩) (λ b h=>hk.block b ((Li Z hS hb).1 b h) id) _ r
def Uh{w0 w:World}{S:Nat->Prop}(Z:Nat->Prop)(hS:iZ w0 S)(hb:Below w0.heap.size w0 w){d:D}{cs:List Value}(r:Rd w0 S d cs):Rd w (Sx w0 S Z w) d cs :=
 Rd.aM (λ b h => .inl h) (λ b h=>hb.block b (hS.1 b h)) _ r
def JD{w0 w w':World}{S S' Z:Nat->Prop}(hS:iZ w0 S)(hb:Below w0.heap.size w0 w)(hZ:∀ b,Z b->b<w.heap.size)(hk:bK (λ _=>False) w w')(h1:∀ b,b<w.heap.size->(S' b↔Sx w0 S Z w b))(h2:∀ b,S' b->b<w'.heap.size){d:D}{cs:List Value}(r:Rd w' S' d cs):Rd w' (Sx w0 S Z w') d cs :=
 Rd.aM (λ b h=>by
  rcases b1w b w.heap.size with q|q
  .exact ((h1 b q).1 h).imp id λ h=>⟨h.1,by have:=hk.size;omega,h.2.2⟩
  .exact .inr ⟨by have:=hb.size;omega,h2 b h,λ z=>by have:=hZ b z;omega⟩) (λ _ _=>rfl) _ r
def Lq{w:World}{S:Nat->Prop}{x:J}{cs:List Value}(h:Rd w S x.aK cs):∃ (k n:Int) (a:Option Addr) (l c:Nat),cs=[.int .i64 k, .int .i64 n, .slice a l c]:=by
 obtain⟨a,cap,rfl,_⟩:=ow h;exact⟨_,_,_,_,_,rfl⟩
def P0{w0 w:World}{S Z:Nat->Prop}(hS:iZ w0 S)(hb:Below w0.heap.size w0 w)(hZ:∀ b,Z b->b<w.heap.size)(x:J)(hx:cJ x<=1048576)(b o:Nat)(cx:List Value)(h1:b<w.heap.size)(h2:bo w b o cx)(rx:Rd w (Sx w0 S Z w) x.aK cx) :
  Calls prog ot #[.pointer (some ⟨b,o,none⟩)] w λ e w'=>∃ (k' n':Int) (a':Option Addr) (l' c':Nat),e = .returned (.agg #[.int .i64 k', .int .i64 n', .slice a' l' c'])/\bK (λ _=>False) w w'/\Rd w' (Sx w0 S Z w') x.aK [.int .i64 k', .int .i64 n', .slice a' l' c']:=by
 refine (fA.2 x hx w _ [_] (Li Z hS hb) ⟨⟨b,o,cx,rfl,h1,h2,rx⟩,ag⟩).mono ?_;rintro e w' ⟨v,S',res,rfl,rfl,eX,vB,yv,hr⟩;obtain⟨cs,rfl,vG⟩:=(show ∃ cs,v = .agg cs.toArray/\Rd w' S' x.aK cs from hr);obtain⟨_,_,_,_,_,rfl⟩:=Lq vG;exact⟨_,_,_,_,_,rfl,eX,JD hS hb hZ eX vB yv vG⟩
def VJ{w0 w:World}{S Z:Nat->Prop}(hS:iZ w0 S)(hb:Below w0.heap.size w0 w)(hZ:∀ b,Z b->b<w.heap.size)(x y:J)(a0 a1 a2 b0 b1 b2:Value)(rx:Rd w (Sx w0 S Z w) x.aK [a0,a1,a2])(ry:Rd w (Sx w0 S Z w) y.aK [b0,b1,b2]) :
  Calls prog mH #[.int .i64 6, .agg #[a0,a1,a2], .agg #[b0,b1,b2]] w λ e w'=>∃ (k' n':Int) (a':Option Addr) (l' c':Nat),e = .returned (.agg #[.int .i64 k', .int .i64 n', .slice a' l' c'])/\bK (λ _=>False) w w'/\Rd w' (Sx w0 S Z w') (J.mk 6 0 [x,y]).aK [.int .i64 k', .int .i64 n', .slice a' l' c']:=by
 refine (eW.2 (6:Int) x y trivial w _ [_,_,_] (Li Z hS hb) ⟨⟨rfl,by decide,by decide⟩,⟨[a0,a1,a2],rfl,rx⟩,⟨[b0,b1,b2],rfl,ry⟩,ag⟩).mono ?_;rintro e w' ⟨v,S',res,rfl,rfl,eX,vB,yv,hr⟩;obtain⟨cs,rfl,vG⟩:=(show ∃ cs,v = .agg cs.toArray/\Rd w' S' (J.mk 6 0 [x,y]).aK cs from hr);obtain⟨_,_,_,_,_,rfl⟩:=Lq vG;exact⟨_,_,_,_,_,rfl,eX,JD hS hb hZ eX vB yv vG⟩
def Wj{w0 w:World}{S Z:Nat->Prop}(hS:iZ w0 S)(hb:Below w0.heap.size w0 w)(hZ:∀ b,Z b->b<w.heap.size) :
  Calls prog rY #[] w λ e w'=>∃ (k' n':Int) (a':Option Addr) (l' c':Nat),e = .returned (.agg #[.int .i64 k', .int .i64 n', .slice a' l' c'])/\bK (λ _=>False) w w'/\Rd w' (Sx w0 S Z w') (J.mk 1 0 []).aK [.int .i64 k', .int .i64 n', .slice a' l' c']:=by
 refine (gu.2 trivial w _ [] (Li Z hS hb) trivial).mono ?_;rintro e w' ⟨v,S',res,rfl,rfl,eX,vB,yv,hr⟩;obtain⟨cs,rfl,vG⟩:=(show ∃ cs,v = .agg cs.toArray/\Rd w' S' (J.mk 1 0 []).aK cs from hr);obtain⟨_,_,_,_,_,rfl⟩:=Lq vG;exact⟨_,_,_,_,_,rfl,eX,JD hS hb hZ eX vB yv vG⟩
def qJ{w:World}{b t:Nat}{u0 u1 u2:Value}(h:w.heap[b]?=some (.cells #[u0,u1,u2] t (0,0))):(w.cell? ⟨b,0,none⟩=some u0/\w.cell? ⟨b,1,none⟩=some u1/\w.cell? ⟨b,2,none⟩=some u2)/\w.frozen? ⟨b,0,none⟩=false/\w.frozen? ⟨b,1,none⟩=false/\w.frozen? ⟨b,2,none⟩=false :=
 ⟨⟨by simp[World.cell?,h],by simp[World.cell?,h],by simp[World.cell?,h]⟩,Ta h,Ta h,Ta h⟩
def Qo{w:World}{b t:Nat}{u0 u1 u2:Value}(c0 c1 c2:Value)(h:w.heap[b]?=some (.cells #[u0,u1,u2] t (0,0))):(((w.setCell ⟨b,0,none⟩ c0).setCell ⟨b,1,none⟩ c1).setCell ⟨b,2,none⟩ c2).heap[b]?=some (.cells #[c0,c1,c2] t (0,0)) /\
  ∀ k,k≠b->(((w.setCell ⟨b,0,none⟩ c0).setCell ⟨b,1,none⟩ c1).setCell ⟨b,2,none⟩ c2).heap[k]?=w.heap[k]? :=
 ⟨b2d _ _ _ _ _ _ (b2d _ _ _ _ _ _ (b2d _ _ _ _ _ _ h)),λ k hk=>by rw[b2t _ _ _ _ hk,b2t _ _ _ _ hk,b2t _ _ _ _ hk]⟩
def JC{a:Act}{w:World}{b:Nat}{cs:List Value}{t:TypeId}(h4:a.tmps.getD 4 undef = .pointer (some ⟨b,0,none⟩))(hb:w.heap[b]?=some (.cells cs.toArray t (0,0)))(hl:cs.length=3)(hd:a.defers=[])
  {R:Ending->World->Prop} (hR:R (.returned (.agg cs.toArray)) w):bodyPost prog Tryz.f91 R .ret a w:=by
 refine b4F ?_ hd hR;have cE:(Instr.loadAt 28 (.pointer (some ⟨b,0,none⟩))).run prog w = .ok (.agg cs.toArray) w:=gY (DV (l:=[]) (wr:=[]) (cl:=[]) (ro:=[]) trivial) (T:=28) (τ := .st .expr) rfl (λ j v hj=>by simp[World.cell?,hb,hj]) hl;simp only[Instr.loadAt,Instr.sureAddr,b1j,b1k,b1c] at cE;rw[nC,b2A];simp only[b1j,b4k,Tryz.f91,b3e,List.mapM_nil,lI,h4,asAddr,b1k,b1c,cE];rfl
def Vn(L:List J)(z:J)(h:0<L.length):l9 (L++[z])=J.mk 6 0 [l9 L,z]:=by
 match L,h with
 | x::xs,_=>simp[l9,b2Y]
def L0(ZS:List J)(k:Nat)(z:J)(h1:1<=k)(hz:ZS[k]?=some z):l9 (ZS.take (k+1))=J.mk 6 0 [l9 (ZS.take k),z]:=by
 have:=(b1h.1 hz).1;rw[b2Z,hz];exact Vn _ z (by rw[b1T];omega)
def a1x(ZS:List J)(N:Nat)(hN:N<=9000)(h:eV ZS<=N)(k:Nat)(z:J)(hz:ZS[k]?=some z):cJ z<=1048576:=by
 have:ar z<=cV ar ZS:=by
  obtain⟨a,b,rfl⟩:=b4m (b1y hz);rw[zg];simp[cV];omega
 have:eV ZS=cV ar ZS+ZS.length:=rfl;exact lF z (by omega)
set_option maxRecDepth 100000 in
def TA(w:World)(S:Nat->Prop)(hS:iZ w S)(x y:J)(hx:aA x=true)(hy:aA y=true)(hn:ar x+ar y<=7000)(bx ox bY oy:Nat)(cx cy:List Value)(xv:bx<w.heap.size)(hcx:bo w bx ox cx)(rx:Rd w S x.aK cx)
  (hby:bY<w.heap.size) (hcy:bo w bY oy cy) (ry:Rd w S y.aK cy) :
  Calls prog uU #[.pointer (some ⟨bx,ox,none⟩), .pointer (some ⟨bY,oy,none⟩)] w λ e w'=>∃ cs,e = .returned (.agg cs.toArray)/\Rd w' (Sx w S (λ _=>False) w') (JA x y).aK cs/\bK (λ _=>False) w w':=by
 have l0:Ek w S (w.heap.size+1+1) (((w.alloc (.cells #[.int .i64 0, .int .i64 0, .slice none 0 0] 28)).alloc (.cells #[] 28)).alloc (.cells #[.slice (some ⟨w.heap.size+1,0,none⟩) 0 0] 26)) (.slice (some ⟨w.heap.size+1,0,none⟩) 0 0) [] []:=by
  refine⟨(((b2Q _ w).alloc (b1d _) _).alloc (by simp) _).alloc (by simp;omega) _,by omega,?_,?_,rfl,by simp[Value.ownBlock],by simp⟩
  .have:=heap_alloc_new ((w.alloc (.cells #[.int .i64 0, .int .i64 0, .slice none 0 0] 28)).alloc (.cells #[] 28)) (.cells #[.slice (some ⟨w.heap.size+1,0,none⟩) 0 0] 26);simpa using this
  .have:=(World.ownsRow_made (base:=w.heap.size) (e:=28) (size:=3) (w.alloc (.cells #[.int .i64 0, .int .i64 0, .slice none 0 0] 28)) #[] 0 (by simp) (Nat.zero_le _) (by simp)).alloc (.cells #[.slice (some ⟨w.heap.size+1,0,none⟩) 0 0] 26);simpa using this
 have z0:(((w.alloc (.cells #[.int .i64 0, .int .i64 0, .slice none 0 0] 28)).alloc (.cells #[] 28)).alloc (.cells #[.slice (some ⟨w.heap.size+1,0,none⟩) 0 0] 26)).heap[w.heap.size]?=some (.cells #[.int .i64 0, .int .i64 0, .slice none 0 0] 28 (0,0)):=by
  rw[b2a _ _ _ (by simp;omega),b2a _ _ _ (by simp)];exact b2g w _
 have tx:=HD _ x (b1b _) hx [] (λ y hy=>by cases hy);have t0:eV []=0:=rfl;go_enter Tryz.func91,Tryz.ntmps91;go_wp2_with (go_at_call 115;refine (Ef w S hS _ x (b1b _) hx bx ox _ cx _ [] [] _ l0 xv hcx rx (λ y hy=>by cases hy) (by omega)).mono ?_);rintro e w1 ⟨he,v1,L1,l1,f1⟩;subst he;have z1:w1.heap[w.heap.size]?=some (.cells #[.int .i64 0, .int .i64 0, .slice none 0 0] 28 (0,0)):=(f1.block _ (by simp;omega) (by omega) (by simp[Value.ownBlock])).trans z0;have n1:v1.ownBlock≠some w.heap.size:=λ e=>by
  rcases f1.own _ e with h|h
  .simp[Value.ownBlock] at h
  .simp at h;omega
 go_wp2_with (go_at_call 115;refine (Ef w S hS _ y (b1b _) hy bY oy _ cy v1 _ L1 _ l1 hby hcy ry tx.1 (by omega)).mono ?_);rintro e w2 ⟨he,v2,L2,l2,f2⟩;subst he;have s1:=f1.size;have z2:w2.heap[w.heap.size]?=some (.cells #[.int .i64 0, .int .i64 0, .slice none 0 0] 28 (0,0)):=(f2.block _ (bA z1) (by omega) n1).trans z1;have ty:=HD _ y (b1b _) hy _ tx.1;obtain⟨g,cap,cur,rfl,q1,q2,q3,q4,q5,q6⟩:=l2.form;have vq:=PF l2;go_wp2_with (go_at_call 116;refine (Uc w S hS (dB y (dB x [])) ty.1 (by omega) w2 l2.cW g cap (bA q3) (λ k z hz=>DA q3 q6 l2.rd k z hz)).mono ?_);rintro e w3 ⟨g3,c3,L3,he,a5w,rd3,b3⟩;subst he;have s2:=f2.size;have sb3:=b3.size;have sl:=bA z2;have lq2:=l2.lt;have b3w:Below w.heap.size w w3:=l2.cW.trans (b3.mono (by omega));have z3:=(b3.block _ sl).trans z2;have vq3:=(b3.block _ lq2).trans l2.var;have vc3:w3.cell? ⟨w.heap.size+1+1,0,none⟩=some (.slice (some ⟨g,0,none⟩) (dB y (dB x [])).length cap):=by simp[World.cell?,vq3]
 have vf3:=Ta (j:=0) vq3;have b0t:=a5w.lt g3 rfl;have ngq:g3≠w.heap.size+1+1:=by omega
 have ngr:g3≠w.heap.size:=by omega
 have heq:∀ k,k≠w.heap.size+1+1->(w3.setCell ⟨w.heap.size+1+1,0,none⟩ (.slice (some ⟨g3,0,none⟩) (dB y (dB x [])).length c3)).heap[k]?=w3.heap[k]?:=λ k hk=>b2t _ _ _ _ hk;have vq4:(w3.setCell ⟨w.heap.size+1+1,0,none⟩ (.slice (some ⟨g3,0,none⟩) (dB y (dB x [])).length c3)).heap[w.heap.size+1+1]?=some (.cells #[.slice (some ⟨g3,0,none⟩) (dB y (dB x [])).length c3] 26 (0,0)):=b2d _ _ _ _ _ _ vq3;have b4:Below w.heap.size w (w3.setCell ⟨w.heap.size+1+1,0,none⟩ (.slice (some ⟨g3,0,none⟩) (dB y (dB x [])).length c3)):=b3w.setCell (by show w.heap.size<=w.heap.size+1+1;omega) _;have sz4:(w3.setCell ⟨w.heap.size+1+1,0,none⟩ (.slice (some ⟨g3,0,none⟩) (dB y (dB x [])).length c3)).heap.size=w3.heap.size:=by simp
 have vc4:(w3.setCell ⟨w.heap.size+1+1,0,none⟩ (.slice (some ⟨g3,0,none⟩) (dB y (dB x [])).length c3)).cell? ⟨w.heap.size+1+1,0,none⟩=some (.slice (some ⟨g3,0,none⟩) (dB y (dB x [])).length c3):=by simp[World.cell?,vq4]
 have a5x:=a5w.kept (row:=some (w.heap.size+1+1)) (w':=w3.setCell ⟨w.heap.size+1+1,0,none⟩ (.slice (some ⟨g3,0,none⟩) (dB y (dB x [])).length c3)) ⟨rfl,rfl,rfl,by simp,λ k _ h=>heq k λ e=>h (by rw[e])⟩ (.inr (by simp[Value.ownBlock];exact ngq));have z4:=(heq w.heap.size (by omega)).trans z3;have hlen:=(Qn (dB y (dB x [])) []).2.2;have hsu:=a3j x y hx hy;have Z6:JA x y=l9 (xJ (dB y (dB x []))):=rfl;have hlr:(xJ (dB y (dB x []))).length=(dB y (dB x [])).length:=by rw[show xJ (dB y (dB x []))=_ from rfl] at *;simpa [xJ] using hlen
 clear hlen heq;go_upto_region 5 with fail;generalize (dB y (dB x [])).length=n at *
 generalize xJ (dB y (dB x []))=ZS at *
 generalize w3.setCell ⟨w.heap.size+1+1,0,none⟩ (.slice (some ⟨g3,0,none⟩) n c3)=w4 at *
 have ZW:∀ b,b=w.heap.size->w.heap.size<=b:=λ b h=>by omega
 have lt4:=bA z4;by_cases hn0:n=0
 .subst hn0;have e0:ZS=[]:=List.eq_nil_of_length_eq_zero hlr;go_wp2_with (go_at_call 30;refine (Wj (Z:=λ b=>b=w.heap.size) hS b4 (λ b hb=>by have hb:b=w.heap.size:=hb;omega)).mono ?_);rintro e w5 ⟨ek,en,ea,em,ec,he,O3,r5⟩;subst he;have z5:=(O3.block _ lt4 id).trans z4;have b5:=b4.trans (qm O3 b4.size);obtain⟨⟨k0,k1,k2⟩,g0,g1,g2⟩:=qJ z5;go_wp2;obtain⟨z6,o6⟩:=Qo (.int .i64 ek) (.int .i64 en) (.slice ea em ec) z5;refine JC (cs:=[.int .i64 ek, .int .i64 en, .slice ea em ec]) rfl z6 rfl rfl ?_;refine⟨[.int .i64 ek, .int .i64 en, .slice ea em ec],rfl,?_,b5.os,b5.tape,b5.output,by simpa using b5.size,λ b hb _=>(o6 b (by omega)).trans (b5.block b hb)⟩;rw[Z6,e0];exact qC hS b5 (by simp) ZW (λ b _ h=>o6 b h) (λ b _ h=>h.elim) r5
 .have dM:=a5x;rcases a5x.2 with ⟨e,_⟩|⟨g',c',cur3,e,p1,p2,p3,p4,p5,p6⟩
  .cases e
  cases e;rw[<-hlr] at p6;have el:=λ k z hz=>DA p2 p6 rd3 k z hz;obtain⟨z,hz⟩:∃ z,ZS[0]?=some z:=⟨_,b1a (by omega)⟩;obtain⟨a0,a1,a2,hca,hra⟩:=el 0 z hz;have hga:=bA p2;have cj:=a1x ZS _ (by omega) hsu.2;have bi0:(0:Int)<(n:Int):=by omega
  have hn9:n<=8000:=by have:eV ZS=cV ar ZS+ZS.length:=rfl;omega
  go_wp2_with (go_at_call 28;refine (P0 (Z:=λ b=>b=w.heap.size) hS b4 (λ b hb=>by have hb:b=w.heap.size:=hb;omega) z (cj 0 z hz) g3 0 _ hga (by simpa using hca) (Uh _ hS b4 hra)).mono ?_);rintro e w5 ⟨ek,en,ea,em,ec,he,O3,r5⟩;subst he;have b5:=b4.trans (qm O3 b4.size);have z5:=(O3.block _ lt4 id).trans z4;have sz5:=O3.size;have vq5:=(O3.block _ (bA vq4) id).trans vq4;have p25:=(O3.block _ hga id).trans p2;have ha:=heap_alloc_new w5 (.cells #[.int .i64 0, .int .i64 0, .slice none 0 0] 28);obtain⟨⟨k0,k1,k2⟩,g0,g1,g2⟩:=qJ ha;obtain⟨z6,o6⟩:=Qo (.int .i64 ek) (.int .i64 en) (.slice ea em ec) ha;go_upto_block 0 with fail;have b6:Below w.heap.size w (w5.alloc (.cells #[.int .i64 ek, .int .i64 en, .slice ea em ec] 28)):=b5.alloc (by omega) _;have t6:=heap_alloc_new w5 (.cells #[.int .i64 ek, .int .i64 en, .slice ea em ec] 28);have m6:∀ b,b<w5.heap.size->(w5.alloc (.cells #[.int .i64 ek, .int .i64 en, .slice ea em ec] 28)).heap[b]?=w5.heap[b]?:=λ b hb=>Lib.alloc_old _ _ _ hb;have lt5:=bA z5;have lq5:=bA vq5;have lg5:=bA p25;have z6r:=(m6 _ lt5).trans z5;have vq6:=(m6 _ lq5).trans vq5;have p26:=(m6 _ lg5).trans p25;have s6:(w5.alloc (.cells #[.int .i64 ek, .int .i64 en, .slice ea em ec] 28)).heap.size=w5.heap.size+1:=by simp
  have r6:Rd (w5.alloc (.cells #[.int .i64 ek, .int .i64 en, .slice ea em ec] 28)) (Sx w S (λ b=>b=w.heap.size\/b=w5.heap.size) (w5.alloc (.cells #[.int .i64 ek, .int .i64 en, .slice ea em ec] 28))) (l9 (ZS.take 1)).aK [.int .i64 ek, .int .i64 en, .slice ea em ec]:=by
   have:l9 (ZS.take 1)=z:=by
    match ZS,hz with
    | z'::_,hz=>cases hz;rfl
   rw[this];exact qC hS b5 (by omega) ZW (λ b hb _=>m6 b hb) (λ b hb h=>h.elim id λ h=>by omega) r5
  generalize w5.alloc (.cells #[.int .i64 ek, .int .i64 en, .slice ea em ec] 28)=w6 at *
  generalize hT:w5.heap.size=T at *
  have hT0:w.heap.size<=T:=by have:=b5.size;omega
  have nTq:T≠w.heap.size+1+1:=by omega
  have nTg:g3≠T:=by omega
  clear k0 k1 k2 g0 g1 g2 z6 o6 m6 ha;go_wp2;go_loopw [7] (λ i wr=>∃ (k:Nat) (k' n':Int) (a':Option Addr) (l' c':Nat),i = .int .i64 k/\1<=k/\k<=n/\w6.grownBy wr (some T)/\wr.heap[T]?=some (.cells #[.int .i64 k', .int .i64 n', .slice a' l' c'] 28 (0,0)) /\
   Rd wr (Sx w S (λ b=>b=w.heap.size\/b=T) wr) (l9 (ZS.take k)).aK [.int .i64 k', .int .i64 n', .slice a' l' c']) (λ i wr=>n - kN i)
  .exact⟨1,ek,en,ea,em,ec,rfl,b1d _,by omega,⟨rfl,rfl,rfl,b1d _,λ _ _ _=>rfl⟩,t6,r6⟩
  obtain⟨k,ak,an,aa,al,ac,rfl,sR,hkn,nX,oF,QZ⟩:=hrel;have nB:w.heap.size≠T:=by omega
  have br:Below w.heap.size w wr:=b6.grown nX (by omega) (λ j e=>by have e':T=j:=b1Y e;omega);have vqr:=(nX.block _ (by omega) (λ e=>nTq (b1Y e).symm)).trans vq6;have vqc:wr.cell? ⟨w.heap.size+1+1,0,none⟩=some (.slice (some ⟨g3,0,none⟩) n c3):=by simp[World.cell?,vqr]
  have pr:=(nX.block _ (by omega) (λ e=>nTg (b1Y e))).trans p26;have ltr:=bA oF;have lqr:=bA vqr;have szr:=nX.size;by_cases Kr:k<n
  .obtain⟨y',Pf⟩:∃ y',ZS[k]?=some y':=⟨_,b1a (by omega)⟩;obtain⟨d0,d1,d2,hcd,fv⟩:=DA pr p6 rd3 k y' Pf;obtain⟨⟨k0,k1,k2⟩,g0,g1,g2⟩:=qJ oF;have bk0:(0:Int)<=(k:Int):=by omega
   have bk1:(k:Int)<(n:Int):=by omega
   have hj:=L0 ZS k y' sR Pf;have hZr:∀ b,(b=w.heap.size\/b=T)->b<wr.heap.size:=λ b h=>by rcases h with h|h<;>omega
   have brd:Below w.heap.size w wr.drew:=br.drew;have a8W:Rd wr.drew (Sx w S (λ b=>b=w.heap.size\/b=T) wr.drew) (l9 (ZS.take k)).aK [.int .i64 ak, .int .i64 an, .slice aa al ac] :=
    qC (w':=wr.drew) (Z:=λ b=>b=w.heap.size\/b=T) (Z':=λ b=>b=w.heap.size\/b=T) hS br (b1d _) (λ b h=>by rcases h with h|h<;>omega) (λ _ _ _=>rfl) (λ _ _ h=>h) QZ
   have a8Z:wr.drew.heap[T]?=some (.cells #[.int .i64 ak, .int .i64 an, .slice aa al ac] 28 (0,0)):=oF;have a3r:wr.drew.heap[w.heap.size+1+1]?=some (.cells #[.slice (some ⟨g3,0,none⟩) n c3] 26 (0,0)):=vqr;have a4Y:∀ b,(b=w.heap.size\/b=T)->b<wr.drew.heap.size:=hZr;have prd:g3<wr.drew.heap.size:=bA pr;have a8G:bo wr.drew g3 (k * 3) [d0,d1,d2]:=hcd;go_wp2_with fail;go_region_with
    (first
     | (
       go_at_call 28
       refine (P0 (w:=wr.drew) (Z:=λ b=>b=w.heap.size\/b=T) hS brd a4Y y' (cj k y' Pf) g3 (k * 3) _ prd a8G (Uh _ hS brd fv)).mono ?_
       rintro e w7 ⟨fk,fn,fa,fm,fc,he,MG,r7⟩
       subst he
       have b7:=brd.trans (qm MG brd.size)
       have t7:=(MG.block _ ltr id).trans a8Z
       obtain⟨⟨u0,u1,u2⟩,v0,v1,v2⟩:=qJ t7
       have vq7:w7.cell? ⟨w.heap.size+1+1,0,none⟩=some (.slice (some ⟨g3,0,none⟩) n c3):=by simp[World.cell?,(MG.block _ lqr id).trans a3r]
       have rr7:=Qu hS brd MG a8W
       have hZ7:∀ b,(b=w.heap.size\/b=T)->b<w7.heap.size:=λ b h=>b0V (a4Y b h) MG.size)
     | (
       go_at_call 27
       refine (VJ (w:=w7) (Z:=λ b=>b=w.heap.size\/b=T) hS b7 hZ7 _ y' _ _ _ _ _ _ rr7 r7).mono ?_
       rintro e w8 ⟨hk,sS,ha',hm,Ko,he,U7,r8⟩
       subst he
       have t8:=(U7.block _ (bA t7) id).trans t7
       obtain⟨⟨x0,x1,x2⟩,y0,y1,y2⟩:=qJ t8
       have vq8:w8.cell? ⟨w.heap.size+1+1,0,none⟩=some (.slice (some ⟨g3,0,none⟩) n c3):=by simp[World.cell?,(U7.block _ (bA ((MG.block _ lqr id).trans a3r)) id).trans ((MG.block _ lqr id).trans a3r)]))
   all_goals
    go_wp2
    obtain⟨z9,o9⟩:=Qo (.int .i64 hk) (.int .i64 sS) (.slice ha' hm Ko) t8
    have b8:=b7.trans (qm U7 b7.size)
    have s7:wr.heap.size<=w7.heap.size:=MG.size
    have s8:=U7.size
    refine⟨⟨k+1,hk,sS,ha',hm,Ko,by simp,by omega,by omega,⟨U7.os.trans (MG.os.trans nX.os),U7.tape.trans (MG.tape.trans nX.tape),U7.output.trans (MG.output.trans nX.output),by simp;omega,λ j hj dD=>?_⟩,z9,?_⟩,?_⟩
    .exact (o9 j (λ e=>dD (by rw[e]))).trans ((U7.block j (by omega) id).trans ((MG.block j (by show j<wr.heap.size;omega) id).trans (nX.block j hj dD)))
    .rw[hj];exact qC (Z:=λ b=>b=w.heap.size\/b=T) hS b8 (by simp) (λ b h=>by rcases h with h|h<;>omega) (λ b _ hb=>o9 b λ e=>hb (.inr e)) (λ _ _ h=>h) r8
    .simp only[kN];omega
  .have a8Q:k=n:=by omega
   subst a8Q;have zr:=(nX.block _ (by omega) (λ e=>nB (Option.some.inj e))).trans z6r;obtain⟨⟨k0,k1,k2⟩,g0,g1,g2⟩:=qJ oF;obtain⟨⟨x0,x1,x2⟩,y0,y1,y2⟩:=qJ zr;obtain⟨z9,o9⟩:=Qo (.int .i64 ak) (.int .i64 an) (.slice aa al ac) zr;go_wp2;refine JC (cs:=[.int .i64 ak, .int .i64 an, .slice aa al ac]) rfl z9 rfl rfl ?_;refine⟨[.int .i64 ak, .int .i64 an, .slice aa al ac],rfl,?_,br.os,br.tape,br.output,by simpa using br.size,λ b hb _=>(o9 b (by omega)).trans (br.block b hb)⟩;rw[Z6];rw[show ZS.take k=ZS from by rw[<-hlr,List.take_length]] at QZ;exact qC (Z:=λ b=>b=w.heap.size\/b=T) hS br (by simp) (λ b h=>by rcases h with h|h<;>omega) (λ b _ hb=>o9 b λ e=>hb (.inl e)) (λ b _ h=>h.elim) QZ
def uH:bc:=⟨uU,[.r (.st .expr), .r (.st .expr)],λ (x:J) (b:J)=>⟨(some (aA x=true/\aA b=true/\ar x+ar b<=7000),[⟨(.st .expr),JA x b⟩])⟩⟩
def IF:bc.Good uH:=by
 refine⟨aH Mq rfl (by decide),?_⟩;intro x y hp w S bO hS ha;match bO,ha with
 | [v1,v2],ha =>
  obtain⟨⟨bx,ox,cx,rfl,h1,h2,rx⟩,⟨b',oy,cy,rfl,vB,yv,ry⟩,_⟩:=ha;refine (TA w S hS x y hp.1 hp.2.1 hp.2.2 bx ox b' oy cx cy h1 h2 rx vB yv ry).mono ?_;rintro e w' ⟨cs,rfl,hr,hk⟩;exact⟨_,Sx w S (λ _=>False) w',_,rfl,rfl,hk,λ b hb=>⟨λ h=>h.elim id λ h=>by omega, .inl⟩,λ b h=>h.elim (λ h=>b0V (hS.1 b h) hk.size) λ h=>h.2.1,⟨cs,rfl,hr⟩⟩
end
end Go.Proofs.YtofnjfpeimhifaaGreatDoor

/- VmShaped, VmTruth, VmValid, VmSrc, VmGen, VmSz, VmBld, VmBld2, VmGen2, VmShelf, VmShelf2, VmBw, VmSplit, VmWord, VmFitW, VmWe, VmText, VmSame1. -/
import Derived.Test.YtnehkikdlnmebaaGreatDoorVmExpr2
import Derived.Shelf.Strings.Builder1
import Derived.Shelf.Strconv.Itoa0
import Derived.Shelf.Strconv.Itoa1
import Derived.Shelf.LaysM
import Derived.Shelf.Strconv.Itoa2
import Derived.Shelf.Strconv.Itoa3
import Derived.Shelf.Strings.Search1
import Derived.Shelf.Strings.Search2
import Derived.Shelf.Strings.Search3
import Derived.Shelf.Strings.Count
import Derived.Shelf.Strings.Shaped
import Derived.Shelf.Strings.Prefix
import Derived.Shelf.Strings.Split
import Derived.Shelf.Unicode.Decode
import Derived.Shelf.Strings.RuneCount
import Derived.Shelf.Unicode.DecodeSlow
import Derived.Test.YtnehkikdlnmebaaGreatDoorProg
import Derived.WalkKit
import Derived.Lib.Builder
import Derived.Lib.AppendStr
import Derived.Lib.UnsafeStr
import Derived.Lib.Walk
import Derived.Lib.Strings
import Derived.Lib.Slices
import Derived.Lib.MakeNoZero
import Derived.Laws.Externs
import Derived.Laws.IdiomCopy
import Derived.BigCall
import Derived.OwnWalk
set_option linter.all false
set_option maxRecDepth 4000
set_option maxHeartbeats 4000000
namespace Go.Proofs.YtnehkikdlnmebaaGreatDoor
def a9N:=@Int.lt_or_le
def a8Z:=@Int.fdiv_eq_ediv_of_nonneg
def a7m:=@Bool.not_eq_false'
def a9a:=@Int.tmod_eq_emod_of_nonneg
def a7q:=@Bool.and_true
def a6L:=@decide_eq_true
def a7n:=@decide_eq_false
def a7F:=@Go.Lib.alloc_old
def a8Q:=@Go.Oper.upon_value
def a7J:=@Go.RowKit.Below.refl
def a7R:=@Go.Lib.cell_of_heap
def a8R:=@cond_false
def a8k:=@cond_true
def a9O:=@List.count_eq_zero
def a9T:=@Go.Lib.size_eq
def a8p:=@Bool.and_eq_false_iff
def a9U:=@Nat.le_succ
def a8Y:=@UInt8.toNat_ofNat'
noncomputable section
def zP(t a:Int)(x:O):Bool:=if x.ah=3 then decide (0<=x.bc/\x.bc<=t) else if x.ah=4 then decide (0<=x.bc/\x.bc<=a) else decide (x.bc=0)
theorem qg(t a:Int)(x:O):qD t a x=(decide (cf x.ah=(x.V.length:Int))&&zP t a x&&(!decide (x.ah=5)||bG (x.V.getD 0 ⟨0,0,[]⟩))):=rfl
theorem vK(gg:aD)(x:O)(bj depth:Int) :
  (bL (aJ gg.aE) (aJ gg.ai) x=true/\(ar x:Int)<=bj/\(bB x:Int)<=depth/\vS gg x bj depth=true/\zW gg x bj depth=bj - ar x) \/
  ((bL (aJ gg.aE) (aJ gg.ai) x=false\/bj<(ar x:Int)\/depth<(bB x:Int))/\vS gg x bj depth=false/\zW gg x bj depth=0):=by
 unfold zW vS
 cases bL (aJ gg.aE) (aJ gg.ai) x
 .right;simp
 .rcases a9N bj (ar x) with h|h
  .right;simp[h,Int.not_le.2 h]
  .rcases a9N depth (bB x) with h'|h'
   .right;simp[h',Int.not_le.2 h']
   .left;simp[h,h']
def me(n:Nat):bb:=⟨rn,[.v (.st .sig), .v (.st .expr), .v (.int .i64), .v (.int .i64)],λ (gg:aD) (x:O) (bj:Int) (depth:Int)=>⟨(some (cv x<n/\0<=bj/\bj<=1048576/\0<=depth/\depth<=1048576),[⟨(.int .i64),zW gg x bj depth⟩,⟨.bool,vS gg x bj depth⟩])⟩⟩
def rh:bb:=⟨rn,[.v (.st .sig), .v (.st .expr), .v (.int .i64), .v (.int .i64)],λ (gg:aD) (x:O) (bj:Int) (depth:Int)=>⟨(some (0<=bj/\bj<=1048576/\0<=depth/\depth<=1048576),[⟨(.int .i64),zW gg x bj depth⟩,⟨.bool,vS gg x bj depth⟩])⟩⟩
def Ce(gg:aD)(x:O)(bj:Int)(depth:Int):Nat->aX:=(λ zb=>if Nat.beq zb 100012 then .mk (Unit) (λ u=>cf x.ah=(x.V.length:Int)/\1<=bj/\1<=depth/\zP (aJ gg.aE) (aJ gg.ai) x=true) (λ u=>0) [] [0,1,6,7,10,14,15,16,17,18,19,20,21,22,23,24,25,26,27,28,29,30,31,32,33,34,35,36,37,38,39,40,41,42,43,44,45,46,47,48,49,50,51] (λ u=>[]) [2,3,4,5,8,9,11,12,13,52,53,54,55,56,57,58,59,60,61,62,63,64,65,66,67,68,69,70,71,72,73,74,75,76,77,78,79,80,81,82,83,84,85] (λ u=>[]) [] [] (λ u=>(λ zb=>if Nat.beq zb 100014 then .mk (Unit) (λ u=>qD (aJ gg.aE) (aJ gg.ai) x=true/\1<=bj/\1<=depth) (λ u=>0) [] [0,1,6,7,10,14,15,16,17,18,19,20,21,22,23,24,25,26,27,28,29,30,31,32,33,34,35,36,37,38,39,40,41,42,43,44,45,46,47,48,49,50,51,52,53,54,55,56,57,58,59,60,61,62] (λ u=>[]) [2,3,4,5,8,9,11,12,13,63,64,65,66,67,68,69,70,71,72,73,74,75,76,77,78,79,80,81,82,83,84,85] (λ u=>[]) [] [] (λ u=>(λ zb=>if Nat.beq zb 1 then .mk (Nat) (λ k=>k<=x.V.length/\b9 (bL (aJ gg.aE) (aJ gg.ai)) (x.V.take k)=true/\1+(cW ar (x.V.take k):Int)<=bj/\1+(gY bB (x.V.take k):Int)<=depth) (λ k=>x.V.length - k) [] [0,1,5,6,7,10,14,15,16,17,18,19,20,21,22,23,24,25,26,27,28,29,30,31,32,33,34,35,36,37,38,39,40,41,42,43,44,45,46,47,48,49,50,51,52,53,54,55,56,57,58,59,60,61,62,63,64,65] (λ k=>[(68, .aS ⟨(.int .i64),((k:Int):Int)⟩),(2, .aS ⟨(.int .i64),(bj - (1+(cW ar (x.V.take k):Int)):Int)⟩)]) [2,3,4,8,9,11,12,13,66,67,68,69,70,71,72,73,74,75,76,77,78,79,80,81,82,83,84,85] (λ k=>[]) [] [] (λ k=>λ _ => .none) else .none)) else .none)) else .none)
abbrev rW(gg:aD)(x:O)(bj:Int)(depth:Int):Prop:=(∃ u1:Unit,((cf x.ah=(x.V.length:Int)/\1<=bj/\1<=depth/\zP (aJ gg.aE) (aJ gg.ai) x=true)/\((bj=bj/\(depth=depth/\(gg=gg/\(x=x/\True))))/\True)))
abbrev yp(gg:aD)(x:O)(bj:Int)(depth:Int):Prop:=(∃ u2:Unit,((qD (aJ gg.aE) (aJ gg.ai) x=true/\1<=bj/\1<=depth)/\((bj=bj/\(depth=depth/\(gg=gg/\(x=x/\True))))/\True)))
abbrev yq(n:Nat)(gg:aD)(x:O)(bj:Int)(depth:Int):Prop:=((ag x.ah ->
 (((decide (x.ah=(3:Int)))=true ->
 (ag x.bc ->
 (ag gg.aE ->
 ((((!(decide ((0:Int)<=x.bc/\x.bc<=(IntKind.wrap .i64 (gg.aE - (1:Int))))))=true) ->
 ((0:Int)=(zW gg x bj depth)/\false=(vS gg x bj depth)))/\(((!(decide ((0:Int)<=x.bc/\x.bc<=(IntKind.wrap .i64 (gg.aE - (1:Int))))))=false) ->
 (rW gg x bj depth))))))/\((decide (x.ah=(3:Int)))=false ->
 (((decide (x.ah=(4:Int)))=true ->
 (ag x.bc ->
 (ag gg.ai ->
 ((((!(decide ((0:Int)<=x.bc/\x.bc<=(IntKind.wrap .i64 (gg.ai - (1:Int))))))=true) ->
 ((0:Int)=(zW gg x bj depth)/\false=(vS gg x bj depth)))/\(((!(decide ((0:Int)<=x.bc/\x.bc<=(IntKind.wrap .i64 (gg.ai - (1:Int))))))=false) ->
 (rW gg x bj depth))))))/\((decide (x.ah=(4:Int)))=false ->
 (ag x.bc ->
 (((!(decide (x.bc=(0:Int))))=true ->
 ((0:Int)=(zW gg x bj depth)/\false=(vS gg x bj depth)))/\((!(decide (x.bc=(0:Int))))=false ->
 (rW gg x bj depth)))))))))/\(∀ u1:Unit,((cf x.ah=(x.V.length:Int)/\1<=bj/\1<=depth/\zP (aJ gg.aE) (aJ gg.ai) x=true) ->
 ((ag x.ah ->
 (((decide (x.ah=(5:Int)))=true ->
 (x.V.length<=140737488355328 ->
 (aV (0:Int) x.V.length/\(((!(bG (x.V.getD 0 zE)))=true ->
 ((0:Int)=(zW gg x bj depth)/\false=(vS gg x bj depth)))/\((!(bG (x.V.getD 0 zE)))=false ->
 (yp gg x bj depth))))))/\((decide (x.ah=(5:Int)))=(!true) ->
 ((false=true ->
 ((0:Int)=(zW gg x bj depth)/\false=(vS gg x bj depth)))/\(false=false ->
 (yp gg x bj depth))))))/\(∀ u2:Unit,((qD (aJ gg.aE) (aJ gg.ai) x=true/\1<=bj/\1<=depth) ->
 (ag (bj - (1:Int))/\(x.V.length<=140737488355328 ->
 (ag ((x.V.length:Int)) ->
 ((∃ k3:Nat,((k3<=x.V.length/\b9 (bL (aJ gg.aE) (aJ gg.ai)) (x.V.take k3)=true/\1+(cW ar (x.V.take k3):Int)<=bj/\1+(gY bB (x.V.take k3):Int)<=depth)/\(((bj - (1:Int))=(bj - (1+(cW ar (x.V.take k3):Int)))/\(depth=depth/\(gg=gg/\(x.V=x.V/\(((x.V.length:Int))=((x.V.length:Int))/\((0:Int)=(k3:Int)/\True))))))/\True)))/\(∀ k3:Nat,((k3<=x.V.length/\b9 (bL (aJ gg.aE) (aJ gg.ai)) (x.V.take k3)=true/\1+(cW ar (x.V.take k3):Int)<=bj/\1+(gY bB (x.V.take k3):Int)<=depth) ->
 (((decide ((k3:Int)<((x.V.length:Int))))=true ->
 (aV (k3:Int) x.V.length/\(ag (depth - (1:Int))/\((cv (aC (x.V.getD k3 zE))<n/\0<=(bj - (1+(cW ar (x.V.take k3):Int)))/\(bj - (1+(cW ar (x.V.take k3):Int)))<=1048576/\0<=(depth - (1:Int))/\(depth - (1:Int))<=1048576)/\(ag (zW gg (aC (x.V.getD k3 zE)) (bj - (1+(cW ar (x.V.take k3):Int))) (depth - (1:Int))) ->
 (((!(vS gg (aC (x.V.getD k3 zE)) (bj - (1+(cW ar (x.V.take k3):Int))) (depth - (1:Int))))=true ->
 ((0:Int)=(zW gg x bj depth)/\false=(vS gg x bj depth)))/\((!(vS gg (aC (x.V.getD k3 zE)) (bj - (1+(cW ar (x.V.take k3):Int))) (depth - (1:Int))))=false ->
 (ag ((k3:Int)+(1:Int))/\(∃ k4:Nat,((k4<=x.V.length/\b9 (bL (aJ gg.aE) (aJ gg.ai)) (x.V.take k4)=true/\1+(cW ar (x.V.take k4):Int)<=bj/\1+(gY bB (x.V.take k4):Int)<=depth)/\(x.V.length - k4<x.V.length - k3/\(((zW gg (aC (x.V.getD k3 zE)) (bj - (1+(cW ar (x.V.take k3):Int))) (depth - (1:Int)))=(bj - (1+(cW ar (x.V.take k4):Int)))/\(depth=depth/\(gg=gg/\(x.V=x.V/\(((x.V.length:Int))=((x.V.length:Int))/\(((k3:Int)+(1:Int))=(k4:Int)/\True))))))/\True))))))))))))/\((decide ((k3:Int)<((x.V.length:Int))))=false ->
 ((bj - (1+(cW ar (x.V.take k3):Int)))=(zW gg x bj depth)/\true=(vS gg x bj depth))))))))))))))))
abbrev yr(n:Nat)(gg:aD)(x:O)(bj:Int)(depth:Int):Prop:=(ag x.ah ->
 (ag (cf x.ah) ->
 (x.V.length<=140737488355328 ->
 (ag ((x.V.length:Int)) ->
 (((!(decide ((cf x.ah)=((x.V.length:Int)))))=true ->
 ((0:Int)=(zW gg x bj depth)/\false=(vS gg x bj depth)))/\((!(decide ((cf x.ah)=((x.V.length:Int)))))=false ->
 (yq n gg x bj depth)))))))
abbrev yv(n:Nat)(gg:aD)(x:O)(bj:Int)(depth:Int):Prop:=((true=true ->
 ((0:Int)=(zW gg x bj depth)/\false=(vS gg x bj depth)))/\(true=false ->
 (yq n gg x bj depth)))
theorem Lw(n:Nat)(gg:aD)(x:O)(bj:Int)(depth:Int):cU (bo [me n,nw,dM,kg] [40,49] [] [4,5]) (aF kA) (Ce gg x bj depth) 0 (bC (bo [me n,nw,dM,kg] [40,49] [] [4,5]) kA λ r=>bH r [⟨(.int .i64),zW gg x bj depth⟩,⟨.bool,vS gg x bj depth⟩]) (aO kA [.val ⟨(.st .sig),gg⟩, .val ⟨(.st .expr),x⟩, .val ⟨(.int .i64),bj⟩, .val ⟨(.int .i64),depth⟩]) =
 ((((decide (bj=(0:Int)))=false ->
 (((decide (depth=(0:Int)))=false ->
 (yr n gg x bj depth))/\((decide (depth=(0:Int)))=(!false) ->
 (yv n gg x bj depth))))/\((decide (bj=(0:Int)))=(!false) ->
 ((true=false ->
 (yr n gg x bj depth))/\(true=(!false) ->
 (yv n gg x bj depth)))))):=by kernel_rfl
theorem Li(n:Nat)(hE:aQ [me n,nw,dM,kg]):bb.Good (me (n+1)):=by
 refine⟨aG o8 rfl (by decide),?_⟩
 show ∀ (gg:aD) (x:O) (bj:Int) (depth:Int),(cv x<n+1/\0<=bj/\bj<=1048576/\0<=depth/\depth<=1048576)->bD prog rn [.val ⟨(.st .sig),gg⟩, .val ⟨(.st .expr),x⟩, .val ⟨(.int .i64),bj⟩, .val ⟨(.int .i64),depth⟩] (·=[⟨(.int .i64),zW gg x bj depth⟩,⟨.bool,vS gg x bj depth⟩])
 intro gg x bj depth hp
 refine bu (wr:=[40,49]) (cl:=[]) (ro:=[4,5]) hE o8 GC (Ce gg x bj depth) ?_
 rewrite [Lw n gg x bj depth]
 have fs:=vK gg x bj depth
 rw[mB _ _ x,nH x,rR x] at fs
 have f0:=lA x
 have f1:=JP ar x.V
 have f2:=Nt bB x.V
 have f3:=all_zero (bL (aJ gg.aE) (aJ gg.ai)) x.V
 refine⟨λ a0=>⟨λ a1=>λ a2=>λ a3=>λ a4=>λ a5=>⟨λ a6=>⟨?_,?_⟩,λ a6=>⟨λ a7=>⟨λ a8=>λ a9=>λ dt=>⟨λ dP=>⟨?_,?_⟩,λ dP=>⟨(),⟨?_,⟨⟨rfl,⟨rfl,⟨rfl,⟨rfl,trivial⟩⟩⟩⟩,trivial⟩⟩⟩⟩,λ a8=>⟨λ a9=>λ dt=>λ dP=>⟨λ a12=>⟨?_,?_⟩,λ a12=>⟨(),⟨?_,⟨⟨rfl,⟨rfl,⟨rfl,⟨rfl,trivial⟩⟩⟩⟩,trivial⟩⟩⟩⟩,λ a9=>λ dt=>⟨λ dP=>⟨?_,?_⟩,λ dP=>⟨(),⟨?_,⟨⟨rfl,⟨rfl,⟨rfl,⟨rfl,trivial⟩⟩⟩⟩,trivial⟩⟩⟩⟩⟩⟩,λ u1=>λ a7=>⟨λ a8=>⟨λ a9=>λ dt=>⟨?_,⟨λ dP=>⟨?_,?_⟩,λ dP=>⟨(),⟨?_,⟨⟨rfl,⟨rfl,⟨rfl,⟨rfl,trivial⟩⟩⟩⟩,trivial⟩⟩⟩⟩⟩,λ a9=>⟨λ dt=>⟨?_,?_⟩,λ dt=>⟨(),⟨?_,⟨⟨rfl,⟨rfl,⟨rfl,⟨rfl,trivial⟩⟩⟩⟩,trivial⟩⟩⟩⟩⟩,λ u2=>λ a8=>⟨?_,λ a9=>λ dt=>⟨⟨0,⟨?_,⟨⟨?_,⟨rfl,⟨rfl,⟨rfl,⟨rfl,⟨?_,trivial⟩⟩⟩⟩⟩⟩,trivial⟩⟩⟩,λ k3 dP=>have PR:=cP (bL (aJ gg.aE) (aJ gg.ai)) zE x.V k3;have PS:=dv (bL (aJ gg.aE) (aJ gg.ai)) zE x.V k3;have PT:=dd (bL (aJ gg.aE) (aJ gg.ai)) x.V k3;have Tm:=cR zE x.V k3;have a1y:=sD ar zE x.V k3;have a1z:=gT ar x.V (k3+1);have a1A:=yV ar x.V k3;have a1B:=rY bB zE x.V k3;have a1C:=jY bB x.V (k3+1);have a1D:=yJ bB x.V k3;have Y6:=vK gg (x.V.getD k3 zE) (bj - (1+(cW ar (x.V.take k3):Int))) (depth - 1);⟨λ a12=>⟨?_,⟨?_,⟨?_,λ dK=>⟨λ eK=>⟨?_,?_⟩,λ eK=>⟨?_,⟨k3+1,⟨?_,⟨?_,⟨⟨?_,⟨rfl,⟨rfl,⟨rfl,⟨rfl,⟨?_,trivial⟩⟩⟩⟩⟩⟩,trivial⟩⟩⟩⟩⟩⟩⟩⟩⟩,λ a12=>⟨?_,?_⟩⟩⟩⟩⟩⟩⟩,λ a1=>⟨λ a2=>⟨?_,?_⟩,λ a2=>⟨λ a3=>⟨λ a4=>λ a5=>λ a6=>⟨λ a7=>⟨?_,?_⟩,λ a7=>⟨(),⟨?_,⟨⟨rfl,⟨rfl,⟨rfl,⟨rfl,trivial⟩⟩⟩⟩,trivial⟩⟩⟩⟩,λ a4=>⟨λ a5=>λ a6=>λ a7=>⟨λ a8=>⟨?_,?_⟩,λ a8=>⟨(),⟨?_,⟨⟨rfl,⟨rfl,⟨rfl,⟨rfl,trivial⟩⟩⟩⟩,trivial⟩⟩⟩⟩,λ a5=>λ a6=>⟨λ a7=>⟨?_,?_⟩,λ a7=>⟨(),⟨?_,⟨⟨rfl,⟨rfl,⟨rfl,⟨rfl,trivial⟩⟩⟩⟩,trivial⟩⟩⟩⟩⟩⟩,λ u1=>λ a3=>⟨λ a4=>⟨λ a5=>λ a6=>⟨?_,⟨λ a7=>⟨?_,?_⟩,λ a7=>⟨(),⟨?_,⟨⟨rfl,⟨rfl,⟨rfl,⟨rfl,trivial⟩⟩⟩⟩,trivial⟩⟩⟩⟩⟩,λ a5=>⟨λ a6=>⟨?_,?_⟩,λ a6=>⟨(),⟨?_,⟨⟨rfl,⟨rfl,⟨rfl,⟨rfl,trivial⟩⟩⟩⟩,trivial⟩⟩⟩⟩⟩,λ u2=>λ a4=>⟨?_,λ a5=>λ a6=>⟨⟨0,⟨?_,⟨⟨?_,⟨rfl,⟨rfl,⟨rfl,⟨rfl,⟨?_,trivial⟩⟩⟩⟩⟩⟩,trivial⟩⟩⟩,λ k3 a7=>have Rr:=cP (bL (aJ gg.aE) (aJ gg.ai)) zE x.V k3;have Rs:=dv (bL (aJ gg.aE) (aJ gg.ai)) zE x.V k3;have Rt:=dd (bL (aJ gg.aE) (aJ gg.ai)) x.V k3;have UL:=cR zE x.V k3;have a3k:=sD ar zE x.V k3;have a3l:=gT ar x.V (k3+1);have a3m:=yV ar x.V k3;have a3n:=rY bB zE x.V k3;have a3o:=jY bB x.V (k3+1);have a3p:=yJ bB x.V k3;have a1I:=vK gg (x.V.getD k3 zE) (bj - (1+(cW ar (x.V.take k3):Int))) (depth - 1);⟨λ a8=>⟨?_,⟨?_,⟨?_,λ a9=>⟨λ dt=>⟨?_,?_⟩,λ dt=>⟨?_,⟨k3+1,⟨?_,⟨?_,⟨⟨?_,⟨rfl,⟨rfl,⟨rfl,⟨rfl,⟨?_,trivial⟩⟩⟩⟩⟩⟩,trivial⟩⟩⟩⟩⟩⟩⟩⟩⟩,λ a8=>⟨?_,?_⟩⟩⟩⟩⟩⟩⟩⟩,λ a0=>⟨λ a1=>λ a2=>λ a3=>λ a4=>λ a5=>⟨λ a6=>⟨?_,?_⟩,λ a6=>⟨λ a7=>⟨λ a8=>λ a9=>λ dt=>⟨λ dP=>⟨?_,?_⟩,λ dP=>⟨(),⟨?_,⟨⟨rfl,⟨rfl,⟨rfl,⟨rfl,trivial⟩⟩⟩⟩,trivial⟩⟩⟩⟩,λ a8=>⟨λ a9=>λ dt=>λ dP=>⟨λ a12=>⟨?_,?_⟩,λ a12=>⟨(),⟨?_,⟨⟨rfl,⟨rfl,⟨rfl,⟨rfl,trivial⟩⟩⟩⟩,trivial⟩⟩⟩⟩,λ a9=>λ dt=>⟨λ dP=>⟨?_,?_⟩,λ dP=>⟨(),⟨?_,⟨⟨rfl,⟨rfl,⟨rfl,⟨rfl,trivial⟩⟩⟩⟩,trivial⟩⟩⟩⟩⟩⟩,λ u1=>λ a7=>⟨λ a8=>⟨λ a9=>λ dt=>⟨?_,⟨λ dP=>⟨?_,?_⟩,λ dP=>⟨(),⟨?_,⟨⟨rfl,⟨rfl,⟨rfl,⟨rfl,trivial⟩⟩⟩⟩,trivial⟩⟩⟩⟩⟩,λ a9=>⟨λ dt=>⟨?_,?_⟩,λ dt=>⟨(),⟨?_,⟨⟨rfl,⟨rfl,⟨rfl,⟨rfl,trivial⟩⟩⟩⟩,trivial⟩⟩⟩⟩⟩,λ u2=>λ a8=>⟨?_,λ a9=>λ dt=>⟨⟨0,⟨?_,⟨⟨?_,⟨rfl,⟨rfl,⟨rfl,⟨rfl,⟨?_,trivial⟩⟩⟩⟩⟩⟩,trivial⟩⟩⟩,λ k3 dP=>have PR:=cP (bL (aJ gg.aE) (aJ gg.ai)) zE x.V k3;have PS:=dv (bL (aJ gg.aE) (aJ gg.ai)) zE x.V k3;have PT:=dd (bL (aJ gg.aE) (aJ gg.ai)) x.V k3;have Tm:=cR zE x.V k3;have a1y:=sD ar zE x.V k3;have a1z:=gT ar x.V (k3+1);have a1A:=yV ar x.V k3;have a1B:=rY bB zE x.V k3;have a1C:=jY bB x.V (k3+1);have a1D:=yJ bB x.V k3;have Y6:=vK gg (x.V.getD k3 zE) (bj - (1+(cW ar (x.V.take k3):Int))) (depth - 1);⟨λ a12=>⟨?_,⟨?_,⟨?_,λ dK=>⟨λ eK=>⟨?_,?_⟩,λ eK=>⟨?_,⟨k3+1,⟨?_,⟨?_,⟨⟨?_,⟨rfl,⟨rfl,⟨rfl,⟨rfl,⟨?_,trivial⟩⟩⟩⟩⟩⟩,trivial⟩⟩⟩⟩⟩⟩⟩⟩⟩,λ a12=>⟨?_,?_⟩⟩⟩⟩⟩⟩⟩,λ a1=>⟨λ a2=>⟨?_,?_⟩,λ a2=>⟨λ a3=>⟨λ a4=>λ a5=>λ a6=>⟨λ a7=>⟨?_,?_⟩,λ a7=>⟨(),⟨?_,⟨⟨rfl,⟨rfl,⟨rfl,⟨rfl,trivial⟩⟩⟩⟩,trivial⟩⟩⟩⟩,λ a4=>⟨λ a5=>λ a6=>λ a7=>⟨λ a8=>⟨?_,?_⟩,λ a8=>⟨(),⟨?_,⟨⟨rfl,⟨rfl,⟨rfl,⟨rfl,trivial⟩⟩⟩⟩,trivial⟩⟩⟩⟩,λ a5=>λ a6=>⟨λ a7=>⟨?_,?_⟩,λ a7=>⟨(),⟨?_,⟨⟨rfl,⟨rfl,⟨rfl,⟨rfl,trivial⟩⟩⟩⟩,trivial⟩⟩⟩⟩⟩⟩,λ u1=>λ a3=>⟨λ a4=>⟨λ a5=>λ a6=>⟨?_,⟨λ a7=>⟨?_,?_⟩,λ a7=>⟨(),⟨?_,⟨⟨rfl,⟨rfl,⟨rfl,⟨rfl,trivial⟩⟩⟩⟩,trivial⟩⟩⟩⟩⟩,λ a5=>⟨λ a6=>⟨?_,?_⟩,λ a6=>⟨(),⟨?_,⟨⟨rfl,⟨rfl,⟨rfl,⟨rfl,trivial⟩⟩⟩⟩,trivial⟩⟩⟩⟩⟩,λ u2=>λ a4=>⟨?_,λ a5=>λ a6=>⟨⟨0,⟨?_,⟨⟨?_,⟨rfl,⟨rfl,⟨rfl,⟨rfl,⟨?_,trivial⟩⟩⟩⟩⟩⟩,trivial⟩⟩⟩,λ k3 a7=>have Rr:=cP (bL (aJ gg.aE) (aJ gg.ai)) zE x.V k3;have Rs:=dv (bL (aJ gg.aE) (aJ gg.ai)) zE x.V k3;have Rt:=dd (bL (aJ gg.aE) (aJ gg.ai)) x.V k3;have UL:=cR zE x.V k3;have a3k:=sD ar zE x.V k3;have a3l:=gT ar x.V (k3+1);have a3m:=yV ar x.V k3;have a3n:=rY bB zE x.V k3;have a3o:=jY bB x.V (k3+1);have a3p:=yJ bB x.V k3;have a1I:=vK gg (x.V.getD k3 zE) (bj - (1+(cW ar (x.V.take k3):Int))) (depth - 1);⟨λ a8=>⟨?_,⟨?_,⟨?_,λ a9=>⟨λ dt=>⟨?_,?_⟩,λ dt=>⟨?_,⟨k3+1,⟨?_,⟨?_,⟨⟨?_,⟨rfl,⟨rfl,⟨rfl,⟨rfl,⟨?_,trivial⟩⟩⟩⟩⟩⟩,trivial⟩⟩⟩⟩⟩⟩⟩⟩⟩,λ a8=>⟨?_,?_⟩⟩⟩⟩⟩⟩⟩⟩⟩
 all_goals try and_intros
 all_goals try simp only[O.eta,bE] at *
 all_goals ((try simp only[aJ] at *);generalize IntKind.wrap .i64 (gg.aE - 1)=T at *;generalize IntKind.wrap .i64 (gg.ai - 1)=A at *;first|rfl|trivial|(simp only[decide_eq_true_eq,decide_eq_false_iff_not,aV,ag] at *;omega)|(rcases fs with ⟨t1,t2,t3,t4,t5⟩|⟨t1,t4,t5⟩<;>(try rw[t4])<;>(try rw[t5])<;>clear t4 t5<;>simp only[decide_eq_true_eq,decide_eq_false_iff_not,qg,zP,Bool.and_eq_true,Bool.and_eq_false_iff,Bool.not_eq_true',Bool.not_eq_false',ag] at *<;>first|rfl|omega|grind|grind [cf]))
theorem D9 :∀ n,aQ [me n]
 | 0=>⟨⟨aG o8 rfl (by decide),λ _ _ _ _ h=>absurd h.1 (a6D _)⟩,trivial⟩
 | n+1=>by
  have ih:=D9  n
  exact⟨Li n ⟨ih.1,Ha,qz,zz,trivial⟩,trivial⟩
theorem Hc :bb.Good rh :=
 ⟨aG o8 rfl (by decide),λ gg x bj depth hp=>(D9  (cv x+1)).1.2 gg x bj depth (⟨a6c _,hp⟩)⟩
end
end Go.Proofs.YtnehkikdlnmebaaGreatDoor

set_option maxRecDepth 4000
set_option maxHeartbeats 4000000
namespace Go.Proofs.YtnehkikdlnmebaaGreatDoor
noncomputable section
def Tp(a n:Int):Bool:=decide (((Int.toNat (Int.fdiv a (2 ^ n.toNat)) &&& Int.toNat 1:Nat):Int)=1)
def S3(k n a:Int)(p q:Bool):Bool:=if k=2 then true else if k=3 then Tp a n else if k=5 then !p else if k=6 then p||q else if k=7 then p&&q else false
mutual
def gE(a:Int):O->Bool
 | ⟨k,n,ks⟩=>S3 k n a ((CP a ks).getD 0 false) ((CP a ks).getD 1 false)
def CP(a:Int):List O->List Bool
 | []=>[]
 | k::ks=>gE a k::CP a ks
end
theorem qt(a:Int)(z:O):∀ (xs:List O) (i:Nat),i<xs.length->(CP a xs).getD i false=gE a (xs.getD i z)
 | [],i,h=>by simp at h
 | x::xs,0,h=>by simp[CP]
 | x::xs,i+1,h=>by
  have:=qt a z xs i (by simpa using h)
  simpa [CP] using this
theorem YQ(a:Int)(x:O):gE a x=S3 x.ah x.bc a ((CP a x.V).getD 0 false) ((CP a x.V).getD 1 false):=by
 cases x;rfl
def oH(x:O):Bool:=bL 62 62 x&&bG x
def yb(x:O)(i:Nat):Prop:=oH (x.V.getD i ⟨0,0,[]⟩)=true/\cv (x.V.getD i ⟨0,0,[]⟩)<cv x
theorem TM(x:O)(h:oH x=true)(i:Nat)(hi:i<x.V.length):yb x i:=by
 unfold yb
 simp only[oH,a5I] at h ⊢
 rw[mB,uC] at h
 simp only[a5I] at h
 refine⟨⟨CY _ _ _ _ hi h.1.2,CY _ _ _ _ hi h.2.2⟩,?_⟩
 have:=cR (⟨0,0,[]⟩:O) x.V i hi
 have:=lA x
 omega
theorem G9(x:O)(h:oH x=true):(x.ah=3->0<=x.bc/\x.bc<=62) /\
  (x.ah=5->x.V.length=1/\yb x 0)/\((x.ah=6\/x.ah=7)->x.V.length=2/\yb x 0/\yb x 1) /\
  (x.ah=1\/x.ah=2\/x.ah=3\/x.ah=5\/x.ah=6\/x.ah=7):=by
 have hk:=TM x h
 simp only[oH,a5I] at h
 rw[mB,uC,qg] at h
 simp only[a5I,a5M] at h
 obtain⟨⟨⟨⟨h1,h2⟩,_⟩,_⟩,h5,_⟩:=h
 simp only[uT,a7x,a5M] at h5
 refine⟨λ e=>?_,λ e=>?_,λ e=>?_,by omega⟩
 .simpa [zP,e] using h2
 .rw[e] at h1
  have ye:x.V.length=1:=by simp[cf] at h1;omega
  exact⟨ye,hk 0 (by omega)⟩
 .have ye:x.V.length=2:=by
   rcases e with e|e<;>rw[e] at h1<;>simp[cf] at h1<;>omega
  exact⟨ye,hk 0 (by omega),hk 1 (by omega)⟩
theorem S9(a:Int)(x:O)(h:oH x=true):(x.ah=1->gE a x=false)/\(x.ah=2->gE a x=true)/\(x.ah=3->gE a x=Tp a x.bc) /\
  (x.ah=5->gE a x = !gE a (x.V.getD 0 ⟨0,0,[]⟩))/\(x.ah=6->gE a x=(gE a (x.V.getD 0 ⟨0,0,[]⟩)||gE a (x.V.getD 1 ⟨0,0,[]⟩))) /\
  (x.ah=7->gE a x=(gE a (x.V.getD 0 ⟨0,0,[]⟩)&&gE a (x.V.getD 1 ⟨0,0,[]⟩))):=by
 have hf:=G9 x h
 rw[YQ]
 refine⟨λ e=>?_,λ e=>?_,λ e=>?_,λ e=>?_,λ e=>?_,λ e=>?_⟩
 .simp[S3,e]
 .simp[S3,e]
 .simp[S3,e]
 .have:=(hf.2.1 e).1
  simp only[S3,e]
  rw[qt a ⟨0,0,[]⟩ x.V 0 (by omega)];rfl
 .have:=(hf.2.2.1 (.inl e)).1
  simp only[S3,e]
  rw[qt a ⟨0,0,[]⟩ x.V 0 (by omega),qt a ⟨0,0,[]⟩ x.V 1 (by omega)];rfl
 .have:=(hf.2.2.1 (.inr e)).1
  simp only[S3,e]
  rw[qt a ⟨0,0,[]⟩ x.V 0 (by omega),qt a ⟨0,0,[]⟩ x.V 1 (by omega)];rfl
theorem P5(a n:Int)(h:0<=a/\a<=4096):0<=Int.fdiv a (2 ^ n.toNat)/\Int.fdiv a (2 ^ n.toNat)<=4096:=by
 have e:(2:Int) ^ n.toNat=((2 ^ n.toNat:Nat):Int):=by norm_cast
 have hp:0<2 ^ n.toNat:=Nat.pow_pos (by omega)
 rw[e,a8Z _ (by omega)]
 refine⟨Int.ediv_nonneg h.1 (by omega),?_⟩
 have:=Int.ediv_le_self (2 ^ n.toNat:Nat) h.1
 omega
theorem B9(n:Int):cq .u64 n=(0<=n/\n<=18446744073709551615):=rfl
theorem Ir:IntKind.u64.min=0:=rfl
theorem Iq:IntKind.u64.max=18446744073709551615:=rfl
theorem B8(n:Int):cq .i64 n=ag n:=rfl
def lj(n:Nat):bb:=⟨pC,[.r (.st .expr), .v (.int .i64)],λ (x:O) (atom:Int)=>⟨(some (cv x<n/\oH x=true/\0<=atom/\atom<=4096),[⟨.bool,gE atom x⟩])⟩⟩
def pq:bb:=⟨pC,[.r (.st .expr), .v (.int .i64)],λ (x:O) (atom:Int)=>⟨(some (oH x=true/\0<=atom/\atom<=4096),[⟨.bool,gE atom x⟩])⟩⟩
def AD(x:O)(atom:Int):Nat->aX:=λ _ => .none
abbrev wJ(n:Nat)(x:O)(atom:Int):Prop:=(x.V.length<=140737488355328 ->
 (aV (1:Int) x.V.length/\((cv (x.V.getD 1 zE)<n/\oH (x.V.getD 1 zE)=true/\0<=atom/\atom<=4096)/\(gE atom (x.V.getD 1 zE))=(gE atom x))))
theorem J2(n:Nat)(x:O)(atom:Int):cU (bo [lj n]) (aF jk) (AD x atom) 0 (bC (bo [lj n]) jk λ r=>bH r [⟨.bool,gE atom x⟩]) (aO jk [.ref ⟨(.st .expr),x⟩, .val ⟨(.int .i64),atom⟩]) =
 ((ag x.ah ->
 (((decide (x.ah=(1:Int)))=true ->
 false=(gE atom x))/\((decide (x.ah=(1:Int)))=false ->
 (((decide (x.ah=(2:Int)))=true ->
 true=(gE atom x))/\((decide (x.ah=(2:Int)))=false ->
 (((decide (x.ah=(3:Int)))=true ->
 (ag x.bc ->
 (cq .u64 x.bc/\(((0:Int)<=x.bc/\(x.bc<(64:Int)/\ag (atom.fdiv (2 ^ x.bc.toNat))))/\(((0:Int)<=(atom.fdiv (2 ^ x.bc.toNat))/\((0:Int)<=(1:Int)/\(ag (atom.fdiv (2 ^ x.bc.toNat))/\ag (1:Int))))/\(decide (((((atom.fdiv (2 ^ x.bc.toNat)).toNat &&& (1:Int).toNat:Nat):Int))=(1:Int)))=(gE atom x))))))/\((decide (x.ah=(3:Int)))=false ->
 (((decide (x.ah=(5:Int)))=true ->
 (x.V.length<=140737488355328 ->
 (aV (0:Int) x.V.length/\((cv (x.V.getD 0 zE)<n/\oH (x.V.getD 0 zE)=true/\0<=atom/\atom<=4096)/\(!(gE atom (x.V.getD 0 zE)))=(gE atom x)))))/\((decide (x.ah=(5:Int)))=false ->
 (((decide (x.ah=(6:Int)))=true ->
 (x.V.length<=140737488355328 ->
 (aV (0:Int) x.V.length/\((cv (x.V.getD 0 zE)<n/\oH (x.V.getD 0 zE)=true/\0<=atom/\atom<=4096)/\(((gE atom (x.V.getD 0 zE))=false ->
 (wJ n x atom))/\((gE atom (x.V.getD 0 zE))=(!false) ->
 true=(gE atom x)))))))/\((decide (x.ah=(6:Int)))=false ->
 (x.V.length<=140737488355328 ->
 (aV (0:Int) x.V.length/\((cv (x.V.getD 0 zE)<n/\oH (x.V.getD 0 zE)=true/\0<=atom/\atom<=4096)/\(((gE atom (x.V.getD 0 zE))=true ->
 (wJ n x atom))/\((gE atom (x.V.getD 0 zE))=(!true) ->
 false=(gE atom x)))))))))))))))))):=by kernel_rfl
theorem Jz(n:Nat)(hE:aQ [lj n]):bb.Good (lj (n+1)):=by
 refine⟨aG nW rfl (by decide),?_⟩
 show ∀ (x:O) (atom:Int),(cv x<n+1/\oH x=true/\0<=atom/\atom<=4096)->bD prog pC [.ref ⟨(.st .expr),x⟩, .val ⟨(.int .i64),atom⟩] (·=[⟨.bool,gE atom x⟩])
 intro x atom hp
 refine bu (wr:=[]) (cl:=[]) (ro:=[]) hE nW E3 (AD x atom) ?_
 rewrite [J2 n x atom]
 have f1:=G9 x hp.2.1
 have f2:=S9 atom x hp.2.1
 have f3:=P5 atom x.bc ⟨hp.2.2.1,hp.2.2.2⟩
 refine λ a0=>⟨λ a1=>?_,λ a1=>⟨λ a2=>?_,λ a2=>⟨λ a3=>λ a4=>⟨?_,⟨⟨?_,⟨?_,?_⟩⟩,⟨⟨?_,⟨?_,⟨?_,?_⟩⟩⟩,?_⟩⟩⟩,λ a3=>⟨λ a4=>λ a5=>⟨?_,⟨?_,?_⟩⟩,λ a4=>⟨λ a5=>λ a6=>⟨?_,⟨?_,⟨λ a7=>λ a8=>⟨?_,⟨?_,?_⟩⟩,λ a7=>?_⟩⟩⟩,λ a5=>λ a6=>⟨?_,⟨?_,⟨λ a7=>λ a8=>⟨?_,⟨?_,?_⟩⟩,λ a7=>?_⟩⟩⟩⟩⟩⟩⟩⟩
 all_goals try and_intros
 all_goals first|rfl|trivial|omega|(simp only[decide_eq_true_eq,decide_eq_false_iff_not,aV,ag,B9,B8,Ir,Iq] at *;omega)|(simp only[yb] at *;grind [aV,ag,Tp,Ir,Iq])
theorem Gs :∀ n,aQ [lj n]
 | 0=>⟨⟨aG nW rfl (by decide),λ _ _ h=>absurd h.1 (a6D _)⟩,trivial⟩
 | n+1=>by
  have ih:=Gs  n
  exact⟨Jz n ⟨ih.1,trivial⟩,trivial⟩
theorem Fo :bb.Good pq :=
 ⟨aG nW rfl (by decide),λ x atom hp=>(Gs  (cv x+1)).1.2 x atom (⟨a6c _,hp⟩)⟩
end
end Go.Proofs.YtnehkikdlnmebaaGreatDoor

set_option maxRecDepth 4000
set_option maxHeartbeats 4000000
namespace Go.Proofs.YtnehkikdlnmebaaGreatDoor
noncomputable section
def aP(gg:aD):Int:=1 * 2 ^ gg.aE.toNat
theorem ES(gg:aD)(h:0<=gg.aE/\gg.aE<=3):1<=aP gg/\aP gg<=8:=by
 have:gg.aE=0\/gg.aE=1\/gg.aE=2\/gg.aE=3:=by omega
 unfold aP
 rcases this with e|e|e|e<;>rw[e]<;>decide
theorem nM(gg:aD):aY gg=true↔(0<=gg.aE/\gg.aE<=3)/\(0<=gg.ai/\gg.ai<=4):=by
 simp[aY]
def DV(gg:aD)(x:O):Bool:=vS gg x 200 40
def jS(gg:aD)(x:O):Bool:=aY gg&&DV gg x
theorem Ng(gg:aD)(x:O):DV gg x=true↔bL (aJ gg.aE) (aJ gg.ai) x=true/\ar x<=200/\bB x<=40:=by
 simp only[DV,vS,a5I,a5M]
 constructor
 .rintro⟨⟨a,b⟩,c⟩;exact⟨a,by omega,by omega⟩
 .rintro⟨a,b,c⟩;exact⟨⟨a,by omega⟩,by omega⟩
theorem R4(t a t' a':Int)(h1:t<=t')(h2:a<=a')(x:O)(h:qD t a x=true):qD t' a' x=true:=by
 rw[qg] at h ⊢
 simp only[a5I] at h ⊢
 refine⟨⟨h.1.1,?_⟩,h.2⟩
 have:=h.1.2
 unfold zP at this ⊢
 split
 .rename_i e;rw[a5T e] at this;simp only[a5M] at this ⊢;omega
 .rename_i e;rw[a5J e] at this
  split
  .rename_i e';rw[a5T e'] at this;simp only[a5M] at this ⊢;omega
  .rename_i e';rw[a5J e'] at this;exact this
mutual
theorem xh(t a t' a':Int)(h1:t<=t')(h2:a<=a'):∀ x:O,bL t a x=true->bL t' a' x=true
 | ⟨k,n,ks⟩=>λ h=>by
  simp only[bL,a5I] at h ⊢
  exact⟨R4 t a t' a' h1 h2 _ h.1,Io t a t' a' h1 h2 ks h.2⟩
theorem Io(t a t' a':Int)(h1:t<=t')(h2:a<=a'):∀ xs:List O,sI t a xs=true->sI t' a' xs=true
 | []=>λ _=>rfl
 | x::xs=>λ h=>by
  simp only[sI,a5I] at h ⊢
  exact⟨xh t a t' a' h1 h2 x h.1,Io t a t' a' h1 h2 xs h.2⟩
end
def D8(p:Nat->Bool):Nat->Bool
 | 0=>true
 | n+1=>D8 p n&&p n
theorem OL(p:Nat->Bool):∀ (n k:Nat),k<n->p k=false->D8 p n=false
 | n+1,k,h,e=>by
  rcases a6w k n with h'|h'
  .simp[D8,OL p n k h' e]
  .have:k=n:=by omega
   subst this;simp[D8,e]
theorem Ti(p:Nat->Bool)(n:Nat):D8 p (n+1)=(D8 p n&&p n):=rfl
def l7:bb:=⟨tR,[.v (.st .sig)],λ (gg:aD)=>⟨(some (0<=gg.aE/\gg.aE<=3),[⟨(.int .i64),aP gg⟩])⟩⟩
def As(gg:aD):Nat->aX:=λ _ => .none
theorem JS(gg:aD):cU (bo [] [] [] [1]) (aF ja) (As gg) 0 (bC (bo [] [] [] [1]) ja λ r=>bH r [⟨(.int .i64),aP gg⟩]) (aO ja [.val ⟨(.st .sig),gg⟩]) =
 ((ag gg.aE ->
 (((0:Int)<=gg.aE/\(gg.aE<(64:Int)/\ag ((1:Int) * 2 ^ gg.aE.toNat)))/\((1:Int) * 2 ^ gg.aE.toNat)=(aP gg)))):=by kernel_rfl
theorem Jp(hE:aQ []):bb.Good l7:=by
 refine⟨aG xI rfl (by decide),?_⟩
 show ∀ (gg:aD),(0<=gg.aE/\gg.aE<=3)->bD prog tR [.val ⟨(.st .sig),gg⟩] (·=[⟨(.int .i64),aP gg⟩])
 intro gg hp
 refine bu (wr:=[]) (cl:=[]) (ro:=[1]) hE xI ET (As gg) ?_
 rewrite [JS gg]
 have f1:=ES gg hp
 refine λ a0=>⟨⟨?_,⟨?_,?_⟩⟩,?_⟩
 all_goals try and_intros
 all_goals first|rfl|trivial|(simp only[a5M,a5N,aV,ag,B9,B8,Ir,Iq,aP] at *;omega)
theorem Fe:bb.Good l7:=Jp trivial
def dk:bb:=⟨so,[.v (.st .sig)],λ (gg:aD)=>⟨(some (0<=gg.aE/\gg.aE<=3),[⟨(.int .i64),aP gg⟩])⟩⟩
def yF(gg:aD):Nat->aX:=λ _ => .none
theorem IA(gg:aD):cU (bo [] [] [] [1]) (aF iy) (yF gg) 0 (bC (bo [] [] [] [1]) iy λ r=>bH r [⟨(.int .i64),aP gg⟩]) (aO iy [.val ⟨(.st .sig),gg⟩]) =
 ((ag gg.aE ->
 (cq .u64 gg.aE/\(((0:Int)<=gg.aE/\(gg.aE<(64:Int)/\ag ((1:Int) * 2 ^ gg.aE.toNat)))/\((1:Int) * 2 ^ gg.aE.toNat)=(aP gg))))):=by kernel_rfl
theorem HR(hE:aQ []):bb.Good dk:=by
 refine⟨aG wj rfl (by decide),?_⟩
 show ∀ (gg:aD),(0<=gg.aE/\gg.aE<=3)->bD prog so [.val ⟨(.st .sig),gg⟩] (·=[⟨(.int .i64),aP gg⟩])
 intro gg hp
 refine bu (wr:=[]) (cl:=[]) (ro:=[1]) hE wj Dy (yF gg) ?_
 rewrite [IA gg]
 have f1:=ES gg hp
 refine λ a0=>⟨?_,⟨⟨?_,⟨?_,?_⟩⟩,?_⟩⟩
 all_goals try and_intros
 all_goals first|rfl|trivial|(simp only[a5M,a5N,aV,ag,B9,B8,Ir,Iq,aP] at *;omega)
theorem oJ:bb.Good dk:=HR trivial
def gf:bb:=⟨vw,[.v (.st .sig), .v (.st .expr)],λ (gg:aD) (x:O)=>⟨(none,[⟨.bool,DV gg x⟩])⟩⟩
def Ca(gg:aD)(x:O):Nat->aX:=λ _ => .none
theorem Ls(gg:aD)(x:O):cU (bo [rh] [] [] [2,3]) (aF kv) (Ca gg x) 0 (bC (bo [rh] [] [] [2,3]) kv λ r=>bH r [⟨.bool,DV gg x⟩]) (aO kv [.val ⟨(.st .sig),gg⟩, .val ⟨(.st .expr),x⟩]) =
 (((0<=(200:Int)/\(200:Int)<=1048576/\0<=(40:Int)/\(40:Int)<=1048576)/\(ag (zW gg x (200:Int) (40:Int)) ->
 (vS gg x (200:Int) (40:Int))=(DV gg x)))):=by kernel_rfl
theorem Le(hE:aQ [rh]):bb.Good gf:=by
 refine⟨aG Ab rfl (by decide),?_⟩
 show ∀ (gg:aD) (x:O),True->bD prog vw [.val ⟨(.st .sig),gg⟩, .val ⟨(.st .expr),x⟩] (·=[⟨.bool,DV gg x⟩])
 intro gg x _
 refine bu (wr:=[]) (cl:=[]) (ro:=[2,3]) hE Ab Gy (Ca gg x) ?_
 rewrite [Ls gg x]
 refine⟨?_,λ a0=>?_⟩
 all_goals try and_intros
 all_goals first|rfl|trivial|omega|(simp only[a5M,a5N,aV,ag,cq,iW,jQ,cE] at *;omega)|(simp[aV,ag] at *;omega)|grind
theorem wq:bb.Good gf:=Le ⟨Hc,trivial⟩
def jI:bb:=⟨rl,[.v (.st .sig), .v (.st .expr)],λ (gg:aD) (x:O)=>⟨(none,[⟨.bool,jS gg x⟩])⟩⟩
def wP(gg:aD)(x:O):Nat->aX:=λ _ => .none
theorem Gc(gg:aD)(x:O):cU (bo [gf,cG] [] [] [2,3]) (aF gv) (wP gg x) 0 (bC (bo [gf,cG] [] [] [2,3]) gv λ r=>bH r [⟨.bool,jS gg x⟩]) (aO gv [.val ⟨(.st .sig),gg⟩, .val ⟨(.st .expr),x⟩]) =
 ((((aY gg)=true ->
 (DV gg x)=(jS gg x))/\((aY gg)=(!true) ->
 false=(jS gg x)))):=by kernel_rfl
theorem FR(hE:aQ [gf,cG]):bb.Good jI:=by
 refine⟨aG uN rfl (by decide),?_⟩
 show ∀ (gg:aD) (x:O),True->bD prog rl [.val ⟨(.st .sig),gg⟩, .val ⟨(.st .expr),x⟩] (·=[⟨.bool,jS gg x⟩])
 intro gg x _
 refine bu (wr:=[]) (cl:=[]) (ro:=[2,3]) hE uN Bz (wP gg x) ?_
 rewrite [Gc gg x]
 refine⟨λ a0=>?_,λ a0=>?_⟩
 all_goals try and_intros
 all_goals first|rfl|trivial|(simp_all [jS];done)
theorem BO:bb.Good jI:=FR ⟨wq,kd,trivial⟩
def gW:bb:=⟨xw,[.v (.st .sig), .r (.st .expr)],λ (gg:aD) (x:O)=>⟨(none,[⟨.bool,jS gg x⟩])⟩⟩
def Eu(gg:aD)(x:O):Nat->aX:=λ _ => .none
abbrev Ar(gg:aD)(x:O):Prop:=(bB x<=1048576/\(ag ((bB x:Int)) ->
 (((decide (((bB x:Int))<=(40:Int)))=true ->
 (bL (aJ gg.aE) (aJ gg.ai) x)=(jS gg x))/\((decide (((bB x:Int))<=(40:Int)))=(!true) ->
 false=(jS gg x)))))
theorem Ob(gg:aD)(x:O):cU (bo [gi,pf,oq,pn] [] [] [2]) (aF my) (Eu gg x) 0 (bC (bo [gi,pf,oq,pn] [] [] [2]) my λ r=>bH r [⟨.bool,jS gg x⟩]) (aO my [.val ⟨(.st .sig),gg⟩, .ref ⟨(.st .expr),x⟩]) =
 ((((aY gg)=true ->
 ((0<=(200:Int)/\(200:Int)<=1048576)/\(ag (tz (ar x) (200:Int)) ->
 (((decide ((0:Int)<=(tz (ar x) (200:Int))))=true ->
 (Ar gg x))/\((decide ((0:Int)<=(tz (ar x) (200:Int))))=(!true) ->
 ((false=true ->
 (bL (aJ gg.aE) (aJ gg.ai) x)=(jS gg x))/\(false=(!true) ->
 false=(jS gg x))))))))/\((aY gg)=(!true) ->
 ((false=true ->
 (Ar gg x))/\(false=(!true) ->
 ((false=true ->
 (bL (aJ gg.aE) (aJ gg.ai) x)=(jS gg x))/\(false=(!true) ->
 false=(jS gg x)))))))):=by kernel_rfl
theorem NH(hE:aQ [gi,pf,oq,pn]):bb.Good gW:=by
 refine⟨aG By rfl (by decide),?_⟩
 show ∀ (gg:aD) (x:O),True->bD prog xw [.val ⟨(.st .sig),gg⟩, .ref ⟨(.st .expr),x⟩] (·=[⟨.bool,jS gg x⟩])
 intro gg x _
 refine bu (wr:=[]) (cl:=[]) (ro:=[2]) hE By IQ (Eu gg x) ?_
 rewrite [Ob gg x]
 have f1:=Di (ar x) 200
 have f2:=GR x
 have f3:jS gg x=(aY gg&&(bL (aJ gg.aE) (aJ gg.ai) x&&decide ((ar x:Int)<=200)&&decide ((bB x:Int)<=40))):=rfl
 refine⟨λ a0=>⟨?_,λ a1=>⟨λ a2=>⟨?_,λ a3=>⟨λ a4=>?_,λ a4=>?_⟩⟩,λ a2=>⟨λ a3=>?_,λ a3=>?_⟩⟩⟩,λ a0=>⟨λ a1=>⟨?_,λ a2=>⟨λ a3=>?_,λ a3=>?_⟩⟩,λ a1=>⟨λ a2=>?_,λ a2=>?_⟩⟩⟩
 all_goals try and_intros
 all_goals try rw[f3]
 all_goals first|rfl|trivial|omega|(simp only[a5M,a5N,a6k,a7m] at *;omega)|grind
theorem yd:bb.Good gW:=NH ⟨wy,Fk,DO,Fm,trivial⟩
end
end Go.Proofs.YtnehkikdlnmebaaGreatDoor

set_option maxRecDepth 4000
set_option maxHeartbeats 4000000
namespace Go.Proofs.YtnehkikdlnmebaaGreatDoor
noncomputable section
def KM(J:List Int)(U:Int):Int:=if U<(J.length:Int) then J.getD U.toNat 0 else 0
def iO(J:List Int)(U M:Int):Int:=IntKind.u64.wrap (IntKind.u64.wrap (IntKind.u64.wrap (M * 6364136223846793005)+KM J U)+1442695040888963407)
def KN(s:Int):Int:=(((s.fdiv (2 ^ Int.toNat 40)).toNat &&& Int.toNat 255:Nat):Int)
def iN(J:List Int)(U M:Int):Int:=if U+1<=(J.length:Int) then KM J U else KN (iO J U M)
def dT(J:List Int):Prop:=∀ i,i<J.length->0<=J.getD i 0/\J.getD i 0<=255
theorem PD(n:Int):0<=IntKind.u64.wrap n/\IntKind.u64.wrap n<=18446744073709551615:=by
 simp[IntKind.wrap,IntKind.signed,IntKind.bits];omega
theorem a4Y:IntKind.u64.min=0:=rfl
theorem a4X:IntKind.u64.max=18446744073709551615:=rfl
theorem a4z(n:Int):cq .u64 n↔0<=n/\n<=18446744073709551615:=by
 have e1:IntKind.u64.min=0:=by decide
 have e2:IntKind.u64.max=18446744073709551615:=by decide
 show (IntKind.u64.min<=n/\n<=IntKind.u64.max)↔_
 rw[e1,e2]
theorem CI(J:List Int)(U M:Int):0<=iO J U M/\iO J U M<=18446744073709551615:=PD _
theorem SY(J:List Int)(U:Int)(h:dT J)(h0:0<=U):0<=KM J U/\KM J U<=255:=by
 unfold KM
 split
 .exact h _ (by omega)
 .omega
theorem YF(s:Int):0<=KN s/\KN s<=255:=by
 have:(s.fdiv (2 ^ Int.toNat 40)).toNat &&& Int.toNat 255<=255:=Nat.and_le_right
 unfold KN
 omega
theorem Ia(J:List Int)(U M:Int)(h:dT J)(h0:0<=U):0<=iN J U M/\iN J U M<=255:=by
 unfold iN
 split
 .exact SY J U h h0
 .exact YF _
theorem UU(n:Int):0<=(IntKind.u64.wrap n).fdiv (2 ^ (40:Int).toNat)/\(IntKind.u64.wrap n).fdiv (2 ^ (40:Int).toNat)<=18446744073709551615:=by
 have h:=PD n
 have e:(2:Int) ^ (40:Int).toNat=1099511627776:=by decide
 rw[e,a8Z _ (by omega)]
 omega
theorem PJ(n:Nat):n &&& (255:Int).toNat<=255:=Nat.and_le_right
theorem Vo(J:List Int)(U M:Int)(h:U+1<=(J.length:Int)):iN J U M=KM J U:=a5T h
theorem LW(J:List Int)(U M:Int)(h:¬ (U+1<=(J.length:Int))):iN J U M=KN (iO J U M):=a5J h
theorem LU(J:List Int)(U:Int)(h:U<(J.length:Int)):J.getD U.toNat 0=KM J U:=(a5T h).symm
theorem LS(J:List Int)(U:Int)(h:¬ (U<(J.length:Int))):(0:Int)=KM J U:=(a5J h).symm
theorem YG(J:List Int)(U M:Int)(h1:¬ (U<(J.length:Int)))(h2:¬ (U+1<=(J.length:Int))):((((IntKind.u64.wrap ((IntKind.u64.wrap ((IntKind.u64.wrap (M * (6364136223846793005:Int)))+(0:Int)))+(1442695040888963407:Int))).fdiv (2 ^ (40:Int).toNat)).toNat &&& (255:Int).toNat:Nat):Int)=iN J U M:=by
 have e:=LS J U h1
 rw[LW J U M h2,KN,iO,<-e]
def gm:fY:=⟨oO,[[.d (.slice (.int .u8)), .d (.int .i64), .d (.int .u64)]],[.b 0],[[(.slice (.int .u8)),(.int .i64),(.int .u64)]],λ (J:List Int) (U:Int) (M:Int)=>⟨(some (dT J/\0<=U/\U<=1000000000/\J.length<=1000000/\0<=M/\M<=18446744073709551615),[⟨(.int .i64),iN J U M⟩],[[⟨(.slice (.int .u8)),J⟩,⟨(.int .i64),U+1⟩,⟨(.int .u64),iO J U M⟩]])⟩⟩
def tj(J:List Int)(U:Int)(M:Int):Nat->aX:=λ _ => .none
abbrev qL(J:List Int)(U:Int)(M:Int):Prop:=((J=J/\((U+(1:Int))=(U+1)/\(IntKind.u64.wrap ((IntKind.u64.wrap ((IntKind.u64.wrap (M * (6364136223846793005:Int)))+(J.getD (Int.toNat U) (0:Int))))+(1442695040888963407:Int)))=(iO J U M)))/\True)
abbrev qM(J:List Int)(U:Int)(M:Int):Prop:=((J=J/\((U+(1:Int))=(U+1)/\(IntKind.u64.wrap ((IntKind.u64.wrap ((IntKind.u64.wrap (M * (6364136223846793005:Int)))+(0:Int)))+(1442695040888963407:Int)))=(iO J U M)))/\True)
theorem Bq(J:List Int)(U:Int)(M:Int):cU (dj [] [] [] [] []) (aF eV) (tj J U M) 0 (gS (dj [] [] [] [] []) eV [[.d (.slice (.int .u8)), .d (.int .i64), .d (.int .u64)]] λ r ds=>bH r [⟨(.int .i64),iN J U M⟩]/\jv ds [[⟨(.slice (.int .u8)),J⟩,⟨(.int .i64),U+1⟩,⟨(.int .u64),iO J U M⟩]]) (cB eV [.box 0] [[.d (.slice (.int .u8)), .d (.int .i64), .d (.int .u64)]] [[⟨(.slice (.int .u8)),J⟩,⟨(.int .i64),U⟩,⟨(.int .u64),M⟩]]) =
 ((ag U ->
 (J.length<=140737488355328 ->
 (ag ((J.length:Int)) ->
 (((decide (U<((J.length:Int))))=true ->
 (J.length<=140737488355328 ->
 (ag U ->
 (aV U J.length/\(ag (J.getD (Int.toNat U) (0:Int))/\(ag U ->
 (ag (U+(1:Int))/\(cq .u64 (J.getD (Int.toNat U) (0:Int))/\(ag (U+(1:Int)) ->
 (J.length<=140737488355328 ->
 (ag ((J.length:Int)) ->
 (((decide ((U+(1:Int))<=((J.length:Int))))=true ->
 ((J.getD (Int.toNat U) (0:Int))=(iN J U M)/\(qL J U M)))/\((decide ((U+(1:Int))<=((J.length:Int))))=false ->
 (((0:Int)<=(40:Int)/\((40:Int)<(64:Int)/\cq .u64 ((IntKind.u64.wrap ((IntKind.u64.wrap ((IntKind.u64.wrap (M * (6364136223846793005:Int)))+(J.getD (Int.toNat U) (0:Int))))+(1442695040888963407:Int))).fdiv (2 ^ (40:Int).toNat))))/\(((0:Int)<=((IntKind.u64.wrap ((IntKind.u64.wrap ((IntKind.u64.wrap (M * (6364136223846793005:Int)))+(J.getD (Int.toNat U) (0:Int))))+(1442695040888963407:Int))).fdiv (2 ^ (40:Int).toNat))/\((0:Int)<=(255:Int)/\(cq .u64 ((IntKind.u64.wrap ((IntKind.u64.wrap ((IntKind.u64.wrap (M * (6364136223846793005:Int)))+(J.getD (Int.toNat U) (0:Int))))+(1442695040888963407:Int))).fdiv (2 ^ (40:Int).toNat))/\cq .u64 (255:Int))))/\(ag (((((IntKind.u64.wrap ((IntKind.u64.wrap ((IntKind.u64.wrap (M * (6364136223846793005:Int)))+(J.getD (Int.toNat U) (0:Int))))+(1442695040888963407:Int))).fdiv (2 ^ (40:Int).toNat)).toNat &&& (255:Int).toNat:Nat):Int))/\((((((IntKind.u64.wrap ((IntKind.u64.wrap ((IntKind.u64.wrap (M * (6364136223846793005:Int)))+(J.getD (Int.toNat U) (0:Int))))+(1442695040888963407:Int))).fdiv (2 ^ (40:Int).toNat)).toNat &&& (255:Int).toNat:Nat):Int))=(iN J U M)/\(qL J U M))))))))))))))))))/\((decide (U<((J.length:Int))))=false ->
 (ag U ->
 (ag (U+(1:Int))/\(cq .u64 (0:Int)/\(ag (U+(1:Int)) ->
 (J.length<=140737488355328 ->
 (ag ((J.length:Int)) ->
 (((decide ((U+(1:Int))<=((J.length:Int))))=true ->
 ((0:Int)=(iN J U M)/\(qM J U M)))/\((decide ((U+(1:Int))<=((J.length:Int))))=false ->
 (((0:Int)<=(40:Int)/\((40:Int)<(64:Int)/\cq .u64 ((IntKind.u64.wrap ((IntKind.u64.wrap ((IntKind.u64.wrap (M * (6364136223846793005:Int)))+(0:Int)))+(1442695040888963407:Int))).fdiv (2 ^ (40:Int).toNat))))/\(((0:Int)<=((IntKind.u64.wrap ((IntKind.u64.wrap ((IntKind.u64.wrap (M * (6364136223846793005:Int)))+(0:Int)))+(1442695040888963407:Int))).fdiv (2 ^ (40:Int).toNat))/\((0:Int)<=(255:Int)/\(cq .u64 ((IntKind.u64.wrap ((IntKind.u64.wrap ((IntKind.u64.wrap (M * (6364136223846793005:Int)))+(0:Int)))+(1442695040888963407:Int))).fdiv (2 ^ (40:Int).toNat))/\cq .u64 (255:Int))))/\(ag (((((IntKind.u64.wrap ((IntKind.u64.wrap ((IntKind.u64.wrap (M * (6364136223846793005:Int)))+(0:Int)))+(1442695040888963407:Int))).fdiv (2 ^ (40:Int).toNat)).toNat &&& (255:Int).toNat:Nat):Int))/\((((((IntKind.u64.wrap ((IntKind.u64.wrap ((IntKind.u64.wrap (M * (6364136223846793005:Int)))+(0:Int)))+(1442695040888963407:Int))).fdiv (2 ^ (40:Int).toNat)).toNat &&& (255:Int).toNat:Nat):Int))=(iN J U M)/\(qM J U M))))))))))))))))))):=by kernel_rfl
theorem Bf(hE:aQ [])(hO:iE [])(hM:iS [])(hS:gU []):fY.Good gm:=by
 refine⟨aG sN rfl (by decide),?_⟩
 show ∀ (J:List Int) (U:Int) (M:Int),(dT J/\0<=U/\U<=1000000000/\J.length<=1000000/\0<=M/\M<=18446744073709551615)->p7 prog oO [[.d (.slice (.int .u8)), .d (.int .i64), .d (.int .u64)]] [.box 0] [[⟨(.slice (.int .u8)),J⟩,⟨(.int .i64),U⟩,⟨(.int .u64),M⟩]] [⟨(.int .i64),iN J U M⟩] [[⟨(.slice (.int .u8)),J⟩,⟨(.int .i64),U+1⟩,⟨(.int .u64),iO J U M⟩]]
 intro J U M hp
 refine eN (own:=[]) (wr:=[]) (cl:=[]) (ro:=[]) hE hO hM hS sN ze (tj J U M) rfl rfl ?_
 rewrite [Bq J U M]
 obtain⟨h1,h2,h3,h4,h5,h6⟩:=hp
 have f1:=SY J U h1 h2
 have f2:=CI J U M
 refine λ a0=>λ a1=>λ a2=>⟨λ a3=>λ a4=>λ a5=>⟨?_,⟨?_,λ a6=>⟨?_,⟨?_,λ a7=>λ a8=>λ a9=>⟨λ dt=>⟨?_,⟨⟨rfl,⟨?_,?_⟩⟩,trivial⟩⟩,λ dt=>⟨⟨?_,⟨?_,?_⟩⟩,⟨⟨?_,⟨?_,⟨?_,?_⟩⟩⟩,⟨?_,⟨?_,⟨⟨rfl,⟨?_,?_⟩⟩,trivial⟩⟩⟩⟩⟩⟩⟩⟩⟩⟩,λ a3=>λ a4=>⟨?_,⟨?_,λ a5=>λ a6=>λ a7=>⟨λ a8=>⟨?_,⟨⟨rfl,⟨?_,?_⟩⟩,trivial⟩⟩,λ a8=>⟨⟨?_,⟨?_,?_⟩⟩,⟨⟨?_,⟨?_,⟨?_,?_⟩⟩⟩,⟨?_,⟨?_,⟨⟨rfl,⟨?_,?_⟩⟩,trivial⟩⟩⟩⟩⟩⟩⟩⟩⟩
 all_goals try and_intros
 all_goals first|rfl|trivial|omega|(simp only[decide_eq_true_eq,decide_eq_false_iff_not] at *;exact YG J U M (by omega) (by omega))|(simp only[decide_eq_true_eq,decide_eq_false_iff_not,aV,ag,a4z,a4Y,a4X] at *;first|omega|(rw[LU J U (by omega)];omega)|exact UU _|(have:=UU;have:=PJ;grind)|(rw[LU J U (by omega)];first|omega|rfl|(rw[Vo J U M (by omega)];done)|(rw[LW J U M (by omega)];rfl))|(rw[Vo J U M (by omega)];exact LS J U (by omega))|(unfold iO;rw[<-LS J U (by omega)];done)|(rw[LW J U M (by omega)];unfold KN iO;rw[<-LS J U (by omega)];rfl)|(unfold iO;rw[<-LU J U (by omega)];done)|(rw[LW J U M (by omega)];unfold KN iO;rw[<-LU J U (by omega)];rfl)|(have:=PJ;constructor<;>first|omega|(refine Int.le_trans (Int.ofNat_le.2 (PJ _)) ?_;omega)))
theorem yR:fY.Good gm:=Bf trivial trivial trivial trivial
def Z7(J:List Int)(U M n:Int):Int:=if 200<n then iN J U M * 256+iN J (U+1) (iO J U M) else iN J U M
def SI(J:List Int)(U M n:Int):Int:=if n<=1 then 0 else (Z7 J U M n).tmod n
def QJ(U n:Int):Int:=if n<=1 then U else if 200<n then U+1+1 else U+1
def Ur(J:List Int)(U M n:Int):Int:=if n<=1 then M else if 200<n then iO J (U+1) (iO J U M) else iO J U M
theorem Ik(a n:Int)(h:0<=a)(hn:0<n):0<=a.tmod n/\a.tmod n<n:=by
 rw[a9a h]
 exact⟨Int.emod_nonneg _ (by omega),Int.emod_lt_of_pos _ hn⟩
theorem Ve(J:List Int)(U M n:Int)(h:dT J)(h0:0<=U):0<=SI J U M n/\(SI J U M n=0\/SI J U M n<n):=by
 have h1:=Ia J U M h h0
 have h2:=Ia J (U+1) (iO J U M) h (by omega)
 unfold SI Z7
 split
 .omega
 .split
  .have:=Ik (iN J U M * 256+iN J (U+1) (iO J U M)) n (by omega) (by omega);omega
  .have:=Ik (iN J U M) n (by omega) (by omega);omega
structure Sr where
 U:Int
 M:Int
def aI(J:List Int)(s:Sr)(n:Int):Sr:=⟨QJ s.U n,Ur J s.U s.M n⟩
def pk(J:List Int)(s:Sr)(n:Int):Int:=SI J s.U s.M n
theorem yY(s:Sr):Sr.mk s.U s.M=s:=rfl
theorem a4B(J:List Int)(s:Sr)(n:Int):pk J s n=SI J s.U s.M n:=rfl
theorem a4C(J:List Int)(s:Sr)(n:Int):(aI J s n).U=QJ s.U n:=rfl
theorem a4D(J:List Int)(s:Sr)(n:Int):(aI J s n).M=Ur J s.U s.M n:=rfl
structure bz(J:List Int)(s:Sr)(m:Int):Prop where
 c:dT J
 p:0<=s.U
 m:s.U<=m
 l:J.length<=1000000
 s0:0<=s.M
 s1:s.M<=18446744073709551615
theorem Z6(J:List Int)(U M n:Int)(h:0<=M/\M<=18446744073709551615):0<=Ur J U M n/\Ur J U M n<=18446744073709551615:=by
 unfold Ur
 split
 .exact h
 .split
  .exact CI _ _ _
  .exact CI _ _ _
theorem Z5(U n:Int):U<=QJ U n/\QJ U n<=U+2:=by
 unfold QJ
 split
 .omega
 .split<;>omega
theorem bz.next{J:List Int}{s:Sr}{m:Int}(h:bz J s m)(n:Int):bz J (aI J s n) (m+2):=by
 have h1:=Z5 s.U n
 have h2:=Z6 J s.U s.M n ⟨h.s0,h.s1⟩
 have:=h.p;have:=h.m
 exact⟨h.c,by show 0<=QJ s.U n;omega,by show QJ s.U n<=m+2;omega,h.l,h2.1,h2.2⟩
theorem bz.mono{J:List Int}{s:Sr}{m k:Int}(h:bz J s m)(hk:m<=k):bz J s k:=⟨h.c,h.p,by have:=h.m;omega,h.l,h.s0,h.s1⟩
theorem bz.pk{J:List Int}{s:Sr}{m:Int}(h:bz J s m)(n:Int):0<=pk J s n/\(pk J s n=0\/pk J s n<n):=Ve J s.U s.M n h.c h.p
def bh:fY:=⟨oP,[[.d (.slice (.int .u8)), .d (.int .i64), .d (.int .u64)]],[.b 0, .v (.int .i64)],[[(.slice (.int .u8)),(.int .i64),(.int .u64)]],λ (n:Int) (J:List Int) (U:Int) (M:Int)=>⟨(some (bz J (Sr.mk U M) 999999000/\n<=1000000),[⟨(.int .i64),pk J (Sr.mk U M) n⟩],[[⟨(.slice (.int .u8)),J⟩,⟨(.int .i64),(aI J (Sr.mk U M) n).U⟩,⟨(.int .u64),(aI J (Sr.mk U M) n).M⟩]])⟩⟩
def tl(n:Int)(J:List Int)(U:Int)(M:Int):Nat->aX:=λ _ => .none
theorem Br(n:Int)(J:List Int)(U:Int)(M:Int):cU (dj [] [] [] [] [] [] [] [gm]) (aF eW) (tl n J U M) 0 (gS (dj [] [] [] [] [] [] [] [gm]) eW [[.d (.slice (.int .u8)), .d (.int .i64), .d (.int .u64)]] λ r ds=>bH r [⟨(.int .i64),pk J (Sr.mk U M) n⟩]/\jv ds [[⟨(.slice (.int .u8)),J⟩,⟨(.int .i64),(aI J (Sr.mk U M) n).U⟩,⟨(.int .u64),(aI J (Sr.mk U M) n).M⟩]]) (cB eW [.box 0, .val ⟨(.int .i64),n⟩] [[.d (.slice (.int .u8)), .d (.int .i64), .d (.int .u64)]] [[⟨(.slice (.int .u8)),J⟩,⟨(.int .i64),U⟩,⟨(.int .u64),M⟩]]) =
 ((((decide (n<=(1:Int)))=true ->
 ((0:Int)=(pk J (Sr.mk U M) n)/\((J=J/\(U=((aI J (Sr.mk U M) n).U)/\M=((aI J (Sr.mk U M) n).M)))/\True)))/\((decide (n<=(1:Int)))=false ->
 ((dT J/\0<=U/\U<=1000000000/\J.length<=1000000/\0<=M/\M<=18446744073709551615)/\(((decide ((200:Int)<n))=true ->
 (ag ((iN J U M) * (256:Int))/\((dT J/\0<=(U+1)/\(U+1)<=1000000000/\J.length<=1000000/\0<=(iO J U M)/\(iO J U M)<=18446744073709551615)/\(ag (((iN J U M) * (256:Int))+(iN J (U+1) (iO J U M)))/\((n≠(0:Int)/\ag ((((iN J U M) * (256:Int))+(iN J (U+1) (iO J U M))).tmod n))/\(((((iN J U M) * (256:Int))+(iN J (U+1) (iO J U M))).tmod n)=(pk J (Sr.mk U M) n)/\((J=J/\(((U+1)+1)=((aI J (Sr.mk U M) n).U)/\(iO J (U+1) (iO J U M))=((aI J (Sr.mk U M) n).M)))/\True)))))))/\((decide ((200:Int)<n))=false ->
 ((n≠(0:Int)/\ag ((iN J U M).tmod n))/\(((iN J U M).tmod n)=(pk J (Sr.mk U M) n)/\((J=J/\((U+1)=((aI J (Sr.mk U M) n).U)/\(iO J U M)=((aI J (Sr.mk U M) n).M)))/\True))))))))):=by kernel_rfl
theorem Bg(hE:aQ [])(hO:iE [])(hM:iS [])(hS:gU [gm]):fY.Good bh:=by
 refine⟨aG sO rfl (by decide),?_⟩
 show ∀ (n:Int) (J:List Int) (U:Int) (M:Int),(bz J (Sr.mk U M) 999999000/\n<=1000000)->p7 prog oP [[.d (.slice (.int .u8)), .d (.int .i64), .d (.int .u64)]] [.box 0, .val ⟨(.int .i64),n⟩] [[⟨(.slice (.int .u8)),J⟩,⟨(.int .i64),U⟩,⟨(.int .u64),M⟩]] [⟨(.int .i64),pk J (Sr.mk U M) n⟩] [[⟨(.slice (.int .u8)),J⟩,⟨(.int .i64),(aI J (Sr.mk U M) n).U⟩,⟨(.int .u64),(aI J (Sr.mk U M) n).M⟩]]
 intro n J U M hp
 refine eN (own:=[]) (wr:=[]) (cl:=[]) (ro:=[]) hE hO hM hS sO zg (tl n J U M) rfl rfl ?_
 rewrite [Br n J U M]
 obtain⟨⟨h1,h2,h3,h4,h5,h6⟩,h7⟩:=hp
 simp only at h2 h3 h5 h6
 have f1:=Ia J U M h1 h2
 have f2:=CI J U M
 have f3:=Ia J (U+1) (iO J U M) h1 (by omega)
 have f4:=CI J (U+1) (iO J U M)
 have f5:=Ve J U M n h1 h2
 have f6:=λ (a:Int) (h:0<=a) (hn:¬ n<=1)=>Ik a n h (by omega)
 have f7:=λ hn=>f6 (iN J U M) f1.1 hn
 have f8:=λ hn=>f6 (iN J U M * 256+iN J (U+1) (iO J U M)) (by omega) hn
 refine⟨λ a0=>⟨?_,⟨⟨rfl,⟨?_,?_⟩⟩,trivial⟩⟩,λ a0=>⟨?_,⟨λ a1=>⟨?_,⟨?_,⟨?_,⟨⟨?_,?_⟩,⟨?_,⟨⟨rfl,⟨?_,?_⟩⟩,trivial⟩⟩⟩⟩⟩⟩,λ a1=>⟨⟨?_,?_⟩,⟨?_,⟨⟨rfl,⟨?_,?_⟩⟩,trivial⟩⟩⟩⟩⟩⟩
 all_goals try and_intros
 all_goals (try simp only[a4B,a4C,a4D]);first|rfl|trivial|omega|(simp only[decide_eq_true_eq,decide_eq_false_iff_not,aV,ag] at *;first|omega|(have g7:=f7 (by omega);have g8:=f8 (by omega);clear f6 f7 f8;first|omega|grind [SI,Z7,QJ,Ur])|grind [SI,Z7,QJ,Ur])
theorem dm:fY.Good bh:=Bg trivial trivial trivial ⟨yR,trivial⟩
def eh(J:List Int)(s:Sr)(n:Int):Bool:=decide (pk J s n=0)
def cI:fY:=⟨pO,[[.d (.slice (.int .u8)), .d (.int .i64), .d (.int .u64)]],[.b 0, .v (.int .i64)],[[(.slice (.int .u8)),(.int .i64),(.int .u64)]],λ (n:Int) (J:List Int) (U:Int) (M:Int)=>⟨(some (bz J (Sr.mk U M) 999999000/\n<=1000000),[⟨.bool,eh J (Sr.mk U M) n⟩],[[⟨(.slice (.int .u8)),J⟩,⟨(.int .i64),(aI J (Sr.mk U M) n).U⟩,⟨(.int .u64),(aI J (Sr.mk U M) n).M⟩]])⟩⟩
def uj(n:Int)(J:List Int)(U:Int)(M:Int):Nat->aX:=λ _ => .none
theorem CS(n:Int)(J:List Int)(U:Int)(M:Int):cU (dj [] [] [] [] [] [] [] [bh]) (aF fP) (uj n J U M) 0 (gS (dj [] [] [] [] [] [] [] [bh]) fP [[.d (.slice (.int .u8)), .d (.int .i64), .d (.int .u64)]] λ r ds=>bH r [⟨.bool,eh J (Sr.mk U M) n⟩]/\jv ds [[⟨(.slice (.int .u8)),J⟩,⟨(.int .i64),(aI J (Sr.mk U M) n).U⟩,⟨(.int .u64),(aI J (Sr.mk U M) n).M⟩]]) (cB fP [.box 0, .val ⟨(.int .i64),n⟩] [[.d (.slice (.int .u8)), .d (.int .i64), .d (.int .u64)]] [[⟨(.slice (.int .u8)),J⟩,⟨(.int .i64),U⟩,⟨(.int .u64),M⟩]]) =
 (((bz J (Sr.mk U M) 999999000/\n<=1000000)/\((decide ((pk J (Sr.mk U M) n)=(0:Int)))=(eh J (Sr.mk U M) n)/\((J=J/\(((aI J (Sr.mk U M) n).U)=((aI J (Sr.mk U M) n).U)/\((aI J (Sr.mk U M) n).M)=((aI J (Sr.mk U M) n).M)))/\True)))):=by kernel_rfl
theorem Cz(hE:aQ [])(hO:iE [])(hM:iS [])(hS:gU [bh]):fY.Good cI:=by
 refine⟨aG ub rfl (by decide),?_⟩
 show ∀ (n:Int) (J:List Int) (U:Int) (M:Int),(bz J (Sr.mk U M) 999999000/\n<=1000000)->p7 prog pO [[.d (.slice (.int .u8)), .d (.int .i64), .d (.int .u64)]] [.box 0, .val ⟨(.int .i64),n⟩] [[⟨(.slice (.int .u8)),J⟩,⟨(.int .i64),U⟩,⟨(.int .u64),M⟩]] [⟨.bool,eh J (Sr.mk U M) n⟩] [[⟨(.slice (.int .u8)),J⟩,⟨(.int .i64),(aI J (Sr.mk U M) n).U⟩,⟨(.int .u64),(aI J (Sr.mk U M) n).M⟩]]
 intro n J U M hp
 refine eN (own:=[]) (wr:=[]) (cl:=[]) (ro:=[]) hE hO hM hS ub AX (uj n J U M) rfl rfl ?_
 rewrite [CS n J U M]
 refine⟨?_,⟨?_,⟨⟨rfl,⟨rfl,rfl⟩⟩,trivial⟩⟩⟩
 all_goals try and_intros
 all_goals first|rfl|trivial|omega|(simp only[a5M,a5N,aV,ag,cq,iW,jQ,cE] at *;omega)|(simp[aV,ag] at *;omega)|grind
theorem lY:fY.Good cI:=Cz trivial trivial trivial ⟨dm,trivial⟩
end
end Go.Proofs.YtnehkikdlnmebaaGreatDoor

set_option maxRecDepth 4000
set_option maxHeartbeats 4000000
namespace Go.Proofs.YtnehkikdlnmebaaGreatDoor
noncomputable section
def IY(J:List Int)(s:Sr):Sr:=aI J (aI J (aI J s 2) 2) 12
def Ol(J:List Int)(s:Sr):Int:=pk J (aI J (aI J s 2) 2) 12
def x6(J:List Int)(s:Sr):aD :=
 if Ol J s=0 then aD.mk (pk J (IY J s) 4) (1+pk J (aI J s 2) 2) else if Ol J s=1 then aD.mk (1+pk J s 2) (pk J (IY J s) 5) else aD.mk (1+pk J s 2) (1+pk J (aI J s 2) 2)
def vQ(J:List Int)(s:Sr):Sr:=if Ol J s=0 then aI J (IY J s) 4 else if Ol J s=1 then aI J (IY J s) 5 else IY J s
theorem mu(J:List Int)(s:Sr):(Ol J s=0->x6 J s=aD.mk (pk J (IY J s) 4) (1+pk J (aI J s 2) 2)/\vQ J s=aI J (IY J s) 4) /\
  (Ol J s=1->x6 J s=aD.mk (1+pk J s 2) (pk J (IY J s) 5)/\vQ J s=aI J (IY J s) 5) /\
  (¬ Ol J s=0->¬ Ol J s=1->x6 J s=aD.mk (1+pk J s 2) (1+pk J (aI J s 2) 2)/\vQ J s=IY J s):=by
 unfold x6 vQ
 refine⟨λ h=>?_,λ h=>?_,λ h1 h2=>?_⟩
 .rw[a5T h,a5T h];exact⟨rfl,rfl⟩
 .rw[a5J (by omega),a5T h,a5J (by omega),a5T h];exact⟨rfl,rfl⟩
 .rw[a5J h1,a5J h2,a5J h1,a5J h2];exact⟨rfl,rfl⟩
theorem a1M(J:List Int)(s:Sr)(m:Int)(h:bz J s m):aY (x6 J s)=true/\bz J (vQ J s) (m+8):=by
 have a1:=h.pk 2
 have h1:=h.next 2
 have a2:=h1.pk 2
 have h2:=h1.next 2
 have h3:=h2.next 12
 have a4:=h3.pk 4
 have a5:=h3.pk 5
 have b4:=h3.next 4
 have b5:=h3.next 5
 obtain⟨c1,c2,c3⟩:=mu J s
 by_cases k0:Ol J s=0
 .rw[(c1 k0).1,(c1 k0).2]
  refine⟨(nM _).2 ?_,b4.mono (by omega)⟩
  show (0<=pk J (IY J s) 4/\_)/\_
  have:pk J (IY J s) 4=pk J (aI J (aI J (aI J s 2) 2) 12) 4:=rfl
  simp only
  omega
 .by_cases k1:Ol J s=1
  .rw[(c2 k1).1,(c2 k1).2]
   refine⟨(nM _).2 ?_,b5.mono (by omega)⟩
   have:pk J (IY J s) 5=pk J (aI J (aI J (aI J s 2) 2) 12) 5:=rfl
   simp only
   omega
  .rw[(c3 k0 k1).1,(c3 k0 k1).2]
   refine⟨(nM _).2 ?_,h3.mono (by omega)⟩
   simp only
   omega
def gN:fY:=⟨pQ,[[.d (.slice (.int .u8)), .d (.int .i64), .d (.int .u64)]],[.b 0],[[(.slice (.int .u8)),(.int .i64),(.int .u64)]],λ (J:List Int) (U:Int) (M:Int)=>⟨(some (bz J (Sr.mk U M) 900000000),[⟨(.st .sig),x6 J (Sr.mk U M)⟩],[[⟨(.slice (.int .u8)),J⟩,⟨(.int .i64),(vQ J (Sr.mk U M)).U⟩,⟨(.int .u64),(vQ J (Sr.mk U M)).M⟩]])⟩⟩
def uk(J:List Int)(U:Int)(M:Int):Nat->aX:=λ _ => .none
theorem CT(J:List Int)(U:Int)(M:Int):cU (dj [] [] [] [] [] [] [] [bh]) (aF fR) (uk J U M) 0 (gS (dj [] [] [] [] [] [] [] [bh]) fR [[.d (.slice (.int .u8)), .d (.int .i64), .d (.int .u64)]] λ r ds=>bH r [⟨(.st .sig),x6 J (Sr.mk U M)⟩]/\jv ds [[⟨(.slice (.int .u8)),J⟩,⟨(.int .i64),(vQ J (Sr.mk U M)).U⟩,⟨(.int .u64),(vQ J (Sr.mk U M)).M⟩]]) (cB fR [.box 0] [[.d (.slice (.int .u8)), .d (.int .i64), .d (.int .u64)]] [[⟨(.slice (.int .u8)),J⟩,⟨(.int .i64),U⟩,⟨(.int .u64),M⟩]]) =
 (((bz J (Sr.mk U M) 999999000/\(2:Int)<=1000000)/\(ag ((1:Int)+(pk J (Sr.mk U M) (2:Int)))/\((bz J (aI J (Sr.mk U M) (2:Int)) 999999000/\(2:Int)<=1000000)/\(ag ((1:Int)+(pk J (aI J (Sr.mk U M) (2:Int)) (2:Int)))/\((bz J (aI J (aI J (Sr.mk U M) (2:Int)) (2:Int)) 999999000/\(12:Int)<=1000000)/\(((decide ((pk J (aI J (aI J (Sr.mk U M) (2:Int)) (2:Int)) (12:Int))=(0:Int)))=true ->
 ((bz J (aI J (aI J (aI J (Sr.mk U M) (2:Int)) (2:Int)) (12:Int)) 999999000/\(4:Int)<=1000000)/\((aD.mk (pk J (aI J (aI J (aI J (Sr.mk U M) (2:Int)) (2:Int)) (12:Int)) (4:Int)) ((1:Int)+(pk J (aI J (Sr.mk U M) (2:Int)) (2:Int))))=(x6 J (Sr.mk U M))/\((J=J/\(((aI J (aI J (aI J (aI J (Sr.mk U M) (2:Int)) (2:Int)) (12:Int)) (4:Int)).U)=((vQ J (Sr.mk U M)).U)/\((aI J (aI J (aI J (aI J (Sr.mk U M) (2:Int)) (2:Int)) (12:Int)) (4:Int)).M)=((vQ J (Sr.mk U M)).M)))/\True))))/\((decide ((pk J (aI J (aI J (Sr.mk U M) (2:Int)) (2:Int)) (12:Int))=(0:Int)))=false ->
 (((decide ((pk J (aI J (aI J (Sr.mk U M) (2:Int)) (2:Int)) (12:Int))=(1:Int)))=true ->
 ((bz J (aI J (aI J (aI J (Sr.mk U M) (2:Int)) (2:Int)) (12:Int)) 999999000/\(5:Int)<=1000000)/\((aD.mk ((1:Int)+(pk J (Sr.mk U M) (2:Int))) (pk J (aI J (aI J (aI J (Sr.mk U M) (2:Int)) (2:Int)) (12:Int)) (5:Int)))=(x6 J (Sr.mk U M))/\((J=J/\(((aI J (aI J (aI J (aI J (Sr.mk U M) (2:Int)) (2:Int)) (12:Int)) (5:Int)).U)=((vQ J (Sr.mk U M)).U)/\((aI J (aI J (aI J (aI J (Sr.mk U M) (2:Int)) (2:Int)) (12:Int)) (5:Int)).M)=((vQ J (Sr.mk U M)).M)))/\True))))/\((decide ((pk J (aI J (aI J (Sr.mk U M) (2:Int)) (2:Int)) (12:Int))=(1:Int)))=false ->
 ((aD.mk ((1:Int)+(pk J (Sr.mk U M) (2:Int))) ((1:Int)+(pk J (aI J (Sr.mk U M) (2:Int)) (2:Int))))=(x6 J (Sr.mk U M))/\((J=J/\(((aI J (aI J (aI J (Sr.mk U M) (2:Int)) (2:Int)) (12:Int)).U)=((vQ J (Sr.mk U M)).U)/\((aI J (aI J (aI J (Sr.mk U M) (2:Int)) (2:Int)) (12:Int)).M)=((vQ J (Sr.mk U M)).M)))/\True)))))))))))):=by kernel_rfl
theorem CA(hE:aQ [])(hO:iE [])(hM:iS [])(hS:gU [bh]):fY.Good gN:=by
 refine⟨aG ud rfl (by decide),?_⟩
 show ∀ (J:List Int) (U:Int) (M:Int),(bz J (Sr.mk U M) 900000000)->p7 prog pQ [[.d (.slice (.int .u8)), .d (.int .i64), .d (.int .u64)]] [.box 0] [[⟨(.slice (.int .u8)),J⟩,⟨(.int .i64),U⟩,⟨(.int .u64),M⟩]] [⟨(.st .sig),x6 J (Sr.mk U M)⟩] [[⟨(.slice (.int .u8)),J⟩,⟨(.int .i64),(vQ J (Sr.mk U M)).U⟩,⟨(.int .u64),(vQ J (Sr.mk U M)).M⟩]]
 intro J U M hp
 refine eN (own:=[]) (wr:=[]) (cl:=[]) (ro:=[]) hE hO hM hS ud AZ (uk J U M) rfl rfl ?_
 rewrite [CT J U M]
 have q0:=hp
 have q1:=q0.next 2
 have q2:=q1.next 2
 have q3:=q2.next 12
 have p1:=q0.pk 2
 have p2:=q1.pk 2
 have p3:=q2.pk 12
 refine⟨?_,⟨?_,⟨?_,⟨?_,⟨?_,⟨λ a0=>⟨?_,⟨?_,⟨⟨rfl,⟨?_,?_⟩⟩,trivial⟩⟩⟩,λ a0=>⟨λ a1=>⟨?_,⟨?_,⟨⟨rfl,⟨?_,?_⟩⟩,trivial⟩⟩⟩,λ a1=>⟨?_,⟨⟨rfl,⟨?_,?_⟩⟩,trivial⟩⟩⟩⟩⟩⟩⟩⟩⟩
 all_goals try and_intros
 all_goals first|rfl|trivial|omega|((try simp only[yY,a5M,a5N,ag] at *);first|omega|exact ((mu J (Sr.mk U M)).1 (by assumption)).1.symm|exact congrArg Sr.U ((mu J (Sr.mk U M)).1 (by assumption)).2.symm|exact congrArg Sr.M ((mu J (Sr.mk U M)).1 (by assumption)).2.symm|exact ((mu J (Sr.mk U M)).2.1 (by assumption)).1.symm|exact congrArg Sr.U ((mu J (Sr.mk U M)).2.1 (by assumption)).2.symm|exact congrArg Sr.M ((mu J (Sr.mk U M)).2.1 (by assumption)).2.symm|exact ((mu J (Sr.mk U M)).2.2 (by assumption) (by assumption)).1.symm|exact congrArg Sr.U ((mu J (Sr.mk U M)).2.2 (by assumption) (by assumption)).2.symm|exact congrArg Sr.M ((mu J (Sr.mk U M)).2.2 (by assumption) (by assumption)).2.symm|exact q0.mono (by decide)|exact q1.mono (by decide)|exact q2.mono (by decide)|exact q3.mono (by decide))
theorem zU:fY.Good gN:=CA trivial trivial trivial ⟨dm,trivial⟩
end
end Go.Proofs.YtnehkikdlnmebaaGreatDoor

namespace Go.Proofs.YtnehkikdlnmebaaGreatDoor
noncomputable section
mutual
def dI:O->Nat
 | ⟨_,_,V⟩=>V.length+uI V
def uI:List O->Nat
 | []=>0
 | k::ks=>dI k+uI ks
end
theorem Ig:∀ xs,uI xs=cW dI xs
 | []=>rfl
 | x::xs=>by rw[uI,cW,Ig xs]
theorem S2(x:O):dI x=(x.V.length+cW dI x.V):=by
 cases x;simp[dI,Ig];try omega
end
end Go.Proofs.YtnehkikdlnmebaaGreatDoor

set_option maxRecDepth 4000
set_option maxHeartbeats 4000000
namespace Go.Proofs.YtnehkikdlnmebaaGreatDoor
noncomputable section
def oW:bb:=⟨zK,[.v (.int .i64), .v (.int .i64)],λ (k:Int) (m:Int)=>⟨(none,[⟨(.st .expr),O.mk k m []⟩])⟩⟩
def Ev(k:Int)(m:Int):Nat->aX:=λ _ => .none
theorem Oc(k:Int)(m:Int):cU (dj [] [] [] [] []) (aF od) (Ev k m) 0 (mn (dj [] [] [] [] []) od λ r=>bH r [⟨(.st .expr),O.mk k m []⟩]) (rz od [.val ⟨(.int .i64),k⟩, .val ⟨(.int .i64),m⟩]) =
 ((O.mk k m [])=(O.mk k m [])):=by kernel_rfl
theorem NI(hE:aQ [])(hO:iE [])(hM:iS [])(hS:gU []):bb.lM oW:=by
 refine⟨aG Ea rfl (by decide),?_⟩
 show ∀ (k:Int) (m:Int),True->ng prog zK [.val ⟨(.int .i64),k⟩, .val ⟨(.int .i64),m⟩] [⟨(.st .expr),O.mk k m []⟩]
 intro k m _
 refine lK (own:=[]) (wr:=[]) (cl:=[]) (ro:=[]) hE hO hM hS Ea KV (Ev k m) ?_
 rewrite [Oc k m]
 refine rfl
 all_goals try and_intros
 all_goals first|rfl|trivial|omega|(simp only[a5M,a5N,aV,ag,cq,iW,jQ,cE] at *;omega)|(simp[aV,ag] at *;omega)|grind
theorem Jo:bb.lM oW:=NI trivial trivial trivial trivial
def gX:bb:=⟨zL,[.v (.int .i64), .o (.slice (.st .expr))],λ (k:Int) (ks:List O)=>⟨(none,[⟨(.st .expr),O.mk k 0 ks⟩])⟩⟩
def Ew(k:Int)(ks:List O):Nat->aX:=λ _ => .none
theorem Od(k:Int)(ks:List O):cU (dj [] [] [] [] []) (aF oe) (Ew k ks) 0 (mn (dj [] [] [] [] []) oe λ r=>bH r [⟨(.st .expr),O.mk k 0 ks⟩]) (rz oe [.val ⟨(.int .i64),k⟩, .own ⟨(.slice (.st .expr)),ks⟩]) =
 ((O.mk k (0:Int) ks)=(O.mk k 0 ks)):=by kernel_rfl
theorem NJ(hE:aQ [])(hO:iE [])(hM:iS [])(hS:gU []):bb.lM gX:=by
 refine⟨aG Eb rfl (by decide),?_⟩
 show ∀ (k:Int) (ks:List O),True->ng prog zL [.val ⟨(.int .i64),k⟩, .own ⟨(.slice (.st .expr)),ks⟩] [⟨(.st .expr),O.mk k 0 ks⟩]
 intro k ks _
 refine lK (own:=[]) (wr:=[]) (cl:=[]) (ro:=[]) hE hO hM hS Eb KW (Ew k ks) ?_
 rewrite [Od k ks]
 refine ?_
 all_goals try and_intros
 all_goals first|rfl|trivial|omega|(simp only[a5M,a5N,aV,ag,cq,iW,jQ,cE] at *;omega)|(simp[aV,ag] at *;omega)|grind
theorem yM:bb.lM gX:=NJ trivial trivial trivial trivial
end
end Go.Proofs.YtnehkikdlnmebaaGreatDoor

set_option maxRecDepth 4000
set_option maxHeartbeats 4000000
namespace Go.Proofs.YtnehkikdlnmebaaGreatDoor
noncomputable section
def lq(n:Nat):bb:=⟨nF,[.r (.st .expr)],λ (e:O)=>⟨(some (cv e<n/\dI e<=1048576),[⟨(.st .expr),e⟩])⟩⟩
def cO:bb:=⟨nF,[.r (.st .expr)],λ (e:O)=>⟨(some (dI e<=1048576),[⟨(.st .expr),e⟩])⟩⟩
def AL(e:O):Nat->aX:=(λ zb=>if Nat.beq zb 0 then .mk (Nat) (λ i=>i<=e.V.length) (λ i=>e.V.length - i) [] [1,5,6,7,8,9,10,11,12,13] (λ i=>[(4, .aS ⟨(.int .i64),((i:Int):Int)⟩)]) [0,2,4,14,15,16,17,18,19,20,21,22,23,24,25,26,27,28,29,30,31,32,33,34,35] (λ i=>[(3, .box [.aS ⟨(.int .i64),(e.ah:Int)⟩, .aS ⟨(.int .i64),(e.bc:Int)⟩, .aB 3400]),(3400, .aB (.st .expr) (e.V.take i:List O))]) [] [] (λ i=>λ _ => .none) else .none)
theorem Ka(n:Nat)(e:O):cU (dj [] [lq n] [] [31,32,33] []) (aF kI) (AL e) 0 (mn (dj [] [lq n] [] [31,32,33] []) kI λ r=>bH r [⟨(.st .expr),e⟩]) (rz kI [.ref ⟨(.st .expr),e⟩]) =
 ((ag e.ah ->
 (ag e.bc ->
 ((∃ i1:Nat,(i1<=e.V.length/\((e=e/\(True/\(True/\((0:Int)=(i1:Int)/\True))))/\((e.ah=e.ah/\(e.bc=e.bc/\(True/\True)))/\((e.V.take i1)=[]/\(((0:Int)=(0:Int)/\((0:Int)=(0:Int)/\(True/\True)))/\True))))))/\(∀ i1:Nat,(i1<=e.V.length ->
 (e.V.length<=140737488355328 ->
 (ag ((e.V.length:Int)) ->
 (((decide ((i1:Int)<((e.V.length:Int))))=true ->
 (e.V.length<=140737488355328 ->
 (ag (i1:Int) ->
 (aV (i1:Int) e.V.length/\(((3:Nat)=3/\(2:Nat)=2)/\((3400:Nat)=3400/\(e=e/\(e=e/\(e.V=e.V/\(e.V=e.V/\((i1:Int)=(i1:Int)/\(aV (i1:Int) e.V.length/\((e.V.getD i1 zE)=(e.V.getD i1 zE)/\((cv (e.V.getD i1 zE)<n/\dI (e.V.getD i1 zE)<=1048576)/\(((3:Nat)=3/\(2:Nat)=2)/\((3400:Nat)=3400/\(((3:Nat)=3/\(2:Nat)=2)/\((3400:Nat)=3400/\(cE ((e.V.take i1).length+([(aC (e.V.getD i1 zE))]).length) 40/\(ag ((i1:Int)+(1:Int))/\(∃ i2:Nat,(i2<=e.V.length/\(e.V.length - i2<e.V.length - i1/\((e=e/\(True/\(True/\(((i1:Int)+(1:Int))=(i2:Int)/\True))))/\((e.ah=e.ah/\(e.bc=e.bc/\(True/\True)))/\(((e.V.take i1)++([(aC (e.V.getD i1 zE))]))=(e.V.take i2)/\(((0:Int)=(0:Int)/\((0:Int)=(0:Int)/\(True/\True)))/\True)))))))))))))))))))))))))))/\((decide ((i1:Int)<((e.V.length:Int))))=false ->
 (O.mk e.ah e.bc (e.V.take i1))=e)))))))))):=by kernel_rfl
theorem JH(n:Nat)(hE:aQ [])(hO:iE [lq n])(hM:iS [])(hS:gU []):bb.lM (lq (n+1)):=by
 refine⟨aG pb rfl (by decide),?_⟩
 show ∀ (e:O),(cv e<n+1/\dI e<=1048576)->ng prog nF [.ref ⟨(.st .expr),e⟩] [⟨(.st .expr),e⟩]
 intro e hp
 refine lK (own:=[31,32,33]) (wr:=[]) (cl:=[]) (ro:=[]) hE hO hM hS pb GJ (AL e) ?_
 rewrite [Ka n e]
 rw[S2] at hp
 have f0:=lA e
 have f1:=λ i (h:i<e.V.length)=>Pw dI zE e.V i h
 have f2:=λ i (h:i<e.V.length)=>cR zE e.V i h
 have f3:=λ i (h:i<e.V.length)=>pW zE e.V i h
 have f4:e.V.take 0=[]:=by simp
 have f5:∀ i,e.V.length<=i->e.V.take i=e.V:=λ i h=>a6O h
 have f6:∀ i,(e.V.take i).length<=e.V.length:=λ i=>by simp;omega
 have f7:∀ ks,ks=e.V->O.mk e.ah e.bc ks=e:=λ ks h=>by subst h;cases e;rfl
 refine λ a0=>λ a1=>⟨⟨0,⟨?_,⟨⟨rfl,⟨trivial,⟨trivial,⟨?_,trivial⟩⟩⟩⟩,⟨⟨rfl,⟨rfl,⟨trivial,trivial⟩⟩⟩,⟨?_,⟨⟨rfl,⟨rfl,⟨trivial,trivial⟩⟩⟩,trivial⟩⟩⟩⟩⟩⟩,λ i1=>λ a2=>λ a3=>λ a4=>⟨λ a5=>λ a6=>λ a7=>⟨?_,⟨⟨?_,?_⟩,⟨?_,⟨rfl,⟨rfl,⟨rfl,⟨rfl,⟨rfl,⟨?_,⟨rfl,⟨?_,⟨⟨?_,?_⟩,⟨?_,⟨⟨?_,?_⟩,⟨?_,⟨?_,⟨?_,⟨i1+1,⟨?_,⟨?_,⟨⟨rfl,⟨trivial,⟨trivial,⟨?_,trivial⟩⟩⟩⟩,⟨⟨rfl,⟨rfl,⟨trivial,trivial⟩⟩⟩,⟨?_,⟨⟨rfl,⟨rfl,⟨trivial,trivial⟩⟩⟩,trivial⟩⟩⟩⟩⟩⟩⟩⟩⟩⟩⟩⟩⟩⟩⟩⟩⟩⟩⟩⟩⟩⟩⟩⟩,λ a5=>?_⟩⟩
 all_goals try and_intros
 all_goals try simp only[O.eta,bE] at *
 all_goals first|rfl|trivial|omega|(simp only[a5M,a5N,aV,ag,cE,a5O,a6a] at *;first|omega|(have:=f6 i1;omega)|exact f7 _ (f5 _ (by omega))|grind)|grind
theorem L6:∀ n,iE [lq n]
 | 0=>⟨⟨aG pb rfl (by decide),λ _ h=>absurd h.1 (a6D _)⟩,trivial⟩
 | n+1=>by
  have ih:=L6 n
  exact⟨JH n trivial ⟨ih.1,trivial⟩ trivial trivial,trivial⟩
theorem FQ:bb.lM cO :=
 ⟨aG pb rfl (by decide),λ e hp=>(L6 (cv e+1)).1.2 e (⟨a6c _,hp⟩)⟩
def lp:bb:=⟨jt,[.v (.int .i64), .o (.st .expr), .o (.st .expr)],λ (k:Int) (a:O) (b:O)=>⟨(none,[⟨(.st .expr),O.mk k 0 [a,b]⟩])⟩⟩
def yI(k:Int)(a:O)(b:O):Nat->aX:=λ _ => .none
theorem ID(k:Int)(a:O)(b:O):cU (dj [] [] [] [10] []) (aF ef) (yI k a b) 0 (mn (dj [] [] [] [10] []) ef λ r=>bH r [⟨(.st .expr),O.mk k 0 [a,b]⟩]) (rz ef [.val ⟨(.int .i64),k⟩, .own ⟨(.st .expr),a⟩, .own ⟨(.st .expr),b⟩]) =
 ((O.mk k (0:Int) ([(aC a),(aC b)]))=(O.mk k 0 [a,b])):=by kernel_rfl
theorem HU(hE:aQ [])(hO:iE [])(hM:iS [])(hS:gU []):bb.lM lp:=by
 refine⟨aG nX rfl (by decide),?_⟩
 show ∀ (k:Int) (a:O) (b:O),True->ng prog jt [.val ⟨(.int .i64),k⟩, .own ⟨(.st .expr),a⟩, .own ⟨(.st .expr),b⟩] [⟨(.st .expr),O.mk k 0 [a,b]⟩]
 intro k a b _
 refine lK (own:=[10]) (wr:=[]) (cl:=[]) (ro:=[]) hE hO hM hS nX uR (yI k a b) ?_
 rewrite [ID k a b]
 refine ?_
 all_goals try and_intros
 all_goals try simp only[O.eta,bE] at *
 all_goals first|rfl|trivial|omega|(simp only[a5M,a5N,aV,ag,cq,iW,jQ,cE] at *;omega)|(simp[aV,ag] at *;omega)|grind
theorem DX:bb.lM lp:=HU trivial trivial trivial trivial
theorem jF:bb.Good cO:=FQ.plain
mutual
theorem Px:∀ x:O,dI x+1=ar x
 | ⟨_,_,ks⟩=>by
  have:=N3 ks
  simp only[dI,ar];omega
theorem N3:∀ xs:List O,xs.length+uI xs=iK xs
 | []=>rfl
 | x::xs=>by
  have h1:=Px x
  have h2:=N3 xs
  simp only[uI,iK,a5O];omega
end
end
end Go.Proofs.YtnehkikdlnmebaaGreatDoor

set_option maxRecDepth 4000
set_option maxHeartbeats 4000000
namespace Go.Proofs.YtnehkikdlnmebaaGreatDoor
noncomputable section
def ZX(a:Int)(c:Bool):Bool := !c&&decide (0<a)
def xq(J:List Int)(a:Int)(c:Bool)(s:Sr):Sr:=if ZX a c=true then aI J s 3 else s
def XZ(J:List Int)(a:Int)(c:Bool)(s:Sr):Bool:=ZX a c && !eh J s 3
def Jl(J:List Int)(t:Int)(s:Sr):Sr:=if 0<t then aI J s 4 else s
def X0(J:List Int)(t:Int)(s:Sr):Bool:=decide (0<t) && !eh J s 4
def xr(J:List Int)(t a:Int)(c:Bool)(s:Sr):O :=
 if XZ J a c s=true then O.mk 4 (pk J (xq J a c s) a) [] else if X0 J t (xq J a c s)=true then O.mk 3 (pk J (Jl J t (xq J a c s)) t) [] else O.mk (1+pk J (Jl J t (xq J a c s)) 2) 0 []
def mZ(J:List Int)(t a:Int)(c:Bool)(s:Sr):Sr :=
 if XZ J a c s=true then aI J (xq J a c s) a else if X0 J t (xq J a c s)=true then aI J (Jl J t (xq J a c s)) t else aI J (Jl J t (xq J a c s)) 2
structure Gn where
 e:O
 s:Sr
 left:Int
def RU(J:List Int)(t a:Int)(c:Bool)(s:Sr)(l:Int):Gn:=⟨xr J t a c s,mZ J t a c s,l⟩
def K3(J:List Int)(c:Bool)(s:Sr)(n:Int):Bool:=c||eh J s n
def Fb(J:List Int)(c:Bool)(s:Sr)(n:Int):Sr:=if c=true then s else aI J s n
def lE(J:List Int)(s:Sr):Int:=pk J (aI J s 6) 10
def ej(J:List Int)(s:Sr):Sr:=aI J (aI J s 6) 10
def bZ(J:List Int)(t a:Int):Nat->Bool->Sr->Int->Gn
 | 0,c,s,left=>RU J t a c s (left - 1)
 | d+1,c,s,left =>
  if left - 1<1 then RU J t a c s (left - 1) else
  if eh J s 6=true then RU J t a c (aI J s 6) (left - 1) else
  if lE J s=0\/(c=true/\lE J s<4) then ⟨O.mk 5 0 [(bZ J t a d true (ej J s) (left - 1)).e],(bZ J t a d true (ej J s) (left - 1)).s,(bZ J t a d true (ej J s) (left - 1)).left⟩ else
  if lE J s<4 then ⟨O.mk 8 0 [(bZ J t a d false (ej J s) (left - 1)).e],(bZ J t a d false (ej J s) (left - 1)).s,(bZ J t a d false (ej J s) (left - 1)).left⟩ else
  let ra:=bZ J t a d (K3 J c (ej J s) 5) (Fb J c (ej J s) 5) (left - 1)
  let rb:=bZ J t a d (K3 J c ra.s 6) (Fb J c ra.s 6) ra.left
  ⟨O.mk (if lE J s<6 then 6 else 7) 0 [ra.e,rb.e],rb.s,rb.left⟩
def wG:Nat->Nat
 | 0=>1
 | d+1=>1+wG d+wG d
structure WA(J:List Int)(t a:Int)(d:Nat)(c:Bool)(m left:Int)(r:Gn):Prop where
 tr:bL (t - 1) (a - 1) r.e=true
 cn:c=true->bG r.e=true
 nd:ar r.e<=wG d
 dp:bB r.e<=d+1
 sr:bz J r.s (m+16 * wG d)
 l0:left - wG d<=r.left
 l1:r.left<=left
theorem IE(d:Nat):1<=wG d:=by cases d<;>simp[wG];omega
theorem R3(t a k n:Int)(hk:cf k=0)(h5:¬ k=5)(hn:if k=3 then 0<=n/\n<=t else if k=4 then 0<=n/\n<=a else n=0):bL t a (O.mk k n [])=true:=by
 simp only[bL,sI,qD,a7q]
 rw[a6L (show cf k=(([]:List O).length:Int) from hk),a7n h5]
 simp only[a7E,a5Z,Bool.true_or,a7q]
 split
 .rename_i h;rw[a5T h] at hn;exact a6L hn
 .rename_i h;rw[a5J h] at hn
  split
  .rename_i h';rw[a5T h'] at hn;exact a6L hn
  .rename_i h';rw[a5J h'] at hn;exact a6L hn
theorem Ug(J:List Int)(t a:Int)(c:Bool)(s:Sr)(m l left b:Int)(d:Nat)(hb:m+6<=b+16 * (wG d:Int))(h:bz J s m)(ht:0<=t/\t<=3)(ha:0<=a/\a<=4)(hl:l=left - 1):WA J t a d c b left (RU J t a c s l):=by
 have hw:=IE d
 have h1:bz J (xq J a c s) (m+2):=by
  unfold xq;split
  .exact h.next 3
  .exact h.mono (by omega)
 have h2:bz J (Jl J t (xq J a c s)) (m+4):=by
  unfold Jl;split
  .exact (h1.next 4).mono (by omega)
  .exact h1.mono (by omega)
 have key:∀ (k n:Int) (s':Sr),cf k=0->¬ k=5->(if k=3 then 0<=n/\n<=t - 1 else if k=4 then 0<=n/\n<=a - 1 else n=0)->(c=true->uT k=true)->bz J s' (m+6) ->
   xr J t a c s=O.mk k n []->mZ J t a c s=s'->WA J t a d c b left (RU J t a c s l):=by
  intro k n s' hk h5 hn hc hs e1 e2
  unfold RU
  rw[e1,e2]
  refine⟨R3 _ _ k n hk h5 hn,λ q=>?_,by simp[ar,iK];omega,by simp[bB,ni],hs.mono (by omega),by show left - _<=l;omega,by show l<=left;omega⟩
  simp[bG,zt,hc q]
 by_cases x:XZ J a c s=true
 .have hx:=x
  simp only[XZ,ZX,a5I,a6k,a5M] at hx
  obtain⟨⟨Na,hx2⟩,hx3⟩:=hx
  have hp:=h1.pk a
  refine key 4 (pk J (xq J a c s) a) (aI J (xq J a c s) a) (by decide) (by decide) ?_ (λ q=>by rw[Na] at q;cases q) ((h1.next a).mono (by omega)) (by unfold xr;rw[if_pos x]) (by unfold mZ;rw[if_pos x])
  rw[a5J (by decide),a5T rfl];omega
 .by_cases y:X0 J t (xq J a c s)=true
  .have hy:=y
   simp only[X0,a5I,a6k,a5M] at hy
   have hp:=h2.pk t
   refine key 3 (pk J (Jl J t (xq J a c s)) t) (aI J (Jl J t (xq J a c s)) t) (by decide) (by decide) ?_ (λ _=>by decide) ((h2.next t).mono (by omega)) (by unfold xr;rw[if_neg x,if_pos y]) (by unfold mZ;rw[if_neg x,if_pos y])
   rw[a5T rfl];omega
  .have hp:=h2.pk 2
   have hv:pk J (Jl J t (xq J a c s)) 2=0\/pk J (Jl J t (xq J a c s)) 2=1:=by omega
   refine key (1+pk J (Jl J t (xq J a c s)) 2) 0 (aI J (Jl J t (xq J a c s)) 2) ?_ (by omega) ?_ (λ _=>?_) ((h2.next 2).mono (by omega)) (by unfold xr;rw[if_neg x,if_neg y]) (by unfold mZ;rw[if_neg x,if_neg y])
   .rcases hv with e|e<;>rw[e]<;>decide
   .rw[a5J (by omega),a5J (by omega)]
   .rcases hv with e|e<;>rw[e]<;>decide
theorem JR(t a:Int)(x:O)(k:Int)(h:bL t a x=true)(hk:(k=5/\bG x=true)\/k=8):bL t a (O.mk k 0 [x])=true:=by
 simp only[bL,sI,qD,h,a7q]
 rcases hk with ⟨rfl,hc⟩|rfl
 .simp[cf,hc]
 .simp[cf]
theorem PB(t a:Int)(x y:O)(k:Int)(h1:bL t a x=true)(h2:bL t a y=true)(hk:k=6\/k=7):bL t a (O.mk k 0 [x,y])=true:=by
 simp only[bL,sI,qD,h1,h2,a7q]
 rcases hk with rfl|rfl<;>simp[cf]
theorem I0(J:List Int)(t a:Int)(ht:0<=t/\t<=3)(ha:0<=a/\a<=4):∀ (d:Nat) (c:Bool) (s:Sr) (m left:Int),bz J s m->WA J t a d c m left (bZ J t a d c s left)
 | 0,c,s,m,left,h=>Ug J t a c s m (left - 1) left m 0 (by simp only[wG];omega) h ht ha rfl
 | d+1,c,s,m,left,h=>by
  have hw:=IE d
  have hw1:wG (d+1)=1+wG d+wG d:=rfl
  unfold bZ
  by_cases c1:left - 1<1
  .rw[a5T c1];exact Ug J t a c s m (left - 1) left m (d+1) (by omega) h ht ha rfl
  rw[a5J c1]
  by_cases c2:eh J s 6=true
  .rw[a5T c2];exact Ug J t a c _ (m+2) (left - 1) left m (d+1) (by omega) (h.next 6) ht ha rfl
  rw[a5J c2]
  have h2:bz J (ej J s) (m+4):=((h.next 6).next 10).mono (by omega)
  by_cases c3:lE J s=0\/(c=true/\lE J s<4)
  .rw[a5T c3]
   have r:=I0 J t a ht ha d true (ej J s) (m+4) (left - 1) h2
   refine⟨JR _ _ _ 5 r.tr (.inl ⟨rfl,r.cn rfl⟩),λ _=>?_,?_,?_,r.sr.mono (by omega),?_,?_⟩
   .simp[bG,zt,r.cn rfl,uT]
   .have:=r.nd;simp only[ar,iK];omega
   .have:=r.dp;simp only[bB,ni];omega
   .have:=r.l0;show left - _<=(bZ J t a d true (ej J s) (left - 1)).left;omega
   .have:=r.l1;show (bZ J t a d true (ej J s) (left - 1)).left<=left;omega
  rw[a5J c3]
  by_cases c4:lE J s<4
  .rw[a5T c4]
   have r:=I0 J t a ht ha d false (ej J s) (m+4) (left - 1) h2
   refine⟨JR _ _ _ 8 r.tr (.inr rfl),λ q=>absurd (.inr ⟨q,c4⟩) c3,?_,?_,r.sr.mono (by omega),?_,?_⟩
   .have:=r.nd;simp only[ar,iK];omega
   .have:=r.dp;simp only[bB,ni];omega
   .have:=r.l0;show left - _<=(bZ J t a d false (ej J s) (left - 1)).left;omega
   .have:=r.l1;show (bZ J t a d false (ej J s) (left - 1)).left<=left;omega
  rw[a5J c4]
  have hS:∀ (x:Sr) (k n:Int),bz J x k->bz J (Fb J c x n) (k+2):=λ x k n q=>by
   unfold Fb;split
   .exact q.mono (by omega)
   .exact q.next n
  have ra:=I0 J t a ht ha d (K3 J c (ej J s) 5) (Fb J c (ej J s) 5) (m+4+2) (left - 1) (hS _ _ 5 h2)
  generalize bZ J t a d (K3 J c (ej J s) 5) (Fb J c (ej J s) 5) (left - 1)=A at ra
  have rb:=I0 J t a ht ha d (K3 J c A.s 6) (Fb J c A.s 6) (m+4+2+16 * wG d+2) A.left (hS _ _ 6 ra.sr)
  simp only
  generalize bZ J t a d (K3 J c A.s 6) (Fb J c A.s 6) A.left=B at rb
  have hk:(if lE J s<6 then (6:Int) else 7)=6\/(if lE J s<6 then (6:Int) else 7)=7:=by split<;>simp
  generalize (if lE J s<6 then (6:Int) else 7)=k at hk
  refine⟨PB _ _ _ _ k ra.tr rb.tr hk,λ q=>?_,?_,?_,rb.sr.mono (by omega),?_,?_⟩
  .have q1:=ra.cn (by simp[K3,q])
   have q2:=rb.cn (by simp[K3,q])
   rcases hk with rfl|rfl<;>simp[bG,zt,q1,q2,uT]
  .have:=ra.nd;have:=rb.nd;simp only[ar,iK];omega
  .have:=ra.dp;have:=rb.dp;simp only[bB,ni];omega
  .have:=ra.l0;have:=rb.l0;show left - _<=B.left;omega
  .have:=ra.l1;have:=rb.l1;show B.left<=left;omega
def gp:fY:=⟨oR,[[.p 1, .d (.int .i64), .d (.int .i64), .d (.int .i64)],[.d (.slice (.int .u8)), .d (.int .i64), .d (.int .u64)]],[.b 0, .v .bool],[[(.int .i64),(.int .i64),(.int .i64)],[(.slice (.int .u8)),(.int .i64),(.int .u64)]],λ (c:Bool) (tn:Int) (an:Int) (left:Int) (J:List Int) (U:Int) (M:Int)=>⟨(some (bz J (Sr.mk U M) 990000000/\(0<=tn/\tn<=3)/\0<=an/\an<=4),[⟨(.st .expr),xr J tn an c (Sr.mk U M)⟩],[[⟨(.int .i64),tn⟩,⟨(.int .i64),an⟩,⟨(.int .i64),left⟩],[⟨(.slice (.int .u8)),J⟩,⟨(.int .i64),(mZ J tn an c (Sr.mk U M)).U⟩,⟨(.int .u64),(mZ J tn an c (Sr.mk U M)).M⟩]])⟩⟩
def tq(c:Bool)(tn:Int)(an:Int)(left:Int)(J:List Int)(U:Int)(M:Int):Nat->aX:=λ _ => .none
abbrev qZ(c:Bool)(tn:Int)(an:Int)(left:Int)(J:List Int)(U:Int)(M:Int):Prop:=((bz J (Sr.mk U M) 999999000/\(3:Int)<=1000000)/\(((!(eh J (Sr.mk U M) (3:Int)))=true ->
 (ag an ->
 ((bz J (aI J (Sr.mk U M) (3:Int)) 999999000/\an<=1000000)/\((O.mk (4:Int) (pk J (aI J (Sr.mk U M) (3:Int)) an) [])=(xr J tn an c (Sr.mk U M))/\((tn=tn/\(an=an/\left=left))/\((J=J/\(((aI J (aI J (Sr.mk U M) (3:Int)) an).U)=((mZ J tn an c (Sr.mk U M)).U)/\((aI J (aI J (Sr.mk U M) (3:Int)) an).M)=((mZ J tn an c (Sr.mk U M)).M)))/\True))))))/\((!(eh J (Sr.mk U M) (3:Int)))=false ->
 (ag tn ->
 (((decide ((0:Int)<tn))=true ->
 ((bz J (aI J (Sr.mk U M) (3:Int)) 999999000/\(4:Int)<=1000000)/\(((!(eh J (aI J (Sr.mk U M) (3:Int)) (4:Int)))=true ->
 (ag tn ->
 ((bz J (aI J (aI J (Sr.mk U M) (3:Int)) (4:Int)) 999999000/\tn<=1000000)/\((O.mk (3:Int) (pk J (aI J (aI J (Sr.mk U M) (3:Int)) (4:Int)) tn) [])=(xr J tn an c (Sr.mk U M))/\((tn=tn/\(an=an/\left=left))/\((J=J/\(((aI J (aI J (aI J (Sr.mk U M) (3:Int)) (4:Int)) tn).U)=((mZ J tn an c (Sr.mk U M)).U)/\((aI J (aI J (aI J (Sr.mk U M) (3:Int)) (4:Int)) tn).M)=((mZ J tn an c (Sr.mk U M)).M)))/\True))))))/\((!(eh J (aI J (Sr.mk U M) (3:Int)) (4:Int)))=false ->
 ((bz J (aI J (aI J (Sr.mk U M) (3:Int)) (4:Int)) 999999000/\(2:Int)<=1000000)/\(ag ((1:Int)+(pk J (aI J (aI J (Sr.mk U M) (3:Int)) (4:Int)) (2:Int)))/\((O.mk ((1:Int)+(pk J (aI J (aI J (Sr.mk U M) (3:Int)) (4:Int)) (2:Int))) (0:Int) [])=(xr J tn an c (Sr.mk U M))/\((tn=tn/\(an=an/\left=left))/\((J=J/\(((aI J (aI J (aI J (Sr.mk U M) (3:Int)) (4:Int)) (2:Int)).U)=((mZ J tn an c (Sr.mk U M)).U)/\((aI J (aI J (aI J (Sr.mk U M) (3:Int)) (4:Int)) (2:Int)).M)=((mZ J tn an c (Sr.mk U M)).M)))/\True)))))))))/\((decide ((0:Int)<tn))=(!true) ->
 ((false=true ->
 (ag tn ->
 ((bz J (aI J (Sr.mk U M) (3:Int)) 999999000/\tn<=1000000)/\((O.mk (3:Int) (pk J (aI J (Sr.mk U M) (3:Int)) tn) [])=(xr J tn an c (Sr.mk U M))/\((tn=tn/\(an=an/\left=left))/\((J=J/\(((aI J (aI J (Sr.mk U M) (3:Int)) tn).U)=((mZ J tn an c (Sr.mk U M)).U)/\((aI J (aI J (Sr.mk U M) (3:Int)) tn).M)=((mZ J tn an c (Sr.mk U M)).M)))/\True))))))/\(false=false ->
 ((bz J (aI J (Sr.mk U M) (3:Int)) 999999000/\(2:Int)<=1000000)/\(ag ((1:Int)+(pk J (aI J (Sr.mk U M) (3:Int)) (2:Int)))/\((O.mk ((1:Int)+(pk J (aI J (Sr.mk U M) (3:Int)) (2:Int))) (0:Int) [])=(xr J tn an c (Sr.mk U M))/\((tn=tn/\(an=an/\left=left))/\((J=J/\(((aI J (aI J (Sr.mk U M) (3:Int)) (2:Int)).U)=((mZ J tn an c (Sr.mk U M)).U)/\((aI J (aI J (Sr.mk U M) (3:Int)) (2:Int)).M)=((mZ J tn an c (Sr.mk U M)).M)))/\True)))))))))))))
abbrev rf(c:Bool)(tn:Int)(an:Int)(left:Int)(J:List Int)(U:Int)(M:Int):Prop:=((false=true ->
 (ag an ->
 ((bz J (Sr.mk U M) 999999000/\an<=1000000)/\((O.mk (4:Int) (pk J (Sr.mk U M) an) [])=(xr J tn an c (Sr.mk U M))/\((tn=tn/\(an=an/\left=left))/\((J=J/\(((aI J (Sr.mk U M) an).U)=((mZ J tn an c (Sr.mk U M)).U)/\((aI J (Sr.mk U M) an).M)=((mZ J tn an c (Sr.mk U M)).M)))/\True))))))/\(false=false ->
 (ag tn ->
 (((decide ((0:Int)<tn))=true ->
 ((bz J (Sr.mk U M) 999999000/\(4:Int)<=1000000)/\(((!(eh J (Sr.mk U M) (4:Int)))=true ->
 (ag tn ->
 ((bz J (aI J (Sr.mk U M) (4:Int)) 999999000/\tn<=1000000)/\((O.mk (3:Int) (pk J (aI J (Sr.mk U M) (4:Int)) tn) [])=(xr J tn an c (Sr.mk U M))/\((tn=tn/\(an=an/\left=left))/\((J=J/\(((aI J (aI J (Sr.mk U M) (4:Int)) tn).U)=((mZ J tn an c (Sr.mk U M)).U)/\((aI J (aI J (Sr.mk U M) (4:Int)) tn).M)=((mZ J tn an c (Sr.mk U M)).M)))/\True))))))/\((!(eh J (Sr.mk U M) (4:Int)))=false ->
 ((bz J (aI J (Sr.mk U M) (4:Int)) 999999000/\(2:Int)<=1000000)/\(ag ((1:Int)+(pk J (aI J (Sr.mk U M) (4:Int)) (2:Int)))/\((O.mk ((1:Int)+(pk J (aI J (Sr.mk U M) (4:Int)) (2:Int))) (0:Int) [])=(xr J tn an c (Sr.mk U M))/\((tn=tn/\(an=an/\left=left))/\((J=J/\(((aI J (aI J (Sr.mk U M) (4:Int)) (2:Int)).U)=((mZ J tn an c (Sr.mk U M)).U)/\((aI J (aI J (Sr.mk U M) (4:Int)) (2:Int)).M)=((mZ J tn an c (Sr.mk U M)).M)))/\True)))))))))/\((decide ((0:Int)<tn))=(!true) ->
 ((false=true ->
 (ag tn ->
 ((bz J (Sr.mk U M) 999999000/\tn<=1000000)/\((O.mk (3:Int) (pk J (Sr.mk U M) tn) [])=(xr J tn an c (Sr.mk U M))/\((tn=tn/\(an=an/\left=left))/\((J=J/\(((aI J (Sr.mk U M) tn).U)=((mZ J tn an c (Sr.mk U M)).U)/\((aI J (Sr.mk U M) tn).M)=((mZ J tn an c (Sr.mk U M)).M)))/\True))))))/\(false=false ->
 ((bz J (Sr.mk U M) 999999000/\(2:Int)<=1000000)/\(ag ((1:Int)+(pk J (Sr.mk U M) (2:Int)))/\((O.mk ((1:Int)+(pk J (Sr.mk U M) (2:Int))) (0:Int) [])=(xr J tn an c (Sr.mk U M))/\((tn=tn/\(an=an/\left=left))/\((J=J/\(((aI J (Sr.mk U M) (2:Int)).U)=((mZ J tn an c (Sr.mk U M)).U)/\((aI J (Sr.mk U M) (2:Int)).M)=((mZ J tn an c (Sr.mk U M)).M)))/\True))))))))))))
theorem Bu(c:Bool)(tn:Int)(an:Int)(left:Int)(J:List Int)(U:Int)(M:Int):cU (dj [] [] [] [] [] [] [] [cI,bh]) (aF e8) (tq c tn an left J U M) 0 (gS (dj [] [] [] [] [] [] [] [cI,bh]) e8 [[.p 1, .d (.int .i64), .d (.int .i64), .d (.int .i64)],[.d (.slice (.int .u8)), .d (.int .i64), .d (.int .u64)]] λ r ds=>bH r [⟨(.st .expr),xr J tn an c (Sr.mk U M)⟩]/\jv ds [[⟨(.int .i64),tn⟩,⟨(.int .i64),an⟩,⟨(.int .i64),left⟩],[⟨(.slice (.int .u8)),J⟩,⟨(.int .i64),(mZ J tn an c (Sr.mk U M)).U⟩,⟨(.int .u64),(mZ J tn an c (Sr.mk U M)).M⟩]]) (cB e8 [.box 0, .val ⟨.bool,c⟩] [[.p 1, .d (.int .i64), .d (.int .i64), .d (.int .i64)],[.d (.slice (.int .u8)), .d (.int .i64), .d (.int .u64)]] [[⟨(.int .i64),tn⟩,⟨(.int .i64),an⟩,⟨(.int .i64),left⟩],[⟨(.slice (.int .u8)),J⟩,⟨(.int .i64),U⟩,⟨(.int .u64),M⟩]]) =
 ((((!c)=true ->
 (ag an ->
 (((decide ((0:Int)<an))=true ->
 (qZ c tn an left J U M))/\((decide ((0:Int)<an))=(!true) ->
 (rf c tn an left J U M)))))/\((!c)=(!true) ->
 ((false=true ->
 (qZ c tn an left J U M))/\(false=(!true) ->
 (rf c tn an left J U M)))))):=by kernel_rfl
theorem Bj(hE:aQ [])(hO:iE [])(hM:iS [])(hS:gU [cI,bh]):fY.Good gp:=by
 refine⟨aG sQ rfl (by decide),?_⟩
 show ∀ (c:Bool) (tn:Int) (an:Int) (left:Int) (J:List Int) (U:Int) (M:Int),(bz J (Sr.mk U M) 990000000/\(0<=tn/\tn<=3)/\0<=an/\an<=4)->p7 prog oR [[.p 1, .d (.int .i64), .d (.int .i64), .d (.int .i64)],[.d (.slice (.int .u8)), .d (.int .i64), .d (.int .u64)]] [.box 0, .val ⟨.bool,c⟩] [[⟨(.int .i64),tn⟩,⟨(.int .i64),an⟩,⟨(.int .i64),left⟩],[⟨(.slice (.int .u8)),J⟩,⟨(.int .i64),U⟩,⟨(.int .u64),M⟩]] [⟨(.st .expr),xr J tn an c (Sr.mk U M)⟩] [[⟨(.int .i64),tn⟩,⟨(.int .i64),an⟩,⟨(.int .i64),left⟩],[⟨(.slice (.int .u8)),J⟩,⟨(.int .i64),(mZ J tn an c (Sr.mk U M)).U⟩,⟨(.int .u64),(mZ J tn an c (Sr.mk U M)).M⟩]]
 intro c tn an left J U M hp
 refine eN (own:=[]) (wr:=[]) (cl:=[]) (ro:=[]) hE hO hM hS sQ zk (tq c tn an left J U M) rfl rfl ?_
 rewrite [Bu c tn an left J U M]
 have p0:=hp.1.pk 2
 have p1:=(hp.1.next 3).pk 2
 have p2:=(hp.1.next 4).pk 2
 have p3:=((hp.1.next 3).next 4).pk 2
 refine⟨λ a0=>λ a1=>⟨λ a2=>⟨?_,⟨λ a3=>λ a4=>⟨?_,⟨?_,⟨⟨rfl,⟨rfl,rfl⟩⟩,⟨⟨rfl,⟨?_,?_⟩⟩,trivial⟩⟩⟩⟩,λ a3=>λ a4=>⟨λ a5=>⟨?_,⟨λ a6=>λ a7=>⟨?_,⟨?_,⟨⟨rfl,⟨rfl,rfl⟩⟩,⟨⟨rfl,⟨?_,?_⟩⟩,trivial⟩⟩⟩⟩,λ a6=>⟨?_,⟨?_,⟨?_,⟨⟨rfl,⟨rfl,rfl⟩⟩,⟨⟨rfl,⟨?_,?_⟩⟩,trivial⟩⟩⟩⟩⟩⟩⟩,λ a5=>⟨λ a6=>λ a7=>⟨?_,⟨?_,⟨⟨rfl,⟨rfl,rfl⟩⟩,⟨⟨rfl,⟨?_,?_⟩⟩,trivial⟩⟩⟩⟩,λ a6=>⟨?_,⟨?_,⟨?_,⟨⟨rfl,⟨rfl,rfl⟩⟩,⟨⟨rfl,⟨?_,?_⟩⟩,trivial⟩⟩⟩⟩⟩⟩⟩⟩⟩,λ a2=>⟨λ a3=>λ a4=>⟨?_,⟨?_,⟨⟨rfl,⟨rfl,rfl⟩⟩,⟨⟨rfl,⟨?_,?_⟩⟩,trivial⟩⟩⟩⟩,λ a3=>λ a4=>⟨λ a5=>⟨?_,⟨λ a6=>λ a7=>⟨?_,⟨?_,⟨⟨rfl,⟨rfl,rfl⟩⟩,⟨⟨rfl,⟨?_,?_⟩⟩,trivial⟩⟩⟩⟩,λ a6=>⟨?_,⟨?_,⟨?_,⟨⟨rfl,⟨rfl,rfl⟩⟩,⟨⟨rfl,⟨?_,?_⟩⟩,trivial⟩⟩⟩⟩⟩⟩⟩,λ a5=>⟨λ a6=>λ a7=>⟨?_,⟨?_,⟨⟨rfl,⟨rfl,rfl⟩⟩,⟨⟨rfl,⟨?_,?_⟩⟩,trivial⟩⟩⟩⟩,λ a6=>⟨?_,⟨?_,⟨?_,⟨⟨rfl,⟨rfl,rfl⟩⟩,⟨⟨rfl,⟨?_,?_⟩⟩,trivial⟩⟩⟩⟩⟩⟩⟩⟩⟩,λ a0=>⟨λ a1=>⟨?_,⟨λ a2=>λ a3=>⟨?_,⟨?_,⟨⟨rfl,⟨rfl,rfl⟩⟩,⟨⟨rfl,⟨?_,?_⟩⟩,trivial⟩⟩⟩⟩,λ a2=>λ a3=>⟨λ a4=>⟨?_,⟨λ a5=>λ a6=>⟨?_,⟨?_,⟨⟨rfl,⟨rfl,rfl⟩⟩,⟨⟨rfl,⟨?_,?_⟩⟩,trivial⟩⟩⟩⟩,λ a5=>⟨?_,⟨?_,⟨?_,⟨⟨rfl,⟨rfl,rfl⟩⟩,⟨⟨rfl,⟨?_,?_⟩⟩,trivial⟩⟩⟩⟩⟩⟩⟩,λ a4=>⟨λ a5=>λ a6=>⟨?_,⟨?_,⟨⟨rfl,⟨rfl,rfl⟩⟩,⟨⟨rfl,⟨?_,?_⟩⟩,trivial⟩⟩⟩⟩,λ a5=>⟨?_,⟨?_,⟨?_,⟨⟨rfl,⟨rfl,rfl⟩⟩,⟨⟨rfl,⟨?_,?_⟩⟩,trivial⟩⟩⟩⟩⟩⟩⟩⟩⟩,λ a1=>⟨λ a2=>λ a3=>⟨?_,⟨?_,⟨⟨rfl,⟨rfl,rfl⟩⟩,⟨⟨rfl,⟨?_,?_⟩⟩,trivial⟩⟩⟩⟩,λ a2=>λ a3=>⟨λ a4=>⟨?_,⟨λ a5=>λ a6=>⟨?_,⟨?_,⟨⟨rfl,⟨rfl,rfl⟩⟩,⟨⟨rfl,⟨?_,?_⟩⟩,trivial⟩⟩⟩⟩,λ a5=>⟨?_,⟨?_,⟨?_,⟨⟨rfl,⟨rfl,rfl⟩⟩,⟨⟨rfl,⟨?_,?_⟩⟩,trivial⟩⟩⟩⟩⟩⟩⟩,λ a4=>⟨λ a5=>λ a6=>⟨?_,⟨?_,⟨⟨rfl,⟨rfl,rfl⟩⟩,⟨⟨rfl,⟨?_,?_⟩⟩,trivial⟩⟩⟩⟩,λ a5=>⟨?_,⟨?_,⟨?_,⟨⟨rfl,⟨rfl,rfl⟩⟩,⟨⟨rfl,⟨?_,?_⟩⟩,trivial⟩⟩⟩⟩⟩⟩⟩⟩⟩⟩
 all_goals try and_intros
 all_goals (try simp only[yY] at *);first|omega|(first|exact bz.mono hp.1 (by decide)|exact bz.mono (hp.1.next _) (by decide)|exact bz.mono ((hp.1.next _).next _) (by decide))|(cases c<;>grind [xr,mZ,XZ,X0,xq,Jl,ZX])
theorem yU:fY.Good gp:=Bj trivial trivial trivial ⟨lY,dm,trivial⟩
theorem rQ(aj:Int)(h:¬ aj<1):aj.toNat=(aj - 1).toNat+1:=by omega
theorem Oe(aj:Int)(h:¬ aj<1):(wG aj.toNat:Int)=1+2 * (wG (aj - 1).toNat:Int):=by
 rw[rQ aj h];simp only[wG];omega
theorem a1N(J:List Int)(t a aj left:Int)(c:Bool)(s:Sr)(h:aj<1\/left - 1<1):bZ J t a aj.toNat c s left=RU J t a c s (left - 1):=by
 by_cases hd:aj<1
 .rw[show aj.toNat=0 by omega,bZ]
 .rw[rQ aj hd,bZ,a5T (by omega)]
theorem a1O(J:List Int)(t a aj left:Int)(c:Bool)(s:Sr)(hd:¬ aj<1)(hl:¬ left - 1<1)(h:eh J s 6=true):bZ J t a aj.toNat c s left=RU J t a c (aI J s 6) (left - 1):=by
 rw[rQ aj hd,bZ,a5J hl,a5T h]
theorem a2o{x:Int}{c:Bool}(h2:¬ x=0)(h3:c=false):¬ (x=0\/(c=true/\x<4)):=by
 intro q
 rcases q with q|q
 .exact h2 q
 .exact absurd (q.1.symm.trans h3) (by decide)
structure rP(J:List Int)(aj left:Int)(s:Sr):Prop where
 d:¬ aj<1
 l:¬ left - 1<1
 o:eh J s 6=false
theorem a1P(J:List Int)(t a aj left:Int)(c:Bool)(s:Sr)(g:rP J aj left s)(h:lE J s=0\/(c=true/\lE J s<4)):bZ J t a aj.toNat c s left=⟨O.mk 5 0 [(bZ J t a (aj - 1).toNat true (ej J s) (left - 1)).e],(bZ J t a (aj - 1).toNat true (ej J s) (left - 1)).s,(bZ J t a (aj - 1).toNat true (ej J s) (left - 1)).left⟩:=by
 rw[rQ aj g.d,bZ,a5J g.l,a5J (by rw[g.o];decide),a5T h]
theorem a1Q(J:List Int)(t a aj left:Int)(c:Bool)(s:Sr)(g:rP J aj left s)(h:¬ (lE J s=0\/(c=true/\lE J s<4)))(h4:lE J s<4):bZ J t a aj.toNat c s left=⟨O.mk 8 0 [(bZ J t a (aj - 1).toNat false (ej J s) (left - 1)).e],(bZ J t a (aj - 1).toNat false (ej J s) (left - 1)).s,(bZ J t a (aj - 1).toNat false (ej J s) (left - 1)).left⟩:=by
 rw[rQ aj g.d,bZ,a5J g.l,a5J (by rw[g.o];decide),a5J h,a5T h4]
def cg(J:List Int)(t a aj left:Int)(c:Bool)(s:Sr):Gn:=bZ J t a (aj - 1).toNat (K3 J c (ej J s) 5) (Fb J c (ej J s) 5) (left - 1)
def rT(J:List Int)(t a aj:Int)(c:Bool)(r:Gn):Gn:=bZ J t a (aj - 1).toNat (K3 J c r.s 6) (Fb J c r.s 6) r.left
def G8(J:List Int)(s:Sr):Int:=if lE J s<6 then 6 else 7
theorem W1(J:List Int)(t a aj left:Int)(c:Bool)(s:Sr)(g:rP J aj left s)(h4:¬ lE J s<4):bZ J t a aj.toNat c s left=⟨O.mk (G8 J s) 0 [(cg J t a aj left c s).e,(rT J t a aj c (cg J t a aj left c s)).e],(rT J t a aj c (cg J t a aj left c s)).s,(rT J t a aj c (cg J t a aj left c s)).left⟩:=by
 rw[rQ aj g.d,bZ,a5J g.l,a5J (by rw[g.o];decide),a5J,a5J h4]
 .rfl
 .have:=g.o;intro q
  rcases q with q|q<;>omega
structure Td(J:List Int)(aj left:Int)(s:Sr)(k:Int):Prop where
 s:bz J s (980000000 - 16 * (wG (aj - 1).toNat:Int) - k)
 l0 : -1000000+(wG (aj - 1).toNat:Int)<=left
 l1:left<=1000000
theorem UY(J:List Int)(c:Bool)(s:Sr)(n k:Int)(h:bz J s k):bz J (Fb J c s n) (k+2):=by
 unfold Fb;split
 .exact h.mono (by omega)
 .exact h.next n
theorem a1V(J:List Int)(aj left:Int)(s:Sr)(hd:¬ aj<1)(hs:bz J s (980000000 - 16 * (wG aj.toNat:Int)))(h0 : -1000000+(wG aj.toNat:Int)<=left)(h1:left<=1000000):Td J aj (left - 1) (ej J s) 8:=by
 have hw:=Oe aj hd
 have hp:=IE (aj - 1).toNat
 exact⟨((hs.next 6).next 10).mono (by omega),by omega,by omega⟩
theorem a1W(J:List Int)(t a aj left:Int)(c:Bool)(s:Sr)(hd:¬ aj<1)(hs:bz J s (980000000 - 16 * (wG aj.toNat:Int)))(h0 : -1000000+(wG aj.toNat:Int)<=left)(h1:left<=1000000)(ht:0<=t/\t<=3)(ha:0<=a/\a<=4) :
  Td J aj (cg J t a aj left c s).left (cg J t a aj left c s).s 8:=by
 have hw:=Oe aj hd
 have hp:=IE (aj - 1).toNat
 have r:=I0 J t a ht ha (aj - 1).toNat (K3 J c (ej J s) 5) (Fb J c (ej J s) 5) _ (left - 1) (UY J c _ 5 _ ((hs.next 6).next 10))
 have e:cg J t a aj left c s=bZ J t a (aj - 1).toNat (K3 J c (ej J s) 5) (Fb J c (ej J s) 5) (left - 1):=rfl
 rw[<-e] at r
 have r0:=r.l0;have r1:=r.l1
 exact⟨r.sr.mono (by omega),by omega,by omega⟩
theorem Td.go{J:List Int}{aj left:Int}{s:Sr}(h:Td J aj left s 8)(c:Bool)(n:Int):Td J aj left (Fb J c s n) 0:=⟨(UY J c s n _ h.s).mono (by omega),h.l0,h.l1⟩
def fG(n:Nat):fY:=⟨kj,[[.p 1, .d (.int .i64), .d (.int .i64), .d (.int .i64)],[.d (.slice (.int .u8)), .d (.int .i64), .d (.int .u64)]],[.b 0, .v .bool, .v (.int .i64)],[[(.int .i64),(.int .i64),(.int .i64)],[(.slice (.int .u8)),(.int .i64),(.int .u64)]],λ (c:Bool) (aj:Int) (tn:Int) (an:Int) (left:Int) (J:List Int) (U:Int) (M:Int)=>⟨(some (aj.toNat<n/\bz J (Sr.mk U M) (980000000 - 16 * (wG aj.toNat:Int))/\(0<=tn/\tn<=3)/\(0<=an/\an<=4)/\aj<=10 /\ -1000000+(wG aj.toNat:Int)<=left/\left<=1000000),[⟨(.st .expr),(bZ J tn an aj.toNat c (Sr.mk U M) left).e⟩],[[⟨(.int .i64),tn⟩,⟨(.int .i64),an⟩,⟨(.int .i64),(bZ J tn an aj.toNat c (Sr.mk U M) left).left⟩],[⟨(.slice (.int .u8)),J⟩,⟨(.int .i64),(bZ J tn an aj.toNat c (Sr.mk U M) left).s.U⟩,⟨(.int .u64),(bZ J tn an aj.toNat c (Sr.mk U M) left).s.M⟩]])⟩⟩
def jP:fY:=⟨kj,[[.p 1, .d (.int .i64), .d (.int .i64), .d (.int .i64)],[.d (.slice (.int .u8)), .d (.int .i64), .d (.int .u64)]],[.b 0, .v .bool, .v (.int .i64)],[[(.int .i64),(.int .i64),(.int .i64)],[(.slice (.int .u8)),(.int .i64),(.int .u64)]],λ (c:Bool) (aj:Int) (tn:Int) (an:Int) (left:Int) (J:List Int) (U:Int) (M:Int)=>⟨(some (bz J (Sr.mk U M) (980000000 - 16 * (wG aj.toNat:Int))/\(0<=tn/\tn<=3)/\(0<=an/\an<=4)/\aj<=10 /\ -1000000+(wG aj.toNat:Int)<=left/\left<=1000000),[⟨(.st .expr),(bZ J tn an aj.toNat c (Sr.mk U M) left).e⟩],[[⟨(.int .i64),tn⟩,⟨(.int .i64),an⟩,⟨(.int .i64),(bZ J tn an aj.toNat c (Sr.mk U M) left).left⟩],[⟨(.slice (.int .u8)),J⟩,⟨(.int .i64),(bZ J tn an aj.toNat c (Sr.mk U M) left).s.U⟩,⟨(.int .u64),(bZ J tn an aj.toNat c (Sr.mk U M) left).s.M⟩]])⟩⟩
def tp(c:Bool)(aj:Int)(tn:Int)(an:Int)(left:Int)(J:List Int)(U:Int)(M:Int):Nat->aX:=(λ zb=>if Nat.beq zb 100004 then .mk (Unit) (λ u=>rP J aj left (Sr.mk U M)) (λ u=>0) [] [3,4,5,11,12,13,14,15,16,17,18,19,20,21,22,23,24,25,26,27,28,29,30,31,32,33,34,35,36] (λ u=>[]) [0,1,2,6,7,8,9,10,37,38,39,40,41,42,43,44,45,46,47,48,49,50,51,52,53,54,55,56,57,58,59,60,61,62,63,64,65,66,67,68,69,70,71,72,73,74,75,76,77,78,79,80,81,82,83,84,85,86,87,88,89,90,91,92,93,94,95,96] (λ u=>[(400000, .box [.ptr 400001 0, .aS ⟨(.int .i64),(tn:Int)⟩, .aS ⟨(.int .i64),(an:Int)⟩, .aS ⟨(.int .i64),(left - 1:Int)⟩]),(400001, .box [.aS ⟨(.slice (.int .u8)),(J:List Int)⟩, .aS ⟨(.int .i64),((aI J (Sr.mk U M) 6).U:Int)⟩, .aS ⟨(.int .u64),((aI J (Sr.mk U M) 6).M:Int)⟩])]) [] [] (λ u=>(λ zb=>if Nat.beq zb 100009 then .mk (Unit) (λ u=>rP J aj left (Sr.mk U M)/\¬ lE J (Sr.mk U M)<4) (λ u=>0) [] [3,4,5,11,12,13,14,15,16,17,18,19,20,21,22,23,24,25,26,27,28,29,30,31,32,33,34,35,36,37,38,39,40,41,42,43,44,45,46,47,48,49,50,51,52,53,54,55,56,57,58,59,60,61,62,63,64,65,66] (λ u=>[(7, .aS ⟨(.int .i64),(lE J (Sr.mk U M):Int)⟩)]) [0,1,2,6,7,8,9,10,67,68,69,70,71,72,73,74,75,76,77,78,79,80,81,82,83,84,85,86,87,88,89,90,91,92,93,94,95,96] (λ u=>[(400000, .box [.ptr 400001 0, .aS ⟨(.int .i64),(tn:Int)⟩, .aS ⟨(.int .i64),(an:Int)⟩, .aS ⟨(.int .i64),(left - 1:Int)⟩]),(400001, .box [.aS ⟨(.slice (.int .u8)),(J:List Int)⟩, .aS ⟨(.int .i64),((ej J (Sr.mk U M)).U:Int)⟩, .aS ⟨(.int .u64),((ej J (Sr.mk U M)).M:Int)⟩])]) [] [] (λ u=>(λ zb=>if Nat.beq zb 100012 then .mk (Unit) (λ u=>rP J aj left (Sr.mk U M)/\¬ lE J (Sr.mk U M)<4) (λ u=>0) [] [3,4,5,7,11,12,13,14,15,16,17,18,19,20,21,22,23,24,25,26,27,28,29,30,31,32,33,34,35,36,37,38,39,40,41,42,43,44,45,46,47,48,49,50,51,52,53,54,55,56,57,58,59,60,61,62,63,64,65,66,67,68] (λ u=>[(8, .aS ⟨(.int .i64),(G8 J (Sr.mk U M):Int)⟩)]) [0,1,2,6,8,9,10,69,70,71,72,73,74,75,76,77,78,79,80,81,82,83,84,85,86,87,88,89,90,91,92,93,94,95,96] (λ u=>[(400000, .box [.ptr 400001 0, .aS ⟨(.int .i64),(tn:Int)⟩, .aS ⟨(.int .i64),(an:Int)⟩, .aS ⟨(.int .i64),(left - 1:Int)⟩]),(400001, .box [.aS ⟨(.slice (.int .u8)),(J:List Int)⟩, .aS ⟨(.int .i64),((ej J (Sr.mk U M)).U:Int)⟩, .aS ⟨(.int .u64),((ej J (Sr.mk U M)).M:Int)⟩])]) [] [] (λ u=>(λ zb=>if Nat.beq zb 100013 then .mk (Unit) (λ u=>rP J aj left (Sr.mk U M)/\¬ lE J (Sr.mk U M)<4) (λ u=>0) [] [3,4,5,7,11,12,13,14,15,16,17,18,19,20,21,22,23,24,25,26,27,28,29,30,31,32,33,34,35,36,37,38,39,40,41,42,43,44,45,46,47,48,49,50,51,52,53,54,55,56,57,58,59,60,61,62,63,64,65,66,67,68,69,70,71,72,73,74,75,76,77,78,79,80] (λ u=>[(9, .ptr 9 0)]) [0,1,2,6,8,10,81,82,83,84,85,86,87,88,89,90,91,92,93,94,95,96] (λ u=>[(400000, .box [.ptr 400001 0, .aS ⟨(.int .i64),(tn:Int)⟩, .aS ⟨(.int .i64),(an:Int)⟩, .aS ⟨(.int .i64),((cg J tn an aj left c (Sr.mk U M)).left:Int)⟩]),(400001, .box [.aS ⟨(.slice (.int .u8)),(J:List Int)⟩, .aS ⟨(.int .i64),((cg J tn an aj left c (Sr.mk U M)).s.U:Int)⟩, .aS ⟨(.int .u64),((cg J tn an aj left c (Sr.mk U M)).s.M:Int)⟩]),(9, .box [.aS ⟨(.int .i64),((cg J tn an aj left c (Sr.mk U M)).e.ah:Int)⟩, .aS ⟨(.int .i64),((cg J tn an aj left c (Sr.mk U M)).e.bc:Int)⟩, .aB 7000]),(7000, .aB (.st .expr) ((cg J tn an aj left c (Sr.mk U M)).e.V:List O))]) [] [] (λ u=>(λ zb=>if Nat.beq zb 100014 then .mk (Unit) (λ u=>rP J aj left (Sr.mk U M)/\¬ lE J (Sr.mk U M)<4) (λ u=>0) [] [0,1,2,3,4,5,7,11,12,13,14,15,16,17,18,19,20,21,22,23,24,25,26,27,28,29,30,31,32,33,34,35,36,37,38,39,40,41,42,43,44,45,46,47,48,49,50,51,52,53,54,55,56,57,58,59,60,61,62,63,64,65,66,67,68,69,70,71,72,73,74,75,76,77,78,79,80,81,82,83,84,85,86,87,88,89,90,91,92] (λ u=>[(10, .ptr 10 0)]) [6,8,9,93,94,95,96,7000] (λ u=>[(400000, .box [.ptr 400001 0, .aS ⟨(.int .i64),(tn:Int)⟩, .aS ⟨(.int .i64),(an:Int)⟩, .aS ⟨(.int .i64),((rT J tn an aj c (cg J tn an aj left c (Sr.mk U M))).left:Int)⟩]),(400001, .box [.aS ⟨(.slice (.int .u8)),(J:List Int)⟩, .aS ⟨(.int .i64),((rT J tn an aj c (cg J tn an aj left c (Sr.mk U M))).s.U:Int)⟩, .aS ⟨(.int .u64),((rT J tn an aj c (cg J tn an aj left c (Sr.mk U M))).s.M:Int)⟩]),(10, .box [.aS ⟨(.int .i64),((rT J tn an aj c (cg J tn an aj left c (Sr.mk U M))).e.ah:Int)⟩, .aS ⟨(.int .i64),((rT J tn an aj c (cg J tn an aj left c (Sr.mk U M))).e.bc:Int)⟩, .aB 7100]),(7100, .aB (.st .expr) ((rT J tn an aj c (cg J tn an aj left c (Sr.mk U M))).e.V:List O))]) [] [] (λ u=>λ _ => .none) else .none)) else .none)) else .none)) else .none)) else .none)
abbrev qV(c:Bool)(aj:Int)(tn:Int)(an:Int)(left:Int)(J:List Int)(U:Int)(M:Int):Prop:=((bz J (Sr.mk U M) 999999000/\(6:Int)<=1000000)/\(((eh J (Sr.mk U M) (6:Int))=true ->
 ((bz J (aI J (Sr.mk U M) (6:Int)) 990000000/\(0<=tn/\tn<=3)/\0<=an/\an<=4)/\((aC (xr J tn an c (aI J (Sr.mk U M) (6:Int))))=((bZ J tn an aj.toNat c (Sr.mk U M) left).e)/\((tn=tn/\(an=an/\(left - (1:Int))=((bZ J tn an aj.toNat c (Sr.mk U M) left).left)))/\((J=J/\(((mZ J tn an c (aI J (Sr.mk U M) (6:Int))).U)=((bZ J tn an aj.toNat c (Sr.mk U M) left).s.U)/\((mZ J tn an c (aI J (Sr.mk U M) (6:Int))).M)=((bZ J tn an aj.toNat c (Sr.mk U M) left).s.M)))/\True)))))/\((eh J (Sr.mk U M) (6:Int))=false ->
 (∃ u1:Unit,(rP J aj left (Sr.mk U M)/\((True/\(c=c/\(aj=aj/\(True/\True))))/\((True/\(tn=tn/\(an=an/\((left - (1:Int))=(left - 1)/\True))))/\((J=J/\(((aI J (Sr.mk U M) (6:Int)).U)=((aI J (Sr.mk U M) 6).U)/\(((aI J (Sr.mk U M) (6:Int)).M)=((aI J (Sr.mk U M) 6).M)/\True)))/\(((0:Int)=(0:Int)/\((0:Int)=(0:Int)/\(True/\True)))/\True)))))))))
abbrev qW(c:Bool)(aj:Int)(tn:Int)(an:Int)(left:Int)(J:List Int)(U:Int)(M:Int):Prop:=((true=true ->
 ((bz J (Sr.mk U M) 990000000/\(0<=tn/\tn<=3)/\0<=an/\an<=4)/\((aC (xr J tn an c (Sr.mk U M)))=((bZ J tn an aj.toNat c (Sr.mk U M) left).e)/\((tn=tn/\(an=an/\(left - (1:Int))=((bZ J tn an aj.toNat c (Sr.mk U M) left).left)))/\((J=J/\(((mZ J tn an c (Sr.mk U M)).U)=((bZ J tn an aj.toNat c (Sr.mk U M) left).s.U)/\((mZ J tn an c (Sr.mk U M)).M)=((bZ J tn an aj.toNat c (Sr.mk U M) left).s.M)))/\True)))))/\(true=false ->
 (∃ u1:Unit,(rP J aj left (Sr.mk U M)/\((True/\(c=c/\(aj=aj/\(True/\True))))/\((True/\(tn=tn/\(an=an/\((left - (1:Int))=(left - 1)/\True))))/\((J=J/\(U=((aI J (Sr.mk U M) 6).U)/\(M=((aI J (Sr.mk U M) 6).M)/\True)))/\(((0:Int)=(0:Int)/\((0:Int)=(0:Int)/\(True/\True)))/\True))))))))
abbrev lR(n:Nat)(c:Bool)(aj:Int)(tn:Int)(an:Int)(left:Int)(J:List Int)(U:Int)(M:Int):Prop:=(ag (aj - (1:Int))/\(((aj - (1:Int)).toNat<n/\bz J (aI J (aI J (Sr.mk U M) 6) (10:Int)) (980000000 - 16 * (wG (aj - (1:Int)).toNat:Int))/\(0<=tn/\tn<=3)/\(0<=an/\an<=4)/\(aj - (1:Int))<=10 /\ -1000000+(wG (aj - (1:Int)).toNat:Int)<=(left - 1)/\(left - 1)<=1000000)/\((O.mk (5:Int) (0:Int) ([(aC ((bZ J tn an (aj - (1:Int)).toNat true (aI J (aI J (Sr.mk U M) 6) (10:Int)) (left - 1)).e))]))=((bZ J tn an aj.toNat c (Sr.mk U M) left).e)/\((tn=tn/\(an=an/\((bZ J tn an (aj - (1:Int)).toNat true (aI J (aI J (Sr.mk U M) 6) (10:Int)) (left - 1)).left)=((bZ J tn an aj.toNat c (Sr.mk U M) left).left)))/\((J=J/\(((bZ J tn an (aj - (1:Int)).toNat true (aI J (aI J (Sr.mk U M) 6) (10:Int)) (left - 1)).s.U)=((bZ J tn an aj.toNat c (Sr.mk U M) left).s.U)/\((bZ J tn an (aj - (1:Int)).toNat true (aI J (aI J (Sr.mk U M) 6) (10:Int)) (left - 1)).s.M)=((bZ J tn an aj.toNat c (Sr.mk U M) left).s.M)))/\True)))))
abbrev lS(n:Nat)(c:Bool)(aj:Int)(tn:Int)(an:Int)(left:Int)(J:List Int)(U:Int)(M:Int):Prop:=(((decide ((pk J (aI J (Sr.mk U M) 6) (10:Int))<(4:Int)))=true ->
 (ag (aj - (1:Int))/\(((aj - (1:Int)).toNat<n/\bz J (aI J (aI J (Sr.mk U M) 6) (10:Int)) (980000000 - 16 * (wG (aj - (1:Int)).toNat:Int))/\(0<=tn/\tn<=3)/\(0<=an/\an<=4)/\(aj - (1:Int))<=10 /\ -1000000+(wG (aj - (1:Int)).toNat:Int)<=(left - 1)/\(left - 1)<=1000000)/\((O.mk (8:Int) (0:Int) ([(aC ((bZ J tn an (aj - (1:Int)).toNat false (aI J (aI J (Sr.mk U M) 6) (10:Int)) (left - 1)).e))]))=((bZ J tn an aj.toNat c (Sr.mk U M) left).e)/\((tn=tn/\(an=an/\((bZ J tn an (aj - (1:Int)).toNat false (aI J (aI J (Sr.mk U M) 6) (10:Int)) (left - 1)).left)=((bZ J tn an aj.toNat c (Sr.mk U M) left).left)))/\((J=J/\(((bZ J tn an (aj - (1:Int)).toNat false (aI J (aI J (Sr.mk U M) 6) (10:Int)) (left - 1)).s.U)=((bZ J tn an aj.toNat c (Sr.mk U M) left).s.U)/\((bZ J tn an (aj - (1:Int)).toNat false (aI J (aI J (Sr.mk U M) 6) (10:Int)) (left - 1)).s.M)=((bZ J tn an aj.toNat c (Sr.mk U M) left).s.M)))/\True))))))/\((decide ((pk J (aI J (Sr.mk U M) 6) (10:Int))<(4:Int)))=false ->
 (∃ u2:Unit,((rP J aj left (Sr.mk U M)/\¬ lE J (Sr.mk U M)<4)/\((True/\(c=c/\(aj=aj/\(True/\((pk J (aI J (Sr.mk U M) 6) (10:Int))=(lE J (Sr.mk U M))/\True)))))/\((True/\(tn=tn/\(an=an/\((left - 1)=(left - 1)/\True))))/\((J=J/\(((aI J (aI J (Sr.mk U M) 6) (10:Int)).U)=((ej J (Sr.mk U M)).U)/\(((aI J (aI J (Sr.mk U M) 6) (10:Int)).M)=((ej J (Sr.mk U M)).M)/\True)))/\(((0:Int)=(0:Int)/\((0:Int)=(0:Int)/\(True/\True)))/\True))))))))
abbrev qX(tn:Int)(an:Int)(left:Int)(J:List Int)(U:Int)(M:Int):Prop:=((True/\(tn=tn/\(an=an/\((left - 1)=(left - 1)/\True))))/\((J=J/\(((ej J (Sr.mk U M)).U)=((ej J (Sr.mk U M)).U)/\(((ej J (Sr.mk U M)).M)=((ej J (Sr.mk U M)).M)/\True)))/\(((0:Int)=(0:Int)/\((0:Int)=(0:Int)/\(True/\True)))/\True)))
abbrev qY(c:Bool)(aj:Int)(tn:Int)(an:Int)(left:Int)(J:List Int)(U:Int)(M:Int):Prop:=((((cg J tn an aj left c (Sr.mk U M)).e.ah)=((cg J tn an aj left c (Sr.mk U M)).e.ah)/\(((cg J tn an aj left c (Sr.mk U M)).e.bc)=((cg J tn an aj left c (Sr.mk U M)).e.bc)/\(True/\True)))/\(((cg J tn an aj left c (Sr.mk U M)).e.V)=((cg J tn an aj left c (Sr.mk U M)).e.V)/\(((0:Int)=(0:Int)/\((0:Int)=(0:Int)/\(True/\True)))/\True)))
theorem Bt(n:Nat)(c:Bool)(aj:Int)(tn:Int)(an:Int)(left:Int)(J:List Int)(U:Int)(M:Int):cU (dj [] [lp] [] [36,55,56,64,65,80,92,96] [] [] [] [cI,bh,gp,fG n]) (aF eZ) (tp c aj tn an left J U M) 0 (gS (dj [] [lp] [] [36,55,56,64,65,80,92,96] [] [] [] [cI,bh,gp,fG n]) eZ [[.p 1, .d (.int .i64), .d (.int .i64), .d (.int .i64)],[.d (.slice (.int .u8)), .d (.int .i64), .d (.int .u64)]] λ r ds=>bH r [⟨(.st .expr),(bZ J tn an aj.toNat c (Sr.mk U M) left).e⟩]/\jv ds [[⟨(.int .i64),tn⟩,⟨(.int .i64),an⟩,⟨(.int .i64),(bZ J tn an aj.toNat c (Sr.mk U M) left).left⟩],[⟨(.slice (.int .u8)),J⟩,⟨(.int .i64),(bZ J tn an aj.toNat c (Sr.mk U M) left).s.U⟩,⟨(.int .u64),(bZ J tn an aj.toNat c (Sr.mk U M) left).s.M⟩]]) (cB eZ [.box 0, .val ⟨.bool,c⟩, .val ⟨(.int .i64),aj⟩] [[.p 1, .d (.int .i64), .d (.int .i64), .d (.int .i64)],[.d (.slice (.int .u8)), .d (.int .i64), .d (.int .u64)]] [[⟨(.int .i64),tn⟩,⟨(.int .i64),an⟩,⟨(.int .i64),left⟩],[⟨(.slice (.int .u8)),J⟩,⟨(.int .i64),U⟩,⟨(.int .u64),M⟩]]) =
 ((ag left ->
 (ag (left - (1:Int))/\((ag (left - (1:Int)) ->
 (((decide ((left - (1:Int))<(1:Int)))=false ->
 (((decide (aj<(1:Int)))=false ->
 (qV c aj tn an left J U M))/\((decide (aj<(1:Int)))=(!false) ->
 (qW c aj tn an left J U M))))/\((decide ((left - (1:Int))<(1:Int)))=(!false) ->
 ((true=false ->
 (qV c aj tn an left J U M))/\(true=(!false) ->
 (qW c aj tn an left J U M))))))/\(∀ u1:Unit,(rP J aj left (Sr.mk U M) ->
 ((bz J (aI J (Sr.mk U M) 6) 999999000/\(10:Int)<=1000000)/\((((decide ((pk J (aI J (Sr.mk U M) 6) (10:Int))=(0:Int)))=false ->
 ((c=true ->
 (((decide ((pk J (aI J (Sr.mk U M) 6) (10:Int))<(4:Int)))=true ->
 (lR n c aj tn an left J U M))/\((decide ((pk J (aI J (Sr.mk U M) 6) (10:Int))<(4:Int)))=false ->
 (lS n c aj tn an left J U M))))/\(c=(!true) ->
 ((false=true ->
 (lR n c aj tn an left J U M))/\(false=false ->
 (lS n c aj tn an left J U M))))))/\((decide ((pk J (aI J (Sr.mk U M) 6) (10:Int))=(0:Int)))=(!false) ->
 ((true=true ->
 (lR n c aj tn an left J U M))/\(true=false ->
 (lS n c aj tn an left J U M)))))/\(∀ u2:Unit,((rP J aj left (Sr.mk U M)/\¬ lE J (Sr.mk U M)<4) ->
 ((((decide ((lE J (Sr.mk U M))<(6:Int)))=true ->
 (∃ u3:Unit,((rP J aj left (Sr.mk U M)/\¬ lE J (Sr.mk U M)<4)/\((True/\(c=c/\(aj=aj/\(True/\((6:Int)=(G8 J (Sr.mk U M))/\True)))))/\(qX tn an left J U M)))))/\((decide ((lE J (Sr.mk U M))<(6:Int)))=false ->
 (∃ u3:Unit,((rP J aj left (Sr.mk U M)/\¬ lE J (Sr.mk U M)<4)/\((True/\(c=c/\(aj=aj/\(True/\((7:Int)=(G8 J (Sr.mk U M))/\True)))))/\(qX tn an left J U M))))))/\(∀ u3:Unit,((rP J aj left (Sr.mk U M)/\¬ lE J (Sr.mk U M)<4) ->
 (((c=false ->
 ((bz J (ej J (Sr.mk U M)) 999999000/\(5:Int)<=1000000)/\(ag (aj - (1:Int))/\(((aj - (1:Int)).toNat<n/\bz J (aI J (ej J (Sr.mk U M)) (5:Int)) (980000000 - 16 * (wG (aj - (1:Int)).toNat:Int))/\(0<=tn/\tn<=3)/\(0<=an/\an<=4)/\(aj - (1:Int))<=10 /\ -1000000+(wG (aj - (1:Int)).toNat:Int)<=(left - 1)/\(left - 1)<=1000000)/\(∃ u4:Unit,((rP J aj left (Sr.mk U M)/\¬ lE J (Sr.mk U M)<4)/\((True/\(c=c/\(aj=aj/\(True/\((G8 J (Sr.mk U M))=(G8 J (Sr.mk U M))/\(True/\True))))))/\((True/\(tn=tn/\(an=an/\(((bZ J tn an (aj - (1:Int)).toNat (eh J (ej J (Sr.mk U M)) (5:Int)) (aI J (ej J (Sr.mk U M)) (5:Int)) (left - 1)).left)=((cg J tn an aj left c (Sr.mk U M)).left)/\True))))/\((J=J/\(((bZ J tn an (aj - (1:Int)).toNat (eh J (ej J (Sr.mk U M)) (5:Int)) (aI J (ej J (Sr.mk U M)) (5:Int)) (left - 1)).s.U)=((cg J tn an aj left c (Sr.mk U M)).s.U)/\(((bZ J tn an (aj - (1:Int)).toNat (eh J (ej J (Sr.mk U M)) (5:Int)) (aI J (ej J (Sr.mk U M)) (5:Int)) (left - 1)).s.M)=((cg J tn an aj left c (Sr.mk U M)).s.M)/\True)))/\((((bZ J tn an (aj - (1:Int)).toNat (eh J (ej J (Sr.mk U M)) (5:Int)) (aI J (ej J (Sr.mk U M)) (5:Int)) (left - 1)).e).ah=((cg J tn an aj left c (Sr.mk U M)).e.ah)/\(((bZ J tn an (aj - (1:Int)).toNat (eh J (ej J (Sr.mk U M)) (5:Int)) (aI J (ej J (Sr.mk U M)) (5:Int)) (left - 1)).e).bc=((cg J tn an aj left c (Sr.mk U M)).e.bc)/\(True/\True)))/\(((bZ J tn an (aj - (1:Int)).toNat (eh J (ej J (Sr.mk U M)) (5:Int)) (aI J (ej J (Sr.mk U M)) (5:Int)) (left - 1)).e).V=((cg J tn an aj left c (Sr.mk U M)).e.V)/\(((0:Int)=(0:Int)/\((0:Int)=(0:Int)/\(True/\True)))/\True))))))))))))/\(c=(!false) ->
 (ag (aj - (1:Int))/\(((aj - (1:Int)).toNat<n/\bz J (ej J (Sr.mk U M)) (980000000 - 16 * (wG (aj - (1:Int)).toNat:Int))/\(0<=tn/\tn<=3)/\(0<=an/\an<=4)/\(aj - (1:Int))<=10 /\ -1000000+(wG (aj - (1:Int)).toNat:Int)<=(left - 1)/\(left - 1)<=1000000)/\(∃ u4:Unit,((rP J aj left (Sr.mk U M)/\¬ lE J (Sr.mk U M)<4)/\((True/\(c=c/\(aj=aj/\(True/\((G8 J (Sr.mk U M))=(G8 J (Sr.mk U M))/\(True/\True))))))/\((True/\(tn=tn/\(an=an/\(((bZ J tn an (aj - (1:Int)).toNat true (ej J (Sr.mk U M)) (left - 1)).left)=((cg J tn an aj left c (Sr.mk U M)).left)/\True))))/\((J=J/\(((bZ J tn an (aj - (1:Int)).toNat true (ej J (Sr.mk U M)) (left - 1)).s.U)=((cg J tn an aj left c (Sr.mk U M)).s.U)/\(((bZ J tn an (aj - (1:Int)).toNat true (ej J (Sr.mk U M)) (left - 1)).s.M)=((cg J tn an aj left c (Sr.mk U M)).s.M)/\True)))/\((((bZ J tn an (aj - (1:Int)).toNat true (ej J (Sr.mk U M)) (left - 1)).e).ah=((cg J tn an aj left c (Sr.mk U M)).e.ah)/\(((bZ J tn an (aj - (1:Int)).toNat true (ej J (Sr.mk U M)) (left - 1)).e).bc=((cg J tn an aj left c (Sr.mk U M)).e.bc)/\(True/\True)))/\(((bZ J tn an (aj - (1:Int)).toNat true (ej J (Sr.mk U M)) (left - 1)).e).V=((cg J tn an aj left c (Sr.mk U M)).e.V)/\(((0:Int)=(0:Int)/\((0:Int)=(0:Int)/\(True/\True)))/\True))))))))))))/\(∀ u4:Unit,((rP J aj left (Sr.mk U M)/\¬ lE J (Sr.mk U M)<4) ->
 (((c=false ->
 ((bz J (Sr.mk ((cg J tn an aj left c (Sr.mk U M)).s.U) ((cg J tn an aj left c (Sr.mk U M)).s.M)) 999999000/\(6:Int)<=1000000)/\(ag (aj - (1:Int))/\(((aj - (1:Int)).toNat<n/\bz J (aI J (Sr.mk ((cg J tn an aj left c (Sr.mk U M)).s.U) ((cg J tn an aj left c (Sr.mk U M)).s.M)) (6:Int)) (980000000 - 16 * (wG (aj - (1:Int)).toNat:Int))/\(0<=tn/\tn<=3)/\(0<=an/\an<=4)/\(aj - (1:Int))<=10 /\ -1000000+(wG (aj - (1:Int)).toNat:Int)<=((cg J tn an aj left c (Sr.mk U M)).left)/\((cg J tn an aj left c (Sr.mk U M)).left)<=1000000)/\(∃ u5:Unit,((rP J aj left (Sr.mk U M)/\¬ lE J (Sr.mk U M)<4)/\((True/\((G8 J (Sr.mk U M))=(G8 J (Sr.mk U M))/\(True/\(True/\True))))/\((True/\(tn=tn/\(an=an/\(((bZ J tn an (aj - (1:Int)).toNat (eh J (Sr.mk ((cg J tn an aj left c (Sr.mk U M)).s.U) ((cg J tn an aj left c (Sr.mk U M)).s.M)) (6:Int)) (aI J (Sr.mk ((cg J tn an aj left c (Sr.mk U M)).s.U) ((cg J tn an aj left c (Sr.mk U M)).s.M)) (6:Int)) ((cg J tn an aj left c (Sr.mk U M)).left)).left)=((rT J tn an aj c (cg J tn an aj left c (Sr.mk U M))).left)/\True))))/\((J=J/\(((bZ J tn an (aj - (1:Int)).toNat (eh J (Sr.mk ((cg J tn an aj left c (Sr.mk U M)).s.U) ((cg J tn an aj left c (Sr.mk U M)).s.M)) (6:Int)) (aI J (Sr.mk ((cg J tn an aj left c (Sr.mk U M)).s.U) ((cg J tn an aj left c (Sr.mk U M)).s.M)) (6:Int)) ((cg J tn an aj left c (Sr.mk U M)).left)).s.U)=((rT J tn an aj c (cg J tn an aj left c (Sr.mk U M))).s.U)/\(((bZ J tn an (aj - (1:Int)).toNat (eh J (Sr.mk ((cg J tn an aj left c (Sr.mk U M)).s.U) ((cg J tn an aj left c (Sr.mk U M)).s.M)) (6:Int)) (aI J (Sr.mk ((cg J tn an aj left c (Sr.mk U M)).s.U) ((cg J tn an aj left c (Sr.mk U M)).s.M)) (6:Int)) ((cg J tn an aj left c (Sr.mk U M)).left)).s.M)=((rT J tn an aj c (cg J tn an aj left c (Sr.mk U M))).s.M)/\True)))/\((((bZ J tn an (aj - (1:Int)).toNat (eh J (Sr.mk ((cg J tn an aj left c (Sr.mk U M)).s.U) ((cg J tn an aj left c (Sr.mk U M)).s.M)) (6:Int)) (aI J (Sr.mk ((cg J tn an aj left c (Sr.mk U M)).s.U) ((cg J tn an aj left c (Sr.mk U M)).s.M)) (6:Int)) ((cg J tn an aj left c (Sr.mk U M)).left)).e).ah=((rT J tn an aj c (cg J tn an aj left c (Sr.mk U M))).e.ah)/\(((bZ J tn an (aj - (1:Int)).toNat (eh J (Sr.mk ((cg J tn an aj left c (Sr.mk U M)).s.U) ((cg J tn an aj left c (Sr.mk U M)).s.M)) (6:Int)) (aI J (Sr.mk ((cg J tn an aj left c (Sr.mk U M)).s.U) ((cg J tn an aj left c (Sr.mk U M)).s.M)) (6:Int)) ((cg J tn an aj left c (Sr.mk U M)).left)).e).bc=((rT J tn an aj c (cg J tn an aj left c (Sr.mk U M))).e.bc)/\(True/\True)))/\(((bZ J tn an (aj - (1:Int)).toNat (eh J (Sr.mk ((cg J tn an aj left c (Sr.mk U M)).s.U) ((cg J tn an aj left c (Sr.mk U M)).s.M)) (6:Int)) (aI J (Sr.mk ((cg J tn an aj left c (Sr.mk U M)).s.U) ((cg J tn an aj left c (Sr.mk U M)).s.M)) (6:Int)) ((cg J tn an aj left c (Sr.mk U M)).left)).e).V=((rT J tn an aj c (cg J tn an aj left c (Sr.mk U M))).e.V)/\(qY c aj tn an left J U M))))))))))))/\(c=(!false) ->
 (ag (aj - (1:Int))/\(((aj - (1:Int)).toNat<n/\bz J (Sr.mk ((cg J tn an aj left c (Sr.mk U M)).s.U) ((cg J tn an aj left c (Sr.mk U M)).s.M)) (980000000 - 16 * (wG (aj - (1:Int)).toNat:Int))/\(0<=tn/\tn<=3)/\(0<=an/\an<=4)/\(aj - (1:Int))<=10 /\ -1000000+(wG (aj - (1:Int)).toNat:Int)<=((cg J tn an aj left c (Sr.mk U M)).left)/\((cg J tn an aj left c (Sr.mk U M)).left)<=1000000)/\(∃ u5:Unit,((rP J aj left (Sr.mk U M)/\¬ lE J (Sr.mk U M)<4)/\((True/\((G8 J (Sr.mk U M))=(G8 J (Sr.mk U M))/\(True/\(True/\True))))/\((True/\(tn=tn/\(an=an/\(((bZ J tn an (aj - (1:Int)).toNat true (Sr.mk ((cg J tn an aj left c (Sr.mk U M)).s.U) ((cg J tn an aj left c (Sr.mk U M)).s.M)) ((cg J tn an aj left c (Sr.mk U M)).left)).left)=((rT J tn an aj c (cg J tn an aj left c (Sr.mk U M))).left)/\True))))/\((J=J/\(((bZ J tn an (aj - (1:Int)).toNat true (Sr.mk ((cg J tn an aj left c (Sr.mk U M)).s.U) ((cg J tn an aj left c (Sr.mk U M)).s.M)) ((cg J tn an aj left c (Sr.mk U M)).left)).s.U)=((rT J tn an aj c (cg J tn an aj left c (Sr.mk U M))).s.U)/\(((bZ J tn an (aj - (1:Int)).toNat true (Sr.mk ((cg J tn an aj left c (Sr.mk U M)).s.U) ((cg J tn an aj left c (Sr.mk U M)).s.M)) ((cg J tn an aj left c (Sr.mk U M)).left)).s.M)=((rT J tn an aj c (cg J tn an aj left c (Sr.mk U M))).s.M)/\True)))/\((((bZ J tn an (aj - (1:Int)).toNat true (Sr.mk ((cg J tn an aj left c (Sr.mk U M)).s.U) ((cg J tn an aj left c (Sr.mk U M)).s.M)) ((cg J tn an aj left c (Sr.mk U M)).left)).e).ah=((rT J tn an aj c (cg J tn an aj left c (Sr.mk U M))).e.ah)/\(((bZ J tn an (aj - (1:Int)).toNat true (Sr.mk ((cg J tn an aj left c (Sr.mk U M)).s.U) ((cg J tn an aj left c (Sr.mk U M)).s.M)) ((cg J tn an aj left c (Sr.mk U M)).left)).e).bc=((rT J tn an aj c (cg J tn an aj left c (Sr.mk U M))).e.bc)/\(True/\True)))/\(((bZ J tn an (aj - (1:Int)).toNat true (Sr.mk ((cg J tn an aj left c (Sr.mk U M)).s.U) ((cg J tn an aj left c (Sr.mk U M)).s.M)) ((cg J tn an aj left c (Sr.mk U M)).left)).e).V=((rT J tn an aj c (cg J tn an aj left c (Sr.mk U M))).e.V)/\(qY c aj tn an left J U M))))))))))))/\(∀ u5:Unit,((rP J aj left (Sr.mk U M)/\¬ lE J (Sr.mk U M)<4) ->
 ((aC (O.mk (G8 J (Sr.mk U M)) 0 [(O.mk ((cg J tn an aj left c (Sr.mk U M)).e.ah) ((cg J tn an aj left c (Sr.mk U M)).e.bc) ((cg J tn an aj left c (Sr.mk U M)).e.V)),(O.mk ((rT J tn an aj c (cg J tn an aj left c (Sr.mk U M))).e.ah) ((rT J tn an aj c (cg J tn an aj left c (Sr.mk U M))).e.bc) ((rT J tn an aj c (cg J tn an aj left c (Sr.mk U M))).e.V))]))=((bZ J tn an aj.toNat c (Sr.mk U M) left).e)/\((tn=tn/\(an=an/\((rT J tn an aj c (cg J tn an aj left c (Sr.mk U M))).left)=((bZ J tn an aj.toNat c (Sr.mk U M) left).left)))/\((J=J/\(((rT J tn an aj c (cg J tn an aj left c (Sr.mk U M))).s.U)=((bZ J tn an aj.toNat c (Sr.mk U M) left).s.U)/\((rT J tn an aj c (cg J tn an aj left c (Sr.mk U M))).s.M)=((bZ J tn an aj.toNat c (Sr.mk U M) left).s.M)))/\True)))))))))))))))))))))):=by kernel_rfl
theorem Bi(n:Nat)(hE:aQ [])(hO:iE [lp])(hM:iS [])(hS:gU [cI,bh,gp,fG n]):fY.Good (fG (n+1)):=by
 refine⟨aG jz rfl (by decide),?_⟩
 show ∀ (c:Bool) (aj:Int) (tn:Int) (an:Int) (left:Int) (J:List Int) (U:Int) (M:Int),(aj.toNat<n+1/\bz J (Sr.mk U M) (980000000 - 16 * (wG aj.toNat:Int))/\(0<=tn/\tn<=3)/\(0<=an/\an<=4)/\aj<=10 /\ -1000000+(wG aj.toNat:Int)<=left/\left<=1000000)->p7 prog kj [[.p 1, .d (.int .i64), .d (.int .i64), .d (.int .i64)],[.d (.slice (.int .u8)), .d (.int .i64), .d (.int .u64)]] [.box 0, .val ⟨.bool,c⟩, .val ⟨(.int .i64),aj⟩] [[⟨(.int .i64),tn⟩,⟨(.int .i64),an⟩,⟨(.int .i64),left⟩],[⟨(.slice (.int .u8)),J⟩,⟨(.int .i64),U⟩,⟨(.int .u64),M⟩]] [⟨(.st .expr),(bZ J tn an aj.toNat c (Sr.mk U M) left).e⟩] [[⟨(.int .i64),tn⟩,⟨(.int .i64),an⟩,⟨(.int .i64),(bZ J tn an aj.toNat c (Sr.mk U M) left).left⟩],[⟨(.slice (.int .u8)),J⟩,⟨(.int .i64),(bZ J tn an aj.toNat c (Sr.mk U M) left).s.U⟩,⟨(.int .u64),(bZ J tn an aj.toNat c (Sr.mk U M) left).s.M⟩]]
 intro c aj tn an left J U M hp
 refine eN (own:=[36,55,56,64,65,80,92,96]) (wr:=[]) (cl:=[]) (ro:=[]) hE hO hM hS jz zj (tp c aj tn an left J U M) rfl rfl ?_
 rewrite [Bt n c aj tn an left J U M]
 obtain⟨bF,hs,ht,ha,a5x,hl0,Sc⟩:=hp
 have hw:=IE aj.toNat
 have hwd:=Oe aj
 have BT:=λ hd=>a1V J aj left (Sr.mk U M) hd hs hl0 Sc
 have zB:=λ hd=>a1W J tn an aj left c (Sr.mk U M) hd hs hl0 Sc ht ha
 refine λ a0=>⟨?_,⟨λ a1=>⟨λ a2=>⟨λ a3=>⟨?_,⟨λ a4=>⟨?_,⟨?_,⟨⟨rfl,⟨rfl,?_⟩⟩,⟨⟨rfl,⟨?_,?_⟩⟩,trivial⟩⟩⟩⟩,λ a4=>⟨(),⟨?_,⟨⟨trivial,⟨rfl,⟨rfl,⟨trivial,trivial⟩⟩⟩⟩,⟨⟨trivial,⟨rfl,⟨rfl,⟨?_,trivial⟩⟩⟩⟩,⟨⟨rfl,⟨?_,⟨?_,trivial⟩⟩⟩,⟨⟨rfl,⟨rfl,⟨trivial,trivial⟩⟩⟩,trivial⟩⟩⟩⟩⟩⟩⟩⟩,λ a3=>⟨λ a4=>⟨?_,⟨?_,⟨⟨rfl,⟨rfl,?_⟩⟩,⟨⟨rfl,⟨?_,?_⟩⟩,trivial⟩⟩⟩⟩,λ a4=>⟨(),⟨?_,⟨⟨trivial,⟨rfl,⟨rfl,⟨trivial,trivial⟩⟩⟩⟩,⟨⟨trivial,⟨rfl,⟨rfl,⟨?_,trivial⟩⟩⟩⟩,⟨⟨rfl,⟨?_,⟨?_,trivial⟩⟩⟩,⟨⟨rfl,⟨rfl,⟨trivial,trivial⟩⟩⟩,trivial⟩⟩⟩⟩⟩⟩⟩⟩,λ a2=>⟨λ a3=>⟨?_,⟨λ a4=>⟨?_,⟨?_,⟨⟨rfl,⟨rfl,?_⟩⟩,⟨⟨rfl,⟨?_,?_⟩⟩,trivial⟩⟩⟩⟩,λ a4=>⟨(),⟨?_,⟨⟨trivial,⟨rfl,⟨rfl,⟨trivial,trivial⟩⟩⟩⟩,⟨⟨trivial,⟨rfl,⟨rfl,⟨?_,trivial⟩⟩⟩⟩,⟨⟨rfl,⟨?_,⟨?_,trivial⟩⟩⟩,⟨⟨rfl,⟨rfl,⟨trivial,trivial⟩⟩⟩,trivial⟩⟩⟩⟩⟩⟩⟩⟩,λ a3=>⟨λ a4=>⟨?_,⟨?_,⟨⟨rfl,⟨rfl,?_⟩⟩,⟨⟨rfl,⟨?_,?_⟩⟩,trivial⟩⟩⟩⟩,λ a4=>⟨(),⟨?_,⟨⟨trivial,⟨rfl,⟨rfl,⟨trivial,trivial⟩⟩⟩⟩,⟨⟨trivial,⟨rfl,⟨rfl,⟨?_,trivial⟩⟩⟩⟩,⟨⟨rfl,⟨?_,⟨?_,trivial⟩⟩⟩,⟨⟨rfl,⟨rfl,⟨trivial,trivial⟩⟩⟩,trivial⟩⟩⟩⟩⟩⟩⟩⟩⟩,λ u1 a1=>have a2Y:=a1.d;have a2Z:=hwd a1.d;have a3a:=BT a1.d;have a3b:=(BT a1.d).l0;have a5m:=(BT a1.d).l1;⟨?_,⟨⟨λ a2=>⟨λ a3=>⟨λ a4=>⟨?_,⟨?_,⟨?_,⟨⟨rfl,⟨rfl,?_⟩⟩,⟨⟨rfl,⟨?_,?_⟩⟩,trivial⟩⟩⟩⟩⟩,λ a4=>⟨λ a5=>⟨?_,⟨?_,⟨?_,⟨⟨rfl,⟨rfl,?_⟩⟩,⟨⟨rfl,⟨?_,?_⟩⟩,trivial⟩⟩⟩⟩⟩,λ a5=>⟨(),⟨?_,⟨⟨trivial,⟨rfl,⟨rfl,⟨trivial,⟨?_,trivial⟩⟩⟩⟩⟩,⟨⟨trivial,⟨rfl,⟨rfl,⟨rfl,trivial⟩⟩⟩⟩,⟨⟨rfl,⟨?_,⟨?_,trivial⟩⟩⟩,⟨⟨rfl,⟨rfl,⟨trivial,trivial⟩⟩⟩,trivial⟩⟩⟩⟩⟩⟩⟩⟩,λ a3=>⟨λ a4=>⟨?_,⟨?_,⟨?_,⟨⟨rfl,⟨rfl,?_⟩⟩,⟨⟨rfl,⟨?_,?_⟩⟩,trivial⟩⟩⟩⟩⟩,λ a4=>⟨λ a5=>⟨?_,⟨?_,⟨?_,⟨⟨rfl,⟨rfl,?_⟩⟩,⟨⟨rfl,⟨?_,?_⟩⟩,trivial⟩⟩⟩⟩⟩,λ a5=>⟨(),⟨?_,⟨⟨trivial,⟨rfl,⟨rfl,⟨trivial,⟨?_,trivial⟩⟩⟩⟩⟩,⟨⟨trivial,⟨rfl,⟨rfl,⟨rfl,trivial⟩⟩⟩⟩,⟨⟨rfl,⟨?_,⟨?_,trivial⟩⟩⟩,⟨⟨rfl,⟨rfl,⟨trivial,trivial⟩⟩⟩,trivial⟩⟩⟩⟩⟩⟩⟩⟩⟩,λ a2=>⟨λ a3=>⟨?_,⟨?_,⟨?_,⟨⟨rfl,⟨rfl,?_⟩⟩,⟨⟨rfl,⟨?_,?_⟩⟩,trivial⟩⟩⟩⟩⟩,λ a3=>⟨λ a4=>⟨?_,⟨?_,⟨?_,⟨⟨rfl,⟨rfl,?_⟩⟩,⟨⟨rfl,⟨?_,?_⟩⟩,trivial⟩⟩⟩⟩⟩,λ a4=>⟨(),⟨?_,⟨⟨trivial,⟨rfl,⟨rfl,⟨trivial,⟨?_,trivial⟩⟩⟩⟩⟩,⟨⟨trivial,⟨rfl,⟨rfl,⟨rfl,trivial⟩⟩⟩⟩,⟨⟨rfl,⟨?_,⟨?_,trivial⟩⟩⟩,⟨⟨rfl,⟨rfl,⟨trivial,trivial⟩⟩⟩,trivial⟩⟩⟩⟩⟩⟩⟩⟩⟩,λ u2=>λ a2=>⟨⟨λ a3=>⟨(),⟨?_,⟨⟨trivial,⟨rfl,⟨rfl,⟨trivial,⟨?_,trivial⟩⟩⟩⟩⟩,⟨⟨trivial,⟨rfl,⟨rfl,⟨rfl,trivial⟩⟩⟩⟩,⟨⟨rfl,⟨rfl,⟨rfl,trivial⟩⟩⟩,⟨⟨rfl,⟨rfl,⟨trivial,trivial⟩⟩⟩,trivial⟩⟩⟩⟩⟩⟩,λ a3=>⟨(),⟨?_,⟨⟨trivial,⟨rfl,⟨rfl,⟨trivial,⟨?_,trivial⟩⟩⟩⟩⟩,⟨⟨trivial,⟨rfl,⟨rfl,⟨rfl,trivial⟩⟩⟩⟩,⟨⟨rfl,⟨rfl,⟨rfl,trivial⟩⟩⟩,⟨⟨rfl,⟨rfl,⟨trivial,trivial⟩⟩⟩,trivial⟩⟩⟩⟩⟩⟩⟩,λ u3=>λ a3=>⟨⟨λ a4=>⟨?_,⟨?_,⟨?_,⟨(),⟨?_,⟨⟨trivial,⟨rfl,⟨rfl,⟨trivial,⟨rfl,⟨trivial,trivial⟩⟩⟩⟩⟩⟩,⟨⟨trivial,⟨rfl,⟨rfl,⟨?_,trivial⟩⟩⟩⟩,⟨⟨rfl,⟨?_,⟨?_,trivial⟩⟩⟩,⟨⟨?_,⟨?_,⟨trivial,trivial⟩⟩⟩,⟨?_,⟨⟨rfl,⟨rfl,⟨trivial,trivial⟩⟩⟩,trivial⟩⟩⟩⟩⟩⟩⟩⟩⟩⟩⟩,λ a4=>⟨?_,⟨?_,⟨(),⟨?_,⟨⟨trivial,⟨rfl,⟨rfl,⟨trivial,⟨rfl,⟨trivial,trivial⟩⟩⟩⟩⟩⟩,⟨⟨trivial,⟨rfl,⟨rfl,⟨?_,trivial⟩⟩⟩⟩,⟨⟨rfl,⟨?_,⟨?_,trivial⟩⟩⟩,⟨⟨?_,⟨?_,⟨trivial,trivial⟩⟩⟩,⟨?_,⟨⟨rfl,⟨rfl,⟨trivial,trivial⟩⟩⟩,trivial⟩⟩⟩⟩⟩⟩⟩⟩⟩⟩⟩,λ u4 a4=>have a3e:=zB a4.1.d;have a3f:=(zB a4.1.d).l0;have a3g:=(zB a4.1.d).l1;⟨⟨λ a5=>⟨?_,⟨?_,⟨?_,⟨(),⟨?_,⟨⟨trivial,⟨rfl,⟨trivial,⟨trivial,trivial⟩⟩⟩⟩,⟨⟨trivial,⟨rfl,⟨rfl,⟨?_,trivial⟩⟩⟩⟩,⟨⟨rfl,⟨?_,⟨?_,trivial⟩⟩⟩,⟨⟨?_,⟨?_,⟨trivial,trivial⟩⟩⟩,⟨?_,⟨⟨rfl,⟨rfl,⟨trivial,trivial⟩⟩⟩,⟨rfl,⟨⟨rfl,⟨rfl,⟨trivial,trivial⟩⟩⟩,trivial⟩⟩⟩⟩⟩⟩⟩⟩⟩⟩⟩⟩⟩,λ a5=>⟨?_,⟨?_,⟨(),⟨?_,⟨⟨trivial,⟨rfl,⟨trivial,⟨trivial,trivial⟩⟩⟩⟩,⟨⟨trivial,⟨rfl,⟨rfl,⟨?_,trivial⟩⟩⟩⟩,⟨⟨rfl,⟨?_,⟨?_,trivial⟩⟩⟩,⟨⟨?_,⟨?_,⟨trivial,trivial⟩⟩⟩,⟨?_,⟨⟨rfl,⟨rfl,⟨trivial,trivial⟩⟩⟩,⟨rfl,⟨⟨rfl,⟨rfl,⟨trivial,trivial⟩⟩⟩,trivial⟩⟩⟩⟩⟩⟩⟩⟩⟩⟩⟩⟩⟩,λ u5=>λ a5=>⟨?_,⟨⟨rfl,⟨rfl,?_⟩⟩,⟨⟨rfl,⟨?_,?_⟩⟩,trivial⟩⟩⟩⟩⟩⟩⟩⟩⟩⟩
 all_goals try and_intros
 all_goals try simp only[O.eta,bE] at *
 all_goals (try simp only[yY,O.eta,decide_eq_true_eq,decide_eq_false_iff_not,Bool.not_true,Bool.not_false,ag] at *);first|rfl|trivial|omega|with_reducible assumption|exact hs.mono (by omega)|exact (hs.next _).mono (by omega)|exact rP.mk (by omega) (by omega) (by assumption)|exact bz.mono (Td.s (by assumption)) (by omega)|exact bz.mono (bz.next (Td.s (by assumption)) _) (by omega)|(rw[a1N J tn an aj left c _ (by omega)];rfl)|(rw[a1O J tn an aj left c _ (by omega) (by omega) (by assumption)];rfl)|(rw[a1P J tn an aj left c _ (by assumption) (by first|(left;assumption)|(right;exact⟨by assumption,by assumption⟩))];rfl)|(rw[a1Q J tn an aj left c _ (by assumption) (a2o (by assumption) (by assumption)) (by assumption)];rfl)|(rw[W1 J tn an aj left c _ (And.left (show rP J aj left (Sr.mk U M)/\¬ lE J (Sr.mk U M)<4 by assumption)) (And.right (show rP J aj left (Sr.mk U M)/\¬ lE J (Sr.mk U M)<4 by assumption))];rfl)|(unfold G8;first|rw[if_pos (by assumption)]|rw[if_neg (by assumption)])|(cases c<;>first|rfl|contradiction)|contradiction |(rw[W1 J tn an aj left c _ (And.left (show rP J aj left (Sr.mk U M)/\¬ lE J (Sr.mk U M)<4 by assumption)) (And.right (show rP J aj left (Sr.mk U M)/\¬ lE J (Sr.mk U M)<4 by assumption))])
theorem OP:∀ n,gU [fG n]
 | 0=>⟨⟨aG jz rfl (by decide),λ _ _ _ _ _ _ _ _ h=>absurd h.1 (a6D _)⟩,trivial⟩
 | n+1=>by
  have ih:=OP n
  exact⟨Bi n trivial ⟨DX,trivial⟩ trivial ⟨lY,dm,yU,ih.1,trivial⟩,trivial⟩
theorem yT:fY.Good jP :=
 ⟨aG jz rfl (by decide),λ c aj tn an left J U M hp=>(OP (aj.toNat+1)).1.2 c aj tn an left J U M (⟨a6c _,hp⟩)⟩
end
end Go.Proofs.YtnehkikdlnmebaaGreatDoor

namespace Go.Proofs
open Go.Shelf
def Tryz.HC:Go.Shelf.Ren:=⟨λ|169=>50|n=>n,λ|70=>87|9=>9|0=>0|72=>89|37=>22|127=>109|3=>3|5=>5|n=>n,λ|n=>n⟩
theorem Tryz.XW:Go.Proofs.Lays.n169 Tryz.prog Tryz.HC:={
 mixed:=by kernel_rfl
 f169:=Tryz.func50.trans (congrArg some (by kernel_rfl))
 t0:=Tryz.underlying0
 a0:=Tryz.isAgg0
 z0:=Tryz.sizeOf0
 v0:=Tryz.zeroValue0
 t3:=Tryz.underlying3
 a3:=Tryz.isAgg3
 z3:=Tryz.sizeOf3
 v3:=Tryz.zeroValue3
 t9:=Tryz.underlying9
 a9:=Tryz.isAgg9
 z9:=Tryz.sizeOf9
 v9:=Tryz.zeroValue9
 t37:=Tryz.underlying22
 a37:=Tryz.isAgg22
 z37:=Tryz.sizeOf22
 v37:=Tryz.zeroValue22
 t70:=Tryz.underlying87
 a70:=Tryz.isAgg87
 z70:=Tryz.sizeOf87
 v70:=Tryz.zeroValue87
 t72:=Tryz.underlying89
 a72:=Tryz.isAgg89
 z72:=Tryz.sizeOf89
 v72:=Tryz.zeroValue89
 t127:=Tryz.underlying109
 a127:=Tryz.isAgg109
 z127:=Tryz.sizeOf109
 v127:=Tryz.zeroValue109 }
theorem Tryz.EM:Builder.Extra Tryz.prog Tryz.HC:={
 sizeBuilder:=by kernel_rfl
 liesBuilder:=by kernel_rfl
 t5:=Tryz.underlying5
 a5:=Tryz.isAgg5
 z5:=Tryz.sizeOf5
 v5:=Tryz.zeroValue5
 infoByte:=by kernel_rfl
 cellsByte:=by kernel_rfl
 sizeByte:=by kernel_rfl
 neB5:=by decide }
open Go.RowKit in
theorem Tryz.Builder_String_any(B b:Nat)(l:List UInt8)(w:World)(h:Lib.IsBuilder 89 5 B b (Lib.byteCells l) w)(jV:B<=w.heap.size) :
  Calls Tryz.prog 50 #[.pointer (some ⟨b,0,none⟩)] w λ e w'=>e = .returned (.string ⟨l.toArray⟩)/\Below B w w':=Any.Builder_String_any Tryz.XW Tryz.EM B b l w h jV
def Tryz.QA:Go.Shelf.Ren:=⟨λ|246=>93|283=>102|284=>103|285=>104|286=>105|129=>109|317=>108|318=>110|319=>111|320=>112|337=>113|338=>114|n=>n,λ|2=>2|3=>3|9=>9|4=>4|171=>131|0=>0|53=>68|37=>22|5=>5|173=>134|212=>144|51=>140|20=>20|213=>145|46=>99|232=>149|233=>150|n=>n,λ|17=>3|18=>4|19=>5|n=>n⟩
theorem Tryz.XY:Go.Proofs.Lays.n246 Tryz.prog Tryz.QA:={
 mixed:=by kernel_rfl
 f129:=Tryz.func109.trans (congrArg some (by kernel_rfl))
 f246:=Tryz.func93.trans (congrArg some (by kernel_rfl))
 f283:=Tryz.func102.trans (congrArg some (by kernel_rfl))
 f284:=Tryz.func103.trans (congrArg some (by kernel_rfl))
 f285:=Tryz.func104.trans (congrArg some (by kernel_rfl))
 f286:=Tryz.func105.trans (congrArg some (by kernel_rfl))
 f317:=Tryz.func108.trans (congrArg some (by kernel_rfl))
 f318:=Tryz.func110.trans (congrArg some (by kernel_rfl))
 f319:=Tryz.func111.trans (congrArg some (by kernel_rfl))
 f320:=Tryz.func112.trans (congrArg some (by kernel_rfl))
 f337:=Tryz.func113.trans (congrArg some (by kernel_rfl))
 f338:=Tryz.func114.trans (congrArg some (by kernel_rfl))
 t0:=Tryz.underlying0
 a0:=Tryz.isAgg0
 z0:=Tryz.sizeOf0
 v0:=Tryz.zeroValue0
 t2:=Tryz.underlying2
 a2:=Tryz.isAgg2
 z2:=Tryz.sizeOf2
 v2:=Tryz.zeroValue2
 t3:=Tryz.underlying3
 a3:=Tryz.isAgg3
 z3:=Tryz.sizeOf3
 v3:=Tryz.zeroValue3
 t4:=Tryz.underlying4
 a4:=Tryz.isAgg4
 z4:=Tryz.sizeOf4
 v4:=Tryz.zeroValue4
 t5:=Tryz.underlying5
 a5:=Tryz.isAgg5
 z5:=Tryz.sizeOf5
 v5:=Tryz.zeroValue5
 t9:=Tryz.underlying9
 a9:=Tryz.isAgg9
 z9:=Tryz.sizeOf9
 v9:=Tryz.zeroValue9
 t20:=Tryz.underlying20
 a20:=Tryz.isAgg20
 z20:=Tryz.sizeOf20
 v20:=Tryz.zeroValue20
 t37:=Tryz.underlying22
 a37:=Tryz.isAgg22
 z37:=Tryz.sizeOf22
 v37:=Tryz.zeroValue22
 t46:=Tryz.underlying99
 a46:=Tryz.isAgg99
 z46:=Tryz.sizeOf99
 v46:=Tryz.zeroValue99
 t51:=Tryz.underlying140
 a51:=Tryz.isAgg140
 z51:=Tryz.sizeOf140
 v51:=Tryz.zeroValue140
 t53:=Tryz.underlying68
 a53:=Tryz.isAgg68
 z53:=Tryz.sizeOf68
 v53:=Tryz.zeroValue68
 t171:=Tryz.underlying131
 a171:=Tryz.isAgg131
 z171:=Tryz.sizeOf131
 v171:=Tryz.zeroValue131
 t173:=Tryz.underlying134
 a173:=Tryz.isAgg134
 z173:=Tryz.sizeOf134
 v173:=Tryz.zeroValue134
 t212:=Tryz.underlying144
 a212:=Tryz.isAgg144
 z212:=Tryz.sizeOf144
 v212:=Tryz.zeroValue144
 t213:=Tryz.underlying145
 a213:=Tryz.isAgg145
 z213:=Tryz.sizeOf145
 t232:=Tryz.underlying149
 a232:=Tryz.isAgg149
 z232:=Tryz.sizeOf149
 v232:=Tryz.zeroValue149
 t233:=Tryz.underlying150
 a233:=Tryz.isAgg150
 z233:=Tryz.sizeOf150
 v233:=Tryz.zeroValue150
 g17:=by kernel_rfl
 g18:=by kernel_rfl
 g19:=by kernel_rfl }
open Go.RowKit Go.Sort Go.Lib in
theorem Tryz.internal_strconv_FormatInt_10_small(i:Nat)(hi:i<100)(w:World) :
  Calls Tryz.prog 93 #[.int .i64 i, .int .i64 10] w λ e w'=>e = .returned (.string ⟨(Lib.decDigits i).toArray⟩)/\w'=w:=Any.internal_strconv_FormatInt_10_small Tryz.XY i hi w
def Tryz.Qy:Go.Shelf.Ren:=⟨λ|143=>75|219=>92|217=>98|225=>99|224=>100|267=>101|266=>106|314=>107|n=>n,λ|9=>9|3=>3|4=>4|5=>5|46=>99|146=>141|51=>140|n=>n,λ|1=>0|n=>n⟩
theorem Tryz.XV:Go.Proofs.Lays.n143 Tryz.prog Tryz.Qy:={
 mixed:=by kernel_rfl
 f143:=Tryz.func75.trans (congrArg some (by kernel_rfl))
 f217:=Tryz.func98.trans (congrArg some (by kernel_rfl))
 f219:=Tryz.func92.trans (congrArg some (by kernel_rfl))
 f224:=Tryz.func100.trans (congrArg some (by kernel_rfl))
 f225:=Tryz.func99.trans (congrArg some (by kernel_rfl))
 f266:=Tryz.func106.trans (congrArg some (by kernel_rfl))
 f267:=Tryz.func101.trans (congrArg some (by kernel_rfl))
 f314:=Tryz.func107.trans (congrArg some (by kernel_rfl))
 t3:=Tryz.underlying3
 a3:=Tryz.isAgg3
 z3:=Tryz.sizeOf3
 v3:=Tryz.zeroValue3
 t4:=Tryz.underlying4
 a4:=Tryz.isAgg4
 z4:=Tryz.sizeOf4
 v4:=Tryz.zeroValue4
 t5:=Tryz.underlying5
 a5:=Tryz.isAgg5
 z5:=Tryz.sizeOf5
 v5:=Tryz.zeroValue5
 t9:=Tryz.underlying9
 a9:=Tryz.isAgg9
 z9:=Tryz.sizeOf9
 v9:=Tryz.zeroValue9
 t46:=Tryz.underlying99
 a46:=Tryz.isAgg99
 z46:=Tryz.sizeOf99
 v46:=Tryz.zeroValue99
 t51:=Tryz.underlying140
 a51:=Tryz.isAgg140
 z51:=Tryz.sizeOf140
 v51:=Tryz.zeroValue140
 t146:=Tryz.underlying141
 a146:=Tryz.isAgg141
 z146:=Tryz.sizeOf141
 v146:=Tryz.zeroValue141
 g1:=by kernel_rfl }
open Go.RowKit Go.Lib in
theorem Tryz.strings_Index_one(s:ByteArray)(c:UInt8)(w:World) :
  Calls Tryz.prog 75 #[.string s, .string ⟨#[c]⟩] w λ e w'=>e = .returned (.int .i64 (Lib.indexByte s.data.toList c))/\w'=w:=Any.strings_Index_one Tryz.XV s c w
def Tryz.Qx:Go.Shelf.Ren:=⟨λ|138=>74|195=>89|218=>91|143=>75|219=>92|217=>98|225=>99|224=>100|267=>101|266=>106|314=>107|n=>n,λ|9=>9|3=>3|4=>4|5=>5|0=>0|46=>99|146=>141|51=>140|n=>n,λ|1=>0|n=>n⟩
theorem Tryz.XU:Go.Proofs.Lays.n138 Tryz.prog Tryz.Qx:={
 mixed:=by kernel_rfl
 f138:=Tryz.func74.trans (congrArg some (by kernel_rfl))
 f143:=Tryz.func75.trans (congrArg some (by kernel_rfl))
 f195:=Tryz.func89.trans (congrArg some (by kernel_rfl))
 f217:=Tryz.func98.trans (congrArg some (by kernel_rfl))
 f218:=Tryz.func91.trans (congrArg some (by kernel_rfl))
 f219:=Tryz.func92.trans (congrArg some (by kernel_rfl))
 f224:=Tryz.func100.trans (congrArg some (by kernel_rfl))
 f225:=Tryz.func99.trans (congrArg some (by kernel_rfl))
 f266:=Tryz.func106.trans (congrArg some (by kernel_rfl))
 f267:=Tryz.func101.trans (congrArg some (by kernel_rfl))
 f314:=Tryz.func107.trans (congrArg some (by kernel_rfl))
 t0:=Tryz.underlying0
 a0:=Tryz.isAgg0
 z0:=Tryz.sizeOf0
 v0:=Tryz.zeroValue0
 t3:=Tryz.underlying3
 a3:=Tryz.isAgg3
 z3:=Tryz.sizeOf3
 v3:=Tryz.zeroValue3
 t4:=Tryz.underlying4
 a4:=Tryz.isAgg4
 z4:=Tryz.sizeOf4
 v4:=Tryz.zeroValue4
 t5:=Tryz.underlying5
 a5:=Tryz.isAgg5
 z5:=Tryz.sizeOf5
 v5:=Tryz.zeroValue5
 t9:=Tryz.underlying9
 a9:=Tryz.isAgg9
 z9:=Tryz.sizeOf9
 v9:=Tryz.zeroValue9
 t46:=Tryz.underlying99
 a46:=Tryz.isAgg99
 z46:=Tryz.sizeOf99
 v46:=Tryz.zeroValue99
 t51:=Tryz.underlying140
 a51:=Tryz.isAgg140
 z51:=Tryz.sizeOf140
 v51:=Tryz.zeroValue140
 t146:=Tryz.underlying141
 a146:=Tryz.isAgg141
 z146:=Tryz.sizeOf141
 v146:=Tryz.zeroValue141
 g1:=by kernel_rfl }
open Go.RowKit Go.Lib in
theorem Tryz.strings_Count_one(s:ByteArray)(c:UInt8)(w:World) :
  Calls Tryz.prog 74 #[.string s, .string ⟨#[c]⟩] w λ e w'=>e = .returned (.int .i64 (Lib.countByte s.data.toList c))/\w'=w:=Any.strings_Count_one Tryz.XU s c w
def Tryz.Qz:Go.Shelf.Ren:=⟨λ|221=>51|268=>73|138=>74|143=>75|195=>89|197=>90|218=>91|219=>92|260=>97|217=>98|225=>99|224=>100|267=>101|266=>106|314=>107|n=>n,λ|9=>9|3=>3|31=>56|4=>4|0=>0|105=>121|21=>21|5=>5|46=>99|119=>136|139=>139|138=>138|146=>141|51=>140|n=>n,λ|1=>0|3=>1|4=>2|n=>n⟩
theorem Tryz.XX:Go.Proofs.Lays.n221 Tryz.prog Tryz.Qz:={
 mixed:=by kernel_rfl
 f138:=Tryz.func74.trans (congrArg some (by kernel_rfl))
 f143:=Tryz.func75.trans (congrArg some (by kernel_rfl))
 f195:=Tryz.func89.trans (congrArg some (by kernel_rfl))
 f197:=Tryz.func90.trans (congrArg some (by kernel_rfl))
 f217:=Tryz.func98.trans (congrArg some (by kernel_rfl))
 f218:=Tryz.func91.trans (congrArg some (by kernel_rfl))
 f219:=Tryz.func92.trans (congrArg some (by kernel_rfl))
 f221:=Tryz.func51.trans (congrArg some (by kernel_rfl))
 f224:=Tryz.func100.trans (congrArg some (by kernel_rfl))
 f225:=Tryz.func99.trans (congrArg some (by kernel_rfl))
 f260:=Tryz.func97.trans (congrArg some (by kernel_rfl))
 f266:=Tryz.func106.trans (congrArg some (by kernel_rfl))
 f267:=Tryz.func101.trans (congrArg some (by kernel_rfl))
 f268:=Tryz.func73.trans (congrArg some (by kernel_rfl))
 f314:=Tryz.func107.trans (congrArg some (by kernel_rfl))
 t0:=Tryz.underlying0
 a0:=Tryz.isAgg0
 z0:=Tryz.sizeOf0
 v0:=Tryz.zeroValue0
 t3:=Tryz.underlying3
 a3:=Tryz.isAgg3
 z3:=Tryz.sizeOf3
 v3:=Tryz.zeroValue3
 t4:=Tryz.underlying4
 a4:=Tryz.isAgg4
 z4:=Tryz.sizeOf4
 v4:=Tryz.zeroValue4
 t5:=Tryz.underlying5
 a5:=Tryz.isAgg5
 z5:=Tryz.sizeOf5
 v5:=Tryz.zeroValue5
 t9:=Tryz.underlying9
 a9:=Tryz.isAgg9
 z9:=Tryz.sizeOf9
 v9:=Tryz.zeroValue9
 t21:=Tryz.underlying21
 a21:=Tryz.isAgg21
 z21:=Tryz.sizeOf21
 v21:=Tryz.zeroValue21
 t31:=Tryz.underlying56
 a31:=Tryz.isAgg56
 z31:=Tryz.sizeOf56
 v31:=Tryz.zeroValue56
 t46:=Tryz.underlying99
 a46:=Tryz.isAgg99
 z46:=Tryz.sizeOf99
 v46:=Tryz.zeroValue99
 t51:=Tryz.underlying140
 a51:=Tryz.isAgg140
 z51:=Tryz.sizeOf140
 v51:=Tryz.zeroValue140
 t105:=Tryz.underlying121
 a105:=Tryz.isAgg121
 z105:=Tryz.sizeOf121
 v105:=Tryz.zeroValue121
 t119:=Tryz.underlying136
 a119:=Tryz.isAgg136
 z119:=Tryz.sizeOf136
 t138:=Tryz.underlying138
 a138:=Tryz.isAgg138
 z138:=Tryz.sizeOf138
 v138:=Tryz.zeroValue138
 t139:=Tryz.underlying139
 a139:=Tryz.isAgg139
 z139:=Tryz.sizeOf139
 v139:=Tryz.zeroValue139
 t146:=Tryz.underlying141
 a146:=Tryz.isAgg141
 z146:=Tryz.sizeOf141
 v146:=Tryz.zeroValue141
 g1:=by kernel_rfl
 g3:=by kernel_rfl
 g4:=by kernel_rfl }
end Go.Proofs



set_option maxRecDepth 4000
set_option maxHeartbeats 4000000
namespace Go.Proofs.YtnehkikdlnmebaaGreatDoor
open Go.RowKit Go.Proofs
theorem Ru:(Tryz.prog.info? 89).map (·.size)=some 2:=by kernel_rfl
theorem WV:liesAt Tryz.prog Tryz.prog.depth 89 (2 / Tryz.prog.cellsOf 89) 0 89 1=true:=by kernel_rfl
theorem WU:(Tryz.prog.info? 5).map (λ i=>(i.zero,i.size,i.bytes))=some (some (.int .u8 0),1,1):=by kernel_rfl
def kl(b:Nat)(w w':World):Prop:=∀ k cs T fz,w.heap[k]?=some (.cells cs T fz)->T≠5->k≠b->w'.heap[k]?=w.heap[k]?
theorem kl.refl(b:Nat)(w:World):kl b w w:=λ _ _ _ _ _ _ _=>rfl
theorem kl.trans{b:Nat}{w w1 w2:World}(h:kl b w w1)(k:kl b w1 w2):kl b w w2:=λ i cs T fz hi hT hb=>by
 have e:=h i cs T fz hi hT hb
 rw[k i cs T fz (e.trans hi) hT hb,e]
theorem kl.setCell{b:Nat}{w w1:World}(h:kl b w w1)(o:Nat)(v:Value):kl b w (w1.setCell ⟨b,o,none⟩ v):=λ i cs T fz hi hT hb=>by
 rw[Below.heap_setCell w1 _ v i hb]
 exact h i cs T fz hi hT hb
theorem cH{w:World}{k:Nat}{x:Obj}(h:w.heap[k]?=some x):k<w.heap.size:=by
 rcases a6w k w.heap.size with h'|h'
 .exact h'
 .simp[a7d h'] at h
theorem kl.alloc{b:Nat}{w w1:World}(h:kl b w w1)(o:Obj):kl b w (w1.alloc o):=λ i cs T fz hi hT hb=>by
 have e:=h i cs T fz hi hT hb
 rw[<-e]
 exact a7F w1 o i (cH (e.trans hi))
set_option maxRecDepth 100000 in
theorem KY(b:Nat)(w:World)(h0:w.cell? ⟨b,0,none⟩=some (.pointer (some ⟨b,0,none⟩))) :
  Calls Tryz.prog 88 #[.pointer (some ⟨b,0,none⟩)] w λ e w'=>e = .returned (.tuple #[])/\w'=w:=by
 obtain⟨j,hj,_⟩:=a6r.1 Ru
 go_enter Tryz.func88,Tryz.ntmps88
 go_wp2
 rw[Lib.run_neq_ptr_same w _ Tryz.underlying87 hj]
 go_wp2
 go_end0
 exact⟨rfl,rfl⟩
set_option maxRecDepth 100000 in
theorem IS(b:Nat)(w:World)(h0:w.cell? ⟨b,0,none⟩=some (.pointer none))(DU:w.shape? b=some (89,2))(hfz:w.frozen? ⟨b,0,none⟩=false) :
  Calls Tryz.prog 88 #[.pointer (some ⟨b,0,none⟩)] w λ e w'=>e = .returned (.tuple #[])/\w'=w.setCell ⟨b,0,none⟩ (.pointer (some ⟨b,0,none⟩)):=by
 obtain⟨j,hj,hjs⟩:=a6r.1 Ru
 go_enter Tryz.func88,Tryz.ntmps88
 go_wp2
 rw[Lib.run_to_unsafe w ⟨b,0,none⟩ Tryz.underlying87 Tryz.underlying127 hj (by rw[hjs];decide) DU (Nat.zero_lt_succ 1)]
 simp only[Result.andThen]
 rw[a8Q]
 go_wp2
 rw[run_callFunc_extern Tryz.func96 (by kernel_rfl) (by kernel_rfl) (by kernel_rfl) (e:=Extern.AbiNoEscape.same) (by kernel_rfl)]
 rw[Lib.run_noEscape]
 simp only[Result.andThen]
 rw[a8Q]
 go_wp2
 rw[Lib.run_from_unsafe w ⟨b,0,none⟩ Tryz.underlying127 Tryz.underlying87 hj DU WV]
 simp only[Result.andThen]
 rw[a8Q]
 go_wp2
 go_end0
 exact⟨rfl,rfl⟩
theorem Tu(B b:Nat)(bs:List Value)(w:World)(h:Lib.IsBuilder 89 5 B b bs w) :
  Calls Tryz.prog 88 #[.pointer (some ⟨b,0,none⟩)] w λ e w'=>e = .returned (.tuple #[])/\(Lib.BuilderAt 89 5 B b (.pointer (some ⟨b,0,none⟩)) bs w'/\Below B w w'/\kl b w w'):=by
 rcases h with h|h
 .refine (IS b w h.cell0 h.shape h.frozen0).mono ?_
  rintro e w' ⟨rfl,rfl⟩
  exact⟨rfl,h.used _,(a7J B w).setCell (p:=⟨b,0,none⟩) h.1 _,(kl.refl b w).setCell 0 _⟩
 .refine (KY b w h.cell0).mono ?_
  rintro e w' ⟨rfl,rfl⟩
  exact⟨rfl,h,a7J B _,kl.refl b _⟩
set_option maxRecDepth 100000 in
theorem writeString(B b:Nat)(bs:List Value)(s:ByteArray)(w:World)(h:Lib.IsBuilder 89 5 B b bs w)(hlen:bs.length+s.size<=140737488355328)(jV:B<=w.heap.size) :
  Calls Tryz.prog 72 #[.pointer (some ⟨b,0,none⟩), .string s] w λ e w'=>e = .returned (.tuple #[.int .i64 s.size, .nilIface])/\(Lib.IsBuilder 89 5 B b (bs++Lib.strCells s) w'/\Below B w w'/\kl b w w'):=by
 obtain⟨i0,hi,hz⟩:=a6r.1 WU
 simp only[a5H] at hz
 obtain⟨Si,Sj,Sk⟩:=hz
 go_enter Tryz.func72,Tryz.ntmps72
 go_wp2_with (go_at_call 88;refine (Tu B b bs _ h).mono ?_)
 rintro e w1 ⟨rfl,h1,zB,ux⟩
 obtain⟨hB,v,Zs,eM,dU⟩:=h1
 have c0:w1.cell? ⟨b,0,none⟩=some (.pointer (some ⟨b,0,none⟩)):=by rw[a7R Zs];rfl
 have c1:w1.cell? ⟨b,1,none⟩=some v:=by rw[a7R Zs];rfl
 go_wp2_with (at_builtin;refine Lib.wpList_append_own_string _ rfl _ _ 22 9 rfl B 5 i0 Tryz.underlying22 Tryz.underlying9 hi Si Sj Sk _ _ _ rfl eM s rfl ?c3 ?c4 ?c5 ?_)
 case c3=>unfold maxLen;omega
 case c4=>omega
 case c5=>have:=zB.size;omega
 intro v' w2 XG eL _
 have bF:b<w1.heap.size:=cH Zs
 have MS:w2.heap[b]?=some (.cells #[.pointer (some ⟨b,0,none⟩),v] 89 (0,0)):=by
  rw[eL.block b bF (λ e=>dU e.symm)]
  exact Zs
 have d0:w2.cell? ⟨b,0,none⟩=some (.pointer (some ⟨b,0,none⟩)):=by rw[a7R MS];rfl
 have d1:w2.cell? ⟨b,1,none⟩=some v:=by rw[a7R MS];rfl
 have f1:w2.frozen? ⟨b,1,none⟩=false:=Lib.frozen_of_heap MS 1
 have hk2:kl b w1 w2:=λ i cs T fz hi hT hib=>eL.block i (cH hi) λ e=>by
  rcases eM.2 with ⟨hv,_⟩|⟨g,cap,cur,hv,_,hg,_⟩
  .rw[hv] at e;cases e
  .rw[hv] at e
   injection e with e
   subst e
   rw[hg] at hi
   simp only[a5E,Obj.cells.injEq] at hi
   exact hT hi.2.1.symm
 obtain⟨ao,n',cap,rfl⟩:∃ ao n' cap,v' = .slice ao n' cap:=by
  rcases XG.2 with ⟨hv,_⟩|⟨g,cap,cur,hv,_⟩
  .exact⟨_,_,_,hv⟩
  .exact⟨_,_,_,hv⟩
 go_wp2
 go_ret2
 refine⟨rfl,?_,?_,?_⟩
 .exact Or.inr (Lib.BuilderAt.put (T:=89) (e:=5) hB MS (bs':=bs++Lib.strCells s) (by simpa [Lib.strCells_length] using XG) (by decide))
 .exact (zB.grown eL (by have:=zB.size;omega) (λ k hk=>(eM.lt k hk).1)).setCell (p:=⟨b,1,none⟩) hB _
 .exact (ux.trans hk2).setCell 1 _
end Go.Proofs.YtnehkikdlnmebaaGreatDoor

set_option maxRecDepth 4000
set_option maxHeartbeats 4000000
namespace Go.Proofs.YtnehkikdlnmebaaGreatDoor
noncomputable section
open Go.RowKit Go.Proofs
def jB(c:UInt8)(a:List (List UInt8)×List UInt8)(b:UInt8):List (List UInt8)×List UInt8:=bif b == c then (a.1++[a.2],[]) else (a.1,a.2++[b])
def OY(c:UInt8)(l:List UInt8):List (List UInt8)×List UInt8:=l.foldl (jB c) ([],[])
def bf(c:UInt8)(l:List UInt8):List (List UInt8):=(OY c l).1++[(OY c l).2]
theorem IX(c:UInt8):∀ (l:List UInt8) (d e:List (List UInt8)) (x:List UInt8),l.foldl (jB c) (d++e,x)=(d++(l.foldl (jB c) (e,x)).1,(l.foldl (jB c) (e,x)).2)
 | [],d,e,x=>rfl
 | b::l,d,e,x=>by
  simp only[a7k,jB]
  cases b == c
  .simp only[a8R];exact IX c l d e (x++[b])
  .simp only[a8k,a6u];exact IX c l d (e++[x]) []
theorem C2(c:UInt8):∀ (l:List UInt8) (d:List (List UInt8)) (x:List UInt8),(∀ b∈l,(b == c)=false)->l.foldl (jB c) (d,x)=(d,x++l)
 | [],d,x,_=>by simp
 | b::l,d,x,h=>by
  simp only[a7k,jB,h b (by simp),a8R]
  rw[C2 c l d (x++[b]) (λ y hy=>h y (by simp[hy]))]
  simp
theorem Ms(c:UInt8)(l:List UInt8)(h:∀ b∈l,(b == c)=false):bf c l=[l]:=by
 unfold bf OY
 rw[C2 c l [] [] h];rfl
theorem VC(c:UInt8)(a r:List UInt8)(h:∀ b∈a,(b == c)=false):bf c (a++c::r)=a::bf c r:=by
 unfold bf OY
 rw[a7X,C2 c a [] [] h,a7k]
 have e:jB c ([],[]++a) c=([a]++[],[]):=by simp[jB]
 rw[e,IX]
 simp
theorem N1(c:UInt8):∀ (k:Nat) (l:List UInt8),l.count c=k->Lib.splitK [c] 0 k l=bf c l
 | 0,l,h=>by
  rw[Ms c l (λ b hb=>by
   have:=a9O.1 h
   cases e:b == c
   .rfl
   .rw[beq_iff_eq] at e;subst e;exact absurd hb this)]
  rfl
 | k+1,l,h=>by
  have hi:=Lib.index_one l c
  rcases a9N (Lib.indexByte l c) 0 with hn|hn
  .have h1:Lib.indexByte l c = -1:=by have:=Lib.indexByte_ge l c;omega
   have h2:=Lib.indexByte_none h1
   have hm:c∈l:=List.count_pos_iff.1 (by omega)
   obtain⟨j,hj,e⟩:=a7p hm
   exact absurd (by rw[a5V hj,e]) (h2 j)
  .obtain⟨o,ho⟩:∃ o:Nat,Lib.indexByte l c=o:=⟨(Lib.indexByte l c).toNat,by omega⟩
   obtain⟨h1,h2⟩:=Lib.indexByte_some ho
   have hol:o<l.length:=(a5W.1 h1).1
   have hd:l=l.take o++c::l.drop (o+1):=by
    conv=>lhs;rw[<-a7b o l]
    rw[a7H hol]
    have:l[o]=c:=by simpa [List.getElem?_eq_getElem hol] using h1
    rw[this]
   have ha:∀ b∈l.take o,(b == c)=false:=by
    intro b hb
    obtain⟨j,hj,e⟩:=a7p hb
    have yi:j<o:=by simp at hj;omega
    have e2:(l.take o)[j]?=some b:=by rw[a5V hj,e]
    have e3:l[j]?=some b:=by rw[a6Y,a5T yi] at e2;exact e2
    cases e':b == c
    .rfl
    .rw[beq_iff_eq] at e'
     rw[e'] at e3
     exact absurd e3 (h2 j yi)
   have Xo:(l.drop (o+1)).count c=k:=by
    have e:=congrArg (List.count c) hd
    rw[h,List.count_append,List.count_cons_self] at e
    have:(l.take o).count c=0:=a9O.2 (λ hm=>by have:=ha c hm;simp at this)
    omega
   have hs:Lib.splitK [c] 0 (k+1) l=l.take o::Lib.splitK [c] 0 k (l.drop (o+1)):=by
    rw[Lib.splitK,hi,ho]
    rw[a5J (by simp)]
    simp
   rw[hs,N1 c k _ Xo]
   conv=>rhs;rw[hd]
   rw[VC c _ _ ha]
theorem OX(c:UInt8)(l:List UInt8):(bf c l).length<=l.length+1:=by
 have key:∀ (l:List UInt8) (d:List (List UInt8)) (x:List UInt8),(l.foldl (jB c) (d,x)).1.length<=d.length+l.length:=by
  intro l
  induction l with
  | nil=>intro d x;simp
  | cons b l ih =>
   intro d x
   simp only[a7k,jB,a5O]
   cases b == c
   .have:=ih d (x++[b]);simp only[a8R];omega
   .have:=ih (d++[x]) [];simp only[a8k,a5U,a5O,a6a] at this ⊢;omega
 have:=key l [] []
 simp only[bf,OY,a5U,a5O,a6a] at this ⊢;omega
def bt(n:Int):UInt8:=UInt8.ofNat n.toNat
def cT:bb:=⟨eE,[.v .str, .v .str],λ (s:List UInt8) (p:List UInt8)=>⟨(none,[⟨.bool,decide (p.length<=s.length)&&decide (s.take p.length=p)⟩])⟩⟩
def iU(s:List UInt8)(p:List UInt8):Nat->aX:=λ _ => .none
theorem pY(s:List UInt8)(p:List UInt8):cU (bo []) (aF cA) (iU s p) 0 (bC (bo []) cA λ r=>bH r [⟨.bool,decide (p.length<=s.length)&&decide (s.take p.length=p)⟩]) (aO cA [.val ⟨.str,s⟩, .val ⟨.str,p⟩]) =
 ((ag ((s.length:Int)) ->
 (ag ((p.length:Int)) ->
 (((decide (((p.length:Int))<=((s.length:Int))))=true ->
 (ag ((p.length:Int)) ->
 (iW (0:Int) ((p.length:Int)) s.length/\(decide (((s.take (Int.toNat ((p.length:Int)))).drop 0)=p))=(decide (p.length<=s.length)&&decide (s.take p.length=p)))))/\((decide (((p.length:Int))<=((s.length:Int))))=(!true) ->
 false=(decide (p.length<=s.length)&&decide (s.take p.length=p))))))):=by kernel_rfl
theorem pS(hE:aQ []):bb.Good cT:=by
 refine⟨aG iF rfl (by decide),?_⟩
 show ∀ (s:List UInt8) (p:List UInt8),True->bD prog eE [.val ⟨.str,s⟩, .val ⟨.str,p⟩] (·=[⟨.bool,decide (p.length<=s.length)&&decide (s.take p.length=p)⟩])
 intro s p _
 refine bu (wr:=[]) (cl:=[]) (ro:=[]) hE iF oG (iU s p) ?_
 rewrite [pY s p]
 refine λ a0=>λ a1=>⟨λ a2=>λ a3=>⟨?_,?_⟩,λ a2=>?_⟩
 all_goals try and_intros
 all_goals first|rfl|trivial|omega|(simp only[a5M,a5N,aV,ag,iW,cE,a5U,a5O,a6a] at *;first|omega|grind)|grind
theorem oI:bb.Good cT:=pS trivial
def dw:bb:=⟨nG,[.v .str, .v .str],λ (s:List UInt8) (p:List UInt8)=>⟨(none,[⟨.bool,decide (p.length<=s.length)&&decide (s.take p.length=p)⟩])⟩⟩
def td(s:List UInt8)(p:List UInt8):Nat->aX:=λ _ => .none
theorem Bm(s:List UInt8)(p:List UInt8):cU (bo [cT]) (aF ez) (td s p) 0 (bC (bo [cT]) ez λ r=>bH r [⟨.bool,decide (p.length<=s.length)&&decide (s.take p.length=p)⟩]) (aO ez [.val ⟨.str,s⟩, .val ⟨.str,p⟩]) =
 ((decide (p.length<=s.length)&&decide (s.take p.length=p))=(decide (p.length<=s.length)&&decide (s.take p.length=p))):=by kernel_rfl
theorem Bb(hE:aQ [cT]):bb.Good dw:=by
 refine⟨aG rF rfl (by decide),?_⟩
 show ∀ (s:List UInt8) (p:List UInt8),True->bD prog nG [.val ⟨.str,s⟩, .val ⟨.str,p⟩] (·=[⟨.bool,decide (p.length<=s.length)&&decide (s.take p.length=p)⟩])
 intro s p _
 refine bu (wr:=[]) (cl:=[]) (ro:=[]) hE rF xU (td s p) ?_
 rewrite [Bm s p]
 refine ?_
 all_goals try and_intros
 all_goals first|rfl|trivial|omega|(simp only[a5M,a5N,aV,ag,cq,iW,jQ,cE] at *;omega)|(simp[aV,ag] at *;omega)|grind
theorem qf:bb.Good dw:=Bb ⟨oI,trivial⟩
def ot:bb:=⟨yK,[.v .str, .v .str],λ (s:List UInt8) (p:List UInt8)=>⟨(some (p.length=1/\s.length<=1048576),[⟨(.slice .str),bf (p.getD 0 0) s⟩])⟩⟩
open Go.Lib in
set_option maxRecDepth 100000 in
theorem Rl(s:ByteArray)(c:UInt8)(w:World)(hs:s.size<=1048576):Calls Tryz.prog 24 #[.string s, .string ⟨#[c]⟩] w λ e w' =>
  e = .returned (.slice (some ⟨w.heap.size,0,none⟩) (Lib.splitB ⟨#[c]⟩ 0 (Lib.countB s ⟨#[c]⟩) s).length (Lib.splitB ⟨#[c]⟩ 0 (Lib.countB s ⟨#[c]⟩) s).length) /\
   w'=w.alloc (.cells ((Lib.splitB ⟨#[c]⟩ 0 (Lib.countB s ⟨#[c]⟩) s).map Value.string).toArray 9):=by
 have h1:1<=(⟨#[c]⟩:ByteArray).size:=a6b 1
 have hle:=Lib.countB_le ⟨#[c]⟩ h1 s.size s (a6b _)
 have hlen:=Lib.splitB_all ⟨#[c]⟩ h1 0 _ s rfl
 have hI:∀ (x:ByteArray) (cs:Array Value),x.size<=s.size->Calls Tryz.prog 75 #[.string x, .string ⟨#[c]⟩] (w.alloc (.cells cs 9)) λ e w'=>e = .returned (.int .i64 (Lib.indexB x ⟨#[c]⟩))/\w'=w.alloc (.cells cs 9):=λ x cs _=>by
  have e:Lib.indexB x ⟨#[c]⟩=Lib.indexByte x.data.toList c:=Lib.index_one x.data.toList c
  rw[e]
  exact Tryz.strings_Index_one x c _
 have hC:Calls Tryz.prog 74 #[.string s, .string ⟨#[c]⟩] w λ e w'=>e = .returned (.int .i64 (Lib.countB s ⟨#[c]⟩))/\w'=w:=by
  refine (Tryz.strings_Count_one s c w).mono λ e w' ⟨he,hw⟩=>⟨?_,hw⟩
  rw[he]
  show _=Ending.returned (Value.int .i64 ((Lib.count s.data.toList [c]:Nat):Int))
  rw[Lib.count_one]
  rfl
 have cc:=Any.strings_genSplit_core Tryz.XX (by kernel_rfl) s ⟨#[c]⟩ 0 (-1) (Lib.countB s ⟨#[c]⟩+1) w (by omega) h1 (a6N _) hI hC (by decide) (by decide) (by rw[a5T (by decide)];omega)
 rw[Nat.add_sub_cancel,hlen] at cc
 have e2:Lib.cellsOf (Lib.splitB ⟨#[c]⟩ 0 (Lib.countB s ⟨#[c]⟩) s) (Lib.countB s ⟨#[c]⟩+1)=((Lib.splitB ⟨#[c]⟩ 0 (Lib.countB s ⟨#[c]⟩) s).map Value.string).toArray:=by rw[<-hlen];exact Lib.cellsOf_full _
 rw[e2] at cc
 rw[hlen]
 go_enter Tryz.func24,Tryz.ntmps24
 go_wp2_with (go_at_call 51;refine cc.mono ?_)
 rintro e w1 ⟨he,hw⟩;subst he;rw[hw]
 go_wp2
 go_ret
 exact⟨rfl,rfl⟩
theorem KL{w:World}{S:Nat->Prop}:∀ (L:List ByteArray) (b o:Nat),(∀ j v,(L.map Value.string)[j]?=some v->w.cell? ⟨b,o+j,none⟩=some v)->(∀ x∈L,x.size<=140737488355328) ->
  dr w S (L.map λ x=>D.str x.data.toList) b o
 | [],_,_,_,_=>trivial
 | x::L,b,o,h,hs=>by
  refine⟨⟨[.string x],rfl,⟨x,rfl,rfl,hs x (by simp)⟩,?_⟩,?_⟩
  .intro j v hj
   match j,hj with
   | 0,hj=>exact h 0 v (by simpa using hj)
  .refine KL L b _ (λ j v hj=>?_) (λ y hy=>hs y (by simp[hy]))
   have:=h (j+1) v (by simpa using hj)
   rw[show o+(D.str x.data.toList).size+j=o+(j+1) by simp[D.size];omega]
   exact this
theorem Mt(c:UInt8):∀ (k:Nat) (l:List UInt8),∀ p∈Lib.splitK [c] 0 k l,p.length<=l.length
 | 0,l,p,h=>by simp[Lib.splitK] at h;rw[h];exact a6b _
 | k+1,l,p,h=>by
  unfold Lib.splitK at h
  split at h
  .simp at h;rw[h];exact a6b _
  .rcases a5P.1 h with e|e
   .rw[e];simp;omega
   .have:=Mt c k _ p e
    simp at this;omega
theorem DP:bb.Good ot:=by
 refine⟨aG Gu rfl (by decide),?_⟩
 intro (s:List UInt8) (p:List UInt8) hp w S cF ⟨hS,_⟩ ha
 match cF,ha with
 | [v,u],ha =>
  obtain⟨⟨x,hv,hx,tO⟩,⟨y,hu,hy,hyl⟩,_⟩:=ha
  simp only[a5L,a5R] at hv hu
  subst hv hu
  obtain⟨Ox,hp2⟩:p.length=1/\s.length<=1048576:=hp
  obtain⟨c,rfl⟩:∃ c,p=[c]:=List.length_eq_one_iff.1 Ox
  have hyc:y=⟨#[c]⟩:=by
   obtain⟨d⟩:=y
   have:d.toList=[c]:=hy
   congr 1
   exact Array.toList_inj.1 this
  subst hyc
  have np:x.size<=1048576:=by
   have:x.data.toList.length=s.length:=congrArg List.length hx
   rw[a9T,this];exact hp2
  have Xo:Lib.countB x ⟨#[c]⟩=s.count c:=by
   show Lib.count x.data.toList [c]=_
   rw[Lib.count_one]
   show x.data.toList.count c=_
   rw[show x.data.toList=s from hx]
  have TX:(Lib.splitB ⟨#[c]⟩ 0 (Lib.countB x ⟨#[c]⟩) x).map (·.data.toList)=bf c s:=by
   rw[Lib.splitB_data,Xo,show x.data.toList=s from hx]
   exact N1 c _ s rfl
  have hlen:(bf c s).length=(Lib.splitB ⟨#[c]⟩ 0 (Lib.countB x ⟨#[c]⟩) x).length:=by rw[<-TX];simp
  have BV:=OX c s
  have hpc:∀ z∈Lib.splitB ⟨#[c]⟩ 0 (Lib.countB x ⟨#[c]⟩) x,z.size<=140737488355328:=λ z hz=>by
   have hm:z.data.toList∈Lib.splitK [c] 0 (Lib.countB x ⟨#[c]⟩) x.data.toList:=by
    rw[<-show ((⟨#[c]⟩:ByteArray).data.toList)=[c] from rfl,<-Lib.splitB_data]
    exact a5K.2 ⟨z,hz,rfl⟩
   have:=Mt c _ _ _ hm
   have e1:z.size=z.data.toList.length:=a9T z
   have e2:x.size=x.data.toList.length:=a9T x
   omega
  refine (Rl x c w np).mono ?_
  generalize Lib.splitB ⟨#[c]⟩ 0 (Lib.countB x ⟨#[c]⟩) x=L at TX hlen hpc
  rintro e w' ⟨rfl,rfl⟩
  refine⟨_,λ b=>S b\/b=w.heap.size,_,rfl,rfl,⟨rfl,rfl,rfl,by simp,λ b hb _=>a7F w _ b hb⟩,λ b hb=>⟨λ h=>h.elim id (λ e=>by omega),Or.inl⟩,λ b h=>?_,?_⟩
  .rcases h with h|h
   .have:=hS b h;simp;omega
   .subst h;simp
  .show Rd _ _ (TV.aK ⟨.slice .str,bf c s⟩) [_]
   have e1:TV.aK ⟨.slice .str,bf c s⟩ = .slice 1 (L.map λ z=>D.str z.data.toList):=by
    show D.slice _ _=_
    congr 1
    show (bf c s).map _=_
    rw[<-TX,List.map_map];rfl
   rw[e1]
   refine⟨_,L.length,by rw[List.length_map],by simp,by unfold maxLen;omega,by simp;omega, .inr ⟨w.heap.size,0,rfl, .inr rfl,KL L _ _ (λ j v hj=>?_) hpc⟩⟩
   rw[a7R (a7f w _)]
   simpa using hj
end
end Go.Proofs.YtnehkikdlnmebaaGreatDoor

set_option maxRecDepth 4000
set_option maxHeartbeats 4000000
namespace Go.Proofs.YtnehkikdlnmebaaGreatDoor
noncomputable section
def vk(b:UInt8):Bool:=decide (48<=b.toNat)&&decide (b.toNat<=57)
def jC(s:List UInt8):Int:=s.foldl (λ n b=>n * 10+((b.toNat:Int) - 48)) 0
def gD(m:Int)(s:List UInt8):Bool:=decide (1<=s.length)&&decide ((s.length:Int)<=m) && !(decide (1<s.length)&&decide ((s.getD 0 0).toNat=48))&&b9 vk s
def iV(m:Int)(s:List UInt8):Int:=bif gD m s then jC s else 0
theorem Mu(s:List UInt8)(k:Nat)(h:k<s.length):jC (s.take (k+1))=jC (s.take k) * 10+(((s.getD k 0).toNat:Int) - 48):=by
 rw[pW 0 s k h]
 simp[jC,a7X]
theorem RA:∀ (k:Nat) (s:List UInt8),k<=s.length->b9 vk (s.take k)=true->0<=jC (s.take k)/\jC (s.take k)<10 ^ k
 | 0,s,_,_=>by simp[jC]
 | k+1,s,h,ha=>by
  have h1:=cP vk 0 s k (by omega)
  rw[ha] at h1
  have ye:=h1.symm
  simp only[a5I] at ye
  obtain⟨h2,h3⟩:=ye
  have ih:=RA k s (by omega) h2
  rw[Mu s k (by omega)]
  simp only[vk,a5I,a5M] at h3
  have:(10:Int) ^ (k+1)=10 ^ k * 10:=by rw[Int.pow_succ]
  omega
theorem RC(s:List UInt8)(k:Nat)(h:k<=s.length)(h9:s.length<=9)(ha:b9 vk (s.take k)=true):0<=jC (s.take k)/\jC (s.take k)<=1000000000:=by
 have:=RA k s h ha
 have h2:(10:Int) ^ k<=10 ^ 9:=by
  have:(10:Nat) ^ k<=10 ^ 9:=Nat.pow_le_pow_right (by decide) (by omega)
  exact_mod_cast this
 omega
theorem UR(s:List UInt8)(k:Nat):vk (s.getD k 0)=(decide (48<=(s.getD k 0).toNat)&&decide ((s.getD k 0).toNat<=57)):=rfl
theorem a0h:IntKind.u8.min=0:=rfl
theorem a0g:IntKind.u8.max=255:=rfl
theorem Ue(n:Int):cq .u8 n↔0<=n/\n<=255:=a7N
theorem Qt(n:Int):cq .i64 n↔ag n:=a7N
theorem NC(m:Int)(s:List UInt8):gD m s=(decide (1<=s.length)&&decide ((s.length:Int)<=m) && !(decide (1<s.length)&&decide ((s.getD 0 0).toNat=48))&&b9 vk s):=rfl
theorem Vd(m:Int)(s:List UInt8)(h:¬ (1<=s.length/\(s.length:Int)<=m/\¬ (1<s.length/\(s.getD 0 0).toNat=48))):iV m s=0/\gD m s=false:=by
 have e:gD m s=false:=by
  cases hb:gD m s with
  | false=>rfl
  | true =>
   rw[NC] at hb
   simp only[a5I,a5M,a6k,a8p,a5N] at hb
   exact absurd ⟨hb.1.1.1,hb.1.1.2,λ h=>by rcases hb.1.2 with g|g<;>omega⟩ h
 exact⟨by simp[iV,e],e⟩
structure Cu(m:Int)(s:List UInt8)(k:Nat):Prop where
 len:k<=s.length/\s.length<=9
 ok:1<=s.length/\(s.length:Int)<=m/\¬ (1<s.length/\(s.getD 0 0).toNat=48)
 all:b9 vk (s.take k)=true
theorem Wa(m:Int)(s:List UInt8)(h:1<=s.length/\(s.length:Int)<=m/\¬ (1<s.length/\(s.getD 0 0).toNat=48))(hm:m<=9):Cu m s 0 :=
 ⟨⟨by omega,by omega⟩,h,by simp[b9]⟩
theorem SC(m:Int)(s:List UInt8)(k:Nat)(h:Cu m s k)(hk:k<s.length)(hb:(s.getD k 0).toNat<48\/57<(s.getD k 0).toNat):iV m s=0/\gD m s=false:=by
 have e:b9 vk s=false:=dv vk 0 s k hk (by rw[UR,a8p,a5N,a5N];omega)
 have e':gD m s=false:=by rw[NC,e];simp
 exact⟨by simp[iV,e'],e'⟩
theorem Jn(m:Int)(s:List UInt8)(k:Nat)(h:Cu m s k)(hk:k<s.length)(h1:48<=(s.getD k 0).toNat)(h2:(s.getD k 0).toNat<=57):Cu m s (k+1)/\jC (s.take (k+1))=jC (s.take k) * 10+(((s.getD k 0).toNat:Int) - 48) :=
 ⟨⟨⟨hk,h.len.2⟩,h.ok,by rw[cP vk 0 s k hk,h.all,UR,a6L h1,a6L h2];rfl⟩,Mu s k hk⟩
theorem SD(m:Int)(s:List UInt8)(k:Nat)(h:Cu m s k)(hk:s.length<=k):iV m s=jC (s.take k)/\gD m s=true:=by
 have e:s.take k=s:=a6O hk
 have ha:=h.all
 rw[e] at ha
 have e':gD m s=true:=by
  rw[NC,ha]
  have:=h.ok
  simp only[a5I,a5M,a6k,a8p,a5N]
  exact⟨⟨⟨this.1,this.2.1⟩,(a6w 1 s.length).elim (λ g => .inr (by omega)) (λ g => .inl (by omega))⟩,trivial⟩
 exact⟨by rw[e];simp[iV,e'],e'⟩
theorem Z2(m:Int)(s:List UInt8)(k:Nat)(h:Cu m s k):k<=s.length/\0<=jC (s.take k)/\jC (s.take k)<=1000000000 :=
 ⟨h.len.1,RC s k h.len.1 h.len.2 h.all⟩
def nx:bb:=⟨vz,[.v .str, .v (.int .i64)],λ (s:List UInt8) (m:Int)=>⟨(some (0<=m/\m<=9),[⟨(.int .i64),iV m s⟩,⟨.bool,gD m s⟩])⟩⟩
def Cd(s:List UInt8)(m:Int):Nat->aX:=(λ zb=>if Nat.beq zb 0 then .mk (Nat) (λ k=>Cu m s k) (λ k=>s.length - k) [] [1,2,3,8,9,10,11,12,13,14,15,16,17,18,19,20,21,22,23,24,25,26,27] (λ k=>[(29, .aS ⟨(.int .i64),((k:Int):Int)⟩),(6, .aS ⟨(.int .i64),(jC (s.take k):Int)⟩)]) [0,4,5,6,7,28,29,30,31,32,33,34,35,36,37,38,39,40,41,42,43,44,45,46,47,48,49,50,51] (λ k=>[]) [] [] (λ k=>λ _ => .none) else .none)
abbrev yn(s:List UInt8)(m:Int)(k1:Nat):Prop:=(ag ((10:Int) * (jC (s.take k1)))/\(aV (k1:Int) s.length/\(cq .u8 ((((s.getD k1 0).toNat:Int)) - (48:Int))/\(ag ((((s.getD k1 0).toNat:Int)) - (48:Int))/\(ag (((10:Int) * (jC (s.take k1)))+((((s.getD k1 0).toNat:Int)) - (48:Int)))/\(ag ((k1:Int)+(1:Int))/\(∃ k2:Nat,(Cu m s k2/\(s.length - k2<s.length - k1/\((s=s/\((((10:Int) * (jC (s.take k1)))+((((s.getD k1 0).toNat:Int)) - (48:Int)))=(jC (s.take k2))/\(((s.length:Int))=((s.length:Int))/\(((k1:Int)+(1:Int))=(k2:Int)/\True))))/\True))))))))))
abbrev oo(s:List UInt8)(m:Int):Prop:=(ag ((s.length:Int)) ->
 ((∃ k1:Nat,(Cu m s k1/\((s=s/\((0:Int)=(jC (s.take k1))/\(((s.length:Int))=((s.length:Int))/\((0:Int)=(k1:Int)/\True))))/\True)))/\(∀ k1:Nat,(Cu m s k1 ->
 (((decide ((k1:Int)<((s.length:Int))))=true ->
 (aV (k1:Int) s.length/\(((decide ((((s.getD k1 0).toNat:Int))<(48:Int)))=false ->
 (aV (k1:Int) s.length/\(((decide ((57:Int)<(((s.getD k1 0).toNat:Int))))=true ->
 ((0:Int)=(iV m s)/\false=(gD m s)))/\((decide ((57:Int)<(((s.getD k1 0).toNat:Int))))=false ->
 (yn s m k1)))))/\((decide ((((s.getD k1 0).toNat:Int))<(48:Int)))=(!false) ->
 ((true=true ->
 ((0:Int)=(iV m s)/\false=(gD m s)))/\(true=false ->
 (yn s m k1)))))))/\((decide ((k1:Int)<((s.length:Int))))=false ->
 ((jC (s.take k1))=(iV m s)/\true=(gD m s))))))))
abbrev yo(s:List UInt8)(m:Int):Prop:=(ag ((s.length:Int)) ->
 (((decide ((1:Int)<((s.length:Int))))=true ->
 (aV (0:Int) s.length/\(((decide ((((s.getD 0 0).toNat:Int))=(48:Int)))=true ->
 ((0:Int)=(iV m s)/\false=(gD m s)))/\((decide ((((s.getD 0 0).toNat:Int))=(48:Int)))=false ->
 (oo s m)))))/\((decide ((1:Int)<((s.length:Int))))=(!true) ->
 ((false=true ->
 ((0:Int)=(iV m s)/\false=(gD m s)))/\(false=false ->
 (oo s m))))))
theorem Lv(s:List UInt8)(m:Int):cU (bo []) (aF kz) (Cd s m) 0 (bC (bo []) kz λ r=>bH r [⟨(.int .i64),iV m s⟩,⟨.bool,gD m s⟩]) (aO kz [.val ⟨.str,s⟩, .val ⟨(.int .i64),m⟩]) =
 ((ag ((s.length:Int)) ->
 (((decide (((s.length:Int))<(1:Int)))=false ->
 (ag ((s.length:Int)) ->
 (((decide (m<((s.length:Int))))=false ->
 (yo s m))/\((decide (m<((s.length:Int))))=(!false) ->
 ((true=true ->
 ((0:Int)=(iV m s)/\false=(gD m s)))/\(true=false ->
 (oo s m)))))))/\((decide (((s.length:Int))<(1:Int)))=(!false) ->
 ((true=false ->
 (yo s m))/\(true=(!false) ->
 ((true=true ->
 ((0:Int)=(iV m s)/\false=(gD m s)))/\(true=false ->
 (oo s m))))))))):=by kernel_rfl
theorem Lh(hE:aQ []):bb.Good nx:=by
 refine⟨aG Ae rfl (by decide),?_⟩
 show ∀ (s:List UInt8) (m:Int),(0<=m/\m<=9)->bD prog vz [.val ⟨.str,s⟩, .val ⟨(.int .i64),m⟩] (·=[⟨(.int .i64),iV m s⟩,⟨.bool,gD m s⟩])
 intro s m hp
 refine bu (wr:=[]) (cl:=[]) (ro:=[]) hE Ae GB (Cd s m) ?_
 rewrite [Lv s m]
 have f1:jC (s.take 0)=0:=by simp[jC]
 refine λ a0=>⟨λ a1=>λ a2=>⟨λ a3=>λ a4=>⟨λ a5=>⟨?_,⟨λ a6=>⟨?_,?_⟩,λ a6=>λ a7=>⟨⟨0,⟨?_,⟨⟨rfl,⟨?_,⟨rfl,⟨?_,trivial⟩⟩⟩⟩,trivial⟩⟩⟩,λ k1=>λ a8=>⟨λ a9=>⟨?_,⟨λ dt=>⟨?_,⟨λ dP=>⟨?_,?_⟩,λ dP=>⟨?_,⟨?_,⟨?_,⟨?_,⟨?_,⟨?_,⟨k1+1,⟨?_,⟨?_,⟨⟨rfl,⟨?_,⟨rfl,⟨?_,trivial⟩⟩⟩⟩,trivial⟩⟩⟩⟩⟩⟩⟩⟩⟩⟩⟩⟩,λ dt=>⟨λ dP=>⟨?_,?_⟩,λ dP=>⟨?_,⟨?_,⟨?_,⟨?_,⟨?_,⟨?_,⟨k1+1,⟨?_,⟨?_,⟨⟨rfl,⟨?_,⟨rfl,⟨?_,trivial⟩⟩⟩⟩,trivial⟩⟩⟩⟩⟩⟩⟩⟩⟩⟩⟩⟩⟩,λ a9=>⟨?_,?_⟩⟩⟩⟩⟩,λ a5=>⟨λ a6=>⟨?_,?_⟩,λ a6=>λ a7=>⟨⟨0,⟨?_,⟨⟨rfl,⟨?_,⟨rfl,⟨?_,trivial⟩⟩⟩⟩,trivial⟩⟩⟩,λ k1=>λ a8=>⟨λ a9=>⟨?_,⟨λ dt=>⟨?_,⟨λ dP=>⟨?_,?_⟩,λ dP=>⟨?_,⟨?_,⟨?_,⟨?_,⟨?_,⟨?_,⟨k1+1,⟨?_,⟨?_,⟨⟨rfl,⟨?_,⟨rfl,⟨?_,trivial⟩⟩⟩⟩,trivial⟩⟩⟩⟩⟩⟩⟩⟩⟩⟩⟩⟩,λ dt=>⟨λ dP=>⟨?_,?_⟩,λ dP=>⟨?_,⟨?_,⟨?_,⟨?_,⟨?_,⟨?_,⟨k1+1,⟨?_,⟨?_,⟨⟨rfl,⟨?_,⟨rfl,⟨?_,trivial⟩⟩⟩⟩,trivial⟩⟩⟩⟩⟩⟩⟩⟩⟩⟩⟩⟩⟩,λ a9=>⟨?_,?_⟩⟩⟩⟩⟩,λ a3=>⟨λ a4=>⟨?_,?_⟩,λ a4=>λ a5=>⟨⟨0,⟨?_,⟨⟨rfl,⟨?_,⟨rfl,⟨?_,trivial⟩⟩⟩⟩,trivial⟩⟩⟩,λ k1=>λ a6=>⟨λ a7=>⟨?_,⟨λ a8=>⟨?_,⟨λ a9=>⟨?_,?_⟩,λ a9=>⟨?_,⟨?_,⟨?_,⟨?_,⟨?_,⟨?_,⟨k1+1,⟨?_,⟨?_,⟨⟨rfl,⟨?_,⟨rfl,⟨?_,trivial⟩⟩⟩⟩,trivial⟩⟩⟩⟩⟩⟩⟩⟩⟩⟩⟩⟩,λ a8=>⟨λ a9=>⟨?_,?_⟩,λ a9=>⟨?_,⟨?_,⟨?_,⟨?_,⟨?_,⟨?_,⟨k1+1,⟨?_,⟨?_,⟨⟨rfl,⟨?_,⟨rfl,⟨?_,trivial⟩⟩⟩⟩,trivial⟩⟩⟩⟩⟩⟩⟩⟩⟩⟩⟩⟩⟩,λ a7=>⟨?_,?_⟩⟩⟩⟩⟩,λ a1=>⟨λ a2=>λ a3=>⟨λ a4=>⟨?_,⟨λ a5=>⟨?_,?_⟩,λ a5=>λ a6=>⟨⟨0,⟨?_,⟨⟨rfl,⟨?_,⟨rfl,⟨?_,trivial⟩⟩⟩⟩,trivial⟩⟩⟩,λ k1=>λ a7=>⟨λ a8=>⟨?_,⟨λ a9=>⟨?_,⟨λ dt=>⟨?_,?_⟩,λ dt=>⟨?_,⟨?_,⟨?_,⟨?_,⟨?_,⟨?_,⟨k1+1,⟨?_,⟨?_,⟨⟨rfl,⟨?_,⟨rfl,⟨?_,trivial⟩⟩⟩⟩,trivial⟩⟩⟩⟩⟩⟩⟩⟩⟩⟩⟩⟩,λ a9=>⟨λ dt=>⟨?_,?_⟩,λ dt=>⟨?_,⟨?_,⟨?_,⟨?_,⟨?_,⟨?_,⟨k1+1,⟨?_,⟨?_,⟨⟨rfl,⟨?_,⟨rfl,⟨?_,trivial⟩⟩⟩⟩,trivial⟩⟩⟩⟩⟩⟩⟩⟩⟩⟩⟩⟩⟩,λ a8=>⟨?_,?_⟩⟩⟩⟩⟩,λ a4=>⟨λ a5=>⟨?_,?_⟩,λ a5=>λ a6=>⟨⟨0,⟨?_,⟨⟨rfl,⟨?_,⟨rfl,⟨?_,trivial⟩⟩⟩⟩,trivial⟩⟩⟩,λ k1=>λ a7=>⟨λ a8=>⟨?_,⟨λ a9=>⟨?_,⟨λ dt=>⟨?_,?_⟩,λ dt=>⟨?_,⟨?_,⟨?_,⟨?_,⟨?_,⟨?_,⟨k1+1,⟨?_,⟨?_,⟨⟨rfl,⟨?_,⟨rfl,⟨?_,trivial⟩⟩⟩⟩,trivial⟩⟩⟩⟩⟩⟩⟩⟩⟩⟩⟩⟩,λ a9=>⟨λ dt=>⟨?_,?_⟩,λ dt=>⟨?_,⟨?_,⟨?_,⟨?_,⟨?_,⟨?_,⟨k1+1,⟨?_,⟨?_,⟨⟨rfl,⟨?_,⟨rfl,⟨?_,trivial⟩⟩⟩⟩,trivial⟩⟩⟩⟩⟩⟩⟩⟩⟩⟩⟩⟩⟩,λ a8=>⟨?_,?_⟩⟩⟩⟩⟩,λ a2=>⟨λ a3=>⟨?_,?_⟩,λ a3=>λ a4=>⟨⟨0,⟨?_,⟨⟨rfl,⟨?_,⟨rfl,⟨?_,trivial⟩⟩⟩⟩,trivial⟩⟩⟩,λ k1=>λ a5=>⟨λ a6=>⟨?_,⟨λ a7=>⟨?_,⟨λ a8=>⟨?_,?_⟩,λ a8=>⟨?_,⟨?_,⟨?_,⟨?_,⟨?_,⟨?_,⟨k1+1,⟨?_,⟨?_,⟨⟨rfl,⟨?_,⟨rfl,⟨?_,trivial⟩⟩⟩⟩,trivial⟩⟩⟩⟩⟩⟩⟩⟩⟩⟩⟩⟩,λ a7=>⟨λ a8=>⟨?_,?_⟩,λ a8=>⟨?_,⟨?_,⟨?_,⟨?_,⟨?_,⟨?_,⟨k1+1,⟨?_,⟨?_,⟨⟨rfl,⟨?_,⟨rfl,⟨?_,trivial⟩⟩⟩⟩,trivial⟩⟩⟩⟩⟩⟩⟩⟩⟩⟩⟩⟩⟩,λ a6=>⟨?_,?_⟩⟩⟩⟩⟩⟩
 all_goals try and_intros
 all_goals first|rfl|trivial|omega|((try simp only[a6g,a5Z,a5M,a5N,aV,Ue,Qt,ag,a0h,a0g] at *);first|omega|exact (Vd m s (by omega)).1.symm|exact (Vd m s (by omega)).2.symm|exact Wa m s (by omega) (by omega)|(have hq:Cu m s k1:=(by with_reducible assumption);have hl:=Z2 m s k1 hq;first|omega|exact (SC m s k1 hq (by omega) (by omega)).1.symm|exact (SC m s k1 hq (by omega) (by omega)).2.symm|exact (Jn m s k1 hq (by omega) (by omega) (by omega)).1|exact (Jn m s k1 hq (by omega) (by omega) (by omega)).2.symm|(rw[(Jn m s k1 hq (by omega) (by omega) (by omega)).2];omega)|exact (SD m s k1 hq (by omega)).1.symm|exact (SD m s k1 hq (by omega)).2.symm))
theorem Hb:bb.Good nx:=Lh trivial
def cQ(b n:Int):Bool:=decide (0<=n/\n<=b - 1)
theorem qF(b n:Int):cQ b n=decide (0<=n/\n<=b - 1):=rfl
def Lr(gg:aD)(x:bl):Bool:=decide (x.az.length=x.aA.length+1)&&b9 (cQ (aP gg)) x.az&&b9 (cQ gg.ai) x.aA
def gu(gg:aD)(x:bl):Bool:=decide (x.aA.length<=10)&&Lr gg x
theorem tw(gg:aD)(h:aY gg=true):(0<=gg.aE/\gg.aE<=3)/\(0<=gg.ai/\gg.ai<=4)/\1<=aP gg/\aP gg<=8:=by
 have h':=(nM gg).1 h
 exact⟨h'.1,h'.2,ES gg h'.1⟩
def l8:bb:=⟨tT,[.v (.slice (.int .i64)), .v (.int .i64)],λ (xs:List Int) (below:Int)=>⟨(some (0<=below/\below<=4096),[⟨.bool,b9 (cQ below) xs⟩])⟩⟩
def At(xs:List Int)(below:Int):Nat->aX:=(λ zb=>if Nat.beq zb 0 then .mk (Nat) (λ k=>k<=xs.length/\b9 (cQ below) (xs.take k)=true) (λ k=>xs.length - k) [] [0,2,3,5] (λ k=>[(9, .aS ⟨(.int .i64),((k:Int):Int)⟩)]) [1,4,6,7,8,9,10,11,12,13,14,15,16,17,18] (λ k=>[]) [] [] (λ k=>λ _ => .none) else .none)
theorem JT(xs:List Int)(below:Int):cU (bo [dM]) (aF jb) (At xs below) 0 (bC (bo [dM]) jb λ r=>bH r [⟨.bool,b9 (cQ below) xs⟩]) (aO jb [.val ⟨(.slice (.int .i64)),xs⟩, .val ⟨(.int .i64),below⟩]) =
 ((ag ((xs.length:Int)) ->
 ((∃ k1:Nat,((k1<=xs.length/\b9 (cQ below) (xs.take k1)=true)/\((below=below/\(xs=xs/\(((xs.length:Int))=((xs.length:Int))/\((0:Int)=(k1:Int)/\True))))/\True)))/\(∀ k1:Nat,((k1<=xs.length/\b9 (cQ below) (xs.take k1)=true) ->
 (((decide ((k1:Int)<((xs.length:Int))))=true ->
 (aV (k1:Int) xs.length/\(ag (xs.getD k1 (0:Int)) ->
 (ag (below - (1:Int))/\((((!(decide ((0:Int)<=(xs.getD k1 (0:Int))/\(xs.getD k1 (0:Int))<=(below - (1:Int)))))=true) ->
 false=(b9 (cQ below) xs))/\(((!(decide ((0:Int)<=(xs.getD k1 (0:Int))/\(xs.getD k1 (0:Int))<=(below - (1:Int)))))=false) ->
 (ag ((k1:Int)+(1:Int))/\(∃ k2:Nat,((k2<=xs.length/\b9 (cQ below) (xs.take k2)=true)/\(xs.length - k2<xs.length - k1/\((below=below/\(xs=xs/\(((xs.length:Int))=((xs.length:Int))/\(((k1:Int)+(1:Int))=(k2:Int)/\True))))/\True)))))))))))/\((decide ((k1:Int)<((xs.length:Int))))=false ->
 true=(b9 (cQ below) xs)))))))):=by kernel_rfl
theorem Jq(hE:aQ [dM]):bb.Good l8:=by
 refine⟨aG xJ rfl (by decide),?_⟩
 show ∀ (xs:List Int) (below:Int),(0<=below/\below<=4096)->bD prog tT [.val ⟨(.slice (.int .i64)),xs⟩, .val ⟨(.int .i64),below⟩] (·=[⟨.bool,b9 (cQ below) xs⟩])
 intro xs below hp
 refine bu (wr:=[]) (cl:=[]) (ro:=[]) hE xJ EU (At xs below) ?_
 rewrite [JT xs below]
 have f0:=all_zero (cQ below) xs
 refine λ a0=>⟨⟨0,⟨?_,⟨⟨rfl,⟨rfl,⟨rfl,⟨?_,trivial⟩⟩⟩⟩,trivial⟩⟩⟩,λ k1 a1=>have a2Y:=cP (cQ below) 0 xs k1;have a2Z:=dv (cQ below) 0 xs k1;have a3a:=dd (cQ below) xs k1;have a3b:=qF below (xs.getD k1 0);⟨λ a2=>⟨?_,λ a3=>⟨?_,⟨λ a4=>?_,λ a4=>⟨?_,⟨k1+1,⟨?_,⟨?_,⟨⟨rfl,⟨rfl,⟨rfl,⟨?_,trivial⟩⟩⟩⟩,trivial⟩⟩⟩⟩⟩⟩⟩⟩,λ a2=>?_⟩⟩
 all_goals try and_intros
 all_goals first|rfl|trivial|omega|(simp only[decide_eq_true_eq,decide_eq_false_iff_not,aV,ag] at *;first|omega|grind)|grind [aV,ag]
theorem Fg:bb.Good l8:=Jq ⟨qz,trivial⟩
def l9:bb:=⟨tU,[.v (.st .sig), .v (.st .word)],λ (gg:aD) (x:bl)=>⟨(some (aY gg=true/\x.aA.length<=10),[⟨.bool,Lr gg x⟩])⟩⟩
def Au(gg:aD)(x:bl):Nat->aX:=λ _ => .none
abbrev wE(gg:aD)(x:bl):Prop:=(x.aA.length<=140737488355328 ->
 (ag gg.ai ->
 ((0<=gg.ai/\gg.ai<=4096)/\(b9 (cQ gg.ai) x.aA)=(Lr gg x))))
theorem JU(gg:aD)(x:bl):cU (bo [l8,l7] [] [] [2,3]) (aF jc) (Au gg x) 0 (bC (bo [l8,l7] [] [] [2,3]) jc λ r=>bH r [⟨.bool,Lr gg x⟩]) (aO jc [.val ⟨(.st .sig),gg⟩, .val ⟨(.st .word),x⟩]) =
 ((ag (((x.aA.length:Int))+(1:Int))/\(((decide (((x.az.length:Int))=(((x.aA.length:Int))+(1:Int))))=true ->
 ((0<=gg.aE/\gg.aE<=3)/\((0<=(aP gg)/\(aP gg)<=4096)/\(((b9 (cQ (aP gg)) x.az)=true ->
 (x.az.length<=140737488355328 ->
 (ag ((x.az.length:Int)) ->
 (x.aA.length<=140737488355328 ->
 (ag ((x.aA.length:Int)) ->
 (x.az.length<=140737488355328 ->
 (ag (aP gg) ->
 (wE gg x))))))))/\((b9 (cQ (aP gg)) x.az)=(!true) ->
 (x.az.length<=140737488355328 ->
 (ag ((x.az.length:Int)) ->
 (x.aA.length<=140737488355328 ->
 (ag ((x.aA.length:Int)) ->
 (x.az.length<=140737488355328 ->
 (ag (aP gg) ->
 false=(Lr gg x))))))))))))/\((decide (((x.az.length:Int))=(((x.aA.length:Int))+(1:Int))))=(!true) ->
 ((false=true ->
 (x.az.length<=140737488355328 ->
 (ag ((x.az.length:Int)) ->
 (x.aA.length<=140737488355328 ->
 (ag ((x.aA.length:Int)) ->
 (wE gg x))))))/\(false=(!true) ->
 (x.az.length<=140737488355328 ->
 (ag ((x.az.length:Int)) ->
 (x.aA.length<=140737488355328 ->
 (ag ((x.aA.length:Int)) ->
 false=(Lr gg x))))))))))):=by kernel_rfl
theorem Jr(hE:aQ [l8,l7]):bb.Good l9:=by
 refine⟨aG xK rfl (by decide),?_⟩
 show ∀ (gg:aD) (x:bl),(aY gg=true/\x.aA.length<=10)->bD prog tU [.val ⟨(.st .sig),gg⟩, .val ⟨(.st .word),x⟩] (·=[⟨.bool,Lr gg x⟩])
 intro gg x hp
 refine bu (wr:=[]) (cl:=[]) (ro:=[2,3]) hE xK EV (Au gg x) ?_
 rewrite [JU gg x]
 have f0:=tw gg hp.1
 refine⟨?_,⟨λ a0=>⟨?_,⟨?_,⟨λ a1=>λ a2=>λ a3=>λ a4=>λ a5=>λ a6=>λ a7=>λ a8=>λ a9=>⟨?_,?_⟩,λ a1=>λ a2=>λ a3=>λ a4=>λ a5=>λ a6=>λ a7=>?_⟩⟩⟩,λ a0=>⟨λ a1=>λ a2=>λ a3=>λ a4=>λ a5=>λ a6=>λ a7=>⟨?_,?_⟩,λ a1=>λ a2=>λ a3=>λ a4=>λ a5=>?_⟩⟩⟩
 all_goals try and_intros
 all_goals try unfold Lr
 all_goals first|rfl|trivial|omega|(simp only[decide_eq_true_eq,decide_eq_false_iff_not,aV,ag] at *;first|omega|grind)|grind [aV,ag]
theorem Fh:bb.Good l9:=Jr ⟨Fg,Fe,trivial⟩
def gh:bb:=⟨vx,[.v (.st .sig), .v (.st .word)],λ (gg:aD) (x:bl)=>⟨(some (aY gg=true),[⟨.bool,gu gg x⟩])⟩⟩
def Cb(gg:aD)(x:bl):Nat->aX:=λ _ => .none
theorem Lt(gg:aD)(x:bl):cU (bo [l9] [] [] [2,3]) (aF kx) (Cb gg x) 0 (bC (bo [l9] [] [] [2,3]) kx λ r=>bH r [⟨.bool,gu gg x⟩]) (aO kx [.val ⟨(.st .sig),gg⟩, .val ⟨(.st .word),x⟩]) =
 ((x.aA.length<=140737488355328 ->
 (ag ((x.aA.length:Int)) ->
 (((decide (((x.aA.length:Int))<=(10:Int)))=true ->
 ((aY gg=true/\x.aA.length<=10)/\(Lr gg x)=(gu gg x)))/\((decide (((x.aA.length:Int))<=(10:Int)))=(!true) ->
 false=(gu gg x)))))):=by kernel_rfl
theorem Lf(hE:aQ [l9]):bb.Good gh:=by
 refine⟨aG Ac rfl (by decide),?_⟩
 show ∀ (gg:aD) (x:bl),(aY gg=true)->bD prog vx [.val ⟨(.st .sig),gg⟩, .val ⟨(.st .word),x⟩] (·=[⟨.bool,gu gg x⟩])
 intro gg x hp
 refine bu (wr:=[]) (cl:=[]) (ro:=[2,3]) hE Ac Gz (Cb gg x) ?_
 rewrite [Lt gg x]
 refine λ a0=>λ a1=>⟨λ a2=>⟨?_,?_⟩,λ a2=>?_⟩
 all_goals try and_intros
 all_goals try unfold gu
 all_goals first|rfl|trivial|omega|(simp only[decide_eq_true_eq,decide_eq_false_iff_not,aV,ag] at *;first|omega|grind)|grind [aV,ag]
theorem wu:bb.Good gh:=Lf ⟨Fh,trivial⟩
def fe:bb:=⟨tX,[.v (.st .sig), .r (.st .word)],λ (gg:aD) (x:bl)=>⟨(none,[⟨.bool,aY gg&&gu gg x⟩])⟩⟩
def AE(gg:aD)(x:bl):Nat->aX:=(λ zb=>if Nat.beq zb 0 then .mk (Nat) (λ k=>aY gg=true/\x.aA.length<=10/\x.az.length=x.aA.length+1/\k<=x.az.length/\b9 (cQ (aP gg)) (x.az.take k)=true) (λ k=>x.az.length - k) [] [0,3,7,8,9,10,11,12,13,14,15,16,17,18,19,20,21,22,23,24,25,26,27,28,29,30,31] (λ k=>[(5, .aS ⟨(.int .i64),((k:Int):Int)⟩)]) [1,2,4,5,6,32,33,34,35,36,37,38,39,40,41,42,43,44,45,46,47,48,49,50,51,52,53,54,55,56,57,58,59,60,61,62,63,64,65,66,67,68,69,70,71,72,73] (λ k=>[]) [] [] (λ k=>λ _ => .none) else if Nat.beq zb 2 then .mk (Nat) (λ j=>aY gg=true/\x.aA.length<=10/\x.az.length=x.aA.length+1/\b9 (cQ (aP gg)) x.az=true/\j<=x.aA.length/\b9 (cQ gg.ai) (x.aA.take j)=true) (λ j=>x.aA.length - j) [] [0,3,5,7,8,9,10,11,12,13,14,15,16,17,18,19,20,21,22,23,24,25,26,27,28,29,30,31,32,33,34,35,36,37,38,39,40,41,42,43,44,45,46,47,48,49,50,51,52] (λ j=>[(6, .aS ⟨(.int .i64),((j:Int):Int)⟩)]) [1,2,4,6,53,54,55,56,57,58,59,60,61,62,63,64,65,66,67,68,69,70,71,72,73] (λ j=>[]) [] [] (λ j=>λ _ => .none) else .none)
abbrev qJ(gg:aD)(x:bl):Prop:=((∃ k1:Nat,((aY gg=true/\x.aA.length<=10/\x.az.length=x.aA.length+1/\k1<=x.az.length/\b9 (cQ (aP gg)) (x.az.take k1)=true)/\((x=x/\(gg=gg/\((0:Int)=(k1:Int)/\True)))/\True)))/\(∀ k1:Nat,((aY gg=true/\x.aA.length<=10/\x.az.length=x.aA.length+1/\k1<=x.az.length/\b9 (cQ (aP gg)) (x.az.take k1)=true) ->
 (x.az.length<=140737488355328 ->
 (ag ((x.az.length:Int)) ->
 (((decide ((k1:Int)<((x.az.length:Int))))=true ->
 (aV (k1:Int) x.az.length/\((0<=gg.aE/\gg.aE<=3)/\(ag ((aP gg) - (1:Int))/\(x.az.length<=140737488355328 ->
 (ag (x.az.getD k1 (0:Int)) ->
 (ag (aP gg) ->
 ((((!(decide ((0:Int)<=(x.az.getD k1 (0:Int))/\(x.az.getD k1 (0:Int))<=((aP gg) - (1:Int)))))=true) ->
 false=(aY gg&&gu gg x))/\(((!(decide ((0:Int)<=(x.az.getD k1 (0:Int))/\(x.az.getD k1 (0:Int))<=((aP gg) - (1:Int)))))=false) ->
 (ag ((k1:Int)+(1:Int))/\(∃ k2:Nat,((aY gg=true/\x.aA.length<=10/\x.az.length=x.aA.length+1/\k2<=x.az.length/\b9 (cQ (aP gg)) (x.az.take k2)=true)/\(x.az.length - k2<x.az.length - k1/\((x=x/\(gg=gg/\(((k1:Int)+(1:Int))=(k2:Int)/\True)))/\True))))))))))))))/\((decide ((k1:Int)<((x.az.length:Int))))=false ->
 ((∃ j2:Nat,((aY gg=true/\x.aA.length<=10/\x.az.length=x.aA.length+1/\b9 (cQ (aP gg)) x.az=true/\j2<=x.aA.length/\b9 (cQ gg.ai) (x.aA.take j2)=true)/\((x=x/\(gg=gg/\((0:Int)=(j2:Int)/\True)))/\True)))/\(∀ j2:Nat,((aY gg=true/\x.aA.length<=10/\x.az.length=x.aA.length+1/\b9 (cQ (aP gg)) x.az=true/\j2<=x.aA.length/\b9 (cQ gg.ai) (x.aA.take j2)=true) ->
 (x.aA.length<=140737488355328 ->
 (ag ((x.aA.length:Int)) ->
 (((decide ((j2:Int)<((x.aA.length:Int))))=true ->
 (aV (j2:Int) x.aA.length/\(ag (gg.ai - (1:Int))/\(x.aA.length<=140737488355328 ->
 (ag (x.aA.getD j2 (0:Int)) ->
 (ag gg.ai ->
 ((((!(decide ((0:Int)<=(x.aA.getD j2 (0:Int))/\(x.aA.getD j2 (0:Int))<=(gg.ai - (1:Int)))))=true) ->
 false=(aY gg&&gu gg x))/\(((!(decide ((0:Int)<=(x.aA.getD j2 (0:Int))/\(x.aA.getD j2 (0:Int))<=(gg.ai - (1:Int)))))=false) ->
 (ag ((j2:Int)+(1:Int))/\(∃ j3:Nat,((aY gg=true/\x.aA.length<=10/\x.az.length=x.aA.length+1/\b9 (cQ (aP gg)) x.az=true/\j3<=x.aA.length/\b9 (cQ gg.ai) (x.aA.take j3)=true)/\(x.aA.length - j3<x.aA.length - j2/\((x=x/\(gg=gg/\(((j2:Int)+(1:Int))=(j3:Int)/\True)))/\True)))))))))))))/\((decide ((j2:Int)<((x.aA.length:Int))))=false ->
 true=(aY gg&&gu gg x)))))))))))))))
abbrev wK(gg:aD)(x:bl):Prop:=(x.az.length<=140737488355328 ->
 (ag ((x.az.length:Int)) ->
 (x.aA.length<=140737488355328 ->
 (ag ((x.aA.length:Int)) ->
 (((!(decide (((x.az.length:Int))=(((x.aA.length:Int))+(1:Int)))))=true ->
 false=(aY gg&&gu gg x))/\((!(decide (((x.az.length:Int))=(((x.aA.length:Int))+(1:Int)))))=false ->
 (qJ gg x)))))))
theorem J3(gg:aD)(x:bl):cU (bo [gi,dk,cN] [] [] [2]) (aF jl) (AE gg x) 0 (bC (bo [gi,dk,cN] [] [] [2]) jl λ r=>bH r [⟨.bool,aY gg&&gu gg x⟩]) (aO jl [.val ⟨(.st .sig),gg⟩, .ref ⟨(.st .word),x⟩]) =
 ((((!(aY gg))=false ->
 (((decide ((10:Int)<((x.aA.length:Int))))=false ->
 (ag (((x.aA.length:Int))+(1:Int))/\(x.aA.length<=140737488355328 ->
 (ag ((x.aA.length:Int)) ->
 (wK gg x)))))/\((decide ((10:Int)<((x.aA.length:Int))))=(!false) ->
 (x.aA.length<=140737488355328 ->
 (ag ((x.aA.length:Int)) ->
 ((true=true ->
 false=(aY gg&&gu gg x))/\(true=false ->
 (qJ gg x))))))))/\((!(aY gg))=(!false) ->
 ((true=false ->
 (ag (((x.aA.length:Int))+(1:Int))/\(wK gg x)))/\(true=(!false) ->
 ((true=true ->
 false=(aY gg&&gu gg x))/\(true=false ->
 (qJ gg x)))))))):=by kernel_rfl
theorem JA(hE:aQ [gi,dk,cN]):bb.Good fe:=by
 refine⟨aG xN rfl (by decide),?_⟩
 show ∀ (gg:aD) (x:bl),True->bD prog tX [.val ⟨(.st .sig),gg⟩, .ref ⟨(.st .word),x⟩] (·=[⟨.bool,aY gg&&gu gg x⟩])
 intro gg x _
 refine bu (wr:=[]) (cl:=[]) (ro:=[2]) hE xN E4 (AE gg x) ?_
 rewrite [J3 gg x]
 have f0:=all_zero (cQ (aP gg)) x.az
 have f1:=all_zero (cQ gg.ai) x.aA
 have f2:=tw gg
 have f3:gu gg x=(decide (x.aA.length<=10)&&(decide (x.az.length=x.aA.length+1)&&b9 (cQ (aP gg)) x.az&&b9 (cQ gg.ai) x.aA)):=rfl
 refine⟨λ a0=>⟨λ a1=>⟨?_,λ a2=>λ a3=>λ a4=>λ a5=>λ a6=>λ a7=>⟨λ a8=>?_,λ a8=>⟨⟨0,⟨?_,⟨⟨rfl,⟨rfl,⟨?_,trivial⟩⟩⟩,trivial⟩⟩⟩,λ k1 a9=>have UM:=cP (cQ (aP gg)) 0 x.az k1;have UN:=dv (cQ (aP gg)) 0 x.az k1;have UO:=dd (cQ (aP gg)) x.az k1;have WS:=qF (aP gg) (x.az.getD k1 0);λ dt=>λ dP=>⟨λ a12=>⟨?_,⟨?_,⟨?_,λ dK=>λ eK=>λ fi=>⟨λ ju=>?_,λ ju=>⟨?_,⟨k1+1,⟨?_,⟨?_,⟨⟨rfl,⟨rfl,⟨?_,trivial⟩⟩⟩,trivial⟩⟩⟩⟩⟩⟩⟩⟩⟩,λ a12=>⟨⟨0,⟨?_,⟨⟨rfl,⟨rfl,⟨?_,trivial⟩⟩⟩,trivial⟩⟩⟩,λ j2 dK=>have a1E:=cP (cQ gg.ai) 0 x.aA j2;have a1F:=dv (cQ gg.ai) 0 x.aA j2;have a1G:=dd (cQ gg.ai) x.aA j2;have a1H:=qF gg.ai (x.aA.getD j2 0);λ eK=>λ fi=>⟨λ ju=>⟨?_,⟨?_,λ Gm=>λ WK=>λ a19=>⟨λ a20=>?_,λ a20=>⟨?_,⟨j2+1,⟨?_,⟨?_,⟨⟨rfl,⟨rfl,⟨?_,trivial⟩⟩⟩,trivial⟩⟩⟩⟩⟩⟩⟩⟩,λ ju=>?_⟩⟩⟩⟩⟩⟩,λ a1=>λ a2=>λ a3=>⟨λ a4=>?_,λ a4=>⟨⟨0,⟨?_,⟨⟨rfl,⟨rfl,⟨?_,trivial⟩⟩⟩,trivial⟩⟩⟩,λ k1 a5=>have a0s:=cP (cQ (aP gg)) 0 x.az k1;have a0t:=dv (cQ (aP gg)) 0 x.az k1;have a0u:=dd (cQ (aP gg)) x.az k1;have a3h:=qF (aP gg) (x.az.getD k1 0);λ a6=>λ a7=>⟨λ a8=>⟨?_,⟨?_,⟨?_,λ a9=>λ dt=>λ dP=>⟨λ a12=>?_,λ a12=>⟨?_,⟨k1+1,⟨?_,⟨?_,⟨⟨rfl,⟨rfl,⟨?_,trivial⟩⟩⟩,trivial⟩⟩⟩⟩⟩⟩⟩⟩⟩,λ a8=>⟨⟨0,⟨?_,⟨⟨rfl,⟨rfl,⟨?_,trivial⟩⟩⟩,trivial⟩⟩⟩,λ j2 a9=>have UM:=cP (cQ gg.ai) 0 x.aA j2;have UN:=dv (cQ gg.ai) 0 x.aA j2;have UO:=dd (cQ gg.ai) x.aA j2;have WS:=qF gg.ai (x.aA.getD j2 0);λ dt=>λ dP=>⟨λ a12=>⟨?_,⟨?_,λ dK=>λ eK=>λ fi=>⟨λ ju=>?_,λ ju=>⟨?_,⟨j2+1,⟨?_,⟨?_,⟨⟨rfl,⟨rfl,⟨?_,trivial⟩⟩⟩,trivial⟩⟩⟩⟩⟩⟩⟩⟩,λ a12=>?_⟩⟩⟩⟩⟩⟩,λ a0=>⟨λ a1=>⟨?_,λ a2=>λ a3=>λ a4=>λ a5=>⟨λ a6=>?_,λ a6=>⟨⟨0,⟨?_,⟨⟨rfl,⟨rfl,⟨?_,trivial⟩⟩⟩,trivial⟩⟩⟩,λ k1 a7=>have Rr:=cP (cQ (aP gg)) 0 x.az k1;have Rs:=dv (cQ (aP gg)) 0 x.az k1;have Rt:=dd (cQ (aP gg)) x.az k1;have UL:=qF (aP gg) (x.az.getD k1 0);λ a8=>λ a9=>⟨λ dt=>⟨?_,⟨?_,⟨?_,λ dP=>λ a12=>λ dK=>⟨λ eK=>?_,λ eK=>⟨?_,⟨k1+1,⟨?_,⟨?_,⟨⟨rfl,⟨rfl,⟨?_,trivial⟩⟩⟩,trivial⟩⟩⟩⟩⟩⟩⟩⟩⟩,λ dt=>⟨⟨0,⟨?_,⟨⟨rfl,⟨rfl,⟨?_,trivial⟩⟩⟩,trivial⟩⟩⟩,λ j2 dP=>have PR:=cP (cQ gg.ai) 0 x.aA j2;have PS:=dv (cQ gg.ai) 0 x.aA j2;have PT:=dd (cQ gg.ai) x.aA j2;have Tm:=qF gg.ai (x.aA.getD j2 0);λ a12=>λ dK=>⟨λ eK=>⟨?_,⟨?_,λ fi=>λ ju=>λ Gm=>⟨λ WK=>?_,λ WK=>⟨?_,⟨j2+1,⟨?_,⟨?_,⟨⟨rfl,⟨rfl,⟨?_,trivial⟩⟩⟩,trivial⟩⟩⟩⟩⟩⟩⟩⟩,λ eK=>?_⟩⟩⟩⟩⟩⟩,λ a1=>⟨λ a2=>?_,λ a2=>⟨⟨0,⟨?_,⟨⟨rfl,⟨rfl,⟨?_,trivial⟩⟩⟩,trivial⟩⟩⟩,λ k1 a3=>have a0q:=cP (cQ (aP gg)) 0 x.az k1;have a0r:=dv (cQ (aP gg)) 0 x.az k1;have a3c:=dd (cQ (aP gg)) x.az k1;have a3d:=qF (aP gg) (x.az.getD k1 0);λ a4=>λ a5=>⟨λ a6=>⟨?_,⟨?_,⟨?_,λ a7=>λ a8=>λ a9=>⟨λ dt=>?_,λ dt=>⟨?_,⟨k1+1,⟨?_,⟨?_,⟨⟨rfl,⟨rfl,⟨?_,trivial⟩⟩⟩,trivial⟩⟩⟩⟩⟩⟩⟩⟩⟩,λ a6=>⟨⟨0,⟨?_,⟨⟨rfl,⟨rfl,⟨?_,trivial⟩⟩⟩,trivial⟩⟩⟩,λ j2 a7=>have Rr:=cP (cQ gg.ai) 0 x.aA j2;have Rs:=dv (cQ gg.ai) 0 x.aA j2;have Rt:=dd (cQ gg.ai) x.aA j2;have UL:=qF gg.ai (x.aA.getD j2 0);λ a8=>λ a9=>⟨λ dt=>⟨?_,⟨?_,λ dP=>λ a12=>λ dK=>⟨λ eK=>?_,λ eK=>⟨?_,⟨j2+1,⟨?_,⟨?_,⟨⟨rfl,⟨rfl,⟨?_,trivial⟩⟩⟩,trivial⟩⟩⟩⟩⟩⟩⟩⟩,λ dt=>?_⟩⟩⟩⟩⟩⟩⟩
 all_goals try and_intros
 all_goals first|rfl|trivial|omega|(simp only[decide_eq_true_eq,decide_eq_false_iff_not,aV,ag] at *;first|omega|grind)|grind [aV,ag]
theorem u9:bb.Good fe:=JA ⟨wy,oJ,kO,trivial⟩
end
end Go.Proofs.YtnehkikdlnmebaaGreatDoor

set_option maxRecDepth 4000
set_option maxHeartbeats 4000000
namespace Go.Proofs.YtnehkikdlnmebaaGreatDoor
noncomputable section
def fD:fY:=⟨nD,[[.d (.slice (.int .u8)), .d (.int .i64), .d (.int .u64)]],[.b 0, .v (.slice (.int .i64))],[[(.slice (.int .u8)),(.int .i64),(.int .u64)]],λ (xs:List Int) (J:List Int) (U:Int) (M:Int)=>⟨(some (bz J (Sr.mk U M) 990000000/\0<xs.length/\xs.length<=1000),[⟨(.int .i64),xs.getD (pk J (Sr.mk U M) (xs.length:Int)).toNat 0⟩],[[⟨(.slice (.int .u8)),J⟩,⟨(.int .i64),(aI J (Sr.mk U M) (xs.length:Int)).U⟩,⟨(.int .u64),(aI J (Sr.mk U M) (xs.length:Int)).M⟩]])⟩⟩
def rO(xs:List Int)(J:List Int)(U:Int)(M:Int):Nat->aX:=λ _ => .none
theorem Aa(xs:List Int)(J:List Int)(U:Int)(M:Int):cU (dj [] [] [] [] [] [] [] [bh]) (aF ew) (rO xs J U M) 0 (gS (dj [] [] [] [] [] [] [] [bh]) ew [[.d (.slice (.int .u8)), .d (.int .i64), .d (.int .u64)]] λ r ds=>bH r [⟨(.int .i64),xs.getD (pk J (Sr.mk U M) (xs.length:Int)).toNat 0⟩]/\jv ds [[⟨(.slice (.int .u8)),J⟩,⟨(.int .i64),(aI J (Sr.mk U M) (xs.length:Int)).U⟩,⟨(.int .u64),(aI J (Sr.mk U M) (xs.length:Int)).M⟩]]) (cB ew [.box 0, .val ⟨(.slice (.int .i64)),xs⟩] [[.d (.slice (.int .u8)), .d (.int .i64), .d (.int .u64)]] [[⟨(.slice (.int .u8)),J⟩,⟨(.int .i64),U⟩,⟨(.int .u64),M⟩]]) =
 ((ag ((xs.length:Int)) ->
 ((bz J (Sr.mk U M) 999999000/\((xs.length:Int))<=1000000)/\(aV (pk J (Sr.mk U M) ((xs.length:Int))) xs.length/\(ag (xs.getD (Int.toNat (pk J (Sr.mk U M) ((xs.length:Int)))) (0:Int)) ->
 ((xs.getD (Int.toNat (pk J (Sr.mk U M) ((xs.length:Int)))) (0:Int))=(xs.getD (pk J (Sr.mk U M) (xs.length:Int)).toNat 0)/\((J=J/\(((aI J (Sr.mk U M) ((xs.length:Int))).U)=((aI J (Sr.mk U M) (xs.length:Int)).U)/\((aI J (Sr.mk U M) ((xs.length:Int))).M)=((aI J (Sr.mk U M) (xs.length:Int)).M)))/\True))))))):=by kernel_rfl
theorem zR(hE:aQ [])(hO:iE [])(hM:iS [])(hS:gU [bh]):fY.Good fD:=by
 refine⟨aG rD rfl (by decide),?_⟩
 show ∀ (xs:List Int) (J:List Int) (U:Int) (M:Int),(bz J (Sr.mk U M) 990000000/\0<xs.length/\xs.length<=1000)->p7 prog nD [[.d (.slice (.int .u8)), .d (.int .i64), .d (.int .u64)]] [.box 0, .val ⟨(.slice (.int .i64)),xs⟩] [[⟨(.slice (.int .u8)),J⟩,⟨(.int .i64),U⟩,⟨(.int .u64),M⟩]] [⟨(.int .i64),xs.getD (pk J (Sr.mk U M) (xs.length:Int)).toNat 0⟩] [[⟨(.slice (.int .u8)),J⟩,⟨(.int .i64),(aI J (Sr.mk U M) (xs.length:Int)).U⟩,⟨(.int .u64),(aI J (Sr.mk U M) (xs.length:Int)).M⟩]]
 intro xs J U M hp
 refine eN (own:=[]) (wr:=[]) (cl:=[]) (ro:=[]) hE hO hM hS rD xS (rO xs J U M) rfl rfl ?_
 rewrite [Aa xs J U M]
 have p0:=hp.1.pk (xs.length:Int)
 refine λ a0=>⟨?_,⟨?_,λ a1=>⟨?_,⟨⟨rfl,⟨?_,?_⟩⟩,trivial⟩⟩⟩⟩
 all_goals try and_intros
 all_goals first|rfl|trivial|omega|exact hp.1.mono (by decide)|(simp only[yY,aV,ag] at *;first|rfl|omega)
theorem xA:fY.Good fD:=zR trivial trivial trivial ⟨dm,trivial⟩
def iI:bb:=⟨pP,[.v (.st .sig)],λ (gg:aD)=>⟨(some (0<=gg.aE/\gg.aE<=3),[⟨(.int .i64),aP gg⟩])⟩⟩
def vu(gg:aD):Nat->aX:=λ _ => .none
theorem D3(gg:aD):cU (bo [cN,dk] [] [] [1]) (aF fQ) (vu gg) 0 (bC (bo [cN,dk] [] [] [1]) fQ λ r=>bH r [⟨(.int .i64),aP gg⟩]) (aO fQ [.val ⟨(.st .sig),gg⟩]) =
 ((ag gg.aE ->
 ((((!(decide ((0:Int)<=gg.aE/\gg.aE<=(3:Int))))=true) ->
 (1:Int)=(aP gg))/\(((!(decide ((0:Int)<=gg.aE/\gg.aE<=(3:Int))))=false) ->
 ((0<=gg.aE/\gg.aE<=3)/\(ag (aP gg) ->
 (aP gg)=(aP gg))))))):=by kernel_rfl
theorem DZ(hE:aQ [cN,dk]):bb.Good iI:=by
 refine⟨aG uc rfl (by decide),?_⟩
 show ∀ (gg:aD),(0<=gg.aE/\gg.aE<=3)->bD prog pP [.val ⟨(.st .sig),gg⟩] (·=[⟨(.int .i64),aP gg⟩])
 intro gg hp
 refine bu (wr:=[]) (cl:=[]) (ro:=[1]) hE uc AY (vu gg) ?_
 rewrite [D3 gg]
 refine λ a0=>⟨λ a1=>?_,λ a1=>⟨?_,λ a2=>rfl⟩⟩
 all_goals try and_intros
 all_goals first|rfl|trivial|omega|(simp only[a5M,a5N] at *;omega)|(intro q;exact absurd q (by simp;omega))|(simp_all;done)|(simp_all;omega)
theorem A4:bb.Good iI:=DZ ⟨kO,oJ,trivial⟩
structure Wd where
 az:List Int
 aA:List Int
 s:Sr
abbrev qu(gg:aD):Int:=max 1 gg.ai
abbrev Uh(gg:aD):Int:=max 1 (aP gg)
def gL(J:List Int)(gg:aD)(s:Sr):Nat->Wd
 | 0=>⟨[(pk J s 8).tmod (Uh gg)],[],aI J (aI J s 8) 5⟩
 | i+1=>⟨(gL J gg s i).az++[(pk J (aI J (gL J gg s i).s (qu gg)) 8).tmod (Uh gg)],(gL J gg s i).aA++[pk J (gL J gg s i).s (qu gg)],aI J (aI J (gL J gg s i).s (qu gg)) 8⟩
def rA(J:List Int)(s:Sr):Int:=pk J (aI J s 8) 5
def cd(J:List Int)(gg:aD)(s:Sr):Wd:=gL J gg s (rA J s).toNat
def A1(J:List Int)(gg:aD)(s:Sr):Int:=pk J (cd J gg s).s 30
def gP(J:List Int)(s:Sr):Nat->Sr
 | 0=>s
 | n+1=>aI J (gP J s n) 2
def pdC(J:List Int)(l:Nat)(s:Sr)(n:Nat):Bool:=decide ((l:Int)+(n:Int)<10+pk J (gP J s n) 2)
def GZ(c:Nat->Bool):Nat->Nat->Nat
 | 0,n=>n
 | f+1,n=>if c n=true then GZ c f (n+1) else n
theorem MG(c:Nat->Bool):∀ (f m n:Nat),m<=n->n<=m+f->(∀ j,m<=j->j<n->c j=true)->c n=false->GZ c f m=n
 | 0,m,n,h1,h2,_,_=>by simp[GZ];omega
 | f+1,m,n,h1,h2,h3,h4=>by
  unfold GZ
  rcases a6w m n with q|q
  .rw[a5T (h3 m (a6b _) q)]
   exact MG c f (m+1) n (by omega) (by omega) (λ j a b=>h3 j (by omega) b) h4
  .have:m=n:=by omega
   subst this
   rw[a5J (by rw[h4];decide)]
def iY(w:Wd)(n:Nat)(s:Sr):Wd:=⟨w.az++List.replicate n 0,w.aA++List.replicate n 0,s⟩
def fb(J:List Int)(gg:aD)(s:Sr):Sr:=aI J (cd J gg s).s 30
def dwF(J:List Int)(gg:aD)(s:Sr):Nat:=GZ (pdC J (cd J gg s).aA.length (fb J gg s)) 20 0
def fM(J:List Int)(gg:aD)(s:Sr):Wd :=
 if A1 J gg s=0 then ⟨(cd J gg s).az,(cd J gg s).aA++[0],fb J gg s⟩ else
 if A1 J gg s=1 then ⟨(cd J gg s).az.set 0 ([-1,8,2].getD (pk J (fb J gg s) 3).toNat 0),(cd J gg s).aA,aI J (fb J gg s) 3⟩ else
 if A1 J gg s=2 then iY (cd J gg s) (dwF J gg s) (gP J (fb J gg s) (dwF J gg s+1)) else ⟨(cd J gg s).az,(cd J gg s).aA,fb J gg s⟩
theorem a0P(gg:aD)(h:aY gg=true):qu gg<=4/\1<=Uh gg/\Uh gg<=8:=by
 have:=tw gg h
 unfold qu Uh;omega
theorem a0d(x n:Int)(h:0<=x/\(x=0\/x<8))(hn:1<=n/\n<=8):0<=x.tmod n/\x.tmod n<8:=by
 have:=Ik x n h.1 (by omega);omega
structure DwI(J:List Int)(gg:aD)(s:Sr)(m:Int)(i:Nat):Prop where
 sr:bz J (gL J gg s i).s (m+4+4 * i)
 a:(gL J gg s i).az.length=i+1
 x:(gL J gg s i).aA.length=i
theorem PY(J:List Int)(gg:aD)(s:Sr)(m:Int)(h:bz J s m):∀ i:Nat,DwI J gg s m i
 | 0=>⟨((h.next 8).next 5).mono (by omega),rfl,rfl⟩
 | i+1=>by
  have r:=PY J gg s m h i
  exact⟨((r.sr.next _).next _).mono (by omega),by simp[gL,r.a],by simp[gL,r.x]⟩
theorem QI(J:List Int)(s:Sr)(m:Int)(h:bz J s m):∀ n:Nat,bz J (gP J s n) (m+2 * n)
 | 0=>h.mono (by omega)
 | n+1=>((QI J s m h n).next 2).mono (by omega)
structure YZ(J:List Int)(gg:aD)(s:Sr):Prop where
 k0:0<=rA J s/\rA J s<=4
 b:bz J (cd J gg s).s 880000000
 ba:(cd J gg s).az.length=(cd J gg s).aA.length+1
 bx:(cd J gg s).aA.length<=4
 d1:bz J (fb J gg s) 880000000
 j:0<=A1 J gg s/\A1 J gg s<30
theorem a3E(J:List Int)(gg:aD)(s:Sr)(h:bz J s 870000000):YZ J gg s:=by
 have hk:=(h.next 8).pk 5
 have r:=PY J gg s _ h (rA J s).toNat
 have iR:0<=rA J s/\rA J s<=4:=by unfold rA;omega
 have hb:bz J (cd J gg s).s (870000000+4+4 * (rA J s).toNat):=r.sr
 have hj:=hb.pk 30
 have ra:(cd J gg s).az.length=(rA J s).toNat+1:=r.a
 have rx:(cd J gg s).aA.length=(rA J s).toNat:=r.x
 refine⟨iR,hb.mono (by omega),by omega,by omega,(hb.next 30).mono (by omega),by unfold A1;omega⟩
theorem Yi(n:Nat)(xs:List Int):xs++List.replicate n 0++[0]=xs++List.replicate (n+1) 0:=by
 rw[a8t,a6u]
structure Oj(J:List Int)(gg:aD)(s:Sr)(n:Nat):Prop where
 j:A1 J gg s=2
 le:n<=12
 al:∀ i,i<n->pdC J (cd J gg s).aA.length (fb J gg s) i=true
theorem a4A(J:List Int)(gg:aD)(s:Sr)(j:A1 J gg s=2):Oj J gg s 0:=⟨j,by omega,λ i h=>absurd h (a6D _)⟩
theorem Z4(J:List Int)(gg:aD)(s:Sr)(F:YZ J gg s)(n:Nat)(h:Oj J gg s n):(cd J gg s).aA.length+n<=12:=by
 rcases a9M n with e|e
 .have:=F.bx;omega
 .have:=a6f (h.al (n - 1) (by omega))
  have hs:=QI J _ _ F.d1 (n - 1)
  have:=hs.pk 2
  omega
theorem a0V(J:List Int)(gg:aD)(s:Sr)(F:YZ J gg s)(n:Nat)(h:Oj J gg s n):bz J (gP J (fb J gg s) n) 890000000/\0<=pk J (gP J (fb J gg s) n) 2/\pk J (gP J (fb J gg s) n) 2<=1:=by
 have hs:=QI J _ _ F.d1 n
 have:=hs.pk 2
 have:=h.le
 exact⟨hs.mono (by omega),by omega,by omega⟩
theorem Yh(J:List Int)(gg:aD)(s:Sr)(F:YZ J gg s)(n:Nat)(h:Oj J gg s n)(q:((cd J gg s).aA.length:Int)+(n:Int)<10+pk J (gP J (fb J gg s) n) 2):Oj J gg s (n+1):=by
 have hp:=(a0V J gg s F n h).2
 refine⟨h.j,by omega,λ i hi=>?_⟩
 rcases a6w i n with e|e
 .exact h.al i e
 .have:i=n:=by omega
  subst this;exact a6L q
theorem Z3(J:List Int)(gg:aD)(s:Sr)(n:Nat)(h:Oj J gg s n)(q:¬ ((cd J gg s).aA.length:Int)+(n:Int)<10+pk J (gP J (fb J gg s) n) 2):fM J gg s=iY (cd J gg s) n (gP J (fb J gg s) (n+1)):=by
 have e:dwF J gg s=n:=MG _ 20 0 n (a6N _) (by have:=h.le;omega) (λ j _ hj=>h.al j hj) (a7n q)
 unfold fM
 rw[a5J (by have:=h.j;omega),a5J (by have:=h.j;omega),a5T h.j,e]
theorem a2R(w:Wd)(n:Nat)(s:Sr):(iY w n s).s=s:=rfl
theorem a2Q(w:Wd)(n:Nat)(s:Sr):(iY w n s).az=w.az++List.replicate n 0:=rfl
theorem a2S(w:Wd)(n:Nat)(s:Sr):(iY w n s).aA=w.aA++List.replicate n 0:=rfl
theorem a1k(J:List Int)(gg:aD)(s:Sr)(m:Int)(hg:aY gg=true)(h:bz J s m):0<=(pk J s 8).tmod (max 1 (aP gg))/\(pk J s 8).tmod (max 1 (aP gg))<8:=a0d _ (Uh gg) (h.pk 8) (a0P gg hg).2
theorem Y9(J:List Int)(gg:aD)(s:Sr)(i:Nat)(h1:i<=(rA J s).toNat)(h2:¬ 0<rA J s - (i:Int)):gL J gg s i=cd J gg s:=by
 have:i=(rA J s).toNat:=by omega
 subst this;rfl
theorem a3B(J:List Int)(gg:aD)(s:Sr)(h:A1 J gg s=0):fM J gg s=⟨(cd J gg s).az,(cd J gg s).aA++[0],fb J gg s⟩:=a5T h
theorem a3C(J:List Int)(gg:aD)(s:Sr)(h:A1 J gg s=1):fM J gg s=⟨(cd J gg s).az.set 0 ([-1,8,2].getD (pk J (fb J gg s) 3).toNat 0),(cd J gg s).aA,aI J (fb J gg s) 3⟩:=by
 unfold fM;rw[if_neg (by omega),if_pos h]
theorem a3D(J:List Int)(gg:aD)(s:Sr)(h0:¬ A1 J gg s=0)(h1:¬ A1 J gg s=1)(h2:¬ A1 J gg s=2):fM J gg s=⟨(cd J gg s).az,(cd J gg s).aA,fb J gg s⟩:=by
 unfold fM;rw[if_neg h0,if_neg h1,if_neg h2]
def gn:fY:=⟨oQ,[[.d (.slice (.int .u8)), .d (.int .i64), .d (.int .u64)]],[.b 0, .v (.st .sig)],[[(.slice (.int .u8)),(.int .i64),(.int .u64)]],λ (gg:aD) (J:List Int) (U:Int) (M:Int)=>⟨(some (bz J (Sr.mk U M) 870000000/\aY gg=true),[⟨(.st .word),bl.mk (fM J gg (Sr.mk U M)).az (fM J gg (Sr.mk U M)).aA⟩],[[⟨(.slice (.int .u8)),J⟩,⟨(.int .i64),(fM J gg (Sr.mk U M)).s.U⟩,⟨(.int .u64),(fM J gg (Sr.mk U M)).s.M⟩]])⟩⟩
def tm(gg:aD)(J:List Int)(U:Int)(M:Int):Nat->aX:=(λ zb=>if Nat.beq zb 0 then .mk (Nat) (λ i=>i<=(rA J (Sr.mk U M)).toNat) (λ i=>(rA J (Sr.mk U M)).toNat - i) [] [1,2,7,8,9,10,11,12,13,14,15,16] (λ i=>[(6, .aS ⟨(.int .i64),(rA J (Sr.mk U M) - (i:Int):Int)⟩)]) [0,3,4,6,17,18,19,20,21,22,23,24,25,26,27,28,29,30,31,32,33,34,35,36,37,38,39,40,41,42,43,44,45,46,47,48,49,50,51,52,53,54,55,56,57,58,59,60,61,62,63,64,65,66,67,68,69,70,71,72,73,74,75,76,77,78] (λ i=>[(400000, .box [.aS ⟨(.slice (.int .u8)),(J:List Int)⟩, .aS ⟨(.int .i64),((gL J gg (Sr.mk U M) i).s.U:Int)⟩, .aS ⟨(.int .u64),((gL J gg (Sr.mk U M) i).s.M:Int)⟩]),(5, .box [.aB 9100, .aB 9200]),(9100, .aB (.int .i64) ((gL J gg (Sr.mk U M) i).az:List Int)),(9200, .aB (.int .i64) ((gL J gg (Sr.mk U M) i).aA:List Int))]) [] [] (λ i=>λ _ => .none) else if Nat.beq zb 100007 then .mk (Unit) (λ u=>True) (λ u=>0) [] [1,2,3,6,7,8,9,10,11,12,13,14,15,16,17,18,19,20,21,22,23,24,25,26,27,28,29,30,31,32,33,34,35,36,37,38,39,40,41] (λ u=>[]) [0,4,42,43,44,45,46,47,48,49,50,51,52,53,54,55,56,57,58,59,60,61,62,63,64,65,66,67,68,69,70,71,72,73,74,75,76,77,78] (λ u=>[(400000, .box [.aS ⟨(.slice (.int .u8)),(J:List Int)⟩, .aS ⟨(.int .i64),((cd J gg (Sr.mk U M)).s.U:Int)⟩, .aS ⟨(.int .u64),((cd J gg (Sr.mk U M)).s.M:Int)⟩]),(5, .box [.aB 9100, .aB 9200]),(9100, .aB (.int .i64) ((cd J gg (Sr.mk U M)).az:List Int)),(9200, .aB (.int .i64) ((cd J gg (Sr.mk U M)).aA:List Int))]) [] [] (λ u=>(λ zb=>if Nat.beq zb 3 then .mk (Nat) (λ n=>Oj J gg (Sr.mk U M) n) (λ n=>13 - n) [] [1,2,3,6,7,8,9,10,11,12,13,14,15,16,17,18,19,20,21,22,23,24,25,26,27,28,29,30,31,32,33,34,35,36,37,38,39,40,41,42,43,44,45,46,47,48,49,50,51,52,53,54,55,56,57,58,59,60] (λ n=>[]) [0,4,61,62,63,64,65,66,67,68,69,70,71,72,73,74,75,76,77,78] (λ n=>[(400000, .box [.aS ⟨(.slice (.int .u8)),(J:List Int)⟩, .aS ⟨(.int .i64),((iY (cd J gg (Sr.mk U M)) n (gP J (fb J gg (Sr.mk U M)) n)).s.U:Int)⟩, .aS ⟨(.int .u64),((iY (cd J gg (Sr.mk U M)) n (gP J (fb J gg (Sr.mk U M)) n)).s.M:Int)⟩]),(5, .box [.aB 9100, .aB 9200]),(9100, .aB (.int .i64) ((iY (cd J gg (Sr.mk U M)) n (gP J (fb J gg (Sr.mk U M)) n)).az:List Int)),(9200, .aB (.int .i64) ((iY (cd J gg (Sr.mk U M)) n (gP J (fb J gg (Sr.mk U M)) n)).aA:List Int))]) [] [] (λ n=>λ _ => .none) else if Nat.beq zb 100016 then .mk (Unit) (λ u=>True) (λ u=>0) [] [0,1,2,3,6,7,8,9,10,11,12,13,14,15,16,17,18,19,20,21,22,23,24,25,26,27,28,29,30,31,32,33,34,35,36,37,38,39,40,41,42,43,44,45,46,47,48,49,50,51,52,53,54,55,56,57,58,59,60,61,62,63,64,65,66,67,68,69,70,71,72,73,74,75,76,77] (λ u=>[]) [4,78] (λ u=>[(400000, .box [.aS ⟨(.slice (.int .u8)),(J:List Int)⟩, .aS ⟨(.int .i64),((fM J gg (Sr.mk U M)).s.U:Int)⟩, .aS ⟨(.int .u64),((fM J gg (Sr.mk U M)).s.M:Int)⟩]),(5, .box [.aB 9100, .aB 9200]),(9100, .aB (.int .i64) ((fM J gg (Sr.mk U M)).az:List Int)),(9200, .aB (.int .i64) ((fM J gg (Sr.mk U M)).aA:List Int))]) [] [] (λ u=>λ _ => .none) else .none)) else .none)
abbrev qN(gg:aD)(J:List Int)(U:Int)(M:Int):Prop:=(J=J/\(((aI J (Sr.mk ((cd J gg (Sr.mk U M)).s.U) ((cd J gg (Sr.mk U M)).s.M)) (30:Int)).U)=((fM J gg (Sr.mk U M)).s.U)/\(((aI J (Sr.mk ((cd J gg (Sr.mk U M)).s.U) ((cd J gg (Sr.mk U M)).s.M)) (30:Int)).M)=((fM J gg (Sr.mk U M)).s.M)/\True)))
abbrev qO(gg:aD)(J:List Int)(U:Int)(M:Int)(n2:Nat):Prop:=(((decide (((((iY (cd J gg (Sr.mk U M)) n2 (gP J (fb J gg (Sr.mk U M)) n2)).aA).length:Int))<((10:Int)+(pk J (Sr.mk ((iY (cd J gg (Sr.mk U M)) n2 (gP J (fb J gg (Sr.mk U M)) n2)).s.U) ((iY (cd J gg (Sr.mk U M)) n2 (gP J (fb J gg (Sr.mk U M)) n2)).s.M)) (2:Int)))))=true ->
 (cE (((iY (cd J gg (Sr.mk U M)) n2 (gP J (fb J gg (Sr.mk U M)) n2)).aA).length+([(0:Int)]).length) 8/\(cE (((iY (cd J gg (Sr.mk U M)) n2 (gP J (fb J gg (Sr.mk U M)) n2)).az).length+([(0:Int)]).length) 8/\(∃ n3:Nat,(Oj J gg (Sr.mk U M) n3/\(13 - n3<13 - n2/\((True/\(True/\(True/\True)))/\((J=J/\(((aI J (Sr.mk ((iY (cd J gg (Sr.mk U M)) n2 (gP J (fb J gg (Sr.mk U M)) n2)).s.U) ((iY (cd J gg (Sr.mk U M)) n2 (gP J (fb J gg (Sr.mk U M)) n2)).s.M)) (2:Int)).U)=((iY (cd J gg (Sr.mk U M)) n3 (gP J (fb J gg (Sr.mk U M)) n3)).s.U)/\(((aI J (Sr.mk ((iY (cd J gg (Sr.mk U M)) n2 (gP J (fb J gg (Sr.mk U M)) n2)).s.U) ((iY (cd J gg (Sr.mk U M)) n2 (gP J (fb J gg (Sr.mk U M)) n2)).s.M)) (2:Int)).M)=((iY (cd J gg (Sr.mk U M)) n3 (gP J (fb J gg (Sr.mk U M)) n3)).s.M)/\True)))/\((True/\(True/\True))/\((((iY (cd J gg (Sr.mk U M)) n2 (gP J (fb J gg (Sr.mk U M)) n2)).az)++([(0:Int)]))=((iY (cd J gg (Sr.mk U M)) n3 (gP J (fb J gg (Sr.mk U M)) n3)).az)/\((((iY (cd J gg (Sr.mk U M)) n2 (gP J (fb J gg (Sr.mk U M)) n2)).aA)++([(0:Int)]))=((iY (cd J gg (Sr.mk U M)) n3 (gP J (fb J gg (Sr.mk U M)) n3)).aA)/\((True/\(True/\True))/\True))))))))))))/\((decide (((((iY (cd J gg (Sr.mk U M)) n2 (gP J (fb J gg (Sr.mk U M)) n2)).aA).length:Int))<((10:Int)+(pk J (Sr.mk ((iY (cd J gg (Sr.mk U M)) n2 (gP J (fb J gg (Sr.mk U M)) n2)).s.U) ((iY (cd J gg (Sr.mk U M)) n2 (gP J (fb J gg (Sr.mk U M)) n2)).s.M)) (2:Int)))))=false ->
 (∃ u3:Unit,(True/\((True/\(True/\True))/\((J=J/\(((aI J (Sr.mk ((iY (cd J gg (Sr.mk U M)) n2 (gP J (fb J gg (Sr.mk U M)) n2)).s.U) ((iY (cd J gg (Sr.mk U M)) n2 (gP J (fb J gg (Sr.mk U M)) n2)).s.M)) (2:Int)).U)=((fM J gg (Sr.mk U M)).s.U)/\(((aI J (Sr.mk ((iY (cd J gg (Sr.mk U M)) n2 (gP J (fb J gg (Sr.mk U M)) n2)).s.U) ((iY (cd J gg (Sr.mk U M)) n2 (gP J (fb J gg (Sr.mk U M)) n2)).s.M)) (2:Int)).M)=((fM J gg (Sr.mk U M)).s.M)/\True)))/\((True/\(True/\True))/\(((iY (cd J gg (Sr.mk U M)) n2 (gP J (fb J gg (Sr.mk U M)) n2)).az)=((fM J gg (Sr.mk U M)).az)/\(((iY (cd J gg (Sr.mk U M)) n2 (gP J (fb J gg (Sr.mk U M)) n2)).aA)=((fM J gg (Sr.mk U M)).aA)/\((True/\(True/\True))/\True))))))))))
abbrev qP(gg:aD)(J:List Int)(U:Int)(M:Int)(n2:Nat):Prop:=(ag ((10:Int)+(pk J (Sr.mk ((iY (cd J gg (Sr.mk U M)) n2 (gP J (fb J gg (Sr.mk U M)) n2)).s.U) ((iY (cd J gg (Sr.mk U M)) n2 (gP J (fb J gg (Sr.mk U M)) n2)).s.M)) (2:Int)))/\(qO gg J U M n2))
theorem Bs(gg:aD)(J:List Int)(U:Int)(M:Int):cU (dj [iI,dN] [] [] [8,13,16,27,28,29,34,39,40,43,48,49,57,65,70,71,75,76] [] [] [3,56] [bh,fD]) (aF eY) (tm gg J U M) 0 (gS (dj [iI,dN] [] [] [8,13,16,27,28,29,34,39,40,43,48,49,57,65,70,71,75,76] [] [] [3,56] [bh,fD]) eY [[.d (.slice (.int .u8)), .d (.int .i64), .d (.int .u64)]] λ r ds=>bH r [⟨(.st .word),bl.mk (fM J gg (Sr.mk U M)).az (fM J gg (Sr.mk U M)).aA⟩]/\jv ds [[⟨(.slice (.int .u8)),J⟩,⟨(.int .i64),(fM J gg (Sr.mk U M)).s.U⟩,⟨(.int .u64),(fM J gg (Sr.mk U M)).s.M⟩]]) (cB eY [.box 0, .val ⟨(.st .sig),gg⟩] [[.d (.slice (.int .u8)), .d (.int .i64), .d (.int .u64)]] [[⟨(.slice (.int .u8)),J⟩,⟨(.int .i64),U⟩,⟨(.int .u64),M⟩]]) =
 ((((400000:Nat)=400000/\(0:Nat)=0)/\(gg=gg/\((bz J (Sr.mk U M) 999999000/\(8:Int)<=1000000)/\(gg=gg/\((0<=gg.aE/\gg.aE<=3)/\(ag (aP gg) ->
 (ag (max (1:Int) (aP gg)) ->
 (((max (1:Int) (aP gg))≠(0:Int)/\ag ((pk J (Sr.mk U M) (8:Int)).tmod (max (1:Int) (aP gg))))/\(((bz J (aI J (Sr.mk U M) (8:Int)) 999999000/\(5:Int)<=1000000)/\((∃ i1:Nat,(i1<=(rA J (Sr.mk U M)).toNat/\((True/\(gg=gg/\(True/\(True/\((pk J (aI J (Sr.mk U M) (8:Int)) (5:Int))=(rA J (Sr.mk U M) - (i1:Int))/\True)))))/\((J=J/\(((aI J (aI J (Sr.mk U M) (8:Int)) (5:Int)).U)=((gL J gg (Sr.mk U M) i1).s.U)/\(((aI J (aI J (Sr.mk U M) (8:Int)) (5:Int)).M)=((gL J gg (Sr.mk U M) i1).s.M)/\True)))/\((True/\(True/\True))/\(([((pk J (Sr.mk U M) (8:Int)).tmod (max (1:Int) (aP gg)))])=((gL J gg (Sr.mk U M) i1).az)/\(((gL J gg (Sr.mk U M) i1).aA)=[]/\((True/\(True/\True))/\True))))))))/\(∀ i1:Nat,(i1<=(rA J (Sr.mk U M)).toNat ->
 (((decide ((0:Int)<(rA J (Sr.mk U M) - (i1:Int))))=true ->
 (ag gg.ai ->
 (((5:Nat)=5/\(1:Nat)=1)/\((9200:Nat)=9200/\(((400000:Nat)=400000/\(0:Nat)=0)/\(gg.ai=gg.ai/\(gg.ai=gg.ai/\(ag (max (1:Int) gg.ai) ->
 (((5:Nat)=5/\(1:Nat)=1)/\((9200:Nat)=9200/\(((400000:Nat)=400000/\(0:Nat)=0)/\((bz J (Sr.mk ((gL J gg (Sr.mk U M) i1).s.U) ((gL J gg (Sr.mk U M) i1).s.M)) 999999000/\(max (1:Int) gg.ai)<=1000000)/\(((5:Nat)=5/\(1:Nat)=1)/\((9200:Nat)=9200/\(((5:Nat)=5/\(1:Nat)=1)/\((9200:Nat)=9200/\(cE (((gL J gg (Sr.mk U M) i1).aA).length+([(pk J (Sr.mk ((gL J gg (Sr.mk U M) i1).s.U) ((gL J gg (Sr.mk U M) i1).s.M)) (max (1:Int) gg.ai))]).length) 8/\(((5:Nat)=5/\(0:Nat)=0)/\((9100:Nat)=9100/\(((400000:Nat)=400000/\(0:Nat)=0)/\(gg=gg/\((bz J (aI J (Sr.mk ((gL J gg (Sr.mk U M) i1).s.U) ((gL J gg (Sr.mk U M) i1).s.M)) (max (1:Int) gg.ai)) 999999000/\(8:Int)<=1000000)/\(((5:Nat)=5/\(0:Nat)=0)/\((9100:Nat)=9100/\(gg=gg/\((0<=gg.aE/\gg.aE<=3)/\(ag (aP gg) ->
 (((5:Nat)=5/\(0:Nat)=0)/\((9100:Nat)=9100/\(ag (max (1:Int) (aP gg)) ->
 (((5:Nat)=5/\(0:Nat)=0)/\((9100:Nat)=9100/\(((max (1:Int) (aP gg))≠(0:Int)/\ag ((pk J (aI J (Sr.mk ((gL J gg (Sr.mk U M) i1).s.U) ((gL J gg (Sr.mk U M) i1).s.M)) (max (1:Int) gg.ai)) (8:Int)).tmod (max (1:Int) (aP gg))))/\(((5:Nat)=5/\(0:Nat)=0)/\((9100:Nat)=9100/\(((5:Nat)=5/\(0:Nat)=0)/\((9100:Nat)=9100/\(cE (((gL J gg (Sr.mk U M) i1).az).length+([((pk J (aI J (Sr.mk ((gL J gg (Sr.mk U M) i1).s.U) ((gL J gg (Sr.mk U M) i1).s.M)) (max (1:Int) gg.ai)) (8:Int)).tmod (max (1:Int) (aP gg)))]).length) 8/\(ag ((rA J (Sr.mk U M) - (i1:Int)) - (1:Int))/\(∃ i2:Nat,(i2<=(rA J (Sr.mk U M)).toNat/\((rA J (Sr.mk U M)).toNat - i2<(rA J (Sr.mk U M)).toNat - i1/\((True/\(gg=gg/\(True/\(True/\(((rA J (Sr.mk U M) - (i1:Int)) - (1:Int))=(rA J (Sr.mk U M) - (i2:Int))/\True)))))/\((J=J/\(((aI J (aI J (Sr.mk ((gL J gg (Sr.mk U M) i1).s.U) ((gL J gg (Sr.mk U M) i1).s.M)) (max (1:Int) gg.ai)) (8:Int)).U)=((gL J gg (Sr.mk U M) i2).s.U)/\(((aI J (aI J (Sr.mk ((gL J gg (Sr.mk U M) i1).s.U) ((gL J gg (Sr.mk U M) i1).s.M)) (max (1:Int) gg.ai)) (8:Int)).M)=((gL J gg (Sr.mk U M) i2).s.M)/\True)))/\((True/\(True/\True))/\((((gL J gg (Sr.mk U M) i1).az)++([((pk J (aI J (Sr.mk ((gL J gg (Sr.mk U M) i1).s.U) ((gL J gg (Sr.mk U M) i1).s.M)) (max (1:Int) gg.ai)) (8:Int)).tmod (max (1:Int) (aP gg)))]))=((gL J gg (Sr.mk U M) i2).az)/\((((gL J gg (Sr.mk U M) i1).aA)++([(pk J (Sr.mk ((gL J gg (Sr.mk U M) i1).s.U) ((gL J gg (Sr.mk U M) i1).s.M)) (max (1:Int) gg.ai))]))=((gL J gg (Sr.mk U M) i2).aA)/\((True/\(True/\True))/\True))))))))))))))))))))))))))))))))))))))))))))))))/\((decide ((0:Int)<(rA J (Sr.mk U M) - (i1:Int))))=false ->
 (∃ u2:Unit,(True/\((True/\(True/\(True/\True)))/\((J=J/\(((gL J gg (Sr.mk U M) i1).s.U)=((cd J gg (Sr.mk U M)).s.U)/\(((gL J gg (Sr.mk U M) i1).s.M)=((cd J gg (Sr.mk U M)).s.M)/\True)))/\((True/\(True/\True))/\(((gL J gg (Sr.mk U M) i1).az)=((cd J gg (Sr.mk U M)).az)/\(((gL J gg (Sr.mk U M) i1).aA)=((cd J gg (Sr.mk U M)).aA)/\((True/\(True/\True))/\True))))))))))))))/\(∀ u1:Unit,(True ->
 (((bz J (Sr.mk ((cd J gg (Sr.mk U M)).s.U) ((cd J gg (Sr.mk U M)).s.M)) 999999000/\(30:Int)<=1000000)/\(((decide ((pk J (Sr.mk ((cd J gg (Sr.mk U M)).s.U) ((cd J gg (Sr.mk U M)).s.M)) (30:Int))=(0:Int)))=true ->
 (cE (((cd J gg (Sr.mk U M)).aA).length+([(0:Int)]).length) 8/\(∃ u2:Unit,(True/\((True/\(True/\True))/\((qN gg J U M)/\((True/\(True/\True))/\(((cd J gg (Sr.mk U M)).az)=((fM J gg (Sr.mk U M)).az)/\((((cd J gg (Sr.mk U M)).aA)++([(0:Int)]))=((fM J gg (Sr.mk U M)).aA)/\((True/\(True/\True))/\True))))))))))/\((decide ((pk J (Sr.mk ((cd J gg (Sr.mk U M)).s.U) ((cd J gg (Sr.mk U M)).s.M)) (30:Int))=(0:Int)))=false ->
 (((decide ((pk J (Sr.mk ((cd J gg (Sr.mk U M)).s.U) ((cd J gg (Sr.mk U M)).s.M)) (30:Int))=(1:Int)))=true ->
 (((5:Nat)=5/\(0:Nat)=0)/\((9100:Nat)=9100/\(((400000:Nat)=400000/\(0:Nat)=0)/\(((5:Nat)=5/\(0:Nat)=0)/\((9100:Nat)=9100/\(((400000:Nat)=400000/\(0:Nat)=0)/\((bz J (aI J (Sr.mk ((cd J gg (Sr.mk U M)).s.U) ((cd J gg (Sr.mk U M)).s.M)) (30:Int)) 990000000/\0<([(-1:Int),(8:Int),(2:Int)]).length/\([(-1:Int),(8:Int),(2:Int)]).length<=1000)/\(((5:Nat)=5/\(0:Nat)=0)/\((9100:Nat)=9100/\(aV (0:Int) ((cd J gg (Sr.mk U M)).az).length/\(∃ u2:Unit,(True/\((True/\(True/\True))/\((J=J/\(((aI J (aI J (Sr.mk ((cd J gg (Sr.mk U M)).s.U) ((cd J gg (Sr.mk U M)).s.M)) (30:Int)) (([(-1:Int),(8:Int),(2:Int)]).length:Int)).U)=((fM J gg (Sr.mk U M)).s.U)/\(((aI J (aI J (Sr.mk ((cd J gg (Sr.mk U M)).s.U) ((cd J gg (Sr.mk U M)).s.M)) (30:Int)) (([(-1:Int),(8:Int),(2:Int)]).length:Int)).M)=((fM J gg (Sr.mk U M)).s.M)/\True)))/\((True/\(True/\True))/\((((cd J gg (Sr.mk U M)).az).set 0 (([(-1:Int),(8:Int),(2:Int)]).getD (pk J (aI J (Sr.mk ((cd J gg (Sr.mk U M)).s.U) ((cd J gg (Sr.mk U M)).s.M)) (30:Int)) (([(-1:Int),(8:Int),(2:Int)]).length:Int)).toNat 0))=((fM J gg (Sr.mk U M)).az)/\(((cd J gg (Sr.mk U M)).aA)=((fM J gg (Sr.mk U M)).aA)/\((True/\(True/\True))/\True)))))))))))))))))))/\((decide ((pk J (Sr.mk ((cd J gg (Sr.mk U M)).s.U) ((cd J gg (Sr.mk U M)).s.M)) (30:Int))=(1:Int)))=false ->
 (((decide ((pk J (Sr.mk ((cd J gg (Sr.mk U M)).s.U) ((cd J gg (Sr.mk U M)).s.M)) (30:Int))=(2:Int)))=true ->
 ((∃ n2:Nat,(Oj J gg (Sr.mk U M) n2/\((True/\(True/\(True/\True)))/\((J=J/\(((aI J (Sr.mk ((cd J gg (Sr.mk U M)).s.U) ((cd J gg (Sr.mk U M)).s.M)) (30:Int)).U)=((iY (cd J gg (Sr.mk U M)) n2 (gP J (fb J gg (Sr.mk U M)) n2)).s.U)/\(((aI J (Sr.mk ((cd J gg (Sr.mk U M)).s.U) ((cd J gg (Sr.mk U M)).s.M)) (30:Int)).M)=((iY (cd J gg (Sr.mk U M)) n2 (gP J (fb J gg (Sr.mk U M)) n2)).s.M)/\True)))/\((True/\(True/\True))/\(((cd J gg (Sr.mk U M)).az)=((iY (cd J gg (Sr.mk U M)) n2 (gP J (fb J gg (Sr.mk U M)) n2)).az)/\(((cd J gg (Sr.mk U M)).aA)=((iY (cd J gg (Sr.mk U M)) n2 (gP J (fb J gg (Sr.mk U M)) n2)).aA)/\((True/\(True/\True))/\True))))))))/\(∀ n2:Nat,(Oj J gg (Sr.mk U M) n2 ->
 (((5:Nat)=5/\(1:Nat)=1)/\((9200:Nat)=9200/\(((400000:Nat)=400000/\(0:Nat)=0)/\((((400000:Nat)=400000/\(0:Nat)=0)/\((bz J (Sr.mk ((iY (cd J gg (Sr.mk U M)) n2 (gP J (fb J gg (Sr.mk U M)) n2)).s.U) ((iY (cd J gg (Sr.mk U M)) n2 (gP J (fb J gg (Sr.mk U M)) n2)).s.M)) 999999000/\(2:Int)<=1000000)/\(qP gg J U M n2)))/\(((bz J (Sr.mk ((iY (cd J gg (Sr.mk U M)) n2 (gP J (fb J gg (Sr.mk U M)) n2)).s.U) ((iY (cd J gg (Sr.mk U M)) n2 (gP J (fb J gg (Sr.mk U M)) n2)).s.M)) 999999000/\(2:Int)<=1000000)/\(((5:Nat)=5/\(1:Nat)=1)/\((9200:Nat)=9200/\((qP gg J U M n2)/\((ag ((10:Int)+(pk J (Sr.mk ((iY (cd J gg (Sr.mk U M)) n2 (gP J (fb J gg (Sr.mk U M)) n2)).s.U) ((iY (cd J gg (Sr.mk U M)) n2 (gP J (fb J gg (Sr.mk U M)) n2)).s.M)) (2:Int)))/\(((5:Nat)=5/\(1:Nat)=1)/\((9200:Nat)=9200/\(qO gg J U M n2))))/\True)))))/\True)))))))))/\((decide ((pk J (Sr.mk ((cd J gg (Sr.mk U M)).s.U) ((cd J gg (Sr.mk U M)).s.M)) (30:Int))=(2:Int)))=false ->
 (∃ u2:Unit,(True/\((True/\(True/\True))/\((qN gg J U M)/\((True/\(True/\True))/\(((cd J gg (Sr.mk U M)).az)=((fM J gg (Sr.mk U M)).az)/\(((cd J gg (Sr.mk U M)).aA)=((fM J gg (Sr.mk U M)).aA)/\((True/\(True/\True))/\True)))))))))))))))/\(∀ u2:Unit,(True ->
 ((bl.mk ((fM J gg (Sr.mk U M)).az) ((fM J gg (Sr.mk U M)).aA))=(bl.mk (fM J gg (Sr.mk U M)).az (fM J gg (Sr.mk U M)).aA)/\((J=J/\(((fM J gg (Sr.mk U M)).s.U)=((fM J gg (Sr.mk U M)).s.U)/\((fM J gg (Sr.mk U M)).s.M)=((fM J gg (Sr.mk U M)).s.M)))/\True))))))))))))))))):=by kernel_rfl
theorem Bh(hE:aQ [iI,dN])(hO:iE [])(hM:iS [])(hS:gU [bh,fD]):fY.Good gn:=by
 refine⟨aG sP rfl (by decide),?_⟩
 show ∀ (gg:aD) (J:List Int) (U:Int) (M:Int),(bz J (Sr.mk U M) 870000000/\aY gg=true)->p7 prog oQ [[.d (.slice (.int .u8)), .d (.int .i64), .d (.int .u64)]] [.box 0, .val ⟨(.st .sig),gg⟩] [[⟨(.slice (.int .u8)),J⟩,⟨(.int .i64),U⟩,⟨(.int .u64),M⟩]] [⟨(.st .word),bl.mk (fM J gg (Sr.mk U M)).az (fM J gg (Sr.mk U M)).aA⟩] [[⟨(.slice (.int .u8)),J⟩,⟨(.int .i64),(fM J gg (Sr.mk U M)).s.U⟩,⟨(.int .u64),(fM J gg (Sr.mk U M)).s.M⟩]]
 intro gg J U M hp
 refine eN (own:=[8,13,16,27,28,29,34,39,40,43,48,49,57,65,70,71,75,76]) (wr:=[]) (cl:=[]) (ro:=[3,56]) hE hO hM hS sP zh (tm gg J U M) rfl rfl ?_
 rewrite [Bs gg J U M]
 have F:=a3E J gg (Sr.mk U M) hp.1
 have F1:=PY J gg (Sr.mk U M) _ hp.1
 have F2:=Z4 J gg (Sr.mk U M) F
 have F3:=a0V J gg (Sr.mk U M) F
 have hm:=a0P gg hp.2
 have hw:=tw gg hp.2
 have k0:=F.k0
 have fj:=F.j
 have fa:=F.ba
 have fx:=F.bx
 have T0:=a1k J gg (Sr.mk U M) _ hp.2 hp.1
 have T1:=λ i=>a1k J gg _ _ hp.2 ((F1 i).sr.next (max 1 gg.ai))
 have T3:qu gg=max 1 gg.ai:=rfl
 have hm2:Uh gg=max 1 (aP gg):=rfl
 refine⟨⟨?_,?_⟩,⟨rfl,⟨?_,⟨rfl,⟨?_,λ a0=>λ a1=>⟨⟨?_,?_⟩,⟨⟨?_,⟨⟨0,⟨?_,⟨⟨trivial,⟨rfl,⟨trivial,⟨trivial,⟨?_,trivial⟩⟩⟩⟩⟩,⟨⟨rfl,⟨?_,⟨?_,trivial⟩⟩⟩,⟨⟨trivial,⟨trivial,trivial⟩⟩,⟨?_,⟨?_,⟨⟨trivial,⟨trivial,trivial⟩⟩,trivial⟩⟩⟩⟩⟩⟩⟩⟩,λ i1 a2=>have a0p:=F1 i1;⟨λ a3=>λ a4=>⟨⟨?_,?_⟩,⟨?_,⟨⟨?_,?_⟩,⟨rfl,⟨rfl,λ a5=>⟨⟨?_,?_⟩,⟨?_,⟨⟨?_,?_⟩,⟨?_,⟨⟨?_,?_⟩,⟨?_,⟨⟨?_,?_⟩,⟨?_,⟨?_,⟨⟨?_,?_⟩,⟨?_,⟨⟨?_,?_⟩,⟨rfl,⟨?_,⟨⟨?_,?_⟩,⟨?_,⟨rfl,⟨?_,λ a6=>⟨⟨?_,?_⟩,⟨?_,λ a7=>⟨⟨?_,?_⟩,⟨?_,⟨⟨?_,?_⟩,⟨⟨?_,?_⟩,⟨?_,⟨⟨?_,?_⟩,⟨?_,⟨?_,⟨?_,⟨i1+1,⟨?_,⟨?_,⟨⟨trivial,⟨rfl,⟨trivial,⟨trivial,⟨?_,trivial⟩⟩⟩⟩⟩,⟨⟨rfl,⟨?_,⟨?_,trivial⟩⟩⟩,⟨⟨trivial,⟨trivial,trivial⟩⟩,⟨?_,⟨?_,⟨⟨trivial,⟨trivial,trivial⟩⟩,trivial⟩⟩⟩⟩⟩⟩⟩⟩⟩⟩⟩⟩⟩⟩⟩⟩⟩⟩⟩⟩⟩⟩⟩⟩⟩⟩⟩⟩⟩⟩⟩⟩⟩⟩⟩⟩⟩⟩⟩⟩⟩⟩⟩,λ a3=>⟨(),⟨?_,⟨⟨trivial,⟨trivial,⟨trivial,trivial⟩⟩⟩,⟨⟨rfl,⟨?_,⟨?_,trivial⟩⟩⟩,⟨⟨trivial,⟨trivial,trivial⟩⟩,⟨?_,⟨?_,⟨⟨trivial,⟨trivial,trivial⟩⟩,trivial⟩⟩⟩⟩⟩⟩⟩⟩⟩⟩⟩,λ u1=>λ a2=>⟨⟨?_,⟨λ a3=>⟨?_,⟨(),⟨?_,⟨⟨trivial,⟨trivial,trivial⟩⟩,⟨⟨rfl,⟨?_,⟨?_,trivial⟩⟩⟩,⟨⟨trivial,⟨trivial,trivial⟩⟩,⟨?_,⟨?_,⟨⟨trivial,⟨trivial,trivial⟩⟩,trivial⟩⟩⟩⟩⟩⟩⟩⟩⟩,λ a3=>⟨λ a4=>⟨⟨?_,?_⟩,⟨?_,⟨⟨?_,?_⟩,⟨⟨?_,?_⟩,⟨?_,⟨⟨?_,?_⟩,⟨?_,⟨⟨?_,?_⟩,⟨?_,⟨?_,⟨(),⟨?_,⟨⟨trivial,⟨trivial,trivial⟩⟩,⟨⟨rfl,⟨?_,⟨?_,trivial⟩⟩⟩,⟨⟨trivial,⟨trivial,trivial⟩⟩,⟨?_,⟨?_,⟨⟨trivial,⟨trivial,trivial⟩⟩,trivial⟩⟩⟩⟩⟩⟩⟩⟩⟩⟩⟩⟩⟩⟩⟩⟩⟩⟩,λ a4=>⟨λ a5=>⟨⟨0,⟨?_,⟨⟨trivial,⟨trivial,⟨trivial,trivial⟩⟩⟩,⟨⟨rfl,⟨?_,⟨?_,trivial⟩⟩⟩,⟨⟨trivial,⟨trivial,trivial⟩⟩,⟨?_,⟨?_,⟨⟨trivial,⟨trivial,trivial⟩⟩,trivial⟩⟩⟩⟩⟩⟩⟩⟩,λ n2 a6=>have a3i:=F2 n2 a6;have a3j:=F3 n2 a6;⟨⟨?_,?_⟩,⟨?_,⟨⟨?_,?_⟩,⟨⟨⟨?_,?_⟩,⟨?_,⟨?_,⟨λ a7=>⟨?_,⟨?_,⟨n2+1,⟨?_,⟨?_,⟨⟨trivial,⟨trivial,⟨trivial,trivial⟩⟩⟩,⟨⟨rfl,⟨?_,⟨?_,trivial⟩⟩⟩,⟨⟨trivial,⟨trivial,trivial⟩⟩,⟨?_,⟨?_,⟨⟨trivial,⟨trivial,trivial⟩⟩,trivial⟩⟩⟩⟩⟩⟩⟩⟩⟩⟩⟩,λ a7=>⟨(),⟨?_,⟨⟨trivial,⟨trivial,trivial⟩⟩,⟨⟨rfl,⟨?_,⟨?_,trivial⟩⟩⟩,⟨⟨trivial,⟨trivial,trivial⟩⟩,⟨?_,⟨?_,⟨⟨trivial,⟨trivial,trivial⟩⟩,trivial⟩⟩⟩⟩⟩⟩⟩⟩⟩⟩⟩⟩,⟨⟨?_,⟨⟨?_,?_⟩,⟨?_,⟨⟨?_,⟨λ a7=>⟨?_,⟨?_,⟨n2+1,⟨?_,⟨?_,⟨⟨trivial,⟨trivial,⟨trivial,trivial⟩⟩⟩,⟨⟨rfl,⟨?_,⟨?_,trivial⟩⟩⟩,⟨⟨trivial,⟨trivial,trivial⟩⟩,⟨?_,⟨?_,⟨⟨trivial,⟨trivial,trivial⟩⟩,trivial⟩⟩⟩⟩⟩⟩⟩⟩⟩⟩⟩,λ a7=>⟨(),⟨?_,⟨⟨trivial,⟨trivial,trivial⟩⟩,⟨⟨rfl,⟨?_,⟨?_,trivial⟩⟩⟩,⟨⟨trivial,⟨trivial,trivial⟩⟩,⟨?_,⟨?_,⟨⟨trivial,⟨trivial,trivial⟩⟩,trivial⟩⟩⟩⟩⟩⟩⟩⟩⟩⟩,⟨⟨?_,⟨⟨?_,?_⟩,⟨?_,⟨λ a7=>⟨?_,⟨?_,⟨n2+1,⟨?_,⟨?_,⟨⟨trivial,⟨trivial,⟨trivial,trivial⟩⟩⟩,⟨⟨rfl,⟨?_,⟨?_,trivial⟩⟩⟩,⟨⟨trivial,⟨trivial,trivial⟩⟩,⟨?_,⟨?_,⟨⟨trivial,⟨trivial,trivial⟩⟩,trivial⟩⟩⟩⟩⟩⟩⟩⟩⟩⟩⟩,λ a7=>⟨(),⟨?_,⟨⟨trivial,⟨trivial,trivial⟩⟩,⟨⟨rfl,⟨?_,⟨?_,trivial⟩⟩⟩,⟨⟨trivial,⟨trivial,trivial⟩⟩,⟨?_,⟨?_,⟨⟨trivial,⟨trivial,trivial⟩⟩,trivial⟩⟩⟩⟩⟩⟩⟩⟩⟩⟩⟩⟩,trivial⟩⟩⟩⟩⟩,trivial⟩⟩⟩⟩⟩⟩,λ a5=>⟨(),⟨?_,⟨⟨trivial,⟨trivial,trivial⟩⟩,⟨⟨rfl,⟨?_,⟨?_,trivial⟩⟩⟩,⟨⟨trivial,⟨trivial,trivial⟩⟩,⟨?_,⟨?_,⟨⟨trivial,⟨trivial,trivial⟩⟩,trivial⟩⟩⟩⟩⟩⟩⟩⟩⟩⟩⟩⟩,λ u2=>λ a3=>⟨?_,⟨⟨rfl,⟨rfl,rfl⟩⟩,trivial⟩⟩⟩⟩⟩⟩⟩⟩⟩⟩
 all_goals try and_intros
 all_goals (try simp only[yY,Bool.not_false,Bool.not_true,decide_eq_true_eq,decide_eq_false_iff_not,aV,ag,cE,List.length_append,List.length_cons,List.length_nil,List.length_replicate,a2R,a2Q,a2S] at *)<;>first|rfl|trivial|omega|with_reducible assumption|exact hp.1.mono (by decide)|exact (hp.1.next _).mono (by decide)|exact F.b|exact F.d1|exact F.b.mono (by omega)|exact F.d1.mono (by omega)|(unfold rA;omega)|(have t:=T1 i1;omega)|exact (F1 i1).sr.mono (by omega)|exact ((F1 i1).sr.next _).mono (by omega)|(have qa:=(F1 i1).a;have qx:=(F1 i1).x;omega)|(rw[Y9 J gg _ i1 (by assumption) (by assumption)];done)|exact a4A J gg _ (by assumption)|exact (List.append_nil _).symm|exact (F3 n2 (by assumption)).1.mono (by decide)|(have q3:=F3 n2 (by assumption);have q2:=F2 n2 (by assumption);omega)|exact Yh J gg _ F n2 (by assumption) (by omega)|exact Yi n2 _|(rw[a3B J gg _ (show A1 J gg (Sr.mk U M)=_ from by assumption)]<;>rfl)|(rw[a3C J gg _ (show A1 J gg (Sr.mk U M)=_ from by assumption)]<;>rfl)|(rw[a3D J gg _ (show ¬ A1 J gg (Sr.mk U M)=0 from by assumption) (show ¬ A1 J gg (Sr.mk U M)=1 from by assumption) (show ¬ A1 J gg (Sr.mk U M)=2 from by assumption)]<;>rfl)|(rw[Z3 J gg _ n2 (by assumption) (by omega)]<;>rfl)
theorem yS:fY.Good gn:=Bh ⟨A4,qA,trivial⟩ trivial trivial ⟨dm,xA,trivial⟩
end
end Go.Proofs.YtnehkikdlnmebaaGreatDoor

set_option maxRecDepth 4000
set_option maxHeartbeats 4000000
namespace Go.Proofs.YtnehkikdlnmebaaGreatDoor
open Go.RowKit Go.Proofs
theorem Mh{B b:Nat}{p:Value}{bs:List Value}{w:World}(h:Lib.BuilderAt 89 5 B b p bs w)(o:Obj):Lib.BuilderAt 89 5 B b p bs (w.alloc o):=by
 obtain⟨hB,v,hb,eM,dU⟩:=h
 exact⟨hB,v,by rw[a7F w o b (cH hb)];exact hb,eM.alloc _,dU⟩
abbrev uq(B b:Nat)(l:List UInt8)(w:World):Prop:=Lib.IsBuilder 89 5 B b (Lib.byteCells l) w
theorem nt{B b:Nat}{l:List UInt8}{w:World}(h:uq B b l w)(o:Obj):uq B b l (w.alloc o):=h.imp (λ h=>Mh h o) (λ h=>Mh h o)
theorem HB{B b:Nat}{l:List UInt8}{w:World}(h:uq B b l w):b<w.heap.size:=by
 rcases h with h|h<;>exact h.lt
theorem qd{B:Nat}{w:World}(h:B<=w.heap.size)(o:Obj):B<=(w.alloc o).heap.size:=by simp;omega
theorem xV{b:Nat}{w w1:World}{cs:Array Value}(h:kl b (w.alloc (.cells cs 28)) w1)(hb:b<w.heap.size)(j:Nat){v:Value}(hj:cs[j]?=some v):w1.cell? ⟨w.heap.size,j,none⟩=some v:=by
 have e:=h w.heap.size cs 28 (0,0) (a7f w _) (by decide) (by omega)
 rw[a8q (a:=⟨w.heap.size,j,none⟩) e,a7R (a7f w _)]
 exact hj
structure Wr(B b:Nat)(l t:List UInt8)(w w':World):Prop where
 Jg:uq B b (l++t) w'
 ft:Below B w w'
 aM:kl b w w'
theorem Wr.trans{B b:Nat}{l t u:List UInt8}{w w1 w2:World}(h:Wr B b l t w w1)(k:Wr B b (l++t) u w1 w2):Wr B b l (t++u) w w2 :=
 ⟨by rw[<-a6u];exact k.Jg,h.ft.trans k.ft,h.aM.trans k.aM⟩
theorem Wr.alloc{B b:Nat}{l t:List UInt8}{w w1:World}{o:Obj}(h:Wr B b l t (w.alloc o) w1)(jV:B<=w.heap.size):Wr B b l t w w1 :=
 ⟨h.Jg,((a7J B w).alloc jV _).trans h.ft,((kl.refl b w).alloc _).trans h.aM⟩
theorem ws(B b:Nat)(l:List UInt8)(s:ByteArray)(w:World)(h:uq B b l w)(hlen:l.length+s.data.toList.length<=140737488355328)(jV:B<=w.heap.size) :
  Calls Tryz.prog 72 #[.pointer (some ⟨b,0,none⟩), .string s] w λ e w'=>e = .returned (.tuple #[.int .i64 s.size, .nilIface])/\Wr B b l s.data.toList w w':=by
 refine (writeString B b _ s w h (by simpa [Lib.byteCells_length] using hlen) jV).mono ?_
 rintro e w' ⟨rfl,h1,h2,h3⟩
 refine⟨rfl,?_,h2,h3⟩
 have:Lib.byteCells l++Lib.strCells s=Lib.byteCells (l++s.data.toList):=by simp[Lib.byteCells,Lib.strCells]
 rw[uq,<-this];exact h1
abbrev Dl(B b:Nat)(v:Value)(l t:List UInt8)(w:World):Prop :=
 Calls Tryz.prog 49 #[.pointer (some ⟨b,0,none⟩),v] w λ e w'=>e = .returned (.tuple #[])/\Wr B b l t w w'
set_option maxRecDepth 100000 in
theorem I5(i:Nat)(hi:i<100)(w:World) :
  Calls Tryz.prog 78 #[.int .i64 i, .int .i64 10] w λ e w'=>e = .returned (.string ⟨(Lib.decDigits i).toArray⟩)/\w'=w:=by
 go_enter Tryz.func78,Tryz.ntmps78
 go_wp2_with (go_at_call 93;refine (Tryz.internal_strconv_FormatInt_10_small i hi _).mono ?_)
 rintro e w1 ⟨he,hw⟩;subst he hw
 go_wp2
 go_ret
 exact⟨rfl,rfl⟩
set_option maxRecDepth 100000 in
theorem uW(i:Nat)(hi:i<100)(w:World) :
  Calls Tryz.prog 54 #[.int .i64 i] w λ e w'=>e = .returned (.string ⟨(Lib.decDigits i).toArray⟩)/\w'=w:=by
 go_enter Tryz.func54,Tryz.ntmps54
 go_wp2_with (go_at_call 78;refine (I5 i hi _).mono ?_)
 rintro e w1 ⟨he,hw⟩;subst he hw
 go_wp2
 go_ret
 exact⟨rfl,rfl⟩
set_option maxRecDepth 100000 in
theorem we1(B b:Nat)(l:List UInt8)(n:Int)(sl:Value)(w:World)(h:uq B b l w)(hlen:l.length+1<=140737488355328)(jV:B<=w.heap.size) :
  Dl B b (.agg #[.int .i64 1, .int .i64 n,sl]) l [48] w:=by
 go_enter Tryz.func49,Tryz.ntmps49
 go_wp2_with (go_at_call 72;refine (ws B b l _ _ (nt h _) (by exact hlen) (qd jV _)).mono ?_)
 intro e w1 he h1;subst he
 go_wp2
 go_end0
 exact⟨rfl,h1.alloc jV⟩
set_option maxRecDepth 100000 in
theorem we2(B b:Nat)(l:List UInt8)(n:Int)(sl:Value)(w:World)(h:uq B b l w)(hlen:l.length+1<=140737488355328)(jV:B<=w.heap.size) :
  Dl B b (.agg #[.int .i64 2, .int .i64 n,sl]) l [49] w:=by
 go_enter Tryz.func49,Tryz.ntmps49
 go_wp2_with (go_at_call 72;refine (ws B b l _ _ (nt h _) (by exact hlen) (qd jV _)).mono ?_)
 intro e w1 he h1;subst he
 go_wp2
 go_end0
 exact⟨rfl,h1.alloc jV⟩
set_option maxRecDepth 100000 in
theorem we3(B b:Nat)(l:List UInt8)(i:Nat)(hi:i<100)(sl:Value)(w:World)(h:uq B b l w)(hlen:l.length+((Lib.decDigits i).length+1)<=140737488355328)(jV:B<=w.heap.size) :
  Dl B b (.agg #[.int .i64 3, .int .i64 i,sl]) l (116::Lib.decDigits i) w:=by
 go_enter Tryz.func49,Tryz.ntmps49
 go_wp2_with (go_at_call 54;refine (uW i hi _).mono ?_)
 rintro e w1 ⟨he,hw⟩;subst he hw
 go_wp2_with (go_at_call 72;refine (ws B b l _ _ (nt h _) (by simp;omega) (qd jV _)).mono ?_)
 rintro e w1 ⟨he,h1⟩;subst he
 go_wp2
 go_end0
 exact⟨rfl,by simpa using h1.alloc jV⟩
set_option maxRecDepth 100000 in
theorem we4(B b:Nat)(l:List UInt8)(i:Nat)(hi:i<100)(sl:Value)(w:World)(h:uq B b l w)(hlen:l.length+((Lib.decDigits i).length+1)<=140737488355328)(jV:B<=w.heap.size) :
  Dl B b (.agg #[.int .i64 4, .int .i64 i,sl]) l (97::Lib.decDigits i) w:=by
 go_enter Tryz.func49,Tryz.ntmps49
 go_wp2_with (go_at_call 54;refine (uW i hi _).mono ?_)
 rintro e w1 ⟨he,hw⟩;subst he hw
 go_wp2_with (go_at_call 72;refine (ws B b l _ _ (nt h _) (by simp;omega) (qd jV _)).mono ?_)
 rintro e w1 ⟨he,h1⟩;subst he
 go_wp2
 go_end0
 exact⟨rfl,by simpa using h1.alloc jV⟩
set_option maxRecDepth 100000 in
theorem we5(B b:Nat)(l t:List UInt8)(n:Int)(kb ko cap:Nat)(c0 c1 c2:Value)(w:World)(h:uq B b l w)(hlen:l.length+(t.length+1)<=140737488355328)(jV:B<=w.heap.size)
  (uw:∀ w1,Below B w w1->∀ j v,[c0,c1,c2][j]?=some v->w1.cell? ⟨kb,ko+0+j,none⟩=some v)
  (Ud:∀ w1 l1,Below B w w1->uq B b l1 w1->B<=w1.heap.size->l1.length+t.length<=140737488355328->Dl B b (.agg #[c0,c1,c2]) l1 t w1)
  : Dl B b (.agg #[.int .i64 5, .int .i64 n, .slice (some ⟨kb,ko,none⟩) 1 cap]) l (126::t) w:=by
 go_enter Tryz.func49,Tryz.ntmps49
 go_wp2_with (go_at_call 72;refine (ws B b l _ _ (nt h _) (by simp;omega) (qd jV _)).mono ?_)
 intro e w1 he h1;subst he
 have c2':=xV h1.aM (HB h) 2 rfl
 have q00:w1.cell? ⟨kb,ko,none⟩=some c0:=by simpa [Nat.add_assoc] using uw w1 (h1.alloc jV).ft 0 _ rfl
 have q01:w1.cell? ⟨kb,ko+1,none⟩=some c1:=by simpa [Nat.add_assoc] using uw w1 (h1.alloc jV).ft 1 _ rfl
 have q02:w1.cell? ⟨kb,ko+2,none⟩=some c2:=by simpa [Nat.add_assoc] using uw w1 (h1.alloc jV).ft 2 _ rfl
 go_wp2_with (go_at_call 49;refine (Ud w1 _ (h1.alloc jV).ft h1.Jg (by have:=(h1.alloc jV).ft.size;omega) (by simp;omega)).mono ?_)
 rintro e w2 ⟨he,h2⟩;subst he
 go_wp2
 go_end0
 exact⟨rfl,((h1.alloc jV).trans h2)⟩
set_option maxRecDepth 100000 in
theorem we8(B b:Nat)(l t:List UInt8)(n:Int)(kb ko cap:Nat)(c0 c1 c2:Value)(w:World)(h:uq B b l w)(hlen:l.length+(t.length+1)<=140737488355328)(jV:B<=w.heap.size)
  (uw:∀ w1,Below B w w1->∀ j v,[c0,c1,c2][j]?=some v->w1.cell? ⟨kb,ko+0+j,none⟩=some v)
  (Ud:∀ w1 l1,Below B w w1->uq B b l1 w1->B<=w1.heap.size->l1.length+t.length<=140737488355328->Dl B b (.agg #[c0,c1,c2]) l1 t w1)
  : Dl B b (.agg #[.int .i64 8, .int .i64 n, .slice (some ⟨kb,ko,none⟩) 1 cap]) l (t++[42]) w:=by
 have BT:Below B w (w.alloc (.cells #[.int .i64 8, .int .i64 n, .slice (some ⟨kb,ko,none⟩) 1 cap] 28)):=(a7J B w).alloc jV _
 have q00:(w.alloc (.cells #[.int .i64 8, .int .i64 n, .slice (some ⟨kb,ko,none⟩) 1 cap] 28)).cell? ⟨kb,ko,none⟩=some c0:=by simpa [Nat.add_assoc] using uw (w.alloc (.cells #[.int .i64 8, .int .i64 n, .slice (some ⟨kb,ko,none⟩) 1 cap] 28)) BT 0 _ rfl
 have q01:(w.alloc (.cells #[.int .i64 8, .int .i64 n, .slice (some ⟨kb,ko,none⟩) 1 cap] 28)).cell? ⟨kb,ko+1,none⟩=some c1:=by simpa [Nat.add_assoc] using uw (w.alloc (.cells #[.int .i64 8, .int .i64 n, .slice (some ⟨kb,ko,none⟩) 1 cap] 28)) BT 1 _ rfl
 have q02:(w.alloc (.cells #[.int .i64 8, .int .i64 n, .slice (some ⟨kb,ko,none⟩) 1 cap] 28)).cell? ⟨kb,ko+2,none⟩=some c2:=by simpa [Nat.add_assoc] using uw (w.alloc (.cells #[.int .i64 8, .int .i64 n, .slice (some ⟨kb,ko,none⟩) 1 cap] 28)) BT 2 _ rfl
 go_enter Tryz.func49,Tryz.ntmps49
 go_wp2_with (go_at_call 49;refine (Ud _ _ BT (nt h _) (qd jV _) (by omega)).mono ?_)
 rintro e w1 ⟨he,h1⟩;subst he
 go_wp2_with (go_at_call 72;refine (ws B b _ _ _ h1.Jg (by simp;omega) (by have:=(h1.alloc jV).ft.size;omega)).mono ?_)
 intro e w2 he h2;subst he
 go_wp2
 go_end0
 exact⟨rfl,((h1.alloc jV).trans h2)⟩
set_option maxRecDepth 100000 in
theorem we6(B b:Nat)(l t u:List UInt8)(n:Int)(kb ko cap:Nat)(c0 c1 c2 d0 d1 d2:Value)(w:World)(h:uq B b l w)(hlen:l.length+(t.length+u.length+5)<=140737488355328)(jV:B<=w.heap.size)
  (uw:∀ w1,Below B w w1->∀ j v,[c0,c1,c2][j]?=some v->w1.cell? ⟨kb,ko+0+j,none⟩=some v)
  (Ud:∀ w1 l1,Below B w w1->uq B b l1 w1->B<=w1.heap.size->l1.length+t.length<=140737488355328->Dl B b (.agg #[c0,c1,c2]) l1 t w1)
  (ux:∀ w1,Below B w w1->∀ j v,[d0,d1,d2][j]?=some v->w1.cell? ⟨kb,ko+3+j,none⟩=some v)
  (ih1:∀ w1 l1,Below B w w1->uq B b l1 w1->B<=w1.heap.size->l1.length+u.length<=140737488355328->Dl B b (.agg #[d0,d1,d2]) l1 u w1)
  : Dl B b (.agg #[.int .i64 6, .int .i64 n, .slice (some ⟨kb,ko,none⟩) 2 cap]) l ([40]++(t++([32,43,32]++(u++[41])))) w:=by
 go_enter Tryz.func49,Tryz.ntmps49
 go_wp2_with (go_at_call 72;refine (ws B b l _ _ (nt h _) (by simp;omega) (qd jV _)).mono ?_)
 intro e w1 he h1;subst he
 have e1:=xV h1.aM (HB h) 2 rfl
 have q00:w1.cell? ⟨kb,ko,none⟩=some c0:=by simpa [Nat.add_assoc] using uw w1 (h1.alloc jV).ft 0 _ rfl
 have q01:w1.cell? ⟨kb,ko+1,none⟩=some c1:=by simpa [Nat.add_assoc] using uw w1 (h1.alloc jV).ft 1 _ rfl
 have q02:w1.cell? ⟨kb,ko+2,none⟩=some c2:=by simpa [Nat.add_assoc] using uw w1 (h1.alloc jV).ft 2 _ rfl
 have g1:=h1.alloc jV
 have s1:B<=w1.heap.size:=by have:=g1.ft.size;omega
 go_wp2_with (go_at_call 49;refine (Ud w1 _ g1.ft h1.Jg s1 (by simp;omega)).mono ?_)
 rintro e w2 ⟨he,h2⟩;subst he
 have s2:B<=w2.heap.size:=by have:=h2.ft.size;omega
 go_wp2_with (go_at_call 72;refine (ws B b _ _ _ h2.Jg (by simp;omega) s2).mono ?_)
 intro e w3 he h3;subst he
 have e3:=xV (h1.aM.trans (h2.aM.trans h3.aM)) (HB h) 2 rfl
 have g3:=g1.ft.trans (h2.ft.trans h3.ft)
 have q10:w3.cell? ⟨kb,ko+3,none⟩=some d0:=by simpa [Nat.add_assoc] using ux w3 g3 0 _ rfl
 have q11:w3.cell? ⟨kb,ko+4,none⟩=some d1:=by simpa [Nat.add_assoc] using ux w3 g3 1 _ rfl
 have q12:w3.cell? ⟨kb,ko+5,none⟩=some d2:=by simpa [Nat.add_assoc] using ux w3 g3 2 _ rfl
 have s3:B<=w3.heap.size:=by have:=h3.ft.size;omega
 go_wp2_with (go_at_call 49;refine (ih1 w3 _ g3 h3.Jg s3 (by simp;omega)).mono ?_)
 rintro e w4 ⟨he,h4⟩;subst he
 have s4:B<=w4.heap.size:=by have:=h4.ft.size;omega
 go_wp2_with (go_at_call 72;refine (ws B b _ _ _ h4.Jg (by simp;omega) s4).mono ?_)
 intro e w5 he h5;subst he
 go_wp2
 go_end0
 have j2:Wr B b (l++[40]) t w1 w2:=by simpa using h2
 have j3:Wr B b (l++[40]++t) [32,43,32] w2 w3:=by simpa using h3
 have j4:Wr B b (l++[40]++t++[32,43,32]) u w3 w4:=by simpa using h4
 have j5:Wr B b (l++[40]++t++[32,43,32]++u) [41] w4 w5:=by simpa using h5
 exact⟨rfl,g1.trans (j2.trans (j3.trans (j4.trans j5)))⟩
set_option maxRecDepth 100000 in
theorem we7(B b:Nat)(l t u:List UInt8)(n:Int)(kb ko cap:Nat)(c0 c1 c2 d0 d1 d2:Value)(w:World)(h:uq B b l w)(hlen:l.length+(t.length+u.length+3)<=140737488355328)(jV:B<=w.heap.size)
  (uw:∀ w1,Below B w w1->∀ j v,[c0,c1,c2][j]?=some v->w1.cell? ⟨kb,ko+0+j,none⟩=some v)
  (Ud:∀ w1 l1,Below B w w1->uq B b l1 w1->B<=w1.heap.size->l1.length+t.length<=140737488355328->Dl B b (.agg #[c0,c1,c2]) l1 t w1)
  (ux:∀ w1,Below B w w1->∀ j v,[d0,d1,d2][j]?=some v->w1.cell? ⟨kb,ko+3+j,none⟩=some v)
  (ih1:∀ w1 l1,Below B w w1->uq B b l1 w1->B<=w1.heap.size->l1.length+u.length<=140737488355328->Dl B b (.agg #[d0,d1,d2]) l1 u w1)
  : Dl B b (.agg #[.int .i64 7, .int .i64 n, .slice (some ⟨kb,ko,none⟩) 2 cap]) l ([40]++(t++([32]++(u++[41])))) w:=by
 go_enter Tryz.func49,Tryz.ntmps49
 go_wp2_with (go_at_call 72;refine (ws B b l _ _ (nt h _) (by simp;omega) (qd jV _)).mono ?_)
 intro e w1 he h1;subst he
 have e1:=xV h1.aM (HB h) 2 rfl
 have q00:w1.cell? ⟨kb,ko,none⟩=some c0:=by simpa [Nat.add_assoc] using uw w1 (h1.alloc jV).ft 0 _ rfl
 have q01:w1.cell? ⟨kb,ko+1,none⟩=some c1:=by simpa [Nat.add_assoc] using uw w1 (h1.alloc jV).ft 1 _ rfl
 have q02:w1.cell? ⟨kb,ko+2,none⟩=some c2:=by simpa [Nat.add_assoc] using uw w1 (h1.alloc jV).ft 2 _ rfl
 have g1:=h1.alloc jV
 have s1:B<=w1.heap.size:=by have:=g1.ft.size;omega
 go_wp2_with (go_at_call 49;refine (Ud w1 _ g1.ft h1.Jg s1 (by simp;omega)).mono ?_)
 rintro e w2 ⟨he,h2⟩;subst he
 have s2:B<=w2.heap.size:=by have:=h2.ft.size;omega
 go_wp2_with (go_at_call 72;refine (ws B b _ _ _ h2.Jg (by simp;omega) s2).mono ?_)
 intro e w3 he h3;subst he
 have e3:=xV (h1.aM.trans (h2.aM.trans h3.aM)) (HB h) 2 rfl
 have g3:=g1.ft.trans (h2.ft.trans h3.ft)
 have q10:w3.cell? ⟨kb,ko+3,none⟩=some d0:=by simpa [Nat.add_assoc] using ux w3 g3 0 _ rfl
 have q11:w3.cell? ⟨kb,ko+4,none⟩=some d1:=by simpa [Nat.add_assoc] using ux w3 g3 1 _ rfl
 have q12:w3.cell? ⟨kb,ko+5,none⟩=some d2:=by simpa [Nat.add_assoc] using ux w3 g3 2 _ rfl
 have s3:B<=w3.heap.size:=by have:=h3.ft.size;omega
 go_wp2_with (go_at_call 49;refine (ih1 w3 _ g3 h3.Jg s3 (by simp;omega)).mono ?_)
 rintro e w4 ⟨he,h4⟩;subst he
 have s4:B<=w4.heap.size:=by have:=h4.ft.size;omega
 go_wp2_with (go_at_call 72;refine (ws B b _ _ _ h4.Jg (by simp;omega) s4).mono ?_)
 intro e w5 he h5;subst he
 go_wp2
 go_end0
 have j2:Wr B b (l++[40]) t w1 w2:=by simpa using h2
 have j3:Wr B b (l++[40]++t) [32] w2 w3:=by simpa using h3
 have j4:Wr B b (l++[40]++t++[32]) u w3 w4:=by simpa using h4
 have j5:Wr B b (l++[40]++t++[32]++u) [41] w4 w5:=by simpa using h5
 exact⟨rfl,g1.trans (j2.trans (j3.trans (j4.trans j5)))⟩
end Go.Proofs.YtnehkikdlnmebaaGreatDoor

set_option maxRecDepth 4000
set_option maxHeartbeats 4000000
namespace Go.Proofs.YtnehkikdlnmebaaGreatDoor
noncomputable section
open Go.RowKit Go.Proofs
def dQ(n:Int):List UInt8:=Lib.decDigits n.toNat
def OF(k n:Int)(p q:List UInt8):List UInt8:=if k=1 then [48] else if k=2 then [49] else if k=3 then 116::dQ n else if k=4 then 97::dQ n else if k=5 then 126::p
 else if k=6 then [40]++(p++([32,43,32]++(q++[41]))) else if k=7 then [40]++(p++([32]++(q++[41]))) else p++[42]
mutual
def bA:O->List UInt8
 | ⟨k,n,ks⟩=>OF k n ((KR ks).getD 0 []) ((KR ks).getD 1 [])
def KR:List O->List (List UInt8)
 | []=>[]
 | k::ks=>bA k::KR ks
end
theorem pX(z:O):∀ (xs:List O) (i:Nat),i<xs.length->(KR xs).getD i []=bA (xs.getD i z)
 | [],i,h=>by simp at h
 | x::xs,0,h=>by simp[KR]
 | x::xs,i+1,h=>by
  have:=pX z xs i (by simpa using h)
  simpa [KR] using this
theorem a0f(x:O):bA x=OF x.ah x.bc ((KR x.V).getD 0 []) ((KR x.V).getD 1 []):=by
 cases x;rfl
def aL(x:O):Bool:=bL 9 9 x
def zy(x:O)(i:Nat):Prop:=aL (x.V.getD i zE)=true/\cv (x.V.getD i zE)<cv x
theorem TN(x:O)(h:aL x=true)(i:Nat)(hi:i<x.V.length):zy x i:=by
 unfold zy
 simp only[aL] at h ⊢
 rw[mB] at h
 simp only[a5I] at h
 refine⟨CY _ _ _ _ hi h.2,?_⟩
 have:=cR (zE:O) x.V i hi
 have:=lA x
 omega
theorem dz(x:O)(h:aL x=true):((x.ah=3\/x.ah=4)->0<=x.bc/\x.bc<=9) /\
  ((x.ah=5\/x.ah=8)->x.V.length=1/\zy x 0)/\((x.ah=6\/x.ah=7)->x.V.length=2/\zy x 0/\zy x 1) /\
  (x.ah=1\/x.ah=2\/x.ah=3\/x.ah=4\/x.ah=5\/x.ah=6\/x.ah=7\/x.ah=8):=by
 have hk:=TN x h
 simp only[aL] at h
 rw[mB,qg] at h
 simp only[a5I,a5M] at h
 obtain⟨⟨⟨h1,h2⟩,_⟩,_⟩:=h
 refine⟨λ e=>?_,λ e=>?_,λ e=>?_,?_⟩
 .rcases e with e|e<;>simpa [zP,e] using h2
 .have ye:x.V.length=1:=by
   rcases e with e|e<;>rw[e] at h1<;>simp[cf] at h1<;>omega
  exact⟨ye,hk 0 (by omega)⟩
 .have ye:x.V.length=2:=by
   rcases e with e|e<;>rw[e] at h1<;>simp[cf] at h1<;>omega
  exact⟨ye,hk 0 (by omega),hk 1 (by omega)⟩
 .unfold cf at h1
  split at h1
  .omega
  .split at h1
   .omega
   .split at h1<;>omega
theorem fW(x:O)(h:aL x=true):(x.ah=1->bA x=[48])/\(x.ah=2->bA x=[49])/\(x.ah=3->bA x=116::dQ x.bc)/\(x.ah=4->bA x=97::dQ x.bc) /\
  (x.ah=5->bA x=126::bA (x.V.getD 0 zE)) /\
  (x.ah=6->bA x=[40]++(bA (x.V.getD 0 zE)++([32,43,32]++(bA (x.V.getD 1 zE)++[41])))) /\
  (x.ah=7->bA x=[40]++(bA (x.V.getD 0 zE)++([32]++(bA (x.V.getD 1 zE)++[41])))) /\
  (x.ah=8->bA x=bA (x.V.getD 0 zE)++[42]):=by
 have hf:=dz x h
 rw[a0f]
 refine⟨λ e=>?_,λ e=>?_,λ e=>?_,λ e=>?_,λ e=>?_,λ e=>?_,λ e=>?_,λ e=>?_⟩
 .simp[OF,e]
 .simp[OF,e]
 .simp[OF,e]
 .simp[OF,e]
 .have:=(hf.2.1 (.inl e)).1
  rw[pX zE x.V 0 (by omega)];simp[OF,e]
 .have:=(hf.2.2.1 (.inl e)).1
  rw[pX zE x.V 0 (by omega),pX zE x.V 1 (by omega)];simp[OF,e]
 .have:=(hf.2.2.1 (.inr e)).1
  rw[pX zE x.V 0 (by omega),pX zE x.V 1 (by omega)];simp[OF,e]
 .have:=(hf.2.1 (.inr e)).1
  rw[pX zE x.V 0 (by omega)];simp[OF,e]
theorem kq(n:Int)(h:0<=n/\n<=9):(dQ n).length=1:=by
 unfold dQ
 rw[Lib.decDigits_one (by omega)];rfl
theorem YL(f:O->Nat)(z:O)(xs:List O)(h:xs.length=2):cW f xs=f (xs.getD 0 z)+f (xs.getD 1 z):=by
 match xs,h with
 | [a,b],_=>simp[cW]
theorem YK(f:O->Nat)(z:O)(xs:List O)(h:xs.length=1):cW f xs=f (xs.getD 0 z):=by
 match xs,h with
 | [a],_=>simp[cW]
theorem tD:∀ (N:Nat) (x:O),cv x<N->aL x=true->(bA x).length<=5 * ar x
 | 0,x,h,_=>by omega
 | N+1,x,hN,h=>by
  have hf:=dz x h
  have ht:=fW x h
  have hn:=nH x
  rcases hf.2.2.2 with e|e|e|e|e|e|e|e
  .rw[ht.1 e];simp;omega
  .rw[ht.2.1 e];simp;omega
  .rw[ht.2.2.1 e];have:=kq _ (hf.1 (.inl e));simp;omega
  .rw[ht.2.2.2.1 e];have:=kq _ (hf.1 (.inr e));simp;omega
  .rw[ht.2.2.2.2.1 e]
   obtain⟨hl,h0⟩:=hf.2.1 (.inl e)
   have i0:=tD N _ (by have:=h0.2;omega) h0.1
   rw[YK _ zE _ hl] at hn
   simp only[a5O];omega
  .rw[ht.2.2.2.2.2.1 e]
   obtain⟨hl,h0,h1⟩:=hf.2.2.1 (.inl e)
   have i0:=tD N _ (by have:=h0.2;omega) h0.1
   have i1:=tD N _ (by have:=h1.2;omega) h1.1
   rw[YL _ zE _ hl] at hn
   simp only[a5U,a5O,a6a];omega
  .rw[ht.2.2.2.2.2.2.1 e]
   obtain⟨hl,h0,h1⟩:=hf.2.2.1 (.inr e)
   have i0:=tD N _ (by have:=h0.2;omega) h0.1
   have i1:=tD N _ (by have:=h1.2;omega) h1.1
   rw[YL _ zE _ hl] at hn
   simp only[a5U,a5O,a6a];omega
  .rw[ht.2.2.2.2.2.2.2 e]
   obtain⟨hl,h0⟩:=hf.2.1 (.inr e)
   have i0:=tD N _ (by have:=h0.2;omega) h0.1
   rw[YK _ zE _ hl] at hn
   simp only[a5U,a5O,a6a];omega
theorem yN{w:World}{S:Nat->Prop}{x:O}{cs:List Value}(h:Rd w S x.aK cs):∃ a cap,cs=[.int .i64 x.ah, .int .i64 x.bc, .slice a x.V.length cap] /\
  (x.V=[]\/∃ b o,a=some ⟨b,o,none⟩/\S b/\dr w S (x.V.map O.aK) b o):=by
 cases x with
 | mk k n ks =>
  simp only[O.aK,Rd,dq] at h
  obtain⟨v0,r0,rfl,⟨h0,_⟩,v1,r1,rfl,⟨h1,_⟩,v2,r2,rfl,⟨a,cap,h2,_,_,_,h3⟩,rfl⟩:=h
  simp only[a5L,a5R] at h0 h1 h2
  subst h0 h1 h2
  rw[O.Il] at *
  refine⟨a,cap,by simp,h3.imp (λ h=>by simpa using h) id⟩
theorem QN{w:World}{S:Nat->Prop}{x:O}{b o:Nat}(h:dr w S (x.V.map O.aK) b o)(i:Nat)(hi:i<x.V.length) :
  ∃ c0 c1 c2,Rd w S (x.V.getD i zE).aK [c0,c1,c2]/\bP w b (o+3 * i) [c0,c1,c2]:=by
 obtain⟨cs,h1,h2,h3⟩:=dr.at_ (n:=3) _ b o h (λ d hd=>by
  obtain⟨y,_,rfl⟩:=a5K.1 hd
  cases y;rfl) i (x.V.getD i zE).aK (by simp[a7w,a6o,a5V hi])
 match cs,h1 with
 | [c0,c1,c2],_=>exact⟨c0,c1,c2,h2,by rw[Nat.mul_comm];exact h3⟩
theorem EK(B b:Nat)(S:Nat->Prop)(hS:∀ k,S k->k<B):∀ (N:Nat) (x:O),cv x<N->aL x=true->∀ (l:List UInt8) (w:World) (cs:List Value),uq B b l w->B<=w.heap.size ->
  l.length+(bA x).length<=140737488355328->Rd w S x.aK cs->Dl B b (.agg cs.toArray) l (bA x) w
 | 0,x,h,_=>by omega
 | N+1,x,hN,h=>by
  intro l w cs hI hB hl hr
  have hf:=dz x h
  have ht:=fW x h
  obtain⟨a,cap,rfl,hk⟩:=yN hr
  have Ni:∀ i,i<x.V.length->zy x i->∃ kb ko c0 c1 c2,a=some ⟨kb,ko,none⟩/\(∀ j,j≠i->True)/\(∀ w1,Below B w w1->∀ j v,[c0,c1,c2][j]?=some v->w1.cell? ⟨kb,ko+3 * i+j,none⟩=some v) /\
    (∀ w1 l1,Below B w w1->uq B b l1 w1->B<=w1.heap.size->l1.length+(bA (x.V.getD i zE)).length<=140737488355328->Dl B b (.agg #[c0,c1,c2]) l1 (bA (x.V.getD i zE)) w1):=by
   intro i hi hg
   rcases hk with hk|⟨kb,ko,rfl,Zn,jH⟩
   .rw[hk] at hi;simp at hi
   .obtain⟨c0,c1,c2,h1,h2⟩:=QN jH i hi
    refine⟨kb,ko,c0,c1,c2,rfl,λ _ _=>trivial,λ w1 hw j v hj=>?_,λ w1 l1 hw hI1 hB1 Sc=>?_⟩
    .exact h2.aM (hw.block kb (hS kb Zn)) j v hj
    .exact EK B b S hS N _ (by have:=hg.2;omega) hg.1 l1 w1 [c0,c1,c2] hI1 hB1 Sc (h1.aM (λ _ h=>h) (λ k hk=>hw.block k (hS k hk)))
  rcases hf.2.2.2 with e|e|e|e|e|e|e|e
  .rw[ht.1 e] at hl ⊢;rw[e];exact we1 B b l _ _ w hI hl hB
  .rw[ht.2.1 e] at hl ⊢;rw[e];exact we2 B b l _ _ w hI hl hB
  .have hn:=hf.1 (.inl e)
   rw[ht.2.2.1 e] at hl ⊢;rw[e,show x.bc=((x.bc.toNat:Nat):Int) by omega];exact we3 B b l _ (by omega) _ w hI (by simpa [dQ] using hl) hB
  .have hn:=hf.1 (.inr e)
   rw[ht.2.2.2.1 e] at hl ⊢;rw[e,show x.bc=((x.bc.toNat:Nat):Int) by omega];exact we4 B b l _ (by omega) _ w hI (by simpa [dQ] using hl) hB
  .obtain⟨hn,h0⟩:=hf.2.1 (.inl e)
   obtain⟨kb,ko,c0,c1,c2,rfl,_,q1,q2⟩:=Ni 0 (by omega) h0
   rw[ht.2.2.2.2.1 e] at hl ⊢;rw[e,hn];exact we5 B b l _ _ kb ko cap c0 c1 c2 w hI (by simpa using hl) hB q1 q2
  .obtain⟨hn,h0,h1⟩:=hf.2.2.1 (.inl e)
   obtain⟨kb,ko,c0,c1,c2,rfl,_,q1,q2⟩:=Ni 0 (by omega) h0
   obtain⟨kb',ko',d0,d1,d2,eq,_,p1,p2⟩:=Ni 1 (by omega) h1
   cases eq
   rw[ht.2.2.2.2.2.1 e] at hl ⊢;rw[e,hn];exact we6 B b l _ _ _ kb ko cap c0 c1 c2 d0 d1 d2 w hI (by simp at hl ⊢;omega) hB q1 q2 p1 p2
  .obtain⟨hn,h0,h1⟩:=hf.2.2.1 (.inr e)
   obtain⟨kb,ko,c0,c1,c2,rfl,_,q1,q2⟩:=Ni 0 (by omega) h0
   obtain⟨kb',ko',d0,d1,d2,eq,_,p1,p2⟩:=Ni 1 (by omega) h1
   cases eq
   rw[ht.2.2.2.2.2.2.1 e] at hl ⊢;rw[e,hn];exact we7 B b l _ _ _ kb ko cap c0 c1 c2 d0 d1 d2 w hI (by simp at hl ⊢;omega) hB q1 q2 p1 p2
  .obtain⟨hn,h0⟩:=hf.2.1 (.inr e)
   obtain⟨kb,ko,c0,c1,c2,rfl,_,q1,q2⟩:=Ni 0 (by omega) h0
   rw[ht.2.2.2.2.2.2.2 e] at hl ⊢;rw[e,hn];exact we8 B b l _ _ kb ko cap c0 c1 c2 w hI (by simpa using hl) hB q1 q2
def iH:bb:=⟨Cq,[.v (.st .expr)],λ (x:O)=>⟨(some (aL x=true/\(bA x).length<=1000000),[⟨.str,bA x⟩])⟩⟩
set_option maxRecDepth 100000 in
theorem Q7(x:O)(w:World)(S:Nat->Prop)(hS:∀ b,S b->b<w.heap.size)(hg:aL x=true)(hl:(bA x).length<=1000000)(cs:List Value)(hr:Rd w S x.aK cs) :
  Calls Tryz.prog 23 #[.agg cs.toArray] w λ e w'=>e = .returned (.string ⟨(bA x).toArray⟩)/\Below w.heap.size w w':=by
 obtain⟨a,cap,rfl,hk⟩:=yN hr
 have hI:∀ o:Obj,uq (w.heap.size+1) (w.heap.size+1) [] ((w.alloc o).alloc (.cells #[.pointer none, .slice none 0 0] 89)):=λ o=>by
  have:=Lib.fresh_isBuilder 89 5 (w.alloc o)
  rw[show (w.alloc o).heap.size=w.heap.size+1 by simp] at this
  exact this
 have hB:∀ o p:Obj,w.heap.size+1<=((w.alloc o).alloc p).heap.size:=λ o p=>by simp
 have hw:∀ o p:Obj,Below w.heap.size w ((w.alloc o).alloc p):=λ o p=>((a7J _ w).alloc (a6b _) o).alloc (by simp) p
 go_enter Tryz.func23,Tryz.ntmps23
 go_wp2_with (go_at_call 49;refine (EK (w.heap.size+1) (w.heap.size+1) S (λ k hk=>Nat.lt_succ_of_lt (hS k hk)) (cv x+1) x (a6c _) hg [] _ _ (hI _) (hB _ _) (by simp;omega) (hr.aM (λ _ h=>h) (λ k hk=>(hw _ _).block k (hS k hk)))).mono ?_)
 rintro e w1 ⟨he,h1⟩;subst he
 have b1:Below w.heap.size w w1:=(hw _ _).trans (h1.ft.mono (a9U _))
 have g1:uq (w.heap.size+1) (w.heap.size+1) (bA x) w1:=by simpa using h1.Jg
 have z1:w.heap.size+1<=w1.heap.size:=a7T (hB _ _) h1.ft.size
 clear h1
 go_wp2_with (go_at_call 50;refine (Tryz.Builder_String_any (w.heap.size+1) (w.heap.size+1) (bA x) w1 g1 z1).mono ?_)
 rintro e w2 ⟨he,h2⟩;subst he
 go_wp2
 go_ret
 exact⟨rfl,b1.trans (h2.mono (a9U _))⟩
theorem Gx{w w':World}(h:Below w.heap.size w w'):bX (λ _=>False) w w':=⟨h.os,h.tape,h.output,h.size,λ b hb _=>h.block b hb⟩
theorem QO{w:World}{S:Nat->Prop}(l:List UInt8)(h:l.length<=140737488355328):eI w S ⟨.str,l⟩ (.string ⟨l.toArray⟩) :=
 ⟨⟨l.toArray⟩,rfl,by simp,by simpa [ByteArray.size] using h⟩
theorem wv:bb.Good iH:=by
 refine⟨aG KS rfl (by decide),?_⟩
 intro x hp w S cF ⟨hS,_⟩ ha
 match cF,ha with
 | [v],ha =>
  obtain⟨⟨cs,rfl,hr⟩,_⟩:=ha
  refine (Q7 x w S hS hp.1 hp.2 cs hr).mono ?_
  rintro e w' ⟨rfl,hb⟩
  exact⟨_,S,_,rfl,rfl,Gx hb,λ _ _=>a7N,λ b h=>a5Q (hS b h) hb.size,QO (w:=w') (S:=S) _ (by have:=hp.2;omega)⟩
def gH:bb:=⟨AP,[.v (.int .i64)],λ (n:Int)=>⟨(some (0<=n/\n<=9),[⟨.str,dQ n⟩])⟩⟩
set_option maxRecDepth 100000 in
theorem Oh(n:Nat)(h:n<10)(w:World) :
  Calls Tryz.prog 32 #[.int .i64 n] w λ e w'=>e = .returned (.string ⟨(Lib.decDigits n).toArray⟩)/\Below w.heap.size w w':=by
 rw[Lib.decDigits_one h]
 have hn:¬ (10:Int)<=(n:Int):=by omega
 go_enter Tryz.func32,Tryz.ntmps32
 go_wp2
 rw[show (convert 22 9 (.slice (some ⟨w.heap.size,0,none⟩) 1 1)).run Tryz.prog (w.alloc (.cells #[.int .u8 (48+(n:Int))] 5))=_ from run_convert_bytes_back _ 22 9 5 ⟨w.heap.size,0,none⟩ 1 [UInt8.ofNat (48+n)] Tryz.underlying22 Tryz.underlying5 Tryz.underlying9 (by
  intro j hj
  have hj0:j=0:=by simpa using hj
  subst hj0
  show World.cell? _ ⟨w.heap.size,0,none⟩=_
  rw[a7R (a7f w _)]
  have e:(UInt8.ofNat (48+n)).toNat=48+n:=by rw[a8Y];omega
  simp[e]
  omega)]
 simp only[Result.andThen]
 rw[a8Q]
 go_wp2
 go_ret
 exact⟨by first|rfl|(simp;done)|(show Ending.returned (.string ⟨#[48+UInt8.ofNat n]⟩)=_;rw[UInt8.ofNat_add];rfl),(a7J _ w).alloc (a6b _) _⟩
theorem uZ:bb.Good gH:=by
 refine⟨aG IM rfl (by decide),?_⟩
 intro (n:Int) hp w S cF ⟨hS,_⟩ ha
 match cF,ha with
 | [v],ha =>
  obtain⟨⟨hv,_⟩,_⟩:=ha
  simp only[a5L,a5R] at hv
  have hp:0<=n/\n<=9:=hp
  subst hv
  have:=Oh n.toNat (by omega) w
  rw[show ((n.toNat:Nat):Int)=n by omega] at this
  refine this.mono ?_
  rintro e w' ⟨rfl,hb⟩
  exact⟨_,S,_,rfl,rfl,Gx hb,λ _ _=>a7N,λ b h=>a5Q (hS b h) hb.size,QO (w:=w') (S:=S) (dQ n) (by rw[kq n hp];decide)⟩
def pe:bb:=⟨AO,[.v (.int .i64)],λ (n:Int)=>⟨(some (0<=n/\n<=9),[⟨.str,dQ n⟩])⟩⟩
theorem Ff:bb.Good pe:=by
 refine⟨aG IL rfl (by decide),?_⟩
 intro (n:Int) hp w S cF ⟨hS,_⟩ ha
 match cF,ha with
 | [v],ha =>
  obtain⟨⟨hv,_⟩,_⟩:=ha
  simp only[a5L,a5R] at hv
  have hp:0<=n/\n<=9:=hp
  subst hv
  have:=uW n.toNat (by omega) w
  rw[show ((n.toNat:Nat):Int)=n by omega] at this
  refine this.mono ?_
  rintro e w' ⟨rfl,rfl⟩
  exact⟨_,S,_,rfl,rfl,bX.refl _ _,λ _ _=>a7N,hS,QO (w:=w') (S:=S) (dQ n) (by rw[kq n hp];decide)⟩
def tk(x:O)(i:Nat):O:=x.V.getD i zE
structure TK(x:O)(i:Nat):Prop where
 a3M:aL (x.V.getD i zE)=true
 less:cv (x.V.getD i zE)<cv x
 len:(bA (x.V.getD i zE)).length<=(bA x).length
theorem a4R(x:O)(h:aL x=true)(e:x.ah=3):0<=x.bc/\x.bc<=9/\(dQ x.bc).length=1/\bA x=[116]++dQ x.bc:=by
 have:=(dz x h).1 (.inl e)
 exact⟨this.1,this.2,kq _ this,(fW x h).2.2.1 e⟩
theorem a4S(x:O)(h:aL x=true)(e:x.ah=4):0<=x.bc/\x.bc<=9/\(dQ x.bc).length=1/\bA x=[97]++dQ x.bc:=by
 have:=(dz x h).1 (.inr e)
 exact⟨this.1,this.2,kq _ this,(fW x h).2.2.2.1 e⟩
theorem a4T(x:O)(h:aL x=true)(e:x.ah=5):x.V.length=1/\TK x 0/\bA x=[126]++bA (x.V.getD 0 zE):=by
 have hk:=(dz x h).2.1 (.inl e)
 have ht:=(fW x h).2.2.2.2.1 e
 exact⟨hk.1,⟨hk.2.1,hk.2.2,by rw[ht];simp⟩,ht⟩
theorem a4U(x:O)(h:aL x=true)(e:x.ah=6):x.V.length=2/\TK x 0/\TK x 1/\bA x=[40]++bA (x.V.getD 0 zE)++[32,43,32]++bA (x.V.getD 1 zE)++[41]:=by
 have hk:=(dz x h).2.2.1 (.inl e)
 have ht:=(fW x h).2.2.2.2.2.1 e
 exact⟨hk.1,⟨hk.2.1.1,hk.2.1.2,by rw[ht];simp;omega⟩,⟨hk.2.2.1,hk.2.2.2,by rw[ht];simp;omega⟩,by rw[ht];simp⟩
theorem a4V(x:O)(h:aL x=true)(e:x.ah=7):x.V.length=2/\TK x 0/\TK x 1/\bA x=[40]++bA (x.V.getD 0 zE)++[32]++bA (x.V.getD 1 zE)++[41]:=by
 have hk:=(dz x h).2.2.1 (.inr e)
 have ht:=(fW x h).2.2.2.2.2.2.1 e
 exact⟨hk.1,⟨hk.2.1.1,hk.2.1.2,by rw[ht];simp;omega⟩,⟨hk.2.2.1,hk.2.2.2,by rw[ht];simp;omega⟩,by rw[ht];simp⟩
theorem a4W(x:O)(h:aL x=true)(e1:¬ x.ah=1)(e2:¬ x.ah=2)(e3:¬ x.ah=3)(e4:¬ x.ah=4)(e5:¬ x.ah=5)(e6:¬ x.ah=6)(e7:¬ x.ah=7):x.V.length=1/\TK x 0/\bA x=bA (x.V.getD 0 zE)++[42]:=by
 have e:x.ah=8:=by have:=(dz x h).2.2.2;omega
 have hk:=(dz x h).2.1 (.inr e)
 have ht:=(fW x h).2.2.2.2.2.2.2 e
 exact⟨hk.1,⟨hk.2.1,hk.2.2,by rw[ht];simp⟩,ht⟩
def lg(n:Nat):bb:=⟨mi,[.r (.st .expr)],λ (x:O)=>⟨(some (cv x<n/\aL x=true/\(bA x).length<=1000000),[⟨.str,bA x⟩])⟩⟩
def pj:bb:=⟨mi,[.r (.st .expr)],λ (x:O)=>⟨(some (aL x=true/\(bA x).length<=1000000),[⟨.str,bA x⟩])⟩⟩
def AA(x:O):Nat->aX:=λ _ => .none
theorem J0(n:Nat)(x:O):cU (bo [lg n,gH]) (aF ji) (AA x) 0 (bC (bo [lg n,gH]) ji λ r=>bH r [⟨.str,bA x⟩]) (aO ji [.ref ⟨(.st .expr),x⟩]) =
 ((ag x.ah ->
 (((decide (x.ah=(1:Int)))=true ->
 ([48])=(bA x))/\((decide (x.ah=(1:Int)))=false ->
 (((decide (x.ah=(2:Int)))=true ->
 ([49])=(bA x))/\((decide (x.ah=(2:Int)))=false ->
 (((decide (x.ah=(3:Int)))=true ->
 (ag x.bc ->
 ((0<=x.bc/\x.bc<=9)/\((dQ x.bc).length<=140737488355328 ->
 (([116]).length+(dQ x.bc).length<=140737488355328/\(([116])++(dQ x.bc))=(bA x))))))/\((decide (x.ah=(3:Int)))=false ->
 (((decide (x.ah=(4:Int)))=true ->
 (ag x.bc ->
 ((0<=x.bc/\x.bc<=9)/\((dQ x.bc).length<=140737488355328 ->
 (([97]).length+(dQ x.bc).length<=140737488355328/\(([97])++(dQ x.bc))=(bA x))))))/\((decide (x.ah=(4:Int)))=false ->
 (((decide (x.ah=(5:Int)))=true ->
 (x.V.length<=140737488355328 ->
 (aV (0:Int) x.V.length/\((cv (x.V.getD 0 zE)<n/\aL (x.V.getD 0 zE)=true/\(bA (x.V.getD 0 zE)).length<=1000000)/\((bA (x.V.getD 0 zE)).length<=140737488355328 ->
 (([126]).length+(bA (x.V.getD 0 zE)).length<=140737488355328/\(([126])++(bA (x.V.getD 0 zE)))=(bA x)))))))/\((decide (x.ah=(5:Int)))=false ->
 (((decide (x.ah=(6:Int)))=true ->
 (aV (0:Int) x.V.length/\((cv (x.V.getD 0 zE)<n/\aL (x.V.getD 0 zE)=true/\(bA (x.V.getD 0 zE)).length<=1000000)/\(([40]).length+(bA (x.V.getD 0 zE)).length<=140737488355328/\((([40])++(bA (x.V.getD 0 zE))).length+([32,43,32]).length<=140737488355328/\(aV (1:Int) x.V.length/\((cv (x.V.getD 1 zE)<n/\aL (x.V.getD 1 zE)=true/\(bA (x.V.getD 1 zE)).length<=1000000)/\(x.V.length<=140737488355328 ->
 ((bA (x.V.getD 0 zE)).length<=140737488355328 ->
 (x.V.length<=140737488355328 ->
 ((bA (x.V.getD 1 zE)).length<=140737488355328 ->
 (((([40])++(bA (x.V.getD 0 zE)))++([32,43,32])).length+(bA (x.V.getD 1 zE)).length<=140737488355328/\((((([40])++(bA (x.V.getD 0 zE)))++([32,43,32]))++(bA (x.V.getD 1 zE))).length+([41]).length<=140737488355328/\((((([40])++(bA (x.V.getD 0 zE)))++([32,43,32]))++(bA (x.V.getD 1 zE)))++([41]))=(bA x))))))))))))))/\((decide (x.ah=(6:Int)))=false ->
 (((decide (x.ah=(7:Int)))=true ->
 (aV (0:Int) x.V.length/\((cv (x.V.getD 0 zE)<n/\aL (x.V.getD 0 zE)=true/\(bA (x.V.getD 0 zE)).length<=1000000)/\(([40]).length+(bA (x.V.getD 0 zE)).length<=140737488355328/\((([40])++(bA (x.V.getD 0 zE))).length+([32]).length<=140737488355328/\(aV (1:Int) x.V.length/\((cv (x.V.getD 1 zE)<n/\aL (x.V.getD 1 zE)=true/\(bA (x.V.getD 1 zE)).length<=1000000)/\(x.V.length<=140737488355328 ->
 ((bA (x.V.getD 0 zE)).length<=140737488355328 ->
 (x.V.length<=140737488355328 ->
 ((bA (x.V.getD 1 zE)).length<=140737488355328 ->
 (((([40])++(bA (x.V.getD 0 zE)))++([32])).length+(bA (x.V.getD 1 zE)).length<=140737488355328/\((((([40])++(bA (x.V.getD 0 zE)))++([32]))++(bA (x.V.getD 1 zE))).length+([41]).length<=140737488355328/\((((([40])++(bA (x.V.getD 0 zE)))++([32]))++(bA (x.V.getD 1 zE)))++([41]))=(bA x))))))))))))))/\((decide (x.ah=(7:Int)))=false ->
 (x.V.length<=140737488355328 ->
 (aV (0:Int) x.V.length/\((cv (x.V.getD 0 zE)<n/\aL (x.V.getD 0 zE)=true/\(bA (x.V.getD 0 zE)).length<=1000000)/\((bA (x.V.getD 0 zE)).length<=140737488355328 ->
 ((bA (x.V.getD 0 zE)).length+([42]).length<=140737488355328/\((bA (x.V.getD 0 zE))++([42]))=(bA x)))))))))))))))))))))):=by kernel_rfl
theorem Jx(n:Nat)(hE:aQ [lg n,gH]):bb.Good (lg (n+1)):=by
 refine⟨aG nU rfl (by decide),?_⟩
 show ∀ (x:O),(cv x<n+1/\aL x=true/\(bA x).length<=1000000)->bD prog mi [.ref ⟨(.st .expr),x⟩] (·=[⟨.str,bA x⟩])
 intro x hp
 refine bu (wr:=[]) (cl:=[]) (ro:=[]) hE nU E1 (AA x) ?_
 rewrite [J0 n x]
 obtain⟨hm,hg,hl⟩:=hp
 have f1:=(fW x hg).1
 have f2:=(fW x hg).2.1
 have f3:=a4R x hg
 have f4:=a4S x hg
 have f5:=a4T x hg
 have f6:=a4U x hg
 have f7:=a4V x hg
 have f8:=a4W x hg
 refine λ a0=>⟨λ a1=>?_,λ a1=>⟨λ a2=>?_,λ a2=>⟨λ a3=>λ a4=>⟨?_,λ a5=>⟨?_,?_⟩⟩,λ a3=>⟨λ a4=>λ a5=>⟨?_,λ a6=>⟨?_,?_⟩⟩,λ a4=>⟨λ a5=>λ a6=>⟨?_,⟨?_,λ a7=>⟨?_,?_⟩⟩⟩,λ a5=>⟨λ a6=>⟨?_,⟨?_,⟨?_,⟨?_,⟨?_,⟨?_,λ a7=>λ a8=>λ a9=>λ dt=>⟨?_,⟨?_,?_⟩⟩⟩⟩⟩⟩⟩⟩,λ a6=>⟨λ a7=>⟨?_,⟨?_,⟨?_,⟨?_,⟨?_,⟨?_,λ a8=>λ a9=>λ dt=>λ dP=>⟨?_,⟨?_,?_⟩⟩⟩⟩⟩⟩⟩⟩,λ a7=>λ a8=>⟨?_,⟨?_,λ a9=>⟨?_,?_⟩⟩⟩⟩⟩⟩⟩⟩⟩⟩
 all_goals try and_intros
 all_goals ((try simp only[a5M,a5N,aV] at *);(first|replace f1:=f1 (by with_reducible assumption)|clear f1);(first|replace f2:=f2 (by with_reducible assumption)|clear f2);(first|replace f3:=f3 (by with_reducible assumption)|clear f3);(first|replace f4:=f4 (by with_reducible assumption)|clear f4);(first|replace f5:=f5 (by with_reducible assumption)|clear f5);(first|replace f6:=f6 (by with_reducible assumption)|clear f6);(first|replace f7:=f7 (by with_reducible assumption)|clear f7);(first|replace f8:=f8 (by with_reducible assumption) (by with_reducible assumption) (by with_reducible assumption) (by with_reducible assumption) (by with_reducible assumption) (by with_reducible assumption) (by with_reducible assumption)|clear f8);(try obtain⟨a5,b5,c5⟩:=f5);(try obtain⟨a8,b8,c8⟩:=f8);(try obtain⟨a3,b3,b3b,c3⟩:=f3);(try obtain⟨a4,b4,b4b,c4⟩:=f4);(try obtain⟨a6,b6,b6b,c6⟩:=f6);(try obtain⟨a7,b7,b7b,c7⟩:=f7);  first|rfl|omega|exact TK.a3M (by assumption)|exact f1.symm|exact f2.symm|(have t0:=TK.len ‹TK x 0›;have t1:=TK.less ‹TK x 0›;omega)|(have t0:=TK.len ‹TK x 1›;have t1:=TK.less ‹TK x 1›;omega)|exact (Eq.symm (by assumption))|(simp only[a5U,a5O,a6a];have t0:=TK.len ‹TK x 0›;first|omega|(have t1:=TK.len ‹TK x 1›;omega))|(simp only[a5U,a5O,a6a];omega))
theorem Kf :∀ n,aQ [lg n]
 | 0=>⟨⟨aG nU rfl (by decide),λ _ h=>absurd h.1 (a6D _)⟩,trivial⟩
 | n+1=>by
  have ih:=Kf  n
  exact⟨Jx n ⟨ih.1,uZ,trivial⟩,trivial⟩
theorem u7 :bb.Good pj :=
 ⟨aG nU rfl (by decide),λ x hp=>(Kf  (cv x+1)).1.2 x (⟨a6c _,hp⟩)⟩
end
end Go.Proofs.YtnehkikdlnmebaaGreatDoor

set_option maxRecDepth 4000
set_option maxHeartbeats 4000000
namespace Go.Proofs.YtnehkikdlnmebaaGreatDoor
noncomputable section
theorem VE(x y:O):fN x y=(decide (x.ah=y.ah)&&decide (x.bc=y.bc)&&fN x.V y.V):=by
 refine a8L.2 ?_
 cases x;cases y;simp[and_assoc]
def lb(n:Nat):bb:=⟨mh,[.r (.st .expr), .r (.st .expr)],λ (x:O) (y:O)=>⟨(some (cv x<n),[⟨.bool,fN x y⟩])⟩⟩
def pg:bb:=⟨mh,[.r (.st .expr), .r (.st .expr)],λ (x:O) (y:O)=>⟨(none,[⟨.bool,fN x y⟩])⟩⟩
def Ay(x:O)(y:O):Nat->aX:=(λ zb=>if Nat.beq zb 0 then .mk (Nat) (λ k=>k<=x.V.length/\x.V.length=y.V.length/\x.V.take k=y.V.take k/\x.ah=y.ah/\x.bc=y.bc) (λ k=>x.V.length - k) [] [2,3,6,7,8,9,10,11,12,13,14,15,16,17,18,19,20,21,22,23,24,25,26,27,28,29,30,31,32,33,34,35,36,37,38] (λ k=>[(5, .aS ⟨(.int .i64),((k:Int):Int)⟩)]) [0,1,4,5,39,40,41,42,43,44,45,46,47,48,49,50,51,52,53,54,55,56,57,58,59,60,61] (λ k=>[]) [] [] (λ k=>λ _ => .none) else .none)
abbrev qH(n:Nat)(x:O)(y:O):Prop:=((∃ k1:Nat,((k1<=x.V.length/\x.V.length=y.V.length/\x.V.take k1=y.V.take k1/\x.ah=y.ah/\x.bc=y.bc)/\((x=x/\(y=y/\((0:Int)=(k1:Int)/\True)))/\True)))/\(∀ k1:Nat,((k1<=x.V.length/\x.V.length=y.V.length/\x.V.take k1=y.V.take k1/\x.ah=y.ah/\x.bc=y.bc) ->
 (x.V.length<=140737488355328 ->
 (ag ((x.V.length:Int)) ->
 (((decide ((k1:Int)<((x.V.length:Int))))=true ->
 (aV (k1:Int) x.V.length/\(aV (k1:Int) y.V.length/\(x.V.length<=140737488355328 ->
 (y.V.length<=140737488355328 ->
 (cv (x.V.getD k1 zE)<n/\(((!(fN (x.V.getD k1 zE) (y.V.getD k1 zE)))=true ->
 false=(fN x y))/\((!(fN (x.V.getD k1 zE) (y.V.getD k1 zE)))=false ->
 (ag ((k1:Int)+(1:Int))/\(∃ k2:Nat,((k2<=x.V.length/\x.V.length=y.V.length/\x.V.take k2=y.V.take k2/\x.ah=y.ah/\x.bc=y.bc)/\(x.V.length - k2<x.V.length - k1/\((x=x/\(y=y/\(((k1:Int)+(1:Int))=(k2:Int)/\True)))/\True)))))))))))))/\((decide ((k1:Int)<((x.V.length:Int))))=false ->
 true=(fN x y))))))))
abbrev wI(n:Nat)(x:O)(y:O):Prop:=(x.V.length<=140737488355328 ->
 (ag ((x.V.length:Int)) ->
 (y.V.length<=140737488355328 ->
 (ag ((y.V.length:Int)) ->
 (((!(decide (((x.V.length:Int))=((y.V.length:Int)))))=true ->
 false=(fN x y))/\((!(decide (((x.V.length:Int))=((y.V.length:Int)))))=false ->
 (qH n x y)))))))
theorem JY(n:Nat)(x:O)(y:O):cU (bo [lb n]) (aF jg) (Ay x y) 0 (bC (bo [lb n]) jg λ r=>bH r [⟨.bool,fN x y⟩]) (aO jg [.ref ⟨(.st .expr),x⟩, .ref ⟨(.st .expr),y⟩]) =
 ((((!(decide (x.ah=y.ah)))=false ->
 (((!(decide (x.bc=y.bc)))=false ->
 (ag x.ah ->
 (ag y.ah ->
 (ag x.bc ->
 (ag y.bc ->
 (wI n x y))))))/\((!(decide (x.bc=y.bc)))=(!false) ->
 (ag x.ah ->
 (ag y.ah ->
 (ag x.bc ->
 (ag y.bc ->
 ((true=true ->
 false=(fN x y))/\(true=false ->
 (qH n x y))))))))))/\((!(decide (x.ah=y.ah)))=(!false) ->
 ((true=false ->
 (ag x.ah ->
 (ag y.ah ->
 (wI n x y))))/\(true=(!false) ->
 (ag x.ah ->
 (ag y.ah ->
 ((true=true ->
 false=(fN x y))/\(true=false ->
 (qH n x y)))))))))):=by kernel_rfl
theorem Jv(n:Nat)(hE:aQ [lb n]):bb.Good (lb (n+1)):=by
 refine⟨aG nS rfl (by decide),?_⟩
 show ∀ (x:O) (y:O),(cv x<n+1)->bD prog mh [.ref ⟨(.st .expr),x⟩, .ref ⟨(.st .expr),y⟩] (·=[⟨.bool,fN x y⟩])
 intro x y hp
 refine bu (wr:=[]) (cl:=[]) (ro:=[]) hE nS EZ (Ay x y) ?_
 rewrite [JY n x y]
 have f0:=lA x
 have f3:=VE x y
 refine⟨λ a0=>⟨λ a1=>λ a2=>λ a3=>λ a4=>λ a5=>λ a6=>λ a7=>λ a8=>λ a9=>⟨λ dt=>?_,λ dt=>⟨⟨0,⟨?_,⟨⟨rfl,⟨rfl,⟨?_,trivial⟩⟩⟩,trivial⟩⟩⟩,λ k1 dP=>have PR:=vN zE x.V y.V k1;have PS:=nO x.V y.V k1;have PT:=cR zE x.V k1;λ a12=>λ dK=>⟨λ eK=>⟨?_,⟨?_,λ fi=>λ ju=>⟨?_,⟨λ Gm=>?_,λ Gm=>⟨?_,⟨k1+1,⟨?_,⟨?_,⟨⟨rfl,⟨rfl,⟨?_,trivial⟩⟩⟩,trivial⟩⟩⟩⟩⟩⟩⟩⟩⟩,λ eK=>?_⟩⟩⟩,λ a1=>λ a2=>λ a3=>λ a4=>λ a5=>⟨λ a6=>?_,λ a6=>⟨⟨0,⟨?_,⟨⟨rfl,⟨rfl,⟨?_,trivial⟩⟩⟩,trivial⟩⟩⟩,λ k1 a7=>have Rr:=vN zE x.V y.V k1;have Rs:=nO x.V y.V k1;have Rt:=cR zE x.V k1;λ a8=>λ a9=>⟨λ dt=>⟨?_,⟨?_,λ dP=>λ a12=>⟨?_,⟨λ dK=>?_,λ dK=>⟨?_,⟨k1+1,⟨?_,⟨?_,⟨⟨rfl,⟨rfl,⟨?_,trivial⟩⟩⟩,trivial⟩⟩⟩⟩⟩⟩⟩⟩⟩,λ dt=>?_⟩⟩⟩⟩,λ a0=>⟨λ a1=>λ a2=>λ a3=>λ a4=>λ a5=>λ a6=>λ a7=>⟨λ a8=>?_,λ a8=>⟨⟨0,⟨?_,⟨⟨rfl,⟨rfl,⟨?_,trivial⟩⟩⟩,trivial⟩⟩⟩,λ k1 a9=>have UM:=vN zE x.V y.V k1;have UN:=nO x.V y.V k1;have UO:=cR zE x.V k1;λ dt=>λ dP=>⟨λ a12=>⟨?_,⟨?_,λ dK=>λ eK=>⟨?_,⟨λ fi=>?_,λ fi=>⟨?_,⟨k1+1,⟨?_,⟨?_,⟨⟨rfl,⟨rfl,⟨?_,trivial⟩⟩⟩,trivial⟩⟩⟩⟩⟩⟩⟩⟩⟩,λ a12=>?_⟩⟩⟩,λ a1=>λ a2=>λ a3=>⟨λ a4=>?_,λ a4=>⟨⟨0,⟨?_,⟨⟨rfl,⟨rfl,⟨?_,trivial⟩⟩⟩,trivial⟩⟩⟩,λ k1 a5=>have a0s:=vN zE x.V y.V k1;have a0t:=nO x.V y.V k1;have a0u:=cR zE x.V k1;λ a6=>λ a7=>⟨λ a8=>⟨?_,⟨?_,λ a9=>λ dt=>⟨?_,⟨λ dP=>?_,λ dP=>⟨?_,⟨k1+1,⟨?_,⟨?_,⟨⟨rfl,⟨rfl,⟨?_,trivial⟩⟩⟩,trivial⟩⟩⟩⟩⟩⟩⟩⟩⟩,λ a8=>?_⟩⟩⟩⟩⟩
 all_goals try and_intros
 all_goals first|rfl|trivial|(simp only[decide_eq_true_eq,decide_eq_false_iff_not,Bool.not_eq_false',Bool.not_eq_true',decide_not,aV,ag] at *;first|omega|grind)|grind [RM,OZ]
theorem Ke :∀ n,aQ [lb n]
 | 0=>⟨⟨aG nS rfl (by decide),λ _ _ h=>absurd h (a6D _)⟩,trivial⟩
 | n+1=>by
  have ih:=Ke  n
  exact⟨Jv n ⟨ih.1,trivial⟩,trivial⟩
theorem u6 :bb.Good pg :=
 ⟨aG nS rfl (by decide),λ x y hp=>(Ke  (cv x+1)).1.2 x y (a6c _)⟩
end
end Go.Proofs.YtnehkikdlnmebaaGreatDoor

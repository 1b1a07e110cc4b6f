/- VmDStep, VmDInj, VmISumL, VmIBase, VmSort, VmISum, VmDImp, VmDSt, VmDSt2, VmDSt3, VmDSt4, VmCls, VmClsK, VmLst, VmCls2, VmCls3, VmClr, VmRch. -/
import Derived.Test.YtofnjfpeimhifaaGreatDoorVmDSum
import Derived.Sort.Statements
import Derived.Shelf.Small.Bits
import Derived.Shelf.Small.Strs
import Derived.Shelf.SlSortCmp.NoneTotal
import Derived.Shelf.Utf8.RuneCount
import Derived.Shelf.Strings.Search1
import Derived.Shelf.Strings.Search2
import Derived.Shelf.Strings.Search3
import Derived.Shelf.Strings.Count
import Derived.Shelf.Strings.Shaped
import Derived.Shelf.Strings.Split
import Derived.Shelf.Strings.SplitShaped
import Derived.Shelf.Unicode.Decode
import Derived.Shelf.Strings.RuneCount
import Derived.Shelf.Strings.Explode
import Derived.Shelf.Unicode.DecodeSlow
import Derived.Shelf.Unicode.DecodeAny
import Derived.Test.YtofnjfpeimhifaaGreatDoorProg
import Derived.WalkKit
import Derived.LoopTactic
import Derived.OwnWalk
import Derived.Deep.RegionHeld3
import Derived.Deep.AppendLies
import Derived.Maps.AppendAt
import Derived.Deep.DeepCutAuto
import Derived.Deep.CutBlock
import Derived.Lib.SliceRun
import Derived.Deep.RegionWith
set_option linter.all false
set_option maxHeartbeats 4000000
set_option maxRecDepth 4000
namespace Go.Proofs.YtofnjfpeimhifaaGreatDoor
def b3U:=@Bool.and_eq_false_iff
def b1S:=@beq_eq_false_iff_ne
def b4G:=@UInt8.not_lt
def b2I:=@beq_iff_eq
def b4Q:=@List.findIdx_le_length
def b3A:=@List.findIdx_getElem
def b4H:=@Option.bind_none
def b2C:=@Option.bind_some
def b3P:=@List.findIdx_cons
def b4t:=@Nat.lt_trichotomy
def b4I:=@List.ext_getElem
noncomputable section
def lD(n:Nat):bc:=⟨rX,[.r (.st .expr)],λ (x:J)=>⟨(some (bG x<n/\aA x=true/\ar x<=3000),[⟨(.st .expr),eu x⟩])⟩⟩
def jz:bc:=⟨rX,[.r (.st .expr)],λ (x:J)=>⟨(some (aA x=true/\ar x<=3000),[⟨(.st .expr),eu x⟩])⟩⟩
def Na(x:J):Nat->aP:=cw
abbrev wI(n:Nat)(x:J):Prop:=(let v2:=x.U.getD 0 zE;let v0:=aQ (eu v2);let v3:=x.U.getD 1 zE;let v1:=aQ (eu v3);(x.U.length<=140737488355328 ->
 (aI (0:Int) x.U.length/\((bG v2<n/\aA v2=true/\ar v2<=3000)/\(x.U.length<=140737488355328 ->
 (aI (1:Int) x.U.length/\((bG v3<n/\aA v3=true/\ar v3<=3000)/\(av x.ah ->
 (((decide (x.ah=(6:Int)))=true ->
 ((aA v0=true/\aA v1=true/\ar v0+ar v1<=7000)/\(aQ (JA v0 v1))=(eu x)))/\((decide (x.ah=(6:Int)))=false ->
 ((aA v0=true/\aA v1=true/\ar v0+ar v1<=4000)/\(aQ (jJ v0 v1))=(eu x))))))))))))
abbrev wJ(n:Nat)(x:J):Prop:=(let v0:=x.U.getD 0 zE;let v1:=aQ (eu v0);(((decide (x.ah=(8:Int)))=true ->
 (x.U.length<=140737488355328 ->
 (aI (0:Int) x.U.length/\((bG v0<n/\aA v0=true/\ar v0<=3000)/\((aA v1=true/\ar v1<=4000)/\(aQ (Az v1))=(eu x))))))/\((decide (x.ah=(8:Int)))=false ->
 (cJ x<=1048576/\(aQ x)=(eu x)))))
def K8(n:Nat)(hE:bu [lD n,uH,uG,rM,ei]):bc.Good (lD (n+1)):=by
 refine⟨aH la,?_⟩;intro (x:J) (hp:bG x<n+1/\aA x=true/\ar x<=3000);refine bf [lD n,uH,uG,rM,ei] [] [] [] hE la Gm (Na x) (let v0:=decide (x.ah=(6:Int));((av x.ah->((v0=true->((v0=true->(wI n x))/\(v0=false->(wJ n x))))/\(v0=false->(((decide (x.ah=(7:Int)))=true->(wI n x))/\((decide (x.ah=(7:Int)))=false->(wJ n x)))))))) ?_;obtain⟨hm,hg,hn⟩:=hp;refine λ _=>⟨λ _=>⟨λ _ _=>⟨?_,?_,λ _=>⟨?_,?_,λ _=>⟨λ _=>⟨?_,?_⟩,λ _=>⟨?_,?_⟩⟩⟩⟩,λ _=>⟨λ _ _=>⟨?_,?_,?_,?_⟩,λ _=>⟨?_,?_⟩⟩⟩,λ _=>⟨λ _ _=>⟨?_,?_,λ _=>⟨?_,?_,λ _=>⟨λ _=>⟨?_,?_⟩,λ _=>⟨?_,?_⟩⟩⟩⟩,λ _=>⟨λ _ _=>⟨?_,?_,?_,?_⟩,λ _=>⟨?_,?_⟩⟩⟩⟩;all_goals try and_intros
 all_goals try (first|with_reducible rfl|with_reducible assumption)
 all_goals try simp only[J.eta,cu] at *
 all_goals (try simp only[b1D,b1J,b0R,b0Q,aI,J.eta] at *);first|rfl|trivial|omega|exact lF _ (by omega)|(have g:=gp x hg (.inr (by omega));first|(have:=g.len;omega)|exact g.g0|(have:=g.l0;omega)|(have:=g.nd;omega)|exact (u9 _ g.g0).g|(have:=(u9 _ g.g0).n;have:=g.nd;omega)|(rw[Zo x (by omega) g]<;>rfl))|(have g:=bZ x hg (by omega);first|(have:=g.len;omega)|exact g.g0|exact g.g1|(have:=g.l0;omega)|(have:=g.l1;omega)|(have:=g.nd;omega)|exact (u9 _ g.g0).g|exact (u9 _ g.g1).g|(have:=(u9 _ g.g0).n;have:=(u9 _ g.g1).n;have:=g.nd;omega)|(rw[Zm x (by omega) g]<;>rfl)|(rw[Zn x (by omega) g]<;>rfl))|(rw[Zp x (by omega) (by omega) (by omega)]<;>rfl)
def Rv :∀ n,bu [lD n]
 | 0=>⟨⟨aH la,λ _ h=>absurd h.1 (b1x _)⟩,ag⟩
 | n+1=>by
  have ih:=Rv  n;exact⟨K8 n ⟨ih.1,IF,ID,GP,fA,ag⟩,ag⟩
def mV :bc.Good jz :=
 ⟨aH la,λ x hp=>(Rv  (bG x+1)).1.2 x (⟨b1b _,hp⟩)⟩
noncomputable def DD(raw:J):J×Bool:=if 800<ar raw then (raw,false) else (eu raw,true)
def VX(x a b:J)(em:Bool):J:=if x.ah=6 then J.mk 6 0 [a,b] else if x.ah=7 then (if em=true then J.mk 6 0 [J.mk 7 0 [a,(x.U.getD 1 zE)],b] else J.mk 7 0 [a,(x.U.getD 1 zE)]) else J.mk 7 0 [a,x]
noncomputable def Rh(a c:Int)(x:J)(rs:List (J×Bool)):J×Bool :=
 if x.ah=4 then (if x.aX=c then J.mk 2 0 [] else J.mk 1 0 [],true)
 else if x.ah=6 then (if ((rs.getD 0 (x,false)).2&&(rs.getD 1 (x,false)).2)=true then DD (VX x (rs.getD 0 (x,false)).1 (rs.getD 1 (x,false)).1 (eC a (x.U.getD 0 zE))) else (J.mk 1 0 [],false))
 else if x.ah=7 then (if (rs.getD 0 (x,false)).2=true then (if (eC a (x.U.getD 0 zE) && !(rs.getD 1 (x,false)).2)=true then (J.mk 7 0 [(rs.getD 0 (x,false)).1,(x.U.getD 1 zE)],false) else DD (VX x (rs.getD 0 (x,false)).1 (rs.getD 1 (x,false)).1 (eC a (x.U.getD 0 zE)))) else (J.mk 1 0 [],false))
 else if x.ah=8 then (if (rs.getD 0 (x,false)).2=true then DD (VX x (rs.getD 0 (x,false)).1 (rs.getD 1 (x,false)).1 (eC a (x.U.getD 0 zE))) else (J.mk 1 0 [],false))
 else (J.mk 1 0 [],true)
noncomputable def bI(a c:Int)(x:J):J×Bool:=xp (Rh a c) x
def Lf(a c:Int)(x:J):bI a c x=Rh a c x (ik (Rh a c) x.U):=jC _ x
def V3(a c:Int)(x:J)(i:Nat)(h:i<x.U.length):(ik (Rh a c) x.U).getD i (x,false)=bI a c (x.U.getD i zE):=eD _ _ _ _ i h
noncomputable def jO(a c:Int)(x:J):J:=if x.ah=8 then J.mk 7 0 [(bI a c (x.U.getD 0 zE)).1,x] else VX x (bI a c (x.U.getD 0 zE)).1 (bI a c (x.U.getD 1 zE)).1 (eC a (x.U.getD 0 zE))
def DF(a c:Int)(x:J)(h:x.ah=4)(e:x.aX=c):bI a c x=(J.mk 2 0 [],true):=by rw[Lf,Rh,b0T h,b0T e]
def DE(a c:Int)(x:J)(h:x.ah=4)(e:¬ x.aX=c):bI a c x=(J.mk 1 0 [],true):=by rw[Lf,Rh,b0T h,b0N e]
def a5E(a c:Int)(x:J)(h:x.ah=6)(g:B2 x):bI a c x=if ((bI a c (x.U.getD 0 zE)).2&&(bI a c (x.U.getD 1 zE)).2)=true then DD (jO a c x) else (J.mk 1 0 [],false):=by
 rw[Lf,Rh,b0N (by omega),b0T h,V3 a c x 0 (by have:=g.len;omega),V3 a c x 1 (by have:=g.len;omega),show jO a c x=_ from b0N (by omega)]
def me(a c:Int)(x:J)(h:x.ah=6)(g:B2 x)(e:(bI a c (x.U.getD 0 zE)).2=false\/(bI a c (x.U.getD 1 zE)).2=false):bI a c x=(J.mk 1 0 [],false):=by
 rw[a5E a c x h g,b0N];rcases e with e|e<;>rw[e]<;>simp
def XZ(a c:Int)(x:J)(h:x.ah=6)(g:B2 x)(e:(bI a c (x.U.getD 0 zE)).2=true)(e':(bI a c (x.U.getD 1 zE)).2=true):bI a c x=DD (jO a c x):=by
 rw[a5E a c x h g,b0T (by rw[e,e'];rfl)]
def a3c(a c:Int)(x:J)(h:x.ah=7)(g:B2 x):bI a c x=if (bI a c (x.U.getD 0 zE)).2=true then (if (eC a (x.U.getD 0 zE) && !(bI a c (x.U.getD 1 zE)).2)=true then (J.mk 7 0 [(bI a c (x.U.getD 0 zE)).1,(x.U.getD 1 zE)],false) else DD (jO a c x)) else (J.mk 1 0 [],false):=by
 rw[Lf,Rh,b0N (by omega),b0N (by omega),b0T h,V3 a c x 0 (by have:=g.len;omega),V3 a c x 1 (by have:=g.len;omega),show jO a c x=_ from b0N (by omega)]
def DG(a c:Int)(x:J)(h:x.ah=7)(g:B2 x)(e:(bI a c (x.U.getD 0 zE)).2=false):bI a c x=(J.mk 1 0 [],false):=by
 rw[a3c a c x h g,b0N (by rw[e];decide)]
def DH(a c:Int)(x:J)(h:x.ah=7)(g:B2 x)(e:(bI a c (x.U.getD 0 zE)).2=true)(m:eC a (x.U.getD 0 zE)=true)(e':(bI a c (x.U.getD 1 zE)).2=false):bI a c x=(J.mk 7 0 [(bI a c (x.U.getD 0 zE)).1,(x.U.getD 1 zE)],false):=by
 rw[a3c a c x h g,b0T e,b0T (by rw[m,e'];rfl)]
def Le(a c:Int)(x:J)(h:x.ah=7)(g:B2 x)(e:(bI a c (x.U.getD 0 zE)).2=true)(m:eC a (x.U.getD 0 zE)=false\/(bI a c (x.U.getD 1 zE)).2=true):bI a c x=DD (jO a c x):=by
 rw[a3c a c x h g,b0T e,b0N];rcases m with m|m<;>rw[m]<;>simp
def a5F(a c:Int)(x:J)(h:x.ah=8)(g:B1 x):bI a c x=if (bI a c (x.U.getD 0 zE)).2=true then DD (jO a c x) else (J.mk 1 0 [],false):=by
 rw[Lf,Rh,b0N (by omega),b0N (by omega),b0N (by omega),b0T h,V3 a c x 0 (by have:=g.len;omega),show jO a c x=_ from b0T h,show VX x _ _ _=J.mk 7 0 [_,x] from (b0N (by omega)).trans (b0N (by omega))]
def DI(a c:Int)(x:J)(h:x.ah=8)(g:B1 x)(e:(bI a c (x.U.getD 0 zE)).2=false):bI a c x=(J.mk 1 0 [],false):=by
 rw[a5F a c x h g,b0N (by rw[e];decide)]
def X0(a c:Int)(x:J)(h:x.ah=8)(g:B1 x)(e:(bI a c (x.U.getD 0 zE)).2=true):bI a c x=DD (jO a c x):=by
 rw[a5F a c x h g,b0T e]
def Mf(a c:Int)(x:J)(h4:¬ x.ah=4)(h6:¬ x.ah=6)(h7:¬ x.ah=7)(h8:¬ x.ah=8):bI a c x=(J.mk 1 0 [],true):=by
 rw[Lf,Rh,b0N h4,b0N h6,b0N h7,b0N h8]
def Qd(a c:Int)(x:J)(h:x.ah=6):jO a c x=J.mk 6 0 [(bI a c (x.U.getD 0 zE)).1,(bI a c (x.U.getD 1 zE)).1]:=by rw[jO,b0N (by omega),VX,b0T h]
def Hz(a c:Int)(x:J)(h:x.ah=7)(m:eC a (x.U.getD 0 zE)=true):jO a c x=J.mk 6 0 [J.mk 7 0 [(bI a c (x.U.getD 0 zE)).1,(x.U.getD 1 zE)],(bI a c (x.U.getD 1 zE)).1]:=by rw[jO,b0N (by omega),VX,b0N (by omega),b0T h,b0T m]
def Hy(a c:Int)(x:J)(h:x.ah=7)(m:eC a (x.U.getD 0 zE)=false):jO a c x=J.mk 7 0 [(bI a c (x.U.getD 0 zE)).1,(x.U.getD 1 zE)]:=by rw[jO,b0N (by omega),VX,b0N (by omega),b0T h,b0N (by rw[m];decide)]
def Qe(a c:Int)(x:J)(h:x.ah=8):jO a c x=J.mk 7 0 [(bI a c (x.U.getD 0 zE)).1,x]:=by rw[jO,b0T h]
structure Ur(r:J×Bool):Prop where
 g:r.2=true->aA r.1=true
 n:r.2=true->ar r.1<=800
def NM(x:J)(h:aA x=true):Ur (DD x):=by
 unfold DD;split
 .exact⟨nofun,nofun⟩
 .have:=u9 x h;exact⟨λ _=>this.g,λ _=>by have:=this.n;show ar (eu x)<=800;omega⟩
structure El(a c:Int)(x:J):Prop where
 e:bI a c x=DD (jO a c x)
 g:aA (jO a c x)=true
 n:ar (jO a c x)<=3000
def Lh(a c:Int):∀ (N:Nat) (x:J),bG x<N->aA x=true->Ur (bI a c x)
 | 0,x,h,_=>by omega
 | N+1,x,hN,h=>by
  have z1:Ur (J.mk 1 0 [],true):=⟨λ _=>zV,λ _=>by decide⟩;have zf:∀ y,Ur (y,false):=λ y=>⟨nofun,nofun⟩;by_cases h4:x.ah=4
  .by_cases e:x.aX=c
   .rw[DF a c x h4 e];exact⟨λ _=>Kj,λ _=>by decide⟩
   .rw[DE a c x h4 e];exact z1
  by_cases h6:x.ah=6
  .have g:=bZ x h (.inl h6);have p:=Lh a c N (x.U.getD 0 zE) (by have:=g.l0;omega) g.g0;have q:=Lh a c N (x.U.getD 1 zE) (by have:=g.l1;omega) g.g1;rcases b1C (bI a c (x.U.getD 0 zE)).2 with e|e
   .rcases b1C (bI a c (x.U.getD 1 zE)).2 with e'|e'
    .rw[XZ a c x h6 g e e',Qd a c x h6];exact NM _ (eE _ _ 6 (p.g e) (q.g e') (.inl rfl))
    .rw[me a c x h6 g (.inr e')];exact zf _
   .rw[me a c x h6 g (.inl e)];exact zf _
  by_cases h7:x.ah=7
  .have g:=bZ x h (.inr h7);have p:=Lh a c N (x.U.getD 0 zE) (by have:=g.l0;omega) g.g0;have q:=Lh a c N (x.U.getD 1 zE) (by have:=g.l1;omega) g.g1;rcases b1C (bI a c (x.U.getD 0 zE)).2 with e|e
   .have b:=eE _ _ 7 (p.g e) g.g1 (.inr rfl);rcases b1C (eC a (x.U.getD 0 zE)) with m|m
    .rcases b1C (bI a c (x.U.getD 1 zE)).2 with e'|e'
     .rw[Le a c x h7 g e (.inr e'),Hz a c x h7 m];exact NM _ (eE _ _ 6 b (q.g e') (.inl rfl))
     .rw[DH a c x h7 g e m e'];exact zf _
    .rw[Le a c x h7 g e (.inl m),Hy a c x h7 m];exact NM _ b
   .rw[DG a c x h7 g e];exact zf _
  by_cases h8:x.ah=8
  .have g:=gp x h (.inr h8);have p:=Lh a c N (x.U.getD 0 zE) (by have:=g.l0;omega) g.g0;rcases b1C (bI a c (x.U.getD 0 zE)).2 with e|e
   .rw[X0 a c x h8 g e,Qe a c x h8];exact NM _ (eE _ _ 7 (p.g e) h (.inr rfl))
   .rw[DI a c x h8 g e];exact zf _
  .rw[Mf a c x h4 h6 h7 h8];exact z1
def Ld(a c:Int)(x:J)(h:aA x=true):Ur (bI a c x):=Lh a c _ x (b1b _) h
def a2Y(a c:Int)(x:J)(hg:aA x=true)(hn:ar x<=1000)(h:x.ah=6)(e:(bI a c (x.U.getD 0 zE)).2=true)(e':(bI a c (x.U.getD 1 zE)).2=true):El a c x:=by
 have g:=bZ x hg (.inl h);have p:=Ld a c _ g.g0;have q:=Ld a c _ g.g1;refine⟨XZ a c x h g e e',?_,?_⟩
 .rw[Qd a c x h];exact eE _ _ 6 (p.g e) (q.g e') (.inl rfl)
 .rw[Qd a c x h,kE];have:=p.n e;have:=q.n e';omega
def Ud(a c:Int)(x:J)(hg:aA x=true)(hn:ar x<=1000)(h:x.ah=7)(e:(bI a c (x.U.getD 0 zE)).2=true)(m:eC a (x.U.getD 0 zE)=false\/(eC a (x.U.getD 0 zE)=true/\(bI a c (x.U.getD 1 zE)).2=true)):El a c x:=by
 have g:=bZ x hg (.inr h);have p:=Ld a c _ g.g0;have q:=Ld a c _ g.g1;have b:=eE _ _ 7 (p.g e) g.g1 (.inr rfl);have nd:=g.nd;have n0:=p.n e;rcases m with m|⟨m,e'⟩
 .refine⟨Le a c x h g e (.inl m),?_,?_⟩
  .rw[Hy a c x h m];exact b
  .rw[Hy a c x h m,kE];omega
 .refine⟨Le a c x h g e (.inr e'),?_,?_⟩
  .rw[Hz a c x h m];exact eE _ _ 6 b (q.g e') (.inl rfl)
  .rw[Hz a c x h m,kE,kE];have:=q.n e';omega
def a2Z(a c:Int)(x:J)(hg:aA x=true)(hn:ar x<=1000)(h:x.ah=8)(e:(bI a c (x.U.getD 0 zE)).2=true):El a c x:=by
 have g:=gp x hg (.inr h);have p:=Ld a c _ g.g0;refine⟨X0 a c x h g e,?_,?_⟩
 .rw[Qe a c x h];exact eE _ _ 7 (p.g e) hg (.inr rfl)
 .rw[Qe a c x h,kE];have:=p.n e;omega
def a3b(a c:Int)(x:J)(j:El a c x)(h:800<ar (jO a c x)):bI a c x=(jO a c x,false):=by rw[j.e,DD,b0T h]
def a3a(a c:Int)(x:J)(j:El a c x)(h:¬ 800<ar (jO a c x)):bI a c x=(eu (jO a c x),true):=by rw[j.e,DD,b0N h]
def lC(n:Nat):bc:=⟨rW,[.r (.st .expr), .v (.int .i64), .v (.int .i64)],λ (x:J) (atom:Int) (act:Int)=>⟨(some (bG x<n/\aA x=true/\ar x<=1000/\0<=atom/\atom<=4096),[⟨(.st .expr),(bI atom act x).1⟩,⟨.bool,(bI atom act x).2⟩])⟩⟩
def Bc:bc:=⟨rW,[.r (.st .expr), .v (.int .i64), .v (.int .i64)],λ (x:J) (atom:Int) (act:Int)=>⟨(some (aA x=true/\ar x<=1000/\0<=atom/\atom<=4096),[⟨(.st .expr),(bI atom act x).1⟩,⟨.bool,(bI atom act x).2⟩])⟩⟩
def M9(x:J)(atom:Int)(act:Int):Nat->aP:=(eR 100029 (.u (El atom act x) [0,1,2,19] [] [6] [(8, .box [.aO ⟨(.int .i64),((jO atom act x).ah:Int)⟩, .aO ⟨(.int .i64),((jO atom act x).aX:Int)⟩, .aO ⟨(.slice (.st .expr)),((jO atom act x).U:List J)⟩])] cw) cw)
abbrev wF(x:J)(atom:Int)(act:Int):Prop:=(let v0:=J.mk (6:Int) 0 [(aQ ((bI atom act (x.U.getD 0 zE)).1)),(aQ ((bI atom act (x.U.getD 1 zE)).1))];(∃ u1:Unit,(El atom act x/\((True/\(True/\True))/\((v0.ah=((jO atom act x).ah)/\(v0.aX=((jO atom act x).aX)/\(v0.U=((jO atom act x).U)/\True)))/\(((0:Int)=(0:Int)/\((0:Int)=(0:Int)/\(True/\True)))/\True))))))
abbrev wH(x:J)(atom:Int)(act:Int):Prop:=((!((bI atom act (x.U.getD 0 zE)).2))=true ->
 ((aQ (J.mk 1 0 []))=((bI atom act x).1)/\false=((bI atom act x).2)))
def K7(n:Nat)(hE:bu [lC n,fJ,oj,eM,lj,rK,jz]):bc.Good (lC (n+1)):=by
 refine⟨aH k9,?_⟩;intro (x:J) (atom:Int) (act:Int) (hp:bG x<n+1/\aA x=true/\ar x<=1000/\0<=atom/\atom<=4096);refine bf [lC n,fJ,oj,eM,lj,rK,jz] [] [] [] hE k9 Gl (M9 x atom act) (let v2:=x.U.getD 0 zE;let v3:=x.U.getD 1 zE;let v4:=bI atom act x;let v5:=bG v2<n/\aA v2=true/\ar v2<=1000/\0<=atom/\atom<=4096;let v7:=jO atom act x;let v0:=J.mk (v7.ah) (v7.aX) (v7.U);let va:=bG v3<n/\aA v3=true/\ar v3<=1000/\0<=atom/\atom<=4096;let vb:=bI atom act v2;let v1:=J.mk (7:Int) 0 [(aQ (vb.1)),v3];let v8:=J.mk (6:Int) 0 [(aQ v1),(aQ ((bI atom act v3).1))];let v9:=J.mk (7:Int) 0 [(aQ (vb.1)),x];let vc:=aQ (J.mk 1 0 []);let vd := !((bI atom act v3).2);let ve:=True/\(True/\True);let vf:=decide ((800:Int)<((ar v0:Int)));let vg:=(0:Int);let v6:=(vg=vg/\(vg=vg/\(True/\True)))/\True;let vh:=vc=(v4.1)/\false=(v4.2);let vi:=vc=(v4.1)/\true=(v4.2);(((av x.ah->(((decide (x.ah=(4:Int)))=true->(av x.aX->(((decide (x.aX=act))=true->((aQ (J.mk 2 0 []))=(v4.1)/\true=(v4.2)))/\((decide (x.aX=act))=false->vi))))/\((decide (x.ah=(4:Int)))=false->(((decide (x.ah=(6:Int)))=true->(x.U.length<=140737488355328->(aI vg x.U.length/\(v5/\(x.U.length<=140737488355328->(aI (1:Int) x.U.length/\(va/\(((!(vb.2))=false->((vd=true->vh)/\(vd=false->(wF x atom act))))/\((!(vb.2))=(!false)->((true=true->vh)/\(true=false->(wF x atom act))))))))))))/\((decide (x.ah=(6:Int)))=false->(((decide (x.ah=(7:Int)))=true->(x.U.length<=140737488355328->(aI vg x.U.length/\(v5/\((wH x atom act)/\((!(vb.2))=false->(aI (1:Int) x.U.length/\(x.U.length<=140737488355328->(x.U.length<=140737488355328->(aI vg x.U.length/\((aA v2=true/\0<=atom/\atom<=4096)/\(((eC atom v2)=true->(x.U.length<=140737488355328->(aI (1:Int) x.U.length/\(va/\((vd=true->((aQ v1)=(v4.1)/\false=(v4.2)))/\(vd=false->(∃ u1:Unit,(El atom act x/\(ve/\((v8.ah=(v7.ah)/\(v8.aX=(v7.aX)/\(v8.U=(v7.U)/\True)))/\v6))))))))))/\((eC atom v2)=false->(∃ u1:Unit,(El atom act x/\(ve/\((v1.ah=(v7.ah)/\(v1.aX=(v7.aX)/\(v1.U=(v7.U)/\True)))/\v6)))))))))))))))))/\((decide (x.ah=(7:Int)))=false->(((decide (x.ah=(8:Int)))=true->(x.U.length<=140737488355328->(aI vg x.U.length/\(v5/\((wH x atom act)/\((!(vb.2))=false->(∃ u1:Unit,(El atom act x/\(ve/\((v9.ah=(v7.ah)/\(v9.aX=(v7.aX)/\(v9.U=(v7.U)/\True)))/\v6))))))))))/\((decide (x.ah=(8:Int)))=false->vi)))))))))/\(∀ u1:Unit,(El atom act x->(ar v0<=1048576/\(av ((ar v0:Int))->((vf=true->(v0=(v4.1)/\false=(v4.2)))/\(vf=false->((aA v0=true/\ar v0<=3000)/\((aQ (eu v0))=(v4.1)/\true=(v4.2)))))))))))) ?_;obtain⟨hm,hg,hn,h0,h1⟩:=hp;refine⟨λ _=>⟨λ _ _=>⟨λ _=>⟨?_,?_⟩,λ _=>⟨?_,?_⟩⟩,λ _=>⟨λ _ _=>⟨?_,?_,λ _=>⟨?_,?_,λ _=>⟨λ _=>⟨?_,?_⟩,λ _=>⟨(),?_,⟨ag,ag,ag⟩,⟨?_,?_,?_,ag⟩,⟨rfl,rfl,ag,ag⟩,ag⟩⟩,λ _=>⟨λ _=>⟨?_,?_⟩,λ _=>⟨(),?_,⟨ag,ag,ag⟩,⟨?_,?_,?_,ag⟩,⟨rfl,rfl,ag,ag⟩,ag⟩⟩⟩⟩,λ _=>⟨λ _ _=>⟨?_,?_,λ _=>⟨?_,?_⟩,λ _=>⟨?_,λ _ _=>⟨?_,?_,λ _ _=>⟨?_,?_,λ _=>⟨?_,?_⟩,λ _=>⟨(),?_,⟨ag,ag,ag⟩,⟨?_,?_,?_,ag⟩,⟨rfl,rfl,ag,ag⟩,ag⟩⟩,λ _=>⟨(),?_,⟨ag,ag,ag⟩,⟨?_,?_,?_,ag⟩,⟨rfl,rfl,ag,ag⟩,ag⟩⟩⟩⟩,λ _=>⟨λ _ _=>⟨?_,?_,λ _=>⟨?_,?_⟩,λ _=>⟨(),?_,⟨ag,ag,ag⟩,⟨?_,?_,?_,ag⟩,⟨rfl,rfl,ag,ag⟩,ag⟩⟩,λ _=>⟨?_,?_⟩⟩⟩⟩⟩,λ u1 _=>⟨?_,λ _=>⟨λ _=>⟨?_,?_⟩,λ _=>⟨?_,?_,?_⟩⟩⟩⟩;all_goals try and_intros
 all_goals try (first|with_reducible rfl|with_reducible assumption)
 all_goals try simp only[J.eta,cu] at *
 all_goals (try simp only[b1D,b1J,b1g,b1r,b0R,b0Q,aI,J.eta] at *);first|rfl|trivial|omega|with_reducible assumption|(rw[DF atom act x (by omega) (by omega)]<;>rfl)|(rw[DE atom act x (by omega) (by omega)]<;>rfl)|(rw[Mf atom act x (by omega) (by omega) (by omega) (by omega)]<;>rfl)|exact a2Y atom act x hg hn (by omega) (by with_reducible assumption) (by with_reducible assumption)|exact Ud atom act x hg hn (by omega) (by with_reducible assumption) (.inl (by with_reducible assumption))|exact Ud atom act x hg hn (by omega) (by with_reducible assumption) (.inr ⟨(by with_reducible assumption),(by with_reducible assumption)⟩)|exact a2Z atom act x hg hn (by omega) (by with_reducible assumption)|(rw[a3b atom act x (by with_reducible assumption) (by omega)]<;>rfl)|(rw[a3a atom act x (by with_reducible assumption) (by omega)]<;>rfl)|exact El.g (by with_reducible assumption)|exact El.n (by with_reducible assumption)|(have q:=El.n (show El atom act x by assumption);omega)|(have g:=bZ x hg (by omega);first|(have:=g.len;omega)|exact g.g0|exact g.g1|(have:=g.l0;omega)|(have:=g.l1;omega)|(have:=g.nd;omega)|(rw[me atom act x (by omega) g (.inl (by with_reducible assumption))]<;>rfl)|(rw[me atom act x (by omega) g (.inr (by with_reducible assumption))]<;>rfl)|(rw[DG atom act x (by omega) g (by with_reducible assumption)]<;>rfl)|(rw[DH atom act x (by omega) g (by with_reducible assumption) (by with_reducible assumption) (by with_reducible assumption)]<;>rfl)|(rw[Qd atom act x (by omega)]<;>rfl)|(rw[Hz atom act x (by omega) (by with_reducible assumption)]<;>rfl)|(rw[Hy atom act x (by omega) (by with_reducible assumption)]<;>rfl))|(have g:=gp x hg (by omega);first|(have:=g.len;omega)|exact g.g0|(have:=g.l0;omega)|(have:=g.nd;omega)|(rw[DI atom act x (by omega) g (by with_reducible assumption)]<;>rfl)|(rw[Qe atom act x (by omega)]<;>rfl))
def Rt :∀ n,bu [lC n]
 | 0=>⟨⟨aH k9,λ _ _ _ h=>absurd h.1 (b1x _)⟩,ag⟩
 | n+1=>by
  have ih:=Rt  n;exact⟨K7 n ⟨ih.1,gu,vY,eW,sA,GJ,mV,ag⟩,ag⟩
def GQ :bc.Good Bc :=
 ⟨aH k9,λ x atom act hp=>(Rt  (bG x+1)).1.2 x atom act (⟨b1b _,hp⟩)⟩
def Qq:Nat->J->J
 | 0,x=>x
 | m+1,x=>Qq m (J.mk 8 0 [x])
def Qr:∀ (m:Nat) (x:J),Qq (m+1) x=J.mk 8 0 [Qq m x]
 | 0,x=>rfl
 | m+1,x=>Qr m (J.mk 8 0 [x])
def V6{x y:J}(hx:¬ x.ah=8)(hy:¬ y.ah=8):∀ (m n:Nat),Qq m x=Qq n y->x=y/\m=n
 | 0,0,h=>⟨h,rfl⟩
 | 0,n+1,h=>by rw[Qr] at h;exact absurd (by rw[show x=_ from h]) hx
 | m+1,0,h=>by rw[Qr] at h;exact absurd (by rw[show y=_ from h.symm]) hy
 | m+1,n+1,h=>by
  rw[Qr,Qr] at h;simp only[J.mk.injEq,b0O,b1i,b2o] at h;obtain⟨h1,h2⟩:=V6 hx hy m n h;exact⟨h1,by rw[h2]⟩
def NS(r:List UInt8):Prop:=∀ b t,r=b::t->¬ b=42
def NS.of{b:UInt8}{t:List UInt8}(h:¬ b=42):NS (b::t):=λ c u e=>by cases e;exact h
def NS.nil:NS []:=λ _ _ e=>nomatch e
def VQ:∀ (m n:Nat) {r s:List UInt8},NS r->NS s->List.replicate m (42:UInt8)++r=List.replicate n 42++s->m=n/\r=s
 | 0,0,r,s,_,_,h=>⟨rfl,h⟩
 | 0,n+1,r,s,hr,_,h=>absurd rfl (hr 42 (List.replicate n 42++s) (by simpa [List.replicate_succ] using h))
 | m+1,0,r,s,_,hs,h=>absurd rfl (hs 42 (List.replicate m 42++r) (by simpa [List.replicate_succ] using h.symm))
 | m+1,n+1,r,s,hr,hs,h=>by
  obtain⟨h1,h2⟩:=VQ m n hr hs (by simpa [List.replicate_succ] using h);exact⟨by rw[h1],h2⟩
def iE(x:J)(h:aA x=true)(h3:¬ x.ah=3)(h4:¬ x.ah=4):x.aX=0:=by
 simp only[aA] at h;rw[jH,nr] at h;simp only[Bool.and_eq_true,decide_eq_true_eq] at h;have:=h.1.1.2;rw[Au,if_neg h3,if_neg h4] at this;simpa using this
def OP(x:J)(h:aA x=true)(h5:x.ah=5):¬ (x.U.getD 0 zE).ah=8:=by
 simp only[aA] at h;rw[jH,nr] at h;simp only[Bool.and_eq_true,decide_eq_true_eq] at h;have:bD (x.U.getD 0 zE)=true:=by simpa [h5] using h.1.2
 rw[oV] at this;intro e;rw[e] at this;simp[tM] at this
def km(x:J)(h:aA x=true)(e:x.ah=1\/x.ah=2\/x.ah=3\/x.ah=4):x.U=[]:=by
 simp only[aA] at h;rw[jH,nr] at h;simp only[b0U,b0R] at h;have h1:=h.1.1.1;apply b1W;rcases e with e|e|e|e<;>rw[e] at h1<;>simp[cB] at h1<;>omega
def a1n(x:J)(h:x.U.length=1):x=J.mk x.ah x.aX [(x.U.getD 0 zE)]:=by
 obtain⟨k,n,ks⟩:=x;match ks,h with
 | [a],_=>rfl
def Yu(x:J)(h:x.U.length=2):x=J.mk x.ah x.aX [(x.U.getD 0 zE),(x.U.getD 1 zE)]:=by
 obtain⟨k,n,ks⟩:=x;match ks,h with
 | [a,b],_=>rfl
def LP(x:J)(h:x.U=[]):x=J.mk x.ah x.aX []:=by
 obtain⟨k,n,ks⟩:=x;cases h;rfl
def fbE(k:Int):UInt8:=if k=1 then 48 else if k=2 then 49 else if k=3 then 116 else if k=4 then 97 else if k=5 then 126 else 40
def X8(x:J)(h:aA x=true)(h8:¬ x.ah=8):∃ t,bH x=fbE x.ah::t:=by
 rcases eL x h with e|e|e|e|e|e|e|e
 .exact⟨_,by rw[(dT x h).1 e,e];rfl⟩
 .exact⟨_,by rw[(dT x h).2.1 e,e];rfl⟩
 .exact⟨_,by rw[(Zr x h e).2.2.2,e];rfl⟩
 .exact⟨_,by rw[(Zs x h e).2.2.2,e];rfl⟩
 .exact⟨_,by rw[(Zt x h e).2.2,e];rfl⟩
 .exact⟨_,by rw[(Sh x h e).2.2.2,e];rfl⟩
 .exact⟨_,by rw[(Si x h e).2.2.2,e];rfl⟩
 .exact absurd e h8
def X7(x:J)(h:aA x=true)(e:x.ah=8):aA (x.U.getD 0 zE)=true/\bG (x.U.getD 0 zE)<bG x/\x=J.mk 8 0 [(x.U.getD 0 zE)]/\bH x=bH (x.U.getD 0 zE)++[42]:=by
 have b:=gp x h (.inr e);have g:=a5K x h (by omega) (by omega) (by omega) (by omega) (by omega) (by omega) (by omega);have hx:=a1n x b.len;rw[iE x h (by omega) (by omega),e] at hx;exact⟨b.g0,b.l0,hx,by rw[g.2.2]⟩
def Ln:∀ (N:Nat) (x:J),bG x<N->aA x=true->∃ b t,bH x=b::t/\¬ b=42/\¬ b=43
 | 0,x,h,_=>by omega
 | N+1,x,hN,h=>by
  by_cases h8:x.ah=8
  .obtain⟨g,l,_,e⟩:=X7 x h h8;obtain⟨b,t,h1,h2⟩:=Ln N (x.U.getD 0 zE) (by omega) g;exact⟨b,t++[42],by rw[e,h1];rfl,h2⟩
  .obtain⟨t,e⟩:=X8 x h h8;refine⟨_,t,e,?_⟩;unfold fbE;repeat' split
   all_goals decide
def a1a:∀ a b:Fin 10,mi (a.val:Int)=mi (b.val:Int)->a=b:=by decide +kernel
def Yp{a b:Int}(ha:0<=a/\a<=9)(hb:0<=b/\b<=9)(h:mi a=mi b):a=b:=by
 have:=a1a ⟨a.toNat,by omega⟩ ⟨b.toNat,by omega⟩ (by rw[show ((a.toNat:Nat):Int)=a by omega,show ((b.toNat:Nat):Int)=b by omega];exact h);simp only[Fin.mk.injEq] at this;omega
def p9:∀ (N:Nat) (x y:J),bG x+bG y<N->aA x=true->aA y=true->∀ (m n:Nat) (r s:List UInt8),NS r->NS s ->
  bH x++(List.replicate m (42:UInt8)++r)=bH y++(List.replicate n 42++s)->Qq m x=Qq n y/\r=s
 | 0,x,y,h,_,_=>by omega
 | N+1,x,y,hN,hx,hy=>by
  intro m n r s hr hs h;by_cases h8:x.ah=8
  .obtain⟨g,l,e1,e2⟩:=X7 x hx h8;have ih:=p9 N (x.U.getD 0 zE) y (by omega) g hy (m+1) n r s hr hs (by rw[<-h,e2];simp[b4c]);refine⟨?_,ih.2⟩;rw[<-ih.1];show Qq m x=Qq m (J.mk 8 0 [(x.U.getD 0 zE)]);rw[<-e1]
  by_cases Tb:y.ah=8
  .obtain⟨g,l,e1,e2⟩:=X7 y hy Tb;have ih:=p9 N x (y.U.getD 0 zE) (by omega) hx g m (n+1) r s hr hs (by rw[h,e2];simp[b4c]);refine⟨?_,ih.2⟩;rw[ih.1];show Qq n (J.mk 8 0 [y.U.getD 0 zE])=Qq n y;rw[<-e1]
  suffices q:x=y/\List.replicate m (42:UInt8)++r=List.replicate n 42++s by
   obtain⟨q1,q2⟩:=q;obtain⟨q3,q4⟩:=VQ m n hr hs q2;exact⟨by rw[q1,q3],q4⟩
  obtain⟨t1,e1⟩:=X8 x hx h8;obtain⟨t2,e2⟩:=X8 y hy Tb;have hb:fbE x.ah=fbE y.ah:=by
   have:=h;rw[e1,e2] at this;simp only[b1B,b0O] at this;exact this.1
  clear e1 e2 t1 t2;have n32:∀ t:List UInt8,NS (32::t):=λ t=>NS.of (by decide);have n41:∀ t:List UInt8,NS (41::t):=λ t=>NS.of (by decide);rcases eL x hx with e|e|e|e|e|e|e|e
  .rcases eL y hy with f|f|f|f|f|f|f|f
   .rw[(dT x hx).1 e,(dT y hy).1 f] at h;refine⟨?_,by simpa using h⟩;rw[LP x (km x hx (by omega)),LP y (km y hy (by omega)),iE x hx (by omega) (by omega),iE y hy (by omega) (by omega),e,f]
   all_goals first|exact absurd f Tb|(rw[e,f] at hb;exact absurd hb (by decide))
  .rcases eL y hy with f|f|f|f|f|f|f|f
   .rw[e,f] at hb;exact absurd hb (by decide)
   .rw[(dT x hx).2.1 e,(dT y hy).2.1 f] at h;refine⟨?_,by simpa using h⟩;rw[LP x (km x hx (by omega)),LP y (km y hy (by omega)),iE x hx (by omega) (by omega),iE y hy (by omega) (by omega),e,f]
   all_goals first|exact absurd f Tb|(rw[e,f] at hb;exact absurd hb (by decide))
  .rcases eL y hy with f|f|f|f|f|f|f|f
   .rw[e,f] at hb;exact absurd hb (by decide)
   .rw[e,f] at hb;exact absurd hb (by decide)
   .obtain⟨a1,a2,a3,a4⟩:=Zr x hx e;obtain⟨b1,b2,b3,b4⟩:=Zr y hy f;rw[a4,b4] at h;simp only[b1B,b1v,b0O,b2o] at h;obtain⟨d1,d2⟩:=List.append_inj h (by rw[a3,b3]);refine⟨?_,d2⟩;rw[LP x (km x hx (by omega)),LP y (km y hy (by omega)),Yp ⟨a1,a2⟩ ⟨b1,b2⟩ d1,e,f]
   all_goals first|exact absurd f Tb|(rw[e,f] at hb;exact absurd hb (by decide))
  .rcases eL y hy with f|f|f|f|f|f|f|f
   .rw[e,f] at hb;exact absurd hb (by decide)
   .rw[e,f] at hb;exact absurd hb (by decide)
   .rw[e,f] at hb;exact absurd hb (by decide)
   .obtain⟨a1,a2,a3,a4⟩:=Zs x hx e;obtain⟨b1,b2,b3,b4⟩:=Zs y hy f;rw[a4,b4] at h;simp only[b1B,b1v,b0O,b2o] at h;obtain⟨d1,d2⟩:=List.append_inj h (by rw[a3,b3]);refine⟨?_,d2⟩;rw[LP x (km x hx (by omega)),LP y (km y hy (by omega)),Yp ⟨a1,a2⟩ ⟨b1,b2⟩ d1,e,f]
   all_goals first|exact absurd f Tb|(rw[e,f] at hb;exact absurd hb (by decide))
  .have f:y.ah=5:=by
    rcases eL y hy with f|f|f|f|f|f|f|f;all_goals first|exact f|exact absurd f Tb|(rw[e,f] at hb;exact absurd hb (by decide))
   have bx:=gp x hx (.inl e);have BJ:=gp y hy (.inl f);rw[(Zt x hx e).2.2,(Zt y hy f).2.2] at h;simp only[b1B,b1v,b0O,b2o] at h;obtain⟨i1,i2⟩:=p9 N (x.U.getD 0 zE) (y.U.getD 0 zE) (by have:=bx.l0;have:=BJ.l0;omega) bx.g0 BJ.g0 m n r s hr hs h;obtain⟨j1,j2⟩:=V6 (OP x hx e) (OP y hy f) m n i1;refine⟨?_,by rw[j2,i2]⟩;rw[a1n x bx.len,a1n y BJ.len,iE x hx (by omega) (by omega),iE y hy (by omega) (by omega),e,f,j1]
  .have f:y.ah=6\/y.ah=7:=by
    rcases eL y hy with f|f|f|f|f|f|f|f;all_goals first|exact .inl f|exact .inr f|exact absurd f Tb|(rw[e,f] at hb;exact absurd hb (by decide))
   have bx:=bZ x hx (.inl e);have BJ:=bZ y hy f;have U8:bG (x.U.getD 0 zE)+bG (y.U.getD 0 zE)<N:=by have:=bx.l0;have:=BJ.l0;omega
   have MH:bG (x.U.getD 1 zE)+bG (y.U.getD 1 zE)<N:=by have:=bx.l1;have:=BJ.l1;omega
   rcases f with f|f
   .rw[(Sh x hx e).2.2.2,(Sh y hy f).2.2.2] at h;simp only[b1B,b1v,b0O,b2o,b1o] at h;obtain⟨i1,i2⟩:=p9 N _ _ U8 bx.g0 BJ.g0 0 0 _ _ (n32 _) (n32 _) h;simp only[b0O,b2o] at i2;obtain⟨j1,j2⟩:=p9 N _ _ MH bx.g1 BJ.g1 0 0 _ _ (n41 _) (n41 _) i2;simp only[b0O,b2o] at j2;refine⟨?_,j2⟩;rw[Yu x bx.len,Yu y BJ.len,iE x hx (by omega) (by omega),iE y hy (by omega) (by omega),e,f];rw[show (x.U.getD 0 zE)=_ from i1,show (x.U.getD 1 zE)=_ from j1];rfl
   .rw[(Sh x hx e).2.2.2,(Si y hy f).2.2.2] at h;simp only[b1B,b1v,b0O,b2o,b1o] at h;obtain⟨i1,i2⟩:=p9 N _ _ U8 bx.g0 BJ.g0 0 0 _ _ (n32 _) (n32 _) h;obtain⟨b,t,q1,q2,q3⟩:=Ln _ _ (b1b _) BJ.g1;rw[q1] at i2;simp only[b1B,b0O,b2o] at i2;exact absurd i2.1.symm q3
  .have f:y.ah=6\/y.ah=7:=by
    rcases eL y hy with f|f|f|f|f|f|f|f;all_goals first|exact .inl f|exact .inr f|exact absurd f Tb|(rw[e,f] at hb;exact absurd hb (by decide))
   have bx:=bZ x hx (.inr e);have BJ:=bZ y hy f;have U8:bG (x.U.getD 0 zE)+bG (y.U.getD 0 zE)<N:=by have:=bx.l0;have:=BJ.l0;omega
   have MH:bG (x.U.getD 1 zE)+bG (y.U.getD 1 zE)<N:=by have:=bx.l1;have:=BJ.l1;omega
   rcases f with f|f
   .rw[(Si x hx e).2.2.2,(Sh y hy f).2.2.2] at h;simp only[b1B,b1v,b0O,b2o,b1o] at h;obtain⟨i1,i2⟩:=p9 N _ _ U8 bx.g0 BJ.g0 0 0 _ _ (n32 _) (n32 _) h;obtain⟨b,t,q1,q2,q3⟩:=Ln _ _ (b1b _) bx.g1;rw[q1] at i2;simp only[b1B,b0O,b2o] at i2;exact absurd i2.1 q3
   .rw[(Si x hx e).2.2.2,(Si y hy f).2.2.2] at h;simp only[b1B,b1v,b0O,b2o,b1o] at h;obtain⟨i1,i2⟩:=p9 N _ _ U8 bx.g0 BJ.g0 0 0 _ _ (n32 _) (n32 _) h;simp only[b0O,b2o] at i2;obtain⟨j1,j2⟩:=p9 N _ _ MH bx.g1 BJ.g1 0 0 _ _ (n41 _) (n41 _) i2;simp only[b0O,b2o] at j2;refine⟨?_,j2⟩;rw[Yu x bx.len,Yu y BJ.len,iE x hx (by omega) (by omega),iE y hy (by omega) (by omega),e,f];rw[show (x.U.getD 0 zE)=_ from i1,show (x.U.getD 1 zE)=_ from j1];rfl
  .exact absurd e h8
def QE{x y:J}(hx:aA x=true)(hy:aA y=true)(h:bH x=bH y):x=y :=
 (p9 _ x y (Nat.lt_succ_self _) hx hy 0 0 [] [] NS.nil NS.nil (by simpa using h)).1
def UR(x:J)(fs:List (List J->List J))(out:List J):List J :=
 if x.ah=1 then out else if x.ah=6 then fs.getD 1 id (fs.getD 0 id out) else out++[x]
def yj(x:J)(out:List J):List J:=xp UR x out
def WT(x:J)(out:List J):yj x out=UR x (ik UR x.U) out:=congrFun (jC _ x) out
def a1t(x:J)(out:List J)(h:x.ah=1):yj x out=out:=by rw[WT];simp[UR,h]
def a1u(x:J)(out:List J)(h:x.ah=6)(b:B2 x):yj x out=yj (x.U.getD 1 zE) (yj (x.U.getD 0 zE) out):=by
 rw[WT];simp only[UR,h];rw[eD UR id zE x.U 0 (by have:=b.len;omega),eD UR id zE x.U 1 (by have:=b.len;omega)];rfl
def a1v(x:J)(out:List J)(h1:¬ x.ah=1)(h6:¬ x.ah=6):yj x out=out++[x]:=by
 rw[WT,UR,b0N h1,b0N h6]
def OI:∀ (N:Nat) (x:J),bG x<N->aA x=true->∀ out,kl out->kl (yj x out)/\eV (yj x out)<=eV out+ar x+1
 | 0,x,h,_=>by omega
 | N+1,x,hN,h=>by
  intro out ho;by_cases h1:x.ah=1
  .rw[a1t x out h1];exact⟨ho,by omega⟩
  by_cases h6:x.ah=6
  .have b:=bZ x h (.inl h6);rw[a1u x out h6 b];obtain⟨a1,a2⟩:=OI N (x.U.getD 0 zE) (by have:=b.l0;omega) b.g0 out ho;obtain⟨c1,c2⟩:=OI N (x.U.getD 1 zE) (by have:=b.l1;omega) b.g1 _ a1;exact⟨c1,by have:=b.nd;omega⟩
  rw[a1v x out h1 h6];refine⟨λ y hy=>?_,?_⟩
  .rcases b0K.1 hy with q|q
   .exact ho y q
   .rw[b0Z] at q;rw[q];exact h
  .simp only[eV,zg,cV,b0Y,b0W,b1f];omega
noncomputable def Ie(out:List J)(x:J):List J:=if out.any (λ y=>iM y x)=true then out else out++[x]
def T9:∀ (N:Nat) (x:J),bG x<N->aA x=true->∀ ys out,dB x (ys.foldl Ie out)=(yj x ys).foldl Ie out
 | 0,x,h,_=>by omega
 | N+1,x,hN,h=>by
  intro ys out;by_cases h1:x.ah=1
  .rw[Ze x _ h1,a1t x _ h1]
  by_cases h6:x.ah=6
  .have b:=bZ x h (.inl h6);rw[Zf x _ h6 b,a1u x _ h6 b,T9 N (x.U.getD 0 zE) (by have:=b.l0;omega) b.g0,T9 N (x.U.getD 1 zE) (by have:=b.l1;omega) b.g1]
  rw[a1v x _ h1 h6,b2Y];show _=Ie _ x;rcases b1C ((ys.foldl Ie out).any (λ y=>iM y x)) with e|e
  .rw[Zh x _ h1 h6 e,Ie,b0T e]
  .rw[Zg x _ h1 h6 e,Ie,b0N (by rw[e];decide)]
noncomputable def vA(L:List J)(k:Nat):List J:=(L.take k).foldl Ie []
def Ov(L:List J)(k:Nat)(x:J)(h:L[k]?=some x):vA L (k+1)=Ie (vA L k) x:=by
 rw[vA,b2Z,h];simp only[Option.toList_some,b2Y,b2N,b4i];rfl
def a3B(x y:J)(hx:aA x=true)(hy:aA y=true)(k:Nat)(h:(yj y (yj x [])).length<=k):vA (yj y (yj x [])) k=dB y (dB x []):=by
 rw[vA,b1I h,<-T9 _ y (b1b _) hy,<-T9 _ x (b1b _) hx];rfl
def a3A(out:List J)(x:J)(hx:aA x=true)(ho:kl out):out.any (λ y=>iM y x)=true↔∃ z∈out,bH z=bH x:=by
 rw[b3R];constructor
 .rintro⟨z,h1,h2⟩;exact⟨z,h1,by rw[Cu.1 h2]⟩
 .rintro⟨z,h1,h2⟩;exact⟨z,h1,Cu.2 (QE (ho z h1) hx h2)⟩
def Cr(L:List J)(h:kl L):∀ k,kl (vA L k)
 | 0=>λ y hy=>by simp[vA] at hy
 | k+1=>by
  cases hk:L[k]? with
  | none =>
   have e:vA L (k+1)=vA L k:=by rw[vA,vA,b2Z,hk];simp
   rw[e];exact Cr L h k
  | some x =>
   rw[Ov L k x hk,Ie];split
   .exact Cr L h k
   .intro y hy;rcases b0K.1 hy with q|q
    .exact Cr L h k y q
    .rw[b0Z] at q;rw[q];exact h x (b1y hk)
def SV(L:List J):∀ k,(vA L k).length<=k
 | 0=>by simp[vA]
 | k+1=>by
  have ih:=SV L k;cases hk:L[k]? with
  | none =>
   have e:vA L (k+1)=vA L k:=by rw[vA,vA,b2Z,hk];simp
   rw[e];omega
  | some x =>
   rw[Ov L k x hk,Ie];split
   .omega
   .simp;omega
def F1:∀ x:List UInt8,Op.bytesLess x x=false
 | []=>rfl
 | a::x=>by simp[Op.bytesLess,F1 x]
def SF:∀ x y:List UInt8,Op.bytesLess x y=false->Op.bytesLess y x=false->x=y
 | [],[],_,_=>rfl
 | [],_::_,h,_=>by simp[Op.bytesLess] at h
 | _::_,[],_,h=>by simp[Op.bytesLess] at h
 | a::x,b::y,h,k=>by
  simp only[Op.bytesLess,b3Z,b3U,b0Q,b1S] at h k;have e:a=b:=UInt8.le_antisymm (b4G.1 k.1) (b4G.1 h.1);subst e;rw[SF x y (h.2.resolve_left λ q=>q rfl) (k.2.resolve_left λ q=>q rfl)]
def DT:∀ x y z:List UInt8,Op.bytesLess x y=true->Op.bytesLess y z=true->Op.bytesLess x z=true
 | _,[],_,h,_=>by cases (by simpa [Op.bytesLess] using h:False)
 | _,_::_,[],_,h=>by cases (by simpa [Op.bytesLess] using h:False)
 | [],_::_,_::_,_,_=>rfl
 | a::x,b::y,c::z,h,k=>by
  simp only[Op.bytesLess,b2m,b0U,b0R,b2I] at h k ⊢;rcases h with h|⟨rfl,h⟩
  .rcases k with k|⟨rfl,k⟩
   .exact .inl (UInt8.lt_trans h k)
   .exact .inl h
  .rcases k with k|⟨rfl,k⟩
   .exact .inl k
   .exact .inr ⟨rfl,DT x y z h k⟩
def Oh(x y z:List UInt8)(h:Op.bytesLess x y=false)(k:Op.bytesLess y z=false):Op.bytesLess x z=false:=by
 cases hxz:Op.bytesLess x z with
 | false=>rfl
 | true =>
  cases hzy:Op.bytesLess z y with
  | true=>rw[DT x z y hxz hzy] at h;cases h
  | false =>
   have e:=SF y z k hzy;subst e;rw[h] at hxz;cases hxz
def FH(xs:List J):Prop:=xs.Pairwise λ a b=>Q9 b a=false
def Ky(x:J):∀ ys,(fW x ys).Perm (x::ys)
 | [] => .refl _
 | y::ys=>by
  rw[fW];split
  .exact ((Ky x ys).cons y).trans (.swap x y ys)
  .exact .refl _
def Vl(x:J):∀ ys,FH ys->FH (fW x ys)
 | [],_=>by simp[fW,FH]
 | y::ys,h=>by
  have ⟨h1,h2⟩:=b2s.1 h;rw[fW];split
  .rename_i hl;refine b2s.2 ⟨λ z hz=>?_,Vl x ys h2⟩;rcases b0X.1 ((Ky x ys).mem_iff.1 hz) with rfl|q
   .cases hzy:Q9 z y with
    | false=>rfl
    | true=>have:=DT _ _ _ hl hzy;rw[F1] at this;cases this
   .exact h1 z q
  .rename_i hl;have hl:Q9 y x=false:=by simpa using hl
   refine b2s.2 ⟨λ z hz=>?_,h⟩;rcases b0X.1 hz with rfl|q
   .exact hl
   .exact Oh _ _ _ (h1 z q) hl
def Zi:∀ (xs acc:List J),FH acc->FH (xs.foldl (λ out x=>fW x out) acc)/\(xs.foldl (λ out x=>fW x out) acc).Perm (xs++acc)
 | [],acc,h=>⟨h, .refl _⟩
 | x::xs,acc,h=>by
  obtain⟨h1,h2⟩:=Zi xs (fW x acc) (Vl x acc h);refine⟨h1,h2.trans ?_⟩;exact ((Ky x acc).append_left xs).trans b4E
def R0:∀ xs ys:List J,xs.Perm ys->FH xs->FH ys->kl xs->xs=ys
 | [],ys,h,_,_,_=>(List.nil_perm.1 h).symm
 | x::xs,[],h,_,_,_=>absurd h.length_eq (by simp)
 | x::xs,y::ys,h,hx,hy,hg=>by
  obtain⟨x1,x2⟩:=b2s.1 hx;obtain⟨y1,y2⟩:=b2s.1 hy;have e:x=y:=by
   rcases b0X.1 (h.mem_iff.1 (b2X)) with q|q
   .exact q
   rcases b0X.1 (h.mem_iff.2 (b2X)) with p|p
   .exact p.symm
   .exact QE (hg x (by simp)) (hg y (by simp[p])) (SF _ _ (y1 x q) (x1 y p))
  subst e;rw[R0 xs ys h.cons_inv x2 y2 λ z hz=>hg z (by simp[hz])]
def a3d(xs zs:List J)(hg:kl xs)(hp:zs.Perm xs)(ho:FH zs):zs=xJ xs:=by
 obtain⟨h1,h2⟩:=Zi xs [] (by simp[FH]);rw[b1E] at h2;exact R0 zs _ (hp.trans h2.symm) ho h1 λ z hz=>hg z (hp.mem_iff.1 hz)
def gV:bc:=⟨Jc,[.v (.int .i64), .v (.int .i64)],λ (k:Int) (m:Int)=>⟨(none,[⟨(.st .expr),J.mk k m []⟩])⟩⟩
def TB(k:Int)(m:Int):Nat->aP:=cw
def gL:bc.Good gV:=by
 refine⟨aH E3,?_⟩;intro (k:Int) (m:Int) _;refine bf [] [] [] [] trivial E3 Ms (TB k m) ((J.mk k m [])=(J.mk k m [])) ?_;refine rfl;all_goals try and_intros
 all_goals first|rfl|trivial|omega|(simp only[b0R,b0Q,aI,av,cD,mJ,dH,bC] at *;omega)|(simp[aI,av] at *;omega)|grind
def fS:bc:=⟨Jd,[.v (.int .i64), .v (.slice (.st .expr))],λ (k:Int) (ks:List J)=>⟨(none,[⟨(.st .expr),J.mk k 0 ks⟩])⟩⟩
def TD(k:Int)(ks:List J):Nat->aP:=cw
def fH:bc.Good fS:=by
 refine⟨aH E4,?_⟩;intro (k:Int) (ks:List J) _;refine bf [] [] [] [] trivial E4 Mu (TD k ks) ((J.mk k (0:Int) ks)=(J.mk k 0 ks)) ?_;refine ?_;all_goals try and_intros
 all_goals first|rfl|trivial|omega|(simp only[b0R,b0Q,aI,av,cD,mJ,dH,bC] at *;omega)|(simp[aI,av] at *;omega)|grind
end
end Go.Proofs.YtofnjfpeimhifaaGreatDoor

namespace Go.Proofs
open Go.Shelf
def Tryz.TF:Go.Shelf.Ren:=⟨λ|106=>121|213=>133|265=>154|n=>n,λ|9=>9|3=>3|n=>n,λ|n=>n⟩
def Tryz.a2d:Go.Proofs.Lays.n106 Tryz.prog Tryz.TF:={
 mixed:=by kernel_rfl
 f106:=Tryz.func121.trans (congrArg some (by kernel_rfl))
 f213:=Tryz.func133.trans (congrArg some (by kernel_rfl))
 f265:=Tryz.func154.trans (congrArg some (by kernel_rfl))
 t3:=Tryz.underlying3
 a3:=Tryz.isAgg3
 z3:=Tryz.sizeOf3
 v3:=Tryz.zeroValue3
 t9:=Tryz.underlying9
 a9:=Tryz.isAgg9
 z9:=Tryz.sizeOf9
 v9:=Tryz.zeroValue9 }
open Go.RowKit in
def Tryz.strings_Compare(a b:ByteArray)(w:World) :
  Calls Tryz.prog 121 #[.string a, .string b] w λ e w'=>e = .returned (.int .i64 (Lib.compareBytes a.data.toList b.data.toList))/\w'=w:=Any.strings_Compare Tryz.a2d a b w
def Tryz.V1:Go.Shelf.Ren:=⟨λ|6=>119|15=>132|14=>131|28=>152|29=>153|20=>144|21=>145|22=>146|23=>147|24=>148|25=>149|26=>150|27=>151|46=>161|47=>162|48=>163|49=>164|50=>165|57=>168|n=>n,λ|22=>163|24=>167|25=>169|3=>3|39=>134|0=>0|53=>197|55=>97|4=>4|46=>190|45=>189|50=>194|5=>5|9=>9|66=>208|70=>212|76=>214|77=>215|n=>n,λ|n=>n⟩
def Tryz.a4p:Go.Proofs.SlLaysF0.n6 Tryz.prog Tryz.V1:={
 mixed:=by kernel_rfl
 f6:=⟨Tryz.f119.name,by decide,Tryz.func119.trans (congrArg some (by kernel_rfl))⟩
 f14:=⟨Tryz.f131.name,by decide,Tryz.func131.trans (congrArg some (by kernel_rfl))⟩
 f15:=Tryz.func132.trans (congrArg some (by kernel_rfl))
 f20:=⟨Tryz.f144.name,by decide,Tryz.func144.trans (congrArg some (by kernel_rfl))⟩
 f21:=⟨Tryz.f145.name,by decide,Tryz.func145.trans (congrArg some (by kernel_rfl))⟩
 f22:=⟨Tryz.f146.name,by decide,Tryz.func146.trans (congrArg some (by kernel_rfl))⟩
 f23:=⟨Tryz.f147.name,by decide,Tryz.func147.trans (congrArg some (by kernel_rfl))⟩
 f24:=⟨Tryz.f148.name,by decide,Tryz.func148.trans (congrArg some (by kernel_rfl))⟩
 f25:=⟨Tryz.f149.name,by decide,Tryz.func149.trans (congrArg some (by kernel_rfl))⟩
 f26:=⟨Tryz.f150.name,by decide,Tryz.func150.trans (congrArg some (by kernel_rfl))⟩
 f27:=⟨Tryz.f151.name,by decide,Tryz.func151.trans (congrArg some (by kernel_rfl))⟩
 f28:=Tryz.func152.trans (congrArg some (by kernel_rfl))
 f29:=Tryz.func153.trans (congrArg some (by kernel_rfl))
 f46:=⟨Tryz.f161.name,by decide,Tryz.func161.trans (congrArg some (by kernel_rfl))⟩
 f47:=Tryz.func162.trans (congrArg some (by kernel_rfl))
 f48:=Tryz.func163.trans (congrArg some (by kernel_rfl))
 f49:=⟨Tryz.f164.name,by decide,Tryz.func164.trans (congrArg some (by kernel_rfl))⟩
 f50:=⟨Tryz.f165.name,by decide,Tryz.func165.trans (congrArg some (by kernel_rfl))⟩
 f57:=⟨Tryz.f168.name,by decide,Tryz.func168.trans (congrArg some (by kernel_rfl))⟩
 t0:=Tryz.underlying0
 a0:=Tryz.isAgg0
 z0:=Tryz.sizeOf0
 v0:=Tryz.zeroValue0
 t3:=Tryz.underlying3
 a3:=Tryz.isAgg3
 z3:=Tryz.sizeOf3
 v3:=Tryz.zeroValue3
 t4:=Tryz.underlying4
 a4:=Tryz.isAgg4
 z4:=Tryz.sizeOf4
 v4:=Tryz.zeroValue4
 t5:=Tryz.underlying5
 a5:=Tryz.isAgg5
 z5:=Tryz.sizeOf5
 v5:=Tryz.zeroValue5
 t9:=Tryz.underlying9
 a9:=Tryz.isAgg9
 z9:=Tryz.sizeOf9
 v9:=Tryz.zeroValue9
 t22:=Tryz.underlying163
 a22:=Tryz.isAgg163
 z22:=Tryz.sizeOf163
 v22:=Tryz.zeroValue163
 t25:=Tryz.underlying169
 a25:=Tryz.isAgg169
 z25:=Tryz.sizeOf169
 v25:=Tryz.zeroValue169
 t39:=Tryz.underlying134
 a39:=Tryz.isAgg134
 z39:=Tryz.sizeOf134
 v39:=Tryz.zeroValue134
 t45:=Tryz.underlying189
 a45:=Tryz.isAgg189
 z45:=Tryz.sizeOf189
 v45:=Tryz.zeroValue189
 t46:=Tryz.underlying190
 a46:=Tryz.isAgg190
 z46:=Tryz.sizeOf190
 v46:=Tryz.zeroValue190
 t50:=Tryz.underlying194
 a50:=Tryz.isAgg194
 z50:=Tryz.sizeOf194
 v50:=Tryz.zeroValue194
 t53:=Tryz.underlying197
 a53:=Tryz.isAgg197
 z53:=Tryz.sizeOf197
 v53:=Tryz.zeroValue197
 t55:=Tryz.underlying97
 a55:=Tryz.isAgg97
 z55:=Tryz.sizeOf97
 v55:=Tryz.zeroValue97
 t66:=Tryz.underlying208
 a66:=Tryz.isAgg208
 z66:=Tryz.sizeOf208
 v66:=Tryz.zeroValue208
 t70:=Tryz.underlying212
 a70:=Tryz.isAgg212
 z70:=Tryz.sizeOf212
 v70:=Tryz.zeroValue212
 t76:=Tryz.underlying214
 a76:=Tryz.isAgg214
 z76:=Tryz.sizeOf214
 v76:=Tryz.zeroValue214
 t77:=Tryz.underlying215
 a77:=Tryz.isAgg215
 z77:=Tryz.sizeOf215
 v77:=Tryz.zeroValue215 }
end Go.Proofs

namespace Go.Proofs.YtofnjfpeimhifaaGreatDoor
noncomputable section
open Go.RowKit Go.Proofs
def xa{P:Program}{w:World}{ops:Array Oper}{rest:List Oper}{o:Oper}{a:Act}{Q:Exit->Act->World->Prop}(hgd:o.guard=none)(s x:Operand)(t:TypeId)
  (ho:o.op = .call { callee := .builtin .append,args := #[s,x],argTypes := #[t,t] })
  (base:Nat) (e:TypeId) (i:TypeInfo) (z:Value) (size bytes:Nat) (ht:P.underlying t=some (.slice e)) (hi:P.info? e=some i) (hz:i.zero=some z)
  (xw:i.size=size) (hby:i.bytes=bytes) (Kx:z.cells.size=size) (cj:0<size)
  (v:Value) (n:Nat) (xs:List Value) (hs:a.eval s=v) (dM:w.ownsRow base e size v n xs)
  (ad:Addr) (m c:Nat) (news:List Value) (hx:a.eval x = .slice (some ad) m c) (hl:news.length=m * size) (zY:∀ j u,news[j]?=some u->w.cell? (ad.add j)=some u) (h1:∀ u∈news,u.oneCell'=true)
  (h63:n+m<=maxLen) (Tj:(n+m) * bytes<=140737488355328) (Kn:base<=w.heap.size)
  (h:∀ v' w',w'.ownsRow base e size v' (n+m) (xs++news)->w.grownBy w' v.ownBlock->(v'.ownBlock=v.ownBlock\/v'.ownBlock=some w.heap.size)->(v' = .slice none 0 0↔v = .slice none 0 0/\m=0)->wpList P ops Q rest (a.put o.dst v') w'):wpList P ops Q (o::rest) a w :=
 wpList_plain hgd λ K hK=>by
  obtain⟨v',w',hr,h2,h3,h4,h5⟩:=run_append_own_at (P:=P) w base t o.type e i z size bytes ht hi hz xw hby Kx cj v n xs dM ad m c news hl zY h1 h63 Tj Kn;unfold Oper.wp execOp;simp only[ho,resolve,invoke,builtin,Sem.run_bind,Sem.run_pure,Result.andThen_ok,List.map_toArray,List.map_cons,List.map_nil,hs,hx,hr];exact hK _ _ (h v' w' h2 h3 h5 h4)
structure HM(w0:World)(S:Nat->Prop)(B:Nat)(w:World)(v:Value)(ys:List J)(L:List Value):Prop where
 cW:Below w0.heap.size w0 w
 b0:w0.heap.size<=B
 bw:B<=w.heap.size
 own:w.ownsRow B 28 3 v ys.length L
 rd:dj w0 S (ys.map J.aK) L
structure xc(v v':Value)(w w':World):Prop where
 g:w.grownBy w' v.ownBlock
 own:∀ k,v'.ownBlock=some k->v.ownBlock=some k\/w.heap.size<=k
def xc.trans{v v' v'':Value}{w w' Rl:World}(h:xc v v' w w')(k:xc v' v'' w' Rl):xc v v'' w Rl:=by
 refine⟨⟨k.g.os.trans h.g.os,k.g.tape.trans h.g.tape,k.g.output.trans h.g.output,b2c h.g.size k.g.size,λ q h1 h2=>?_⟩,λ q hq=>?_⟩
 .rw[k.g.block q (b0V h1 h.g.size) λ e=>?_,h.g.block q h1 h2];rcases h.own q e.symm with r|r
  .exact h2 r.symm
  .omega
 .rcases k.own q hq with r|r
  .exact h.own q r
  .exact .inr (b2c h.g.size r)
def xc.alloc{v:Value}(w:World)(o:Obj):xc v v w (w.alloc o):=⟨⟨rfl,rfl,rfl,by simp,λ k h _=>b2a w o k h⟩,λ k h => .inl h⟩
def HM.alloc{w0:World}{S:Nat->Prop}{B:Nat}{w:World}{v:Value}{ys:List J}{L:List Value}(h:HM w0 S B w v ys L)(o:Obj):HM w0 S B (w.alloc o) v ys L :=
 ⟨h.cW.alloc h.cW.size o,h.b0,by have:=h.bw;simp;omega,h.own.alloc o,h.rd⟩
def HM.drew{w0:World}{S:Nat->Prop}{B:Nat}{w:World}{v:Value}{ys:List J}{L:List Value}(h:HM w0 S B w v ys L):HM w0 S B w.drew v ys L :=
 ⟨h.cW.drew,h.b0,h.bw,h.own.drew,h.rd⟩
def xc.drew{v v':Value}{w w':World}(h:xc v v' w w'):xc v v' w w'.drew:=⟨⟨h.g.os,h.g.tape,h.g.output,h.g.size,h.g.block⟩,h.own⟩
abbrev Zv(w0:World)(S:Nat->Prop)(B:Nat)(x:J)(cs:List Value)(v:Value)(ys:List J)(w:World):Prop :=
 Calls prog 118 #[v, .agg cs.toArray] w λ e w'=>∃ v' L',e = .returned v'/\HM w0 S B w' v' (yj x ys) L'/\xc v v' w w'
def Jm{w:World}{B e sz n:Nat}{v:Value}{L:List Value}(h:w.ownsRow B e sz v n L):∀ k,v.ownBlock=some k->B<=k/\k<w.heap.size:=λ k hk=>h.lt k hk
def xc.below{v v':Value}{w0 w w':World}{B e sz n:Nat}{L:List Value}(h:xc v v' w w')(hb:Below w0.heap.size w0 w)(h0:w0.heap.size<=B)(ho:w.ownsRow B e sz v n L):Below w0.heap.size w0 w' :=
 hb.trans ⟨h.g.os,h.g.tape,h.g.output,h.g.size,λ k hk=>h.g.block k (b0V hk hb.size) λ q=>by
  have:=(Jm ho k q.symm).1;omega⟩
set_option maxRecDepth 100000 in
def a8n(w0:World)(S:Nat->Prop)(B:Nat)(x:J)(h1:x.ah=1)(n:Int)(sl v:Value)(ys:List J)(L:List Value)(w:World)(hl:HM w0 S B w v ys L):Zv w0 S B x [.int .i64 1, .int .i64 n,sl] v ys w:=by
 go_enter Tryz.func118,Tryz.ntmps118;go_wp2;go_ret;rw[a1t x ys h1];exact⟨v,L,rfl,hl.alloc _,xc.alloc _ _⟩
set_option maxRecDepth 100000 in
def a8o(w0:World)(S:Nat->Prop)(B:Nat)(x:J)(h6:x.ah=6)(b2:B2 x)(n:Int)(kb ko cap:Nat)(c0 c1 c2 d0 d1 d2:Value)(v:Value)(ys:List J)(L:List Value)(w:World)(hl:HM w0 S B w v ys L)(hkb:kb<w0.heap.size)
  (qp:bo w0 kb ko [c0,c1,c2]) (sR:bo w0 kb (ko+3) [d0,d1,d2])
  (i0:∀ w',HM w0 S B w' v ys L->Zv w0 S B (x.U.getD 0 zE) [c0,c1,c2] v ys w')
  (i1:∀ w' v' L',HM w0 S B w' v' (yj (x.U.getD 0 zE) ys) L'->Zv w0 S B (x.U.getD 1 zE) [d0,d1,d2] v' (yj (x.U.getD 0 zE) ys) w') :
  Zv w0 S B x [.int .i64 6, .int .i64 n, .slice (some ⟨kb,ko,none⟩) 2 cap] v ys w:=by
 have l0:=hl.alloc (.cells #[.int .i64 6, .int .i64 n, .slice (some ⟨kb,ko,none⟩) 2 cap] 28);have f0:xc v v w (w.alloc (.cells #[.int .i64 6, .int .i64 n, .slice (some ⟨kb,ko,none⟩) 2 cap] 28)):=xc.alloc _ _;have e0:=b2g w (.cells #[.int .i64 6, .int .i64 n, .slice (some ⟨kb,ko,none⟩) 2 cap] 28);have vb:v.ownBlock≠some w.heap.size:=λ e=>by have:=(Jm hl.own _ e).2;omega
 go_enter Tryz.func118,Tryz.ntmps118;go_upto_region 1 with fail;generalize hb:w.heap.size=bx at *
 generalize w.alloc (.cells #[.int .i64 6, .int .i64 n, .slice (some ⟨kb,ko,none⟩) 2 cap] 28)=w1 at *
 have cl:=λ (W:World) (h:Below w0.heap.size w0 W)=>(⟨qp.aM (h.block kb hkb),sR.aM (h.block kb hkb)⟩:bo W kb ko [c0,c1,c2]/\bo W kb (ko+3) [d0,d1,d2]);have q0:w1.cell? ⟨kb,ko,none⟩=some c0:=(cl w1 l0.cW).1 0 _ rfl;have q1:w1.cell? ⟨kb,ko+1,none⟩=some c1:=(cl w1 l0.cW).1 1 _ rfl;have q2:w1.cell? ⟨kb,ko+2,none⟩=some c2:=(cl w1 l0.cW).1 2 _ rfl;have r0:w1.cell? ⟨kb,ko+3,none⟩=some d0:=(cl w1 l0.cW).2 0 _ rfl;have r1:w1.cell? ⟨kb,ko+4,none⟩=some d1:=(cl w1 l0.cW).2 1 _ rfl;have r2:w1.cell? ⟨kb,ko+5,none⟩=some d2:=(cl w1 l0.cW).2 2 _ rfl;obtain⟨⟨k0,k1,k2⟩,g0,g1,g2⟩:=qJ e0;have xv:=bA e0;have vb':some bx≠v.ownBlock:=λ e=>vb e.symm;go_wp2_with fail;go_region_held3 (λ w'=>w'.cell? ⟨bx,2,none⟩=some (.slice (some ⟨kb,ko,none⟩) 2 cap)/\w'.cell? ⟨kb,ko,none⟩=some c0/\w'.cell? ⟨kb,ko+1,none⟩=some c1/\w'.cell? ⟨kb,ko+2,none⟩=some c2/\w'.cell? ⟨kb,ko+3,none⟩=some d0/\w'.cell? ⟨kb,ko+4,none⟩=some d1/\w'.cell? ⟨kb,ko+5,none⟩=some d2) (go_keep)
  (first
   | (
     go_at_call_of 118 c0
     refine (i0 _ l0.drew).mono ?_
     rintro e w2 ⟨v1,L1,he,l1,f1⟩
     subst he
     have e2:w2.heap[bx]?=some (.cells #[.int .i64 6, .int .i64 n, .slice (some ⟨kb,ko,none⟩) 2 cap] 28 (0,0)):=(f1.g.block bx xv vb').trans e0
     obtain⟨⟨k3,k4,k5⟩,g3,g4,g5⟩:=qJ e2
     have p3:w2.cell? ⟨kb,ko,none⟩=some c0:=(cl w2 l1.cW).1 0 _ rfl
     have p4:w2.cell? ⟨kb,ko+1,none⟩=some c1:=(cl w2 l1.cW).1 1 _ rfl
     have p5:w2.cell? ⟨kb,ko+2,none⟩=some c2:=(cl w2 l1.cW).1 2 _ rfl
     have r3:w2.cell? ⟨kb,ko+3,none⟩=some d0:=(cl w2 l1.cW).2 0 _ rfl
     have r4:w2.cell? ⟨kb,ko+4,none⟩=some d1:=(cl w2 l1.cW).2 1 _ rfl
     have r5:w2.cell? ⟨kb,ko+5,none⟩=some d2:=(cl w2 l1.cW).2 2 _ rfl)
   | (
     go_at_call_of 118 d0
     refine (i1 _ _ _ l1).mono ?_
     rintro e w3 ⟨v2,L2,he,l2,f2⟩
     subst he
     have e3:w3.heap[bx]?=some (.cells #[.int .i64 6, .int .i64 n, .slice (some ⟨kb,ko,none⟩) 2 cap] 28 (0,0)):=(f2.g.block bx (bA e2) (λ e=>(f1.own bx e.symm).elim (λ q=>vb q) λ q=>by have q:w1.heap.size<=bx:=q;omega)).trans e2
     obtain⟨⟨k6,k7,k8⟩,g6,g7,g8⟩:=qJ e3
     have p6:w3.cell? ⟨kb,ko,none⟩=some c0:=(cl w3 l2.cW).1 0 _ rfl
     have p7:w3.cell? ⟨kb,ko+1,none⟩=some c1:=(cl w3 l2.cW).1 1 _ rfl
     have p8:w3.cell? ⟨kb,ko+2,none⟩=some c2:=(cl w3 l2.cW).1 2 _ rfl
     have r6:w3.cell? ⟨kb,ko+3,none⟩=some d0:=(cl w3 l2.cW).2 0 _ rfl
     have r7:w3.cell? ⟨kb,ko+4,none⟩=some d1:=(cl w3 l2.cW).2 1 _ rfl
     have r8:w3.cell? ⟨kb,ko+5,none⟩=some d2:=(cl w3 l2.cW).2 2 _ rfl))
 all_goals
  go_wp2
  go_ret
  rw[a1u x ys h6 b2]
  exact⟨v2,L2,rfl,l2,f0.trans ((xc.trans (show xc v v w1 w1.drew from ⟨⟨rfl,rfl,rfl,b1d _,λ _ _ _=>rfl⟩,λ k h => .inl h⟩) f1).trans f2)⟩
set_option maxRecDepth 100000 in
def a8p(w0:World)(S:Nat->Prop)(B:Nat)(x:J)(n1:¬ x.ah=1)(n6:¬ x.ah=6)(cs:List Value)(v:Value)(ys:List J)(L:List Value)(w:World)(hl:HM w0 S B w v ys L)(hr:Rd w0 S x.aK cs)(hn:ys.length<=8000) :
  Zv w0 S B x cs v ys w:=by
 obtain⟨a,cap,rfl,_⟩:=ow hr;have kb1:(x.ah == 1)=false:=by simpa using n1
 have kb6:(x.ah == 6)=false:=by simpa using n6
 have l0:=(hl.alloc (.cells #[.int .i64 x.ah, .int .i64 x.aX, .slice a x.U.length cap] 28)).alloc (.cells #[.int .i64 x.ah, .int .i64 x.aX, .slice a x.U.length cap] 28);have f0:xc v v w ((w.alloc (.cells #[.int .i64 x.ah, .int .i64 x.aX, .slice a x.U.length cap] 28)).alloc (.cells #[.int .i64 x.ah, .int .i64 x.aX, .slice a x.U.length cap] 28)):=(xc.alloc _ _).trans (xc.alloc _ _);obtain⟨i0,QV,Q1,Kw,MJ⟩:=info_parts Tz;go_enter Tryz.func118,Tryz.ntmps118;go_wp2_with (at_builtin;refine xa rfl _ _ 26 rfl B 28 i0 _ 3 40 Tryz.underlying26 QV Q1 Kw MJ rfl (by decide) v ys.length L rfl l0.own ⟨w.heap.size+1,0,none⟩ 1 1 [.int .i64 x.ah, .int .i64 x.aX, .slice a x.U.length cap] (by first|rfl|simp) (by rfl) (World.news_of_block (cs := #[.int .i64 x.ah, .int .i64 x.aX, .slice a x.U.length cap]) (t:=28) (fr:=(0,0)) (by simpa using heap_alloc_new (w.alloc _) (.cells #[.int .i64 x.ah, .int .i64 x.aX, .slice a x.U.length cap] 28))) (by simp[Value.oneCell']) (by simp[maxLen];omega) (by omega) l0.bw ?_);intro v' w' dM dr Km iU;go_wp2;go_ret;rw[a1v x ys n1 n6];have fr:xc v v' _ w':=⟨dr,λ k hk=>by
  rcases Km with e|e
  .exact .inl (by rw[<-e];exact hk)
  .rw[e] at hk;cases hk;exact .inr (by simp)⟩
 refine⟨v',_,rfl,⟨fr.below l0.cW l0.b0 l0.own,l0.b0,Nat.le_trans l0.bw dr.size,by simpa using dM,?_⟩,f0.trans fr⟩;rw[List.map_append];exact dj.append _ _ l0.rd ⟨_,[],by simp,hr,rfl⟩
def Ip(w0:World)(S:Nat->Prop)(hS:iZ w0 S)(B:Nat):∀ (N:Nat) (x:J),bG x<N->aA x=true->∀ (cs:List Value) (v:Value) (ys:List J) (L:List Value) (w:World),HM w0 S B w v ys L->Rd w0 S x.aK cs->kl ys->eV ys+ar x<=8000->Zv w0 S B x cs v ys w
 | 0,x,h,_=>by omega
 | N+1,x,hN,hg=>by
  intro cs v ys L w hl hr QU hn;by_cases h1:x.ah=1
  .obtain⟨a,cap,rfl,_⟩:=ow hr;rw[h1];exact a8n w0 S B x h1 _ _ v ys L w hl
  by_cases h6:x.ah=6
  .have b2:=bZ x hg (.inl h6);obtain⟨a,cap,rfl,hk⟩:=ow hr;obtain⟨kb,ko,rfl,ZV,fB⟩:∃ kb ko,a=some ⟨kb,ko,none⟩/\S kb/\df w0 S (x.U.map J.aK) kb ko:=by
    rcases hk with hk|hk
    .have:=b2.len;rw[hk] at this;cases this
    .obtain⟨kb,ko,e1,e2,e3⟩:=hk;exact⟨kb,ko,e1,e2,e3⟩
   obtain⟨c0,c1,c2,r0,q0⟩:=Jq fB 0 (by have:=b2.len;omega);obtain⟨d0,d1,d2,r1,q1⟩:=Jq fB 1 (by have:=b2.len;omega);obtain⟨g1,t1⟩:=OI _ (x.U.getD 0 zE) (Nat.lt_succ_self _) b2.g0 ys QU;have nd:=b2.nd;rw[h6,b2.len];refine a8o w0 S B x h6 b2 _ kb ko cap _ _ _ _ _ _ v ys L w hl (hS.1 kb ZV) (by simpa using q0) (by simpa using q1)
    (λ w' l'=>Ip w0 S hS B N _ (by have:=b2.l0;omega) b2.g0 _ v ys L w' l' r0 QU (by omega)) λ w' v' L' l' =>
    Ip w0 S hS B N _ (by have:=b2.l1;omega) b2.g1 _ v' _ L' w' l' r1 g1 (by omega)
  .exact a8p w0 S B x h1 h6 cs v ys L w hl hr (by have:eV ys=cV ar ys+ys.length:=rfl;omega)
def TI{T:TypeId}(W:World):(Instr.makeMap T none).run prog W = .ok (.map (some W.heap.size)) (W.alloc (.map #[] 0)):=by simp[Instr.makeMap]
abbrev Nm:=J×Int×Int×Option Addr×Nat×Nat
instance a9Q:Inhabited Nm:=⟨(J.mk (0:Int) (0:Int) [],0,0,none,0,0)⟩
def RD(x:Nm):List Value:=[.int .i64 x.2.1, .int .i64 x.2.2.1, .slice x.2.2.2.1 x.2.2.2.2.1 x.2.2.2.2.2]
def nP(x:Nm):List Value := .string ⟨(bH x.1).toArray⟩::RD x
def tf(x:Nm):(nP x).length=4:=rfl
def ZK(x:Nm):∀ v∈nP x,v.oneCell'=true:=λ v hv=>by
 simp[nP,RD] at hv;rcases hv with rfl|rfl|rfl|rfl<;>rfl
def RH:∀ (T:List Nm) (i q:Nat) (t:Nm),T[i]?=some t->q<4->(T.flatMap nP)[i * 4+q]?=(nP t)[q]?
 | [],i,q,t,h,_=>by simp at h
 | u::T,0,q,t,h,hq=>by
  simp only[b3L,b0J] at h;subst h;rw[b2y,b1R (by rw[tf];omega)];simp
 | u::T,i+1,q,t,h,hq=>by
  rw[List.flatMap_cons,List.getElem?_append_right (by rw[tf];omega),tf,show (i+1) * 4+q - 4=i * 4+q by omega];exact RH T i q t (by simpa using h) hq
structure N0(w:World)(mb:Nat)(L:List J)(i:Nat):Prop where
 ex:∃ (f:List UInt8->Option Bool) (n:Nat) (es:Array MapEntry) (clock:Nat),w.heap[mb]?=some (.map es clock)/\vJ ⟨.str, .bool,f,n⟩ es/\n<=i/\∀ t,(f t).getD false=true↔∃ z∈L,bH z=t
structure NmX(w0:World)(S:Nat->Prop)(w:World)(v:Value)(T:List Nm):Prop where
 own:w.ownsRow w0.heap.size 167 4 v T.length (T.flatMap nP)
 rd:∀ t∈T,Rd w0 S t.1.aK (RD t)
def a6E:(Tryz.prog.info? 167).map (λ i=>(i.zero,i.size,i.bytes))=some (some (.agg #[.string ⟨#[]⟩, .int .i64 0, .int .i64 0, .slice none 0 0]),4,56):=by kernel_rfl
def a0g{w:World}{B e sz n:Nat}{v:Value}{L:List Value}(h:w.ownsRow B e sz v n L):∃ ad cp,v = .slice ad n cp/\(n=0\/∃ g cur,ad=some ⟨g,0,none⟩/\B<=g/\w.heap[g]?=some (.cells cur e (0,0))/\cur.toList.take (n * sz)=L):=by
 rcases h.2 with ⟨e1,e2⟩|⟨g,cp,cur,e1,e2,e3,_,_,_,e4⟩
 .exact⟨none,0,by rw[e1,e2], .inl e2⟩
 .exact⟨_,cp,e1, .inr ⟨g,cur,rfl,e2,e3,e4⟩⟩
def a3w(w:World)(o1 o2 o3 o4 o5:Obj):(((((w.alloc o1).alloc o2).alloc o3).alloc o4).alloc o5).heap[w.heap.size]?=some o1/\(((((w.alloc o1).alloc o2).alloc o3).alloc o4).alloc o5).heap[w.heap.size+1]?=some o2 /\
  (((((w.alloc o1).alloc o2).alloc o3).alloc o4).alloc o5).heap[w.heap.size+1+1]?=some o3/\(((((w.alloc o1).alloc o2).alloc o3).alloc o4).alloc o5).heap[w.heap.size+1+1+1]?=some o4/\(((((w.alloc o1).alloc o2).alloc o3).alloc o4).alloc o5).heap[w.heap.size+1+1+1+1]?=some o5:=by
 have nw:=λ (w:World) (o:Obj)=>(b5j w o).1;refine⟨?_,?_,?_,?_,?_⟩
 .rw[b2a _ _ _ (by simp<;>omega),b2a _ _ _ (by simp<;>omega),b2a _ _ _ (by simp<;>omega),b2a _ _ _ (by simp)];exact nw w o1
 .rw[Lib.alloc_old _ _ _ (by simp<;>omega),Lib.alloc_old _ _ _ (by simp<;>omega),Lib.alloc_old _ _ _ (by simp)];exact (by simpa using nw (w.alloc o1) o2)
 .rw[Lib.alloc_old _ _ _ (by simp<;>omega),Lib.alloc_old _ _ _ (by simp)];exact (by simpa using nw ((w.alloc o1).alloc o2) o3)
 .rw[Lib.alloc_old _ _ _ (by simp)];exact (by simpa using nw (((w.alloc o1).alloc o2).alloc o3) o4)
 .exact (by simpa using nw ((((w.alloc o1).alloc o2).alloc o3).alloc o4) o5)
structure HI(b3 b4:Nat)(w w':World):Prop where
 os:w'.os=w.os
 tape:w'.tape=w.tape
 output:w'.output=w.output
 size:w.heap.size<=w'.heap.size
 block:∀ k,k<w.heap.size->k≠b3->k≠b4->w'.heap[k]?=w.heap[k]?
def HI.refl(b3 b4:Nat)(w:World):HI b3 b4 w w:=⟨rfl,rfl,rfl,b1d _,λ _ _ _ _=>rfl⟩
def HI.trans{b3 b4:Nat}{w w' Rl:World}(h:HI b3 b4 w w')(k:HI b3 b4 w' Rl):HI b3 b4 w Rl :=
 ⟨k.os.trans h.os,k.tape.trans h.tape,k.output.trans h.output,b2c h.size k.size,λ q h1 h2 h3=>(k.block q (b0V h1 h.size) h2 h3).trans (h.block q h1 h2 h3)⟩
def HI.cW{b3 b4 B:Nat}{w0 w w':World}(h:HI b3 b4 w w')(hb:Below B w0 w)(hB:B<=w0.heap.size)(h3:B<=b3)(h4:B<=b4):Below B w0 w' :=
 hb.trans ⟨h.os,h.tape,h.output,h.size,λ k hk=>h.block k (b0V hk (b2c hB hb.size)) (by omega) (by omega)⟩
def HI.of{b3 b4:Nat}{w w':World}(h:Below w.heap.size w w'):HI b3 b4 w w':=⟨h.os,h.tape,h.output,h.size,λ k hk _ _=>h.block k hk⟩
def N0.none{w:World}{mb:Nat}(h:w.heap[mb]?=some (.map #[] 0)):N0 w mb [] 0 :=
 ⟨iL _ _,0,#[],0,h,vJ.empty rfl rfl,b1d _,λ t=>by simp[iL]⟩
def N0.aM{w w':World}{mb i j:Nat}{L:List J}(h:N0 w mb L i)(rC:i<=j)(hw:w'.heap[mb]?=w.heap[mb]?):N0 w' mb L j:=by
 obtain⟨f,n,es,c,h1,h2,h3,h4⟩:=h.ex;exact⟨f,n,es,c,hw.trans h1,h2,by omega,h4⟩
def a2W(l:List UInt8)(h:l.length<=140737488355328):nF .str l (.string ⟨l.toArray⟩):=λ w S=>⟨⟨l.toArray⟩,rfl,by simp,by simpa [ByteArray.size] using h⟩
def R8(b:Bool):nF .bool b (.bool b):=λ w S=>rfl
def Ej:prog.underlying 164=some (.map 9 4)/\prog.underlying 9=some .string:=⟨by kernel_rfl,by kernel_rfl⟩
def Ya(w:World):(zeroValue 4).run prog w = .ok (.bool false) w:=by
 have h:(Tryz.prog.info? 4).map (λ i=>i.zero)=some (some (.bool false)):=by kernel_rfl
 match hq:Tryz.prog.info? 4,h with
 | some i,h =>
  simp only[b3l,b0J] at h;simp[zeroValue,typeInfo,show prog.info? 4=some i from hq,h,Result.andThen]
def N0.ai{w:World}{mb i:Nat}{L:List J}(h:N0 w mb L i)(x:J)(hl:(bH x).length<=1000000)(hg:aA x=true)(hL:kl L)(hi:i<1000000000) :
  (Instr.lookup 164 (.map (some mb)) (.string ⟨(bH x).toArray⟩) false).run prog w = .ok (.bool (L.any λ y=>iM y x)) w /\
  ((L.any λ y=>iM y x)=false->∃ w',(Instr.mapUpdate 164 (.map (some mb)) (.string ⟨(bH x).toArray⟩) (.bool true)).run prog w = .ok () w'/\N0 w' mb (L++[x]) (i+1)/\w'.os=w.os/\w'.tape=w.tape/\w'.output=w.output/\w'.heap.size=w.heap.size/\∀ k,k≠mb->w'.heap[k]?=w.heap[k]?):=by
 obtain⟨f,n,es,c,h1,h2,h3,h4⟩:=h.ex;have hk:=a2W (bH x) (by omega);obtain⟨u,u1,u2⟩:=h2.ai (P:=prog) Ej.1 (HH.str Ej.2 w) h1 (Ya w) (R8 false) (k:=bH x) hk false;have hu:[u]=[.bool ((f (bH x)).getD false)]:=u1 w (λ _=>False);simp only[b0O,b1i] at hu;subst hu;have hb:(f (bH x)).getD false=(L.any λ y=>iM y x):=by
  have e:=a3A L x hg hL;rw[<-h4] at e;cases h5:(f (bH x)).getD false<;>cases h6:L.any (λ y=>iM y x)<;>simp_all
 rw[hb] at u2;refine⟨u2,λ hf=>?_⟩;obtain⟨UL,c',m1,m2⟩:=h2.store (P:=prog) Ej.1 (HH.str Ej.2 w) h1 (k:=bH x) hk (x:=true) (R8 true) (show n<1000000000 by omega);obtain⟨q1,q2⟩:=MapKept.heap_set (o' := .map UL c') h1;refine⟨_,m1,⟨_,_,UL,c',q1,m2,?_,λ t=>?_⟩,rfl,rfl,rfl,by simp,q2⟩
 .show gv _ n<=_;unfold gv;cases (f (bH x)).isSome<;>simp<;>omega
 .show (
     fb f (bH x) true t).getD false=true↔_
  by_cases ht:t=bH x
  .subst ht;rw[pD];simp
  .rw[iW _ _ _ ht,h4];constructor
   .rintro⟨z,hz,e⟩;exact⟨z,b2v _ hz,e⟩
   .rintro⟨z,hz,e⟩;rcases b0K.1 hz with q|q
    .exact⟨z,q,e⟩
    .rw[b0Z] at q;exact absurd (by rw[<-e,q]) ht
open Go.Shelf Go.Lib Go.Sort
def Yn:∀ a b:List UInt8,decide (Lib.compareBytes a b<0)=Op.bytesLess a b
 | [],[]=>rfl
 | [],_::_=>rfl
 | _::_,[]=>rfl
 | a::x,b::y=>by
  have ih:=Yn x y;unfold Lib.compareBytes Op.bytesLess;by_cases h1:a<b
  .simp[h1]
  .by_cases h2:b<a
   .have h3:¬ a=b:=λ e=>by subst e;exact absurd h2 h1
    simp[h1,h2,h3]
   .have h3:a=b:=UInt8.le_antisymm (b4G.1 h2) (b4G.1 h1);subst h3;simp only[h1,b3H,ih];simp
abbrev WL(x y:Nm):Int:=Lib.compareBytes (bH x.1) (bH y.1)
def ltN(x y:Nm):ltOf WL x y=Q9 x.1 y.1:=Yn _ _
def a9v:SWO (ltOf WL) where
 irrefl x:=by rw[ltN];exact F1 _
 trans x y z h1 h2:=by rw[ltN] at *;exact DT _ _ _ h1 h2
 ntrans x y z h1 h2:=by rw[ltN] at *;exact Oh _ _ _ h1 h2
set_option maxRecDepth 100000 in
def ZD(x y:Nm)(W:World):Calls prog 120 #[.agg (nP x).toArray, .agg (nP y).toArray] W λ e w'=>e = .returned (.int .i64 (WL x y))/\∃ q os',w'=grow (W.drewN q) os':=by
 have RQ:=λ W'=>Tryz.strings_Compare ⟨(bH x.1).toArray⟩ ⟨(bH y.1).toArray⟩ W';simp only at RQ;show Calls prog 120 #[.agg #[.string ⟨(bH x.1).toArray⟩, .int .i64 x.2.1, .int .i64 x.2.2.1, .slice x.2.2.2.1 x.2.2.2.2.1 x.2.2.2.2.2], .agg #[.string ⟨(bH y.1).toArray⟩, .int .i64 y.2.1, .int .i64 y.2.2.1, .slice y.2.2.2.1 y.2.2.2.2.1 y.2.2.2.2.2]] W _;unfold WL;generalize Lib.compareBytes (bH x.1) (bH y.1)=r at RQ ⊢;go_enter Tryz.func120,Tryz.ntmps120;go_wp2_with (go_at_call 121;refine (RQ _).mono ?_;rintro e w' ⟨rfl,rfl⟩);go_ret;exact⟨rfl,0,_,by rw[alloc_eq_grow,alloc_eq_grow,grow_grow];rfl⟩
def a3D:∀ args w,(callFunc 120 args).run prog w = .ok (.enter 120 args) w:=enters_of Tryz.func120 (by kernel_rfl) rfl
def a7w:∀ w,(isAgg (167)).run prog w = .ok true w:=Tryz.isAgg167
def a9o:∀ w,(Go.sizeOf (167)).run prog w = .ok 4 w:=Tryz.sizeOf167
def Xc(w:World)(os:Array Obj)(k:Nat)(h:k<w.heap.size):(grow w os).heap[k]?=w.heap[k]?:=by
 unfold grow;simp only;rw[Array.getElem?_append_left h]
def V2(w:World)(dw off n:Nat)(d:Array Nm)(os:Array Obj):bK (λ b=>b=dw) w (sortWorldK nP 4 w dw off n d os):=by
 refine⟨rfl,rfl,rfl,size_sortWorldK_c _ _ _ _ _ _ _ _,λ b hb dD=>?_⟩;unfold sortWorldK;rw[Xc _ _ _ (by rw[size_putRowK];exact hb)];unfold putRowK putRow mapBlock;simp only[Sort.ahead];rw[Array.getElem?_modify,if_neg λ e=>dD e.symm]
def YL{w0 w:World}{S:Nat->Prop}{gl cl:Nat}{T:List Nm}(h:NmX w0 S w (.slice (some ⟨gl,0,none⟩) T.length cl) T):HoldsK nP 4 w gl 0 T.toArray:=by
 intro j hj;rw[size_flatK] at hj;have hj:j<T.length * 4:=by simpa using hj
 obtain⟨cur,hc⟩:∃ cur,w.heap[gl]?=some (.cells cur 167 (0,0)):=by
  rcases h.own.2 with ⟨e,_⟩|⟨g',c',cur,e,_,h2,_⟩
  .cases e
  .cases e;exact⟨cur,h2⟩
 have hi:j / 4<T.length:=by omega
 refine⟨?_,Ta hc⟩;have lY:=h.own.cells (g:=gl) rfl j (id ((flatK nP 4 T.toArray)[j]!)) (by
  have:=RH T (j / 4) (j % 4) _ (List.getElem?_eq_getElem hi) (by omega);rw[show j / 4 * 4+j % 4=j by omega] at this;rw[this,get_flatK _ _ _ _ (by simpa using hj)];have e:T.toArray[j / 4]! = T[j / 4]:=getElem!_pos T.toArray (j / 4) (by simpa using hi);rw[e];have hl:j % 4<(nP T[j / 4]).length:=by rw[tf];omega
  simp[hl])
 simpa [Addr.add_lit] using lY
def Xh{w:World}{gl:Nat}{d:Array Nm}(h:HoldsK nP 4 w gl 0 d)(i:Nat)(t:Nm)(ht:d.toList[i]?=some t):bo w gl (i * 4) (nP t):=by
 intro q v hv;have hq:q<4:=by have:=(b1h.1 hv).1;rwa [tf] at this
 have hi:i<d.size:=by have:=(List.getElem?_eq_some_iff.1 ht).1;simpa using this
 have:=(h (i * 4+q) (by rw[size_flatK];omega)).1;rw[get_flatK _ _ _ _ (by omega),show (i * 4+q) / 4=i by omega,show (i * 4+q) % 4=q by omega] at this;have e:d[i]! = t:=by
  have h1:d[i]?=some t:=by simpa using ht
  rw[getElem!_pos d i hi];exact b1Y ((b1L hi).symm.trans h1)
 rw[e] at this;have h2:(nP t)[q]! = v:=by simp[hv]
 rw[h2] at this;simpa using this
def a0o{T:List Nm}{d':Array Nm}{M:List J}(hM:T.map (·.1)=M)(hg:kl M)(hp:PermIn 0 T.toArray.size T.toArray d')(hs:SortedIn (ltOf WL) 0 T.toArray.size d'):d'.toList.map (·.1)=xJ M/\d'.toList.Perm T:=by
 obtain⟨h1,_,h3⟩:=hp;have h3:d'.toList.Perm T:=by
  have e1:T.toArray.extract 0 T.toArray.size=T.toArray:=by simp
  have e2:d'.extract 0 T.toArray.size=d':=by rw[<-h1];simp
  rw[e1,e2] at h3;simpa using h3
 refine⟨a3d M _ hg (by rw[<-hM];exact h3.map _) ?_,h3⟩;unfold FH;rw[List.pairwise_map,List.pairwise_iff_getElem];intro i j hi hj rC;have:=hs i j (Nat.zero_le _) rC (by rw[<-h1];simpa using hj);rw[ltN] at this;have e1:d'[i]! = d'.toList[i]:=getElem!_pos d' i (by simpa using hi);have e2:d'[j]! = d'.toList[j]:=getElem!_pos d' j (by simpa using hj);rw[e1,e2] at this;exact this
def Vr{w0 w:World}{S Z:Nat->Prop}(hS:iZ w0 S)(hb:Below w0.heap.size w0 w)(hZ:∀ b,Z b->b<w.heap.size) :
  Calls prog 70 #[.int .i64 1, .int .i64 0] w λ e w'=>∃ (k' n':Int) (a':Option Addr) (l' c':Nat),e = .returned (.agg #[.int .i64 k', .int .i64 n', .slice a' l' c'])/\bK (λ _=>False) w w'/\Rd w' (Sx w0 S Z w') (J.mk 1 0 []).aK [.int .i64 k', .int .i64 n', .slice a' l' c']:=by
 refine (gL.2 (1:Int) (0:Int) trivial w _ [_,_] (Li Z hS hb) ⟨⟨rfl,by decide,by decide⟩,⟨rfl,by decide,by decide⟩,ag⟩).mono ?_;rintro e w' ⟨v,S',res,rfl,rfl,eX,vB,yv,hr⟩;obtain⟨cs,rfl,vG⟩:=(show ∃ cs,v = .agg cs.toArray/\Rd w' S' (J.mk 1 0 []).aK cs from hr);obtain⟨_,_,_,_,_,rfl⟩:=Lq vG;exact⟨_,_,_,_,_,rfl,eX,JD hS hb hZ eX vB yv vG⟩
def Wf{w0 w:World}{S Z:Nat->Prop}(hS:iZ w0 S)(hb:Below w0.heap.size w0 w)(hZ:∀ b,Z b->b<w.heap.size)(x y:J)(a0 a1 a2 b0 b1 b2:Value)(rx:Rd w (Sx w0 S Z w) x.aK [a0,a1,a2])(ry:Rd w (Sx w0 S Z w) y.aK [b0,b1,b2])
  (bk:Nat) (W6:w.heap[bk]?=some (.cells #[a0,a1,a2,b0,b1,b2] 28 (0,0))) (h0:w0.heap.size<=bk) (hz:¬ Z bk) :
  Calls prog 35 #[.int .i64 6, .slice (some ⟨bk,0,none⟩) 2 2] w λ e w'=>∃ (k' n':Int) (a':Option Addr) (l' c':Nat),e = .returned (.agg #[.int .i64 k', .int .i64 n', .slice a' l' c'])/\bK (λ _=>False) w w'/\Rd w' (Sx w0 S Z w') (J.mk 6 0 [x,y]).aK [.int .i64 k', .int .i64 n', .slice a' l' c']:=by
 have hc:∀ (o:Nat) (v:Value),(#[a0,a1,a2,b0,b1,b2]:Array Value)[o]?=some v->w.cell? ⟨bk,o,none⟩=some v:=λ o v h=>by simp[World.cell?,W6,h]
 have r1:bo w bk 0 [a0,a1,a2]:=λ j v hj=>by
  have hj3:j<3:=(b1h.1 hj).1;match j,hj3 with
  | 0,_=>exact hc 0 v hj
  | 1,_=>exact hc 1 v hj
  | 2,_=>exact hc 2 v hj
 have r2:bo w bk 3 [b0,b1,b2]:=λ j v hj=>by
  have hj3:j<3:=(b1h.1 hj).1;match j,hj3 with
  | 0,_=>exact hc 3 v hj
  | 1,_=>exact hc 4 v hj
  | 2,_=>exact hc 5 v hj
 have sx:x.aK.size=3:=by cases x;rfl
 have sy:y.aK.size=3:=by cases y;rfl
 have q1:[a0,a1,a2].length=x.aK.size:=by rw[sx];rfl
 have q2:[b0,b1,b2].length=y.aK.size:=by rw[sy];rfl
 have q3:bo w bk (0+x.aK.size) [b0,b1,b2]:=by rw[sx];exact r2
 refine (fH.2 (6:Int) [x,y] trivial w _ [_,_] (Li Z hS hb) ⟨⟨rfl,by decide,by decide⟩,⟨some ⟨bk,0,none⟩,2,rfl,b1d 2,(show (2:Nat)<=maxLen by decide),(show (2:Nat)<=140737488355328 by decide), .inr ⟨bk,0,rfl, .inr ⟨h0,bA W6,hz⟩,⟨[a0,a1,a2],q1,rx,r1⟩,⟨[b0,b1,b2],q2,ry,q3⟩,ag⟩⟩,ag⟩).mono ?_;rintro e w' ⟨v,S',res,rfl,rfl,eX,vB,yv,hr⟩;obtain⟨cs,rfl,vG⟩:=(show ∃ cs,v = .agg cs.toArray/\Rd w' S' (J.mk 6 0 [x,y]).aK cs from hr);obtain⟨_,_,_,_,_,rfl⟩:=Lq vG;exact⟨_,_,_,_,_,rfl,eX,JD hS hb hZ eX vB yv vG⟩
def FP{a:Act}{w:World}{b:Nat}{cs:List Value}{t:TypeId}(h4:a.tmps.getD 4 undef = .pointer (some ⟨b,0,none⟩))(hb:w.heap[b]?=some (.cells cs.toArray t (0,0)))(hl:cs.length=3)(hd:a.defers=[])
  {R:Ending->World->Prop} (hR:R (.returned (.agg cs.toArray)) w):bodyPost prog Tryz.f97 R .ret a w:=by
 refine b4F ?_ hd hR;have cE:(Instr.loadAt 28 (.pointer (some ⟨b,0,none⟩))).run prog w = .ok (.agg cs.toArray) w:=gY (DV (l:=[]) (wr:=[]) (cl:=[]) (ro:=[]) trivial) (T:=28) (τ := .st .expr) rfl (λ j v hj=>by simp[World.cell?,hb,hj]) hl;simp only[Instr.loadAt,Instr.sureAddr,b1j,b1k,b1c] at cE;rw[nC,b2A];simp only[b1j,b4k,Tryz.f97,b3e,List.mapM_nil,lI,h4,asAddr,b1k,b1c,cE];rfl
set_option maxRecDepth 100000 in
def Rj(w:World)(S:Nat->Prop)(hS:iZ w S)(x y:J)(hx:aA x=true)(hy:aA y=true)(hn:ar x+ar y<=7000)(cx cy:List Value)(rx:Rd w S x.aK cx)(ry:Rd w S y.aK cy) :
  Calls prog 97 #[.agg cx.toArray, .agg cy.toArray] w λ e w'=>∃ cs,e = .returned (.agg cs.toArray)/\Rd w' (Sx w S (λ _=>False) w') (JA x y).aK cs/\bK (λ _=>False) w w':=by
 obtain⟨k1,n1,a1,l1,p1,rfl⟩:=Lq rx;obtain⟨k2,n2,a2,l2,p2,rfl⟩:=Lq ry;have hmk:=TI (T:=164);have X1:∃ W,W=((((w.alloc (.cells #[.int .i64 k1, .int .i64 n1, .slice a1 l1 p1] 28)).alloc (.cells #[.int .i64 k2, .int .i64 n2, .slice a2 l2 p2] 28)).alloc (.cells #[.int .i64 0, .int .i64 0, .slice none 0 0] 28)).alloc (.cells #[] 167)).alloc (.map #[] 0):=⟨_,rfl⟩;obtain⟨W,hW⟩:=X1;have B0:Below w.heap.size w W:=by
  rw[hW];exact (((((b2Q _ w).alloc (b1d _) _).alloc (by simp) _).alloc (by simp;omega) _).alloc (by simp;omega) _).alloc (by simp;omega) _
 have Wz:W.heap.size=w.heap.size+5:=by rw[hW];simp
 obtain⟨e1,e2,e3,e4,e5⟩:=a3w w (.cells #[.int .i64 k1, .int .i64 n1, .slice a1 l1 p1] 28) (.cells #[.int .i64 k2, .int .i64 n2, .slice a2 l2 p2] 28) (.cells #[.int .i64 0, .int .i64 0, .slice none 0 0] 28) (.cells #[] 167) (.map #[] 0);rw[<-hW] at e1 e2 e3 e4 e5;go_enter Tryz.func97,Tryz.ntmps97;go_upto_region 3 with fail;rw[<-hW];clear hW hmk;have b1:w.heap.size<W.heap.size:=bA e1;have b2:w.heap.size+1<W.heap.size:=bA e2;obtain⟨⟨q0,q1,q2⟩,_,_,_⟩:=qJ e1;obtain⟨⟨r0,r1,r2⟩,_,_,_⟩:=qJ e2;have l0:HM w S W.heap.size W.drew (.slice none 0 0) [] []:=⟨B0.drew,B0.size,b1d _,⟨rfl, .inl ⟨rfl,rfl⟩⟩,rfl⟩;have t0:eV []=0:=rfl;have gn:kl []:=λ _ h=>by cases h
 obtain⟨g1,t1⟩:=OI _ x (b1b _) hx [] gn;obtain⟨g2,t2⟩:=OI _ y (b1b _) hy _ g1;go_wp2_with fail;go_region_held3 (λ w'=>w'.cell? ⟨w.heap.size,0,none⟩=some (.int .i64 k1)/\w'.cell? ⟨w.heap.size,1,none⟩=some (.int .i64 n1)/\w'.cell? ⟨w.heap.size,2,none⟩=some (.slice a1 l1 p1)/\w'.cell? ⟨w.heap.size+1,0,none⟩=some (.int .i64 k2)/\w'.cell? ⟨w.heap.size+1,1,none⟩=some (.int .i64 n2)/\w'.cell? ⟨w.heap.size+1,2,none⟩=some (.slice a2 l2 p2)) (go_keep)
  (first
   | (
     go_at_call_of 118 k1
     refine (Ip w S hS W.heap.size _ x (b1b _) hx _ (.slice none 0 0) [] [] _ l0 rx gn (by omega)).mono ?_
     rintro e w2 ⟨v1,L1,he,l1,f1⟩
     subst he
     have m1:∀ k,k<W.heap.size->w2.heap[k]?=W.heap[k]?:=λ k hk=>f1.g.block k hk (by simp[Value.ownBlock])
     obtain⟨⟨q3,q4,q5⟩,_,_,_⟩:=qJ ((m1 _ b1).trans e1)
     obtain⟨⟨r3,r4,r5⟩,_,_,_⟩:=qJ ((m1 _ b2).trans e2))
   | (
     go_at_call_of 118 k2
     refine (Ip w S hS W.heap.size _ y (b1b _) hy _ v1 _ L1 _ l1 ry g1 (by omega)).mono ?_
     rintro e w3 ⟨v2,L2,he,l2,f2⟩
     subst he
     have m2:∀ k,k<W.heap.size->w3.heap[k]?=W.heap[k]?:=λ k hk=>(f2.g.block k (b0V hk f1.g.size) (λ e=>(f1.own k e.symm).elim (λ q=>by simp[Value.ownBlock] at q) λ q=>by have q:W.heap.size<=k:=q;omega)).trans (m1 k hk)
     obtain⟨⟨q6,q7,q8⟩,_,_,_⟩:=qJ ((m2 _ b1).trans e1)
     obtain⟨⟨r6,r7,r8⟩,_,_,_⟩:=qJ ((m2 _ b2).trans e2)
     obtain⟨ad,cp,rfl,hFL⟩:=a0g l2.own))
 obtain⟨iN,hN,hN0,hN1,hN2⟩:=b4Y a6E;have hdk:=a3B x y hx hy;have hsu:=a3j x y hx hy;have Z6:JA x y=l9 (xJ (dB y (dB x []))):=rfl;have a5A:=l2.rd;have a0Q:=l2.cW;have s3:=l2.bw;have hFg:=g2;have hFt:eV (yj y (yj x []))<=7002:=by omega
 have f3:=(m2 _ (bA e3)).trans e3;have f4:=(m2 _ (bA e4)).trans e4;have f5:=(m2 _ (bA e5)).trans e5;clear t1 t2 g1 g2 t0 gn q0 q1 q2 r0 r1 r2 q3 q4 q5 r3 r4 r5 q6 q7 q8 r6 r7 r8 l0 e1 e2 e3 e4 e5 f1 f2 m1 l1 l2 b1 b2;generalize yj y (yj x [])=FL at *
 have hFn:FL.length<=7002:=by have:eV FL=cV ar FL+FL.length:=rfl;omega
 rename_i a6p;clear a6p;go_wp2_with fail;go_loopw [5,20] (λ vl i wr=>∃ (k:Nat) (T:List Nm) (g c:Nat),i = .int .i64 k/\k<=FL.length/\T.map (·.1)=vA FL k/\vl = .slice (some ⟨g,0,none⟩) T.length c/\NmX w S wr vl T/\N0 wr (w.heap.size+1+1+1+1) (vA FL k) k /\
   HI (w.heap.size+1+1+1) (w.heap.size+1+1+1+1) w3 wr/\(g=w.heap.size+1+1+1\/w3.heap.size<=g)) (λ vl i wr=>FL.length - kN i)
 .refine⟨0,[],w.heap.size+1+1+1,0,rfl,b1G _,rfl,rfl,⟨⟨rfl, .inr ⟨w.heap.size+1+1+1,0,#[],rfl,by omega,f4,b1d _,by simp[maxLen],rfl,rfl⟩⟩,λ t ht=>by cases ht⟩,N0.none f5,HI.refl _ _ _, .inl rfl⟩
 obtain⟨k,T,gl,cl,rfl,hk,hT,rfl,QP,hSe,UX,QU⟩:=hrel;by_cases bz:k<FL.length
 .obtain⟨z,hz⟩:∃ z,FL[k]?=some z:=⟨_,b1a bz⟩;have hgz:aA z=true:=hFg z (b1y hz);have hnz:ar z<=9000:=by
   have:ar z<=cV ar FL:=by
    obtain⟨a,b,rfl⟩:=b4m (b1y hz);rw[zg];simp[cV];omega
   have:eV FL=cV ar FL+FL.length:=rfl;omega
  have U9:=Um z hgz hnz;have hdz:=Ov FL k z hz;have hdg:=Cr FL hFg k;have hdl:=SV FL k;obtain⟨g,cur,rfl,hgW,nX,hgt⟩:=hFL.resolve_left (by omega);have a8N:wr.heap[g]?=some (.cells cur 28 (0,0)):=(UX.block g (bA nX) (by omega) (by omega)).trans nX;obtain⟨c0,c1,c2,hcz,hrz⟩:=DA a8N hgt a5A k z hz;obtain⟨zk,zn,za,zl,zc,hce⟩:=Lq hrz;simp only[b0O,b1i] at hce;obtain⟨rfl,rfl,rfl⟩:=hce;have z0:wr.cell? ⟨g,k * 3,none⟩=some (.int .i64 zk):=hcz 0 _ rfl;have z1:wr.cell? ⟨g,k * 3+1,none⟩=some (.int .i64 zn):=hcz 1 _ rfl;have z2:wr.cell? ⟨g,k * 3+2,none⟩=some (.slice za zl zc):=hcz 2 _ rfl;have bk0:(0:Int)<=(k:Int):=by omega
  have bk1:(k:Int)<(FL.length:Int):=by omega
  have Og:Below w.heap.size w wr:=UX.cW a0Q (b1d _) (by omega) (by omega);have srw:=UX.size;go_upto_region 6 with fail;have n4:=b2g wr (.cells #[.int .i64 zk, .int .i64 zn, .slice za zl zc] 28);have b4:Below wr.heap.size wr (wr.alloc (.cells #[.int .i64 zk, .int .i64 zn, .slice za zl zc] 28)):=(b2Q _ wr).alloc (b1d _) _;have sz4:(wr.alloc (.cells #[.int .i64 zk, .int .i64 zn, .slice za zl zc] 28)).heap.size=wr.heap.size+1:=by simp
  generalize wr.alloc (.cells #[.int .i64 zk, .int .i64 zn, .slice za zl zc] 28)=w4 at *
  have a0P:Below w.heap.size w w4:=Og.trans (b4.mono Og.size);obtain⟨⟨o0,o1,o2⟩,_,_,_⟩:=qJ n4;go_wp2_with (go_at_call 78;refine (JH z w4 S (λ b hb=>b0V (hS.1 b hb) a0P.size) hgz U9 _ (Y4 hS a0P hrz)).mono ?_);rintro e w5 ⟨he,b5⟩;subst he;have b45:Below wr.heap.size wr w5:=b4.trans (b5.mono (by omega));have a9L:Below w.heap.size w w5:=Og.trans (b45.mono Og.size);have n5:=(b5.block _ (bA n4)).trans n4;obtain⟨⟨m0,m1,m2'⟩,_,_,_⟩:=qJ n5;have LU:HI (w.heap.size+1+1+1) (w.heap.size+1+1+1+1) w3 w5:=UX.trans (HI.of b45);have b0H:w.heap.size+1+1+1+1<w3.heap.size:=bA f5;have a4W:N0 w5 (w.heap.size+1+1+1+1) (vA FL k) k:=hSe.aM (b1d _) (b45.block _ (by omega));have z7:=QP.own.kept (yr b45) (.inr (by simp[Value.ownBlock]));have hs5:=b5.size;obtain⟨Ks,yz⟩:=a4W.ai z U9 hgz hdg (by omega);rcases b1C ((vA FL k).any λ y=>iM y z) with ha|ha
  .rw[ha] at Ks;go_wp2;refine⟨⟨k+1,T,gl,cl,by first|rfl|simp,bz,?_,rfl,⟨z7,QP.rd⟩,?_,LU,QU⟩,?_⟩
   .rw[hT,hdz,Ie,b0T ha]
   .rw[hdz,Ie,b0T ha];exact a4W.aM (Nat.le_succ _) rfl
   .simp only[kN];omega
  .rw[ha] at Ks;obtain⟨w6,b0G,a8v,u1,u2,u3,u4,u5⟩:=yz ha;have n6:=(u5 wr.heap.size (by omega)).trans n5;obtain⟨⟨m3,m4,m5⟩,_,_,_⟩:=qJ n6;have hg6:w5.grownBy w6 (some (w.heap.size+1+1+1+1)):=⟨u1,u2,u3,by omega,λ q h1 h2=>u5 q λ e=>h2 (by rw[e])⟩;have Xi:=z7.kept hg6 (.inr (by simp[Value.ownBlock];omega));have Tq:=Xi.alloc (.cells #[.string ⟨(bH z).toArray⟩, .int .i64 zk, .int .i64 zn, .slice za zl zc] 167);have hTl:(vA FL k).length=T.length:=by rw[<-hT,b1F]
   have hu4:w5.heap.size=w6.heap.size:=u4.symm;clear u4;go_wp2_with (at_builtin;refine xa rfl _ _ 163 rfl w.heap.size 167 iN _ 4 56 Tryz.underlying163 hN hN0 hN1 hN2 rfl (by decide) _ T.length _ rfl Tq ⟨w6.heap.size,0,none⟩ 1 1 [.string ⟨(bH z).toArray⟩, .int .i64 zk, .int .i64 zn, .slice za zl zc] (by first|rfl|simp) (by rfl) (b4e (cs := #[.string ⟨(bH z).toArray⟩, .int .i64 zk, .int .i64 zn, .slice za zl zc]) (t:=167) (fr:=(0,0)) (b2g w6 _)) (by simp[Value.oneCell']) (by simp[maxLen];omega) (by omega) (by simp;omega) ?_);intro v' w7 dM dr Km iU;go_wp2;rcases dM.2 with ⟨e,_⟩|⟨g',c',b0s,rfl,o1',o2',o3',o4',o5',o6'⟩
   .exact (iU e).elim
   have b0F:w6.heap.size+1<=w7.heap.size:=by simpa using dr.size
   have a4K:∀ q,q<w6.heap.size->q≠gl->w7.heap[q]?=w6.heap[q]?:=λ q h1 h2=>(dr.block q (by simp;omega) (λ e=>h2 (b1Y e))).trans (b2a _ _ _ h1);have b0x:gl<w5.heap.size:=(Jm z7 gl rfl).2;refine⟨⟨k+1,T++[(z,zk,zn,za,zl,zc)],g',c',by first|rfl|simp,bz,?_,by simp,⟨?_,λ t ht=>?_⟩,?_,?_,?_⟩,?_⟩
   .rw[hdz,Ie,b0N (by rw[ha];decide),b2b,hT];rfl
   .rw[b0Y,List.flatMap_append];exact dM
   .rcases b0K.1 ht with q|q
    .exact QP.rd t q
    .rw[b0Z] at q;rw[q];exact hrz
   .rw[hdz,Ie,b0N (by rw[ha];decide)];exact a8v.aM (b1d _) (a4K _ (by omega) (by omega))
   .exact⟨dr.os.trans (u1.trans LU.os),dr.tape.trans (u2.trans LU.tape),dr.output.trans (u3.trans LU.output),by have:=LU.size;omega,λ q h1 h2 h3=>(a4K q (by have:=LU.size;omega) (by rintro rfl;exact QU.elim (λ e=>h2 e) λ e=>by omega)).trans ((u5 q h3).trans (LU.block q h1 h2 h3))⟩
   .rcases Km with e|e
    .have e:g'=gl:=by simpa [Value.ownBlock] using e
     rw[e];exact QU
    .have e:g'=w6.heap.size+1:=by simpa [Value.ownBlock] using e
     exact .inr (by have:=LU.size;omega)
   .simp only[kN];omega
 .have Xf:k=FL.length:=by omega
  have hM:=hdk k (by omega);rw[hM] at hT;have hMg:=hM ▸ Cr FL hFg k;clear hdk hSe hFL a5A hFg hFt;have hTl:T.length<=7002:=by
   have h1:T.length=(dB y (dB x [])).length:=by rw[<-hT,b1F]
   have h2:=SV FL k;rw[hM] at h2;omega
  have OV:T.toArray.size<4611686018427387904:=by rw[b4r];omega
  have RQ:Calls prog 119 #[.slice (some ⟨gl,0,none⟩) T.length cl, .func (.func 120) #[] #[]] wr λ e w'=>e = .returned (.tuple #[])/\∃ d' n os,PermIn 0 T.toArray.size T.toArray d'/\SortedIn (ltOf WL) 0 T.toArray.size d'/\w'=sortWorldK nP 4 wr gl 0 n d' os :=
   AnyQ.slices_SortFunc Tryz.a4p 4 a7w a9o nP tf ZK WL a9v 120 #[] gl 0 cl T.toArray wr a3D (λ _ _ _ _ x y=>ZD x y _) (YL QP) (Jm QP.own gl rfl).2 OV
  go_wp2_with (go_at_call 119;refine RQ.mono ?_);rintro e w4 ⟨he,d',nn,os,hp,Z5,Vh⟩;subst he;obtain⟨hsr,hpm⟩:=a0o hT hMg hp Z5;have a1G:=(Jm QP.own gl rfl);have U6:bK (λ b=>b=gl) wr w4:=by rw[Vh];exact V2 _ _ _ _ _ _
  have hH4:HoldsK nP 4 w4 gl 0 d':=by rw[Vh];exact holdsK_sortWorldK_c _ _ _ _ _ _ _ _ _ (YL QP) a1G.2 hp.1
  have vE:=λ i t h=>Xh hH4 i t h;have a5m:∀ t∈d'.toList,Rd w S t.1.aK (RD t):=λ t ht=>QP.rd t (hpm.mem_iff.1 ht);have hDl:d'.toList.length=T.length:=hpm.length_eq;have Og:Below w.heap.size w wr:=UX.cW a0Q (b1d _) (by omega) (by omega);have b4:Below w.heap.size w w4:=Og.trans ⟨U6.os,U6.tape,U6.output,U6.size,λ q hq=>U6.block q (b0V hq Og.size) (by omega)⟩;have hw3:=bA f3;have hLs:=UX.size;have z4:w4.heap[w.heap.size+1+1]?=some (.cells #[.int .i64 0, .int .i64 0, .slice none 0 0] 28 (0,0)):=(U6.block _ (by omega) (by omega)).trans ((UX.block _ hw3 (by omega) (by omega)).trans f3);have a8M:gl<w4.heap.size:=b0V a1G.2 U6.size;have b0y:gl≠w.heap.size+1+1:=by omega
  have b0u:T.length<=cl:=by
   rcases QP.own.2 with ⟨e,_⟩|⟨_,_,_,e,_,_,h,_⟩
   .cases e
   .cases e;exact h
  clear RQ Vh hH4 hp Z5 QP hpm U6 hLs a1G;generalize d'.toList=D at *
  have hZS:xJ (dB y (dB x []))=D.map (·.1):=hsr.symm;rw[hZS] at hsu Z6;generalize dB y (dB x [])=M at *
  clear hM hsr hZS hT hMg UX f3 f4 f5 m2;have ZW:∀ b,b=w.heap.size+1+1->w.heap.size<=b:=λ b h=>by omega
  have lt4:=bA z4;go_upto_region 12 with fail;generalize hnT:T.length=n at *
  by_cases hn0:n=0
  .subst hn0;have e0:D=[]:=List.eq_nil_of_length_eq_zero hDl;go_wp2_with (go_at_call 70;refine (Vr (Z:=λ b=>b=w.heap.size+1+1) hS b4 (λ b hb=>by have hb:b=w.heap.size+1+1:=hb;omega)).mono ?_);rintro e w5 ⟨ek,en,ea,em,ec,he,O3,r5⟩;subst he;have z5:=(O3.block _ lt4 id).trans z4;have b5:=b4.trans (qm O3 b4.size);obtain⟨⟨k0,k1,k2⟩,g0,g1,g2⟩:=qJ z5;go_wp2;obtain⟨z6,o6⟩:=Qo (.int .i64 ek) (.int .i64 en) (.slice ea em ec) z5;refine FP (cs:=[.int .i64 ek, .int .i64 en, .slice ea em ec]) rfl z6 rfl rfl ?_;refine⟨[.int .i64 ek, .int .i64 en, .slice ea em ec],rfl,?_,b5.os,b5.tape,b5.output,by simpa using b5.size,λ b hb _=>(o6 b (by omega)).trans (b5.block b hb)⟩;rw[Z6,e0];exact qC hS b5 (by simp) ZW (λ b _ h=>o6 b h) (λ b _ h=>h.elim) r5
  .obtain⟨t0,ht0⟩:∃ t,D[0]?=some t:=⟨_,List.getElem?_eq_getElem (by omega)⟩;have c0:=vE 0 t0 ht0;have a0:w4.cell? ⟨gl,0,none⟩=some (.string ⟨(bH t0.1).toArray⟩):=by simpa using c0 0 _ rfl
   have a1':w4.cell? ⟨gl,1,none⟩=some (.int .i64 t0.2.1):=by simpa using c0 1 _ rfl
   have a2':w4.cell? ⟨gl,2,none⟩=some (.int .i64 t0.2.2.1):=by simpa using c0 2 _ rfl
   have a3':w4.cell? ⟨gl,3,none⟩=some (.slice t0.2.2.2.1 t0.2.2.2.2.1 t0.2.2.2.2.2):=by simpa using c0 3 _ rfl
   have bn0:(0:Int)<(n:Int):=by omega
   have bn1:(1:Int)<=(n:Int):=by omega
   have bn2:(n:Int)<=(cl:Int):=by omega
   go_upto_region 15 with fail;have r0':Rd w S t0.1.aK (RD t0):=a5m t0 (b1y ht0);have n4:=b2g w4 (.cells #[.int .i64 t0.2.1, .int .i64 t0.2.2.1, .slice t0.2.2.2.1 t0.2.2.2.2.1 t0.2.2.2.2.2] 28);have m6:∀ b,b<w4.heap.size->(w4.alloc (.cells #[.int .i64 t0.2.1, .int .i64 t0.2.2.1, .slice t0.2.2.2.1 t0.2.2.2.2.1 t0.2.2.2.2.2] 28)).heap[b]?=w4.heap[b]?:=λ b hb=>b2a _ _ _ hb;have b6:Below w.heap.size w (w4.alloc (.cells #[.int .i64 t0.2.1, .int .i64 t0.2.2.1, .slice t0.2.2.2.1 t0.2.2.2.2.1 t0.2.2.2.2.2] 28)):=b4.alloc (by omega) _;have s6:(w4.alloc (.cells #[.int .i64 t0.2.1, .int .i64 t0.2.2.1, .slice t0.2.2.2.1 t0.2.2.2.2.1 t0.2.2.2.2.2] 28)).heap.size=w4.heap.size+1:=by simp
   generalize w4.alloc (.cells #[.int .i64 t0.2.1, .int .i64 t0.2.2.1, .slice t0.2.2.2.1 t0.2.2.2.2.1 t0.2.2.2.2.2] 28)=w6 at *
   have z6:=(m6 _ lt4).trans z4;have a8H:∀ i t,D[i]?=some t->bo w6 gl (i * 4) (nP t):=λ i t h=>(vE i t h).aM (m6 _ a8M);have r6:Rd w6 (Sx w S (λ b=>b=w.heap.size+1+1\/b=w4.heap.size) w6) (l9 ((D.map (·.1)).take 1)).aK [.int .i64 t0.2.1, .int .i64 t0.2.2.1, .slice t0.2.2.2.1 t0.2.2.2.2.1 t0.2.2.2.2.2]:=by
    have:l9 ((D.map (·.1)).take 1)=t0.1:=by
     match D,ht0 with
     | t::_,ht0=>cases ht0;rfl
    rw[this];exact Uh _ hS b6 r0'
   clear vE m6 a0 a1' a2' a3' c0 z4;generalize hT0:w4.heap.size=T0 at *
   go_cut [50,51,52] (λ s50 s51 s52 wx=>wx=w6/\s51 = .int .i64 ((n - 1:Nat):Int)/\s52 = .int .i64 0/\∃ o c,s50 = .slice (some ⟨gl,o,none⟩) (n - 1) c/\(n - 1=0\/o=4));case first =>
    have e1:(n:Int) - 1=((n - 1:Nat):Int):=by omega
    by_cases Kp:cl=1
    .subst Kp;have Xg:n=1:=by omega
     subst Xg;go_wp2;go_meet;exact⟨rfl,rfl,rfl,_,_,rfl, .inl (by simp)⟩
    .go_wp2;go_meet;exact⟨rfl,rfl,rfl,_,_,rfl, .inr rfl⟩
   case rest =>
    obtain⟨hwc,rfl,rfl,o,c,rfl,ho⟩:=hcut;cases hwc;go_wp2;go_loopw [52] (λ i wr=>∃ (j:Nat) (k' n':Int) (a':Option Addr) (l' c':Nat),i = .int .i64 j/\1+j<=n/\w6.grownBy wr (some T0)/\wr.heap[T0]?=some (.cells #[.int .i64 k', .int .i64 n', .slice a' l' c'] 28 (0,0)) /\
     Rd wr (Sx w S (λ b=>b=w.heap.size+1+1\/b=T0) wr) (l9 ((D.map (·.1)).take (j+1))).aK [.int .i64 k', .int .i64 n', .slice a' l' c']) (λ i wr=>n - kN i)
    .exact⟨0,_,_,_,_,_,rfl,by omega,⟨rfl,rfl,rfl,b1d _,λ _ _ _=>rfl⟩,n4,r6⟩
    obtain⟨j,ak,an,aa,al,ac,rfl,hjn,nX,oF,QZ⟩:=hrel;have br:RowKit.Below w.heap.size w wr:=b6.grown nX (by omega) (λ q e=>by have e':T0=q:=b1Y e;omega);have ltr:=bA oF;have szr:=nX.size;by_cases hjl:1+j<n
    .have ho4:o=4:=ho.resolve_left (by omega);subst ho4;obtain⟨t,ht⟩:∃ t,D[j+1]?=some t:=⟨_,b1a (by omega)⟩;have hct:=(a8H (j+1) t ht).aM (nX.block gl (by omega) (λ e=>by have e':gl=T0:=b1Y e;omega));have y0:wr.cell? ⟨gl,4+j * 4,none⟩=some (.string ⟨(bH t.1).toArray⟩):=by have:=hct 0 _ rfl;rwa [show (j+1) * 4+0=4+j * 4 by omega] at this
     have y1:wr.cell? ⟨gl,4+j * 4+1,none⟩=some (.int .i64 t.2.1):=by have:=hct 1 _ rfl;rwa [show (j+1) * 4+1=4+j * 4+1 by omega] at this
     have y2:wr.cell? ⟨gl,4+j * 4+2,none⟩=some (.int .i64 t.2.2.1):=by have:=hct 2 _ rfl;rwa [show (j+1) * 4+2=4+j * 4+2 by omega] at this
     have y3:wr.cell? ⟨gl,4+j * 4+3,none⟩=some (.slice t.2.2.2.1 t.2.2.2.2.1 t.2.2.2.2.2):=by have:=hct 3 _ rfl;rwa [show (j+1) * 4+3=4+j * 4+3 by omega] at this
     have bj0:(0:Int)<=(j:Int):=by omega
     have bj1:(j:Int)<((n - 1:Nat):Int):=by omega
     obtain⟨⟨v0,v1',v2⟩,_,_,_⟩:=qJ oF;go_upto_region 18 with fail;have rt:Rd w S t.1.aK (RD t):=a5m t (b1y ht);have n7:=b2g wr (.cells #[.string ⟨(bH t.1).toArray⟩, .int .i64 t.2.1, .int .i64 t.2.2.1, .slice t.2.2.2.1 t.2.2.2.2.1 t.2.2.2.2.2] 167);have b7:RowKit.Below w.heap.size w (wr.alloc (.cells #[.string ⟨(bH t.1).toArray⟩, .int .i64 t.2.1, .int .i64 t.2.2.1, .slice t.2.2.2.1 t.2.2.2.2.1 t.2.2.2.2.2] 167)):=br.alloc (by omega) _;have k7:bK (λ _=>False) wr (wr.alloc (.cells #[.string ⟨(bH t.1).toArray⟩, .int .i64 t.2.1, .int .i64 t.2.2.1, .slice t.2.2.2.1 t.2.2.2.2.1 t.2.2.2.2.2] 167)):=⟨rfl,rfl,rfl,by simp,λ b hb _=>b2a _ _ _ hb⟩;have s7:(wr.alloc (.cells #[.string ⟨(bH t.1).toArray⟩, .int .i64 t.2.1, .int .i64 t.2.2.1, .slice t.2.2.2.1 t.2.2.2.2.1 t.2.2.2.2.2] 167)).heap.size=wr.heap.size+1:=by simp
     generalize wr.alloc (.cells #[.string ⟨(bH t.1).toArray⟩, .int .i64 t.2.1, .int .i64 t.2.2.1, .slice t.2.2.2.1 t.2.2.2.2.1 t.2.2.2.2.2] 167)=w7 at *
     have q0:w7.cell? ⟨wr.heap.size,1,none⟩=some (.int .i64 t.2.1):=by simp[World.cell?,n7]
     have q1:w7.cell? ⟨wr.heap.size,2,none⟩=some (.int .i64 t.2.2.1):=by simp[World.cell?,n7]
     have q2:w7.cell? ⟨wr.heap.size,3,none⟩=some (.slice t.2.2.2.1 t.2.2.2.2.1 t.2.2.2.2.2):=by simp[World.cell?,n7]
     have t7:=(k7.block _ ltr id).trans oF;obtain⟨⟨v3,v4,v5⟩,_,_,_⟩:=qJ t7;have n8:=b2g w7 (.cells #[.int .i64 ak, .int .i64 an, .slice aa al ac, .int .i64 t.2.1, .int .i64 t.2.2.1, .slice t.2.2.2.1 t.2.2.2.2.1 t.2.2.2.2.2] 28);rw[s7] at n8;have sbr:=br.size;have b8:RowKit.Below w.heap.size w (w7.alloc (.cells #[.int .i64 ak, .int .i64 an, .slice aa al ac, .int .i64 t.2.1, .int .i64 t.2.2.1, .slice t.2.2.2.1 t.2.2.2.2.1 t.2.2.2.2.2] 28)):=b7.alloc (by omega) _;have k8:bK (λ _=>False) w7 (w7.alloc (.cells #[.int .i64 ak, .int .i64 an, .slice aa al ac, .int .i64 t.2.1, .int .i64 t.2.2.1, .slice t.2.2.2.1 t.2.2.2.2.1 t.2.2.2.2.2] 28)):=⟨rfl,rfl,rfl,by simp,λ b hb _=>b2a _ _ _ hb⟩;have s8:(w7.alloc (.cells #[.int .i64 ak, .int .i64 an, .slice aa al ac, .int .i64 t.2.1, .int .i64 t.2.2.1, .slice t.2.2.2.1 t.2.2.2.2.1 t.2.2.2.2.2] 28)).heap.size=w7.heap.size+1:=by simp
     have rr8:=Qu hS b7 k8 (Qu hS br k7 QZ);have ry8:=Uh (λ b=>b=w.heap.size+1+1\/b=T0) hS b8 rt;have hZ8:∀ b,(b=w.heap.size+1+1\/b=T0)->b<(w7.alloc (.cells #[.int .i64 ak, .int .i64 an, .slice aa al ac, .int .i64 t.2.1, .int .i64 t.2.2.1, .slice t.2.2.2.1 t.2.2.2.2.1 t.2.2.2.2.2] 28)).heap.size:=λ b h=>by rw[s8];rcases h with h|h<;>omega
     go_wp2_with (go_at_call 35;refine (Wf (Z:=λ b=>b=w.heap.size+1+1\/b=T0) hS b8 hZ8 _ t.1 _ _ _ _ _ _ rr8 ry8 (wr.heap.size+1) n8 (by omega) (by omega)).mono ?_);intro e w9 fk fn fa fm fc he Xe r9;subst he;have t9:=(Xe.block T0 (by rw[s8];omega) id).trans ((k8.block _ (by omega) id).trans t7);obtain⟨⟨x0,x1,x2⟩,y0',y1',y2'⟩:=qJ t9;have b9:=b8.trans (qm Xe b8.size);go_wp2;obtain⟨z9,o9⟩:=Qo (.int .i64 fk) (.int .i64 fn) (.slice fa fm fc) t9;have s9:=Xe.size;have hj:=L0 (D.map (·.1)) (j+1) t.1 (by omega) (by rw[b2i,ht];rfl);refine⟨⟨j+1,fk,fn,fa,fm,fc,by simp,by omega,⟨Xe.os.trans (k7.os.trans nX.os),Xe.tape.trans (k7.tape.trans nX.tape),Xe.output.trans (k7.output.trans nX.output),by simp;omega,λ q hq dD=>?_⟩,z9,?_⟩,?_⟩
     .have BQ:q<wr.heap.size:=by omega
      exact (o9 q (λ e=>dD (by rw[e]))).trans ((Xe.block q (by rw[s8];omega) id).trans ((k8.block q (by omega) id).trans ((k7.block q BQ id).trans (nX.block q hq dD))))
     .rw[hj];exact qC (Z:=λ b=>b=w.heap.size+1+1\/b=T0) hS b9 (by simp) (λ b h=>by rcases h with h|h<;>omega) (λ b _ hb=>o9 b λ e=>hb (.inr e)) (λ _ _ h=>h) r9
     .simp only[kN];omega
    .have b0A:1+j=n:=by omega
     have bjn:¬ (j:Int)<((n - 1:Nat):Int):=by omega
     have zr:=(nX.block (w.heap.size+1+1) (by omega) (λ e=>by have e':=Option.some.inj e;omega)).trans z6;obtain⟨⟨k0,k1',k2'⟩,g0,g1,g2⟩:=qJ oF;obtain⟨⟨x0,x1,x2⟩,y0,y1,y2⟩:=qJ zr;obtain⟨z9,o9⟩:=Qo (.int .i64 ak) (.int .i64 an) (.slice aa al ac) zr;go_wp2;refine FP (cs:=[.int .i64 ak, .int .i64 an, .slice aa al ac]) rfl z9 rfl rfl ?_;refine⟨[.int .i64 ak, .int .i64 an, .slice aa al ac],rfl,?_,br.os,br.tape,br.output,by simpa using br.size,λ b hb _=>(o9 b (by omega)).trans (br.block b hb)⟩;(try rw[Z6]);rw[show (D.map (·.1)).take (j+1)=D.map (·.1) from List.take_of_length_le (by rw[List.length_map];omega)] at QZ;exact qC (Z:=λ b=>b=w.heap.size+1+1\/b=T0) hS br (by simp) (λ b h=>by rcases h with h|h<;>omega) (λ b _ hb=>o9 b λ e=>hb (.inl e)) (λ b _ h=>h.elim) QZ
def rH:bc:=⟨Bj,[.v (.st .expr), .v (.st .expr)],λ (x:J) (b:J)=>⟨(some (aA x=true/\aA b=true/\ar x+ar b<=7000),[⟨(.st .expr),JA x b⟩])⟩⟩
def GC:bc.Good rH:=by
 refine⟨aH JV rfl (by decide),?_⟩;intro x y hp w S bO hS ha;match bO,ha with
 | [v1,v2],ha =>
  obtain⟨⟨cx,rfl,rx⟩,⟨cy,rfl,ry⟩,_⟩:=ha;refine (Rj w S hS x y hp.1 hp.2.1 hp.2.2 cx cy rx ry).mono ?_;rintro e w' ⟨cs,rfl,hr,hk⟩;exact⟨_,Sx w S (λ _=>False) w',_,rfl,rfl,hk,λ b hb=>⟨λ h=>h.elim id λ h=>by omega, .inl⟩,λ b h=>h.elim (λ h=>b0V (hS.1 b h) hk.size) λ h=>h.2.1,⟨cs,rfl,hr⟩⟩
end
end Go.Proofs.YtofnjfpeimhifaaGreatDoor

namespace Go.Proofs.YtofnjfpeimhifaaGreatDoor
noncomputable section
def a8k(a:Int)(x:J)(h:x.ah=2):true=eC a x:=by rw[<-UI a x (by omega) (by omega) (by omega) (by omega),QD];simp[Ri,h]
def a8j(a:Int)(x:J)(h:x.ah=1):false=eC a x:=by rw[<-UI a x (by omega) (by omega) (by omega) (by omega),QD];simp[Ri,h]
def a8i(a:Int)(x:J)(hg:aA x=true)(h2:¬ x.ah=2)(h8:¬ x.ah=8)(h3:¬ x.ah=3)(h5:¬ x.ah=5)(h6:¬ x.ah=6)(h7:¬ x.ah=7):false=eC a x:=by
 rcases eL x hg with h|h|h|h|h|h|h|h
 .exact a8j a x h
 .exact absurd h h2
 .exact absurd h h3
 .exact a1i a x h
 .exact absurd h h5
 .exact absurd h h6
 .exact absurd h h7
 .exact absurd h h8
noncomputable def Ng(x:J):J:=if ar x<=800 then eu x else J.mk (0:Int) (0:Int) []
noncomputable def cC(a c:Int)(x:J):J:=if (bI a c x).2=true then (bI a c x).1 else J.mk (0:Int) (0:Int) []
def a5o(x:J)(h:¬ 800<ar x):eu x=Ng x:=by rw[Ng,b0T (by omega)]
def Vs(x:J)(h:800<ar x):J.mk (0:Int) (0:Int) []=Ng x:=by rw[Ng,b0N (by omega)]
def AQ{a c:Int}{x:J}(h:(bI a c x).2=true):cC a c x=(bI a c x).1:=by rw[cC,b0T h]
def a4M{a c:Int}{x:J}(h:(bI a c x).2=false):cC a c x=J.mk (0:Int) (0:Int) []:=by rw[cC,b0N (by rw[h];decide)]
structure qe(a c:Int)(x raw:J):Prop where
 e1:Ng raw=cC a c x
 e2:decide (ar raw<=800)=(bI a c x).2
 g:aA raw=true
 n:ar raw<=3000
def qe.of{a c:Int}{x:J}(j:El a c x):qe a c x (jO a c x):=by
 by_cases h:800<ar (jO a c x)
 .have e:=a3b a c x j h;exact⟨by rw[a4M (by rw[e]),Vs _ h],by rw[e];simp;omega,j.g,j.n⟩
 .have e:=a3a a c x j h;exact⟨by rw[AQ (by rw[e]),e,a5o _ h],by rw[e];simp;omega,j.g,j.n⟩
def Yq(a c:Int)(x:J)(hg:aA x=true)(hn:ar x<=1000)(h:x.ah=6)(e:(bI a c (x.U.getD 0 zE)).2=true)(e':(bI a c (x.U.getD 1 zE)).2=true):qe a c x (J.mk 6 0 [cC a c (x.U.getD 0 zE),cC a c (x.U.getD 1 zE)]):=by
 rw[AQ e,AQ e',<-Qd a c x h];exact qe.of (a2Y a c x hg hn h e e')
def SU(a c:Int)(x:J)(hg:aA x=true)(hn:ar x<=1000)(h:x.ah=7)(e:(bI a c (x.U.getD 0 zE)).2=true)(m:eC a (x.U.getD 0 zE)=true)(e':(bI a c (x.U.getD 1 zE)).2=true):qe a c x (J.mk 6 0 [J.mk 7 0 [cC a c (x.U.getD 0 zE),(x.U.getD 1 zE)],cC a c (x.U.getD 1 zE)]):=by
 rw[AQ e,AQ e',<-Hz a c x h m];exact qe.of (Ud a c x hg hn h e (.inr ⟨m,e'⟩))
def SS(a c:Int)(x:J)(hg:aA x=true)(hn:ar x<=1000)(h:x.ah=7)(e:(bI a c (x.U.getD 0 zE)).2=true)(m:eC a (x.U.getD 0 zE)=false):qe a c x (J.mk 7 0 [cC a c (x.U.getD 0 zE),(x.U.getD 1 zE)]):=by
 rw[AQ e,<-Hy a c x h m];exact qe.of (Ud a c x hg hn h e (.inl m))
def Yr(a c:Int)(x:J)(hg:aA x=true)(hn:ar x<=1000)(h:x.ah=8)(e:(bI a c (x.U.getD 0 zE)).2=true):qe a c x (J.mk 7 0 [cC a c (x.U.getD 0 zE),x]):=by
 rw[AQ e,<-Qe a c x h];exact qe.of (a2Z a c x hg hn h e)
structure oT(a c:Int)(x:J):Prop where
 e1:J.mk (0:Int) (0:Int) []=cC a c x
 e2:false=(bI a c x).2
def oT.of{a c:Int}{x y:J}(h:bI a c x=(y,false)):oT a c x:=⟨(a4M (by rw[h])).symm,by rw[h]⟩
structure B5(a c:Int)(x y:J):Prop where
 e1:y=cC a c x
 e2:true=(bI a c x).2
def B5.of{a c:Int}{x y:J}(h:bI a c x=(y,true)):B5 a c x y:=⟨by rw[AQ (by rw[h]),h],by rw[h]⟩
structure a7u(a c:Int)(x:J):Prop where
 g:(bI a c x).2=true->aA (cC a c x)=true
 n:(bI a c x).2=true->ar (cC a c x)<=800
def diT(a c:Int)(x:J)(h:aA x=true):a7u a c x:=by
 have q:=Ld a c x h;exact⟨λ e=>by rw[AQ e];exact q.g e,λ e=>by rw[AQ e];exact q.n e⟩
def ln(n:Nat):bc:=⟨rQ,[.v (.st .expr), .v (.int .i64)],λ (x:J) (atom:Int)=>⟨(some (bG x<n/\aA x=true/\0<=atom/\atom<=4096),[⟨.bool,eC atom x⟩])⟩⟩
def mB:bc:=⟨rQ,[.v (.st .expr), .v (.int .i64)],λ (x:J) (atom:Int)=>⟨(some (aA x=true/\0<=atom/\atom<=4096),[⟨.bool,eC atom x⟩])⟩⟩
def MR(x:J)(atom:Int):Nat->aP:=cw
abbrev wm(n:Nat)(x:J)(atom:Int):Prop:=(let v0:=x.U.getD 1 zE;(x.U.length<=140737488355328 ->
 (aI (1:Int) x.U.length/\((bG v0<n/\aA v0=true/\0<=atom/\atom<=4096)/\(eC atom v0)=(eC atom x)))))
abbrev wo(n:Nat)(x:J)(atom:Int):Prop:=(let v0:=x.U.getD 0 zE;let v1:=bG v0<n/\aA v0=true/\0<=atom/\atom<=4096;let v2:=eC atom v0;(((decide (x.ah=(6:Int)))=true ->
 (x.U.length<=140737488355328 ->
 (aI (0:Int) x.U.length/\(v1/\((v2=false ->
 (wm n x atom))/\(v2=(!false) ->
 true=(eC atom x)))))))/\((decide (x.ah=(6:Int)))=false ->
 (((decide (x.ah=(7:Int)))=true ->
 (x.U.length<=140737488355328 ->
 (aI (0:Int) x.U.length/\(v1/\((v2=true ->
 (wm n x atom))/\(v2=(!true) ->
 false=(eC atom x)))))))/\((decide (x.ah=(7:Int)))=false ->
 false=(eC atom x))))))
abbrev wq(n:Nat)(x:J)(atom:Int):Prop:=(let v0:=(iD x=true/\0<=atom/\atom<=4096)/\(fZ atom x)=(eC atom x);let v1:=decide (x.ah=(3:Int));((v1=true ->
 ((v1=true ->
 v0)/\(v1=false ->
 (wo n x atom))))/\(v1=false ->
 (((decide (x.ah=(5:Int)))=true ->
 v0)/\((decide (x.ah=(5:Int)))=false ->
 (wo n x atom))))))
def KZ(n:Nat)(hE:bu [ln n,xC]):bc.Good (ln (n+1)):=by
 refine⟨aH kM,?_⟩;intro (x:J) (atom:Int) (hp:bG x<n+1/\aA x=true/\0<=atom/\atom<=4096);refine bf [ln n,xC] [] [] [2] hE kM F5 (MR x atom) (let v0:=decide (x.ah=(2:Int));((av x.ah->((v0=true->((v0=true->true=(eC atom x))/\(v0=false->(wq n x atom))))/\(v0=false->(((decide (x.ah=(8:Int)))=true->true=(eC atom x))/\((decide (x.ah=(8:Int)))=false->(wq n x atom)))))))) ?_;obtain⟨hm,hg,h0,h1⟩:=hp;refine λ _=>⟨λ _=>⟨λ _=>?_,λ _=>⟨λ _=>⟨λ _=>⟨?_,?_⟩,λ _=>⟨λ _ _=>⟨?_,?_,λ _ _=>⟨?_,?_,?_⟩,λ _=>?_⟩,λ _=>⟨λ _ _=>⟨?_,?_,λ _ _=>⟨?_,?_,?_⟩,λ _=>?_⟩,λ _=>?_⟩⟩⟩,λ _=>⟨λ _=>⟨?_,?_⟩,λ _=>⟨λ _ _=>⟨?_,?_,λ _ _=>⟨?_,?_,?_⟩,λ _=>?_⟩,λ _=>⟨λ _ _=>⟨?_,?_,λ _ _=>⟨?_,?_,?_⟩,λ _=>?_⟩,λ _=>?_⟩⟩⟩⟩⟩,λ _=>⟨λ _=>?_,λ _=>⟨λ _=>⟨λ _=>⟨?_,?_⟩,λ _=>⟨λ _ _=>⟨?_,?_,λ _ _=>⟨?_,?_,?_⟩,λ _=>?_⟩,λ _=>⟨λ _ _=>⟨?_,?_,λ _ _=>⟨?_,?_,?_⟩,λ _=>?_⟩,λ _=>?_⟩⟩⟩,λ _=>⟨λ _=>⟨?_,?_⟩,λ _=>⟨λ _ _=>⟨?_,?_,λ _ _=>⟨?_,?_,?_⟩,λ _=>?_⟩,λ _=>⟨λ _ _=>⟨?_,?_,λ _ _=>⟨?_,?_,?_⟩,λ _=>?_⟩,λ _=>?_⟩⟩⟩⟩⟩⟩;all_goals try and_intros
 all_goals first|rfl|trivial|omega|((try simp only[b0R,b0Q,aI,b5k,b3C,b5b,b4T,Bool.or_true,b3D,J.eta] at *);first|rfl|omega|exact a8i atom x hg (by omega) (by omega) (by omega) (by omega) (by omega) (by omega)|exact a8k atom x (by omega)|exact a1l atom x (by omega)|exact UI atom x (by omega) (by omega) (by omega) (by omega)|exact NA x hg (by have:=eL x hg;omega)|(have b:=bZ x hg (by omega);first|(have:=b.len;omega)|exact b.g0|exact b.g1|(have:=b.l0;omega)|(have:=b.l1;omega)|(rw[a1j atom x (by omega) b];simp_all;done)|(rw[a1k atom x (by omega) b];simp_all;done)))
def Rs :∀ n,bu [ln n]
 | 0=>⟨⟨aH kM,λ _ _ h=>absurd h.1 (b1x _)⟩,ag⟩
 | n+1=>by
  have ih:=Rs  n;exact⟨KZ n ⟨ih.1,Ki,ag⟩,ag⟩
def uf :bc.Good mB :=
 ⟨aH kM,λ x atom hp=>(Rs  (bG x+1)).1.2 x atom (⟨b1b _,hp⟩)⟩
def jV(n:Nat):bc:=⟨pE,[.v (.st .expr)],λ (x:J)=>⟨(some (bG x<n/\ar x<=1048576),[⟨(.int .i64),(ar x:Int)⟩])⟩⟩
def yF:bc:=⟨pE,[.v (.st .expr)],λ (x:J)=>⟨(some (ar x<=1048576),[⟨(.int .i64),(ar x:Int)⟩])⟩⟩
def KH(x:J):Nat->aP:=(eR 0 (.b (Nat) (λ k=>k<=x.U.length) (λ k=>x.U.length - k) [0,1,2,6] (λ k=>[(9, .aO ⟨(.int .i64),((k:Int):Int)⟩),(3, .aO ⟨(.int .i64),((1+cV ar (x.U.take k):Int):Int)⟩)])) cw)
def Ji(n:Nat)(hE:bu [jV n]):bc.Good (jV (n+1)):=by
 refine⟨aH jR,?_⟩;intro (x:J) (hp:bG x<n+1/\ar x<=1048576);refine bf [jV n] [] [] [1] hE jR Er (KH x) (let v0:=(x.U.length:Int);((x.U.length<=140737488355328->(av v0->((∃ k1:Nat,(k1<=x.U.length/\(((1:Int)=(1+cV ar (x.U.take k1):Int)/\(x.U=x.U/\(v0=v0/\((0:Int)=(k1:Int)/\True))))/\True)))/\(∀ k1:Nat,let v1:=aQ (x.U.getD k1 zE);let v2:=(1+cV ar (x.U.take k1):Int);let v3:=(ar v1:Int);(k1<=x.U.length->(((decide ((k1:Int)<v0))=true->(aI (k1:Int) x.U.length/\((bG v1<n/\ar v1<=1048576)/\(av v3->(av (v2+v3)/\(av ((k1:Int)+(1:Int))/\(∃ k2:Nat,(k2<=x.U.length/\(x.U.length - k2<x.U.length - k1/\(((v2+v3)=(1+cV ar (x.U.take k2):Int)/\(x.U=x.U/\(v0=v0/\(((k1:Int)+(1:Int))=(k2:Int)/\True))))/\True))))))))))/\((decide ((k1:Int)<v0))=false->v2=(ar x:Int)))))))))) ?_;rw[ib x] at hp;have f0:=gf x;have f1:=Eg ar x.U;refine λ _ _=>⟨⟨0,?_,⟨?_,rfl,rfl,?_,ag⟩,ag⟩,λ k1 _=>have a9X:=nD ar zE x.U k1;have a9Y:=eH ar x.U k1;have a9Z:=eH ar x.U (k1+1);have b0a:=u6 ar x.U k1;have b0b:=cF zE x.U k1;⟨λ _=>⟨?_,?_,λ _=>⟨?_,?_,k1+1,?_,?_,⟨?_,rfl,rfl,?_,ag⟩,ag⟩⟩,λ _=>?_⟩⟩;all_goals try and_intros
 all_goals try (first|with_reducible rfl|with_reducible assumption)
 all_goals try simp only[J.eta,cu] at *
 all_goals try rw[ib x]
 all_goals first|rfl|trivial|omega|(simp only[b0R,b0Q,aI,av,cD,mJ,dH,bC] at *;omega)|(simp[aI,av] at *;omega)|grind
def Lv :∀ n,bu [jV n]
 | 0=>⟨⟨aH jR,λ _ h=>absurd h.1 (b1x _)⟩,ag⟩
 | n+1=>by
  have ih:=Lv  n;exact⟨Ji n ⟨ih.1,ag⟩,ag⟩
def EE :bc.Good yF :=
 ⟨aH jR,λ x hp=>(Lv  (bG x+1)).1.2 x (⟨b1b _,hp⟩)⟩
def lp(n:Nat):bc:=⟨rR,[.v (.st .expr), .v (.st .expr)],λ (x:J) (b:J)=>⟨(some (bG x<n/\aA x=true/\aA b=true/\ar x+ar b<=4000),[⟨(.st .expr),jJ x b⟩])⟩⟩
def rG:bc:=⟨rR,[.v (.st .expr), .v (.st .expr)],λ (x:J) (b:J)=>⟨(some (aA x=true/\aA b=true/\ar x+ar b<=4000),[⟨(.st .expr),jJ x b⟩])⟩⟩
def MT(x:J)(b:J):Nat->aP:=cw
abbrev wu(n:Nat)(x:J)(b:J):Prop:=(let v0:=x.U.getD 1 zE;let v1:=x.U.getD 0 zE;(av x.ah ->
 (((decide (x.ah=(2:Int)))=true ->
 (aQ b)=(jJ x b))/\((decide (x.ah=(2:Int)))=false ->
 (av b.ah ->
 (((decide (b.ah=(2:Int)))=true ->
 (aQ x)=(jJ x b))/\((decide (b.ah=(2:Int)))=false ->
 (av x.ah ->
 (((decide (x.ah=(7:Int)))=true ->
 (aI (0:Int) x.U.length/\(aI (1:Int) x.U.length/\((bG v0<n/\aA v0=true/\aA b=true/\ar v0+ar b<=4000)/\(x.U.length<=140737488355328 ->
 (x.U.length<=140737488355328 ->
 ((bG v1<n/\aA v1=true/\aA (jJ v0 b)=true/\ar v1+ar (jJ v0 b)<=4000)/\(aQ (jJ v1 (jJ v0 b)))=(jJ x b))))))))/\((decide (x.ah=(7:Int)))=false ->
 (aQ (J.mk (7:Int) 0 ([x,b])))=(jJ x b)))))))))))
def K0(n:Nat)(hE:bu [lp n,gV,fS]):bc.Good (lp (n+1)):=by
 refine⟨aH kP,?_⟩;intro (x:J) (b:J) (hp:bG x<n+1/\aA x=true/\aA b=true/\ar x+ar b<=4000);refine bf [lp n,gV,fS] [] [] [2,3,42] hE kP F7 (MT x b) (let v0:=aQ (J.mk (1:Int) (0:Int) []);((av x.ah->(((decide (x.ah=(1:Int)))=false->(av b.ah->(((decide (b.ah=(1:Int)))=true->v0=(jJ x b))/\((decide (b.ah=(1:Int)))=false->(wu n x b)))))/\((decide (x.ah=(1:Int)))=(!false)->((true=true->v0=(jJ x b))/\(true=false->(wu n x b)))))))) ?_;obtain⟨hm,hg,hb,hn⟩:=hp;refine λ _=>⟨λ _ _=>⟨λ _=>?_,λ _ _=>⟨λ _=>?_,λ _ _=>⟨λ _=>?_,λ _ _=>⟨λ _=>⟨?_,?_,?_,λ _ _=>⟨?_,?_⟩⟩,λ _=>?_⟩⟩⟩⟩,λ _=>⟨λ _=>?_,λ _ _=>⟨λ _=>?_,λ _ _=>⟨λ _=>?_,λ _ _=>⟨λ _=>⟨?_,?_,?_,λ _ _=>⟨?_,?_⟩⟩,λ _=>?_⟩⟩⟩⟩⟩;all_goals try and_intros
 all_goals try (first|with_reducible rfl|with_reducible assumption)
 all_goals try simp only[J.eta,cu] at *
 all_goals (try simp only[b1D,b1J,b0R,b0Q,aI,J.eta] at *);first|rfl|trivial|omega|exact lF _ (by omega)|exact (Fc x b (by omega)).symm|exact (Fe x b (by omega) (by omega)).symm|exact (Ff x b (by omega) (by omega) (by omega)).symm|exact (Fh x b (by omega) (by omega) (by omega) (by omega)).symm|with_reducible assumption|(have g:=bZ x hg (by omega);first|(have:=g.len;omega)|exact g.g0|exact g.g1|(have:=g.l0;omega)|(have:=g.l1;omega)|exact (dtT _ b g.g1 hb).g|(have:=g.nd;omega)|(have:=g.nd;have:=(dtT _ b g.g1 hb).n;omega)|exact (Fg x b (by omega) (by omega) (by omega) (by omega) g).symm)|exact congrArg J.ah (Fc x b (by omega)).symm|exact congrArg J.ah (Fe x b (by omega) (by omega)).symm|exact congrArg J.ah (Ff x b (by omega) (by omega) (by omega)).symm|exact congrArg J.ah (Fh x b (by omega) (by omega) (by omega) (by omega)).symm|exact congrArg J.ah (Fg x b (by omega) (by omega) (by omega) (by omega) (bZ x hg (by omega))).symm|exact congrArg J.aX (Fc x b (by omega)).symm|exact congrArg J.aX (Fe x b (by omega) (by omega)).symm|exact congrArg J.aX (Ff x b (by omega) (by omega) (by omega)).symm|exact congrArg J.aX (Fh x b (by omega) (by omega) (by omega) (by omega)).symm|exact congrArg J.aX (Fg x b (by omega) (by omega) (by omega) (by omega) (bZ x hg (by omega))).symm|exact congrArg J.U (Fc x b (by omega)).symm|exact congrArg J.U (Fe x b (by omega) (by omega)).symm|exact congrArg J.U (Ff x b (by omega) (by omega) (by omega)).symm|exact congrArg J.U (Fh x b (by omega) (by omega) (by omega) (by omega)).symm|exact congrArg J.U (Fg x b (by omega) (by omega) (by omega) (by omega) (bZ x hg (by omega))).symm
def Rq :∀ n,bu [lp n]
 | 0=>⟨⟨aH kP,λ _ _ h=>absurd h.1 (b1x _)⟩,ag⟩
 | n+1=>by
  have ih:=Rq  n;exact⟨K0 n ⟨ih.1,gL,fH,ag⟩,ag⟩
def GB :bc.Good rG :=
 ⟨aH kP,λ x b hp=>(Rq  (bG x+1)).1.2 x b (⟨b1b _,hp⟩)⟩
def pz:bc:=⟨yS,[.v (.st .expr)],λ (x:J)=>⟨(some (aA x=true/\ar x<=4000),[⟨(.st .expr),Az x⟩])⟩⟩
def KM(x:J):Nat->aP:=cw
def EJ:bc.Good pz:=by
 refine⟨aH vP,?_⟩;intro (x:J) (hp:aA x=true/\ar x<=4000);refine bf [iu,fS,gV] [] [] [1,13] ⟨nT,fH,gL,ag⟩ vP Ew (KM x) ((((bD x)=true->(aQ (J.mk (2:Int) (0:Int) []))=(Az x))/\((bD x)=false->(av x.ah->(((decide (x.ah=(8:Int)))=true->(aQ x)=(Az x))/\((decide (x.ah=(8:Int)))=false->(aQ (J.mk (8:Int) 0 ([x])))=(Az x))))))) ?_;obtain⟨hg,hn⟩:=hp;refine⟨λ _=>?_,λ _ _=>⟨λ _=>?_,λ _=>?_⟩⟩;all_goals try and_intros
 all_goals try (first|with_reducible rfl|with_reducible assumption)
 all_goals try simp only[J.eta,cu] at *
 all_goals (try simp only[decide_eq_true_eq,decide_eq_false_iff_not,aI,J.eta] at *);first|rfl|trivial|omega|exact lF _ (by omega)|(unfold Az;first|(rw[if_pos (by with_reducible assumption)];done)|(rw[if_neg (by simp_all),if_pos (by with_reducible assumption)];done)|(rw[if_neg (by simp_all),if_neg (by with_reducible assumption)];done))
def EH:bc.Good jY:=Dw.plain
def pU(n:Nat):bc:=⟨Ap,[.v (.st .expr)],λ (x:J)=>⟨(some (bG x<n/\aA x=true/\ar x<=3000),[⟨(.st .expr),eu x⟩])⟩⟩
def sU:bc:=⟨Ap,[.v (.st .expr)],λ (x:J)=>⟨(some (aA x=true/\ar x<=3000),[⟨(.st .expr),eu x⟩])⟩⟩
def TC(x:J):Nat->aP:=cw
def Ra(n:Nat)(hE:bu [pU n,rH,rG,pz,jY]):bc.Good (pU (n+1)):=by
 refine⟨aH pR,?_⟩;intro (x:J) (hp:bG x<n+1/\aA x=true/\ar x<=3000);refine bf [pU n,rH,rG,pz,jY] [] [] [1] hE pR Mt (TC x) (let v0:=x.U.getD 0 zE;let v1:=x.U.getD 1 zE;let v2:=bG v0<n/\aA v0=true/\ar v0<=3000;let v3:=bG v1<n/\aA v1=true/\ar v1<=3000;let v4:=eu v0;((av x.ah->(((decide (x.ah=(6:Int)))=true->(aI (0:Int) x.U.length/\(v2/\(aI (1:Int) x.U.length/\(x.U.length<=140737488355328->(x.U.length<=140737488355328->(v3/\((aA v4=true/\aA (eu v1)=true/\ar v4+ar (eu v1)<=7000)/\(aQ (JA v4 (eu v1)))=(eu x)))))))))/\((decide (x.ah=(6:Int)))=false->(((decide (x.ah=(7:Int)))=true->(aI (0:Int) x.U.length/\(v2/\(aI (1:Int) x.U.length/\(x.U.length<=140737488355328->(x.U.length<=140737488355328->(v3/\((aA v4=true/\aA (eu v1)=true/\ar v4+ar (eu v1)<=4000)/\(aQ (jJ v4 (eu v1)))=(eu x)))))))))/\((decide (x.ah=(7:Int)))=false->(((decide (x.ah=(8:Int)))=true->(x.U.length<=140737488355328->(aI (0:Int) x.U.length/\(v2/\((aA v4=true/\ar v4<=4000)/\(aQ (Az v4))=(eu x))))))/\((decide (x.ah=(8:Int)))=false->(cJ x<=1048576/\(aQ x)=(eu x))))))))))) ?_;obtain⟨hm,hg,hn⟩:=hp;refine λ _=>⟨λ _=>⟨?_,?_,?_,λ _ _=>⟨?_,?_,?_⟩⟩,λ _=>⟨λ _=>⟨?_,?_,?_,λ _ _=>⟨?_,?_,?_⟩⟩,λ _=>⟨λ _ _=>⟨?_,?_,?_,?_⟩,λ _=>⟨?_,?_⟩⟩⟩⟩;all_goals try and_intros
 all_goals try (first|with_reducible rfl|with_reducible assumption)
 all_goals try simp only[J.eta,cu] at *
 all_goals (try simp only[b1D,b1J,b0R,b0Q,aI,J.eta] at *);first|rfl|trivial|omega|exact lF _ (by omega)|(have g:=gp x hg (.inr (by omega));first|(have:=g.len;omega)|exact g.g0|(have:=g.l0;omega)|(have:=g.nd;omega)|exact (u9 _ g.g0).g|(have:=(u9 _ g.g0).n;have:=g.nd;omega)|(rw[Zo x (by omega) g]<;>rfl))|(have g:=bZ x hg (by omega);first|(have:=g.len;omega)|exact g.g0|exact g.g1|(have:=g.l0;omega)|(have:=g.l1;omega)|(have:=g.nd;omega)|exact (u9 _ g.g0).g|exact (u9 _ g.g1).g|(have:=(u9 _ g.g0).n;have:=(u9 _ g.g1).n;have:=g.nd;omega)|(rw[Zm x (by omega) g]<;>rfl)|(rw[Zn x (by omega) g]<;>rfl))|(rw[Zp x (by omega) (by omega) (by omega)]<;>rfl)
def Ru :∀ n,bu [pU n]
 | 0=>⟨⟨aH pR,λ _ h=>absurd h.1 (b1x _)⟩,ag⟩
 | n+1=>by
  have ih:=Ru  n;exact⟨Ra n ⟨ih.1,GC,GB,EJ,EH,ag⟩,ag⟩
def ru :bc.Good sU :=
 ⟨aH pR,λ x hp=>(Ru  (bG x+1)).1.2 x (⟨b1b _,hp⟩)⟩
def rF:bc:=⟨Bi,[.v (.st .expr)],λ (x:J)=>⟨(some (aA x=true/\ar x<=3000),[⟨(.st .expr),Ng x⟩,⟨.bool,decide (ar x<=800)⟩])⟩⟩
def MS(x:J):Nat->aP:=cw
def GA:bc.Good rF:=by
 refine⟨aH xU,?_⟩;intro (x:J) (hp:aA x=true/\ar x<=3000);refine bf [yF,sU] [] [] [1] ⟨EE,ru,ag⟩ xU F6 (MS x) (let v0:=decide ((800:Int)<((ar x:Int)));((ar x<=1048576/\(av ((ar x:Int))->((v0=true->(zE=(Ng x)/\false=(decide (ar x<=800))))/\(v0=false->((aA x=true/\ar x<=3000)/\((aQ (eu x))=(Ng x)/\true=(decide (ar x<=800)))))))))) ?_;obtain⟨hg,hn⟩:=hp;refine⟨?_,λ _=>⟨λ _=>⟨?_,?_⟩,λ _=>⟨?_,?_,?_⟩⟩⟩;all_goals try and_intros
 all_goals try (first|with_reducible rfl|with_reducible assumption)
 all_goals try simp only[J.eta,cu] at *
 all_goals (try simp only[b0R,b0Q,aI,J.eta] at *);first|rfl|trivial|omega|exact Vs x (by omega)|exact a5o x (by omega)|(simp;omega)|exact congrArg J.ah (Vs x (by omega))|exact congrArg J.aX (Vs x (by omega))|exact congrArg J.U (Vs x (by omega))
def ll(n:Nat):bc:=⟨rP,[.v (.st .expr), .v (.int .i64), .v (.int .i64)],λ (x:J) (atom:Int) (act:Int)=>⟨(some (bG x<n/\aA x=true/\ar x<=1000/\0<=atom/\atom<=4096),[⟨(.st .expr),cC atom act x⟩,⟨.bool,(bI atom act x).2⟩])⟩⟩
def A2:bc:=⟨rP,[.v (.st .expr), .v (.int .i64), .v (.int .i64)],λ (x:J) (atom:Int) (act:Int)=>⟨(some (aA x=true/\ar x<=1000/\0<=atom/\atom<=4096),[⟨(.st .expr),cC atom act x⟩,⟨.bool,(bI atom act x).2⟩])⟩⟩
def MQ(x:J)(atom:Int)(act:Int):Nat->aP:=cw
abbrev wh(x:J)(atom:Int)(act:Int):Prop:=((!((bI atom act (x.U.getD 1 zE)).2))=true ->
 (zE=(cC atom act x)/\false=((bI atom act x).2)))
abbrev wi(x:J)(atom:Int)(act:Int):Prop:=(let v0:=J.mk (6:Int) 0 ([(aQ (cC atom act (x.U.getD 0 zE))),(aQ (cC atom act (x.U.getD 1 zE)))]);((aA v0=true/\ar v0<=3000)/\((aQ (Ng v0))=(cC atom act x)/\(decide (ar v0<=800))=((bI atom act x).2))))
abbrev wj(x:J)(atom:Int)(act:Int):Prop:=((!((bI atom act (x.U.getD 0 zE)).2))=true ->
 (zE=(cC atom act x)/\false=((bI atom act x).2)))
def KY(n:Nat)(hE:bu [ll n,gV,fS,mB,rF]):bc.Good (ll (n+1)):=by
 refine⟨aH kL,?_⟩;intro (x:J) (atom:Int) (act:Int) (hp:bG x<n+1/\aA x=true/\ar x<=1000/\0<=atom/\atom<=4096);refine bf [ll n,gV,fS,mB,rF] [] [] [3,59,84,112,134] hE kL F4 (MQ x atom act) (let v1:=x.U.getD 0 zE;let v3:=bG v1<n/\aA v1=true/\ar v1<=1000/\0<=atom/\atom<=4096;let v4:=J.mk (7:Int) 0 ([(aQ (cC atom act v1)),x]);let v5:=x.U.getD 1 zE;let v0:=aQ (J.mk (7:Int) 0 ([(aQ (cC atom act v1)),v5]));let v2:=J.mk (6:Int) 0 ([v0,(aQ (cC atom act v5))]);let v6:=(bI atom act x).2;let v7:=bG v5<n/\aA v5=true/\ar v5<=1000/\0<=atom/\atom<=4096;let v8:=cC atom act x;let v9 := !((bI atom act v1).2);let vb:=(0:Int);let va:=(aQ (J.mk (1:Int) vb []))=v8/\true=v6;((av x.ah->(((decide (x.ah=(4:Int)))=true->(av x.aX->(((decide (x.aX=act))=true->((aQ (J.mk (2:Int) vb []))=v8/\true=v6))/\((decide (x.aX=act))=false->va))))/\((decide (x.ah=(4:Int)))=false->(((decide (x.ah=(6:Int)))=true->(x.U.length<=140737488355328->(aI vb x.U.length/\(v3/\(x.U.length<=140737488355328->(aI (1:Int) x.U.length/\(v7/\((v9=false->((wh x atom act)/\((!((bI atom act v5).2))=false->(wi x atom act))))/\(v9=(!false)->((true=true->(zE=v8/\false=v6))/\(true=false->(wi x atom act))))))))))))/\((decide (x.ah=(6:Int)))=false->(((decide (x.ah=(7:Int)))=true->(x.U.length<=140737488355328->(aI vb x.U.length/\(v3/\((wj x atom act)/\(v9=false->(aI (1:Int) x.U.length/\(x.U.length<=140737488355328->(x.U.length<=140737488355328->(aI vb x.U.length/\((aA v1=true/\0<=atom/\atom<=4096)/\(((!(eC atom v1))=true->((aA v0=true/\ar v0<=3000)/\((aQ (Ng v0))=v8/\(decide (ar v0<=800))=v6)))/\((!(eC atom v1))=false->(x.U.length<=140737488355328->(aI (1:Int) x.U.length/\(v7/\((wh x atom act)/\((!((bI atom act v5).2))=false->((aA v2=true/\ar v2<=3000)/\((aQ (Ng v2))=v8/\(decide (ar v2<=800))=v6))))))))))))))))))))/\((decide (x.ah=(7:Int)))=false->(((decide (x.ah=(8:Int)))=true->(x.U.length<=140737488355328->(aI vb x.U.length/\(v3/\((wj x atom act)/\(v9=false->((aA v4=true/\ar v4<=3000)/\((aQ (Ng v4))=v8/\(decide (ar v4<=800))=v6))))))))/\((decide (x.ah=(8:Int)))=false->va))))))))))) ?_;obtain⟨hm,hg,hn,h0,h1⟩:=hp;refine λ _=>⟨λ _ _=>⟨λ _=>⟨?_,?_⟩,λ _=>⟨?_,?_⟩⟩,λ _=>⟨λ _ _=>⟨?_,?_,λ _=>⟨?_,?_,λ _=>⟨λ _=>⟨?_,?_⟩,λ _=>⟨?_,?_,?_⟩⟩,λ _=>⟨λ _=>⟨?_,?_⟩,λ _=>⟨?_,?_,?_⟩⟩⟩⟩,λ _=>⟨λ _ _=>⟨?_,?_,λ _=>⟨?_,?_⟩,λ _=>⟨?_,λ _ _=>⟨?_,?_,λ _=>⟨?_,?_,?_⟩,λ _ _=>⟨?_,?_,λ _=>⟨?_,?_⟩,λ _=>⟨?_,?_,?_⟩⟩⟩⟩⟩,λ _=>⟨λ _ _=>⟨?_,?_,λ _=>⟨?_,?_⟩,λ _=>⟨?_,?_,?_⟩⟩,λ _=>⟨?_,?_⟩⟩⟩⟩⟩;all_goals try and_intros
 all_goals try (first|with_reducible rfl|with_reducible assumption)
 all_goals try simp only[J.eta,cu] at *
 all_goals (try simp only[b1D,b1J,b1g,b1r,b0R,b0Q,aI,J.eta] at *);first|rfl|trivial|omega|with_reducible assumption|exact qe.e1 (Yq atom act x hg hn (by omega) (by with_reducible assumption) (by with_reducible assumption))|exact qe.e2 (Yq atom act x hg hn (by omega) (by with_reducible assumption) (by with_reducible assumption))|exact qe.g (Yq atom act x hg hn (by omega) (by with_reducible assumption) (by with_reducible assumption))|exact qe.n (Yq atom act x hg hn (by omega) (by with_reducible assumption) (by with_reducible assumption))|exact qe.e1 (SU atom act x hg hn (by omega) (by with_reducible assumption) (by with_reducible assumption) (by with_reducible assumption))|exact qe.e2 (SU atom act x hg hn (by omega) (by with_reducible assumption) (by with_reducible assumption) (by with_reducible assumption))|exact qe.g (SU atom act x hg hn (by omega) (by with_reducible assumption) (by with_reducible assumption) (by with_reducible assumption))|exact qe.n (SU atom act x hg hn (by omega) (by with_reducible assumption) (by with_reducible assumption) (by with_reducible assumption))|exact qe.e1 (SS atom act x hg hn (by omega) (by with_reducible assumption) (by with_reducible assumption))|exact qe.e2 (SS atom act x hg hn (by omega) (by with_reducible assumption) (by with_reducible assumption))|exact qe.g (SS atom act x hg hn (by omega) (by with_reducible assumption) (by with_reducible assumption))|exact qe.n (SS atom act x hg hn (by omega) (by with_reducible assumption) (by with_reducible assumption))|exact qe.e1 (Yr atom act x hg hn (by omega) (by with_reducible assumption))|exact qe.e2 (Yr atom act x hg hn (by omega) (by with_reducible assumption))|exact qe.g (Yr atom act x hg hn (by omega) (by with_reducible assumption))|exact qe.n (Yr atom act x hg hn (by omega) (by with_reducible assumption))|exact (B5.of (DF atom act x (by omega) (by omega))).e1|exact (B5.of (DF atom act x (by omega) (by omega))).e2|exact congrArg J.ah (B5.of (DF atom act x (by omega) (by omega))).e1|exact congrArg J.aX (B5.of (DF atom act x (by omega) (by omega))).e1|exact congrArg J.U (B5.of (DF atom act x (by omega) (by omega))).e1|exact (B5.of (DE atom act x (by omega) (by omega))).e1|exact (B5.of (DE atom act x (by omega) (by omega))).e2|exact congrArg J.ah (B5.of (DE atom act x (by omega) (by omega))).e1|exact congrArg J.aX (B5.of (DE atom act x (by omega) (by omega))).e1|exact congrArg J.U (B5.of (DE atom act x (by omega) (by omega))).e1|exact (B5.of (Mf atom act x (by omega) (by omega) (by omega) (by omega))).e1|exact (B5.of (Mf atom act x (by omega) (by omega) (by omega) (by omega))).e2|exact congrArg J.ah (B5.of (Mf atom act x (by omega) (by omega) (by omega) (by omega))).e1|exact congrArg J.aX (B5.of (Mf atom act x (by omega) (by omega) (by omega) (by omega))).e1|exact congrArg J.U (B5.of (Mf atom act x (by omega) (by omega) (by omega) (by omega))).e1|(have g:=bZ x hg (by omega);first|(have:=g.len;omega)|exact g.g0|exact g.g1|(have:=g.l0;omega)|(have:=g.l1;omega)|(have:=g.nd;omega)|exact (oT.of (me atom act x (by omega) g (.inl (by with_reducible assumption)))).e1|exact (oT.of (me atom act x (by omega) g (.inl (by with_reducible assumption)))).e2|exact congrArg J.ah (oT.of (me atom act x (by omega) g (.inl (by with_reducible assumption)))).e1|exact congrArg J.aX (oT.of (me atom act x (by omega) g (.inl (by with_reducible assumption)))).e1|exact congrArg J.U (oT.of (me atom act x (by omega) g (.inl (by with_reducible assumption)))).e1|exact (oT.of (me atom act x (by omega) g (.inr (by with_reducible assumption)))).e1|exact (oT.of (me atom act x (by omega) g (.inr (by with_reducible assumption)))).e2|exact congrArg J.ah (oT.of (me atom act x (by omega) g (.inr (by with_reducible assumption)))).e1|exact congrArg J.aX (oT.of (me atom act x (by omega) g (.inr (by with_reducible assumption)))).e1|exact congrArg J.U (oT.of (me atom act x (by omega) g (.inr (by with_reducible assumption)))).e1|exact (oT.of (DG atom act x (by omega) g (by with_reducible assumption))).e1|exact (oT.of (DG atom act x (by omega) g (by with_reducible assumption))).e2|exact congrArg J.ah (oT.of (DG atom act x (by omega) g (by with_reducible assumption))).e1|exact congrArg J.aX (oT.of (DG atom act x (by omega) g (by with_reducible assumption))).e1|exact congrArg J.U (oT.of (DG atom act x (by omega) g (by with_reducible assumption))).e1|exact (oT.of (DH atom act x (by omega) g (by with_reducible assumption) (by with_reducible assumption) (by with_reducible assumption))).e1|exact (oT.of (DH atom act x (by omega) g (by with_reducible assumption) (by with_reducible assumption) (by with_reducible assumption))).e2|exact congrArg J.ah (oT.of (DH atom act x (by omega) g (by with_reducible assumption) (by with_reducible assumption) (by with_reducible assumption))).e1|exact congrArg J.aX (oT.of (DH atom act x (by omega) g (by with_reducible assumption) (by with_reducible assumption) (by with_reducible assumption))).e1|exact congrArg J.U (oT.of (DH atom act x (by omega) g (by with_reducible assumption) (by with_reducible assumption) (by with_reducible assumption))).e1)|(have g:=gp x hg (by omega);first|(have:=g.len;omega)|exact g.g0|(have:=g.l0;omega)|(have:=g.nd;omega)|exact (oT.of (DI atom act x (by omega) g (by with_reducible assumption))).e1|exact (oT.of (DI atom act x (by omega) g (by with_reducible assumption))).e2|exact congrArg J.ah (oT.of (DI atom act x (by omega) g (by with_reducible assumption))).e1|exact congrArg J.aX (oT.of (DI atom act x (by omega) g (by with_reducible assumption))).e1|exact congrArg J.U (oT.of (DI atom act x (by omega) g (by with_reducible assumption))).e1)
def Rp :∀ n,bu [ll n]
 | 0=>⟨⟨aH kL,λ _ _ _ h=>absurd h.1 (b1x _)⟩,ag⟩
 | n+1=>by
  have ih:=Rp  n;exact⟨KY n ⟨ih.1,gL,fH,uf,GA,ag⟩,ag⟩
def Gz :bc.Good A2 :=
 ⟨aH kL,λ x atom act hp=>(Rp  (bG x+1)).1.2 x atom act (⟨b1b _,hp⟩)⟩
noncomputable def yh(xs:List J)(d:J):Nat:=xs.findIdx λ y=>iM y d
noncomputable def gm(xs:List J)(d:J):Int:=if yh xs d<xs.length then (yh xs d:Int) else -1
def a3F(xs:List J)(d:J):yh xs d<=xs.length:=b4Q
def a8m(xs:List J)(d:J)(k:Nat)(hk:k<xs.length)(hle:k<=yh xs d)(h:iM (xs.getD k zE) d=true):(k:Int)=gm xs d:=by
 have e:yh xs d=k:=by
  apply Nat.le_antisymm _ hle;rcases b1w k (yh xs d) with q|q
  .have:=List.not_of_lt_findIdx q;rw[b0S,b1a hk] at h;simp only[b3g] at h;rw[h] at this;cases this
  .exact q
 rw[gm,b0T (by omega),e]
def a8l(xs:List J)(d:J)(k:Nat)(hk:k<xs.length)(hle:k<=yh xs d)(h:iM (xs.getD k zE) d=false):k+1<=yh xs d:=by
 rcases b1w k (yh xs d) with q|q
 .exact q
 .have e:yh xs d=k:=by omega
  have bz:yh xs d<xs.length:=by omega
  have:=b3A (w:=bz);rw[b0S,b1a hk] at h;simp only[b3g] at h;have e2:xs[yh xs d]=xs[k]:=by simp[e]
  have h3:iM xs[yh xs d] d=true:=this;rw[e2,h] at h3;cases h3
def a3G(xs:List J)(d:J)(h:xs.length<=yh xs d) : -1=gm xs d:=by rw[gm,b0N (by omega)]
def a3E(xs:List J)(d:J) : -1<=gm xs d/\gm xs d<xs.length:=by
 unfold gm;split<;>omega
structure j9 where
 ls:List J
 rw:List Int
noncomputable def pP(b:Bool)(a c:Int)(x:J)(s:j9):Option j9 :=
 if (bI a c x).2=true then
  (if (cC a c x).ah=1 then some ⟨s.ls,s.rw++[-1]⟩ else if 0<=gm s.ls (cC a c x) then some ⟨s.ls,s.rw++[gm s.ls (cC a c x)]⟩
   else if b=true/\s.ls.length=60 then none else some ⟨s.ls++[cC a c x],s.rw++[(s.ls.length:Int)]⟩)
 else none
noncomputable def oS(b:Bool)(a:Int)(x:J):Nat->Int->j9->Option j9
 | 0,_,s=>some s
 | n+1,c,s=>(pP b a c x s).bind λ s'=>oS b a x n (c+1) s'
noncomputable def jn(b:Bool)(n:Nat)(x:J):Nat->Int->List J->List (List Int)->Option (List J×List (List Int))
 | 0,_,ls,rows=>some (ls,rows)
 | m+1,a,ls,rows=>(oS b a x n 0 ⟨ls,[]⟩).bind λ s=>jn b n x m (a+1) s.ls (rows++[s.rw])
noncomputable def Bu(b:Bool)(m n:Nat):Nat->Nat->List J->List (List (List Int))->Option (List J×List (List (List Int)))
 | 0,_,_,_=>none
 | f+1,i,ls,nx=>if i<ls.length then ((jn b n (ls.getD i zE) m 0 ls []).bind λ q=>if q.1.length<=60 then Bu b m n f (i+1) q.1 (nx++[q.2]) else none) else some (ls,nx)
noncomputable def lM(b:Bool)(gg:aF)(e:J):Option (List J×List (List (List Int))):=Bu b (bn gg).toNat gg.aw.toNat 61 0 [eu e] []
def a3g{b:Bool}{a c:Int}{x:J}{s s':j9}(h:pP b a c x s=some s'):s.ls.length<=s'.ls.length:=by
 unfold pP at h;split at h
 .split at h
  .cases h;exact b1d _
  .split at h
   .cases h;exact b1d _
   .split at h
    .cases h
    .cases h;simp
 .cases h
def Lc{b:Bool}{a:Int}{x:J}:∀ (n:Nat) {c:Int} {s s':j9},oS b a x n c s=some s'->s.ls.length<=s'.ls.length
 | 0,_,_,_,h=>by cases h;exact b1d _
 | n+1,c,s,s',h=>by
  unfold oS at h;cases hs:pP b a c x s with
  | none=>rw[hs] at h;cases h
  | some t=>rw[hs] at h;exact b2c (a3g hs) (Lc n h)
def Qa{b:Bool}{n:Nat}{x:J}:∀ (m:Nat) {a:Int} {ls:List J} {rows:List (List Int)} {q:List J×List (List Int)},jn b n x m a ls rows=some q->ls.length<=q.1.length
 | 0,_,_,_,_,h=>by cases h;exact b1d _
 | m+1,a,ls,rows,q,h=>by
  unfold jn at h;cases hs:oS b a x n 0 ⟨ls,[]⟩ with
  | none=>rw[hs] at h;cases h
  | some t=>rw[hs] at h;exact b2c (Lc n hs) (Qa m h)
def lV(k:Nat){α:Type}(o:α):Option α:=if k<=60 then some o else none
def NK(a:Int)(x:J):∀ (n:Nat) (c:Int) (s:j9),s.ls.length<=60->oS true a x n c s=(oS false a x n c s).bind λ s'=>lV s'.ls.length s'
 | 0,c,s,h=>by simp[oS,lV,h]
 | n+1,c,s,h=>by
  unfold oS;by_cases h1:(bI a c x).2=true
  .by_cases h2:(cC a c x).ah=1
   .have e:∀ b,pP b a c x s=some ⟨s.ls,s.rw++[-1]⟩:=λ b=>by rw[pP,b0T h1,b0T h2]
    rw[e,e];exact NK a x n (c+1) _ h
   .by_cases h3:0<=gm s.ls (cC a c x)
    .have e:∀ b,pP b a c x s=some ⟨s.ls,s.rw++[gm s.ls (cC a c x)]⟩:=λ b=>by rw[pP,b0T h1,b0N h2,b0T h3]
     rw[e,e];exact NK a x n (c+1) _ h
    .have ef:pP false a c x s=some ⟨s.ls++[cC a c x],s.rw++[(s.ls.length:Int)]⟩:=by rw[pP,b0T h1,b0N h2,b0N h3,b0N (by simp)]
     rw[ef];by_cases h4:s.ls.length=60
     .have et:pP true a c x s=none:=by rw[pP,b0T h1,b0N h2,b0N h3,b0T ⟨rfl,h4⟩]
      rw[et];simp only[b4H,b2C];cases hq:oS false a x n (c+1) ⟨s.ls++[cC a c x],s.rw++[(s.ls.length:Int)]⟩ with
      | none=>rfl
      | some q =>
       have:=Lc n hq;simp only[b0Y,b0W,b1f] at this;simp only[b2C,lV];rw[b0N (by omega)]
     .have et:pP true a c x s=some ⟨s.ls++[cC a c x],s.rw++[(s.ls.length:Int)]⟩:=by rw[pP,b0T h1,b0N h2,b0N h3,b0N (by simp[h4])]
      rw[et];exact NK a x n (c+1) _ (by simp;omega)
  .have e:∀ b,pP b a c x s=none:=λ b=>by rw[pP,b0N h1]
   rw[e,e];rfl
def VU(n:Nat)(x:J):∀ (m:Nat) (a:Int) (ls:List J) (rows:List (List Int)),ls.length<=60->jn true n x m a ls rows=(jn false n x m a ls rows).bind λ q=>lV q.1.length q
 | 0,a,ls,rows,h=>by simp[jn,lV,h]
 | m+1,a,ls,rows,h=>by
  unfold jn;rw[NK a x n 0 ⟨ls,[]⟩ h];cases hq:oS false a x n 0 ⟨ls,[]⟩ with
  | none=>rfl
  | some s =>
   simp only[b2C];by_cases hs:s.ls.length<=60
   .rw[lV,b0T hs];exact VU n x m (a+1) s.ls _ hs
   .rw[lV,b0N hs];simp only[b4H];cases hr:jn false n x m (a+1) s.ls (rows++[s.rw]) with
    | none=>rfl
    | some q =>
     have:=Qa m hr;simp only[b2C,lV];rw[b0N (by omega)]
def Za(m n:Nat):∀ (f i:Nat) (ls:List J) (nx:List (List (List Int))),ls.length<=60->Bu true m n f i ls nx=Bu false m n f i ls nx
 | 0,_,_,_,_=>rfl
 | f+1,i,ls,nx,h=>by
  unfold Bu;by_cases hi:i<ls.length
  .rw[b0T hi,b0T hi,VU n _ m 0 ls [] h];cases hr:jn false n (ls.getD i zE) m 0 ls [] with
   | none=>rfl
   | some q =>
    simp only[b2C,lV];by_cases hq:q.1.length<=60
    .rw[b0T hq];simp only[b2C];rw[b0T hq,b0T hq];exact Za m n f (i+1) q.1 _ hq
    .rw[b0N hq];simp only[b4H];rw[b0N hq]
  .rw[b0N hi,b0N hi]
def a3i(gg:aF)(e:J):lM true gg e=lM false gg e:=Za _ _ _ _ _ _ (by simp)
noncomputable def cO(gg:aF)(e:J):List J:=((lM false gg e).getD ([],[])).1
noncomputable def eN(gg:aF)(e:J):List (List (List Int)):=((lM false gg e).getD ([],[])).2
noncomputable def du(gg:aF)(e:J):Int:=if (lM false gg e).isSome=true then 0 else 3
def pj(ls:List J):Prop:=∀ y∈ls,aA y=true/\ar y<=1000
def pj.get{ls:List J}(h:pj ls){i:Nat}(hi:i<ls.length):aA (ls.getD i zE)=true/\ar (ls.getD i zE)<=1000:=h _ (by
 rw[b0S,b1a hi];exact b2B _)
def pj.snoc{ls:List J}(h:pj ls){d:J}(hd:aA d=true/\ar d<=1000):pj (ls++[d]):=λ y hy=>by
 rcases b0K.1 hy with q|q
 .exact h y q
 .rw[b0Z] at q;rw[q];exact hd
def Rg(L:Nat)(r:List Int):Prop:=∀ v∈r,-1<=v/\v<(L:Int)
def FM(n L:Nat)(rows:List (List Int)):Prop:=∀ r∈rows,r.length=n/\Rg L r
def Nj(m n L:Nat)(nx:List (List (List Int))):Prop:=∀ rows∈nx,rows.length=m/\FM n L rows
def Rg.up{L L':Nat}{r:List Int}(h:Rg L r)(hl:L<=L'):Rg L' r:=λ v hv=>⟨(h v hv).1,by have:=(h v hv).2;omega⟩
def FM.up{n L L':Nat}{r:List (List Int)}(h:FM n L r)(hl:L<=L'):FM n L' r:=λ v hv=>⟨(h v hv).1,(h v hv).2.up hl⟩
def Nj.up{m n L L':Nat}{r:List (List (List Int))}(h:Nj m n L r)(hl:L<=L'):Nj m n L' r:=λ v hv=>⟨(h v hv).1,(h v hv).2.up hl⟩
def Rg.snoc{L:Nat}{r:List Int}(h:Rg L r){v:Int}(hv : -1<=v/\v<(L:Int)):Rg L (r++[v]):=λ u hu=>by
 rcases b0K.1 hu with q|q
 .exact h u q
 .rw[b0Z] at q;rw[q];exact hv
def FM.snoc{n L:Nat}{r:List (List Int)}(h:FM n L r){v:List Int}(h1:v.length=n)(hv:Rg L v):FM n L (r++[v]):=λ u hu=>by
 rcases b0K.1 hu with q|q
 .exact h u q
 .rw[b0Z] at q;rw[q];exact⟨h1,hv⟩
def Nj.snoc{m n L:Nat}{r:List (List (List Int))}(h:Nj m n L r){v:List (List Int)}(h1:v.length=m)(hv:FM n L v):Nj m n L (r++[v]):=λ u hu=>by
 rcases b0K.1 hu with q|q
 .exact h u q
 .rw[b0Z] at q;rw[q];exact⟨h1,hv⟩
structure BO(b:Bool)(gg:aF)(e:J)(i:Nat)(ls:List J)(nx:List (List (List Int))):Prop where
 eq:Bu b (bn gg).toNat gg.aw.toNat (61 - i) i ls nx=lM b gg e
 le:i<=ls.length
 lV:ls.length<=60
 vF:nx.length=i
 su:pj ls
 pos:0<ls.length
 ok:Nj (bn gg).toNat gg.aw.toNat ls.length nx
noncomputable def kO(b:Bool)(gg:aF)(i:Nat)(nx:List (List (List Int)))(q:List J×List (List Int)):Option (List J×List (List (List Int))) :=
 if q.1.length<=60 then Bu b (bn gg).toNat gg.aw.toNat (61 - (i+1)) (i+1) q.1 (nx++[q.2]) else none
structure BM(b:Bool)(gg:aF)(e:J)(i:Nat)(nx:List (List (List Int)))(x:J)(a:Nat)(ls:List J)(rows:List (List Int)):Prop where
 eq:(jn b gg.aw.toNat x ((bn gg).toNat - a) (a:Int) ls rows).bind (kO b gg i nx)=lM b gg e
 ha:a<=(bn gg).toNat
 G7:rows.length=a
 hi:i<ls.length
 i6:i<60
 vF:nx.length=i
 hx:ls.getD i zE=x
 su:pj ls
 lV:ls.length<=60+4 * a
 b6:b=true->ls.length<=60
 ok:Nj (bn gg).toNat gg.aw.toNat ls.length nx
 rk:FM gg.aw.toNat ls.length rows
structure BI(b:Bool)(gg:aF)(e:J)(i:Nat)(nx:List (List (List Int)))(x:J)(a:Nat)(rows:List (List Int))(c:Nat)(s:j9):Prop where
 eq:((oS b (a:Int) x (gg.aw.toNat - c) (c:Int) s).bind λ s'=>jn b gg.aw.toNat x ((bn gg).toNat - (a+1)) ((a:Int)+1) s'.ls (rows++[s'.rw])).bind (kO b gg i nx)=lM b gg e
 ha:a<(bn gg).toNat
 hc:c<=gg.aw.toNat
 rw:s.rw.length=c
 G7:rows.length=a
 hi:i<s.ls.length
 i6:i<60
 vF:nx.length=i
 hx:s.ls.getD i zE=x
 su:pj s.ls
 lV:s.ls.length<=60+4 * a+c
 b6:b=true->s.ls.length<=60
 ok:Nj (bn gg).toNat gg.aw.toNat s.ls.length nx
 rk:FM gg.aw.toNat s.ls.length rows
 wk:Rg s.ls.length s.rw
def BO.first(b:Bool)(gg:aF)(e:J)(hg:aA e=true)(hn:ar e<=1000):BO b gg e 0 [eu e] [] :=
 ⟨rfl,b1G _,by simp,rfl,λ y hy=>by
  rw[b0Z] at hy;have:=u9 e hg;rw[hy];exact⟨this.g,by have:=this.n;omega⟩,by simp,λ _ h=>by cases h⟩
def BO.go{b:Bool}{gg:aF}{e:J}{i:Nat}{ls:List J}{nx:List (List (List Int))}(h:BO b gg e i ls nx)(hi:i<ls.length):BM b gg e i nx (ls.getD i zE) 0 ls []:=by
 have h6:=h.lV;refine⟨?_,b1G _,rfl,hi,by omega,h.vF,rfl,h.su,by omega,λ _=>h6,h.ok,λ _ h=>by cases h⟩;rw[<-h.eq,show 61 - i=(61 - (i+1))+1 by omega,Bu,b0T hi];rfl
def BO.done{b:Bool}{gg:aF}{e:J}{i:Nat}{ls:List J}{nx:List (List (List Int))}(h:BO b gg e i ls nx)(hi:ls.length<=i):lM b gg e=some (ls,nx):=by
 have h6:=h.lV;have:=h.le;rw[<-h.eq,show 61 - i=(61 - (i+1))+1 by omega,Bu,b0N (by omega)]
def BM.go{b:Bool}{gg:aF}{e:J}{i:Nat}{nx:List (List (List Int))}{x:J}{a:Nat}{ls:List J}{rows:List (List Int)}(h:BM b gg e i nx x a ls rows)(ha:a<(bn gg).toNat):BI b gg e i nx x a rows 0 ⟨ls,[]⟩:=by
 refine⟨?_,ha,Nat.zero_le _,rfl,h.G7,h.hi,h.i6,h.vF,h.hx,h.su,by have:=h.lV;simpa using this,h.b6,h.ok,h.rk,λ _ h=>by cases h⟩;rw[<-h.eq,show (bn gg).toNat - a=((bn gg).toNat - (a+1))+1 by omega,jn];rfl
def BM.done{b:Bool}{gg:aF}{e:J}{i:Nat}{nx:List (List (List Int))}{x:J}{a:Nat}{ls:List J}{rows:List (List Int)}(h:BM b gg e i nx x a ls rows)(ha:(bn gg).toNat<=a)(h6:ls.length<=60):BO b gg e (i+1) ls (nx++[rows]):=by
 have:=h.ha;have hi:=h.hi;refine⟨?_,hi,h6,by rw[b0Y,h.vF];rfl,h.su,by omega,h.ok.snoc (by rw[h.G7];omega) h.rk⟩;rw[<-h.eq,show (bn gg).toNat - a=0 by omega,jn,b2C,kO,b0T h6]
def BM.over{b:Bool}{gg:aF}{e:J}{i:Nat}{nx:List (List (List Int))}{x:J}{a:Nat}{ls:List J}{rows:List (List Int)}(h:BM b gg e i nx x a ls rows)(ha:(bn gg).toNat<=a)(h6:60<ls.length):lM b gg e=none:=by
 have:=h.ha;rw[<-h.eq,show (bn gg).toNat - a=0 by omega,jn,Option.bind_some,kO,if_neg (by simpa using h6)]
def BI.done{b:Bool}{gg:aF}{e:J}{i:Nat}{nx:List (List (List Int))}{x:J}{a:Nat}{rows:List (List Int)}{c:Nat}{s:j9}(h:BI b gg e i nx x a rows c s)(hs:gg.aw.toNat<=4)(hc:gg.aw.toNat<=c):BM b gg e i nx x (a+1) s.ls (rows++[s.rw]):=by
 have:=h.hc;refine⟨?_,h.ha,by rw[b0Y,h.G7];rfl,h.hi,h.i6,h.vF,h.hx,h.su,by have:=h.lV;omega,h.b6,h.ok,h.rk.snoc (by rw[h.rw];omega) h.wk⟩;rw[<-h.eq,show gg.aw.toNat - c=0 by omega,oS,b2C];rfl
def BI.step{b:Bool}{gg:aF}{e:J}{i:Nat}{nx:List (List (List Int))}{x:J}{a:Nat}{rows:List (List Int)}{c:Nat}{s:j9}(h:BI b gg e i nx x a rows c s)(hc:c<gg.aw.toNat) :
  ((pP b (a:Int) (c:Int) x s).bind λ s=>(oS b (a:Int) x (gg.aw.toNat - (c+1)) ((c:Int)+1) s).bind λ s'=>jn b gg.aw.toNat x ((bn gg).toNat - (a+1)) ((a:Int)+1) s'.ls (rows++[s'.rw])).bind (kO b gg i nx)=lM b gg e:=by
 rw[<-h.eq,show gg.aw.toNat - c=(gg.aw.toNat - (c+1))+1 by omega,oS];simp only[Option.bind_assoc]
def BI.fail{b:Bool}{gg:aF}{e:J}{i:Nat}{nx:List (List (List Int))}{x:J}{a:Nat}{rows:List (List Int)}{c:Nat}{s:j9}(h:BI b gg e i nx x a rows c s)(hc:c<gg.aw.toNat)(hf:pP b (a:Int) (c:Int) x s=none):lM b gg e=none:=by
 rw[<-h.step hc,hf];rfl
def BI.next{b:Bool}{gg:aF}{e:J}{i:Nat}{nx:List (List (List Int))}{x:J}{a:Nat}{rows:List (List Int)}{c:Nat}{s:j9}(h:BI b gg e i nx x a rows c s)(hc:c<gg.aw.toNat){s':j9}(hf:pP b (a:Int) (c:Int) x s=some s')
  (hl:s'.ls=s.ls\/∃ d,aA d=true/\ar d<=1000/\s'.ls=s.ls++[d]/\(b=true->s.ls.length<60)) (hr:s'.rw.length=c+1) (hw:Rg s'.ls.length s'.rw):BI b gg e i nx x a rows (c+1) s':=by
 have hi:=h.hi;have hx:=h.hx;have h6:=h.lV;have hb6:=h.b6;have hup:s.ls.length<=s'.ls.length:=by
  rcases hl with e|⟨d,_,_,e,_⟩<;>rw[e]<;>simp
 refine⟨?_,h.ha,hc,hr,h.G7,?_,h.i6,h.vF,?_,?_,?_,?_,h.ok.up hup,h.rk.up hup,hw⟩
 .rw[<-h.step hc,hf];rfl
 .rcases hl with e|⟨d,_,_,e,_⟩
  .rw[e];exact hi
  .rw[e];simp;omega
 .rcases hl with e|⟨d,_,_,e,_⟩
  .rw[e];exact hx
  .rw[e,b0S,b1R hi,<-b0S];exact hx
 .rcases hl with e|⟨d,d1,d2,e,_⟩
  .rw[e];exact h.su
  .rw[e];exact h.su.snoc ⟨d1,d2⟩
 .rcases hl with e|⟨d,_,_,e,_⟩
  .rw[e];omega
  .rw[e];simp;omega
 .intro hb;rcases hl with e|⟨d,_,_,e,q⟩
  .rw[e];exact hb6 hb
  .rw[e];have:=q hb;simp;omega
def BI.w0{b:Bool}{gg:aF}{e:J}{i:Nat}{nx:List (List (List Int))}{x:J}{a:Nat}{rows:List (List Int)}{c:Nat}{s:j9}(h:BI b gg e i nx x a rows c s)(hc:c<gg.aw.toNat)(h1:(bI (a:Int) (c:Int) x).2=false):lM b gg e=none :=
 h.fail hc (by rw[pP,b0N (by rw[h1];decide)])
def BI.w1{b:Bool}{gg:aF}{e:J}{i:Nat}{nx:List (List (List Int))}{x:J}{a:Nat}{rows:List (List Int)}{c:Nat}{s:j9}(h:BI b gg e i nx x a rows c s)(hc:c<gg.aw.toNat)(h1:(bI (a:Int) (c:Int) x).2=true)(h2:(cC (a:Int) (c:Int) x).ah=1):BI b gg e i nx x a rows (c+1) ⟨s.ls,s.rw++[-1]⟩ :=
 h.next hc (by rw[pP,b0T h1,b0T h2]) (.inl rfl) (by rw[b0Y,h.rw];rfl) (h.wk.snoc ⟨by omega,by show (-1:Int)<(s.ls.length:Int);omega⟩)
def BI.w2{b:Bool}{gg:aF}{e:J}{i:Nat}{nx:List (List (List Int))}{x:J}{a:Nat}{rows:List (List Int)}{c:Nat}{s:j9}(h:BI b gg e i nx x a rows c s)(hc:c<gg.aw.toNat)(h1:(bI (a:Int) (c:Int) x).2=true)(h2:¬ (cC (a:Int) (c:Int) x).ah=1)(h3:0<=gm s.ls (cC (a:Int) (c:Int) x)):BI b gg e i nx x a rows (c+1) ⟨s.ls,s.rw++[gm s.ls (cC (a:Int) (c:Int) x)]⟩ :=
 h.next hc (by rw[pP,b0T h1,b0N h2,b0T h3]) (.inl rfl) (by rw[b0Y,h.rw];rfl) (h.wk.snoc (a3E _ _))
def BI.w3{b:Bool}{gg:aF}{e:J}{i:Nat}{nx:List (List (List Int))}{x:J}{a:Nat}{rows:List (List Int)}{c:Nat}{s:j9}(h:BI b gg e i nx x a rows c s)(hc:c<gg.aw.toNat)(h1:(bI (a:Int) (c:Int) x).2=true)(h2:¬ (cC (a:Int) (c:Int) x).ah=1)(h3:gm s.ls (cC (a:Int) (c:Int) x)<0)(h4:b=true->¬ s.ls.length=60):BI b gg e i nx x a rows (c+1) ⟨s.ls++[cC (a:Int) (c:Int) x],s.rw++[(s.ls.length:Int)]⟩:=by
 have hg:=h.su.get h.hi;rw[h.hx] at hg;have q:=diT (a:Int) (c:Int) x hg.1;have hb6:=h.b6;refine h.next hc (by rw[pP,b0T h1,b0N h2,b0N (by omega),b0N λ q=>h4 q.1 q.2]) (.inr ⟨_,q.g h1,by have:=q.n h1;omega,rfl,λ hb=>by have:=h4 hb;have:=hb6 hb;omega⟩) (by rw[b0Y,h.rw];rfl) ((h.wk.up (by simp)).snoc ⟨by omega,by simp;omega⟩)
def BI.w4{gg:aF}{e:J}{i:Nat}{nx:List (List (List Int))}{x:J}{a:Nat}{rows:List (List Int)}{c:Nat}{s:j9}(h:BI true gg e i nx x a rows c s)(hc:c<gg.aw.toNat)(h1:(bI (a:Int) (c:Int) x).2=true)(h2:¬ (cC (a:Int) (c:Int) x).ah=1)(h3:gm s.ls (cC (a:Int) (c:Int) x)<0)(h4:s.ls.length=60):lM true gg e=none :=
 h.fail hc (by rw[pP,b0T h1,b0N h2,b0N (by omega),b0T ⟨rfl,h4⟩])
def fR{gg:aF}{e:J}{b:Bool}(h:lM b gg e=none):cO gg e=[]/\eN gg e=[]/\du gg e=3:=by
 have h':lM false gg e=none:=by cases b with
  | false=>exact h
  | true=>rw[<-a3i];exact h
 unfold cO eN du;rw[h'];exact⟨rfl,rfl,rfl⟩
def uZ{gg:aF}{e:J}{b:Bool}{ls:List J}{nx:List (List (List Int))}(h:lM b gg e=some (ls,nx)):cO gg e=ls/\eN gg e=nx/\du gg e=0:=by
 have h':lM false gg e=some (ls,nx):=by cases b with
  | false=>exact h
  | true=>rw[<-a3i];exact h
 unfold cO eN du;rw[h'];exact⟨rfl,rfl,rfl⟩
structure Eo where
 i:Nat
 ls:List J
 nx:List (List (List Int))
structure En where
 a:Nat
 ls:List J
 rows:List (List Int)
structure Em where
 c:Nat
 s:j9
noncomputable def By(ls:List J)(d:J):Int:=if d.ah=1 then -1 else if 0<=gm ls d then gm ls d else (ls.length:Int)
noncomputable def oG(ls:List J)(d:J):List J:=if d.ah=1 then ls else if 0<=gm ls d then ls else ls++[d]
def LC{ls:List J}{d:J}(h:d.ah=1) : -1=By ls d/\ls=oG ls d:=by rw[By,oG,b0T h,b0T h];exact⟨rfl,rfl⟩
def LD{ls:List J}{d:J}(h:¬ d.ah=1)(h2:¬ gm ls d<0):gm ls d=By ls d/\ls=oG ls d:=by
 rw[By,oG,b0N h,b0N h,b0T (by omega),b0T (by omega)];exact⟨rfl,rfl⟩
def LF{ls:List J}{d:J}(h:¬ d.ah=1)(h2:gm ls d<0):(ls.length:Int)=By ls d/\ls++[d]=oG ls d:=by
 rw[By,oG,b0N h,b0N h,b0N (by omega),b0N (by omega)];exact⟨rfl,rfl⟩
def BI.a2w{b:Bool}{gg:aF}{e:J}{i:Nat}{nx:List (List (List Int))}{x:J}{a:Nat}{rows:List (List Int)}{c:Nat}{s:j9}(h:BI b gg e i nx x a rows c s)(hc:c<gg.aw.toNat)(h1:(bI (a:Int) (c:Int) x).2=true)
  (h4:b=true->¬ (cC (a:Int) (c:Int) x).ah=1->gm s.ls (cC (a:Int) (c:Int) x)<0->¬ s.ls.length=60):BI b gg e i nx x a rows (c+1) ⟨oG s.ls (cC (a:Int) (c:Int) x),s.rw++[By s.ls (cC (a:Int) (c:Int) x)]⟩:=by
 by_cases h2:(cC (a:Int) (c:Int) x).ah=1
 .have e:=LC (ls:=s.ls) h2;rw[<-e.1,<-e.2];exact h.w1 hc h1 h2
 .by_cases h3:gm s.ls (cC (a:Int) (c:Int) x)<0
  .have e:=LF h2 h3;rw[<-e.1,<-e.2];exact h.w3 hc h1 h2 h3 λ hb=>h4 hb h2 h3
  .have e:=LD h2 h3;rw[<-e.1,<-e.2];exact h.w2 hc h1 h2 (by omega)
def BI.a6Q{gg:aF}{e:J}{i:Nat}{nx:List (List (List Int))}{x:J}{a:Nat}{rows:List (List Int)}{c:Nat}{s:j9}(h:BI false gg e i nx x a rows c s)(hc:c<gg.aw.toNat)(h1:(bI (a:Int) (c:Int) (s.ls.getD i zE)).2=true) :
  BI false gg e i nx x a rows (c+1) ⟨oG s.ls (bI (a:Int) (c:Int) (s.ls.getD i zE)).1,s.rw++[By s.ls (bI (a:Int) (c:Int) (s.ls.getD i zE)).1]⟩:=by
 rw[h.hx] at h1 ⊢;have:=h.a2w hc h1 nofun;rw[AQ h1] at this;exact this
def BI.Kd{b:Bool}{gg:aF}{e:J}{i:Nat}{nx:List (List (List Int))}{x:J}{a:Nat}{rows:List (List Int)}{c:Nat}{s:j9}(h:BI b gg e i nx x a rows c s)(hc:c<gg.aw.toNat)(h1:(bI (a:Int) (c:Int) (s.ls.getD i zE)).2=false):lM b gg e=none:=by
 rw[h.hx] at h1;exact h.w0 hc h1
def BI.get{b:Bool}{gg:aF}{e:J}{i:Nat}{nx:List (List (List Int))}{x:J}{a:Nat}{rows:List (List Int)}{c:Nat}{s:j9}(h:BI b gg e i nx x a rows c s):aA (s.ls.getD i zE)=true/\ar (s.ls.getD i zE)<=1000:=h.su.get h.hi
structure BIl(gg:aF)(i a c:Nat)(nx:List (List (List Int)))(rows:List (List Int))(s:j9):Prop where
 l1:i<s.ls.length
 l2:s.ls.length<=100
 l3:a<8
 l4:c<=4
 l5:s.rw.length<=4
 l6:rows.length<=8
 l7:nx.length<=60
 l8:i<60
def BI.lens{b:Bool}{gg:aF}{e:J}{i:Nat}{nx:List (List (List Int))}{x:J}{a:Nat}{rows:List (List Int)}{c:Nat}{s:j9}(h:BI b gg e i nx x a rows c s)(hg:bS gg=true):BIl gg i a c nx rows s:=by
 rw[dy] at hg;have:=jc gg hg.1;have:=h.lV;have:=h.ha;have:=h.hc;have:=h.rw;have:=h.G7;have:=h.vF;have:=h.hi;have:=h.i6;constructor<;>omega
structure BMl(i a:Nat)(nx:List (List (List Int)))(ls:List J)(rows:List (List Int)):Prop where
 l1:i<ls.length
 l2:ls.length<=100
 l3:a<=8
 l6:rows.length<=8
 l7:nx.length<=60
 l8:i<60
def BM.lens{b:Bool}{gg:aF}{e:J}{i:Nat}{nx:List (List (List Int))}{x:J}{a:Nat}{ls:List J}{rows:List (List Int)}(h:BM b gg e i nx x a ls rows)(hg:bS gg=true):BMl i a nx ls rows:=by
 rw[dy] at hg;have:=jc gg hg.1;have:=h.lV;have:=h.ha;have:=h.G7;have:=h.vF;have:=h.hi;have:=h.i6;constructor<;>omega
structure BOl(i:Nat)(ls:List J)(nx:List (List (List Int))):Prop where
 l1:i<=ls.length
 l2:ls.length<=60
 l3:nx.length<=60
def BO.lens{b:Bool}{gg:aF}{e:J}{i:Nat}{ls:List J}{nx:List (List (List Int))}(h:BO b gg e i ls nx):BOl i ls nx:=by
 have:=h.le;have:=h.lV;have:=h.vF;constructor<;>omega
def Ba:bc:=⟨Bo,[.v (.slice (.st .expr)), .r (.st .expr)],λ (xs:List J) (d:J)=>⟨(some (xs.length<=1000),[⟨(.int .i64),gm xs d⟩])⟩⟩
def M5(xs:List J)(d:J):Nat->aP:=(eR 0 (.b (Nat) (λ k=>k<=xs.length/\k<=yh xs d) (λ k=>xs.length - k) [] (λ k=>[(5, .aO ⟨(.int .i64),((k:Int):Int)⟩)])) cw)
def GN:bc.Good Ba:=by
 refine⟨aH xY,?_⟩;intro (xs:List J) (d:J) (hp:xs.length<=1000);refine bf [A6] [] [] [] ⟨ug,ag⟩ xY Gi (M5 xs d) (let v0:=(xs.length:Int);(((∃ k1:Nat,((k1<=xs.length/\k1<=yh xs d)/\((xs=xs/\(d=d/\((0:Int)=(k1:Int)/\True)))/\True)))/\(∀ k1:Nat,let v1:=(k1:Int);((k1<=xs.length/\k1<=yh xs d)->(av v0->(((decide (v1<v0))=true->(aI v1 xs.length/\(((iM (xs.getD k1 zE) d)=true->v1=(gm xs d))/\((iM (xs.getD k1 zE) d)=false->(av (v1+(1:Int))/\(∃ k2:Nat,((k2<=xs.length/\k2<=yh xs d)/\(xs.length - k2<xs.length - k1/\((xs=xs/\(d=d/\((v1+(1:Int))=(k2:Int)/\True)))/\True)))))))))/\((decide (v1<v0))=false->(-1:Int)=(gm xs d))))))))) ?_;refine⟨⟨0,?_,⟨rfl,rfl,?_,ag⟩,ag⟩,λ k1 _ _=>⟨λ _=>⟨?_,λ _=>?_,λ _=>⟨?_,k1+1,?_,?_,⟨rfl,rfl,?_,ag⟩,ag⟩⟩,λ _=>?_⟩⟩;all_goals try and_intros
 all_goals (try simp only[b0R,b0Q,aI,av] at *);first|omega|with_reducible rfl|with_reducible assumption|exact trivial|exact a8m xs d _ (by omega) (by omega) (by with_reducible assumption)|exact a8l xs d _ (by omega) (by omega) (by with_reducible assumption)|exact a3G xs d (by omega)|exact a3F xs d
def wN:bc:=⟨wS,[.v (.st .sig), .r (.st .expr)],λ (gg:aF) (e:J)=>⟨(some (bS gg=true/\aA e=true/\ar e<=1000),[⟨(.slice (.st .expr)),cO gg e⟩,⟨(.slice (.slice (.slice (.int .i64)))),eN gg e⟩,⟨(.int .i64),du gg e⟩])⟩⟩
def I0(gg:aF)(e:J):Nat->aP:=(eR 0 (.mk (Eo) (λ v=>BO false gg e v.i v.ls v.nx) (λ v=>60 - v.i) [] [0,1,18,19,20,21] (λ v=>[(9, .aO ⟨(.int .i64),((v.i:Int):Int)⟩),(7, .row 20),(8, .row 21)]) [] (λ v=>[(20, .row ff (.st .expr) (v.ls:List J)),(21, .row HO (.slice (.slice (.int .i64))) (v.nx:List (List (List Int))))]) [] [] (λ v=>(eR 2 (.mk (En) (λ m=>BM false gg e v.i v.nx (v.ls.getD v.i zE) m.a m.ls m.rows) (λ m=>(bn gg).toNat - m.a) [] [22,23,24,25,28] (λ m=>[(11, .aO ⟨(.int .i64),((m.a:Int):Int)⟩),(10, .row 28),(7, .row 20)]) [21] (λ m=>[(20, .row ff (.st .expr) (m.ls:List J)),(28, .row N1 (.slice (.int .i64)) (m.rows:List (List Int)))]) [] [] (λ m=>(eR 4 (.mk (Em) (λ q=>BI false gg e v.i v.nx (v.ls.getD v.i zE) m.a m.rows q.c q.s) (λ q=>gg.aw.toNat - q.c) [] [29,30,31,32,35] (λ q=>[(13, .aO ⟨(.int .i64),((q.c:Int):Int)⟩),(12, .row 35),(7, .row 20)]) [21,28] (λ q=>[(20, .row ff (.st .expr) (q.s.ls:List J)),(35, .row nH (.int .i64) (q.s.rw:List Int))]) [] [] (λ q=>(eR 100024 (.u (q.c<gg.aw.toNat/\(bI (m.a:Int) (q.c:Int) (q.s.ls.getD v.i zE)).2=true) [14,15,16,36,37,38,39,42,43,44,45,46,47,48,49,50,51,52,53] [(17, .aO ⟨(.int .i64),(By q.s.ls (bI (m.a:Int) (q.c:Int) (q.s.ls.getD v.i zE)).1:Int)⟩),(7, .row 20)] [14,15,21,28,35] [(20, .row ff (.st .expr) (oG q.s.ls (bI (m.a:Int) (q.c:Int) (q.s.ls.getD v.i zE)).1:List J))] cw) cw))) cw))) cw))) cw)
abbrev sD(v1:Eo)(m2:En)(q3:Em):Prop:=(let v0:=q3.s.ls.getD (Int.toNat (v1.i:Int)) zE;let v2:=(bI (m2.a:Int) (q3.c:Int) (aQ v0)).1;((v2.ah=v2.ah/\(v2.aX=v2.aX/\(v2.U=v2.U/\True)))/\((v0.ah=v0.ah/\(v0.aX=v0.aX/\(v0.U=v0.U/\True)))/\(q3.s.rw=q3.s.rw/\(m2.rows=m2.rows/\(v1.nx=v1.nx/\True))))))
def CD:bc.Good wN:=by
 refine⟨aH tG,?_⟩;intro (gg:aF) (e:J) (hp:bS gg=true/\aA e=true/\ar e<=1000);refine bf [jz,iG,Bc,Ba] [] [] [2] ⟨mV,im,GQ,GN,ag⟩ tG Cf (I0 gg e) (let v0:=[]=(cO gg e)/\([]=(eN gg e)/\(3:Int)=(du gg e));let v2:=(1:Int);let v4:=bn gg;let v5:=(0:Int);(((aA e=true/\ar e<=3000)/\((∃ v1:Eo,(BO false gg e v1.i v1.ls v1.nx/\((gg=gg/\(True/\(True/\(v5=(v1.i:Int)/\True))))/\(([(eu e)])=v1.ls/\([]=v1.nx/\True)))))/\(∀ v1:Eo,let v6:=(v1.i:Int);let v7:=Int.toNat v6;let v8:=v1.ls.getD v1.i zE;let v9:=v1.nx=v1.nx/\True;let va:=(v1.ls.length:Int);(BO false gg e v1.i v1.ls v1.nx->(av va->(((decide (v6<va))=true->((∃ m2:En,(BM false gg e v1.i v1.nx v8 m2.a m2.ls m2.rows/\((gg=gg/\(True/\(True/\(v6=v6/\(True/\(v5=(m2.a:Int)/\True))))))/\(v1.ls=m2.ls/\([]=m2.rows/\v9)))))/\(∀ m2:En,let vb:=(m2.a:Int);let vc:=decide ((60:Int)<((m2.ls.length:Int)));(BM false gg e v1.i v1.nx v8 m2.a m2.ls m2.rows->((0<=gg.aS/\gg.aS<=3)/\(av v4->(((decide (vb<v4))=true->((∃ q3:Em,(BI false gg e v1.i v1.nx v8 m2.a m2.rows q3.c q3.s/\((gg=gg/\(True/\(True/\(v6=v6/\(True/\(vb=vb/\(True/\(v5=(q3.c:Int)/\True))))))))/\(m2.ls=q3.s.ls/\([]=q3.s.rw/\(m2.rows=m2.rows/\v9))))))/\(∀ q3:Em,let vg:=(q3.c:Int);let vd:=bI vb vg (q3.s.ls.getD v1.i zE);let vf:=q3.c<gg.aw.toNat/\vd.2=true;let vj:=By q3.s.ls vd.1;let vk:=aQ (q3.s.ls.getD v7 zE);let ve:=bI vb vg vk;let vh:=gm q3.s.ls (aQ (ve.1));let vl:=oG q3.s.ls vd.1;let vi:=q3.s.ls=vl/\(sD v1 m2 q3);(BI false gg e v1.i v1.nx v8 m2.a m2.rows q3.c q3.s->(av gg.aw->(((decide (vg<gg.aw))=true->(aI v6 q3.s.ls.length/\((aA vk=true/\ar vk<=1000/\0<=vb/\vb<=4096)/\(((!(ve.2))=true->v0)/\((!(ve.2))=false->((av (ve.1).ah->(((!(decide ((ve.1).ah=v2)))=true->(q3.s.ls.length<=1000/\(av vh->(((decide (vh<v5))=true->(av ((q3.s.ls.length:Int))->(bC (q3.s.ls.length+([(aQ (ve.1))]).length) 40/\(∃ u4:Unit,(vf/\((gg=gg/\(True/\(True/\(v6=v6/\(True/\(vb=vb/\(True/\(vg=vg/\(((q3.s.ls.length:Int))=vj/\True)))))))))/\((q3.s.ls++([(aQ (ve.1))]))=vl/\(sD v1 m2 q3))))))))/\((decide (vh<v5))=false->(∃ u4:Unit,(vf/\((gg=gg/\(True/\(True/\(v6=v6/\(True/\(vb=vb/\(True/\(vg=vg/\(vh=vj/\True)))))))))/\vi))))))))/\((!(decide ((ve.1).ah=v2)))=false->(∃ u4:Unit,(vf/\((gg=gg/\(True/\(True/\(v6=v6/\(True/\(vb=vb/\(True/\(vg=vg/\((-1:Int)=vj/\True)))))))))/\vi))))))/\(∀ u4:Unit,(vf->(bC (q3.s.rw.length+([vj]).length) 8/\(av (vg+v2)/\(∃ q5:Em,(BI false gg e v1.i v1.nx v8 m2.a m2.rows q5.c q5.s/\(gg.aw.toNat - q5.c<gg.aw.toNat - q3.c/\((gg=gg/\(True/\(True/\(v6=v6/\(True/\(vb=vb/\(True/\((vg+v2)=(q5.c:Int)/\True))))))))/\(vl=q5.s.ls/\((q3.s.rw++([vj]))=q5.s.rw/\(m2.rows=m2.rows/\v9)))))))))))))))))/\((decide (vg<gg.aw))=false->(bC (m2.rows.length+([q3.s.rw]).length) 24/\(av (vb+v2)/\(∃ m4:En,(BM false gg e v1.i v1.nx v8 m4.a m4.ls m4.rows/\(v4.toNat - m4.a<v4.toNat - m2.a/\((gg=gg/\(True/\(True/\(v6=v6/\(True/\((vb+v2)=(m4.a:Int)/\True))))))/\(q3.s.ls=m4.ls/\((m2.rows++([q3.s.rw]))=m4.rows/\v9)))))))))))))))/\((decide (vb<v4))=false->(bC (v1.nx.length+([m2.rows]).length) 24/\(av ((m2.ls.length:Int))->((vc=true->v0)/\(vc=false->(av (v6+v2)/\(∃ v3:Eo,(BO false gg e v3.i v3.ls v3.nx/\(60 - v3.i<60 - v1.i/\((gg=gg/\(True/\(True/\((v6+v2)=(v3.i:Int)/\True))))/\(m2.ls=v3.ls/\((v1.nx++([m2.rows]))=v3.nx/\True)))))))))))))))))))/\((decide (v6<va))=false->(v1.ls=(cO gg e)/\(v1.nx=(eN gg e)/\v5=(du gg e)))))))))))) ?_;obtain⟨hg,he,hn⟩:=hp;have hq:=(dy gg).1 hg;have ha:=jc gg hq.1;refine⟨?_,⟨(Eo.mk 0 [eu e] []),?_,⟨rfl,ag,ag,?_,ag⟩,?_,?_,ag⟩,λ v1 _ _=>⟨λ _=>⟨⟨(En.mk 0 v1.ls []),?_,⟨rfl,ag,ag,rfl,ag,?_,ag⟩,?_,?_,rfl,ag⟩,λ m2 _=>⟨?_,λ _=>⟨λ _=>⟨⟨(Em.mk 0 (j9.mk m2.ls [])),?_,⟨rfl,ag,ag,rfl,ag,rfl,ag,?_,ag⟩,?_,?_,rfl,rfl,ag⟩,λ q3 _ _=>⟨λ _=>⟨?_,?_,λ _=>⟨?_,?_,?_⟩,λ _=>⟨λ _=>⟨λ _=>⟨?_,λ _=>⟨λ _ _=>⟨?_,(),?_,⟨rfl,ag,ag,rfl,ag,rfl,ag,rfl,?_,ag⟩,?_,⟨rfl,rfl,rfl,ag⟩,⟨rfl,rfl,rfl,ag⟩,rfl,rfl,rfl,ag⟩,λ _=>⟨(),?_,⟨rfl,ag,ag,rfl,ag,rfl,ag,rfl,?_,ag⟩,?_,⟨rfl,rfl,rfl,ag⟩,⟨rfl,rfl,rfl,ag⟩,rfl,rfl,rfl,ag⟩⟩⟩,λ _=>⟨(),?_,⟨rfl,ag,ag,rfl,ag,rfl,ag,rfl,?_,ag⟩,?_,⟨rfl,rfl,rfl,ag⟩,⟨rfl,rfl,rfl,ag⟩,rfl,rfl,rfl,ag⟩⟩,λ u4 _=>⟨?_,?_,(Em.mk (q3.c+1) (j9.mk (oG q3.s.ls (bI (m2.a:Int) (q3.c:Int) (q3.s.ls.getD v1.i zE)).1) (q3.s.rw++[By q3.s.ls (bI (m2.a:Int) (q3.c:Int) (q3.s.ls.getD v1.i zE)).1]))),?_,?_,⟨rfl,ag,ag,rfl,ag,rfl,ag,?_,ag⟩,?_,?_,rfl,rfl,ag⟩⟩⟩,λ _=>⟨?_,?_,(En.mk (m2.a+1) q3.s.ls (m2.rows++[q3.s.rw])),?_,?_,⟨rfl,ag,ag,rfl,ag,?_,ag⟩,?_,?_,rfl,ag⟩⟩⟩,λ _=>⟨?_,λ _=>⟨λ _=>⟨?_,?_,?_⟩,λ _=>⟨?_,(Eo.mk (v1.i+1) m2.ls (v1.nx++[m2.rows])),?_,?_,⟨rfl,ag,ag,?_,ag⟩,?_,?_,ag⟩⟩⟩⟩⟩⟩,λ _=>⟨?_,?_,?_⟩⟩⟩;all_goals try and_intros
 all_goals try (first|with_reducible rfl|with_reducible assumption)
 all_goals try simp only[J.eta,cu] at *
 all_goals (try simp only[b1g,b1r,b0R,b0Q,aI,av,bC,b1H,b0Y,b0W,b1f] at *);first|with_reducible assumption|omega|with_reducible rfl|exact trivial|exact BO.first _ _ _ he hn|exact BO.go (by with_reducible assumption) (by omega)|exact BM.go (by with_reducible assumption) (by omega)|exact BM.done (by with_reducible assumption) (by omega) (by omega)|exact BI.done (by with_reducible assumption) (by omega) (by omega)|(obtain⟨_,_,_,_,_,_,_,_⟩:=(BI.lens (b:=false) (e:=e) (by with_reducible assumption) hg);omega)|(obtain⟨_,_,_,_,_,_⟩:=(BM.lens (b:=false) (e:=e) (by with_reducible assumption) hg);omega)|(obtain⟨_,_,_⟩:=(BO.lens (b:=false) (e:=e) (by with_reducible assumption));omega)|exact (fR (BI.Kd (by with_reducible assumption) (by omega) (by with_reducible assumption))).1.symm|exact (fR (BI.Kd (by with_reducible assumption) (by omega) (by with_reducible assumption))).2.1.symm|exact (fR (BI.Kd (by with_reducible assumption) (by omega) (by with_reducible assumption))).2.2.symm|exact (fR (BM.over (by with_reducible assumption) (by omega) (by omega))).1.symm|exact (fR (BM.over (by with_reducible assumption) (by omega) (by omega))).2.1.symm|exact (fR (BM.over (by with_reducible assumption) (by omega) (by omega))).2.2.symm|exact (uZ (BO.done (by with_reducible assumption) (by omega))).1.symm|exact (uZ (BO.done (by with_reducible assumption) (by omega))).2.1.symm|exact (uZ (BO.done (by with_reducible assumption) (by omega))).2.2.symm|exact (BI.get (by with_reducible assumption)).1|exact (BI.get (by with_reducible assumption)).2|exact BI.a6Q (by with_reducible assumption) (by omega) (by with_reducible assumption)|exact (LC (by with_reducible assumption)).1|exact (LC (by with_reducible assumption)).2|exact (LD (by with_reducible assumption) (by omega)).1|exact (LD (by with_reducible assumption) (by omega)).2|exact (LF (by with_reducible assumption) (by omega)).1|exact (LF (by with_reducible assumption) (by omega)).2|rfl
noncomputable def sP(x:J)(a:Nat):List Bool:=(List.range a).map λ (i:Nat)=>eC (i:Int) x
noncomputable def lf(gg:aF)(ls:List J):List (List Bool):=ls.map λ x=>sP x (bn gg).toNat
def a1e(x:J)(a:Nat):sP x a++[eC (a:Int) x]=sP x (a+1):=by simp[sP,b4N]
def Oy(x:J)(a:Nat):(sP x a).length=a:=by simp[sP]
def a6i(gg:aF)(ls:List J)(k:Nat)(h:k<ls.length):lf gg (ls.take k)++[sP (ls.getD k zE) (bn gg).toNat]=lf gg (ls.take (k+1)):=by
 rw[nf zE ls k h];simp[lf]
def a1g(gg:aF)(ls:List J)(k:Nat)(h:k<=ls.length):(lf gg (ls.take k)).length=k:=by simp[lf];omega
noncomputable def gG(gg:aF)(e:J):ae:=if du gg e=0 then ae.mk gg (lf gg (cO gg e)) (eN gg e) else ae.mk (aF.mk (0:Int) (0:Int)) [] []
def R7{b:Bool}{gg:aF}{e:J}(h4s:gg.aw.toNat<=4):∀ (f i:Nat) (ls:List J) (nx:List (List (List Int))),f+i=61->BO b gg e i ls nx->∀ q,lM b gg e=some q->∃ j,BO b gg e j q.1 q.2/\q.1.length<=j
 | 0,i,ls,nx,hf,h,q,hq=>by have:=h.le;have:=h.lV;omega
 | f+1,i,ls,nx,hf,h,q,hq=>by
  by_cases hi:i<ls.length
  .have hm:∀ (m a:Nat),m+a=(bn gg).toNat->∀ pB rows,BM b gg e i nx (ls.getD i zE) a pB rows->∃ j,BO b gg e j q.1 q.2/\q.1.length<=j:=by
    intro m;induction m with
    | zero =>
     intro a ha pB rows hB;by_cases h6:pB.length<=60
     .exact R7 h4s f (i+1) pB _ (by omega) (hB.done (by omega) h6) q hq
     .have:=hB.over (by omega) (by omega);rw[this] at hq;cases hq
    | succ m ih =>
     intro a ha pB rows hB;have hc:∀ (n c:Nat),n+c=gg.aw.toNat->∀ s,BI b gg e i nx (ls.getD i zE) a rows c s->∃ j,BO b gg e j q.1 q.2/\q.1.length<=j:=by
      intro n;induction n with
      | zero =>
       intro c hc s hI;exact ih (a+1) (by omega) s.ls (rows++[s.rw]) (hI.done h4s (by omega))
      | succ n Xp =>
       intro c hc s hI;cases hs:(bI (a:Int) (c:Int) (ls.getD i zE)).2 with
       | false=>have:=hI.w0 (by omega) hs;rw[this] at hq;cases hq
       | true =>
        by_cases h2:(cC (a:Int) (c:Int) (ls.getD i zE)).ah=1
        .exact Xp (c+1) (by omega) _ (hI.w1 (by omega) hs h2)
        .by_cases h3:gm s.ls (cC (a:Int) (c:Int) (ls.getD i zE))<0
         .by_cases h4:b=true/\s.ls.length=60
          .obtain⟨rfl,h4⟩:=h4;have:=hI.w4 (by omega) hs h2 h3 h4;rw[this] at hq;cases hq
          .exact Xp (c+1) (by omega) _ (hI.w3 (by omega) hs h2 h3 λ hb hl=>h4 ⟨hb,hl⟩)
         .exact Xp (c+1) (by omega) _ (hI.w2 (by omega) hs h2 (by omega))
     exact hc gg.aw.toNat 0 rfl _ (hB.go (by omega))
   exact hm _ 0 rfl _ _ (h.go hi)
  .have:=h.done (by omega);rw[this] at hq;cases hq;exact⟨i,h,by show ls.length<=i;omega⟩
structure a4x(gg:aF)(e:J):Prop where
 pos:0<(cO gg e).length
 lV:(cO gg e).length<=60
 len:(eN gg e).length=(cO gg e).length
 ok:Nj (bn gg).toNat gg.aw.toNat (cO gg e).length (eN gg e)
 su:pj (cO gg e)
def T6(gg:aF)(e:J)(hg:bS gg=true)(he:aA e=true)(hn:ar e<=1000)(h:du gg e=0):a4x gg e:=by
 rw[dy] at hg;cases hs:lM false gg e with
 | none=>have:=(fR hs).2.2;rw[this] at h;cases h
 | some q =>
  obtain⟨j,hB,hj⟩:=R7 (by omega) 61 0 _ _ rfl (BO.first false gg e he hn) q hs;obtain⟨h1,h2,_⟩:=uZ (ls:=q.1) (nx:=q.2) hs;have:=hB.le;exact⟨by rw[h1];exact hB.pos,by rw[h1];exact hB.lV,by rw[h1,h2];have:=hB.vF;omega,by rw[h1,h2];exact hB.ok,by rw[h1];exact hB.su⟩
def a4z{gg:aF}{e:J}(h:du gg e=0):ae.mk gg (lf gg (cO gg e)) (eN gg e)=gG gg e:=by rw[gG,b0T h]
def LG{gg:aF}{e:J}(h:¬ du gg e=0):ae.mk (aF.mk (0:Int) (0:Int)) [] []=gG gg e:=by rw[gG,b0N h]
structure jI(gg:aF)(e:J)(k:Nat):Prop where
 ok:a4x gg e
 c:du gg e=0
 le:k<=(cO gg e).length
def jI.lens{gg:aF}{e:J}{k:Nat}(h:jI gg e k):(lf gg ((cO gg e).take k)).length=k/\k<=(cO gg e).length/\(cO gg e).length<=60/\(eN gg e).length<=60 :=
 ⟨a1g gg _ k h.le,h.le,h.ok.lV,by rw[h.ok.len];exact h.ok.lV⟩
def jI.get{gg:aF}{e:J}{k:Nat}(h:jI gg e k)(hk:k<(cO gg e).length):aA ((cO gg e).getD k zE)=true:=(h.ok.su.get hk).1
def jI.next{gg:aF}{e:J}{k:Nat}(h:jI gg e k)(hk:k<(cO gg e).length):jI gg e (k+1):=⟨h.ok,h.c,hk⟩
def jI.step{gg:aF}{e:J}{k a:Nat}(_h:jI gg e k)(hk:k<(cO gg e).length)(ha:a<=(bn gg).toNat)(ha':(bn gg).toNat<=a):lf gg ((cO gg e).take k)++[sP ((cO gg e).getD k zE) a]=lf gg ((cO gg e).take (k+1)):=by
 rw[show a=(bn gg).toNat by omega];exact a6i gg _ k hk
def jI.done{gg:aF}{e:J}{k:Nat}(h:jI gg e k)(hk:(cO gg e).length<=k):ae.mk gg (lf gg ((cO gg e).take k)) (eN gg e)=gG gg e:=by
 rw[b1I hk];exact a4z h.c
def Bb:bc:=⟨Bp,[.v (.st .sig), .r (.st .expr)],λ (gg:aF) (e:J)=>⟨(some (bS gg=true/\aA e=true/\ar e<=1000),[⟨(.st .automaton),gG gg e⟩,⟨(.int .i64),du gg e⟩])⟩⟩
def M6(gg:aF)(e:J):Nat->aP:=(eR 0 (.mk (Nat) (λ k=>jI gg e k) (λ k=>(cO gg e).length - k) [] [0,1,5,7,8,13,14,15,16,17,18,19,20,21,24,25,26] (λ k=>[(10, .aO ⟨(.int .i64),((k:Int):Int)⟩)]) [4] (λ k=>[(9, .box [.aO ⟨(.int .i64),(gg.aS:Int)⟩, .aO ⟨(.int .i64),(gg.aw:Int)⟩, .row 3000, .aO ⟨(.slice (.slice (.slice (.int .i64)))),(eN gg e:List (List (List Int)))⟩]),(3000, .row Ro (.slice .bool) (lf gg ((cO gg e).take k):List (List Bool)))]) [] [] (λ k=>(eR 2 (.a (Nat) (λ a=>a<=(bn gg).toNat) (λ a=>(bn gg).toNat - a) [27,28,29,30,33] (λ a=>[(12, .aO ⟨(.int .i64),((a:Int):Int)⟩),(11, .row 33)]) [4,9,3000] (λ a=>[(33, .row HN .bool (sP ((cO gg e).getD k zE) a:List Bool))])) cw))) cw)
abbrev wE(gg:aF)(e:J)(k1:Nat):Prop:=((gg.aS=gg.aS/\(gg.aw=gg.aw/\(True/\((eN gg e)=(eN gg e)/\True))))/\((lf gg ((cO gg e).take k1))=(lf gg ((cO gg e).take k1))/\(((0:Int)=(0:Int)/\((0:Int)=(0:Int)/\(True/\(True/\True))))/\True)))
def GO:bc.Good Bb:=by
 refine⟨aH xZ,?_⟩;intro (gg:aF) (e:J) (hp:bS gg=true/\aA e=true/\ar e<=1000);refine bf [wN,iG,lj] [] [] [2] ⟨CD,im,sA,ag⟩ xZ Gj (M6 gg e) (let v0:=cO gg e;let v1:=gg.aS=gg.aS/\(gg.aw=gg.aw/\(True/\((eN gg e)=(eN gg e)/\True)));let v3:=(0:Int);let v2:=(v3=v3/\(v3=v3/\(True/\(True/\True))))/\True;let v4:=bn gg;let v5:=du gg e;let v6:=(v0.length:Int);(((bS gg=true/\aA e=true/\ar e<=1000)/\(v0.length<=140737488355328->((eN gg e).length<=140737488355328->(av v5->(((!(decide (v5=v3)))=true->((ae.mk (aF.mk v3 v3) [] [])=(gG gg e)/\v5=v5))/\((!(decide (v5=v3)))=false->((∃ k1:Nat,(jI gg e k1/\((gg=gg/\(True/\(v0=v0/\(True/\(v3=(k1:Int)/\True)))))/\(v1/\((lf gg (v0.take k1))=[]/\v2)))))/\(∀ k1:Nat,let v7:=v0.getD k1 zE;let v8:=(k1:Int);let v9:=lf gg (v0.take k1);(jI gg e k1->(av v6->(((decide (v8<v6))=true->((∃ a2:Nat,(a2<=v4.toNat/\((gg=gg/\(True/\(v0=v0/\(True/\(v8=v8/\(True/\(v3=(a2:Int)/\True)))))))/\([]=(sP v7 a2)/\(wE gg e k1)))))/\(∀ a2:Nat,let va:=(a2:Int);(a2<=v4.toNat->((0<=gg.aS/\gg.aS<=3)/\(av v4->(((decide (va<v4))=true->(aI v8 v0.length/\((aA v7=true/\0<=va/\va<=4096)/\(bC ((sP v7 a2).length+([(eC va v7)]).length) 1/\(av (va+(1:Int))/\(∃ a3:Nat,(a3<=v4.toNat/\(v4.toNat - a3<v4.toNat - a2/\((gg=gg/\(True/\(v0=v0/\(True/\(v8=v8/\(True/\((va+(1:Int))=(a3:Int)/\True)))))))/\(((sP v7 a2)++([(eC va v7)]))=(sP v7 a3)/\(wE gg e k1)))))))))))/\((decide (va<v4))=false->(bC (v9.length+([(sP v7 a2)]).length) 24/\(av (v8+(1:Int))/\(∃ k3:Nat,(jI gg e k3/\(v0.length - k3<v0.length - k1/\((gg=gg/\(True/\(v0=v0/\(True/\((v8+(1:Int))=(k3:Int)/\True)))))/\(v1/\((v9++([(sP v7 a2)]))=(lf gg (v0.take k3))/\v2))))))))))))))))/\((decide (v8<v6))=false->((ae.mk (aF.mk gg.aS gg.aw) v9 (eN gg e))=(gG gg e)/\v3=v5))))))))))))))) ?_;obtain⟨hg,he,hn⟩:=hp;have hq:=(dy gg).1 hg;have ha:=jc gg hq.1;refine⟨?_,λ _ _ a2=>⟨λ a3=>⟨?_,rfl⟩,λ a3=>⟨⟨0,?_,⟨rfl,ag,rfl,ag,?_,ag⟩,⟨rfl,rfl,ag,rfl,ag⟩,?_,⟨rfl,rfl,ag,ag,ag⟩,ag⟩,λ k1 _ _=>⟨λ _=>⟨⟨0,?_,⟨rfl,ag,rfl,ag,rfl,ag,?_,ag⟩,?_,⟨rfl,rfl,ag,rfl,ag⟩,rfl,⟨rfl,rfl,ag,ag,ag⟩,ag⟩,λ a2 _=>⟨?_,λ _=>⟨λ _=>⟨?_,?_,?_,?_,a2+1,?_,?_,⟨rfl,ag,rfl,ag,rfl,ag,?_,ag⟩,?_,⟨rfl,rfl,ag,rfl,ag⟩,rfl,⟨rfl,rfl,ag,ag,ag⟩,ag⟩,λ _=>⟨?_,?_,k1+1,?_,?_,⟨rfl,ag,rfl,ag,?_,ag⟩,⟨rfl,rfl,ag,rfl,ag⟩,?_,⟨rfl,rfl,ag,ag,ag⟩,ag⟩⟩⟩⟩,λ _=>⟨?_,?_⟩⟩⟩⟩⟩;all_goals try and_intros
 all_goals (try simp only[b1g,b1r,b0R,b0Q,aI,av,bC,b1H,b0Y,b0W,b1f,Oy] at *);first|with_reducible assumption|omega|with_reducible rfl|exact trivial|(obtain⟨_,_,_,_⟩:=jI.lens (by with_reducible assumption);omega)|exact jI.mk (T6 gg e hg he hn (by omega)) (by omega) (b1G _)|exact jI.get (by with_reducible assumption) (by omega)|exact jI.next (by with_reducible assumption) (by omega)|exact jI.step (by with_reducible assumption) (by omega) (by omega) (by omega)|exact a1e _ _|exact LG (by omega)|exact jI.done (gg:=gg) (by with_reducible assumption) (by omega)|exact congrArg ae.sig (LG (by omega))|exact congrArg ae.sig (jI.done (gg:=gg) (by with_reducible assumption) (by omega))|exact congrArg ae.accept (LG (by omega))|exact congrArg ae.accept (jI.done (gg:=gg) (by with_reducible assumption) (by omega))|exact congrArg ae.next (LG (by omega))|exact congrArg ae.next (jI.done (gg:=gg) (by with_reducible assumption) (by omega))|rfl
structure OkE(gg:aF)(e:J):Prop where
 s:bS gg=true
 g:aA e=true
 n:ar e<=1000
def lG{gg:aF}{e:J}(h:dZ gg e=true):OkE gg e:=by
 unfold dZ at h;rw[Bool.and_eq_true] at h;have hE:=(a1X gg e).1 h.2;have hq:=(dy gg).1 h.1;refine⟨h.1,?_,by omega⟩;have h1:=hE.1;rw[P3 _ (by omega),P3 _ (by omega)] at h1;exact DO _ _ 9 9 (by omega) (by omega) e h1
def ie(ls:List J)(t:List UInt8):Option Int:=if (ls.findIdx λ y=>decide (bH y=t))<ls.length then some ((ls.findIdx λ y=>decide (bH y=t):Nat):Int) else none
def find_congr{α:Type}{p q:α->Bool}:∀ (l:List α),(∀ x∈l,p x=q x)->l.findIdx p=l.findIdx q
 | [],_=>rfl
 | x::l,h=>by
  rw[b3P,b3P,h x (by simp),find_congr l λ y hy=>h y (by simp[hy])]
def Ul{ls:List J}{d:J}(h:pj ls)(hd:aA d=true):ie ls (bH d)=if 0<=gm ls d then some (gm ls d) else none:=by
 have e:(ls.findIdx λ y=>decide (bH y=bH d))=yh ls d:=find_congr ls λ y hy=>by
  by_cases q:y=d
  .subst q;simp
  .have:¬ bH y=bH d:=λ e=>q (QE (h y hy).1 hd e);rw[decide_eq_false this,RF.2 q]
 unfold ie;rw[e];unfold gm;by_cases hl:yh ls d<ls.length
 .rw[b0T hl,b0T hl,b0T (by omega)]
 .rw[b0N hl,b0N hl,b0N (by omega)]
def a7m(x:J):fb (iL (List UInt8) Int) (bH x) (0:Int)=ie [x]:=by
 funext t;by_cases h:t=bH x
 .subst h;rw[pD];simp[ie]
 .rw[iW _ _ _ h];have h':¬ bH x=t:=λ e=>h e.symm;simp[iL,ie,b3P,h']
def a7o{ls:List J}{d:J}(h:pj ls)(hd:aA d=true)(hf:gm ls d<0):fb (ie ls) (bH d) (ls.length:Int)=ie (ls++[d]):=by
 have hn:=Ul h hd;rw[b0N (by omega)] at hn;funext t;by_cases ht:t=bH d
 .subst ht;rw[pD];unfold ie at hn ⊢;have hl:¬ (ls.findIdx λ y=>decide (bH y=bH d))<ls.length:=λ q=>by rw[if_pos q] at hn;cases hn
  have hle:(ls.findIdx λ y=>decide (bH y=bH d))<=ls.length:=b4Q;rw[List.findIdx_append,b0N hl];simp
 .rw[iW _ _ _ ht];unfold ie;rw[List.findIdx_append];by_cases hl:(ls.findIdx λ y=>decide (bH y=t))<ls.length
  .rw[b0T hl,b0T hl,b0T (by simp;omega)]
  .have h':¬ bH d=t:=λ e=>ht e.symm;rw[b0N hl,b0N hl];simp[b3P,h'];omega
def a7n{ls:List J}{d:J}(h:pj ls)(hd:aA d=true)(hf:gm ls d<0):gv (ie ls (bH d)) ls.length=(ls++[d]).length:=by
 have hn:=Ul h hd;rw[b0N (by omega)] at hn;rw[hn];simp[gv]
def BI.Xy{gg:aF}{e:J}{i:Nat}{nx:List (List (List Int))}{x:J}{a:Nat}{rows:List (List Int)}{c:Nat}{s:j9}(h:BI true gg e i nx x a rows c s)(hc:c<gg.aw.toNat)(h1:(bI (a:Int) (c:Int) (s.ls.getD i zE)).2=true)
  (h4:¬ (cC (a:Int) (c:Int) (s.ls.getD i zE)).ah=1->gm s.ls (cC (a:Int) (c:Int) (s.ls.getD i zE))<0->¬ s.ls.length=60) :
  BI true gg e i nx x a rows (c+1) ⟨oG s.ls (cC (a:Int) (c:Int) (s.ls.getD i zE)),s.rw++[By s.ls (cC (a:Int) (c:Int) (s.ls.getD i zE))]⟩:=by
 rw[h.hx] at h1 h4 ⊢;exact h.a2w hc h1 λ _=>h4
def BI.XG{gg:aF}{e:J}{i:Nat}{nx:List (List (List Int))}{x:J}{a:Nat}{rows:List (List Int)}{c:Nat}{s:j9}(h:BI true gg e i nx x a rows c s)(hc:c<gg.aw.toNat)(h1:(bI (a:Int) (c:Int) (s.ls.getD i zE)).2=true)
  (h2:¬ (cC (a:Int) (c:Int) (s.ls.getD i zE)).ah=1) (h3:gm s.ls (cC (a:Int) (c:Int) (s.ls.getD i zE))<0) (h4:s.ls.length=60):lM true gg e=none:=by
 rw[h.hx] at h1 h2 h3;exact h.w4 hc h1 h2 h3 h4
structure tA(a c:Int)(ls:List J)(i:Nat):Prop where
 gs:pj ls
 t:(bI a c (ls.getD i zE)).2=true
 g:aA (cC a c (ls.getD i zE))=true
 n:ar (cC a c (ls.getD i zE))<=800
def BI.dd{b:Bool}{gg:aF}{e:J}{i:Nat}{nx:List (List (List Int))}{x:J}{a:Nat}{rows:List (List Int)}{c:Nat}{s:j9}(h:BI b gg e i nx x a rows c s)(h1:(bI (a:Int) (c:Int) (s.ls.getD i zE)).2=true):tA (a:Int) (c:Int) s.ls i:=by
 have q:=diT (a:Int) (c:Int) _ h.get.1;exact⟨h.su,h1,q.g h1,q.n h1⟩
def tA.tx{a c:Int}{ls:List J}{i:Nat}(h:tA a c ls i):(bH (cC a c (ls.getD i zE))).length<=1000000:=Um _ h.g (by have:=h.n;omega)
def tA.yes{a c:Int}{ls:List J}{i:Nat}(h:tA a c ls i)(hs:(ie ls (bH (cC a c (ls.getD i zE)))).isSome=true):(ie ls (bH (cC a c (ls.getD i zE)))).getD (0:Int)=gm ls (cC a c (ls.getD i zE))/\¬ gm ls (cC a c (ls.getD i zE))<0:=by
 rw[Ul h.gs h.g] at hs ⊢;by_cases h3:0<=gm ls (cC a c (ls.getD i zE))
 .rw[b0T h3];exact⟨rfl,by omega⟩
 .rw[b0N h3] at hs;cases hs
def tA.no{a c:Int}{ls:List J}{i:Nat}(h:tA a c ls i)(hs:(ie ls (bH (cC a c (ls.getD i zE)))).isSome=false):gm ls (cC a c (ls.getD i zE))<0:=by
 rw[Ul h.gs h.g] at hs;by_cases h3:0<=gm ls (cC a c (ls.getD i zE))
 .rw[b0T h3] at hs;cases hs
 .omega
structure JM(gg:aF)(a c:Int)(ls:List J)(i:Nat):Prop where
 hc:c<gg.aw
 d:tA a c ls i
 k:¬ (cC a c (ls.getD i zE)).ah=1
 f:gm ls (cC a c (ls.getD i zE))<0->¬ ls.length=60
structure JN(gg:aF)(a c:Int)(ls:List J)(i:Nat):Prop where
 hc:c<gg.aw
 d:tA a c ls i
 f:¬ (cC a c (ls.getD i zE)).ah=1->gm ls (cC a c (ls.getD i zE))<0->¬ ls.length=60
def JM.n{gg:aF}{a c:Int}{ls:List J}{i:Nat}(h:JM gg a c ls i):JN gg a c ls i:=⟨h.hc,h.d,λ _=>h.f⟩
def JN.go{gg:aF}{e:J}{i:Nat}{nx:List (List (List Int))}{x:J}{a:Nat}{rows:List (List Int)}{c:Nat}{s:j9}(h:BI true gg e i nx x a rows c s)(j:JN gg (a:Int) (c:Int) s.ls i) :
  BI true gg e i nx x a rows (c+1) ⟨oG s.ls (cC (a:Int) (c:Int) (s.ls.getD i zE)),s.rw++[By s.ls (cC (a:Int) (c:Int) (s.ls.getD i zE))]⟩:=h.Xy (by have:=j.hc;omega) j.d.t j.f
def a2k{a c:Int}{ls:List J}{i:Nat}(h:(cC a c (ls.getD i zE)).ah=1):ie ls=ie (oG ls (cC a c (ls.getD i zE)))/\ls.length=(oG ls (cC a c (ls.getD i zE))).length:=by rw[<-(LC (ls:=ls) h).2];exact⟨rfl,rfl⟩
def a2l{a c:Int}{ls:List J}{i:Nat}(h:¬ (cC a c (ls.getD i zE)).ah=1)(h2:¬ gm ls (cC a c (ls.getD i zE))<0):ie ls=ie (oG ls (cC a c (ls.getD i zE)))/\ls.length=(oG ls (cC a c (ls.getD i zE))).length:=by rw[<-(LD h h2).2];exact⟨rfl,rfl⟩
def a2m{a c:Int}{ls:List J}{i:Nat}(q:tA a c ls i)(h:¬ (cC a c (ls.getD i zE)).ah=1)(h2:gm ls (cC a c (ls.getD i zE))<0):fb (ie ls) (bH (cC a c (ls.getD i zE))) (ls.length:Int)=ie (oG ls (cC a c (ls.getD i zE)))/\gv (ie ls (bH (cC a c (ls.getD i zE)))) ls.length=(oG ls (cC a c (ls.getD i zE))).length:=by
 rw[<-(LF h h2).2];exact⟨a7o q.gs q.g h2,a7n q.gs q.g h2⟩
def Zl(e:J)(he:aA e=true)(hn:ar e<=1000):aA (eu e)=true/\(bH (eu e)).length<=1000000:=⟨(u9 e he).g,Um _ (u9 e he).g (by have:=(u9 e he).n;omega)⟩
def yI:bc:=⟨yR,[.v (.st .sig), .v (.st .expr)],λ (gg:aF) (e:J)=>⟨(some (bS gg=true/\aA e=true/\ar e<=1000),[⟨(.slice (.st .expr)),cO gg e⟩,⟨(.slice (.slice (.slice (.int .i64)))),eN gg e⟩,⟨(.int .i64),du gg e⟩])⟩⟩
def KK(gg:aF)(e:J):Nat->aP:=(eR 0 (.mk (Eo) (λ v=>BO true gg e v.i v.ls v.nx) (λ v=>60 - v.i) [] [0,1,3,20,21,22,23,24,25,26,27,28,29] (λ v=>[(10, .aO ⟨(.int .i64),((v.i:Int):Int)⟩),(7, .row 22),(8, .mp 23),(9, .row 29)]) [] (λ v=>[(22, .row ff (.st .expr) (v.ls:List J)),(23, .map ⟨.str,(.int .i64),(ie v.ls:List UInt8->Option Int),v.ls.length⟩),(29, .row HO (.slice (.slice (.int .i64))) (v.nx:List (List (List Int))))]) [] [] (λ v=>(eR 2 (.mk (En) (λ m=>BM true gg e v.i v.nx (v.ls.getD v.i zE) m.a m.ls m.rows) (λ m=>(bn gg).toNat - m.a) [] [30,31,32,33,36,37] (λ m=>[(39, .aO ⟨(.int .i64),((m.a:Int):Int)⟩),(11, .row 36),(7, .row 22),(8, .mp 23)]) [29] (λ m=>[(22, .row ff (.st .expr) (m.ls:List J)),(23, .map ⟨.str,(.int .i64),(ie m.ls:List UInt8->Option Int),m.ls.length⟩),(36, .row N1 (.slice (.int .i64)) (m.rows:List (List Int)))]) [] [] (λ m=>(eR 4 (.mk (Em) (λ q=>BI true gg e v.i v.nx (v.ls.getD v.i zE) m.a m.rows q.c q.s) (λ q=>gg.aw.toNat - q.c) [] [40,41,42,43] (λ q=>[(45, .aO ⟨(.int .i64),((q.c:Int):Int)⟩),(13, .row 42),(7, .row 22),(8, .mp 23)]) [29,36] (λ q=>[(22, .row ff (.st .expr) (q.s.ls:List J)),(23, .map ⟨.str,(.int .i64),(ie q.s.ls:List UInt8->Option Int),q.s.ls.length⟩),(42, .row nH (.int .i64) (q.s.rw:List Int))]) [] [] (λ q=>(eR 100028 (.u (JM gg (m.a:Int) (q.c:Int) q.s.ls v.i) [14,15,16,17,19,46,47,48,49,50,51,52,53,54,55,56,57,58,59,60,61,62,66,67,68,69,70,71,72,73] [(18, .aO ⟨(.int .i64),(By q.s.ls (cC (m.a:Int) (q.c:Int) (q.s.ls.getD v.i zE)):Int)⟩),(7, .row 22),(8, .mp 23)] [15,29,36,42] [(22, .row ff (.st .expr) ((oG q.s.ls (cC (m.a:Int) (q.c:Int) (q.s.ls.getD v.i zE))):List J)),(23, .map ⟨.str,(.int .i64),(ie (oG q.s.ls (cC (m.a:Int) (q.c:Int) (q.s.ls.getD v.i zE))):List UInt8->Option Int),((oG q.s.ls (cC (m.a:Int) (q.c:Int) (q.s.ls.getD v.i zE))).length)⟩)] cw) (eR 100029 (.u (JN gg (m.a:Int) (q.c:Int) q.s.ls v.i) [46] [(13, .row 42),(7, .row 22),(8, .mp 23)] [29,36] [(22, .row ff (.st .expr) ((oG q.s.ls (cC (m.a:Int) (q.c:Int) (q.s.ls.getD v.i zE))):List J)),(23, .map ⟨.str,(.int .i64),(ie (oG q.s.ls (cC (m.a:Int) (q.c:Int) (q.s.ls.getD v.i zE))):List UInt8->Option Int),((oG q.s.ls (cC (m.a:Int) (q.c:Int) (q.s.ls.getD v.i zE))).length)⟩),(42, .row nH (.int .i64) (q.s.rw++[By q.s.ls (cC (m.a:Int) (q.c:Int) (q.s.ls.getD v.i zE))]:List Int))] cw) cw)))) cw))) cw))) cw)
abbrev Hb(gg:aF)(v1:Eo)(m2:En)(q3:Em):Prop:=(gg=gg/\(True/\(True/\(True/\((v1.i:Int)=(v1.i:Int)/\(True/\((m2.a:Int)=(m2.a:Int)/\(True/\((bn gg)=(bn gg)/\((m2.a:Int)=(m2.a:Int)/\(gg.aw=gg.aw/\((q3.c:Int)=(q3.c:Int)/\True))))))))))))
abbrev uv(v1:Eo)(m2:En)(q3:Em):Prop:=(let v0:=oG q3.s.ls (cC (m2.a:Int) (q3.c:Int) (q3.s.ls.getD v1.i zE));((ie q3.s.ls)=(ie v0)/\q3.s.ls.length=(v0.length)))
abbrev uw(v1:Eo)(m2:En)(q3:Em):Prop:=(let v0:=cC (m2.a:Int) (q3.c:Int) (q3.s.ls.getD (Int.toNat (v1.i:Int)) zE);((v0.ah=v0.ah/\(v0.aX=v0.aX/\(v0.U=v0.U/\True)))/\(q3.s.rw=q3.s.rw/\(m2.rows=m2.rows/\(v1.nx=v1.nx/\True)))))
def EI:bc.Good yI:=by
 refine⟨aH vO,?_⟩;intro (gg:aF) (e:J) (hp:bS gg=true/\aA e=true/\ar e<=1000);refine bf [sU,C2,jy,A2] [] [] [2,3] ⟨ru,IA,je,Gz,ag⟩ vO Ev (KK gg e) (let v0:=bn gg;let v2:=([(eu e)]).getD 0 zE;let v4:=[]=(cO gg e)/\([]=(eN gg e)/\(3:Int)=(du gg e));let v5:=(0:Int);let v6:=(1:Int);(((aA e=true/\ar e<=3000)/\(aI v5 ([(eu e)]).length/\((aA v2=true/\(bH v2).length<=1000000)/\((bH v2).length<=140737488355328->(0<1000000000/\((∃ v1:Eo,(BO true gg e v1.i v1.ls v1.nx/\((gg=gg/\(True/\(True/\(True/\(v5=(v1.i:Int)/\True)))))/\(([(eu e)])=v1.ls/\(((fb (iL (List UInt8) Int) (bH v2) v5)=(ie v1.ls)/\(gv (((iL (List UInt8) Int) (bH v2))) 0)=v1.ls.length)/\([]=v1.nx/\True))))))/\(∀ v1:Eo,let v8:=(v1.i:Int);let v7:=Int.toNat v8;let v9:=v1.nx=v1.nx/\True;let va:=v1.ls.getD v1.i zE;let vb:=(v1.ls.length:Int);(BO true gg e v1.i v1.ls v1.nx->(av vb->(((decide (v8<vb))=true->((0<=gg.aS/\gg.aS<=3)/\(av v0->((∃ m2:En,(BM true gg e v1.i v1.nx va m2.a m2.ls m2.rows/\((gg=gg/\(True/\(True/\(True/\(v8=v8/\(True/\(v0=v0/\(v5=(m2.a:Int)/\True))))))))/\(v1.ls=m2.ls/\(((ie v1.ls)=(ie m2.ls)/\v1.ls.length=m2.ls.length)/\([]=m2.rows/\v9))))))/\(∀ m2:En,let vc:=(m2.a:Int);let vd:=m2.rows=m2.rows/\v9;(BM true gg e v1.i v1.nx va m2.a m2.ls m2.rows->(((decide (vc<v0))=true->(av gg.aw->((∃ q3:Em,(BI true gg e v1.i v1.nx va m2.a m2.rows q3.c q3.s/\((gg=gg/\(True/\(True/\(True/\(v8=v8/\(True/\(vc=vc/\(True/\(v0=v0/\(vc=vc/\(gg.aw=gg.aw/\(v5=(q3.c:Int)/\True))))))))))))/\(m2.ls=q3.s.ls/\(((ie m2.ls)=(ie q3.s.ls)/\m2.ls.length=q3.s.ls.length)/\([]=q3.s.rw/\vd))))))/\(∀ q3:Em,let vh:=(q3.c:Int);let ve:=cC vc vh (q3.s.ls.getD v1.i zE);let vg:=oG q3.s.ls ve;let vj:=(q3.s.ls.length:Int);let vk:=v0=v0/\(vc=vc/\(gg.aw=gg.aw/\(vh=vh/\True)));let vl:=q3.s.ls.getD v7 zE;let vf:=cC vc vh vl;let vm:=q3.s.rw++[By q3.s.ls ve];let vn:=aQ vf;let vi:=((ie q3.s.ls) (bH vn));let vo:=By q3.s.ls ve;let vp:=Hb gg v1 m2 q3;(BI true gg e v1.i v1.nx va m2.a m2.rows q3.c q3.s->(((decide (vh<gg.aw))=true->((aI v8 q3.s.ls.length/\((aA vl=true/\ar vl<=1000/\0<=vc/\vc<=4096)/\(((!((bI vc vh vl).2))=true->v4)/\((!((bI vc vh vl).2))=false->(av vf.ah->(((decide (vf.ah=v6))=true->(bC (q3.s.rw.length+([(-1:Int)]).length) 8/\(∃ u4:Unit,(JN gg vc vh q3.s.ls v1.i/\(vp/\(q3.s.ls=vg/\((uv v1 m2 q3)/\((q3.s.rw++([(-1:Int)]))=vm/\vd))))))))/\((decide (vf.ah=v6))=false->((aA vn=true/\(bH vn).length<=1000000)/\((bH vn).length<=140737488355328->(av (Option.getD vi v5)->((((!(Option.isSome vi))=true->(av vj->(((decide (vj=(60:Int)))=true->v4)/\((decide (vj=(60:Int)))=false->(av vj->(q3.s.ls.length<1000000000/\(bC (q3.s.ls.length+([vn]).length) 40/\(∃ u4:Unit,(JM gg vc vh q3.s.ls v1.i/\((gg=gg/\(True/\(True/\(True/\(v8=v8/\(True/\(vc=vc/\(True/\(vj=vo/\vk)))))))))/\((q3.s.ls++([vn]))=vg/\(((fb (ie q3.s.ls) (bH vn) vj)=(ie vg)/\(gv vi q3.s.ls.length)=(vg.length))/\(uw v1 m2 q3)))))))))))))/\((!(Option.isSome vi))=false->(∃ u4:Unit,(JM gg vc vh q3.s.ls v1.i/\((gg=gg/\(True/\(True/\(True/\(v8=v8/\(True/\(vc=vc/\(True/\((Option.getD vi v5)=vo/\vk)))))))))/\(q3.s.ls=vg/\((uv v1 m2 q3)/\(uw v1 m2 q3))))))))/\(∀ u4:Unit,(JM gg vc vh q3.s.ls v1.i->(bC (q3.s.rw.length+([vo]).length) 8/\(∃ u5:Unit,(JN gg vc vh q3.s.ls v1.i/\(vp/\(vg=vg/\(((ie vg)=(ie vg)/\(vg.length)=(vg.length))/\((q3.s.rw++([vo]))=vm/\vd))))))))))))))))))))/\(∀ u4:Unit,(JN gg vc vh q3.s.ls v1.i->(av (vh+v6)/\(∃ q5:Em,(BI true gg e v1.i v1.nx va m2.a m2.rows q5.c q5.s/\(gg.aw.toNat - q5.c<gg.aw.toNat - q3.c/\((gg=gg/\(True/\(True/\(True/\(v8=v8/\(True/\(vc=vc/\(True/\(v0=v0/\(vc=vc/\(gg.aw=gg.aw/\((vh+v6)=(q5.c:Int)/\True))))))))))))/\(vg=q5.s.ls/\(((ie vg)=(ie q5.s.ls)/\(vg.length)=q5.s.ls.length)/\(vm=q5.s.rw/\vd))))))))))))/\((decide (vh<gg.aw))=false->(bC (m2.rows.length+([q3.s.rw]).length) 24/\(av (vc+v6)/\(∃ m4:En,(BM true gg e v1.i v1.nx va m4.a m4.ls m4.rows/\(v0.toNat - m4.a<v0.toNat - m2.a/\((gg=gg/\(True/\(True/\(True/\(v8=v8/\(True/\(v0=v0/\((vc+v6)=(m4.a:Int)/\True))))))))/\(q3.s.ls=m4.ls/\(((ie q3.s.ls)=(ie m4.ls)/\q3.s.ls.length=m4.ls.length)/\((m2.rows++([q3.s.rw]))=m4.rows/\v9))))))))))))))))/\((decide (vc<v0))=false->(bC (v1.nx.length+([m2.rows]).length) 24/\(av (v8+v6)/\(∃ v3:Eo,(BO true gg e v3.i v3.ls v3.nx/\(60 - v3.i<60 - v1.i/\((gg=gg/\(True/\(True/\(True/\((v8+v6)=(v3.i:Int)/\True)))))/\(m2.ls=v3.ls/\(((ie m2.ls)=(ie v3.ls)/\m2.ls.length=v3.ls.length)/\((v1.nx++([m2.rows]))=v3.nx/\True)))))))))))))))))/\((decide (v8<vb))=false->(v1.ls=(cO gg e)/\(v1.nx=(eN gg e)/\v5=(du gg e)))))))))))))))) ?_;obtain⟨hg,he,hn⟩:=hp;have hq:=(dy gg).1 hg;have ha:=jc gg hq.1;refine⟨?_,?_,?_,λ _=>⟨?_,⟨(Eo.mk 0 [eu e] []),?_,⟨rfl,ag,ag,ag,?_,ag⟩,?_,⟨?_,?_⟩,?_,ag⟩,λ v1 _ _=>⟨λ _=>⟨?_,λ _=>⟨⟨(En.mk 0 v1.ls []),?_,⟨rfl,ag,ag,ag,rfl,ag,rfl,?_,ag⟩,?_,⟨?_,?_⟩,?_,rfl,ag⟩,λ m2 _=>⟨λ _ _=>⟨⟨(Em.mk 0 (j9.mk m2.ls [])),?_,⟨rfl,ag,ag,ag,rfl,ag,rfl,ag,rfl,rfl,rfl,?_,ag⟩,?_,⟨?_,?_⟩,?_,rfl,rfl,ag⟩,λ q3 _=>⟨λ _=>⟨⟨?_,?_,λ _=>⟨?_,?_,?_⟩,λ _ _=>⟨λ _=>⟨?_,(),?_,⟨rfl,ag,ag,ag,rfl,ag,rfl,ag,rfl,rfl,rfl,rfl,ag⟩,?_,⟨?_,?_⟩,?_,rfl,rfl,ag⟩,λ _=>⟨?_,λ _ _=>⟨⟨λ _ _=>⟨λ _=>⟨?_,?_,?_⟩,λ _ _=>⟨?_,?_,(),?_,⟨rfl,ag,ag,ag,rfl,ag,rfl,ag,?_,rfl,rfl,rfl,rfl,ag⟩,?_,⟨?_,?_⟩,⟨rfl,rfl,rfl,ag⟩,rfl,rfl,rfl,ag⟩⟩,λ _=>⟨(),?_,⟨rfl,ag,ag,ag,rfl,ag,rfl,ag,?_,rfl,rfl,rfl,rfl,ag⟩,?_,⟨?_,?_⟩,⟨rfl,rfl,rfl,ag⟩,rfl,rfl,rfl,ag⟩⟩,λ u4 _=>⟨?_,(),?_,⟨rfl,ag,ag,ag,rfl,ag,rfl,ag,rfl,rfl,rfl,rfl,ag⟩,rfl,⟨rfl,rfl⟩,?_,rfl,rfl,ag⟩⟩⟩⟩⟩,λ u4 _=>⟨?_,(Em.mk (q3.c+1) (j9.mk (oG q3.s.ls (cC (m2.a:Int) (q3.c:Int) (q3.s.ls.getD v1.i zE))) (q3.s.rw++[By q3.s.ls (cC (m2.a:Int) (q3.c:Int) (q3.s.ls.getD v1.i zE))]))),?_,?_,⟨rfl,ag,ag,ag,rfl,ag,rfl,ag,rfl,rfl,rfl,?_,ag⟩,?_,⟨?_,?_⟩,?_,rfl,rfl,ag⟩⟩,λ _=>⟨?_,?_,(En.mk (m2.a+1) q3.s.ls (m2.rows++[q3.s.rw])),?_,?_,⟨rfl,ag,ag,ag,rfl,ag,rfl,?_,ag⟩,?_,⟨?_,?_⟩,?_,rfl,ag⟩⟩⟩,λ _=>⟨?_,?_,(Eo.mk (v1.i+1) m2.ls (v1.nx++[m2.rows])),?_,?_,⟨rfl,ag,ag,ag,?_,ag⟩,?_,⟨?_,?_⟩,?_,ag⟩⟩⟩⟩,λ _=>⟨?_,?_,?_⟩⟩⟩⟩;all_goals try and_intros
 all_goals try (first|with_reducible rfl|with_reducible assumption)
 all_goals try simp only[J.eta,cu] at *
 all_goals (try simp only[b1g,b1r,b0R,b0Q,aI,av,bC,b1H,b0Y,b0W,b1f] at *);first|with_reducible assumption|omega|with_reducible rfl|exact trivial|exact BO.first _ _ _ he hn|exact BO.go (by with_reducible assumption) (by omega)|exact BM.go (by with_reducible assumption) (by omega)|exact BM.done (by with_reducible assumption) (by omega) (by omega)|exact BI.done (by with_reducible assumption) (by omega) (by omega)|(obtain⟨_,_,_,_,_,_,_,_⟩:=(BI.lens (b:=true) (e:=e) (by with_reducible assumption) hg);omega)|(obtain⟨_,_,_,_,_,_⟩:=(BM.lens (b:=true) (e:=e) (by with_reducible assumption) hg);omega)|(obtain⟨_,_,_⟩:=(BO.lens (b:=true) (e:=e) (by with_reducible assumption));omega)|exact (fR (BI.Kd (by with_reducible assumption) (by omega) (by with_reducible assumption))).1.symm|exact (fR (BI.Kd (by with_reducible assumption) (by omega) (by with_reducible assumption))).2.1.symm|exact (fR (BI.Kd (by with_reducible assumption) (by omega) (by with_reducible assumption))).2.2.symm|exact (fR (BM.over (by with_reducible assumption) (by omega) (by omega))).1.symm|exact (fR (BM.over (by with_reducible assumption) (by omega) (by omega))).2.1.symm|exact (fR (BM.over (by with_reducible assumption) (by omega) (by omega))).2.2.symm|exact (uZ (BO.done (by with_reducible assumption) (by omega))).1.symm|exact (uZ (BO.done (by with_reducible assumption) (by omega))).2.1.symm|exact (uZ (BO.done (by with_reducible assumption) (by omega))).2.2.symm|exact (BI.get (by with_reducible assumption)).1|exact (BI.get (by with_reducible assumption)).2|exact a7m _|exact (Zl e he hn).1|exact (Zl e he hn).2|exact (BI.dd (by with_reducible assumption) (by with_reducible assumption)).g|exact (BI.dd (by with_reducible assumption) (by with_reducible assumption)).tx|exact JM.mk (by omega) (BI.dd (by with_reducible assumption) (by with_reducible assumption)) (by with_reducible assumption) (λ h=>absurd h (tA.yes (BI.dd (by with_reducible assumption) (by with_reducible assumption)) (by with_reducible assumption)).2)|exact JM.mk (by omega) (BI.dd (by with_reducible assumption) (by with_reducible assumption)) (by with_reducible assumption) (λ _=>by omega)|exact JN.mk (by omega) (BI.dd (by with_reducible assumption) (by with_reducible assumption)) (λ h=>absurd (by with_reducible assumption) h)|exact JM.n (by with_reducible assumption)|exact JN.go (by with_reducible assumption) (by with_reducible assumption)|exact (tA.yes (BI.dd (by with_reducible assumption) (by with_reducible assumption)) (by with_reducible assumption)).1.trans (LD (by with_reducible assumption) (tA.yes (BI.dd (by with_reducible assumption) (by with_reducible assumption)) (by with_reducible assumption)).2).1|exact (LF (by with_reducible assumption) (tA.no (BI.dd (by with_reducible assumption) (by with_reducible assumption)) (by with_reducible assumption))).1|exact (LC (by with_reducible assumption)).2|exact (LD (by with_reducible assumption) (tA.yes (BI.dd (by with_reducible assumption) (by with_reducible assumption)) (by with_reducible assumption)).2).2|exact (LF (by with_reducible assumption) (tA.no (BI.dd (by with_reducible assumption) (by with_reducible assumption)) (by with_reducible assumption))).2|exact (a2k (by with_reducible assumption)).1|exact (a2l (by with_reducible assumption) (tA.yes (BI.dd (by with_reducible assumption) (by with_reducible assumption)) (by with_reducible assumption)).2).1|exact (a2m (BI.dd (by with_reducible assumption) (by with_reducible assumption)) (by with_reducible assumption) (tA.no (BI.dd (by with_reducible assumption) (by with_reducible assumption)) (by with_reducible assumption))).1|exact (a2k (by with_reducible assumption)).2|exact (a2l (by with_reducible assumption) (tA.yes (BI.dd (by with_reducible assumption) (by with_reducible assumption)) (by with_reducible assumption)).2).2|exact (a2m (BI.dd (by with_reducible assumption) (by with_reducible assumption)) (by with_reducible assumption) (tA.no (BI.dd (by with_reducible assumption) (by with_reducible assumption)) (by with_reducible assumption))).2|exact (fR (BI.XG (by with_reducible assumption) (by omega) (by with_reducible assumption) (by with_reducible assumption) (tA.no (BI.dd (by with_reducible assumption) (by with_reducible assumption)) (by with_reducible assumption)) (by omega))).1.symm|exact (fR (BI.XG (by with_reducible assumption) (by omega) (by with_reducible assumption) (by with_reducible assumption) (tA.no (BI.dd (by with_reducible assumption) (by with_reducible assumption)) (by with_reducible assumption)) (by omega))).2.1.symm|exact (fR (BI.XG (by with_reducible assumption) (by omega) (by with_reducible assumption) (by with_reducible assumption) (tA.no (BI.dd (by with_reducible assumption) (by with_reducible assumption)) (by with_reducible assumption)) (by omega))).2.2.symm|exact BM.done (by with_reducible assumption) (by omega) (BM.b6 (by with_reducible assumption) rfl)|(rw[<-(LC (by with_reducible assumption)).1])|(simp[gv,iL];done)|exact (LC (by with_reducible assumption)).1|exact (LC (by with_reducible assumption)).2|exact (LD (by with_reducible assumption) (by omega)).1|exact (LD (by with_reducible assumption) (by omega)).2|exact (LF (by with_reducible assumption) (by omega)).1|exact (LF (by with_reducible assumption) (by omega)).2|rfl
def sF:bc:=⟨sH,[.v (.st .sig), .v (.st .expr)],λ (gg:aF) (e:J)=>⟨(some (bS gg=true/\aA e=true/\ar e<=1000),[⟨(.st .automaton),gG gg e⟩,⟨(.int .i64),du gg e⟩])⟩⟩
def ES(gg:aF)(e:J):Nat->aP:=(eR 0 (.mk (Nat) (λ k=>jI gg e k) (λ k=>(cO gg e).length - k) [] [0,1,3,5,6,7,8,14,15,16,17,18,19,20,21,22,25,26,27] (λ k=>[(30, .aO ⟨(.int .i64),((k:Int):Int)⟩)]) [4] (λ k=>[(9, .box [.aO ⟨(.int .i64),(gg.aS:Int)⟩, .aO ⟨(.int .i64),(gg.aw:Int)⟩, .row 3000, .aO ⟨(.slice (.slice (.slice (.int .i64)))),(eN gg e:List (List (List Int)))⟩]),(3000, .row Ro (.slice .bool) (lf gg ((cO gg e).take k):List (List Bool)))]) [] [] (λ k=>(eR 2 (.a (Nat) (λ a=>a<=(bn gg).toNat) (λ a=>(bn gg).toNat - a) [31,32,33,34,35] (λ a=>[(37, .aO ⟨(.int .i64),((a:Int):Int)⟩),(12, .row 34)]) [4,9,11,3000] (λ a=>[(34, .row HN .bool (sP ((cO gg e).getD k zE) a:List Bool))])) cw))) cw)
abbrev oR(gg:aF)(e:J)(k1:Nat):Prop:=(let v0:=(cO gg e).getD k1 zE;((v0.ah=v0.ah/\(v0.aX=v0.aX/\(v0.U=v0.U/\True)))/\((gg.aS=gg.aS/\(gg.aw=gg.aw/\(True/\((eN gg e)=(eN gg e)/\True))))/\((lf gg ((cO gg e).take k1))=(lf gg ((cO gg e).take k1))/\(((0:Int)=(0:Int)/\((0:Int)=(0:Int)/\(True/\(True/\True))))/\True)))))
def zU:bc.Good sF:=by
 refine⟨aH qh,?_⟩;intro (gg:aF) (e:J) (hp:bS gg=true/\aA e=true/\ar e<=1000);refine bf [yI,jy,mB] [] [] [2,3] ⟨EI,je,uf,ag⟩ qh zD (ES gg e) (let v0:=cO gg e;let v1:=(v0.length:Int);let v2:=gg.aS=gg.aS/\(gg.aw=gg.aw/\(True/\((eN gg e)=(eN gg e)/\True)));let v4:=bn gg;let v5:=(0:Int);let v3:=(v5=v5/\(v5=v5/\(True/\(True/\True))))/\True;let v6:=du gg e;(((bS gg=true/\aA e=true/\ar e<=1000)/\(v0.length<=140737488355328->((eN gg e).length<=140737488355328->(av v6->(((!(decide (v6=v5)))=true->((ae.mk (aF.mk v5 v5) [] [])=(gG gg e)/\v6=v6))/\((!(decide (v6=v5)))=false->(av v1->((∃ k1:Nat,(jI gg e k1/\((gg=gg/\(True/\(True/\(v0=v0/\(v1=v1/\(v5=(k1:Int)/\True))))))/\(v2/\((lf gg (v0.take k1))=[]/\v3)))))/\(∀ k1:Nat,let v7:=v0.getD k1 zE;let v8:=(k1:Int);let v9:=lf gg (v0.take k1);(jI gg e k1->(((decide (v8<v1))=true->(aI v8 v0.length/\((0<=gg.aS/\gg.aS<=3)/\(av v4->((∃ a2:Nat,(a2<=v4.toNat/\((gg=gg/\(True/\(True/\(True/\(True/\(v0=v0/\(v1=v1/\(v8=v8/\(v4=v4/\(v5=(a2:Int)/\True))))))))))/\([]=(sP v7 a2)/\(oR gg e k1)))))/\(∀ a2:Nat,let va:=(a2:Int);(a2<=v4.toNat->(((decide (va<v4))=true->((aA (aQ v7)=true/\0<=va/\va<=4096)/\(bC ((sP v7 a2).length+([(eC va (aQ v7))]).length) 1/\(av (va+(1:Int))/\(∃ a3:Nat,(a3<=v4.toNat/\(v4.toNat - a3<v4.toNat - a2/\((gg=gg/\(True/\(True/\(True/\(True/\(v0=v0/\(v1=v1/\(v8=v8/\(v4=v4/\((va+(1:Int))=(a3:Int)/\True))))))))))/\(((sP v7 a2)++([(eC va (aQ v7))]))=(sP v7 a3)/\(oR gg e k1))))))))))/\((decide (va<v4))=false->(bC (v9.length+([(sP v7 a2)]).length) 24/\(av (v8+(1:Int))/\(∃ k3:Nat,(jI gg e k3/\(v0.length - k3<v0.length - k1/\((gg=gg/\(True/\(True/\(v0=v0/\(v1=v1/\((v8+(1:Int))=(k3:Int)/\True))))))/\(v2/\((v9++([(sP v7 a2)]))=(lf gg (v0.take k3))/\v3)))))))))))))))))/\((decide (v8<v1))=false->((ae.mk (aF.mk gg.aS gg.aw) v9 (eN gg e))=(gG gg e)/\v5=v6))))))))))))))) ?_;obtain⟨hg,he,hn⟩:=hp;have hq:=(dy gg).1 hg;have ha:=jc gg hq.1;refine⟨?_,λ _ _ a2=>⟨λ a3=>⟨?_,rfl⟩,λ a3 _=>⟨⟨0,?_,⟨rfl,ag,ag,rfl,rfl,?_,ag⟩,⟨rfl,rfl,ag,rfl,ag⟩,?_,⟨rfl,rfl,ag,ag,ag⟩,ag⟩,λ k1 _=>⟨λ _=>⟨?_,?_,λ _=>⟨⟨0,?_,⟨rfl,ag,ag,ag,ag,rfl,rfl,rfl,rfl,?_,ag⟩,?_,⟨rfl,rfl,rfl,ag⟩,⟨rfl,rfl,ag,rfl,ag⟩,rfl,⟨rfl,rfl,ag,ag,ag⟩,ag⟩,λ a2 _=>⟨λ _=>⟨?_,?_,?_,a2+1,?_,?_,⟨rfl,ag,ag,ag,ag,rfl,rfl,rfl,rfl,?_,ag⟩,?_,⟨rfl,rfl,rfl,ag⟩,⟨rfl,rfl,ag,rfl,ag⟩,rfl,⟨rfl,rfl,ag,ag,ag⟩,ag⟩,λ _=>⟨?_,?_,k1+1,?_,?_,⟨rfl,ag,ag,rfl,rfl,?_,ag⟩,⟨rfl,rfl,ag,rfl,ag⟩,?_,⟨rfl,rfl,ag,ag,ag⟩,ag⟩⟩⟩⟩,λ _=>⟨?_,?_⟩⟩⟩⟩⟩;all_goals try and_intros
 all_goals try (first|with_reducible rfl|with_reducible assumption)
 all_goals try simp only[J.eta,cu] at *
 all_goals (try simp only[b1g,b1r,b0R,b0Q,aI,av,bC,b1H,b0Y,b0W,b1f,Oy] at *);first|with_reducible assumption|omega|with_reducible rfl|exact trivial|(obtain⟨_,_,_,_⟩:=jI.lens (by with_reducible assumption);omega)|exact jI.mk (T6 gg e hg he hn (by omega)) (by omega) (b1G _)|exact jI.get (by with_reducible assumption) (by omega)|exact jI.next (by with_reducible assumption) (by omega)|exact jI.step (by with_reducible assumption) (by omega) (by omega) (by omega)|exact a1e _ _|exact LG (by omega)|exact jI.done (gg:=gg) (by with_reducible assumption) (by omega)|exact congrArg ae.sig (LG (by omega))|exact congrArg ae.sig (jI.done (gg:=gg) (by with_reducible assumption) (by omega))|exact congrArg ae.accept (LG (by omega))|exact congrArg ae.accept (jI.done (gg:=gg) (by with_reducible assumption) (by omega))|exact congrArg ae.next (LG (by omega))|exact congrArg ae.next (jI.done (gg:=gg) (by with_reducible assumption) (by omega))|rfl
structure tz(a:ae):Prop where
 s:bS a.sig=true
 n1:1<=a.accept.length
 n60:a.accept.length<=60
 nx:a.next.length=a.accept.length
 ac:∀ r∈a.accept,r.length=(bn a.sig).toNat
 ok:Nj (bn a.sig).toNat a.sig.aw.toNat a.accept.length a.next
def gS{α:Type}{z:α}{xs:List α}{i:Nat}(h:i<xs.length):xs.getD i z∈xs:=by rw[b0S,b1a h];exact b2B _
def a1h{gg:aF}{ls:List J}:∀ r∈lf gg ls,r.length=(bn gg).toNat:=λ r hr=>by
 obtain⟨x,_,rfl⟩:=b0P.1 hr;exact Oy _ _
def a0K{gg:aF}{e:J}(hg:bS gg=true)(he:aA e=true)(hn:ar e<=1000)(h:du gg e=0):tz (gG gg e):=by
 have q:=T6 gg e hg he hn h;rw[<-a4z h];have hl:(lf gg (cO gg e)).length=(cO gg e).length:=by simp[lf]
 exact⟨hg,by show 1<=(lf gg (cO gg e)).length;have:=q.pos;omega,by show (lf gg (cO gg e)).length<=60;have:=q.lV;omega,by show (eN gg e).length=(lf gg (cO gg e)).length;have:=q.len;omega,
  a1h,by show Nj _ _ (lf gg (cO gg e)).length (eN gg e);rw[hl];exact q.ok⟩
abbrev nK(a:ae):Nat:=a.accept.length
abbrev mK(a:ae):Nat:=(bn a.sig).toNat
abbrev kK(a:ae):Nat:=a.sig.aw.toNat
def QK(a:ae)(i t:Nat):Bool:=decide (i<nK a)&&(a.accept.getD i []).getD t false
def No(a:ae)(i t x:Nat):Int:=((a.next.getD i []).getD t []).getD x 0
def Iw(a:ae)(i t x:Nat):Nat:=if i<nK a then (if No a i t x<0 then nK a else (No a i t x).toNat) else nK a
def tz.row{a:ae}(h:tz a){i t x:Nat}(hi:i<nK a)(ht:t<mK a)(hx:x<kK a) : -1<=No a i t x/\No a i t x<nK a:=by
 have h1:=h.ok (a.next.getD i []) (gS (by rw[h.nx];exact hi));have h2:=h1.2 ((a.next.getD i []).getD t []) (gS (by rw[h1.1];exact ht));exact h2.2 _ (gS (by rw[h2.1];exact hx))
def tz.lens{a:ae}(h:tz a):1<=mK a/\mK a<=8/\kK a<=4/\(mK a:Int)=bn a.sig/\(kK a:Int)=a.sig.aw:=by
 have hq:=(dy a.sig).1 h.s;have:=jc a.sig hq.1;simp only[mK,kK];refine⟨?_,?_,?_,?_,?_⟩<;>omega
def tz.a0E{a:ae}(h:tz a){i:Nat}(hi:i<nK a):(a.accept.getD i []).length=mK a/\(a.next.getD i []).length=mK a:=by
 refine⟨h.ac _ ?_,(h.ok _ ?_).1⟩
 .exact gS hi
 .exact gS (by rw[h.nx];exact hi)
def tz.a5t{a:ae}(h:tz a){i t:Nat}(hi:i<nK a)(ht:t<mK a):((a.next.getD i []).getD t []).length=kK a:=by
 have h1:=h.ok (a.next.getD i []) (gS (by rw[h.nx];exact hi));exact (h1.2 _ (gS (by rw[h1.1];exact ht))).1
def tz.go{a:ae}(h:tz a){i t x:Nat}(ht:t<mK a)(hx:x<kK a):Iw a i t x<=nK a:=by
 unfold Iw;split
 .rename_i hi;have:=h.row hi ht hx;split<;>omega
 .omega
structure Wq(a:ae)(out:List Int):Prop where
 len:out.length=nK a+1
 bd:∀ v∈out,0<=v/\v<100
def Wq.get{a:ae}{out:List Int}(h:Wq a out){i:Nat}(hi:i<=nK a):0<=out.getD i 0/\out.getD i 0<100:=h.bd _ (gS (by rw[h.len];omega))
def Xt(a:ae)(out:List Int)(i t x:Nat):List UInt8:=(List.range x).flatMap λ y=>32::mi (out.getD (Iw a i t y) 0)
def XX(b:Bool):List UInt8:=if b=true then [43] else []
def kyR(a:ae)(out:List Int)(i t:Nat):List UInt8:=XX (QK a i t)++(Xt a out i t (kK a)++[59])
def kyA(a:ae)(out:List Int)(i t:Nat):List UInt8:=(List.range t).flatMap (kyR a out i)
def kx(a:ae)(out:List Int)(i:Nat):List UInt8:=mi (out.getD i 0)++[124]++kyA a out i (mK a)
def a8b:∀ n:Fin 100,(mi (n.val:Int)).length<=2/\(∀ b∈mi (n.val:Int),48<=b/\b<=57):=by decide +kernel
def a6e:∀ m n:Fin 100,mi (m.val:Int)=mi (n.val:Int)->m=n:=by decide +kernel
def SR{n:Int}(h:0<=n/\n<100):(mi n).length<=2/\∀ b∈mi n,48<=b/\b<=57:=by
 have:=a8b ⟨n.toNat,by omega⟩;rwa [show ((n.toNat:Nat):Int)=n by omega] at this
def a0Z{m n:Int}(h:0<=m/\m<100)(k:0<=n/\n<100)(e:mi m=mi n):m=n:=by
 have:=a6e ⟨m.toNat,by omega⟩ ⟨n.toNat,by omega⟩ (by rw[show ((m.toNat:Nat):Int)=m by omega,show ((n.toNat:Nat):Int)=n by omega];exact e);simp only[Fin.mk.injEq] at this;omega
def Sp(r:List UInt8):Prop:=∀ b t,r=b::t->¬ (48<=b/\b<=57)
def Ou:∀ (x y r s:List UInt8),(∀ b∈x,(48:UInt8)<=b/\b<=57)->(∀ b∈y,(48:UInt8)<=b/\b<=57)->Sp r->Sp s->x++r=y++s->x=y/\r=s
 | [],[],r,s,_,_,_,_,h=>⟨rfl,h⟩
 | [],b::y,r,s,_,hy,hr,_,h=>absurd (hy b (by simp)) (hr b (y++s) (by simpa using h))
 | b::x,[],r,s,hx,_,_,hs,h=>absurd (hx b (by simp)) (hs b (x++r) (by simpa using h.symm))
 | b::x,c::y,r,s,hx,hy,hr,hs,h=>by
  simp only[b1B,b0O] at h;obtain⟨h1,h2⟩:=Ou x y r s (λ d hd=>hx d (by simp[hd])) (λ d hd=>hy d (by simp[hd])) hr hs h.2;exact⟨by rw[h.1,h1],h2⟩
def Sp.c{b:UInt8}{t:List UInt8}(h:¬ (48<=b/\b<=57)):Sp (b::t):=λ c u e=>by cases e;exact h
def a5n{f g:Nat->Int}:∀ (l:List Nat) (r s:List UInt8),(∀ y∈l,0<=f y/\f y<100)->(∀ y∈l,0<=g y/\g y<100)->(l.flatMap λ y=>32::mi (f y))++(59::r)=(l.flatMap λ y=>32::mi (g y))++(59::s)->(∀ y∈l,f y=g y)/\r=s
 | [],r,s,_,_,h=>⟨λ _ h=>(by cases h),by simpa using h⟩
 | y::l,r,s,hf,hg,h=>by
  simp only[b2y,b1B,b1o,b0O,b2o] at h;have nd:∀ (k:Nat->Int) (r:List UInt8),Sp ((l.flatMap λ y=>32::mi (k y))++(59::r)):=λ k r=>by
   cases l with
   | nil=>exact Sp.c (by decide)
   | cons z l=>simp only[b2y,b1B];exact Sp.c (by decide)
  obtain⟨h1,h2⟩:=Ou _ _ _ _ (SR (hf y (by simp))).2 (SR (hg y (by simp))).2 (nd f r) (nd g s) h;obtain⟨h3,h4⟩:=a5n l r s (λ z hz=>hf z (by simp[hz])) (λ z hz=>hg z (by simp[hz])) h2;refine⟨λ z hz=>?_,h4⟩;rcases b0X.1 hz with rfl|q
  .exact a0Z (hf z (by simp)) (hg z (by simp)) h1
  .exact h3 z q
def a2a{p:Nat->Prop}{f g:Nat->List UInt8}:∀ (l:List Nat),(∀ t∈l,∀ r s,f t++r=g t++s->p t/\r=s)->l.flatMap f=l.flatMap g->∀ t∈l,p t
 | [],_,_,t,h=>by cases h
 | u::l,hp,h,t,ht=>by
  rw[b2y,b2y] at h;obtain⟨h1,h2⟩:=hp u (by simp) _ _ h;rcases b0X.1 ht with rfl|q
  .exact h1
  .exact a2a l (λ t ht=>hp t (by simp[ht])) h2 t q
def a9n(b c:Bool)(a:ae)(out:List Int)(i j t x:Nat)(r s:List UInt8)(h:XX b++(Xt a out i t x++(59::r))=XX c++(Xt a out j t x++(59::s))):b=c/\Xt a out i t x++(59::r)=Xt a out j t x++(59::s):=by
 have hd:∀ (i:Nat) (r:List UInt8),∃ u v,Xt a out i t x++(59::r)=u::v/\¬ u=43:=λ i r=>by
  unfold Xt;cases x with
  | zero=>exact⟨_,_,rfl,by decide⟩
  | succ x=>rw[List.range_succ_eq_map];exact⟨_,_,rfl,by decide⟩
 cases b<;>cases c
 .exact⟨rfl,by simpa [XX] using h⟩
 .obtain⟨u,v,e,hu⟩:=hd i r;simp only[XX,b2G,b1v,b1B,b1z,b3H] at h;rw[e] at h;simp only[b0O] at h;exact absurd h.1 hu
 .obtain⟨u,v,e,hu⟩:=hd j s;simp only[XX,b2G,b1v,b1B,b1z,b3H] at h;rw[e] at h;simp only[b0O] at h;exact absurd h.1.symm hu
 .exact⟨rfl,by simpa [XX] using h⟩
def key_inj{a:ae}(ha:tz a){out:List Int}(ho:Wq a out){i j:Nat}(hi:i<=nK a)(hj:j<=nK a)(h:kx a out i=kx a out j) :
  out.getD i 0=out.getD j 0/\∀ t,t<mK a->QK a i t=QK a j t/\∀ x,x<kK a->out.getD (Iw a i t x) 0=out.getD (Iw a j t x) 0:=by
 unfold kx at h;simp only[List.append_assoc] at h;obtain⟨h1,h2⟩:=Ou _ _ _ _ (SR (ho.get hi)).2 (SR (ho.get hj)).2 (Sp.c (by decide)) (Sp.c (by decide)) h;refine⟨a0Z (ho.get hi) (ho.get hj) h1,λ t ht=>?_⟩;have h3:kyA a out i (mK a)=kyA a out j (mK a):=by simpa using h2
 refine a2a (p:=λ t=>QK a i t=QK a j t/\∀ x,x<kK a->out.getD (Iw a i t x) 0=out.getD (Iw a j t x) 0) (List.range (mK a)) (λ t ht r s e=>?_) h3 t (List.mem_range.2 ht);unfold kyR at e;simp only[List.append_assoc,List.cons_append,List.nil_append] at e;obtain⟨e1,e2⟩:=a9n _ _ a out i j t _ _ _ e;have Kv:=List.mem_range.1 ht;obtain⟨e3,e4⟩:=a5n (List.range (kK a)) _ _ (λ y hy=>ho.get (ha.go Kv (List.mem_range.1 hy))) (λ y hy=>ho.get (ha.go Kv (List.mem_range.1 hy))) e2;exact⟨⟨e1,λ x hx=>e3 x (List.mem_range.2 hx)⟩,e4⟩
def a3X{a:ae}{out:List Int}{i j:Nat}(h:out.getD i 0=out.getD j 0/\∀ t,t<mK a->QK a i t=QK a j t/\∀ x,x<kK a->out.getD (Iw a i t x) 0=out.getD (Iw a j t x) 0):kx a out i=kx a out j:=by
 have fc:∀ {f g:Nat->List UInt8} (l:List Nat),(∀ t∈l,f t=g t)->l.flatMap f=l.flatMap g:=λ {f g} l=>by
  induction l with
  | nil=>intro _;rfl
  | cons u l ih=>intro h;rw[b2y,b2y,h u (by simp),ih λ t ht=>h t (by simp[ht])]
 unfold kx;rw[h.1];congr 1;refine fc _ λ t ht=>?_;have Kv:=h.2 t (List.mem_range.1 ht);unfold kyR;rw[Kv.1];congr 2;exact fc _ λ x hx=>by rw[Kv.2 x (List.mem_range.1 hx)]
structure Am where
 n:Nat
 m:Nat
 k:Nat
 ac:Nat->Nat->Bool
 dl:Nat->Nat->Nat->Nat
structure xM(A:Am):Prop where
 sink:∀ a,A.ac A.n a=false
 stay:∀ a x,A.dl A.n a x=A.n
 le:∀ s a x,s<=A.n->A.dl s a x<=A.n
def Am.run(A:Am):Nat->List (Nat×Nat)->Nat
 | s,[]=>s
 | s,p::w=>A.run (A.dl s p.1 p.2) w
def Am.word(A:Am)(w:List (Nat×Nat)):Prop:=∀ p∈w,p.1<A.m/\p.2<A.k
def Am.same(A:Am)(s t:Nat):Prop:=∀ w a,A.word w->a<A.m->A.ac (A.run s w) a=A.ac (A.run t w) a
def Am.eqv(A:Am)(I:Nat->Nat->Prop):Nat->Nat->Nat->Prop
 | 0,s,t=>I s t
 | d+1,s,t=>A.eqv I d s t/\(∀ a,a<A.m->A.ac s a=A.ac t a)/\∀ a x,a<A.m->x<A.k->A.eqv I d (A.dl s a x) (A.dl t a x)
def Am.Qg{A:Am}{s t:Nat}(h:A.same s t){a x:Nat}(ha:a<A.m)(hx:x<A.k):A.same (A.dl s a x) (A.dl t a x):=λ w b hw hb =>
 h ((a,x)::w) b (λ p hp=>(b0X.1 hp).elim (λ e=>by rw[e];exact⟨ha,hx⟩) (hw p)) hb
structure Am.Ini(A:Am)(I:Nat->Nat->Prop)(R:Nat->Nat->Prop):Prop where
 ini:∀ s t,R s t->I s t
 acc:∀ s t,R s t->∀ a,a<A.m->A.ac s a=A.ac t a
 go:∀ s t,s<=A.n->t<=A.n->R s t->∀ a x,a<A.m->x<A.k->R (A.dl s a x) (A.dl t a x)
def Am.Ini.eqv{A:Am}(hA:xM A){I R:Nat->Nat->Prop}(h:A.Ini I R):∀ (d:Nat) {s t:Nat},s<=A.n->t<=A.n->R s t->A.eqv I d s t
 | 0,s,t,_,_,q=>h.ini s t q
 | d+1,s,t,hs,ht,q=>⟨h.eqv hA d hs ht q,h.acc s t q,λ a x ha hx=>h.eqv hA d (hA.le s a x hs) (hA.le t a x ht) (h.go s t hs ht q a x ha hx)⟩
def Am.a1m{A:Am}{I:Nat->Nat->Prop}:∀ (d:Nat) {s t:Nat},A.eqv I d s t->I s t
 | 0,_,_,h=>h
 | d+1,_,_,h=>Am.a1m d h.1
def Am.DW{A:Am}(hA:xM A){I:Nat->Nat->Prop}{d:Nat}(hd:∀ s t,s<=A.n->t<=A.n->A.eqv I d s t->A.eqv I (d+1) s t):∀ (w:List (Nat×Nat)) {s t:Nat},s<=A.n->t<=A.n->A.eqv I d s t->A.word w->∀ a,a<A.m->A.ac (A.run s w) a=A.ac (A.run t w) a
 | [],s,t,hs,ht,h,_,a,ha=>(hd s t hs ht h).2.1 a ha
 | p::w,s,t,hs,ht,h,hw,a,ha=>by
  have hp:=hw p (by simp);exact Am.DW hA hd w (hA.le s _ _ hs) (hA.le t _ _ ht) ((hd s t hs ht h).2.2 p.1 p.2 hp.1 hp.2) (λ q hq=>hw q (b1O _ hq)) a ha
def Am.a0j(A:Am):A.Ini (λ _ _=>True) A.same:=⟨λ _ _ _=>trivial,λ s t h a ha=>h [] a (λ _ hp=>by cases hp) ha,λ s t _ _ h a x ha hx=>Am.Qg h ha hx⟩
def Am.dead(A:Am)(s:Nat):Prop:=∀ w a,A.word w->a<A.m->A.ac (A.run s w) a=false
def Am.Ec{A:Am}(hA:xM A):∀ w,A.run A.n w=A.n
 | []=>rfl
 | p::w=>by unfold Am.run;rw[hA.stay];exact Am.Ec hA w
def Am.ZI{A:Am}(hA:xM A)(s:Nat):A.dead s↔A.same s A.n :=
 ⟨λ h w a hw ha=>by rw[h w a hw ha,Am.Ec hA,hA.sink],λ h w a hw ha=>by rw[h w a hw ha,Am.Ec hA,hA.sink]⟩
def vH(c:Nat->Int)(i:Nat):Bool:=(List.range i).all λ j=>decide (¬ c j=c i)
def uW{c:Nat->Int}{i:Nat}:vH c i=true↔∀ j,j<i->¬ c j=c i:=by
 unfold vH;simp only[List.all_eq_true,List.mem_range,decide_eq_true_eq]
def J8(c:Nat->Int)(n:Nat):Nat:=((List.range n).filter (vH c)).length
def Yx{p q:Nat->Bool}:∀ (l:List Nat),(∀ i∈l,p i=true->q i=true)->(l.filter p).length=(l.filter q).length->∀ i∈l,p i=q i
 | [],_,_,i,hi=>by cases hi
 | a::l,h,hl,i,hi=>by
  have hle:∀ l:List Nat,(∀ i∈l,p i=true->q i=true)->(l.filter p).length<=(l.filter q).length:=by
   intro l;induction l with
   | nil=>intro _;simp
   | cons b l ih =>
    intro h;have h2:=ih λ i hi=>h i (b1O _ hi);have h3:=h b (by simp);cases hp:p b<;>cases hq:q b<;>simp_all<;>omega
  have h2:=hle l λ i hi=>h i (b1O _ hi);have h3:=h a (by simp);have key:p a=q a/\(l.filter p).length=(l.filter q).length:=by
   cases hp:p a<;>cases hq:q a<;>simp_all<;>omega
  rcases b0X.1 hi with rfl|hi
  .exact key.1
  .exact Yx l (λ i hi=>h i (b1O _ hi)) key.2 i hi
def TY(c:Nat->Int):∀ i:Nat,∃ r,r<=i/\c r=c i/\vH c r=true:=by
 intro i;induction i using Nat.strongRecOn with
 | _ i ih =>
  cases h:vH c i with
  | true=>exact⟨i,b1d _,rfl,h⟩
  | false =>
   have:¬ ∀ j,j<i->¬ c j=c i:=λ q=>by rw[uW.2 q] at h;cases h
   have ⟨j,hj⟩:=b3Y.1 this;have ⟨hj1,hj2⟩:=b3N.1 hj;have hj2:=Classical.not_not.1 hj2;obtain⟨r,h1,h2,h3⟩:=ih j hj1;exact⟨r,by omega,h2.trans hj2,h3⟩
def VS{c:Nat->Int}{r r':Nat}(h:vH c r=true)(h':vH c r'=true)(e:c r=c r'):r=r':=by
 rcases b4t r r' with q|q|q
 .exact absurd e (uW.1 h' r q)
 .exact q
 .exact absurd e.symm (uW.1 h r' q)
def a1q{c c':Nat->Int}{n:Nat}(hf:∀ s t,s<n->t<n->c' s=c' t->c s=c t)(hn:J8 c n=J8 c' n){s t:Nat}(hs:s<n)(ht:t<n)(h:c s=c t):c' s=c' t:=by
 have wa:∀ i∈List.range n,vH c i=true->vH c' i=true:=λ i hi hr=>uW.2 λ j hj e=>uW.1 hr j hj (hf j i (by have:=b2x.1 hi;omega) (b2x.1 hi) e);have heq:=Yx (List.range n) wa hn;obtain⟨r,h1,h2,h3⟩:=TY c' s;obtain⟨r',vB,yv,h3'⟩:=TY c' t;have g:vH c r=true:=by rw[heq r (b2x.2 (by omega))];exact h3
 have g':vH c r'=true:=by rw[heq r' (b2x.2 (by omega))];exact h3'
 have e:c r=c r':=(hf r s (by omega) hs h2).trans (h.trans (hf r' t (by omega) ht yv).symm);have:=VS g g' e;rw[<-h2,<-yv,this]
def a1r{c c':Nat->Int}{n:Nat}(hf:∀ s t,s<n->t<n->c' s=c' t->c s=c t):J8 c n<=J8 c' n:=by
 unfold J8;have:∀ l:List Nat,(∀ i∈l,vH c i=true->vH c' i=true)->(l.filter (vH c)).length<=(l.filter (vH c')).length:=by
  intro l;induction l with
  | nil=>intro _;simp
  | cons b l ih =>
   intro h;have h2:=ih λ i hi=>h i (b1O _ hi);have h3:=h b (by simp);cases hp:vH c b<;>cases hq:vH c' b<;>simp_all<;>omega
 exact this _ λ i hi hr=>uW.2 λ j hj e=>uW.1 hr j hj (hf j i (by have:=b2x.1 hi;omega) (b2x.1 hi) e)
def Am.alike(A:Am)(c:Nat->Int)(s t:Nat):Prop:=c s=c t/\(∀ a,a<A.m->A.ac s a=A.ac t a)/\∀ a x,a<A.m->x<A.k->c (A.dl s a x)=c (A.dl t a x)
def Am.round{A:Am}(hA:xM A){I:Nat->Nat->Prop}{d:Nat}{c c':Nat->Int}(h:∀ s t,s<=A.n->t<=A.n->(c s=c t↔A.eqv I d s t))(hr:∀ s t,s<=A.n->t<=A.n->(c' s=c' t↔A.alike c s t)) :
  ∀ s t,s<=A.n->t<=A.n->(c' s=c' t↔A.eqv I (d+1) s t):=λ s t hs ht=>by
 rw[hr s t hs ht];constructor
 .rintro⟨h1,h2,h3⟩;exact⟨(h s t hs ht).1 h1,h2,λ a x ha hx=>(h _ _ (hA.le s a x hs) (hA.le t a x ht)).1 (h3 a x ha hx)⟩
 .rintro⟨h1,h2,h3⟩;exact⟨(h s t hs ht).2 h1,h2,λ a x ha hx=>(h _ _ (hA.le s a x hs) (hA.le t a x ht)).2 (h3 a x ha hx)⟩
def Am.ended{A:Am}(hA:xM A){I R:Nat->Nat->Prop}(hR:A.Ini I R)(hI:∀ s t,s<=A.n->t<=A.n->I s t->A.same s t->R s t){d:Nat}{c c':Nat->Int}(h:∀ s t,s<=A.n->t<=A.n->(c s=c t↔A.eqv I d s t))(h':∀ s t,s<=A.n->t<=A.n->(c' s=c' t↔A.eqv I (d+1) s t))(hn:J8 c (A.n+1)=J8 c' (A.n+1)) :
  ∀ s t,s<=A.n->t<=A.n->((c s=c t↔R s t)/\(c' s=c' t↔R s t)):=λ s t hs ht=>by
 have cf:∀ s t,s<=A.n->t<=A.n->A.eqv I d s t->A.eqv I (d+1) s t:=λ s t hs ht q =>
  (h' s t hs ht).1 (a1q (n:=A.n+1) (λ s t hs ht e=>(h s t (by omega) (by omega)).2 ((h' s t (by omega) (by omega)).1 e).1) hn (by omega) (by omega) ((h s t hs ht).2 q))
 have key:A.eqv I d s t↔R s t:=⟨λ q=>hI s t hs ht (Am.a1m d q) λ w a hw ha=>Am.DW hA cf w hs ht q hw a ha,λ q=>hR.eqv hA d hs ht q⟩;exact⟨(h s t hs ht).trans key,(h' s t hs ht).trans ⟨λ q=>key.1 q.1,λ q=>cf s t hs ht (key.2 q)⟩⟩
structure Cut(A B:Am):Prop where
 n:B.n=A.n
 m:B.m=A.m
 k:B.k=A.k
 ac:∀ s a,B.ac s a=A.ac s a
 dl:∀ s a x,s<=A.n->a<A.m->x<A.k->B.dl s a x=A.dl s a x\/(B.dl s a x=A.n/\A.dead (A.dl s a x))
 live:∀ s a x,s<=A.n->a<A.m->x<A.k->B.dl s a x=A.n\/¬ A.dead (B.dl s a x)
def Cut.run{A B:Am}(hA:xM A)(hB:xM B)(h:Cut A B):∀ (w:List (Nat×Nat)) {s:Nat},s<=A.n->A.word w->∀ a,a<A.m->B.ac (B.run s w) a=A.ac (A.run s w) a
 | [],s,_,_,a,_=>h.ac s a
 | p::w,s,hs,hw,a,ha=>by
  have hp:=hw p (by simp);have yB:A.word w:=λ q hq=>hw q (b1O _ hq);show B.ac (B.run (B.dl s p.1 p.2) w) a=A.ac (A.run (A.dl s p.1 p.2) w) a;rcases h.dl s p.1 p.2 hs hp.1 hp.2 with e|⟨e,hd⟩
  .rw[e];exact h.run hA hB w (hA.le s _ _ hs) yB a ha
  .rw[e,hd w a yB ha,<-h.n,Am.Ec hB,hB.sink]
def Cut.same{A B:Am}(hA:xM A)(hB:xM B)(h:Cut A B){s t:Nat}(hs:s<=A.n)(ht:t<=A.n):B.same s t↔A.same s t:=by
 have hw:∀ w,B.word w↔A.word w:=λ w=>by unfold Am.word;rw[h.m,h.k]
 constructor
 .intro q w a yB ha;rw[<-h.run hA hB w hs yB a ha,<-h.run hA hB w ht yB a ha];exact q w a ((hw w).2 yB) (by rw[h.m];exact ha)
 .intro q w a yB ha;have yB:=(hw w).1 yB;rw[h.m] at ha;rw[h.run hA hB w hs yB a ha,h.run hA hB w ht yB a ha];exact q w a yB ha
def Cut.ini{A B:Am}(hA:xM A)(hB:xM B)(h:Cut A B):B.Ini (λ s t=>(s=A.n↔t=A.n)) (λ s t=>A.same s t/\(s=A.n↔t=A.n)) where
 ini s t q:=q.2
 acc s t q a ha:=by rw[h.ac,h.ac];exact q.1 [] a (λ _ hp=>by cases hp) (by rw[<-h.m];exact ha)
 go s t hs ht q a x ha hx:=by
  rw[h.n] at hs ht;rw[h.m] at ha;rw[h.k] at hx;have h1:A.same (A.dl s a x) (A.dl t a x):=Am.Qg q.1 ha hx;have hd:A.dead (A.dl s a x)↔A.dead (A.dl t a x):=⟨λ g w b hw hb=>by rw[<-h1 w b hw hb];exact g w b hw hb,λ g w b hw hb=>by rw[h1 w b hw hb];exact g w b hw hb⟩;have dn:A.dead A.n:=(Am.ZI hA _).2 λ w a _ _=>rfl;have hS:B.dl s a x=A.n↔A.dead (A.dl s a x):=by
   rcases h.dl s a x hs ha hx with e|⟨e,g⟩
   .rw[e];exact⟨λ g=>by rw[g];exact dn,λ g=>(h.live s a x hs ha hx).elim (λ g=>by rw[<-e];exact g) (λ g2=>absurd (by rw[e];exact g) g2)⟩
   .exact⟨λ _=>g,λ _=>e⟩
  have hT:B.dl t a x=A.n↔A.dead (A.dl t a x):=by
   rcases h.dl t a x ht ha hx with e|⟨e,g⟩
   .rw[e];exact⟨λ g=>by rw[g];exact dn,λ g=>(h.live t a x ht ha hx).elim (λ g=>by rw[<-e];exact g) (λ g2=>absurd (by rw[e];exact g) g2)⟩
   .exact⟨λ _=>g,λ _=>e⟩
  refine⟨?_,hS.trans (hd.trans hT.symm)⟩;rcases h.dl s a x hs ha hx with e|⟨e,g⟩
  .rcases h.dl t a x ht ha hx with e'|⟨e',g'⟩
   .rw[e,e'];exact h1
   .rw[hS.2 (hd.2 g'),e'];exact λ w a _ _=>rfl
  .rw[e,hT.2 (hd.1 g)];exact λ w a _ _=>rfl
def ZA(a:ae):Am:=⟨nK a,mK a,kK a,QK a,Iw a⟩
def Yh{a:ae}(h:tz a):xM (ZA a):=by
 refine⟨λ t=>?_,λ t x=>?_,λ s t x hs=>?_⟩
 .show QK a (nK a) t=false;unfold QK;rw[decide_eq_false (by omega)];rfl
 .show Iw a (nK a) t x=nK a;unfold Iw;rw[if_neg (by omega)]
 .show Iw a s t x<=nK a;by_cases hx:t<mK a/\x<kK a
  .exact h.go hx.1 hx.2
  .unfold Iw;split
   .rename_i hsn;have hz:No a s t x=0:=by
     unfold No;by_cases ht:t<mK a
     .have:=h.a5t hsn ht;rw[b0S,b3r (by omega)];rfl
     .have:=(h.a0E hsn).2;rw[show (a.next.getD s []).getD t []=[] from by rw[b0S,b3r (by omega)];rfl];rfl
    rw[hz];simp
   .omega
def KL(a:ae)(out:List Int):Nat->List (List UInt8)
 | 0=>[kx a out (nK a)]
 | j+1=>if kx a out j∈KL a out j then KL a out j else KL a out j++[kx a out j]
def CU(L:List (List UInt8))(k:List UInt8):Nat:=L.findIdx λ y=>decide (y=k)
def Xq{L:List (List UInt8)}{k:List UInt8}:CU L k<L.length↔k∈L:=by
 unfold CU;rw[List.findIdx_lt_length];constructor
 .rintro⟨y,hy,h⟩;rw[<-b1n h];exact hy
 .intro h;exact⟨k,h,by simp⟩
def a3U{L M:List (List UInt8)}{k:List UInt8}(h:k∈L):CU (L++M) k=CU L k:=by
 have:=Xq.2 h;unfold CU at this ⊢;rw[List.findIdx_append,if_pos this]
def a3V{L:List (List UInt8)}{k l:List UInt8}(hk:k∈L)(h:CU L k=CU L l):k=l:=by
 have h1:=Xq.2 hk;have h2:CU L l<L.length:=by omega
 have e1:decide (L[CU L k]=k)=true:=b3A (p:=λ y=>decide (y=k)) (w:=h1);have e2:decide (L[CU L l]=l)=true:=b3A (p:=λ y=>decide (y=l)) (w:=h2);have e3:L[CU L k]=L[CU L l]:=by simp[h]
 rw[<-b1n e1,e3,b1n e2]
def a7v(a:ae)(out:List Int)(j:Nat):kx a out j∈KL a out (j+1):=by
 unfold KL;split
 .assumption
 .simp
def Sn(a:ae)(out:List Int)(j:Nat):∀ i,∃ M,KL a out (j+i)=KL a out j++M
 | 0=>⟨[],by simp⟩
 | i+1=>by
  obtain⟨M,hM⟩:=Sn a out j i;rw[<-b3B,KL];split
  .exact⟨M,hM⟩
  .exact⟨M++[kx a out (j+i)],by rw[hM,b1o]⟩
def a5P(a:ae)(out:List Int){i j:Nat}(h:i<j):kx a out i∈KL a out j:=by
 obtain⟨M,hM⟩:=Sn a out (i+1) (j - (i+1));rw[show i+1+(j - (i+1))=j by omega] at hM;rw[hM];exact b2v _ (a7v a out i)
def a0v(a:ae)(out:List Int)(j:Nat):kx a out (nK a)∈KL a out j/\CU (KL a out j) (kx a out (nK a))=0/\1<=(KL a out j).length:=by
 obtain⟨M,hM⟩:=Sn a out 0 j;rw[b2l] at hM;have h0:kx a out (nK a)∈KL a out 0:=by simp[KL]
 rw[hM];refine⟨b2v _ h0,?_,by simp[KL]⟩;rw[a3U h0];simp[KL,CU]
def Sl(a:ae)(out:List Int):∀ j,(KL a out j).length<=j+1
 | 0=>by simp[KL]
 | j+1=>by
  have:=Sl a out j;rw[KL];split
  .omega
  .simp;omega
def nxP(a:ae)(out:List Int)(j:Nat):List Int:=(List.range (nK a+1)).map λ i=>if i<j then (CU (KL a out (nK a)) (kx a out i):Int) else 0
def a2y(a:ae)(out:List Int)(j:Nat):(nxP a out j).length=nK a+1:=by simp[nxP]
abbrev BY(a:ae)(out:List Int):List Int:=nxP a out (nK a)
abbrev Mv(a:ae)(out:List Int):Nat:=(KL a out (nK a)).length
def On(a:ae):Nat->List Int->Nat->List Int
 | 0,out,_=>out
 | f+1,out,count=>if Mv a out=count then BY a out else On a f (BY a out) (Mv a out)
def clP(a:ae):List Int:=On a 70 (List.replicate (nK a+1) (0:Int)) 0
def VN{a:ae}{out:List Int}{i:Nat}(hi:i<=nK a):(BY a out).getD i 0=if i<nK a then (CU (KL a out (nK a)) (kx a out i):Int) else 0:=by
 unfold BY nxP;rw[List.getD_eq_getElem?_getD,List.getElem?_map,List.getElem?_range (by omega)];rfl
def VO{a:ae}{out:List Int}{i:Nat}(hi:i<=nK a):(BY a out).getD i 0=(CU (KL a out (nK a)) (kx a out i):Int):=by
 rw[VN hi];by_cases h:i<nK a
 .rw[b0T h]
 .rw[b0N h,show i=nK a by omega,(a0v a out (nK a)).2.1];rfl
def Sm(a:ae)(out:List Int){i:Nat}(hi:i<=nK a):kx a out i∈KL a out (nK a):=by
 rcases b1w i (nK a) with h|h
 .exact a5P a out h
 .rw[show i=nK a by omega];exact (a0v a out _).1
def Y2{a:ae}{out:List Int}{i j:Nat}(hi:i<=nK a)(hj:j<=nK a):(BY a out).getD i 0=(BY a out).getD j 0↔kx a out i=kx a out j:=by
 rw[VO hi,VO hj];constructor
 .intro h;exact a3V (Sm a out hi) (by omega)
 .intro h;rw[h]
def Y3{a:ae}(h:tz a)(out:List Int):Wq a (BY a out):=by
 refine⟨a2y a out _,λ v hv=>?_⟩;unfold BY nxP at hv;obtain⟨i,hi,rfl⟩:=List.mem_map.1 hv;have hi:=List.mem_range.1 hi;split
 .have:=Xq.2 (Sm a out (show i<=nK a by omega));have:=Sl a out (nK a);have h6:nK a<=60:=h.n60;omega
 .omega
def XP{a:ae}(h:tz a){out:List Int}(ho:Wq a out){i j:Nat}(hi:i<=nK a)(hj:j<=nK a):(BY a out).getD i 0=(BY a out).getD j 0↔(ZA a).alike (λ s=>out.getD s 0) i j:=by
 rw[Y2 hi hj];constructor
 .intro e;obtain⟨h1,h2⟩:=key_inj h ho hi hj e;exact⟨h1,λ t ht=>(h2 t ht).1,λ t x ht hx=>(h2 t ht).2 x hx⟩
 .rintro⟨h1,h2,h3⟩;exact a3X ⟨h1,λ t ht=>⟨h2 t ht,λ x hx=>h3 t x ht hx⟩⟩
def a0W{α:Type}{c:Nat->Int}{N:Nat}{f:Nat->α}{L:List α}(hL:L.Nodup)(h1:∀ i,i<N->f i∈L)(h2:∀ y∈L,∃ i,i<N/\f i=y)(h3:∀ i j,i<N->j<N->(c i=c j↔f i=f j)):J8 c N=L.length:=by
 unfold J8;have hR:∀ i∈(List.range N).filter (vH c),i<N/\vH c i=true:=λ i hi=>by
  rw[b1U,b2x] at hi;exact hi
 have dh:(((List.range N).filter (vH c)).map f).Nodup:=by
  unfold List.Nodup;rw[List.pairwise_map];have hp:=(List.nodup_range (n:=N)).filter (vH c);refine List.Pairwise.imp_of_mem (λ {i j} hi hj rC e=>?_) hp;obtain⟨i1,i2⟩:=hR i hi;obtain⟨j1,j2⟩:=hR j hj;exact rC (VS i2 j2 ((h3 i j i1 j1).2 e))
 apply Nat.le_antisymm
 .have:=dh.length_le_of_subset (l₂:=L) (λ y hy=>by
   obtain⟨i,hi,rfl⟩:=b0P.1 hy;exact h1 i (hR i hi).1)
  simpa using this
 .have:=hL.length_le_of_subset (l₂:=((List.range N).filter (vH c)).map f) (λ y hy=>by
   obtain⟨i,hi,rfl⟩:=h2 y hy;obtain⟨r,r1,r2,r3⟩:=TY c i;refine b0P.2 ⟨r,?_,(h3 r i (by omega) hi).1 r2⟩;rw[b1U,b2x];exact⟨by omega,r3⟩)
  simpa using this
def JS(a:ae)(out:List Int):∀ j,(KL a out j).Nodup
 | 0=>by simp[KL]
 | j+1=>by
  rw[KL];split
  .exact JS a out j
  .rename_i h;refine b3W.2 ⟨JS a out j,by simp,λ x hx y hy=>?_⟩;rw[b0Z] at hy;subst hy;exact λ e=>h (e ▸ hx)
def NX(a:ae)(out:List Int):∀ j,j<=nK a->∀ y∈KL a out j,∃ i,i<nK a+1/\kx a out i=y
 | 0,_,y,hy=>by
  simp only[KL,b0Z] at hy;exact⟨nK a,by omega,hy.symm⟩
 | j+1,hj,y,hy=>by
  rw[KL] at hy;split at hy
  .exact NX a out j (by omega) y hy
  .rcases b0K.1 hy with q|q
   .exact NX a out j (by omega) y q
   .rw[b0Z] at q;exact⟨j,by omega,q.symm⟩
def SJ(a:ae)(out:List Int):J8 (λ s=>(BY a out).getD s 0) (nK a+1)=Mv a out :=
 a0W (f:=kx a out) (JS a out _) (λ i hi=>Sm a out (by omega)) (NX a out _ (b1d _)) λ i j hi hj=>Y2 (by omega) (by omega)
structure CP(a:ae)(d:Nat)(out:List Int)(count:Nat):Prop where
 ok:tz a
 eq:On a (70 - d) out count=clP a
 dc:d<=count
 cn:count<=61
 o:Wq a out
 lab:∀ s t,s<=nK a->t<=nK a->(out.getD s 0=out.getD t 0↔(ZA a).eqv (λ _ _=>True) d s t)
 aX:d=0/\count=0\/count=J8 (λ s=>out.getD s 0) (nK a+1)
 z:out.getD (nK a) 0=0
def P7(n i:Nat):(List.replicate n (0:Int)).getD i 0=0:=by
 rw[b0S,List.getElem?_replicate];split<;>rfl
def CP.first{a:ae}(h:tz a):CP a 0 (List.replicate (nK a+1) (0:Int)) 0 :=
 ⟨h,rfl,b1d _,by omega,⟨by simp,λ v hv=>by rw[b4A hv];omega⟩,λ s t _ _=>by rw[P7,P7];exact⟨λ _=>trivial,λ _=>rfl⟩, .inl ⟨rfl,rfl⟩,P7 _ _⟩
def CP.a2b{a:ae}{d:Nat}{out:List Int}{count:Nat}(h:CP a d out count):∀ s t,s<=nK a->t<=nK a->((BY a out).getD s 0=(BY a out).getD t 0↔(ZA a).eqv (λ _ _=>True) (d+1) s t) :=
 Am.round (Yh h.ok) h.lab λ _ _ hs ht=>XP h.ok h.o hs ht
def a2N(a:ae)(out:List Int):(BY a out).getD (nK a) 0=0:=by rw[VN (b1d _),b0N (by omega)]
def CP.up{a:ae}{d:Nat}{out:List Int}{count:Nat}(h:CP a d out count):count<=Mv a out:=by
 rcases h.aX with ⟨_,e⟩|e
 .omega
 .rw[e,<-SJ];exact a1r λ s t hs ht q=>(h.lab s t (by omega) (by omega)).2 ((h.a2b s t (by omega) (by omega)).1 q).1
def CP.next{a:ae}{d:Nat}{out:List Int}{count:Nat}(h:CP a d out count)(hn:¬ Mv a out=count):CP a (d+1) (BY a out) (Mv a out):=by
 have:=h.up;have:=h.dc;have:=h.cn;have hl:Mv a out<=nK a+1:=Sl a out (nK a);have h6:nK a<=60:=h.ok.n60;refine⟨h.ok,?_,by omega,by omega,Y3 h.ok out,h.a2b, .inr (SJ a out).symm,a2N a out⟩;rw[<-h.eq,show 70 - d=(70 - (d+1))+1 by omega,On,b0N hn]
def CP.less{a:ae}{d:Nat}{out:List Int}{count:Nat}(h:CP a d out count)(hn:¬ Mv a out=count):70 - Mv a out<70 - count:=by
 have:=h.up;have:=h.cn;have hl:Mv a out<=nK a+1:=Sl a out (nK a);have h6:nK a<=60:=h.ok.n60;omega
structure a7t(a:ae)(out:List Int):Prop where
 o:Wq a out
 lab:∀ s t,s<=nK a->t<=nK a->(out.getD s 0=out.getD t 0↔(ZA a).same s t)
 z:out.getD (nK a) 0=0
def CP.done{a:ae}{d:Nat}{out:List Int}{count:Nat}(h:CP a d out count)(hn:Mv a out=count):BY a out=clP a/\a7t a (BY a out):=by
 have hp:1<=Mv a out:=(a0v a out (nK a)).2.2;have h1:=h.dc;have h2:=h.cn;refine⟨?_,Y3 h.ok out,?_,a2N a out⟩
 .rw[<-h.eq,show 70 - d=(70 - (d+1))+1 by omega,On,b0T hn]
 .rcases h.aX with ⟨_,e⟩|e
  .omega
  .intro s t hs ht;exact (Am.ended (Yh h.ok) (Am.a0j (ZA a)) (λ _ _ _ _ _ q=>q) h.lab h.a2b (by show J8 _ (nK a+1)=J8 _ (nK a+1);rw[SJ,hn,e]) s t hs ht).2
def UA(c:List Int)(s:Int):Int:=if s<0 then -1 else c.getD s.toNat 0
structure Ws(xs ys:List Bool)(k:Nat):Prop where
 hl:xs.length=ys.length
 hk:k<=xs.length
 he:∀ i,i<k->xs.getD i false=ys.getD i false
def Ws.first{xs ys:List Bool}(h:(xs.length:Int)=(ys.length:Int)):Ws xs ys 0:=⟨by omega,by omega,λ i hi=>by omega⟩
def Ws.next{xs ys:List Bool}{k:Nat}(h:Ws xs ys k)(hk:k<xs.length)(e:xs.getD k false=ys.getD k false):Ws xs ys (k+1):=⟨h.hl,hk,λ i hi=>by
 rcases b1w i k with q|q
 .exact h.he i q
 .rw[show i=k by omega];exact e⟩
def Ws.done{xs ys:List Bool}{k:Nat}(h:Ws xs ys k)(hk:¬ k<xs.length):true=decide (xs=ys):=by
 rw[b3K];refine b4I h.hl λ i h1 h2=>?_;have:=h.he i (by have:=h.hk;omega);rw[b0S,b0S,b1a h1,b1a h2] at this;exact this
def alP(a:ae)(c:List Int)(s t:Nat):Prop:=a.accept.getD s []=a.accept.getD t []/\∀ i,i<mK a->∀ x,x<kK a->UA c (No a s i x)=UA c (No a t i x)
noncomputable def Zz(a:ae)(c:List Int)(s t:Nat):Bool:=by
 classical exact decide (alP a c s t)
def a7A{a:ae}{c:List Int}{s t:Nat}(h:alP a c s t):true=Zz a c s t:=by unfold Zz;simp[h]
def a7y{a:ae}{c:List Int}{s t:Nat}(h:¬ alP a c s t):false=Zz a c s t:=by unfold Zz;simp[h]
structure Zu(a:ae)(c:List Int)(s t i x:Nat):Prop where
 ha:a.accept.getD s []=a.accept.getD t []
 hi:i<=mK a
 hx:x<=kK a
 hr:∀ j,j<i->∀ y,y<kK a->UA c (No a s j y)=UA c (No a t j y)
 hq:∀ y,y<x->UA c (No a s i y)=UA c (No a t i y)
def Zu.first{a:ae}{c:List Int}{s t:Nat}(h:a.accept.getD s []=a.accept.getD t []):Zu a c s t 0 0:=⟨h,by omega,by omega,λ i hi=>by omega,λ i hi=>by omega⟩
def Zu.done{a:ae}{c:List Int}{s t i x:Nat}(h:Zu a c s t i x)(hi:¬ i<mK a):true=Zz a c s t:=a7A ⟨h.ha,λ j hj y hy=>h.hr j (by omega) y hy⟩
def Zu.no{a:ae}{c:List Int}{s t i x:Nat}(_h:Zu a c s t i x)(hi:i<mK a)(hx:x<kK a)(e:¬ UA c (((a.next.getD s []).getD i []).getD x 0)=UA c (((a.next.getD t []).getD i []).getD x 0)):false=Zz a c s t:=a7y λ q=>e (q.2 i hi x hx)
structure AlK(a:ae)(c:List Int)(s t:Int):Prop where
 ha:tz a
 hc:c.length=nK a
 hs:0<=s/\s<nK a
 ht:0<=t/\t<nK a
structure RwL(a:ae)(s i:Nat):Prop where
 n:nK a<=60/\a.accept.length<=60
 nx:a.next.length=nK a
 m:mK a<=8
 k:kK a<=4
 ac:s<nK a->(a.accept.getD s []).length=mK a
 r:s<nK a->(a.next.getD s []).length=mK a
 rr:s<nK a->i<mK a->((a.next.getD s []).getD i []).length=kK a
def tz.rwl{a:ae}(h:tz a)(s i:Nat):RwL a s i:=⟨⟨h.n60,h.n60⟩,h.nx,h.lens.2.1,h.lens.2.2.1,λ hs=>(h.a0E hs).1,λ hs=>(h.a0E hs).2,λ hs hi=>h.a5t hs hi⟩
def fw(a:ae)(s t x:Int):Int:=if s<0 then -1 else ((a.next.getD s.toNat []).getD t.toNat []).getD x.toNat 0
def jK(a:ae)(s t:Int):Bool:=if 0<=s then (a.accept.getD s.toNat []).getD t.toNat false else false
def a5v{a:ae}{s t x:Int}(h:s<0) : -1=fw a s t x:=by rw[fw,b0T h]
def a5u{a:ae}{s t x:Int}(h:¬ s<0):((a.next.getD s.toNat []).getD t.toNat []).getD x.toNat 0=fw a s t x:=by rw[fw,b0N h]
def a4Z{a:ae}{s t:Int}(h:0<=s):(a.accept.getD s.toNat []).getD t.toNat false=jK a s t:=by rw[jK,b0T h]
def YA{a:ae}{s t:Int}(h:¬ 0<=s):false=jK a s t:=by rw[jK,b0N h]
structure HG(a:ae)(s t:Int):Prop where
 ha:tz a
 s0 : -1<=s
 s1:s<(nK a:Int)
 t0:0<=t
 t1:t<(mK a:Int)
structure B7(a:ae)(s t x:Int):Prop where
 h:HG a s t
 x0:0<=x
 x1:x<(kK a:Int)
def TN{a:ae}{s t x:Int}(h:B7 a s t x) : -1<=fw a s t x/\fw a s t x<(nK a:Int):=by
 have h1:=h.h.s0;have h2:=h.h.s1;have h3:=h.h.t0;have h4:=h.h.t1;have h5:=h.x0;have h6:=h.x1;unfold fw;split
 .omega
 .exact h.h.ha.row (by omega) (by omega) (by omega)
def Nn(a b:ae)(p:au)(t x:Nat):au:=au.mk (fw a p.a0 (t:Int) (x:Int)) (fw b p.a1 (t:Int) (x:Int))
def TX(a b:ae)(p:au)(i t x:Nat):af:=af.mk (Nn a b p t x) (i:Int) (t:Int) (x:Int)
def lL(ls:List af)(q:au):Bool:=ls.any λ r=>decide (r.pair.a0=q.a0)&&decide (r.pair.a1=q.a1)
def y7(q:au):Bool:=decide (q.a0<0)&&decide (q.a1<0)
def y6(ls:List af)(q:af):List af:=if y7 q.pair=true\/lL ls q.pair=true then ls else ls++[q]
def cI(a b:ae)(p:au)(i t:Nat)(ls:List af):Nat->List af
 | 0=>ls
 | x+1=>y6 (cI a b p i t ls x) (TX a b p i t x)
def cA(a b:ae)(p:au)(i:Nat)(ls:List af):Nat->List af
 | 0=>ls
 | t+1=>cI a b p i t (cA a b p i ls t) (kK a)
def aG(a b:ae):Nat->List af
 | 0=>[af.mk (au.mk (0:Int) (0:Int)) (-1:Int) (0:Int) (0:Int)]
 | i+1=>if i<(aG a b i).length then cA a b ((aG a b i).getD i (af.mk (au.mk (0:Int) (0:Int)) (0:Int) (0:Int) (0:Int))).pair i (aG a b i) (mK a) else aG a b i
noncomputable def cN(a b:ae):List af:=aG a b (3722+nK a)
def pM{ls:List af}{q:au}:lL ls q=true↔∃ r∈ls,r.pair=q:=by
 unfold lL;rw[List.any_eq_true];constructor
 .rintro⟨r,h1,h2⟩;simp only[b0U,b0R] at h2;refine⟨r,h1,?_⟩;obtain⟨⟨p0,p1⟩,_,_,_⟩:=r;obtain⟨q0,q1⟩:=q;simp only at h2 ⊢;rw[h2.1,h2.2]
 .rintro⟨r,h1,rfl⟩;exact⟨r,h1,by simp⟩
structure AB(a b:ae):Prop where
 ka:tz a
 kb:tz b
 ks:b.sig=a.sig
def AB.sw{a b:ae}(h:AB a b):AB b a:=⟨h.kb,h.ka,h.ks.symm⟩
structure NZ(a b:ae)(ls:List af):Prop where
 pos:0<ls.length
 fP:∀ r∈ls,(-1<=r.pair.a0/\r.pair.a0<(nK a:Int))/\(-1<=r.pair.a1/\r.pair.a1<(nK b:Int))
 nd:(ls.map af.pair).Nodup
 nG:∀ j,j<ls.length -> -1<=(ls.getD j (af.mk (au.mk (0:Int) (0:Int)) (0:Int) (0:Int) (0:Int))).nG/\(ls.getD j (af.mk (au.mk (0:Int) (0:Int)) (0:Int) (0:Int) (0:Int))).nG<(j:Int)
def NZ.lV{a b:ae}{ls:List af}(h:NZ a b ls)(vD:AB a b):ls.length<=3721:=by
 have ha:=vD.ka.n60;have hb:=vD.kb.n60;let f:au->Nat:=λ q=>(q.a0+1).toNat * 61+(q.a1+1).toNat;have h1:((ls.map af.pair).map f).Nodup:=by
  have:=h.nd;unfold List.Nodup at this ⊢;rw[List.pairwise_map];refine List.Pairwise.imp_of_mem (λ {x y} hx hy q e=>q ?_) this;obtain⟨r,hr,rfl⟩:=List.mem_map.1 hx;obtain⟨r',hr',rfl⟩:=List.mem_map.1 hy;have k1:=h.fP r hr;have k2:=h.fP r' hr';simp only[nK] at k1 k2;simp only[f] at e;obtain⟨⟨p0,p1⟩,_,_,_⟩:=r;obtain⟨⟨q0,q1⟩,_,_,_⟩:=r';simp only at e k1 k2 ⊢;have:p0=q0/\p1=q1:=by omega
  rw[this.1,this.2]
 have:=h1.length_le_of_subset (l₂:=List.range 3721) λ y hy=>by
  obtain⟨q,hq,rfl⟩:=b0P.1 hy;obtain⟨r,hr,rfl⟩:=b0P.1 hq;have k1:=h.fP r hr;simp only[nK] at k1;rw[b2x];simp only[f];omega
 simpa using this
def a4m{ls:List af}{q:af}{j:Nat}:j<(ls++[q]).length->(j<ls.length/\(ls++[q]).getD j (af.mk (au.mk (0:Int) (0:Int)) (0:Int) (0:Int) (0:Int))=ls.getD j (af.mk (au.mk (0:Int) (0:Int)) (0:Int) (0:Int) (0:Int)))\/(j=ls.length/\(ls++[q]).getD j (af.mk (au.mk (0:Int) (0:Int)) (0:Int) (0:Int) (0:Int))=q):=λ h=>by
 simp only[b0Y,b0W,b1f] at h;rcases b1w j ls.length with r|r
 .exact .inl ⟨r,by simp only[b0S,b1R r]⟩
 .have:j=ls.length:=by omega
  subst this;exact .inr ⟨rfl,by simp[b0S]⟩
def a2L{ls:List af}{q:af}(h:y7 q.pair=true\/lL ls q.pair=true):ls=y6 ls q:=by rw[y6,b0T h]
def a2I{ls:List af}{q:af}(h:¬ (y7 q.pair=true\/lL ls q.pair=true)):ls++[q]=y6 ls q:=by rw[y6,b0N h]
def a2H(ls:List af)(q:af):ls.length<=(y6 ls q).length:=by unfold y6;split<;>simp
def a4l{a b:ae}{ls:List af}(h:NZ a b ls){q:af}(h1:(-1<=q.pair.a0/\q.pair.a0<(nK a:Int))/\(-1<=q.pair.a1/\q.pair.a1<(nK b:Int)))(h2 : -1<=q.nG/\q.nG<(ls.length:Int)):NZ a b (y6 ls q):=by
 unfold y6;split
 .exact h
 .rename_i w;rw[not_or] at w;refine⟨by simp,λ r hr=>?_,?_,λ j hj=>?_⟩
  .rcases b0K.1 hr with r'|r'
   .exact h.fP r r'
   .rw[b0Z] at r';rw[r'];exact h1
  .rw[b2b];refine b3W.2 ⟨h.nd,by simp,λ x hx y hy=>?_⟩;rw[b1p,b2k,b0Z] at hy;subst hy;obtain⟨r,hr,rfl⟩:=b0P.1 hx;exact λ e=>w.2 (pM.2 ⟨r,hr,e⟩)
  .rcases a4m hj with ⟨k1,k2⟩|⟨k1,k2⟩
   .rw[k2];exact h.nG j k1
   .rw[k2,k1];exact h2
structure RcX(a b:ae)(ls q:List af):Prop where
 g:NZ a b q
 up:ls.length<=q.length
 pre:∀ j,j<ls.length->q.getD j (af.mk (au.mk (0:Int) (0:Int)) (0:Int) (0:Int) (0:Int))=ls.getD j (af.mk (au.mk (0:Int) (0:Int)) (0:Int) (0:Int) (0:Int))
def a2K(ls:List af)(q:af){j:Nat}(h:j<ls.length):(y6 ls q).getD j (af.mk (au.mk (0:Int) (0:Int)) (0:Int) (0:Int) (0:Int))=ls.getD j (af.mk (au.mk (0:Int) (0:Int)) (0:Int) (0:Int) (0:Int)):=by
 unfold y6;split
 .rfl
 .simp only[b0S,b1R h]
def YZ{a b:ae}(h:AB a b){p:au}(hp:(-1<=p.a0/\p.a0<(nK a:Int))/\(-1<=p.a1/\p.a1<(nK b:Int))){t x:Nat}(ht:t<mK a)(hx:x<kK a):B7 a p.a0 (t:Int) (x:Int)/\B7 b p.a1 (t:Int) (x:Int):=by
 have e1:mK b=mK a:=by simp only[mK,h.ks]
 have e2:kK b=kK a:=by simp only[kK,h.ks]
 exact⟨⟨⟨h.ka,hp.1.1,hp.1.2,by omega,by omega⟩,by omega,by omega⟩,⟨⟨h.kb,hp.2.1,hp.2.2,by omega,by omega⟩,by omega,by omega⟩⟩
def NJ{a b:ae}(h:AB a b){p:au}(hp:(-1<=p.a0/\p.a0<(nK a:Int))/\(-1<=p.a1/\p.a1<(nK b:Int))){i t:Nat}(ht:t<mK a){ls:List af}(hg:NZ a b ls)(hi:i<ls.length):∀ x,x<=kK a->RcX a b ls (cI a b p i t ls x)
 | 0,_=>⟨hg,b1d _,λ _ _=>rfl⟩
 | x+1,hx=>by
  have q:=NJ h hp ht hg hi x (by omega);have r:=YZ h hp ht (show x<kK a by omega);have u:=q.up;rw[cI];exact⟨a4l q.g ⟨TN r.1,TN r.2⟩ (by simp only[TX];omega),b2c u (a2H _ _),λ j hj=>(a2K _ _ (by omega)).trans (q.pre j hj)⟩
def Eb{a b:ae}(h:AB a b){p:au}(hp:(-1<=p.a0/\p.a0<(nK a:Int))/\(-1<=p.a1/\p.a1<(nK b:Int))){i:Nat}{ls:List af}(hg:NZ a b ls)(hi:i<ls.length):∀ t,t<=mK a->RcX a b ls (cA a b p i ls t)
 | 0,_=>⟨hg,b1d _,λ _ _=>rfl⟩
 | t+1,ht=>by
  have q:=Eb h hp hg hi t (by omega);have u:=q.up;have r:=NJ h hp (show t<mK a by omega) q.g (show i<(cA a b p i ls t).length by omega) (kK a) (b1d _);rw[cA];exact⟨r.g,b2c u r.up,λ j hj=>(r.pre j (by omega)).trans (q.pre j hj)⟩
def NZ.get{a b:ae}{ls:List af}(h:NZ a b ls){i:Nat}(hi:i<ls.length):(-1<=(ls.getD i (af.mk (au.mk (0:Int) (0:Int)) (0:Int) (0:Int) (0:Int))).pair.a0/\(ls.getD i (af.mk (au.mk (0:Int) (0:Int)) (0:Int) (0:Int) (0:Int))).pair.a0<(nK a:Int))/\(-1<=(ls.getD i (af.mk (au.mk (0:Int) (0:Int)) (0:Int) (0:Int) (0:Int))).pair.a1/\(ls.getD i (af.mk (au.mk (0:Int) (0:Int)) (0:Int) (0:Int) (0:Int))).pair.a1<(nK b:Int)):=h.fP _ (gS hi)
def j8{a b:ae}(h:AB a b):∀ i,NZ a b (aG a b i)
 | 0=>⟨by simp[aG],λ r hr=>by
   have:=h.ka.n1;have:=h.kb.n1;simp only[aG,b0Z] at hr;subst hr;simp only[nK];omega,by simp[aG],λ j hj=>by
   simp only[aG,b0W,b1f] at hj;have:j=0:=by omega
   subst this;simp[aG]⟩
 | i+1=>by
  have q:=j8 h i;rw[aG];split
  .rename_i hi;exact (Eb h (q.get hi) q hi (mK a) (b1d _)).g
  .exact q
def YY{a b:ae}(h:AB a b){i:Nat}(hi:i<(aG a b i).length):i+1<=(aG a b (i+1)).length:=by
 have q:=j8 h i;have:=(Eb h (q.get hi) q hi (mK a) (b1d _)).up;rw[aG,b0T hi];omega
def Ea{a b:ae}{i:Nat}(hi:¬ i<(aG a b i).length):∀ j,aG a b (i+j)=aG a b i
 | 0=>rfl
 | j+1=>by
  have e:=Ea hi j;rw[<-b3B,aG,e,b0N (by omega)]
def P4{a b:ae}{i:Nat}(hi:¬ i<(aG a b i).length)(h6:i<=3721):aG a b i=cN a b:=by
 have e:=Ea hi (3722+nK a - i);rw[show i+(3722+nK a - i)=3722+nK a by omega] at e;unfold cN;exact e.symm
def Jp{a b:ae}(h:AB a b):NZ a b (cN a b):=j8 h _
def BZ(r:af):af:=af.mk (au.mk r.pair.a1 r.pair.a0) r.nG r.atom r.act
def a7l(ls:List af)(q:au):lL (ls.map BZ) (au.mk q.a1 q.a0)=lL ls q:=by
 unfold lL;rw[List.any_map];congr 1;funext r;exact Bool.and_comm _ _
def a9u(ls:List af)(q:af):y6 (ls.map BZ) (BZ q)=(y6 ls q).map BZ:=by
 unfold y6;have e1:y7 (BZ q).pair=y7 q.pair:=Bool.and_comm _ _;have e2:lL (ls.map BZ) (BZ q).pair=lL ls q.pair:=a7l ls q.pair;rw[e1,e2];split<;>simp
def a5I(a b:ae)(h:b.sig=a.sig)(p:au)(i t:Nat)(ls:List af):∀ x,cI b a (au.mk p.a1 p.a0) i t (ls.map BZ) x=(cI a b p i t ls x).map BZ
 | 0=>rfl
 | x+1=>by
  rw[cI,cI,a5I a b h p i t ls x,<-a9u];rfl
def a5H(a b:ae)(h:b.sig=a.sig)(p:au)(i:Nat)(ls:List af):∀ t,cA b a (au.mk p.a1 p.a0) i (ls.map BZ) t=(cA a b p i ls t).map BZ
 | 0=>rfl
 | t+1=>by
  have e:kK b=kK a:=by simp only[kK,h]
  rw[cA,cA,a5H a b h p i ls t,a5I a b h,e]
def a5G(a b:ae)(h:b.sig=a.sig):∀ i,aG b a i=(aG a b i).map BZ
 | 0=>rfl
 | i+1=>by
  have e:mK b=mK a:=by simp only[mK,h]
  rw[aG,aG,a5G a b h i,b1F];by_cases hi:i<(aG a b i).length
  .rw[b0T hi,b0T hi];have e2:(((aG a b i).map BZ).getD i (af.mk (au.mk (0:Int) (0:Int)) (0:Int) (0:Int) (0:Int))).pair=au.mk ((aG a b i).getD i (af.mk (au.mk (0:Int) (0:Int)) (0:Int) (0:Int) (0:Int))).pair.a1 ((aG a b i).getD i (af.mk (au.mk (0:Int) (0:Int)) (0:Int) (0:Int) (0:Int))).pair.a0:=by
    simp only[b0S,b2i,b1a hi];rfl
   rw[e2,a5H a b h,e]
  .rw[b0N hi,b0N hi]
def a9t{a b:ae}(h:AB a b):cN b a=(cN a b).map BZ:=by
 have f:=(j8 h 3722).lV h;have q:¬ 3722<(aG a b 3722).length:=by omega
 have e1:aG a b (3722+nK b)=aG a b 3722:=Ea q _;have e2:aG a b (3722+nK a)=aG a b 3722:=Ea q _;unfold cN;rw[a5G a b h.ks,e1,e2]
def fK(ls:List af)(q:au):Option Bool:=if lL ls q=true\/(q.a0 = -1/\q.a1 = -1) then some true else none
def YP{ls:List af}{q:au}(h : -1<=q.a0 /\ -1<=q.a1):Option.getD (fK ls q) false=true↔y7 q=true\/lL ls q=true:=by
 unfold fK y7;simp only[Bool.and_eq_true,decide_eq_true_eq];split
 .rename_i w;simp only[b3g,true_iff];exact w.elim .inr λ w => .inl (by omega)
 .rename_i w;rw[not_or] at w;simp only[Option.getD_none,b1z,false_iff];rintro (q'|q')
  .exact w.2 (by omega)
  .exact w.1 q'
def R4(ls:List af)(r:af)(q:au):lL (ls++[r]) q=true↔lL ls q=true\/r.pair=q:=by
 rw[pM,pM];simp only[b0K,b0Z];constructor
 .rintro⟨x,h|h,e⟩
  .exact .inl ⟨x,h,e⟩
  .exact .inr (h ▸ e)
 .rintro (⟨x,h,e⟩|h)
  .exact⟨x, .inl h,e⟩
  .exact⟨r, .inr rfl,h⟩
def a2t(ls:List af)(r:af):fb (fK ls) r.pair true=fK (ls++[r]):=by
 funext q;by_cases h:q=r.pair
 .subst h;rw[pD,fK,b0T (.inl ((R4 _ _ _).2 (.inr rfl)))]
 .rw[iW _ _ _ h];unfold fK;have:lL (ls++[r]) q=true↔lL ls q=true:=by
   rw[R4];exact⟨λ w=>w.elim id λ e=>absurd e.symm h, .inl⟩
  simp only[this]
def a2s{ls:List af}{q:au}(h:¬ Option.getD (fK ls q) false=true)(n:Nat):gv (fK ls q) n=n+1:=by
 unfold fK at h ⊢;split
 .rename_i w;rw[b0T w] at h;exact absurd rfl h
 .rfl
end
end Go.Proofs.YtofnjfpeimhifaaGreatDoor

/- VmDImp, VmDSt, VmDSt2, VmDSt3, VmDSt4, VmCls, VmClsK, VmLst, VmCls2, VmCls3, VmClr, VmRch, VmRch2, VmDif, VmDif2, VmDif3, VmSem2, VmFAxi. -/
import Derived.Test.YtlpndogmpcolnaaGreatDoorVmISum
import Derived.WalkKit
import Derived.LoopTactic
import Derived.OwnWalk
import Derived.Deep.RegionHeld3
import Derived.Deep.AppendLies
import Derived.Maps.AppendAt
import Derived.Deep.DeepCutAuto
import Derived.Deep.CutBlock
import Derived.Lib.SliceRun
import Derived.Deep.RegionWith
set_option linter.all false
set_option maxHeartbeats 4000000
set_option maxRecDepth 4000
namespace Go.Proofs.YtlpndogmpcolnaaGreatDoor
def b9D:=@Option.bind_none
def b7F:=@Option.bind_some
def b8O:=@List.findIdx_cons
def b9n:=@Nat.lt_trichotomy
def b8X:=@List.findIdx_getElem
def b9E:=@List.ext_getElem
def b9F:=@Bool.not_eq_true
def b9G:=@List.mem_singleton_self
def c0e:=@decide_eq_true_iff
def c0a:=@List.length_reverse
def b6Y:=@And.left
def b6W:=@And.right
def b7w:=@List.prefix_refl
def c0f:=@List.prefix_append
noncomputable section
def b3q(a:Int)(x:J)(h:x.aj=2):true=fV a x:=by rw[<-a1y a x (by omega) (by omega) (by omega) (by omega),sY];simp[Jy,h]
def b3p(a:Int)(x:J)(h:x.aj=1):false=fV a x:=by rw[<-a1y a x (by omega) (by omega) (by omega) (by omega),sY];simp[Jy,h]
def b3o(a:Int)(x:J)(hg:aF x=true)(h2:¬ x.aj=2)(h8:¬ x.aj=8)(h3:¬ x.aj=3)(h5:¬ x.aj=5)(h6:¬ x.aj=6)(h7:¬ x.aj=7):false=fV a x:=by
 rcases fF x hg with h|h|h|h|h|h|h|h
 .exact b3p a x h
 .exact absurd h h2
 .exact absurd h h3
 .exact a9e a x h
 .exact absurd h h5
 .exact absurd h h6
 .exact absurd h h7
 .exact absurd h h8
noncomputable def O8(x:J):J:=if au x<=800 then gM x else J.mk (0:Int) (0:Int) []
noncomputable def cB(a c:Int)(x:J):J:=if (bU a c x).2=true then (bU a c x).1 else J.mk (0:Int) (0:Int) []
def a9C(x:J)(h:¬ 800<au x):gM x=O8 x:=by rw[O8,b5Q (by omega)]
def Yb(x:J)(h:800<au x):J.mk (0:Int) (0:Int) []=O8 x:=by rw[O8,b5I (by omega)]
def EA{a c:Int}{x:J}(h:(bU a c x).2=true):cB a c x=(bU a c x).1:=by rw[cB,b5Q h]
def a9c{a c:Int}{x:J}(h:(bU a c x).2=false):cB a c x=J.mk (0:Int) (0:Int) []:=by rw[cB,b5I (by rw[h];decide)]
structure rL(a c:Int)(x raw:J):Prop where
 e1:O8 raw=cB a c x
 e2:decide (au raw<=800)=(bU a c x).2
 g:aF raw=true
 n:au raw<=3000
def rL.of{a c:Int}{x:J}(j:SpJ a c x):rL a c x (oO a c x):=by
 by_cases h:800<au (oO a c x)
 .have e:=b1Z a c x j h;exact⟨by rw[a9c (by rw[e]),Yb _ h],by rw[e];simp;omega,j.g,j.n⟩
 .have e:=b1Y a c x j h;exact⟨by rw[EA (by rw[e]),e,a9C _ h],by rw[e];simp;omega,j.g,j.n⟩
def a1v(a c:Int)(x:J)(hg:aF x=true)(hn:au x<=1000)(h:x.aj=6)(e:(bU a c (x.U.getD 0 zE)).2=true)(e':(bU a c (x.U.getD 1 zE)).2=true):rL a c x (J.mk 6 0 [cB a c (x.U.getD 0 zE),cB a c (x.U.getD 1 zE)]):=by
 rw[EA e,EA e',<-UG a c x h];exact rL.of (b1W a c x hg hn h e e')
def Vr(a c:Int)(x:J)(hg:aF x=true)(hn:au x<=1000)(h:x.aj=7)(e:(bU a c (x.U.getD 0 zE)).2=true)(m:fV a (x.U.getD 0 zE)=true)(e':(bU a c (x.U.getD 1 zE)).2=true):rL a c x (J.mk 6 0 [J.mk 7 0 [cB a c (x.U.getD 0 zE),(x.U.getD 1 zE)],cB a c (x.U.getD 1 zE)]):=by
 rw[EA e,EA e',<-Nl a c x h m];exact rL.of (a5U a c x hg hn h e (.inr ⟨m,e'⟩))
def Vq(a c:Int)(x:J)(hg:aF x=true)(hn:au x<=1000)(h:x.aj=7)(e:(bU a c (x.U.getD 0 zE)).2=true)(m:fV a (x.U.getD 0 zE)=false):rL a c x (J.mk 7 0 [cB a c (x.U.getD 0 zE),(x.U.getD 1 zE)]):=by
 rw[EA e,<-Nk a c x h m];exact rL.of (a5U a c x hg hn h e (.inl m))
def a1w(a c:Int)(x:J)(hg:aF x=true)(hn:au x<=1000)(h:x.aj=8)(e:(bU a c (x.U.getD 0 zE)).2=true):rL a c x (J.mk 7 0 [cB a c (x.U.getD 0 zE),x]):=by
 rw[EA e,<-UH a c x h];exact rL.of (b1X a c x hg hn h e)
structure qi(a c:Int)(x:J):Prop where
 e1:J.mk (0:Int) (0:Int) []=cB a c x
 e2:false=(bU a c x).2
def qi.of{a c:Int}{x y:J}(h:bU a c x=(y,false)):qi a c x:=⟨(a9c (by rw[h])).symm,by rw[h]⟩
structure Eh(a c:Int)(x y:J):Prop where
 e1:y=cB a c x
 e2:true=(bU a c x).2
def Eh.of{a c:Int}{x y:J}(h:bU a c x=(y,true)):Eh a c x y:=⟨by rw[EA (by rw[h]),h],by rw[h]⟩
structure b2p(a c:Int)(x:J):Prop where
 g:(bU a c x).2=true->aF (cB a c x)=true
 n:(bU a c x).2=true->au (cB a c x)<=800
def diT(a c:Int)(x:J)(h:aF x=true):b2p a c x:=by
 have q:=No a c x h;exact⟨λ e=>by rw[EA e];exact q.g e,λ e=>by rw[EA e];exact q.n e⟩
def mj(n:Nat):bc:=⟨tX,[.v (.st .expr), .v (.int .i64)],λ (x:J) (atom:Int)=>⟨(some (bG x<n/\aF x=true/\0<=atom/\atom<=4096),[⟨.bool,fV atom x⟩])⟩⟩
def nB:bc:=⟨tX,[.v (.st .expr), .v (.int .i64)],λ (x:J) (atom:Int)=>⟨(some (aF x=true/\0<=atom/\atom<=4096),[⟨.bool,fV atom x⟩])⟩⟩
def OW(x:J)(atom:Int):Nat->aI:=cf
abbrev yg(n:Nat)(x:J)(atom:Int):Prop:=(let v0:=x.U.getD 1 zE;(x.U.length<=140737488355328 ->
 (aJ (1:Int) x.U.length/\((bG v0<n/\aF v0=true/\0<=atom/\atom<=4096)/\(fV atom v0)=(fV atom x)))))
abbrev yh(n:Nat)(x:J)(atom:Int):Prop:=(let v0:=x.U.getD 0 zE;let v1:=bG v0<n/\aF v0=true/\0<=atom/\atom<=4096;let v2:=fV atom v0;(((decide (x.aj=(6:Int)))=true ->
 (x.U.length<=140737488355328 ->
 (aJ (0:Int) x.U.length/\(v1/\((v2=false ->
 (yg n x atom))/\(v2=(!false) ->
 true=(fV atom x)))))))/\((decide (x.aj=(6:Int)))=false ->
 (((decide (x.aj=(7:Int)))=true ->
 (x.U.length<=140737488355328 ->
 (aJ (0:Int) x.U.length/\(v1/\((v2=true ->
 (yg n x atom))/\(v2=(!true) ->
 false=(fV atom x)))))))/\((decide (x.aj=(7:Int)))=false ->
 false=(fV atom x))))))
abbrev yi(n:Nat)(x:J)(atom:Int):Prop:=(let v0:=(bY x=true/\0<=atom/\atom<=4096)/\(cv atom x)=(fV atom x);let v1:=decide (x.aj=(3:Int));((v1=true ->
 ((v1=true ->
 v0)/\(v1=false ->
 (yh n x atom))))/\(v1=false ->
 (((decide (x.aj=(5:Int)))=true ->
 v0)/\((decide (x.aj=(5:Int)))=false ->
 (yh n x atom))))))
def M8(n:Nat)(hE:bu [mj n,zw]):bc.Good (mj (n+1)):=by
 refine⟨aG lW,?_⟩;intro (x:J) (atom:Int) (hp:bG x<n+1/\aF x=true/\0<=atom/\atom<=4096);refine bo [mj n,zw] [] [] [2] hE lW Ic (OW x atom) (let v0:=decide (x.aj=(2:Int));((ag x.aj->((v0=true->((v0=true->true=(fV atom x))/\(v0=false->(yi n x atom))))/\(v0=false->(((decide (x.aj=(8:Int)))=true->true=(fV atom x))/\((decide (x.aj=(8:Int)))=false->(yi n x atom)))))))) ?_;obtain⟨hm,hg,h0,h1⟩:=hp;refine λ _=>⟨λ _=>⟨λ _=>?_,λ _=>⟨λ _=>⟨λ _=>⟨?_,?_⟩,λ _=>⟨λ _ _=>⟨?_,?_,λ _ _=>⟨?_,?_,?_⟩,λ _=>?_⟩,λ _=>⟨λ _ _=>⟨?_,?_,λ _ _=>⟨?_,?_,?_⟩,λ _=>?_⟩,λ _=>?_⟩⟩⟩,λ _=>⟨λ _=>⟨?_,?_⟩,λ _=>⟨λ _ _=>⟨?_,?_,λ _ _=>⟨?_,?_,?_⟩,λ _=>?_⟩,λ _=>⟨λ _ _=>⟨?_,?_,λ _ _=>⟨?_,?_,?_⟩,λ _=>?_⟩,λ _=>?_⟩⟩⟩⟩⟩,λ _=>⟨λ _=>?_,λ _=>⟨λ _=>⟨λ _=>⟨?_,?_⟩,λ _=>⟨λ _ _=>⟨?_,?_,λ _ _=>⟨?_,?_,?_⟩,λ _=>?_⟩,λ _=>⟨λ _ _=>⟨?_,?_,λ _ _=>⟨?_,?_,?_⟩,λ _=>?_⟩,λ _=>?_⟩⟩⟩,λ _=>⟨λ _=>⟨?_,?_⟩,λ _=>⟨λ _ _=>⟨?_,?_,λ _ _=>⟨?_,?_,?_⟩,λ _=>?_⟩,λ _=>⟨λ _ _=>⟨?_,?_,λ _ _=>⟨?_,?_,?_⟩,λ _=>?_⟩,λ _=>?_⟩⟩⟩⟩⟩⟩;all_goals try and_intros
 all_goals first|rfl|trivial|omega|((try simp only[b5K,b5L,aJ,Bool.true_or,b7x,Bool.false_or,b8b,Bool.or_true,b7I,J.eta] at *);first|rfl|omega|exact b3o atom x hg (by omega) (by omega) (by omega) (by omega) (by omega) (by omega)|exact b3q atom x (by omega)|exact a9h atom x (by omega)|exact a1y atom x (by omega) (by omega) (by omega) (by omega)|exact VG x hg (by have:=fF x hg;omega)|(have b:=cH x hg (by omega);first|(have:=b.len;omega)|exact b.g0|exact b.g1|(have:=b.l0;omega)|(have:=b.l1;omega)|(rw[a9f atom x (by omega) b];simp_all;done)|(rw[a9g atom x (by omega) b];simp_all;done)))
def Tr :∀ n,bu [mj n]
 | 0=>⟨⟨aG lW,λ _ _ h=>absurd h.1 (b6H _)⟩,af⟩
 | n+1=>by
  have ih:=Tr  n;exact⟨M8 n ⟨ih.1,Mp,af⟩,af⟩
def wq :bc.Good nB :=
 ⟨aG lW,λ x atom hp=>(Tr  (bG x+1)).1.2 x atom (⟨b6g _,hp⟩)⟩
def kW(n:Nat):bc:=⟨qO,[.v (.st .expr)],λ (x:J)=>⟨(some (bG x<n/\au x<=1048576),[⟨(.int .i64),(au x:Int)⟩])⟩⟩
def AQ:bc:=⟨qO,[.v (.st .expr)],λ (x:J)=>⟨(some (au x<=1048576),[⟨(.int .i64),(au x:Int)⟩])⟩⟩
def MO(x:J):Nat->aI:=(fu 0 (.b (Nat) (λ k=>k<=x.U.length) (λ k=>x.U.length - k) [0,1,2,6] (λ k=>[(9, .aO ⟨(.int .i64),((k:Int):Int)⟩),(3, .aO ⟨(.int .i64),((1+dy au (x.U.take k):Int):Int)⟩)])) cf)
def Lc(n:Nat)(hE:bu [kW n]):bc.Good (kW (n+1)):=by
 refine⟨aG kM,?_⟩;intro (x:J) (hp:bG x<n+1/\au x<=1048576);refine bo [kW n] [] [] [1] hE kM GD (MO x) (let v0:=(x.U.length:Int);((x.U.length<=140737488355328->(ag v0->((∃ k1:Nat,(k1<=x.U.length/\(((1:Int)=(1+dy au (x.U.take k1):Int)/\(x.U=x.U/\(v0=v0/\((0:Int)=(k1:Int)/\True))))/\True)))/\(∀ k1:Nat,let v1:=aV (x.U.getD k1 zE);let v2:=(1+dy au (x.U.take k1):Int);let v3:=(au v1:Int);(k1<=x.U.length->(((decide ((k1:Int)<v0))=true->(aJ (k1:Int) x.U.length/\((bG v1<n/\au v1<=1048576)/\(ag v3->(ag (v2+v3)/\(ag ((k1:Int)+(1:Int))/\(∃ k2:Nat,(k2<=x.U.length/\(x.U.length - k2<x.U.length - k1/\(((v2+v3)=(1+dy au (x.U.take k2):Int)/\(x.U=x.U/\(v0=v0/\(((k1:Int)+(1:Int))=(k2:Int)/\True))))/\True))))))))))/\((decide ((k1:Int)<v0))=false->v2=(au x:Int)))))))))) ?_;rw[lM x] at hp;have f0:=fh x;have f1:=Nu au x.U;refine λ _ _=>⟨⟨0,?_,⟨?_,rfl,rfl,?_,af⟩,af⟩,λ k1 _=>have b2z:=ri au zE x.U k1;have b4Y:=gj au x.U k1;have b4Z:=gj au x.U (k1+1);have b5a:=Bq au x.U k1;have b5b:=cz zE x.U k1;⟨λ _=>⟨?_,?_,λ _=>⟨?_,?_,k1+1,?_,?_,⟨?_,rfl,rfl,?_,af⟩,af⟩⟩,λ _=>?_⟩⟩;all_goals try and_intros
 all_goals try (first|with_reducible rfl|with_reducible assumption)
 all_goals try simp only[J.eta,aE.eta,aQ,bq] at *
 all_goals try rw[lM x]
 all_goals first|rfl|trivial|omega|(simp only[b5K,b5L,aJ,ag,ca,ei,cY,bn] at *;omega)|(simp[aJ,ag] at *;omega)|grind
def NG :∀ n,bu [kW n]
 | 0=>⟨⟨aG kM,λ _ h=>absurd h.1 (b6H _)⟩,af⟩
 | n+1=>by
  have ih:=NG  n;exact⟨Lc n ⟨ih.1,af⟩,af⟩
def GR :bc.Good AQ :=
 ⟨aG kM,λ x hp=>(NG  (bG x+1)).1.2 x (⟨b6g _,hp⟩)⟩
def mn(n:Nat):bc:=⟨tY,[.v (.st .expr), .v (.st .expr)],λ (x:J) (b:J)=>⟨(some (bG x<n/\aF x=true/\aF b=true/\au x+au b<=4000),[⟨(.st .expr),rW x b⟩])⟩⟩
def tP:bc:=⟨tY,[.v (.st .expr), .v (.st .expr)],λ (x:J) (b:J)=>⟨(some (aF x=true/\aF b=true/\au x+au b<=4000),[⟨(.st .expr),rW x b⟩])⟩⟩
def OY(x:J)(b:J):Nat->aI:=cf
abbrev yj(n:Nat)(x:J)(b:J):Prop:=(let v0:=x.U.getD 1 zE;let v1:=x.U.getD 0 zE;(ag x.aj ->
 (((decide (x.aj=(2:Int)))=true ->
 (aV b)=(rW x b))/\((decide (x.aj=(2:Int)))=false ->
 (ag b.aj ->
 (((decide (b.aj=(2:Int)))=true ->
 (aV x)=(rW x b))/\((decide (b.aj=(2:Int)))=false ->
 (ag x.aj ->
 (((decide (x.aj=(7:Int)))=true ->
 (aJ (0:Int) x.U.length/\(aJ (1:Int) x.U.length/\((bG v0<n/\aF v0=true/\aF b=true/\au v0+au b<=4000)/\(x.U.length<=140737488355328 ->
 (x.U.length<=140737488355328 ->
 ((bG v1<n/\aF v1=true/\aF (rW v0 b)=true/\au v1+au (rW v0 b)<=4000)/\(aV (rW v1 (rW v0 b)))=(rW x b))))))))/\((decide (x.aj=(7:Int)))=false ->
 (aV (J.mk (7:Int) 0 ([x,b])))=(rW x b)))))))))))
def M9(n:Nat)(hE:bu [mn n,mg,mh]):bc.Good (mn (n+1)):=by
 refine⟨aG lX,?_⟩;intro (x:J) (b:J) (hp:bG x<n+1/\aF x=true/\aF b=true/\au x+au b<=4000);refine bo [mn n,mg,mh] [] [] [2,3,42] hE lX Ig (OY x b) (let v0:=aV (J.mk (1:Int) (0:Int) []);((ag x.aj->(((decide (x.aj=(1:Int)))=false->(ag b.aj->(((decide (b.aj=(1:Int)))=true->v0=(rW x b))/\((decide (b.aj=(1:Int)))=false->(yj n x b)))))/\((decide (x.aj=(1:Int)))=(!false)->((true=true->v0=(rW x b))/\(true=false->(yj n x b)))))))) ?_;obtain⟨hm,hg,hb,hn⟩:=hp;refine λ _=>⟨λ _ _=>⟨λ _=>?_,λ _ _=>⟨λ _=>?_,λ _ _=>⟨λ _=>?_,λ _ _=>⟨λ _=>⟨?_,?_,?_,λ _ _=>⟨?_,?_⟩⟩,λ _=>?_⟩⟩⟩⟩,λ _=>⟨λ _=>?_,λ _ _=>⟨λ _=>?_,λ _ _=>⟨λ _=>?_,λ _ _=>⟨λ _=>⟨?_,?_,?_,λ _ _=>⟨?_,?_⟩⟩,λ _=>?_⟩⟩⟩⟩⟩;all_goals try and_intros
 all_goals try (first|with_reducible rfl|with_reducible assumption)
 all_goals try simp only[J.eta,aE.eta,aQ,bq] at *
 all_goals (try simp only[b5T,b5U,b5K,b5L,aJ,J.eta] at *);first|rfl|trivial|omega|exact Gs _ (by omega)|exact (TT x b (by omega)).symm|exact (TU x b (by omega) (by omega)).symm|exact (TW x b (by omega) (by omega) (by omega)).symm|exact (TY x b (by omega) (by omega) (by omega) (by omega)).symm|with_reducible assumption|(have g:=cH x hg (by omega);first|(have:=g.len;omega)|exact g.g0|exact g.g1|(have:=g.l0;omega)|(have:=g.l1;omega)|exact (dtT _ b g.g1 hb).g|(have:=g.nd;omega)|(have:=g.nd;have:=(dtT _ b g.g1 hb).n;omega)|exact (TX x b (by omega) (by omega) (by omega) (by omega) g).symm)|exact congrArg J.aj (TT x b (by omega)).symm|exact congrArg J.aj (TU x b (by omega) (by omega)).symm|exact congrArg J.aj (TW x b (by omega) (by omega) (by omega)).symm|exact congrArg J.aj (TY x b (by omega) (by omega) (by omega) (by omega)).symm|exact congrArg J.aj (TX x b (by omega) (by omega) (by omega) (by omega) (cH x hg (by omega))).symm|exact congrArg J.aT (TT x b (by omega)).symm|exact congrArg J.aT (TU x b (by omega) (by omega)).symm|exact congrArg J.aT (TW x b (by omega) (by omega) (by omega)).symm|exact congrArg J.aT (TY x b (by omega) (by omega) (by omega) (by omega)).symm|exact congrArg J.aT (TX x b (by omega) (by omega) (by omega) (by omega) (cH x hg (by omega))).symm|exact congrArg J.U (TT x b (by omega)).symm|exact congrArg J.U (TU x b (by omega) (by omega)).symm|exact congrArg J.U (TW x b (by omega) (by omega) (by omega)).symm|exact congrArg J.U (TY x b (by omega) (by omega) (by omega) (by omega)).symm|exact congrArg J.U (TX x b (by omega) (by omega) (by omega) (by omega) (cH x hg (by omega))).symm
def Tq :∀ n,bu [mn n]
 | 0=>⟨⟨aG lX,λ _ _ h=>absurd h.1 (b6H _)⟩,af⟩
 | n+1=>by
  have ih:=Tq  n;exact⟨M9 n ⟨ih.1,nz,nA,af⟩,af⟩
def ID :bc.Good tP :=
 ⟨aG lX,λ x b hp=>(Tq  (bG x+1)).1.2 x b (⟨b6g _,hp⟩)⟩
def qG:bc:=⟨A7,[.v (.st .expr)],λ (x:J)=>⟨(some (aF x=true/\au x<=4000),[⟨(.st .expr),Nt x⟩])⟩⟩
def MR(x:J):Nat->aI:=cf
def GX:bc.Good qG:=by
 refine⟨aG xT,?_⟩;intro (x:J) (hp:aF x=true/\au x<=4000);refine bo [fY,mh,mg] [] [] [1,13] ⟨jN,nA,nz,af⟩ xT GK (MR x) ((((bj x)=true->(aV (J.mk (2:Int) (0:Int) []))=(Nt x))/\((bj x)=false->(ag x.aj->(((decide (x.aj=(8:Int)))=true->(aV x)=(Nt x))/\((decide (x.aj=(8:Int)))=false->(aV (J.mk (8:Int) 0 ([x])))=(Nt x))))))) ?_;obtain⟨hg,hn⟩:=hp;refine⟨λ _=>?_,λ _ _=>⟨λ _=>?_,λ _=>?_⟩⟩;all_goals try and_intros
 all_goals try (first|with_reducible rfl|with_reducible assumption)
 all_goals try simp only[J.eta,aE.eta,aQ,bq] at *
 all_goals (try simp only[decide_eq_true_eq,decide_eq_false_iff_not,aJ,J.eta] at *);first|rfl|trivial|omega|exact Gs _ (by omega)|(unfold Nt;first|(rw[if_pos (by with_reducible assumption)];done)|(rw[if_neg (by simp_all),if_pos (by with_reducible assumption)];done)|(rw[if_neg (by simp_all),if_neg (by with_reducible assumption)];done))
def GS:bc.Good fL:=sJ.plain
def rA(n:Nat):bc:=⟨Cx,[.v (.st .expr)],λ (x:J)=>⟨(some (bG x<n/\aF x=true/\au x<=3000),[⟨(.st .expr),gM x⟩])⟩⟩
def Cq:bc:=⟨Cx,[.v (.st .expr)],λ (x:J)=>⟨(some (aF x=true/\au x<=3000),[⟨(.st .expr),gM x⟩])⟩⟩
def V9(x:J):Nat->aI:=cf
def Tf(n:Nat)(hE:bu [rA n,tQ,tP,qG,fL]):bc.Good (rA (n+1)):=by
 refine⟨aG rm,?_⟩;intro (x:J) (hp:bG x<n+1/\aF x=true/\au x<=3000);refine bo [rA n,tQ,tP,qG,fL] [] [] [1] hE rm OB (V9 x) (let v0:=x.U.getD 0 zE;let v1:=x.U.getD 1 zE;let v2:=bG v0<n/\aF v0=true/\au v0<=3000;let v3:=bG v1<n/\aF v1=true/\au v1<=3000;let v4:=gM v0;((ag x.aj->(((decide (x.aj=(6:Int)))=true->(aJ (0:Int) x.U.length/\(v2/\(aJ (1:Int) x.U.length/\(x.U.length<=140737488355328->(x.U.length<=140737488355328->(v3/\((aF v4=true/\aF (gM v1)=true/\au v4+au (gM v1)<=7000)/\(aV (Tl v4 (gM v1)))=(gM x)))))))))/\((decide (x.aj=(6:Int)))=false->(((decide (x.aj=(7:Int)))=true->(aJ (0:Int) x.U.length/\(v2/\(aJ (1:Int) x.U.length/\(x.U.length<=140737488355328->(x.U.length<=140737488355328->(v3/\((aF v4=true/\aF (gM v1)=true/\au v4+au (gM v1)<=4000)/\(aV (rW v4 (gM v1)))=(gM x)))))))))/\((decide (x.aj=(7:Int)))=false->(((decide (x.aj=(8:Int)))=true->(x.U.length<=140737488355328->(aJ (0:Int) x.U.length/\(v2/\((aF v4=true/\au v4<=4000)/\(aV (Nt v4))=(gM x))))))/\((decide (x.aj=(8:Int)))=false->(ep x<=1048576/\(aV x)=(gM x))))))))))) ?_;obtain⟨hm,hg,hn⟩:=hp;refine λ _=>⟨λ _=>⟨?_,?_,?_,λ _ _=>⟨?_,?_,?_⟩⟩,λ _=>⟨λ _=>⟨?_,?_,?_,λ _ _=>⟨?_,?_,?_⟩⟩,λ _=>⟨λ _ _=>⟨?_,?_,?_,?_⟩,λ _=>⟨?_,?_⟩⟩⟩⟩;all_goals try and_intros
 all_goals try (first|with_reducible rfl|with_reducible assumption)
 all_goals try simp only[J.eta,aE.eta,aQ,bq] at *
 all_goals (try simp only[b5T,b5U,b5K,b5L,aJ,J.eta] at *);first|rfl|trivial|omega|exact Gs _ (by omega)|(have g:=jf x hg (.inr (by omega));first|(have:=g.len;omega)|exact g.g0|(have:=g.l0;omega)|(have:=g.nd;omega)|exact (F6 _ g.g0).g|(have:=(F6 _ g.g0).n;have:=g.nd;omega)|(rw[a6m x (by omega) g]<;>rfl))|(have g:=cH x hg (by omega);first|(have:=g.len;omega)|exact g.g0|exact g.g1|(have:=g.l0;omega)|(have:=g.l1;omega)|(have:=g.nd;omega)|exact (F6 _ g.g0).g|exact (F6 _ g.g1).g|(have:=(F6 _ g.g0).n;have:=(F6 _ g.g1).n;have:=g.nd;omega)|(rw[a6k x (by omega) g]<;>rfl)|(rw[a6l x (by omega) g]<;>rfl))|(rw[a6n x (by omega) (by omega) (by omega)]<;>rfl)
def Tt :∀ n,bu [rA n]
 | 0=>⟨⟨aG rm,λ _ h=>absurd h.1 (b6H _)⟩,af⟩
 | n+1=>by
  have ih:=Tt  n;exact⟨Tf n ⟨ih.1,IE,ID,GX,GS,af⟩,af⟩
def C6 :bc.Good Cq :=
 ⟨aG rm,λ x hp=>(Tt  (bG x+1)).1.2 x (⟨b6g _,hp⟩)⟩
def tO:bc:=⟨Dv,[.v (.st .expr)],λ (x:J)=>⟨(some (aF x=true/\au x<=3000),[⟨(.st .expr),O8 x⟩,⟨.bool,decide (au x<=800)⟩])⟩⟩
def OX(x:J):Nat->aI:=cf
def IC:bc.Good tO:=by
 refine⟨aG Aa,?_⟩;intro (x:J) (hp:aF x=true/\au x<=3000);refine bo [AQ,Cq] [] [] [1] ⟨GR,C6,af⟩ Aa Ie (OX x) (let v0:=decide ((800:Int)<((au x:Int)));((au x<=1048576/\(ag ((au x:Int))->((v0=true->(zE=(O8 x)/\false=(decide (au x<=800))))/\(v0=false->((aF x=true/\au x<=3000)/\((aV (gM x))=(O8 x)/\true=(decide (au x<=800)))))))))) ?_;obtain⟨hg,hn⟩:=hp;refine⟨?_,λ _=>⟨λ _=>⟨?_,?_⟩,λ _=>⟨?_,?_,?_⟩⟩⟩;all_goals try and_intros
 all_goals try (first|with_reducible rfl|with_reducible assumption)
 all_goals try simp only[J.eta,aE.eta,aQ,bq] at *
 all_goals (try simp only[b5K,b5L,aJ,J.eta] at *);first|rfl|trivial|omega|exact Yb x (by omega)|exact a9C x (by omega)|(simp;omega)|exact congrArg J.aj (Yb x (by omega))|exact congrArg J.aT (Yb x (by omega))|exact congrArg J.U (Yb x (by omega))
def mi(n:Nat):bc:=⟨tW,[.v (.st .expr), .v (.int .i64), .v (.int .i64)],λ (x:J) (atom:Int) (act:Int)=>⟨(some (bG x<n/\aF x=true/\au x<=1000/\0<=atom/\atom<=4096),[⟨(.st .expr),cB atom act x⟩,⟨.bool,(bU atom act x).2⟩])⟩⟩
def Dg:bc:=⟨tW,[.v (.st .expr), .v (.int .i64), .v (.int .i64)],λ (x:J) (atom:Int) (act:Int)=>⟨(some (aF x=true/\au x<=1000/\0<=atom/\atom<=4096),[⟨(.st .expr),cB atom act x⟩,⟨.bool,(bU atom act x).2⟩])⟩⟩
def OV(x:J)(atom:Int)(act:Int):Nat->aI:=cf
abbrev yd(x:J)(atom:Int)(act:Int):Prop:=((!((bU atom act (x.U.getD 1 zE)).2))=true ->
 (zE=(cB atom act x)/\false=((bU atom act x).2)))
abbrev ye(x:J)(atom:Int)(act:Int):Prop:=(let v0:=J.mk (6:Int) 0 ([(aV (cB atom act (x.U.getD 0 zE))),(aV (cB atom act (x.U.getD 1 zE)))]);((aF v0=true/\au v0<=3000)/\((aV (O8 v0))=(cB atom act x)/\(decide (au v0<=800))=((bU atom act x).2))))
abbrev yf(x:J)(atom:Int)(act:Int):Prop:=((!((bU atom act (x.U.getD 0 zE)).2))=true ->
 (zE=(cB atom act x)/\false=((bU atom act x).2)))
def M7(n:Nat)(hE:bu [mi n,mg,mh,nB,tO]):bc.Good (mi (n+1)):=by
 refine⟨aG lV,?_⟩;intro (x:J) (atom:Int) (act:Int) (hp:bG x<n+1/\aF x=true/\au x<=1000/\0<=atom/\atom<=4096);refine bo [mi n,mg,mh,nB,tO] [] [] [3,59,84,112,134] hE lV Ib (OV x atom act) (let v1:=x.U.getD 0 zE;let v3:=bG v1<n/\aF v1=true/\au v1<=1000/\0<=atom/\atom<=4096;let v4:=J.mk (7:Int) 0 ([(aV (cB atom act v1)),x]);let v5:=x.U.getD 1 zE;let v0:=aV (J.mk (7:Int) 0 ([(aV (cB atom act v1)),v5]));let v2:=J.mk (6:Int) 0 ([v0,(aV (cB atom act v5))]);let v6:=(bU atom act x).2;let v7:=bG v5<n/\aF v5=true/\au v5<=1000/\0<=atom/\atom<=4096;let v8:=cB atom act x;let v9 := !((bU atom act v1).2);let vb:=(0:Int);let va:=(aV (J.mk (1:Int) vb []))=v8/\true=v6;((ag x.aj->(((decide (x.aj=(4:Int)))=true->(ag x.aT->(((decide (x.aT=act))=true->((aV (J.mk (2:Int) vb []))=v8/\true=v6))/\((decide (x.aT=act))=false->va))))/\((decide (x.aj=(4:Int)))=false->(((decide (x.aj=(6:Int)))=true->(x.U.length<=140737488355328->(aJ vb x.U.length/\(v3/\(x.U.length<=140737488355328->(aJ (1:Int) x.U.length/\(v7/\((v9=false->((yd x atom act)/\((!((bU atom act v5).2))=false->(ye x atom act))))/\(v9=(!false)->((true=true->(zE=v8/\false=v6))/\(true=false->(ye x atom act))))))))))))/\((decide (x.aj=(6:Int)))=false->(((decide (x.aj=(7:Int)))=true->(x.U.length<=140737488355328->(aJ vb x.U.length/\(v3/\((yf x atom act)/\(v9=false->(aJ (1:Int) x.U.length/\(x.U.length<=140737488355328->(x.U.length<=140737488355328->(aJ vb x.U.length/\((aF v1=true/\0<=atom/\atom<=4096)/\(((!(fV atom v1))=true->((aF v0=true/\au v0<=3000)/\((aV (O8 v0))=v8/\(decide (au v0<=800))=v6)))/\((!(fV atom v1))=false->(x.U.length<=140737488355328->(aJ (1:Int) x.U.length/\(v7/\((yd x atom act)/\((!((bU atom act v5).2))=false->((aF v2=true/\au v2<=3000)/\((aV (O8 v2))=v8/\(decide (au v2<=800))=v6))))))))))))))))))))/\((decide (x.aj=(7:Int)))=false->(((decide (x.aj=(8:Int)))=true->(x.U.length<=140737488355328->(aJ vb x.U.length/\(v3/\((yf x atom act)/\(v9=false->((aF v4=true/\au v4<=3000)/\((aV (O8 v4))=v8/\(decide (au v4<=800))=v6))))))))/\((decide (x.aj=(8:Int)))=false->va))))))))))) ?_;obtain⟨hm,hg,hn,h0,h1⟩:=hp;refine λ _=>⟨λ _ _=>⟨λ _=>⟨?_,?_⟩,λ _=>⟨?_,?_⟩⟩,λ _=>⟨λ _ _=>⟨?_,?_,λ _=>⟨?_,?_,λ _=>⟨λ _=>⟨?_,?_⟩,λ _=>⟨?_,?_,?_⟩⟩,λ _=>⟨λ _=>⟨?_,?_⟩,λ _=>⟨?_,?_,?_⟩⟩⟩⟩,λ _=>⟨λ _ _=>⟨?_,?_,λ _=>⟨?_,?_⟩,λ _=>⟨?_,λ _ _=>⟨?_,?_,λ _=>⟨?_,?_,?_⟩,λ _ _=>⟨?_,?_,λ _=>⟨?_,?_⟩,λ _=>⟨?_,?_,?_⟩⟩⟩⟩⟩,λ _=>⟨λ _ _=>⟨?_,?_,λ _=>⟨?_,?_⟩,λ _=>⟨?_,?_,?_⟩⟩,λ _=>⟨?_,?_⟩⟩⟩⟩⟩;all_goals try and_intros
 all_goals try (first|with_reducible rfl|with_reducible assumption)
 all_goals try simp only[J.eta,aE.eta,aQ,bq] at *
 all_goals (try simp only[b5T,b5U,b6j,b6A,b5K,b5L,aJ,J.eta] at *);first|rfl|trivial|omega|with_reducible assumption|exact rL.e1 (a1v atom act x hg hn (by omega) (by with_reducible assumption) (by with_reducible assumption))|exact rL.e2 (a1v atom act x hg hn (by omega) (by with_reducible assumption) (by with_reducible assumption))|exact rL.g (a1v atom act x hg hn (by omega) (by with_reducible assumption) (by with_reducible assumption))|exact rL.n (a1v atom act x hg hn (by omega) (by with_reducible assumption) (by with_reducible assumption))|exact rL.e1 (Vr atom act x hg hn (by omega) (by with_reducible assumption) (by with_reducible assumption) (by with_reducible assumption))|exact rL.e2 (Vr atom act x hg hn (by omega) (by with_reducible assumption) (by with_reducible assumption) (by with_reducible assumption))|exact rL.g (Vr atom act x hg hn (by omega) (by with_reducible assumption) (by with_reducible assumption) (by with_reducible assumption))|exact rL.n (Vr atom act x hg hn (by omega) (by with_reducible assumption) (by with_reducible assumption) (by with_reducible assumption))|exact rL.e1 (Vq atom act x hg hn (by omega) (by with_reducible assumption) (by with_reducible assumption))|exact rL.e2 (Vq atom act x hg hn (by omega) (by with_reducible assumption) (by with_reducible assumption))|exact rL.g (Vq atom act x hg hn (by omega) (by with_reducible assumption) (by with_reducible assumption))|exact rL.n (Vq atom act x hg hn (by omega) (by with_reducible assumption) (by with_reducible assumption))|exact rL.e1 (a1w atom act x hg hn (by omega) (by with_reducible assumption))|exact rL.e2 (a1w atom act x hg hn (by omega) (by with_reducible assumption))|exact rL.g (a1w atom act x hg hn (by omega) (by with_reducible assumption))|exact rL.n (a1w atom act x hg hn (by omega) (by with_reducible assumption))|exact (Eh.of (Ju atom act x (by omega) (by omega))).e1|exact (Eh.of (Ju atom act x (by omega) (by omega))).e2|exact congrArg J.aj (Eh.of (Ju atom act x (by omega) (by omega))).e1|exact congrArg J.aT (Eh.of (Ju atom act x (by omega) (by omega))).e1|exact congrArg J.U (Eh.of (Ju atom act x (by omega) (by omega))).e1|exact (Eh.of (Jt atom act x (by omega) (by omega))).e1|exact (Eh.of (Jt atom act x (by omega) (by omega))).e2|exact congrArg J.aj (Eh.of (Jt atom act x (by omega) (by omega))).e1|exact congrArg J.aT (Eh.of (Jt atom act x (by omega) (by omega))).e1|exact congrArg J.U (Eh.of (Jt atom act x (by omega) (by omega))).e1|exact (Eh.of (Se atom act x (by omega) (by omega) (by omega) (by omega))).e1|exact (Eh.of (Se atom act x (by omega) (by omega) (by omega) (by omega))).e2|exact congrArg J.aj (Eh.of (Se atom act x (by omega) (by omega) (by omega) (by omega))).e1|exact congrArg J.aT (Eh.of (Se atom act x (by omega) (by omega) (by omega) (by omega))).e1|exact congrArg J.U (Eh.of (Se atom act x (by omega) (by omega) (by omega) (by omega))).e1|(have g:=cH x hg (by omega);first|(have:=g.len;omega)|exact g.g0|exact g.g1|(have:=g.l0;omega)|(have:=g.l1;omega)|(have:=g.nd;omega)|exact (qi.of (pK atom act x (by omega) g (.inl (by with_reducible assumption)))).e1|exact (qi.of (pK atom act x (by omega) g (.inl (by with_reducible assumption)))).e2|exact congrArg J.aj (qi.of (pK atom act x (by omega) g (.inl (by with_reducible assumption)))).e1|exact congrArg J.aT (qi.of (pK atom act x (by omega) g (.inl (by with_reducible assumption)))).e1|exact congrArg J.U (qi.of (pK atom act x (by omega) g (.inl (by with_reducible assumption)))).e1|exact (qi.of (pK atom act x (by omega) g (.inr (by with_reducible assumption)))).e1|exact (qi.of (pK atom act x (by omega) g (.inr (by with_reducible assumption)))).e2|exact congrArg J.aj (qi.of (pK atom act x (by omega) g (.inr (by with_reducible assumption)))).e1|exact congrArg J.aT (qi.of (pK atom act x (by omega) g (.inr (by with_reducible assumption)))).e1|exact congrArg J.U (qi.of (pK atom act x (by omega) g (.inr (by with_reducible assumption)))).e1|exact (qi.of (Jv atom act x (by omega) g (by with_reducible assumption))).e1|exact (qi.of (Jv atom act x (by omega) g (by with_reducible assumption))).e2|exact congrArg J.aj (qi.of (Jv atom act x (by omega) g (by with_reducible assumption))).e1|exact congrArg J.aT (qi.of (Jv atom act x (by omega) g (by with_reducible assumption))).e1|exact congrArg J.U (qi.of (Jv atom act x (by omega) g (by with_reducible assumption))).e1|exact (qi.of (Jw atom act x (by omega) g (by with_reducible assumption) (by with_reducible assumption) (by with_reducible assumption))).e1|exact (qi.of (Jw atom act x (by omega) g (by with_reducible assumption) (by with_reducible assumption) (by with_reducible assumption))).e2|exact congrArg J.aj (qi.of (Jw atom act x (by omega) g (by with_reducible assumption) (by with_reducible assumption) (by with_reducible assumption))).e1|exact congrArg J.aT (qi.of (Jw atom act x (by omega) g (by with_reducible assumption) (by with_reducible assumption) (by with_reducible assumption))).e1|exact congrArg J.U (qi.of (Jw atom act x (by omega) g (by with_reducible assumption) (by with_reducible assumption) (by with_reducible assumption))).e1)|(have g:=jf x hg (by omega);first|(have:=g.len;omega)|exact g.g0|(have:=g.l0;omega)|(have:=g.nd;omega)|exact (qi.of (Jx atom act x (by omega) g (by with_reducible assumption))).e1|exact (qi.of (Jx atom act x (by omega) g (by with_reducible assumption))).e2|exact congrArg J.aj (qi.of (Jx atom act x (by omega) g (by with_reducible assumption))).e1|exact congrArg J.aT (qi.of (Jx atom act x (by omega) g (by with_reducible assumption))).e1|exact congrArg J.U (qi.of (Jx atom act x (by omega) g (by with_reducible assumption))).e1)
def Tp :∀ n,bu [mi n]
 | 0=>⟨⟨aG lV,λ _ _ _ h=>absurd h.1 (b6H _)⟩,af⟩
 | n+1=>by
  have ih:=Tp  n;exact⟨M7 n ⟨ih.1,nz,nA,wq,IC,af⟩,af⟩
def IB :bc.Good Dg :=
 ⟨aG lV,λ x atom act hp=>(Tp  (bG x+1)).1.2 x atom act (⟨b6g _,hp⟩)⟩
noncomputable def fdN(xs:List J)(d:J):Nat:=xs.findIdx λ y=>ke y d
noncomputable def jM(xs:List J)(d:J):Int:=if fdN xs d<xs.length then (fdN xs d:Int) else -1
def a7L(xs:List J)(d:J) : -1<=jM xs d/\jM xs d<xs.length:=by
 unfold jM;split<;>omega
structure mF where
 ls:List J
 rw:List Int
noncomputable def rf(b:Bool)(a c:Int)(x:J)(s:mF):Option mF :=
 if (bU a c x).2=true then
  (if (cB a c x).aj=1 then some ⟨s.ls,s.rw++[-1]⟩ else if 0<=jM s.ls (cB a c x) then some ⟨s.ls,s.rw++[jM s.ls (cB a c x)]⟩
   else if b=true/\s.ls.length=60 then none else some ⟨s.ls++[cB a c x],s.rw++[(s.ls.length:Int)]⟩)
 else none
noncomputable def qh(b:Bool)(a:Int)(x:J):Nat->Int->mF->Option mF
 | 0,_,s=>some s
 | n+1,c,s=>(rf b a c x s).bind λ s'=>qh b a x n (c+1) s'
noncomputable def jX(b:Bool)(n:Nat)(x:J):Nat->Int->List J->List (List Int)->Option (List J×List (List Int))
 | 0,_,ls,rows=>some (ls,rows)
 | m+1,a,ls,rows=>(qh b a x n 0 ⟨ls,[]⟩).bind λ s=>jX b n x m (a+1) s.ls (rows++[s.rw])
noncomputable def DG(b:Bool)(m n:Nat):Nat->Nat->List J->List (List (List Int))->Option (List J×List (List (List Int)))
 | 0,_,_,_=>none
 | f+1,i,ls,nx=>if i<ls.length then ((jX b n (ls.getD i zE) m 0 ls []).bind λ q=>if q.1.length<=60 then DG b m n f (i+1) q.1 (nx++[q.2]) else none) else some (ls,nx)
noncomputable def mC(b:Bool)(gg:aD)(e:J):Option (List J×List (List (List Int))):=DG b (bE gg).toNat gg.aB.toNat 61 0 [gM e] []
def a6a{b:Bool}{a c:Int}{x:J}{s s':mF}(h:rf b a c x s=some s'):s.ls.length<=s'.ls.length:=by
 unfold rf at h;split at h
 .split at h
  .cases h;exact b6k _
  .split at h
   .cases h;exact b6k _
   .split at h
    .cases h
    .cases h;simp
 .cases h
def Ni{b:Bool}{a:Int}{x:J}:∀ (n:Nat) {c:Int} {s s':mF},qh b a x n c s=some s'->s.ls.length<=s'.ls.length
 | 0,_,_,_,h=>by cases h;exact b6k _
 | n+1,c,s,s',h=>by
  unfold qh at h;cases hs:rf b a c x s with
  | none=>rw[hs] at h;cases h
  | some t=>rw[hs] at h;exact b7g (a6a hs) (Ni n h)
def R3{b:Bool}{n:Nat}{x:J}:∀ (m:Nat) {a:Int} {ls:List J} {rows:List (List Int)} {q:List J×List (List Int)},jX b n x m a ls rows=some q->ls.length<=q.1.length
 | 0,_,_,_,_,h=>by cases h;exact b6k _
 | m+1,a,ls,rows,q,h=>by
  unfold jX at h;cases hs:qh b a x n 0 ⟨ls,[]⟩ with
  | none=>rw[hs] at h;cases h
  | some t=>rw[hs] at h;exact b7g (Ni n hs) (R3 m h)
def mS(k:Nat){α:Type}(o:α):Option α:=if k<=60 then some o else none
def PI(a:Int)(x:J):∀ (n:Nat) (c:Int) (s:mF),s.ls.length<=60->qh true a x n c s=(qh false a x n c s).bind λ s'=>mS s'.ls.length s'
 | 0,c,s,h=>by simp[qh,mS,h]
 | n+1,c,s,h=>by
  unfold qh;by_cases h1:(bU a c x).2=true
  .by_cases h2:(cB a c x).aj=1
   .have e:∀ b,rf b a c x s=some ⟨s.ls,s.rw++[-1]⟩:=λ b=>by rw[rf,b5Q h1,b5Q h2]
    rw[e,e];exact PI a x n (c+1) _ h
   .by_cases h3:0<=jM s.ls (cB a c x)
    .have e:∀ b,rf b a c x s=some ⟨s.ls,s.rw++[jM s.ls (cB a c x)]⟩:=λ b=>by rw[rf,b5Q h1,b5I h2,b5Q h3]
     rw[e,e];exact PI a x n (c+1) _ h
    .have ef:rf false a c x s=some ⟨s.ls++[cB a c x],s.rw++[(s.ls.length:Int)]⟩:=by rw[rf,b5Q h1,b5I h2,b5I h3,b5I (by simp)]
     rw[ef];by_cases h4:s.ls.length=60
     .have et:rf true a c x s=none:=by rw[rf,b5Q h1,b5I h2,b5I h3,b5Q ⟨rfl,h4⟩]
      rw[et];simp only[b9D,b7F];cases hq:qh false a x n (c+1) ⟨s.ls++[cB a c x],s.rw++[(s.ls.length:Int)]⟩ with
      | none=>rfl
      | some q =>
       have:=Ni n hq;simp only[b5Y,b5S,b6d] at this;simp only[b7F,mS];rw[b5I (by omega)]
     .have et:rf true a c x s=some ⟨s.ls++[cB a c x],s.rw++[(s.ls.length:Int)]⟩:=by rw[rf,b5Q h1,b5I h2,b5I h3,b5I (by simp[h4])]
      rw[et];exact PI a x n (c+1) _ (by simp;omega)
  .have e:∀ b,rf b a c x s=none:=λ b=>by rw[rf,b5I h1]
   rw[e,e];rfl
def YK(n:Nat)(x:J):∀ (m:Nat) (a:Int) (ls:List J) (rows:List (List Int)),ls.length<=60->jX true n x m a ls rows=(jX false n x m a ls rows).bind λ q=>mS q.1.length q
 | 0,a,ls,rows,h=>by simp[jX,mS,h]
 | m+1,a,ls,rows,h=>by
  unfold jX;rw[PI a x n 0 ⟨ls,[]⟩ h];cases hq:qh false a x n 0 ⟨ls,[]⟩ with
  | none=>rfl
  | some s =>
   simp only[b7F];by_cases hs:s.ls.length<=60
   .rw[mS,b5Q hs];exact YK n x m (a+1) s.ls _ hs
   .rw[mS,b5I hs];simp only[b9D];cases hr:jX false n x m (a+1) s.ls (rows++[s.rw]) with
    | none=>rfl
    | some q =>
     have:=R3 m hr;simp only[b7F,mS];rw[b5I (by omega)]
def a2j(m n:Nat):∀ (f i:Nat) (ls:List J) (nx:List (List (List Int))),ls.length<=60->DG true m n f i ls nx=DG false m n f i ls nx
 | 0,_,_,_,_=>rfl
 | f+1,i,ls,nx,h=>by
  unfold DG;by_cases hi:i<ls.length
  .rw[b5Q hi,b5Q hi,YK n _ m 0 ls [] h];cases hr:jX false n (ls.getD i zE) m 0 ls [] with
   | none=>rfl
   | some q =>
    simp only[b7F,mS];by_cases hq:q.1.length<=60
    .rw[b5Q hq];simp only[b7F];rw[b5Q hq,b5Q hq];exact a2j m n f (i+1) q.1 _ hq
    .rw[b5I hq];simp only[b9D];rw[b5I hq]
  .rw[b5I hi,b5I hi]
def a6d(gg:aD)(e:J):mC true gg e=mC false gg e:=a2j _ _ _ _ _ _ (by simp)
noncomputable def dm(gg:aD)(e:J):List J:=((mC false gg e).getD ([],[])).1
noncomputable def iM(gg:aD)(e:J):List (List (List Int)):=((mC false gg e).getD ([],[])).2
noncomputable def dG(gg:aD)(e:J):Int:=if (mC false gg e).isSome=true then 0 else 3
def qA(ls:List J):Prop:=∀ y∈ls,aF y=true/\au y<=1000
def qA.get{ls:List J}(h:qA ls){i:Nat}(hi:i<ls.length):aF (ls.getD i zE)=true/\au (ls.getD i zE)<=1000:=h _ (by
 rw[b5P,b6e hi];exact b7a _)
def qA.snoc{ls:List J}(h:qA ls){d:J}(hd:aF d=true/\au d<=1000):qA (ls++[d]):=λ y hy=>by
 rcases b5F.1 hy with q|q
 .exact h y q
 .rw[b5Z] at q;rw[q];exact hd
def Tj(L:Nat)(r:List Int):Prop:=∀ v∈r,-1<=v/\v<(L:Int)
def HW(n L:Nat)(rows:List (List Int)):Prop:=∀ r∈rows,r.length=n/\Tj L r
def Pf(m n L:Nat)(nx:List (List (List Int))):Prop:=∀ rows∈nx,rows.length=m/\HW n L rows
def Tj.up{L L':Nat}{r:List Int}(h:Tj L r)(hl:L<=L'):Tj L' r:=λ v hv=>⟨(h v hv).1,by have:=(h v hv).2;omega⟩
def HW.up{n L L':Nat}{r:List (List Int)}(h:HW n L r)(hl:L<=L'):HW n L' r:=λ v hv=>⟨(h v hv).1,(h v hv).2.up hl⟩
def Pf.up{m n L L':Nat}{r:List (List (List Int))}(h:Pf m n L r)(hl:L<=L'):Pf m n L' r:=λ v hv=>⟨(h v hv).1,(h v hv).2.up hl⟩
def Tj.snoc{L:Nat}{r:List Int}(h:Tj L r){v:Int}(hv : -1<=v/\v<(L:Int)):Tj L (r++[v]):=λ u hu=>by
 rcases b5F.1 hu with q|q
 .exact h u q
 .rw[b5Z] at q;rw[q];exact hv
def HW.snoc{n L:Nat}{r:List (List Int)}(h:HW n L r){v:List Int}(h1:v.length=n)(hv:Tj L v):HW n L (r++[v]):=λ u hu=>by
 rcases b5F.1 hu with q|q
 .exact h u q
 .rw[b5Z] at q;rw[q];exact⟨h1,hv⟩
def Pf.snoc{m n L:Nat}{r:List (List (List Int))}(h:Pf m n L r){v:List (List Int)}(h1:v.length=m)(hv:HW n L v):Pf m n L (r++[v]):=λ u hu=>by
 rcases b5F.1 hu with q|q
 .exact h u q
 .rw[b5Z] at q;rw[q];exact⟨h1,hv⟩
structure BO(b:Bool)(gg:aD)(e:J)(i:Nat)(ls:List J)(nx:List (List (List Int))):Prop where
 eq:DG b (bE gg).toNat gg.aB.toNat (61 - i) i ls nx=mC b gg e
 le:i<=ls.length
 mS:ls.length<=60
 AH:nx.length=i
 wm:qA ls
 pos:0<ls.length
 ok:Pf (bE gg).toNat gg.aB.toNat ls.length nx
noncomputable def kO(b:Bool)(gg:aD)(i:Nat)(nx:List (List (List Int)))(q:List J×List (List Int)):Option (List J×List (List (List Int))) :=
 if q.1.length<=60 then DG b (bE gg).toNat gg.aB.toNat (61 - (i+1)) (i+1) q.1 (nx++[q.2]) else none
structure BM(b:Bool)(gg:aD)(e:J)(i:Nat)(nx:List (List (List Int)))(x:J)(a:Nat)(ls:List J)(rows:List (List Int)):Prop where
 eq:(jX b gg.aB.toNat x ((bE gg).toNat - a) (a:Int) ls rows).bind (kO b gg i nx)=mC b gg e
 ha:a<=(bE gg).toNat
 IZ:rows.length=a
 hi:i<ls.length
 i6:i<60
 AH:nx.length=i
 hx:ls.getD i zE=x
 wm:qA ls
 mS:ls.length<=60+4 * a
 b6:b=true->ls.length<=60
 ok:Pf (bE gg).toNat gg.aB.toNat ls.length nx
 rk:HW gg.aB.toNat ls.length rows
structure BI(b:Bool)(gg:aD)(e:J)(i:Nat)(nx:List (List (List Int)))(x:J)(a:Nat)(rows:List (List Int))(c:Nat)(s:mF):Prop where
 eq:((qh b (a:Int) x (gg.aB.toNat - c) (c:Int) s).bind λ s'=>jX b gg.aB.toNat x ((bE gg).toNat - (a+1)) ((a:Int)+1) s'.ls (rows++[s'.rw])).bind (kO b gg i nx)=mC b gg e
 ha:a<(bE gg).toNat
 hc:c<=gg.aB.toNat
 rw:s.rw.length=c
 IZ:rows.length=a
 hi:i<s.ls.length
 i6:i<60
 AH:nx.length=i
 hx:s.ls.getD i zE=x
 wm:qA s.ls
 mS:s.ls.length<=60+4 * a+c
 b6:b=true->s.ls.length<=60
 ok:Pf (bE gg).toNat gg.aB.toNat s.ls.length nx
 rk:HW gg.aB.toNat s.ls.length rows
 wk:Tj s.ls.length s.rw
def BO.first(b:Bool)(gg:aD)(e:J)(hg:aF e=true)(hn:au e<=1000):BO b gg e 0 [gM e] [] :=
 ⟨rfl,b6L _,by simp,rfl,λ y hy=>by
  rw[b5Z] at hy;have:=F6 e hg;rw[hy];exact⟨this.g,by have:=this.n;omega⟩,by simp,λ _ h=>by cases h⟩
def BO.go{b:Bool}{gg:aD}{e:J}{i:Nat}{ls:List J}{nx:List (List (List Int))}(h:BO b gg e i ls nx)(hi:i<ls.length):BM b gg e i nx (ls.getD i zE) 0 ls []:=by
 have h6:=h.mS;refine⟨?_,b6L _,rfl,hi,by omega,h.AH,rfl,h.wm,by omega,λ _=>h6,h.ok,λ _ h=>by cases h⟩;rw[<-h.eq,show 61 - i=(61 - (i+1))+1 by omega,DG,b5Q hi];rfl
def BO.done{b:Bool}{gg:aD}{e:J}{i:Nat}{ls:List J}{nx:List (List (List Int))}(h:BO b gg e i ls nx)(hi:ls.length<=i):mC b gg e=some (ls,nx):=by
 have h6:=h.mS;have:=h.le;rw[<-h.eq,show 61 - i=(61 - (i+1))+1 by omega,DG,b5I (by omega)]
def BM.go{b:Bool}{gg:aD}{e:J}{i:Nat}{nx:List (List (List Int))}{x:J}{a:Nat}{ls:List J}{rows:List (List Int)}(h:BM b gg e i nx x a ls rows)(ha:a<(bE gg).toNat):BI b gg e i nx x a rows 0 ⟨ls,[]⟩:=by
 refine⟨?_,ha,Nat.zero_le _,rfl,h.IZ,h.hi,h.i6,h.AH,h.hx,h.wm,by have:=h.mS;simpa using this,h.b6,h.ok,h.rk,λ _ h=>by cases h⟩;rw[<-h.eq,show (bE gg).toNat - a=((bE gg).toNat - (a+1))+1 by omega,jX];rfl
def BM.done{b:Bool}{gg:aD}{e:J}{i:Nat}{nx:List (List (List Int))}{x:J}{a:Nat}{ls:List J}{rows:List (List Int)}(h:BM b gg e i nx x a ls rows)(ha:(bE gg).toNat<=a)(h6:ls.length<=60):BO b gg e (i+1) ls (nx++[rows]):=by
 have:=h.ha;have hi:=h.hi;refine⟨?_,hi,h6,by rw[b5Y,h.AH];rfl,h.wm,by omega,h.ok.snoc (by rw[h.IZ];omega) h.rk⟩;rw[<-h.eq,show (bE gg).toNat - a=0 by omega,jX,b7F,kO,b5Q h6]
def BM.over{b:Bool}{gg:aD}{e:J}{i:Nat}{nx:List (List (List Int))}{x:J}{a:Nat}{ls:List J}{rows:List (List Int)}(h:BM b gg e i nx x a ls rows)(ha:(bE gg).toNat<=a)(h6:60<ls.length):mC b gg e=none:=by
 have:=h.ha;rw[<-h.eq,show (bE gg).toNat - a=0 by omega,jX,Option.bind_some,kO,if_neg (by simpa using h6)]
def BI.done{b:Bool}{gg:aD}{e:J}{i:Nat}{nx:List (List (List Int))}{x:J}{a:Nat}{rows:List (List Int)}{c:Nat}{s:mF}(h:BI b gg e i nx x a rows c s)(hs:gg.aB.toNat<=4)(hc:gg.aB.toNat<=c):BM b gg e i nx x (a+1) s.ls (rows++[s.rw]):=by
 have:=h.hc;refine⟨?_,h.ha,by rw[b5Y,h.IZ];rfl,h.hi,h.i6,h.AH,h.hx,h.wm,by have:=h.mS;omega,h.b6,h.ok,h.rk.snoc (by rw[h.rw];omega) h.wk⟩;rw[<-h.eq,show gg.aB.toNat - c=0 by omega,qh,b7F];rfl
def BI.step{b:Bool}{gg:aD}{e:J}{i:Nat}{nx:List (List (List Int))}{x:J}{a:Nat}{rows:List (List Int)}{c:Nat}{s:mF}(h:BI b gg e i nx x a rows c s)(hc:c<gg.aB.toNat) :
  ((rf b (a:Int) (c:Int) x s).bind λ s=>(qh b (a:Int) x (gg.aB.toNat - (c+1)) ((c:Int)+1) s).bind λ s'=>jX b gg.aB.toNat x ((bE gg).toNat - (a+1)) ((a:Int)+1) s'.ls (rows++[s'.rw])).bind (kO b gg i nx)=mC b gg e:=by
 rw[<-h.eq,show gg.aB.toNat - c=(gg.aB.toNat - (c+1))+1 by omega,qh];simp only[Option.bind_assoc]
def BI.fail{b:Bool}{gg:aD}{e:J}{i:Nat}{nx:List (List (List Int))}{x:J}{a:Nat}{rows:List (List Int)}{c:Nat}{s:mF}(h:BI b gg e i nx x a rows c s)(hc:c<gg.aB.toNat)(hf:rf b (a:Int) (c:Int) x s=none):mC b gg e=none:=by
 rw[<-h.step hc,hf];rfl
def BI.next{b:Bool}{gg:aD}{e:J}{i:Nat}{nx:List (List (List Int))}{x:J}{a:Nat}{rows:List (List Int)}{c:Nat}{s:mF}(h:BI b gg e i nx x a rows c s)(hc:c<gg.aB.toNat){s':mF}(hf:rf b (a:Int) (c:Int) x s=some s')
  (hl:s'.ls=s.ls\/∃ d,aF d=true/\au d<=1000/\s'.ls=s.ls++[d]/\(b=true->s.ls.length<60)) (hr:s'.rw.length=c+1) (hw:Tj s'.ls.length s'.rw):BI b gg e i nx x a rows (c+1) s':=by
 have hi:=h.hi;have hx:=h.hx;have h6:=h.mS;have hb6:=h.b6;have hup:s.ls.length<=s'.ls.length:=by
  rcases hl with e|⟨d,_,_,e,_⟩<;>rw[e]<;>simp
 refine⟨?_,h.ha,hc,hr,h.IZ,?_,h.i6,h.AH,?_,?_,?_,?_,h.ok.up hup,h.rk.up hup,hw⟩
 .rw[<-h.step hc,hf];rfl
 .rcases hl with e|⟨d,_,_,e,_⟩
  .rw[e];exact hi
  .rw[e];simp;omega
 .rcases hl with e|⟨d,_,_,e,_⟩
  .rw[e];exact hx
  .rw[e,b5P,b6X hi,<-b5P];exact hx
 .rcases hl with e|⟨d,d1,d2,e,_⟩
  .rw[e];exact h.wm
  .rw[e];exact h.wm.snoc ⟨d1,d2⟩
 .rcases hl with e|⟨d,_,_,e,_⟩
  .rw[e];omega
  .rw[e];simp;omega
 .intro hb;rcases hl with e|⟨d,_,_,e,q⟩
  .rw[e];exact hb6 hb
  .rw[e];have:=q hb;simp;omega
def BI.w0{b:Bool}{gg:aD}{e:J}{i:Nat}{nx:List (List (List Int))}{x:J}{a:Nat}{rows:List (List Int)}{c:Nat}{s:mF}(h:BI b gg e i nx x a rows c s)(hc:c<gg.aB.toNat)(h1:(bU (a:Int) (c:Int) x).2=false):mC b gg e=none :=
 h.fail hc (by rw[rf,b5I (by rw[h1];decide)])
def BI.w1{b:Bool}{gg:aD}{e:J}{i:Nat}{nx:List (List (List Int))}{x:J}{a:Nat}{rows:List (List Int)}{c:Nat}{s:mF}(h:BI b gg e i nx x a rows c s)(hc:c<gg.aB.toNat)(h1:(bU (a:Int) (c:Int) x).2=true)(h2:(cB (a:Int) (c:Int) x).aj=1):BI b gg e i nx x a rows (c+1) ⟨s.ls,s.rw++[-1]⟩ :=
 h.next hc (by rw[rf,b5Q h1,b5Q h2]) (.inl rfl) (by rw[b5Y,h.rw];rfl) (h.wk.snoc ⟨by omega,by show (-1:Int)<(s.ls.length:Int);omega⟩)
def BI.w2{b:Bool}{gg:aD}{e:J}{i:Nat}{nx:List (List (List Int))}{x:J}{a:Nat}{rows:List (List Int)}{c:Nat}{s:mF}(h:BI b gg e i nx x a rows c s)(hc:c<gg.aB.toNat)(h1:(bU (a:Int) (c:Int) x).2=true)(h2:¬ (cB (a:Int) (c:Int) x).aj=1)(h3:0<=jM s.ls (cB (a:Int) (c:Int) x)):BI b gg e i nx x a rows (c+1) ⟨s.ls,s.rw++[jM s.ls (cB (a:Int) (c:Int) x)]⟩ :=
 h.next hc (by rw[rf,b5Q h1,b5I h2,b5Q h3]) (.inl rfl) (by rw[b5Y,h.rw];rfl) (h.wk.snoc (a7L _ _))
def BI.w3{b:Bool}{gg:aD}{e:J}{i:Nat}{nx:List (List (List Int))}{x:J}{a:Nat}{rows:List (List Int)}{c:Nat}{s:mF}(h:BI b gg e i nx x a rows c s)(hc:c<gg.aB.toNat)(h1:(bU (a:Int) (c:Int) x).2=true)(h2:¬ (cB (a:Int) (c:Int) x).aj=1)(h3:jM s.ls (cB (a:Int) (c:Int) x)<0)(h4:b=true->¬ s.ls.length=60):BI b gg e i nx x a rows (c+1) ⟨s.ls++[cB (a:Int) (c:Int) x],s.rw++[(s.ls.length:Int)]⟩:=by
 have hg:=h.wm.get h.hi;rw[h.hx] at hg;have q:=diT (a:Int) (c:Int) x hg.1;have hb6:=h.b6;refine h.next hc (by rw[rf,b5Q h1,b5I h2,b5I (by omega),b5I λ q=>h4 q.1 q.2]) (.inr ⟨_,q.g h1,by have:=q.n h1;omega,rfl,λ hb=>by have:=h4 hb;have:=hb6 hb;omega⟩) (by rw[b5Y,h.rw];rfl) ((h.wk.up (by simp)).snoc ⟨by omega,by simp;omega⟩)
def BI.w4{gg:aD}{e:J}{i:Nat}{nx:List (List (List Int))}{x:J}{a:Nat}{rows:List (List Int)}{c:Nat}{s:mF}(h:BI true gg e i nx x a rows c s)(hc:c<gg.aB.toNat)(h1:(bU (a:Int) (c:Int) x).2=true)(h2:¬ (cB (a:Int) (c:Int) x).aj=1)(h3:jM s.ls (cB (a:Int) (c:Int) x)<0)(h4:s.ls.length=60):mC true gg e=none :=
 h.fail hc (by rw[rf,b5Q h1,b5I h2,b5I (by omega),b5Q ⟨rfl,h4⟩])
def nm{gg:aD}{e:J}{b:Bool}(h:mC b gg e=none):dm gg e=[]/\iM gg e=[]/\dG gg e=3:=by
 have h':mC false gg e=none:=by cases b with
  | false=>exact h
  | true=>rw[<-a6d];exact h
 unfold dm iM dG;rw[h'];exact⟨rfl,rfl,rfl⟩
def Lv{gg:aD}{e:J}{b:Bool}{ls:List J}{nx:List (List (List Int))}(h:mC b gg e=some (ls,nx)):dm gg e=ls/\iM gg e=nx/\dG gg e=0:=by
 have h':mC false gg e=some (ls,nx):=by cases b with
  | false=>exact h
  | true=>rw[<-a6d];exact h
 unfold dm iM dG;rw[h'];exact⟨rfl,rfl,rfl⟩
structure U4 where
 i:Nat
 ls:List J
 nx:List (List (List Int))
structure U3 where
 a:Nat
 ls:List J
 rows:List (List Int)
structure U2 where
 c:Nat
 s:mF
noncomputable def JP(ls:List J)(d:J):Int:=if d.aj=1 then -1 else if 0<=jM ls d then jM ls d else (ls.length:Int)
noncomputable def uU(ls:List J)(d:J):List J:=if d.aj=1 then ls else if 0<=jM ls d then ls else ls++[d]
def Tz{ls:List J}{d:J}(h:d.aj=1) : -1=JP ls d/\ls=uU ls d:=by rw[JP,uU,b5Q h,b5Q h];exact⟨rfl,rfl⟩
def TA{ls:List J}{d:J}(h:¬ d.aj=1)(h2:¬ jM ls d<0):jM ls d=JP ls d/\ls=uU ls d:=by
 rw[JP,uU,b5I h,b5I h,b5Q (by omega),b5Q (by omega)];exact⟨rfl,rfl⟩
def TB{ls:List J}{d:J}(h:¬ d.aj=1)(h2:jM ls d<0):(ls.length:Int)=JP ls d/\ls++[d]=uU ls d:=by
 rw[JP,uU,b5I h,b5I h,b5I (by omega),b5I (by omega)];exact⟨rfl,rfl⟩
def BI.b1A{b:Bool}{gg:aD}{e:J}{i:Nat}{nx:List (List (List Int))}{x:J}{a:Nat}{rows:List (List Int)}{c:Nat}{s:mF}(h:BI b gg e i nx x a rows c s)(hc:c<gg.aB.toNat)(h1:(bU (a:Int) (c:Int) x).2=true)
  (h4:b=true->¬ (cB (a:Int) (c:Int) x).aj=1->jM s.ls (cB (a:Int) (c:Int) x)<0->¬ s.ls.length=60):BI b gg e i nx x a rows (c+1) ⟨uU s.ls (cB (a:Int) (c:Int) x),s.rw++[JP s.ls (cB (a:Int) (c:Int) x)]⟩:=by
 by_cases h2:(cB (a:Int) (c:Int) x).aj=1
 .have e:=Tz (ls:=s.ls) h2;rw[<-e.1,<-e.2];exact h.w1 hc h1 h2
 .by_cases h3:jM s.ls (cB (a:Int) (c:Int) x)<0
  .have e:=TB h2 h3;rw[<-e.1,<-e.2];exact h.w3 hc h1 h2 h3 λ hb=>h4 hb h2 h3
  .have e:=TA h2 h3;rw[<-e.1,<-e.2];exact h.w2 hc h1 h2 (by omega)
def BI.ZK{b:Bool}{gg:aD}{e:J}{i:Nat}{nx:List (List (List Int))}{x:J}{a:Nat}{rows:List (List Int)}{c:Nat}{s:mF}(h:BI b gg e i nx x a rows c s)(hc:c<gg.aB.toNat)(h1:(bU (a:Int) (c:Int) (s.ls.getD i zE)).2=false):mC b gg e=none:=by
 rw[h.hx] at h1;exact h.w0 hc h1
def BI.get{b:Bool}{gg:aD}{e:J}{i:Nat}{nx:List (List (List Int))}{x:J}{a:Nat}{rows:List (List Int)}{c:Nat}{s:mF}(h:BI b gg e i nx x a rows c s):aF (s.ls.getD i zE)=true/\au (s.ls.getD i zE)<=1000:=h.wm.get h.hi
structure BIl(gg:aD)(i a c:Nat)(nx:List (List (List Int)))(rows:List (List Int))(s:mF):Prop where
 l1:i<s.ls.length
 l2:s.ls.length<=100
 l3:a<8
 l4:c<=4
 l5:s.rw.length<=4
 l6:rows.length<=8
 l7:nx.length<=60
 l8:i<60
def BI.lens{b:Bool}{gg:aD}{e:J}{i:Nat}{nx:List (List (List Int))}{x:J}{a:Nat}{rows:List (List Int)}{c:Nat}{s:mF}(h:BI b gg e i nx x a rows c s)(hg:sigOk gg=true):BIl gg i a c nx rows s:=by
 rw[dt] at hg;have:=qk gg hg.1;have:=h.mS;have:=h.ha;have:=h.hc;have:=h.rw;have:=h.IZ;have:=h.AH;have:=h.hi;have:=h.i6;constructor<;>omega
structure BMl(i a:Nat)(nx:List (List (List Int)))(ls:List J)(rows:List (List Int)):Prop where
 l1:i<ls.length
 l2:ls.length<=100
 l3:a<=8
 l6:rows.length<=8
 l7:nx.length<=60
 l8:i<60
def BM.lens{b:Bool}{gg:aD}{e:J}{i:Nat}{nx:List (List (List Int))}{x:J}{a:Nat}{ls:List J}{rows:List (List Int)}(h:BM b gg e i nx x a ls rows)(hg:sigOk gg=true):BMl i a nx ls rows:=by
 rw[dt] at hg;have:=qk gg hg.1;have:=h.mS;have:=h.ha;have:=h.IZ;have:=h.AH;have:=h.hi;have:=h.i6;constructor<;>omega
structure BOl(i:Nat)(ls:List J)(nx:List (List (List Int))):Prop where
 l1:i<=ls.length
 l2:ls.length<=60
 l3:nx.length<=60
def BO.lens{b:Bool}{gg:aD}{e:J}{i:Nat}{ls:List J}{nx:List (List (List Int))}(h:BO b gg e i ls nx):BOl i ls nx:=by
 have:=h.le;have:=h.mS;have:=h.AH;constructor<;>omega
noncomputable def EE(x:J)(a:Nat):List Bool:=(List.range a).map λ (i:Nat)=>fV (i:Int) x
noncomputable def pP(gg:aD)(ls:List J):List (List Bool):=ls.map λ x=>EE x (bE gg).toNat
def b0X(x:J)(a:Nat):EE x a++[fV (a:Int) x]=EE x (a+1):=by simp[EE,List.range_succ]
def Xn(x:J)(a:Nat):(EE x a).length=a:=by simp[EE]
def b0Y(gg:aD)(ls:List J)(k:Nat)(h:k<ls.length):pP gg (ls.take k)++[EE (ls.getD k zE) (bE gg).toNat]=pP gg (ls.take (k+1)):=by
 rw[gL zE ls k h];simp[pP]
def a4m(gg:aD)(ls:List J)(k:Nat)(h:k<=ls.length):(pP gg (ls.take k)).length=k:=by simp[pP];omega
noncomputable def kv(gg:aD)(e:J):ae:=if dG gg e=0 then ae.mk gg (pP gg (dm gg e)) (iM gg e) else ae.mk (aD.mk (0:Int) (0:Int)) [] []
def UF{b:Bool}{gg:aD}{e:J}(h4s:gg.aB.toNat<=4):∀ (f i:Nat) (ls:List J) (nx:List (List (List Int))),f+i=61->BO b gg e i ls nx->∀ q,mC b gg e=some q->∃ j,BO b gg e j q.1 q.2/\q.1.length<=j
 | 0,i,ls,nx,hf,h,q,hq=>by have:=h.le;have:=h.mS;omega
 | f+1,i,ls,nx,hf,h,q,hq=>by
  by_cases hi:i<ls.length
  .have hm:∀ (m a:Nat),m+a=(bE gg).toNat->∀ qK rows,BM b gg e i nx (ls.getD i zE) a qK rows->∃ j,BO b gg e j q.1 q.2/\q.1.length<=j:=by
    intro m;induction m with
    | zero =>
     intro a ha qK rows hB;by_cases h6:qK.length<=60
     .exact UF h4s f (i+1) qK _ (by omega) (hB.done (by omega) h6) q hq
     .have:=hB.over (by omega) (by omega);rw[this] at hq;cases hq
    | succ m ih =>
     intro a ha qK rows hB;have hc:∀ (n c:Nat),n+c=gg.aB.toNat->∀ s,BI b gg e i nx (ls.getD i zE) a rows c s->∃ j,BO b gg e j q.1 q.2/\q.1.length<=j:=by
      intro n;induction n with
      | zero =>
       intro c hc s hI;exact ih (a+1) (by omega) s.ls (rows++[s.rw]) (hI.done h4s (by omega))
      | succ n ihn =>
       intro c hc s hI;cases hs:(bU (a:Int) (c:Int) (ls.getD i zE)).2 with
       | false=>have:=hI.w0 (by omega) hs;rw[this] at hq;cases hq
       | true =>
        by_cases h2:(cB (a:Int) (c:Int) (ls.getD i zE)).aj=1
        .exact ihn (c+1) (by omega) _ (hI.w1 (by omega) hs h2)
        .by_cases h3:jM s.ls (cB (a:Int) (c:Int) (ls.getD i zE))<0
         .by_cases h4:b=true/\s.ls.length=60
          .obtain⟨rfl,h4⟩:=h4;have:=hI.w4 (by omega) hs h2 h3 h4;rw[this] at hq;cases hq
          .exact ihn (c+1) (by omega) _ (hI.w3 (by omega) hs h2 h3 λ hb hl=>h4 ⟨hb,hl⟩)
         .exact ihn (c+1) (by omega) _ (hI.w2 (by omega) hs h2 (by omega))
     exact hc gg.aB.toNat 0 rfl _ (hB.go (by omega))
   exact hm _ 0 rfl _ _ (h.go hi)
  .have:=h.done (by omega);rw[this] at hq;cases hq;exact⟨i,h,by show ls.length<=i;omega⟩
structure a8N(gg:aD)(e:J):Prop where
 pos:0<(dm gg e).length
 mS:(dm gg e).length<=60
 len:(iM gg e).length=(dm gg e).length
 ok:Pf (bE gg).toNat gg.aB.toNat (dm gg e).length (iM gg e)
 wm:qA (dm gg e)
def a2k(gg:aD)(e:J)(hg:sigOk gg=true)(he:aF e=true)(hn:au e<=1000)(h:dG gg e=0):a8N gg e:=by
 rw[dt] at hg;cases hs:mC false gg e with
 | none=>have:=(nm hs).2.2;rw[this] at h;cases h
 | some q =>
  obtain⟨j,hB,hj⟩:=UF (by omega) 61 0 _ _ rfl (BO.first false gg e he hn) q hs;obtain⟨h1,h2,_⟩:=Lv (ls:=q.1) (nx:=q.2) hs;have:=hB.le;exact⟨by rw[h1];exact hB.pos,by rw[h1];exact hB.mS,by rw[h1,h2];have:=hB.AH;omega,by rw[h1,h2];exact hB.ok,by rw[h1];exact hB.wm⟩
def a5O(gg:aD)(e:J):dG gg e=0\/dG gg e=3:=by unfold dG;split<;>simp
def a8P{gg:aD}{e:J}(h:dG gg e=0):ae.mk gg (pP gg (dm gg e)) (iM gg e)=kv gg e:=by rw[kv,b5Q h]
def a1i{gg:aD}{e:J}(h:¬ dG gg e=0):ae.mk (aD.mk (0:Int) (0:Int)) [] []=kv gg e:=by rw[kv,b5I h]
structure uO(gg:aD)(e:J)(k:Nat):Prop where
 ok:a8N gg e
 c:dG gg e=0
 le:k<=(dm gg e).length
def uO.lens{gg:aD}{e:J}{k:Nat}(h:uO gg e k):(pP gg ((dm gg e).take k)).length=k/\k<=(dm gg e).length/\(dm gg e).length<=60/\(iM gg e).length<=60 :=
 ⟨a4m gg _ k h.le,h.le,h.ok.mS,by rw[h.ok.len];exact h.ok.mS⟩
def uO.get{gg:aD}{e:J}{k:Nat}(h:uO gg e k)(hk:k<(dm gg e).length):aF ((dm gg e).getD k zE)=true:=(h.ok.wm.get hk).1
def uO.next{gg:aD}{e:J}{k:Nat}(h:uO gg e k)(hk:k<(dm gg e).length):uO gg e (k+1):=⟨h.ok,h.c,hk⟩
def uO.step{gg:aD}{e:J}{k a:Nat}(_h:uO gg e k)(hk:k<(dm gg e).length)(ha:a<=(bE gg).toNat)(ha':(bE gg).toNat<=a):pP gg ((dm gg e).take k)++[EE ((dm gg e).getD k zE) a]=pP gg ((dm gg e).take (k+1)):=by
 rw[show a=(bE gg).toNat by omega];exact b0Y gg _ k hk
def uO.done{gg:aD}{e:J}{k:Nat}(h:uO gg e k)(hk:(dm gg e).length<=k):ae.mk gg (pP gg ((dm gg e).take k)) (iM gg e)=kv gg e:=by
 rw[b6J hk];exact a8P h.c
structure OkE(gg:aD)(e:J):Prop where
 s:sigOk gg=true
 g:aF e=true
 n:au e<=1000
def CD{gg:aD}{e:J}(h:iQ gg e=true):OkE gg e:=by
 unfold iQ at h;rw[Bool.and_eq_true] at h;have hE:=(AL gg e).1 h.2;have hq:=(dt gg).1 h.1;refine⟨h.1,?_,by omega⟩;have h1:=hE.1;rw[iG _ (by omega),iG _ (by omega)] at h1;exact sV _ _ 9 9 (by omega) (by omega) e h1
def iI(ls:List J)(t:List UInt8):Option Int:=if (ls.findIdx λ y=>decide (aX y=t))<ls.length then some ((ls.findIdx λ y=>decide (aX y=t):Nat):Int) else none
def find_congr{α:Type}{p q:α->Bool}:∀ (l:List α),(∀ x∈l,p x=q x)->l.findIdx p=l.findIdx q
 | [],_=>rfl
 | x::l,h=>by
  rw[b8O,b8O,h x (by simp),find_congr l λ y hy=>h y (by simp[hy])]
def WR{ls:List J}{d:J}(h:qA ls)(hd:aF d=true):iI ls (aX d)=if 0<=jM ls d then some (jM ls d) else none:=by
 have e:(ls.findIdx λ y=>decide (aX y=aX d))=fdN ls d:=find_congr ls λ y hy=>by
  by_cases q:y=d
  .subst q;simp
  .have:¬ aX y=aX d:=λ e=>q (Sz (h y hy).1 hd e);rw[b6f this,T3.2 q]
 unfold iI;rw[e];unfold jM;by_cases hl:fdN ls d<ls.length
 .rw[b5Q hl,b5Q hl,b5Q (by omega)]
 .rw[b5I hl,b5I hl,b5I (by omega)]
def b2k(x:J):fj (jm (List UInt8) Int) (aX x) (0:Int)=iI [x]:=by
 funext t;by_cases h:t=aX x
 .subst h;rw[qN];simp[iI]
 .rw[jA _ _ _ h];have h':¬ aX x=t:=λ e=>h e.symm;simp[jm,iI,b8O,h']
def b2m{ls:List J}{d:J}(h:qA ls)(hd:aF d=true)(hf:jM ls d<0):fj (iI ls) (aX d) (ls.length:Int)=iI (ls++[d]):=by
 have hn:=WR h hd;rw[b5I (by omega)] at hn;funext t;by_cases ht:t=aX d
 .subst ht;rw[qN];unfold iI at hn ⊢;have hl:¬ (ls.findIdx λ y=>decide (aX y=aX d))<ls.length:=λ q=>by rw[if_pos q] at hn;cases hn
  have hle:(ls.findIdx λ y=>decide (aX y=aX d))<=ls.length:=List.findIdx_le_length;rw[List.findIdx_append,b5I hl];simp
 .rw[jA _ _ _ ht];unfold iI;rw[List.findIdx_append];by_cases hl:(ls.findIdx λ y=>decide (aX y=t))<ls.length
  .rw[b5Q hl,b5Q hl,b5Q (by simp;omega)]
  .have h':¬ aX d=t:=λ e=>ht e.symm;rw[b5I hl,b5I hl];simp[b8O,h'];omega
def b2l{ls:List J}{d:J}(h:qA ls)(hd:aF d=true)(hf:jM ls d<0):gH (iI ls (aX d)) ls.length=(ls++[d]).length:=by
 have hn:=WR h hd;rw[b5I (by omega)] at hn;rw[hn];simp[gH]
def BI.a0o{gg:aD}{e:J}{i:Nat}{nx:List (List (List Int))}{x:J}{a:Nat}{rows:List (List Int)}{c:Nat}{s:mF}(h:BI true gg e i nx x a rows c s)(hc:c<gg.aB.toNat)(h1:(bU (a:Int) (c:Int) (s.ls.getD i zE)).2=true)
  (h4:¬ (cB (a:Int) (c:Int) (s.ls.getD i zE)).aj=1->jM s.ls (cB (a:Int) (c:Int) (s.ls.getD i zE))<0->¬ s.ls.length=60) :
  BI true gg e i nx x a rows (c+1) ⟨uU s.ls (cB (a:Int) (c:Int) (s.ls.getD i zE)),s.rw++[JP s.ls (cB (a:Int) (c:Int) (s.ls.getD i zE))]⟩:=by
 rw[h.hx] at h1 h4 ⊢;exact h.b1A hc h1 λ _=>h4
def BI.a0v{gg:aD}{e:J}{i:Nat}{nx:List (List (List Int))}{x:J}{a:Nat}{rows:List (List Int)}{c:Nat}{s:mF}(h:BI true gg e i nx x a rows c s)(hc:c<gg.aB.toNat)(h1:(bU (a:Int) (c:Int) (s.ls.getD i zE)).2=true)
  (h2:¬ (cB (a:Int) (c:Int) (s.ls.getD i zE)).aj=1) (h3:jM s.ls (cB (a:Int) (c:Int) (s.ls.getD i zE))<0) (h4:s.ls.length=60):mC true gg e=none:=by
 rw[h.hx] at h1 h2 h3;exact h.w4 hc h1 h2 h3 h4
structure vE(a c:Int)(ls:List J)(i:Nat):Prop where
 gs:qA ls
 t:(bU a c (ls.getD i zE)).2=true
 g:aF (cB a c (ls.getD i zE))=true
 n:au (cB a c (ls.getD i zE))<=800
def BI.dd{b:Bool}{gg:aD}{e:J}{i:Nat}{nx:List (List (List Int))}{x:J}{a:Nat}{rows:List (List Int)}{c:Nat}{s:mF}(h:BI b gg e i nx x a rows c s)(h1:(bU (a:Int) (c:Int) (s.ls.getD i zE)).2=true):vE (a:Int) (c:Int) s.ls i:=by
 have q:=diT (a:Int) (c:Int) _ h.get.1;exact⟨h.wm,h1,q.g h1,q.n h1⟩
def vE.tx{a c:Int}{ls:List J}{i:Nat}(h:vE a c ls i):(aX (cB a c (ls.getD i zE))).length<=1000000:=a0X _ h.g (by have:=h.n;omega)
def vE.yes{a c:Int}{ls:List J}{i:Nat}(h:vE a c ls i)(hs:(iI ls (aX (cB a c (ls.getD i zE)))).isSome=true):(iI ls (aX (cB a c (ls.getD i zE)))).getD (0:Int)=jM ls (cB a c (ls.getD i zE))/\¬ jM ls (cB a c (ls.getD i zE))<0:=by
 rw[WR h.gs h.g] at hs ⊢;by_cases h3:0<=jM ls (cB a c (ls.getD i zE))
 .rw[b5Q h3];exact⟨rfl,by omega⟩
 .rw[b5I h3] at hs;cases hs
def vE.no{a c:Int}{ls:List J}{i:Nat}(h:vE a c ls i)(hs:(iI ls (aX (cB a c (ls.getD i zE)))).isSome=false):jM ls (cB a c (ls.getD i zE))<0:=by
 rw[WR h.gs h.g] at hs;by_cases h3:0<=jM ls (cB a c (ls.getD i zE))
 .rw[b5Q h3] at hs;cases hs
 .omega
structure JM(gg:aD)(a c:Int)(ls:List J)(i:Nat):Prop where
 hc:c<gg.aB
 d:vE a c ls i
 k:¬ (cB a c (ls.getD i zE)).aj=1
 f:jM ls (cB a c (ls.getD i zE))<0->¬ ls.length=60
structure JN(gg:aD)(a c:Int)(ls:List J)(i:Nat):Prop where
 hc:c<gg.aB
 d:vE a c ls i
 f:¬ (cB a c (ls.getD i zE)).aj=1->jM ls (cB a c (ls.getD i zE))<0->¬ ls.length=60
def JM.n{gg:aD}{a c:Int}{ls:List J}{i:Nat}(h:JM gg a c ls i):JN gg a c ls i:=⟨h.hc,h.d,λ _=>h.f⟩
def JN.go{gg:aD}{e:J}{i:Nat}{nx:List (List (List Int))}{x:J}{a:Nat}{rows:List (List Int)}{c:Nat}{s:mF}(h:BI true gg e i nx x a rows c s)(j:JN gg (a:Int) (c:Int) s.ls i) :
  BI true gg e i nx x a rows (c+1) ⟨uU s.ls (cB (a:Int) (c:Int) (s.ls.getD i zE)),s.rw++[JP s.ls (cB (a:Int) (c:Int) (s.ls.getD i zE))]⟩:=h.a0o (by have:=j.hc;omega) j.d.t j.f
def a5i{a c:Int}{ls:List J}{i:Nat}(h:(cB a c (ls.getD i zE)).aj=1):iI ls=iI (uU ls (cB a c (ls.getD i zE)))/\ls.length=(uU ls (cB a c (ls.getD i zE))).length:=by rw[<-(Tz (ls:=ls) h).2];exact⟨rfl,rfl⟩
def a5j{a c:Int}{ls:List J}{i:Nat}(h:¬ (cB a c (ls.getD i zE)).aj=1)(h2:¬ jM ls (cB a c (ls.getD i zE))<0):iI ls=iI (uU ls (cB a c (ls.getD i zE)))/\ls.length=(uU ls (cB a c (ls.getD i zE))).length:=by rw[<-(TA h h2).2];exact⟨rfl,rfl⟩
def a5k{a c:Int}{ls:List J}{i:Nat}(q:vE a c ls i)(h:¬ (cB a c (ls.getD i zE)).aj=1)(h2:jM ls (cB a c (ls.getD i zE))<0):fj (iI ls) (aX (cB a c (ls.getD i zE))) (ls.length:Int)=iI (uU ls (cB a c (ls.getD i zE)))/\gH (iI ls (aX (cB a c (ls.getD i zE)))) ls.length=(uU ls (cB a c (ls.getD i zE))).length:=by
 rw[<-(TB h h2).2];exact⟨b2m q.gs q.g h2,b2l q.gs q.g h2⟩
def a2u(e:J)(he:aF e=true)(hn:au e<=1000):aF (gM e)=true/\(aX (gM e)).length<=1000000:=⟨(F6 e he).g,a0X _ (F6 e he).g (by have:=(F6 e he).n;omega)⟩
def AR:bc:=⟨A6,[.v (.st .sig), .v (.st .expr)],λ (gg:aD) (e:J)=>⟨(some (sigOk gg=true/\aF e=true/\au e<=1000),[⟨(.slice (.st .expr)),dm gg e⟩,⟨(.slice (.slice (.slice (.int .i64)))),iM gg e⟩,⟨(.int .i64),dG gg e⟩])⟩⟩
def MQ(gg:aD)(e:J):Nat->aI:=(fu 0 (.mk (U4) (λ v=>BO true gg e v.i v.ls v.nx) (λ v=>60 - v.i) [] [0,1,3,20,21,22,23,24,25,26,27,28,29] (λ v=>[(10, .aO ⟨(.int .i64),((v.i:Int):Int)⟩),(7, .row 22),(8, .mp 23),(9, .row 29)]) [] (λ v=>[(22, .row oQ (.st .expr) (v.ls:List J)),(23, .map ⟨.str,(.int .i64),(iI v.ls:List UInt8->Option Int),v.ls.length⟩),(29, .row U6 (.slice (.slice (.int .i64))) (v.nx:List (List (List Int))))]) [] [] (λ v=>(fu 2 (.mk (U3) (λ m=>BM true gg e v.i v.nx (v.ls.getD v.i zE) m.a m.ls m.rows) (λ m=>(bE gg).toNat - m.a) [] [30,31,32,33,36,37] (λ m=>[(39, .aO ⟨(.int .i64),((m.a:Int):Int)⟩),(11, .row 36),(7, .row 22),(8, .mp 23)]) [29] (λ m=>[(22, .row oQ (.st .expr) (m.ls:List J)),(23, .map ⟨.str,(.int .i64),(iI m.ls:List UInt8->Option Int),m.ls.length⟩),(36, .row Zk (.slice (.int .i64)) (m.rows:List (List Int)))]) [] [] (λ m=>(fu 4 (.mk (U2) (λ q=>BI true gg e v.i v.nx (v.ls.getD v.i zE) m.a m.rows q.c q.s) (λ q=>gg.aB.toNat - q.c) [] [40,41,42,43] (λ q=>[(45, .aO ⟨(.int .i64),((q.c:Int):Int)⟩),(13, .row 42),(7, .row 22),(8, .mp 23)]) [29,36] (λ q=>[(22, .row oQ (.st .expr) (q.s.ls:List J)),(23, .map ⟨.str,(.int .i64),(iI q.s.ls:List UInt8->Option Int),q.s.ls.length⟩),(42, .row W1 (.int .i64) (q.s.rw:List Int))]) [] [] (λ q=>(fu 100028 (.u (JM gg (m.a:Int) (q.c:Int) q.s.ls v.i) [14,15,16,17,19,46,47,48,49,50,51,52,53,54,55,56,57,58,59,60,61,62,66,67,68,69,70,71,72,73] [(18, .aO ⟨(.int .i64),(JP q.s.ls (cB (m.a:Int) (q.c:Int) (q.s.ls.getD v.i zE)):Int)⟩),(7, .row 22),(8, .mp 23)] [15,29,36,42] [(22, .row oQ (.st .expr) ((uU q.s.ls (cB (m.a:Int) (q.c:Int) (q.s.ls.getD v.i zE))):List J)),(23, .map ⟨.str,(.int .i64),(iI (uU q.s.ls (cB (m.a:Int) (q.c:Int) (q.s.ls.getD v.i zE))):List UInt8->Option Int),((uU q.s.ls (cB (m.a:Int) (q.c:Int) (q.s.ls.getD v.i zE))).length)⟩)] cf) (fu 100029 (.u (JN gg (m.a:Int) (q.c:Int) q.s.ls v.i) [46] [(13, .row 42),(7, .row 22),(8, .mp 23)] [29,36] [(22, .row oQ (.st .expr) ((uU q.s.ls (cB (m.a:Int) (q.c:Int) (q.s.ls.getD v.i zE))):List J)),(23, .map ⟨.str,(.int .i64),(iI (uU q.s.ls (cB (m.a:Int) (q.c:Int) (q.s.ls.getD v.i zE))):List UInt8->Option Int),((uU q.s.ls (cB (m.a:Int) (q.c:Int) (q.s.ls.getD v.i zE))).length)⟩),(42, .row W1 (.int .i64) (q.s.rw++[JP q.s.ls (cB (m.a:Int) (q.c:Int) (q.s.ls.getD v.i zE))]:List Int))] cf) cf)))) cf))) cf))) cf)
abbrev I4(gg:aD)(v1:U4)(m2:U3)(q3:U2):Prop:=(gg=gg/\(True/\(True/\(True/\((v1.i:Int)=(v1.i:Int)/\(True/\((m2.a:Int)=(m2.a:Int)/\(True/\((bE gg)=(bE gg)/\((m2.a:Int)=(m2.a:Int)/\(gg.aB=gg.aB/\((q3.c:Int)=(q3.c:Int)/\True))))))))))))
abbrev wE(v1:U4)(m2:U3)(q3:U2):Prop:=(let v0:=uU q3.s.ls (cB (m2.a:Int) (q3.c:Int) (q3.s.ls.getD v1.i zE));((iI q3.s.ls)=(iI v0)/\q3.s.ls.length=(v0.length)))
abbrev wF(v1:U4)(m2:U3)(q3:U2):Prop:=(let v0:=cB (m2.a:Int) (q3.c:Int) (q3.s.ls.getD (Int.toNat (v1.i:Int)) zE);((v0.aj=v0.aj/\(v0.aT=v0.aT/\(v0.U=v0.U/\True)))/\(q3.s.rw=q3.s.rw/\(m2.rows=m2.rows/\(v1.nx=v1.nx/\True)))))
def GW:bc.Good AR:=by
 refine⟨aG xS,?_⟩;intro (gg:aD) (e:J) (hp:sigOk gg=true/\aF e=true/\au e<=1000);refine bo [Cq,wO,ki,Dg] [] [] [2,3] ⟨C6,x6,jO,IB,af⟩ xS GJ (MQ gg e) (let v0:=bE gg;let v2:=([(gM e)]).getD 0 zE;let v4:=[]=(dm gg e)/\([]=(iM gg e)/\(3:Int)=(dG gg e));let v5:=(0:Int);let v6:=(1:Int);(((aF e=true/\au e<=3000)/\(aJ v5 ([(gM e)]).length/\((aF v2=true/\(aX v2).length<=1000000)/\((aX v2).length<=140737488355328->(0<1000000000/\((∃ v1:U4,(BO true gg e v1.i v1.ls v1.nx/\((gg=gg/\(True/\(True/\(True/\(v5=(v1.i:Int)/\True)))))/\(([(gM e)])=v1.ls/\(((fj (jm (List UInt8) Int) (aX v2) v5)=(iI v1.ls)/\(gH (((jm (List UInt8) Int) (aX v2))) 0)=v1.ls.length)/\([]=v1.nx/\True))))))/\(∀ v1:U4,let v8:=(v1.i:Int);let v7:=Int.toNat v8;let v9:=v1.nx=v1.nx/\True;let va:=v1.ls.getD v1.i zE;let vb:=(v1.ls.length:Int);(BO true gg e v1.i v1.ls v1.nx->(ag vb->(((decide (v8<vb))=true->((0<=gg.aY/\gg.aY<=3)/\(ag v0->((∃ m2:U3,(BM true gg e v1.i v1.nx va m2.a m2.ls m2.rows/\((gg=gg/\(True/\(True/\(True/\(v8=v8/\(True/\(v0=v0/\(v5=(m2.a:Int)/\True))))))))/\(v1.ls=m2.ls/\(((iI v1.ls)=(iI m2.ls)/\v1.ls.length=m2.ls.length)/\([]=m2.rows/\v9))))))/\(∀ m2:U3,let vc:=(m2.a:Int);let vd:=m2.rows=m2.rows/\v9;(BM true gg e v1.i v1.nx va m2.a m2.ls m2.rows->(((decide (vc<v0))=true->(ag gg.aB->((∃ q3:U2,(BI true gg e v1.i v1.nx va m2.a m2.rows q3.c q3.s/\((gg=gg/\(True/\(True/\(True/\(v8=v8/\(True/\(vc=vc/\(True/\(v0=v0/\(vc=vc/\(gg.aB=gg.aB/\(v5=(q3.c:Int)/\True))))))))))))/\(m2.ls=q3.s.ls/\(((iI m2.ls)=(iI q3.s.ls)/\m2.ls.length=q3.s.ls.length)/\([]=q3.s.rw/\vd))))))/\(∀ q3:U2,let vh:=(q3.c:Int);let ve:=cB vc vh (q3.s.ls.getD v1.i zE);let vg:=uU q3.s.ls ve;let vj:=(q3.s.ls.length:Int);let vk:=v0=v0/\(vc=vc/\(gg.aB=gg.aB/\(vh=vh/\True)));let vl:=q3.s.ls.getD v7 zE;let vf:=cB vc vh vl;let vm:=q3.s.rw++[JP q3.s.ls ve];let vn:=aV vf;let vi:=((iI q3.s.ls) (aX vn));let vo:=JP q3.s.ls ve;let vp:=I4 gg v1 m2 q3;(BI true gg e v1.i v1.nx va m2.a m2.rows q3.c q3.s->(((decide (vh<gg.aB))=true->((aJ v8 q3.s.ls.length/\((aF vl=true/\au vl<=1000/\0<=vc/\vc<=4096)/\(((!((bU vc vh vl).2))=true->v4)/\((!((bU vc vh vl).2))=false->(ag vf.aj->(((decide (vf.aj=v6))=true->(bn (q3.s.rw.length+([(-1:Int)]).length) 8/\(∃ u4:Unit,(JN gg vc vh q3.s.ls v1.i/\(vp/\(q3.s.ls=vg/\((wE v1 m2 q3)/\((q3.s.rw++([(-1:Int)]))=vm/\vd))))))))/\((decide (vf.aj=v6))=false->((aF vn=true/\(aX vn).length<=1000000)/\((aX vn).length<=140737488355328->(ag (Option.getD vi v5)->((((!(Option.isSome vi))=true->(ag vj->(((decide (vj=(60:Int)))=true->v4)/\((decide (vj=(60:Int)))=false->(ag vj->(q3.s.ls.length<1000000000/\(bn (q3.s.ls.length+([vn]).length) 40/\(∃ u4:Unit,(JM gg vc vh q3.s.ls v1.i/\((gg=gg/\(True/\(True/\(True/\(v8=v8/\(True/\(vc=vc/\(True/\(vj=vo/\vk)))))))))/\((q3.s.ls++([vn]))=vg/\(((fj (iI q3.s.ls) (aX vn) vj)=(iI vg)/\(gH vi q3.s.ls.length)=(vg.length))/\(wF v1 m2 q3)))))))))))))/\((!(Option.isSome vi))=false->(∃ u4:Unit,(JM gg vc vh q3.s.ls v1.i/\((gg=gg/\(True/\(True/\(True/\(v8=v8/\(True/\(vc=vc/\(True/\((Option.getD vi v5)=vo/\vk)))))))))/\(q3.s.ls=vg/\((wE v1 m2 q3)/\(wF v1 m2 q3))))))))/\(∀ u4:Unit,(JM gg vc vh q3.s.ls v1.i->(bn (q3.s.rw.length+([vo]).length) 8/\(∃ u5:Unit,(JN gg vc vh q3.s.ls v1.i/\(vp/\(vg=vg/\(((iI vg)=(iI vg)/\(vg.length)=(vg.length))/\((q3.s.rw++([vo]))=vm/\vd))))))))))))))))))))/\(∀ u4:Unit,(JN gg vc vh q3.s.ls v1.i->(ag (vh+v6)/\(∃ q5:U2,(BI true gg e v1.i v1.nx va m2.a m2.rows q5.c q5.s/\(gg.aB.toNat - q5.c<gg.aB.toNat - q3.c/\((gg=gg/\(True/\(True/\(True/\(v8=v8/\(True/\(vc=vc/\(True/\(v0=v0/\(vc=vc/\(gg.aB=gg.aB/\((vh+v6)=(q5.c:Int)/\True))))))))))))/\(vg=q5.s.ls/\(((iI vg)=(iI q5.s.ls)/\(vg.length)=q5.s.ls.length)/\(vm=q5.s.rw/\vd))))))))))))/\((decide (vh<gg.aB))=false->(bn (m2.rows.length+([q3.s.rw]).length) 24/\(ag (vc+v6)/\(∃ m4:U3,(BM true gg e v1.i v1.nx va m4.a m4.ls m4.rows/\(v0.toNat - m4.a<v0.toNat - m2.a/\((gg=gg/\(True/\(True/\(True/\(v8=v8/\(True/\(v0=v0/\((vc+v6)=(m4.a:Int)/\True))))))))/\(q3.s.ls=m4.ls/\(((iI q3.s.ls)=(iI m4.ls)/\q3.s.ls.length=m4.ls.length)/\((m2.rows++([q3.s.rw]))=m4.rows/\v9))))))))))))))))/\((decide (vc<v0))=false->(bn (v1.nx.length+([m2.rows]).length) 24/\(ag (v8+v6)/\(∃ v3:U4,(BO true gg e v3.i v3.ls v3.nx/\(60 - v3.i<60 - v1.i/\((gg=gg/\(True/\(True/\(True/\((v8+v6)=(v3.i:Int)/\True)))))/\(m2.ls=v3.ls/\(((iI m2.ls)=(iI v3.ls)/\m2.ls.length=v3.ls.length)/\((v1.nx++([m2.rows]))=v3.nx/\True)))))))))))))))))/\((decide (v8<vb))=false->(v1.ls=(dm gg e)/\(v1.nx=(iM gg e)/\v5=(dG gg e)))))))))))))))) ?_;obtain⟨hg,he,hn⟩:=hp;have hq:=(dt gg).1 hg;have ha:=qk gg hq.1;refine⟨?_,?_,?_,λ _=>⟨?_,⟨(U4.mk 0 [gM e] []),?_,⟨rfl,af,af,af,?_,af⟩,?_,⟨?_,?_⟩,?_,af⟩,λ v1 _ _=>⟨λ _=>⟨?_,λ _=>⟨⟨(U3.mk 0 v1.ls []),?_,⟨rfl,af,af,af,rfl,af,rfl,?_,af⟩,?_,⟨?_,?_⟩,?_,rfl,af⟩,λ m2 _=>⟨λ _ _=>⟨⟨(U2.mk 0 (mF.mk m2.ls [])),?_,⟨rfl,af,af,af,rfl,af,rfl,af,rfl,rfl,rfl,?_,af⟩,?_,⟨?_,?_⟩,?_,rfl,rfl,af⟩,λ q3 _=>⟨λ _=>⟨⟨?_,?_,λ _=>⟨?_,?_,?_⟩,λ _ _=>⟨λ _=>⟨?_,(),?_,⟨rfl,af,af,af,rfl,af,rfl,af,rfl,rfl,rfl,rfl,af⟩,?_,⟨?_,?_⟩,?_,rfl,rfl,af⟩,λ _=>⟨?_,λ _ _=>⟨⟨λ _ _=>⟨λ _=>⟨?_,?_,?_⟩,λ _ _=>⟨?_,?_,(),?_,⟨rfl,af,af,af,rfl,af,rfl,af,?_,rfl,rfl,rfl,rfl,af⟩,?_,⟨?_,?_⟩,⟨rfl,rfl,rfl,af⟩,rfl,rfl,rfl,af⟩⟩,λ _=>⟨(),?_,⟨rfl,af,af,af,rfl,af,rfl,af,?_,rfl,rfl,rfl,rfl,af⟩,?_,⟨?_,?_⟩,⟨rfl,rfl,rfl,af⟩,rfl,rfl,rfl,af⟩⟩,λ u4 _=>⟨?_,(),?_,⟨rfl,af,af,af,rfl,af,rfl,af,rfl,rfl,rfl,rfl,af⟩,rfl,⟨rfl,rfl⟩,?_,rfl,rfl,af⟩⟩⟩⟩⟩,λ u4 _=>⟨?_,(U2.mk (q3.c+1) (mF.mk (uU q3.s.ls (cB (m2.a:Int) (q3.c:Int) (q3.s.ls.getD v1.i zE))) (q3.s.rw++[JP q3.s.ls (cB (m2.a:Int) (q3.c:Int) (q3.s.ls.getD v1.i zE))]))),?_,?_,⟨rfl,af,af,af,rfl,af,rfl,af,rfl,rfl,rfl,?_,af⟩,?_,⟨?_,?_⟩,?_,rfl,rfl,af⟩⟩,λ _=>⟨?_,?_,(U3.mk (m2.a+1) q3.s.ls (m2.rows++[q3.s.rw])),?_,?_,⟨rfl,af,af,af,rfl,af,rfl,?_,af⟩,?_,⟨?_,?_⟩,?_,rfl,af⟩⟩⟩,λ _=>⟨?_,?_,(U4.mk (v1.i+1) m2.ls (v1.nx++[m2.rows])),?_,?_,⟨rfl,af,af,af,?_,af⟩,?_,⟨?_,?_⟩,?_,af⟩⟩⟩⟩,λ _=>⟨?_,?_,?_⟩⟩⟩⟩;all_goals try and_intros
 all_goals try (first|with_reducible rfl|with_reducible assumption)
 all_goals try simp only[J.eta,aE.eta,aQ,bq] at *
 all_goals (try simp only[b6j,b6A,b5K,b5L,aJ,ag,bn,b5R,b5Y,b5S,b6d] at *);first|with_reducible assumption|omega|with_reducible rfl|exact trivial|exact BO.first _ _ _ he hn|exact BO.go (by with_reducible assumption) (by omega)|exact BM.go (by with_reducible assumption) (by omega)|exact BM.done (by with_reducible assumption) (by omega) (by omega)|exact BI.done (by with_reducible assumption) (by omega) (by omega)|(obtain⟨_,_,_,_,_,_,_,_⟩:=(BI.lens (b:=true) (e:=e) (by with_reducible assumption) hg);omega)|(obtain⟨_,_,_,_,_,_⟩:=(BM.lens (b:=true) (e:=e) (by with_reducible assumption) hg);omega)|(obtain⟨_,_,_⟩:=(BO.lens (b:=true) (e:=e) (by with_reducible assumption));omega)|exact (nm (BI.ZK (by with_reducible assumption) (by omega) (by with_reducible assumption))).1.symm|exact (nm (BI.ZK (by with_reducible assumption) (by omega) (by with_reducible assumption))).2.1.symm|exact (nm (BI.ZK (by with_reducible assumption) (by omega) (by with_reducible assumption))).2.2.symm|exact (nm (BM.over (by with_reducible assumption) (by omega) (by omega))).1.symm|exact (nm (BM.over (by with_reducible assumption) (by omega) (by omega))).2.1.symm|exact (nm (BM.over (by with_reducible assumption) (by omega) (by omega))).2.2.symm|exact (Lv (BO.done (by with_reducible assumption) (by omega))).1.symm|exact (Lv (BO.done (by with_reducible assumption) (by omega))).2.1.symm|exact (Lv (BO.done (by with_reducible assumption) (by omega))).2.2.symm|exact (BI.get (by with_reducible assumption)).1|exact (BI.get (by with_reducible assumption)).2|exact b2k _|exact (a2u e he hn).1|exact (a2u e he hn).2|exact (BI.dd (by with_reducible assumption) (by with_reducible assumption)).g|exact (BI.dd (by with_reducible assumption) (by with_reducible assumption)).tx|exact JM.mk (by omega) (BI.dd (by with_reducible assumption) (by with_reducible assumption)) (by with_reducible assumption) (λ h=>absurd h (vE.yes (BI.dd (by with_reducible assumption) (by with_reducible assumption)) (by with_reducible assumption)).2)|exact JM.mk (by omega) (BI.dd (by with_reducible assumption) (by with_reducible assumption)) (by with_reducible assumption) (λ _=>by omega)|exact JN.mk (by omega) (BI.dd (by with_reducible assumption) (by with_reducible assumption)) (λ h=>absurd (by with_reducible assumption) h)|exact JM.n (by with_reducible assumption)|exact JN.go (by with_reducible assumption) (by with_reducible assumption)|exact (vE.yes (BI.dd (by with_reducible assumption) (by with_reducible assumption)) (by with_reducible assumption)).1.trans (TA (by with_reducible assumption) (vE.yes (BI.dd (by with_reducible assumption) (by with_reducible assumption)) (by with_reducible assumption)).2).1|exact (TB (by with_reducible assumption) (vE.no (BI.dd (by with_reducible assumption) (by with_reducible assumption)) (by with_reducible assumption))).1|exact (Tz (by with_reducible assumption)).2|exact (TA (by with_reducible assumption) (vE.yes (BI.dd (by with_reducible assumption) (by with_reducible assumption)) (by with_reducible assumption)).2).2|exact (TB (by with_reducible assumption) (vE.no (BI.dd (by with_reducible assumption) (by with_reducible assumption)) (by with_reducible assumption))).2|exact (a5i (by with_reducible assumption)).1|exact (a5j (by with_reducible assumption) (vE.yes (BI.dd (by with_reducible assumption) (by with_reducible assumption)) (by with_reducible assumption)).2).1|exact (a5k (BI.dd (by with_reducible assumption) (by with_reducible assumption)) (by with_reducible assumption) (vE.no (BI.dd (by with_reducible assumption) (by with_reducible assumption)) (by with_reducible assumption))).1|exact (a5i (by with_reducible assumption)).2|exact (a5j (by with_reducible assumption) (vE.yes (BI.dd (by with_reducible assumption) (by with_reducible assumption)) (by with_reducible assumption)).2).2|exact (a5k (BI.dd (by with_reducible assumption) (by with_reducible assumption)) (by with_reducible assumption) (vE.no (BI.dd (by with_reducible assumption) (by with_reducible assumption)) (by with_reducible assumption))).2|exact (nm (BI.a0v (by with_reducible assumption) (by omega) (by with_reducible assumption) (by with_reducible assumption) (vE.no (BI.dd (by with_reducible assumption) (by with_reducible assumption)) (by with_reducible assumption)) (by omega))).1.symm|exact (nm (BI.a0v (by with_reducible assumption) (by omega) (by with_reducible assumption) (by with_reducible assumption) (vE.no (BI.dd (by with_reducible assumption) (by with_reducible assumption)) (by with_reducible assumption)) (by omega))).2.1.symm|exact (nm (BI.a0v (by with_reducible assumption) (by omega) (by with_reducible assumption) (by with_reducible assumption) (vE.no (BI.dd (by with_reducible assumption) (by with_reducible assumption)) (by with_reducible assumption)) (by omega))).2.2.symm|exact BM.done (by with_reducible assumption) (by omega) (BM.b6 (by with_reducible assumption) rfl)|(rw[<-(Tz (by with_reducible assumption)).1])|(simp[gH,jm];done)|exact (Tz (by with_reducible assumption)).1|exact (Tz (by with_reducible assumption)).2|exact (TA (by with_reducible assumption) (by omega)).1|exact (TA (by with_reducible assumption) (by omega)).2|exact (TB (by with_reducible assumption) (by omega)).1|exact (TB (by with_reducible assumption) (by omega)).2|rfl
def uB:bc:=⟨uE,[.v (.st .sig), .v (.st .expr)],λ (gg:aD) (e:J)=>⟨(some (sigOk gg=true/\aF e=true/\au e<=1000),[⟨(.st .automaton),kv gg e⟩,⟨(.int .i64),dG gg e⟩])⟩⟩
def Ha(gg:aD)(e:J):Nat->aI:=(fu 0 (.mk (Nat) (λ k=>uO gg e k) (λ k=>(dm gg e).length - k) [] [0,1,3,5,6,7,8,14,15,16,17,18,19,20,21,22,25,26,27] (λ k=>[(30, .aO ⟨(.int .i64),((k:Int):Int)⟩)]) [4] (λ k=>[(9, .box [.aO ⟨(.int .i64),(gg.aY:Int)⟩, .aO ⟨(.int .i64),(gg.aB:Int)⟩, .row 3000, .aO ⟨(.slice (.slice (.slice (.int .i64)))),(iM gg e:List (List (List Int)))⟩]),(3000, .row a2z (.slice .bool) (pP gg ((dm gg e).take k):List (List Bool)))]) [] [] (λ k=>(fu 2 (.a (Nat) (λ a=>a<=(bE gg).toNat) (λ a=>(bE gg).toNat - a) [31,32,33,34,35] (λ a=>[(37, .aO ⟨(.int .i64),((a:Int):Int)⟩),(12, .row 34)]) [4,9,11,3000] (λ a=>[(34, .row Pm .bool (EE ((dm gg e).getD k zE) a:List Bool))])) cf))) cf)
abbrev qa(gg:aD)(e:J)(k1:Nat):Prop:=(let v0:=(dm gg e).getD k1 zE;((v0.aj=v0.aj/\(v0.aT=v0.aT/\(v0.U=v0.U/\True)))/\((gg.aY=gg.aY/\(gg.aB=gg.aB/\(True/\((iM gg e)=(iM gg e)/\True))))/\((pP gg ((dm gg e).take k1))=(pP gg ((dm gg e).take k1))/\(((0:Int)=(0:Int)/\((0:Int)=(0:Int)/\(True/\(True/\True))))/\True)))))
def B7:bc.Good uB:=by
 refine⟨aG rO,?_⟩;intro (gg:aD) (e:J) (hp:sigOk gg=true/\aF e=true/\au e<=1000);refine bo [AR,ki,nB] [] [] [2,3] ⟨GW,jO,wq,af⟩ rO BE (Ha gg e) (let v0:=dm gg e;let v1:=(v0.length:Int);let v2:=gg.aY=gg.aY/\(gg.aB=gg.aB/\(True/\((iM gg e)=(iM gg e)/\True)));let v4:=bE gg;let v5:=(0:Int);let v3:=(v5=v5/\(v5=v5/\(True/\(True/\True))))/\True;let v6:=dG gg e;(((sigOk gg=true/\aF e=true/\au e<=1000)/\(v0.length<=140737488355328->((iM gg e).length<=140737488355328->(ag v6->(((!(decide (v6=v5)))=true->((ae.mk (aD.mk v5 v5) [] [])=(kv gg e)/\v6=v6))/\((!(decide (v6=v5)))=false->(ag v1->((∃ k1:Nat,(uO gg e k1/\((gg=gg/\(True/\(True/\(v0=v0/\(v1=v1/\(v5=(k1:Int)/\True))))))/\(v2/\((pP gg (v0.take k1))=[]/\v3)))))/\(∀ k1:Nat,let v7:=v0.getD k1 zE;let v8:=(k1:Int);let v9:=pP gg (v0.take k1);(uO gg e k1->(((decide (v8<v1))=true->(aJ v8 v0.length/\((0<=gg.aY/\gg.aY<=3)/\(ag v4->((∃ a2:Nat,(a2<=v4.toNat/\((gg=gg/\(True/\(True/\(True/\(True/\(v0=v0/\(v1=v1/\(v8=v8/\(v4=v4/\(v5=(a2:Int)/\True))))))))))/\([]=(EE v7 a2)/\(qa gg e k1)))))/\(∀ a2:Nat,let va:=(a2:Int);(a2<=v4.toNat->(((decide (va<v4))=true->((aF (aV v7)=true/\0<=va/\va<=4096)/\(bn ((EE v7 a2).length+([(fV va (aV v7))]).length) 1/\(ag (va+(1:Int))/\(∃ a3:Nat,(a3<=v4.toNat/\(v4.toNat - a3<v4.toNat - a2/\((gg=gg/\(True/\(True/\(True/\(True/\(v0=v0/\(v1=v1/\(v8=v8/\(v4=v4/\((va+(1:Int))=(a3:Int)/\True))))))))))/\(((EE v7 a2)++([(fV va (aV v7))]))=(EE v7 a3)/\(qa gg e k1))))))))))/\((decide (va<v4))=false->(bn (v9.length+([(EE v7 a2)]).length) 24/\(ag (v8+(1:Int))/\(∃ k3:Nat,(uO gg e k3/\(v0.length - k3<v0.length - k1/\((gg=gg/\(True/\(True/\(v0=v0/\(v1=v1/\((v8+(1:Int))=(k3:Int)/\True))))))/\(v2/\((v9++([(EE v7 a2)]))=(pP gg (v0.take k3))/\v3)))))))))))))))))/\((decide (v8<v1))=false->((ae.mk (aD.mk gg.aY gg.aB) v9 (iM gg e))=(kv gg e)/\v5=v6))))))))))))))) ?_;obtain⟨hg,he,hn⟩:=hp;have hq:=(dt gg).1 hg;have ha:=qk gg hq.1;refine⟨?_,λ _ _ a2=>⟨λ a3=>⟨?_,rfl⟩,λ a3 _=>⟨⟨0,?_,⟨rfl,af,af,rfl,rfl,?_,af⟩,⟨rfl,rfl,af,rfl,af⟩,?_,⟨rfl,rfl,af,af,af⟩,af⟩,λ k1 _=>⟨λ _=>⟨?_,?_,λ _=>⟨⟨0,?_,⟨rfl,af,af,af,af,rfl,rfl,rfl,rfl,?_,af⟩,?_,⟨rfl,rfl,rfl,af⟩,⟨rfl,rfl,af,rfl,af⟩,rfl,⟨rfl,rfl,af,af,af⟩,af⟩,λ a2 _=>⟨λ _=>⟨?_,?_,?_,a2+1,?_,?_,⟨rfl,af,af,af,af,rfl,rfl,rfl,rfl,?_,af⟩,?_,⟨rfl,rfl,rfl,af⟩,⟨rfl,rfl,af,rfl,af⟩,rfl,⟨rfl,rfl,af,af,af⟩,af⟩,λ _=>⟨?_,?_,k1+1,?_,?_,⟨rfl,af,af,rfl,rfl,?_,af⟩,⟨rfl,rfl,af,rfl,af⟩,?_,⟨rfl,rfl,af,af,af⟩,af⟩⟩⟩⟩,λ _=>⟨?_,?_⟩⟩⟩⟩⟩;all_goals try and_intros
 all_goals try (first|with_reducible rfl|with_reducible assumption)
 all_goals try simp only[J.eta,aE.eta,aQ,bq] at *
 all_goals (try simp only[b6j,b6A,b5K,b5L,aJ,ag,bn,b5R,b5Y,b5S,b6d,Xn] at *);first|with_reducible assumption|omega|with_reducible rfl|exact trivial|(obtain⟨_,_,_,_⟩:=uO.lens (by with_reducible assumption);omega)|exact uO.mk (a2k gg e hg he hn (by omega)) (by omega) (b6L _)|exact uO.get (by with_reducible assumption) (by omega)|exact uO.next (by with_reducible assumption) (by omega)|exact uO.step (by with_reducible assumption) (by omega) (by omega) (by omega)|exact b0X _ _|exact a1i (by omega)|exact uO.done (gg:=gg) (by with_reducible assumption) (by omega)|exact congrArg ae.sig (a1i (by omega))|exact congrArg ae.sig (uO.done (gg:=gg) (by with_reducible assumption) (by omega))|exact congrArg ae.accept (a1i (by omega))|exact congrArg ae.accept (uO.done (gg:=gg) (by with_reducible assumption) (by omega))|exact congrArg ae.next (a1i (by omega))|exact congrArg ae.next (uO.done (gg:=gg) (by with_reducible assumption) (by omega))|rfl
structure vD(a:ae):Prop where
 s:sigOk a.sig=true
 n1:1<=a.accept.length
 n60:a.accept.length<=60
 nx:a.next.length=a.accept.length
 ac:∀ r∈a.accept,r.length=(bE a.sig).toNat
 ok:Pf (bE a.sig).toNat a.sig.aB.toNat a.accept.length a.next
def fW{α:Type}{z:α}{xs:List α}{i:Nat}(h:i<xs.length):xs.getD i z∈xs:=by rw[b5P,b6e h];exact b7a _
def a4n{gg:aD}{ls:List J}:∀ r∈pP gg ls,r.length=(bE gg).toNat:=λ r hr=>by
 obtain⟨x,_,rfl⟩:=b5N.1 hr;exact Xn _ _
def a3L{gg:aD}{e:J}(hg:sigOk gg=true)(he:aF e=true)(hn:au e<=1000)(h:dG gg e=0):vD (kv gg e):=by
 have q:=a2k gg e hg he hn h;rw[<-a8P h];have hl:(pP gg (dm gg e)).length=(dm gg e).length:=by simp[pP]
 exact⟨hg,by show 1<=(pP gg (dm gg e)).length;have:=q.pos;omega,by show (pP gg (dm gg e)).length<=60;have:=q.mS;omega,by show (iM gg e).length=(pP gg (dm gg e)).length;have:=q.len;omega,
  a4n,by show Pf _ _ (pP gg (dm gg e)).length (iM gg e);rw[hl];exact q.ok⟩
abbrev nK(a:ae):Nat:=a.accept.length
abbrev mK(a:ae):Nat:=(bE a.sig).toNat
abbrev kK(a:ae):Nat:=a.sig.aB.toNat
def SH(a:ae)(i t:Nat):Bool:=decide (i<nK a)&&(a.accept.getD i []).getD t false
def Pj(a:ae)(i t x:Nat):Int:=((a.next.getD i []).getD t []).getD x 0
def Kq(a:ae)(i t x:Nat):Nat:=if i<nK a then (if Pj a i t x<0 then nK a else (Pj a i t x).toNat) else nK a
def vD.row{a:ae}(h:vD a){i t x:Nat}(hi:i<nK a)(ht:t<mK a)(hx:x<kK a) : -1<=Pj a i t x/\Pj a i t x<nK a:=by
 have h1:=h.ok (a.next.getD i []) (fW (by rw[h.nx];exact hi));have h2:=h1.2 ((a.next.getD i []).getD t []) (fW (by rw[h1.1];exact ht));exact h2.2 _ (fW (by rw[h2.1];exact hx))
def vD.lens{a:ae}(h:vD a):1<=mK a/\mK a<=8/\kK a<=4/\(mK a:Int)=bE a.sig/\(kK a:Int)=a.sig.aB:=by
 have hq:=(dt a.sig).1 h.s;have:=qk a.sig hq.1;simp only[mK,kK];refine⟨?_,?_,?_,?_,?_⟩<;>omega
def vD.a3E{a:ae}(h:vD a){i:Nat}(hi:i<nK a):(a.accept.getD i []).length=mK a/\(a.next.getD i []).length=mK a:=by
 refine⟨h.ac _ ?_,(h.ok _ ?_).1⟩
 .exact fW hi
 .exact fW (by rw[h.nx];exact hi)
def vD.a9F{a:ae}(h:vD a){i t:Nat}(hi:i<nK a)(ht:t<mK a):((a.next.getD i []).getD t []).length=kK a:=by
 have h1:=h.ok (a.next.getD i []) (fW (by rw[h.nx];exact hi));exact (h1.2 _ (fW (by rw[h1.1];exact ht))).1
def vD.go{a:ae}(h:vD a){i t x:Nat}(ht:t<mK a)(hx:x<kK a):Kq a i t x<=nK a:=by
 unfold Kq;split
 .rename_i hi;have:=h.row hi ht hx;split<;>omega
 .omega
structure Zi(a:ae)(out:List Int):Prop where
 len:out.length=nK a+1
 bd:∀ v∈out,0<=v/\v<100
def Zi.get{a:ae}{out:List Int}(h:Zi a out){i:Nat}(hi:i<=nK a):0<=out.getD i 0/\out.getD i 0<100:=h.bd _ (fW (by rw[h.len];omega))
def kyX(a:ae)(out:List Int)(i t x:Nat):List UInt8:=(List.range x).flatMap λ y=>32::iA (out.getD (Kq a i t y) 0)
def sgK(b:Bool):List UInt8:=if b=true then [43] else []
def kyR(a:ae)(out:List Int)(i t:Nat):List UInt8:=sgK (SH a i t)++(kyX a out i t (kK a)++[59])
def kyA(a:ae)(out:List Int)(i t:Nat):List UInt8:=(List.range t).flatMap (kyR a out i)
def lI(a:ae)(out:List Int)(i:Nat):List UInt8:=iA (out.getD i 0)++[124]++kyA a out i (mK a)
def b3d:∀ n:Fin 100,(iA (n.val:Int)).length<=2/\(∀ b∈iA (n.val:Int),48<=b/\b<=57):=by decide +kernel
def b0P:∀ m n:Fin 100,iA (m.val:Int)=iA (n.val:Int)->m=n:=by decide +kernel
def Vp{n:Int}(h:0<=n/\n<100):(iA n).length<=2/\∀ b∈iA n,48<=b/\b<=57:=by
 have:=b3d ⟨n.toNat,by omega⟩;rwa [show ((n.toNat:Nat):Int)=n by omega] at this
def a4g{m n:Int}(h:0<=m/\m<100)(k:0<=n/\n<100)(e:iA m=iA n):m=n:=by
 have:=b0P ⟨m.toNat,by omega⟩ ⟨n.toNat,by omega⟩ (by rw[show ((m.toNat:Nat):Int)=m by omega,show ((n.toNat:Nat):Int)=n by omega];exact e);simp only[Fin.mk.injEq] at this;omega
def U0(r:List UInt8):Prop:=∀ b t,r=b::t->¬ (48<=b/\b<=57)
def Qv:∀ (x y r s:List UInt8),(∀ b∈x,(48:UInt8)<=b/\b<=57)->(∀ b∈y,(48:UInt8)<=b/\b<=57)->U0 r->U0 s->x++r=y++s->x=y/\r=s
 | [],[],r,s,_,_,_,_,h=>⟨rfl,h⟩
 | [],b::y,r,s,_,hy,hr,_,h=>absurd (hy b (by simp)) (hr b (y++s) (by simpa using h))
 | b::x,[],r,s,hx,_,_,hs,h=>absurd (hx b (by simp)) (hs b (x++r) (by simpa using h.symm))
 | b::x,c::y,r,s,hx,hy,hr,hs,h=>by
  simp only[b6x,b5J] at h;obtain⟨h1,h2⟩:=Qv x y r s (λ d hd=>hx d (by simp[hd])) (λ d hd=>hy d (by simp[hd])) hr hs h.2;exact⟨by rw[h.1,h1],h2⟩
def U0.c{b:UInt8}{t:List UInt8}(h:¬ (48<=b/\b<=57)):U0 (b::t):=λ c u e=>by cases e;exact h
def a9B{f g:Nat->Int}:∀ (l:List Nat) (r s:List UInt8),(∀ y∈l,0<=f y/\f y<100)->(∀ y∈l,0<=g y/\g y<100)->(l.flatMap λ y=>32::iA (f y))++(59::r)=(l.flatMap λ y=>32::iA (g y))++(59::s)->(∀ y∈l,f y=g y)/\r=s
 | [],r,s,_,_,h=>⟨λ _ h=>(by cases h),by simpa using h⟩
 | y::l,r,s,hf,hg,h=>by
  simp only[b7z,b6x,b6v,b5J,b6t] at h;have nd:∀ (k:Nat->Int) (r:List UInt8),U0 ((l.flatMap λ y=>32::iA (k y))++(59::r)):=λ k r=>by
   cases l with
   | nil=>exact U0.c (by decide)
   | cons z l=>simp only[b7z,b6x];exact U0.c (by decide)
  obtain⟨h1,h2⟩:=Qv _ _ _ _ (Vp (hf y (by simp))).2 (Vp (hg y (by simp))).2 (nd f r) (nd g s) h;obtain⟨h3,h4⟩:=a9B l r s (λ z hz=>hf z (by simp[hz])) (λ z hz=>hg z (by simp[hz])) h2;refine⟨λ z hz=>?_,h4⟩;rcases b5X.1 hz with rfl|q
  .exact a4g (hf z (by simp)) (hg z (by simp)) h1
  .exact h3 z q
def a4X{p:Nat->Prop}{f g:Nat->List UInt8}:∀ (l:List Nat),(∀ t∈l,∀ r s,f t++r=g t++s->p t/\r=s)->l.flatMap f=l.flatMap g->∀ t∈l,p t
 | [],_,_,t,h=>by cases h
 | u::l,hp,h,t,ht=>by
  rw[b7z,b7z] at h;obtain⟨h1,h2⟩:=hp u (by simp) _ _ h;rcases b5X.1 ht with rfl|q
  .exact h1
  .exact a4X l (λ t ht=>hp t (by simp[ht])) h2 t q
def b4s(b c:Bool)(a:ae)(out:List Int)(i j t x:Nat)(r s:List UInt8)(h:sgK b++(kyX a out i t x++(59::r))=sgK c++(kyX a out j t x++(59::s))):b=c/\kyX a out i t x++(59::r)=kyX a out j t x++(59::s):=by
 have hd:∀ (i:Nat) (r:List UInt8),∃ u v,kyX a out i t x++(59::r)=u::v/\¬ u=43:=λ i r=>by
  unfold kyX;cases x with
  | zero=>exact⟨_,_,rfl,by decide⟩
  | succ x=>rw[List.range_succ_eq_map];exact⟨_,_,rfl,by decide⟩
 cases b<;>cases c
 .exact⟨rfl,by simpa [sgK] using h⟩
 .obtain⟨u,v,e,hu⟩:=hd i r;simp only[sgK,b7D,b6B,b6x,b5O,b8j] at h;rw[e] at h;simp only[b5J] at h;exact absurd h.1 hu
 .obtain⟨u,v,e,hu⟩:=hd j s;simp only[sgK,b7D,b6B,b6x,b5O,b8j] at h;rw[e] at h;simp only[b5J] at h;exact absurd h.1.symm hu
 .exact⟨rfl,by simpa [sgK] using h⟩
def key_inj{a:ae}(ha:vD a){out:List Int}(ho:Zi a out){i j:Nat}(hi:i<=nK a)(hj:j<=nK a)(h:lI a out i=lI a out j) :
  out.getD i 0=out.getD j 0/\∀ t,t<mK a->SH a i t=SH a j t/\∀ x,x<kK a->out.getD (Kq a i t x) 0=out.getD (Kq a j t x) 0:=by
 unfold lI at h;simp only[List.append_assoc] at h;obtain⟨h1,h2⟩:=Qv _ _ _ _ (Vp (ho.get hi)).2 (Vp (ho.get hj)).2 (U0.c (by decide)) (U0.c (by decide)) h;refine⟨a4g (ho.get hi) (ho.get hj) h1,λ t ht=>?_⟩;have h3:kyA a out i (mK a)=kyA a out j (mK a):=by simpa using h2
 refine a4X (p:=λ t=>SH a i t=SH a j t/\∀ x,x<kK a->out.getD (Kq a i t x) 0=out.getD (Kq a j t x) 0) (List.range (mK a)) (λ t ht r s e=>?_) h3 t (List.mem_range.2 ht);unfold kyR at e;simp only[List.append_assoc,List.cons_append,List.nil_append] at e;obtain⟨e1,e2⟩:=b4s _ _ a out i j t _ _ _ e;have G7:=List.mem_range.1 ht;obtain⟨e3,e4⟩:=a9B (List.range (kK a)) _ _ (λ y hy=>ho.get (ha.go G7 (List.mem_range.1 hy))) (λ y hy=>ho.get (ha.go G7 (List.mem_range.1 hy))) e2;exact⟨⟨e1,λ x hx=>e3 x (List.mem_range.2 hx)⟩,e4⟩
def a8f{a:ae}{out:List Int}{i j:Nat}(h:out.getD i 0=out.getD j 0/\∀ t,t<mK a->SH a i t=SH a j t/\∀ x,x<kK a->out.getD (Kq a i t x) 0=out.getD (Kq a j t x) 0):lI a out i=lI a out j:=by
 have fc:∀ {f g:Nat->List UInt8} (l:List Nat),(∀ t∈l,f t=g t)->l.flatMap f=l.flatMap g:=λ {f g} l=>by
  induction l with
  | nil=>intro _;rfl
  | cons u l ih=>intro h;rw[b7z,b7z,h u (by simp),ih λ t ht=>h t (by simp[ht])]
 unfold lI;rw[h.1];congr 1;refine fc _ λ t ht=>?_;have G7:=h.2 t (List.mem_range.1 ht);unfold kyR;rw[G7.1];congr 2;exact fc _ λ x hx=>by rw[G7.2 x (List.mem_range.1 hx)]
structure Am where
 n:Nat
 m:Nat
 k:Nat
 ac:Nat->Nat->Bool
 dl:Nat->Nat->Nat->Nat
structure zS(A:Am):Prop where
 sink:∀ a,A.ac A.n a=false
 stay:∀ a x,A.dl A.n a x=A.n
 le:∀ s a x,s<=A.n->A.dl s a x<=A.n
def Am.run(A:Am):Nat->List (Nat×Nat)->Nat
 | s,[]=>s
 | s,p::w=>A.run (A.dl s p.1 p.2) w
def Am.word(A:Am)(w:List (Nat×Nat)):Prop:=∀ p∈w,p.1<A.m/\p.2<A.k
def Am.same(A:Am)(s t:Nat):Prop:=∀ w a,A.word w->a<A.m->A.ac (A.run s w) a=A.ac (A.run t w) a
def Am.eqv(A:Am)(I:Nat->Nat->Prop):Nat->Nat->Nat->Prop
 | 0,s,t=>I s t
 | d+1,s,t=>A.eqv I d s t/\(∀ a,a<A.m->A.ac s a=A.ac t a)/\∀ a x,a<A.m->x<A.k->A.eqv I d (A.dl s a x) (A.dl t a x)
def Am.R7{A:Am}{s t:Nat}(h:A.same s t){a x:Nat}(ha:a<A.m)(hx:x<A.k):A.same (A.dl s a x) (A.dl t a x):=λ w b hw hb =>
 h ((a,x)::w) b (λ p hp=>(b5X.1 hp).elim (λ e=>by rw[e];exact⟨ha,hx⟩) (hw p)) hb
structure Am.Ini(A:Am)(I:Nat->Nat->Prop)(R:Nat->Nat->Prop):Prop where
 ini:∀ s t,R s t->I s t
 acc:∀ s t,R s t->∀ a,a<A.m->A.ac s a=A.ac t a
 go:∀ s t,s<=A.n->t<=A.n->R s t->∀ a x,a<A.m->x<A.k->R (A.dl s a x) (A.dl t a x)
def Am.Ini.eqv{A:Am}(hA:zS A){I R:Nat->Nat->Prop}(h:A.Ini I R):∀ (d:Nat) {s t:Nat},s<=A.n->t<=A.n->R s t->A.eqv I d s t
 | 0,s,t,_,_,q=>h.ini s t q
 | d+1,s,t,hs,ht,q=>⟨h.eqv hA d hs ht q,h.acc s t q,λ a x ha hx=>h.eqv hA d (hA.le s a x hs) (hA.le t a x ht) (h.go s t hs ht q a x ha hx)⟩
def Am.a4o{A:Am}{I:Nat->Nat->Prop}:∀ (d:Nat) {s t:Nat},A.eqv I d s t->I s t
 | 0,_,_,h=>h
 | d+1,_,_,h=>Am.a4o d h.1
def Am.Ge{A:Am}(hA:zS A){I:Nat->Nat->Prop}{d:Nat}(hd:∀ s t,s<=A.n->t<=A.n->A.eqv I d s t->A.eqv I (d+1) s t):∀ (w:List (Nat×Nat)) {s t:Nat},s<=A.n->t<=A.n->A.eqv I d s t->A.word w->∀ a,a<A.m->A.ac (A.run s w) a=A.ac (A.run t w) a
 | [],s,t,hs,ht,h,_,a,ha=>(hd s t hs ht h).2.1 a ha
 | p::w,s,t,hs,ht,h,hw,a,ha=>by
  have hp:=hw p (by simp);exact Am.Ge hA hd w (hA.le s _ _ hs) (hA.le t _ _ ht) ((hd s t hs ht h).2.2 p.1 p.2 hp.1 hp.2) (λ q hq=>hw q (b6U _ hq)) a ha
def Am.a3i(A:Am):A.Ini (λ _ _=>True) A.same:=⟨λ _ _ _=>trivial,λ s t h a ha=>h [] a (λ _ hp=>by cases hp) ha,λ s t _ _ h a x ha hx=>Am.R7 h ha hx⟩
def Am.dead(A:Am)(s:Nat):Prop:=∀ w a,A.word w->a<A.m->A.ac (A.run s w) a=false
def Am.Gv{A:Am}(hA:zS A):∀ w,A.run A.n w=A.n
 | []=>rfl
 | p::w=>by unfold Am.run;rw[hA.stay];exact Am.Gv hA w
def Am.a2F{A:Am}(hA:zS A)(s:Nat):A.dead s↔A.same s A.n :=
 ⟨λ h w a hw ha=>by rw[h w a hw ha,Am.Gv hA,hA.sink],λ h w a hw ha=>by rw[h w a hw ha,Am.Gv hA,hA.sink]⟩
def xJ(c:Nat->Int)(i:Nat):Bool:=(List.range i).all λ j=>decide (¬ c j=c i)
def xe{c:Nat->Int}{i:Nat}:xJ c i=true↔∀ j,j<i->¬ c j=c i:=by
 unfold xJ;simp only[List.all_eq_true,List.mem_range,decide_eq_true_eq]
def Mb(c:Nat->Int)(n:Nat):Nat:=((List.range n).filter (xJ c)).length
def a1C{p q:Nat->Bool}:∀ (l:List Nat),(∀ i∈l,p i=true->q i=true)->(l.filter p).length=(l.filter q).length->∀ i∈l,p i=q i
 | [],_,_,i,hi=>by cases hi
 | a::l,h,hl,i,hi=>by
  have hle:∀ l:List Nat,(∀ i∈l,p i=true->q i=true)->(l.filter p).length<=(l.filter q).length:=by
   intro l;induction l with
   | nil=>intro _;simp
   | cons b l ih =>
    intro h;have h2:=ih λ i hi=>h i (b6U _ hi);have h3:=h b (by simp);cases hp:p b<;>cases hq:q b<;>simp_all<;>omega
  have h2:=hle l λ i hi=>h i (b6U _ hi);have h3:=h a (by simp);have key:p a=q a/\(l.filter p).length=(l.filter q).length:=by
   cases hp:p a<;>cases hq:q a<;>simp_all<;>omega
  rcases b5X.1 hi with rfl|hi
  .exact key.1
  .exact a1C l (λ i hi=>h i (b6U _ hi)) key.2 i hi
def Wv(c:Nat->Int):∀ i:Nat,∃ r,r<=i/\c r=c i/\xJ c r=true:=by
 intro i;induction i using Nat.strongRecOn with
 | _ i ih =>
  cases h:xJ c i with
  | true=>exact⟨i,b6k _,rfl,h⟩
  | false =>
   have:¬ ∀ j,j<i->¬ c j=c i:=λ q=>by rw[xe.2 q] at h;cases h
   have ⟨j,hj⟩:=b8W.1 this;have ⟨hj1,hj2⟩:=b8M.1 hj;have hj2:=Classical.not_not.1 hj2;obtain⟨r,h1,h2,h3⟩:=ih j hj1;exact⟨r,by omega,h2.trans hj2,h3⟩
def YI{c:Nat->Int}{r r':Nat}(h:xJ c r=true)(h':xJ c r'=true)(e:c r=c r'):r=r':=by
 rcases b9n r r' with q|q|q
 .exact absurd e (xe.1 h' r q)
 .exact q
 .exact absurd e.symm (xe.1 h r' q)
def a4t{c c':Nat->Int}{n:Nat}(hf:∀ s t,s<n->t<n->c' s=c' t->c s=c t)(hn:Mb c n=Mb c' n){s t:Nat}(hs:s<n)(ht:t<n)(h:c s=c t):c' s=c' t:=by
 have yb:∀ i∈List.range n,xJ c i=true->xJ c' i=true:=λ i hi hr=>xe.2 λ j hj e=>xe.1 hr j hj (hf j i (by have:=b7y.1 hi;omega) (b7y.1 hi) e);have heq:=a1C (List.range n) yb hn;obtain⟨r,h1,h2,h3⟩:=Wv c' s;obtain⟨r',IP,SP,h3'⟩:=Wv c' t;have g:xJ c r=true:=by rw[heq r (b7y.2 (by omega))];exact h3
 have g':xJ c r'=true:=by rw[heq r' (b7y.2 (by omega))];exact h3'
 have e:c r=c r':=(hf r s (by omega) hs h2).trans (h.trans (hf r' t (by omega) ht SP).symm);have:=YI g g' e;rw[<-h2,<-SP,this]
def a4u{c c':Nat->Int}{n:Nat}(hf:∀ s t,s<n->t<n->c' s=c' t->c s=c t):Mb c n<=Mb c' n:=by
 unfold Mb;have:∀ l:List Nat,(∀ i∈l,xJ c i=true->xJ c' i=true)->(l.filter (xJ c)).length<=(l.filter (xJ c')).length:=by
  intro l;induction l with
  | nil=>intro _;simp
  | cons b l ih =>
   intro h;have h2:=ih λ i hi=>h i (b6U _ hi);have h3:=h b (by simp);cases hp:xJ c b<;>cases hq:xJ c' b<;>simp_all<;>omega
 exact this _ λ i hi hr=>xe.2 λ j hj e=>xe.1 hr j hj (hf j i (by have:=b7y.1 hi;omega) (b7y.1 hi) e)
def Am.alike(A:Am)(c:Nat->Int)(s t:Nat):Prop:=c s=c t/\(∀ a,a<A.m->A.ac s a=A.ac t a)/\∀ a x,a<A.m->x<A.k->c (A.dl s a x)=c (A.dl t a x)
def Am.round{A:Am}(hA:zS A){I:Nat->Nat->Prop}{d:Nat}{c c':Nat->Int}(h:∀ s t,s<=A.n->t<=A.n->(c s=c t↔A.eqv I d s t))(hr:∀ s t,s<=A.n->t<=A.n->(c' s=c' t↔A.alike c s t)) :
  ∀ s t,s<=A.n->t<=A.n->(c' s=c' t↔A.eqv I (d+1) s t):=λ s t hs ht=>by
 rw[hr s t hs ht];constructor
 .rintro⟨h1,h2,h3⟩;exact⟨(h s t hs ht).1 h1,h2,λ a x ha hx=>(h _ _ (hA.le s a x hs) (hA.le t a x ht)).1 (h3 a x ha hx)⟩
 .rintro⟨h1,h2,h3⟩;exact⟨(h s t hs ht).2 h1,h2,λ a x ha hx=>(h _ _ (hA.le s a x hs) (hA.le t a x ht)).2 (h3 a x ha hx)⟩
def Am.ended{A:Am}(hA:zS A){I R:Nat->Nat->Prop}(hR:A.Ini I R)(hI:∀ s t,s<=A.n->t<=A.n->I s t->A.same s t->R s t){d:Nat}{c c':Nat->Int}(h:∀ s t,s<=A.n->t<=A.n->(c s=c t↔A.eqv I d s t))(h':∀ s t,s<=A.n->t<=A.n->(c' s=c' t↔A.eqv I (d+1) s t))(hn:Mb c (A.n+1)=Mb c' (A.n+1)) :
  ∀ s t,s<=A.n->t<=A.n->((c s=c t↔R s t)/\(c' s=c' t↔R s t)):=λ s t hs ht=>by
 have cb:∀ s t,s<=A.n->t<=A.n->A.eqv I d s t->A.eqv I (d+1) s t:=λ s t hs ht q =>
  (h' s t hs ht).1 (a4t (n:=A.n+1) (λ s t hs ht e=>(h s t (by omega) (by omega)).2 ((h' s t (by omega) (by omega)).1 e).1) hn (by omega) (by omega) ((h s t hs ht).2 q))
 have key:A.eqv I d s t↔R s t:=⟨λ q=>hI s t hs ht (Am.a4o d q) λ w a hw ha=>Am.Ge hA cb w hs ht q hw a ha,λ q=>hR.eqv hA d hs ht q⟩;exact⟨(h s t hs ht).trans key,(h' s t hs ht).trans ⟨λ q=>key.1 q.1,λ q=>cb s t hs ht (key.2 q)⟩⟩
structure Cut(A B:Am):Prop where
 n:B.n=A.n
 m:B.m=A.m
 k:B.k=A.k
 ac:∀ s a,B.ac s a=A.ac s a
 dl:∀ s a x,s<=A.n->a<A.m->x<A.k->B.dl s a x=A.dl s a x\/(B.dl s a x=A.n/\A.dead (A.dl s a x))
 live:∀ s a x,s<=A.n->a<A.m->x<A.k->B.dl s a x=A.n\/¬ A.dead (B.dl s a x)
def Cut.run{A B:Am}(hA:zS A)(hB:zS B)(h:Cut A B):∀ (w:List (Nat×Nat)) {s:Nat},s<=A.n->A.word w->∀ a,a<A.m->B.ac (B.run s w) a=A.ac (A.run s w) a
 | [],s,_,_,a,_=>h.ac s a
 | p::w,s,hs,hw,a,ha=>by
  have hp:=hw p (by simp);have D1:A.word w:=λ q hq=>hw q (b6U _ hq);show B.ac (B.run (B.dl s p.1 p.2) w) a=A.ac (A.run (A.dl s p.1 p.2) w) a;rcases h.dl s p.1 p.2 hs hp.1 hp.2 with e|⟨e,hd⟩
  .rw[e];exact h.run hA hB w (hA.le s _ _ hs) D1 a ha
  .rw[e,hd w a D1 ha,<-h.n,Am.Gv hB,hB.sink]
def Cut.same{A B:Am}(hA:zS A)(hB:zS B)(h:Cut A B){s t:Nat}(hs:s<=A.n)(ht:t<=A.n):B.same s t↔A.same s t:=by
 have hw:∀ w,B.word w↔A.word w:=λ w=>by unfold Am.word;rw[h.m,h.k]
 constructor
 .intro q w a D1 ha;rw[<-h.run hA hB w hs D1 a ha,<-h.run hA hB w ht D1 a ha];exact q w a ((hw w).2 D1) (by rw[h.m];exact ha)
 .intro q w a D1 ha;have D1:=(hw w).1 D1;rw[h.m] at ha;rw[h.run hA hB w hs D1 a ha,h.run hA hB w ht D1 a ha];exact q w a D1 ha
def Cut.ini{A B:Am}(hA:zS A)(hB:zS B)(h:Cut A B):B.Ini (λ s t=>(s=A.n↔t=A.n)) (λ s t=>A.same s t/\(s=A.n↔t=A.n)) where
 ini s t q:=q.2
 acc s t q a ha:=by rw[h.ac,h.ac];exact q.1 [] a (λ _ hp=>by cases hp) (by rw[<-h.m];exact ha)
 go s t hs ht q a x ha hx:=by
  rw[h.n] at hs ht;rw[h.m] at ha;rw[h.k] at hx;have h1:A.same (A.dl s a x) (A.dl t a x):=Am.R7 q.1 ha hx;have hd:A.dead (A.dl s a x)↔A.dead (A.dl t a x):=⟨λ g w b hw hb=>by rw[<-h1 w b hw hb];exact g w b hw hb,λ g w b hw hb=>by rw[h1 w b hw hb];exact g w b hw hb⟩;have dn:A.dead A.n:=(Am.a2F hA _).2 λ w a _ _=>rfl;have hS:B.dl s a x=A.n↔A.dead (A.dl s a x):=by
   rcases h.dl s a x hs ha hx with e|⟨e,g⟩
   .rw[e];exact⟨λ g=>by rw[g];exact dn,λ g=>(h.live s a x hs ha hx).elim (λ g=>by rw[<-e];exact g) (λ g2=>absurd (by rw[e];exact g) g2)⟩
   .exact⟨λ _=>g,λ _=>e⟩
  have hT:B.dl t a x=A.n↔A.dead (A.dl t a x):=by
   rcases h.dl t a x ht ha hx with e|⟨e,g⟩
   .rw[e];exact⟨λ g=>by rw[g];exact dn,λ g=>(h.live t a x ht ha hx).elim (λ g=>by rw[<-e];exact g) (λ g2=>absurd (by rw[e];exact g) g2)⟩
   .exact⟨λ _=>g,λ _=>e⟩
  refine⟨?_,hS.trans (hd.trans hT.symm)⟩;rcases h.dl s a x hs ha hx with e|⟨e,g⟩
  .rcases h.dl t a x ht ha hx with e'|⟨e',g'⟩
   .rw[e,e'];exact h1
   .rw[hS.2 (hd.2 g'),e'];exact λ w a _ _=>rfl
  .rw[e,hT.2 (hd.1 g)];exact λ w a _ _=>rfl
def amK(a:ae):Am:=⟨nK a,mK a,kK a,SH a,Kq a⟩
def a1g{a:ae}(h:vD a):zS (amK a):=by
 refine⟨λ t=>?_,λ t x=>?_,λ s t x hs=>?_⟩
 .show SH a (nK a) t=false;unfold SH;rw[decide_eq_false (by omega)];rfl
 .show Kq a (nK a) t x=nK a;unfold Kq;rw[if_neg (by omega)]
 .show Kq a s t x<=nK a;by_cases hx:t<mK a/\x<kK a
  .exact h.go hx.1 hx.2
  .unfold Kq;split
   .rename_i hsn;have hz:Pj a s t x=0:=by
     unfold Pj;by_cases ht:t<mK a
     .have:=h.a9F hsn ht;rw[b5P,b8v (by omega)];rfl
     .have:=(h.a3E hsn).2;rw[show (a.next.getD s []).getD t []=[] from by rw[b5P,b8v (by omega)];rfl];rfl
    rw[hz];simp
   .omega
def KL(a:ae)(out:List Int):Nat->List (List UInt8)
 | 0=>[lI a out (nK a)]
 | j+1=>if lI a out j∈KL a out j then KL a out j else KL a out j++[lI a out j]
def E6(L:List (List UInt8))(k:List UInt8):Nat:=L.findIdx λ y=>decide (y=k)
def a0h{L:List (List UInt8)}{k:List UInt8}:E6 L k<L.length↔k∈L:=by
 unfold E6;rw[List.findIdx_lt_length];constructor
 .rintro⟨y,hy,h⟩;rw[<-b6n h];exact hy
 .intro h;exact⟨k,h,by simp⟩
def a8c{L M:List (List UInt8)}{k:List UInt8}(h:k∈L):E6 (L++M) k=E6 L k:=by
 have:=a0h.2 h;unfold E6 at this ⊢;rw[List.findIdx_append,if_pos this]
def a8d{L:List (List UInt8)}{k l:List UInt8}(hk:k∈L)(h:E6 L k=E6 L l):k=l:=by
 have h1:=a0h.2 hk;have h2:E6 L l<L.length:=by omega
 have e1:decide (L[E6 L k]=k)=true:=b8X (p:=λ y=>decide (y=k)) (w:=h1);have e2:decide (L[E6 L l]=l)=true:=b8X (p:=λ y=>decide (y=l)) (w:=h2);have e3:L[E6 L k]=L[E6 L l]:=by simp[h]
 rw[<-b6n e1,e3,b6n e2]
def b2q(a:ae)(out:List Int)(j:Nat):lI a out j∈KL a out (j+1):=by
 unfold KL;split
 .assumption
 .simp
def UZ(a:ae)(out:List Int)(j:Nat):∀ i,∃ M,KL a out (j+i)=KL a out j++M
 | 0=>⟨[],by simp⟩
 | i+1=>by
  obtain⟨M,hM⟩:=UZ a out j i;rw[<-b8E,KL];split
  .exact⟨M,hM⟩
  .exact⟨M++[lI a out (j+i)],by rw[hM,b6v]⟩
def a9V(a:ae)(out:List Int){i j:Nat}(h:i<j):lI a out i∈KL a out j:=by
 obtain⟨M,hM⟩:=UZ a out (i+1) (j - (i+1));rw[show i+1+(j - (i+1))=j by omega] at hM;rw[hM];exact b7v _ (b2q a out i)
def a3w(a:ae)(out:List Int)(j:Nat):lI a out (nK a)∈KL a out j/\E6 (KL a out j) (lI a out (nK a))=0/\1<=(KL a out j).length:=by
 obtain⟨M,hM⟩:=UZ a out 0 j;rw[b7P] at hM;have h0:lI a out (nK a)∈KL a out 0:=by simp[KL]
 rw[hM];refine⟨b7v _ h0,?_,by simp[KL]⟩;rw[a8c h0];simp[KL,E6]
def UX(a:ae)(out:List Int):∀ j,(KL a out j).length<=j+1
 | 0=>by simp[KL]
 | j+1=>by
  have:=UX a out j;rw[KL];split
  .omega
  .simp;omega
def nxP(a:ae)(out:List Int)(j:Nat):List Int:=(List.range (nK a+1)).map λ i=>if i<j then (E6 (KL a out (nK a)) (lI a out i):Int) else 0
def a5t(a:ae)(out:List Int)(j:Nat):(nxP a out j).length=nK a+1:=by simp[nxP]
abbrev Ed(a:ae)(out:List Int):List Int:=nxP a out (nK a)
abbrev OC(a:ae)(out:List Int):Nat:=(KL a out (nK a)).length
def Ql(a:ae):Nat->List Int->Nat->List Int
 | 0,out,_=>out
 | f+1,out,count=>if OC a out=count then Ed a out else Ql a f (Ed a out) (OC a out)
def clP(a:ae):List Int:=Ql a 70 (List.replicate (nK a+1) (0:Int)) 0
def YE{a:ae}{out:List Int}{i:Nat}(hi:i<=nK a):(Ed a out).getD i 0=if i<nK a then (E6 (KL a out (nK a)) (lI a out i):Int) else 0:=by
 unfold Ed nxP;rw[List.getD_eq_getElem?_getD,List.getElem?_map,List.getElem?_range (by omega)];rfl
def YF{a:ae}{out:List Int}{i:Nat}(hi:i<=nK a):(Ed a out).getD i 0=(E6 (KL a out (nK a)) (lI a out i):Int):=by
 rw[YE hi];by_cases h:i<nK a
 .rw[b5Q h]
 .rw[b5I h,show i=nK a by omega,(a3w a out (nK a)).2.1];rfl
def UY(a:ae)(out:List Int){i:Nat}(hi:i<=nK a):lI a out i∈KL a out (nK a):=by
 rcases b6E i (nK a) with h|h
 .exact a9V a out h
 .rw[show i=nK a by omega];exact (a3w a out _).1
def a2d{a:ae}{out:List Int}{i j:Nat}(hi:i<=nK a)(hj:j<=nK a):(Ed a out).getD i 0=(Ed a out).getD j 0↔lI a out i=lI a out j:=by
 rw[YF hi,YF hj];constructor
 .intro h;exact a8d (UY a out hi) (by omega)
 .intro h;rw[h]
def a2e{a:ae}(h:vD a)(out:List Int):Zi a (Ed a out):=by
 refine⟨a5t a out _,λ v hv=>?_⟩;unfold Ed nxP at hv;obtain⟨i,hi,rfl⟩:=List.mem_map.1 hv;have hi:=List.mem_range.1 hi;split
 .have:=a0h.2 (UY a out (show i<=nK a by omega));have:=UX a out (nK a);have h6:nK a<=60:=h.n60;omega
 .omega
def a0C{a:ae}(h:vD a){out:List Int}(ho:Zi a out){i j:Nat}(hi:i<=nK a)(hj:j<=nK a):(Ed a out).getD i 0=(Ed a out).getD j 0↔(amK a).alike (λ s=>out.getD s 0) i j:=by
 rw[a2d hi hj];constructor
 .intro e;obtain⟨h1,h2⟩:=key_inj h ho hi hj e;exact⟨h1,λ t ht=>(h2 t ht).1,λ t x ht hx=>(h2 t ht).2 x hx⟩
 .rintro⟨h1,h2,h3⟩;exact a8f ⟨h1,λ t ht=>⟨h2 t ht,λ x hx=>h3 t x ht hx⟩⟩
def a3X{α:Type}{c:Nat->Int}{N:Nat}{f:Nat->α}{L:List α}(hL:L.Nodup)(h1:∀ i,i<N->f i∈L)(h2:∀ y∈L,∃ i,i<N/\f i=y)(h3:∀ i j,i<N->j<N->(c i=c j↔f i=f j)):Mb c N=L.length:=by
 unfold Mb;have hR:∀ i∈(List.range N).filter (xJ c),i<N/\xJ c i=true:=λ i hi=>by
  rw[b7b,b7y] at hi;exact hi
 have c6:(((List.range N).filter (xJ c)).map f).Nodup:=by
  unfold List.Nodup;rw[List.pairwise_map];have hp:=(List.nodup_range (n:=N)).filter (xJ c);refine List.Pairwise.imp_of_mem (λ {i j} hi hj tM e=>?_) hp;obtain⟨i1,i2⟩:=hR i hi;obtain⟨j1,j2⟩:=hR j hj;exact tM (YI i2 j2 ((h3 i j i1 j1).2 e))
 apply Nat.le_antisymm
 .have:=c6.length_le_of_subset (l₂:=L) (λ y hy=>by
   obtain⟨i,hi,rfl⟩:=b5N.1 hy;exact h1 i (hR i hi).1)
  simpa using this
 .have:=hL.length_le_of_subset (l₂:=((List.range N).filter (xJ c)).map f) (λ y hy=>by
   obtain⟨i,hi,rfl⟩:=h2 y hy;obtain⟨r,r1,r2,r3⟩:=Wv c i;refine b5N.2 ⟨r,?_,(h3 r i (by omega) hi).1 r2⟩;rw[b7b,b7y];exact⟨by omega,r3⟩)
  simpa using this
def LQ(a:ae)(out:List Int):∀ j,(KL a out j).Nodup
 | 0=>by simp[KL]
 | j+1=>by
  rw[KL];split
  .exact LQ a out j
  .rename_i h;refine b8U.2 ⟨LQ a out j,by simp,λ x hx y hy=>?_⟩;rw[b5Z] at hy;subst hy;exact λ e=>h (e ▸ hx)
def PX(a:ae)(out:List Int):∀ j,j<=nK a->∀ y∈KL a out j,∃ i,i<nK a+1/\lI a out i=y
 | 0,_,y,hy=>by
  simp only[KL,b5Z] at hy;exact⟨nK a,by omega,hy.symm⟩
 | j+1,hj,y,hy=>by
  rw[KL] at hy;split at hy
  .exact PX a out j (by omega) y hy
  .rcases b5F.1 hy with q|q
   .exact PX a out j (by omega) y q
   .rw[b5Z] at q;exact⟨j,by omega,q.symm⟩
def Vj(a:ae)(out:List Int):Mb (λ s=>(Ed a out).getD s 0) (nK a+1)=OC a out :=
 a3X (f:=lI a out) (LQ a out _) (λ i hi=>UY a out (by omega)) (PX a out _ (b6k _)) λ i j hi hj=>a2d (by omega) (by omega)
structure CP(a:ae)(d:Nat)(out:List Int)(count:Nat):Prop where
 ok:vD a
 eq:Ql a (70 - d) out count=clP a
 dc:d<=count
 cn:count<=61
 o:Zi a out
 lab:∀ s t,s<=nK a->t<=nK a->(out.getD s 0=out.getD t 0↔(amK a).eqv (λ _ _=>True) d s t)
 aT:d=0/\count=0\/count=Mb (λ s=>out.getD s 0) (nK a+1)
 z:out.getD (nK a) 0=0
def R0(n i:Nat):(List.replicate n (0:Int)).getD i 0=0:=by
 rw[b5P,List.getElem?_replicate];split<;>rfl
def CP.first{a:ae}(h:vD a):CP a 0 (List.replicate (nK a+1) (0:Int)) 0 :=
 ⟨h,rfl,b6k _,by omega,⟨by simp,λ v hv=>by rw[b9w hv];omega⟩,λ s t _ _=>by rw[R0,R0];exact⟨λ _=>trivial,λ _=>rfl⟩, .inl ⟨rfl,rfl⟩,R0 _ _⟩
def CP.a4Y{a:ae}{d:Nat}{out:List Int}{count:Nat}(h:CP a d out count):∀ s t,s<=nK a->t<=nK a->((Ed a out).getD s 0=(Ed a out).getD t 0↔(amK a).eqv (λ _ _=>True) (d+1) s t) :=
 Am.round (a1g h.ok) h.lab λ _ _ hs ht=>a0C h.ok h.o hs ht
def a5F(a:ae)(out:List Int):(Ed a out).getD (nK a) 0=0:=by rw[YE (b6k _),b5I (by omega)]
def CP.up{a:ae}{d:Nat}{out:List Int}{count:Nat}(h:CP a d out count):count<=OC a out:=by
 rcases h.aT with ⟨_,e⟩|e
 .omega
 .rw[e,<-Vj];exact a4u λ s t hs ht q=>(h.lab s t (by omega) (by omega)).2 ((h.a4Y s t (by omega) (by omega)).1 q).1
def CP.next{a:ae}{d:Nat}{out:List Int}{count:Nat}(h:CP a d out count)(hn:¬ OC a out=count):CP a (d+1) (Ed a out) (OC a out):=by
 have:=h.up;have:=h.dc;have:=h.cn;have hl:OC a out<=nK a+1:=UX a out (nK a);have h6:nK a<=60:=h.ok.n60;refine⟨h.ok,?_,by omega,by omega,a2e h.ok out,h.a4Y, .inr (Vj a out).symm,a5F a out⟩;rw[<-h.eq,show 70 - d=(70 - (d+1))+1 by omega,Ql,b5I hn]
def CP.less{a:ae}{d:Nat}{out:List Int}{count:Nat}(h:CP a d out count)(hn:¬ OC a out=count):70 - OC a out<70 - count:=by
 have:=h.up;have:=h.cn;have hl:OC a out<=nK a+1:=UX a out (nK a);have h6:nK a<=60:=h.ok.n60;omega
structure b2o(a:ae)(out:List Int):Prop where
 o:Zi a out
 lab:∀ s t,s<=nK a->t<=nK a->(out.getD s 0=out.getD t 0↔(amK a).same s t)
 z:out.getD (nK a) 0=0
def CP.done{a:ae}{d:Nat}{out:List Int}{count:Nat}(h:CP a d out count)(hn:OC a out=count):Ed a out=clP a/\b2o a (Ed a out):=by
 have hp:1<=OC a out:=(a3w a out (nK a)).2.2;have h1:=h.dc;have h2:=h.cn;refine⟨?_,a2e h.ok out,?_,a5F a out⟩
 .rw[<-h.eq,show 70 - d=(70 - (d+1))+1 by omega,Ql,b5Q hn]
 .rcases h.aT with ⟨_,e⟩|e
  .omega
  .intro s t hs ht;exact (Am.ended (a1g h.ok) (Am.a3i (amK a)) (λ _ _ _ _ _ q=>q) h.lab h.a4Y (by show Mb _ (nK a+1)=Mb _ (nK a+1);rw[Vj,hn,e]) s t hs ht).2
def Xd(c:List Int)(s:Int):Int:=if s<0 then -1 else c.getD s.toNat 0
structure Zj(xs ys:List Bool)(k:Nat):Prop where
 hl:xs.length=ys.length
 hk:k<=xs.length
 he:∀ i,i<k->xs.getD i false=ys.getD i false
def Zj.first{xs ys:List Bool}(h:(xs.length:Int)=(ys.length:Int)):Zj xs ys 0:=⟨by omega,by omega,λ i hi=>by omega⟩
def Zj.next{xs ys:List Bool}{k:Nat}(h:Zj xs ys k)(hk:k<xs.length)(e:xs.getD k false=ys.getD k false):Zj xs ys (k+1):=⟨h.hl,hk,λ i hi=>by
 rcases b6E i k with q|q
 .exact h.he i q
 .rw[show i=k by omega];exact e⟩
def Zj.done{xs ys:List Bool}{k:Nat}(h:Zj xs ys k)(hk:¬ k<xs.length):true=decide (xs=ys):=by
 rw[b6I];refine b9E h.hl λ i h1 h2=>?_;have:=h.he i (by have:=h.hk;omega);rw[b5P,b5P,b6e h1,b6e h2] at this;exact this
def alP(a:ae)(c:List Int)(s t:Nat):Prop:=a.accept.getD s []=a.accept.getD t []/\∀ i,i<mK a->∀ x,x<kK a->Xd c (Pj a s i x)=Xd c (Pj a t i x)
noncomputable def alB(a:ae)(c:List Int)(s t:Nat):Bool:=by
 classical exact decide (alP a c s t)
def b2t{a:ae}{c:List Int}{s t:Nat}(h:alP a c s t):true=alB a c s t:=by unfold alB;simp[h]
def b2s{a:ae}{c:List Int}{s t:Nat}(h:¬ alP a c s t):false=alB a c s t:=by unfold alB;simp[h]
structure AlI(a:ae)(c:List Int)(s t i x:Nat):Prop where
 ha:a.accept.getD s []=a.accept.getD t []
 hi:i<=mK a
 hx:x<=kK a
 hr:∀ j,j<i->∀ y,y<kK a->Xd c (Pj a s j y)=Xd c (Pj a t j y)
 hq:∀ y,y<x->Xd c (Pj a s i y)=Xd c (Pj a t i y)
def AlI.first{a:ae}{c:List Int}{s t:Nat}(h:a.accept.getD s []=a.accept.getD t []):AlI a c s t 0 0:=⟨h,by omega,by omega,λ i hi=>by omega,λ i hi=>by omega⟩
def AlI.done{a:ae}{c:List Int}{s t i x:Nat}(h:AlI a c s t i x)(hi:¬ i<mK a):true=alB a c s t:=b2t ⟨h.ha,λ j hj y hy=>h.hr j (by omega) y hy⟩
def AlI.no{a:ae}{c:List Int}{s t i x:Nat}(_h:AlI a c s t i x)(hi:i<mK a)(hx:x<kK a)(e:¬ Xd c (((a.next.getD s []).getD i []).getD x 0)=Xd c (((a.next.getD t []).getD i []).getD x 0)):false=alB a c s t:=b2s λ q=>e (q.2 i hi x hx)
structure AlK(a:ae)(c:List Int)(s t:Int):Prop where
 ha:vD a
 hc:c.length=nK a
 hs:0<=s/\s<nK a
 ht:0<=t/\t<nK a
structure RwL(a:ae)(s i:Nat):Prop where
 n:nK a<=60/\a.accept.length<=60
 nx:a.next.length=nK a
 m:mK a<=8
 k:kK a<=4
 ac:s<nK a->(a.accept.getD s []).length=mK a
 r:s<nK a->(a.next.getD s []).length=mK a
 rr:s<nK a->i<mK a->((a.next.getD s []).getD i []).length=kK a
def vD.rwl{a:ae}(h:vD a)(s i:Nat):RwL a s i:=⟨⟨h.n60,h.n60⟩,h.nx,h.lens.2.1,h.lens.2.2.1,λ hs=>(h.a3E hs).1,λ hs=>(h.a3E hs).2,λ hs hi=>h.a9F hs hi⟩
def jn(a:ae)(s t x:Int):Int:=if s<0 then -1 else ((a.next.getD s.toNat []).getD t.toNat []).getD x.toNat 0
def rY(a:ae)(s t:Int):Bool:=if 0<=s then (a.accept.getD s.toNat []).getD t.toNat false else false
def b4h{a:ae}{s t x:Int}(h:s<0) : -1=jn a s t x:=by rw[jn,b5Q h]
def b4g{a:ae}{s t x:Int}(h:¬ s<0):((a.next.getD s.toNat []).getD t.toNat []).getD x.toNat 0=jn a s t x:=by rw[jn,b5I h]
def b3C{a:ae}{s t:Int}(h:0<=s):(a.accept.getD s.toNat []).getD t.toNat false=rY a s t:=by rw[rY,b5Q h]
def a9o{a:ae}{s t:Int}(h:¬ 0<=s):false=rY a s t:=by rw[rY,b5I h]
structure WX(a:ae)(s t:Int):Prop where
 ha:vD a
 s0 : -1<=s
 s1:s<(nK a:Int)
 t0:0<=t
 t1:t<(mK a:Int)
structure PZ(a:ae)(s t x:Int):Prop where
 h:WX a s t
 x0:0<=x
 x1:x<(kK a:Int)
def Wk{a:ae}{s t x:Int}(h:PZ a s t x) : -1<=jn a s t x/\jn a s t x<(nK a:Int):=by
 have h1:=h.h.s0;have h2:=h.h.s1;have h3:=h.h.t0;have h4:=h.h.t1;have h5:=h.x0;have h6:=h.x1;unfold jn;split
 .omega
 .exact h.h.ha.row (by omega) (by omega) (by omega)
def YD(a b:ae)(p:aw)(t x:Nat):aw:=aw.mk (jn a p.a0 (t:Int) (x:Int)) (jn b p.a1 (t:Int) (x:Int))
def rcQ(a b:ae)(p:aw)(i t x:Nat):ah:=ah.mk (YD a b p t x) (i:Int) (t:Int) (x:Int)
def sM(ls:List ah)(q:aw):Bool:=ls.any λ r=>decide (r.pair.a0=q.a0)&&decide (r.pair.a1=q.a1)
def Lk(q:aw):Bool:=decide (q.a0<0)&&decide (q.a1<0)
def Bh(ls:List ah)(q:ah):List ah:=if Lk q.pair=true\/sM ls q.pair=true then ls else ls++[q]
def iy(a b:ae)(p:aw)(i t:Nat)(ls:List ah):Nat->List ah
 | 0=>ls
 | x+1=>Bh (iy a b p i t ls x) (rcQ a b p i t x)
def fI(a b:ae)(p:aw)(i:Nat)(ls:List ah):Nat->List ah
 | 0=>ls
 | t+1=>iy a b p i t (fI a b p i ls t) (kK a)
def aZ(a b:ae):Nat->List ah
 | 0=>[ah.mk (aw.mk (0:Int) (0:Int)) (-1:Int) (0:Int) (0:Int)]
 | i+1=>if i<(aZ a b i).length then fI a b ((aZ a b i).getD i (ah.mk (aw.mk (0:Int) (0:Int)) (0:Int) (0:Int) (0:Int))).pair i (aZ a b i) (mK a) else aZ a b i
noncomputable def dT(a b:ae):List ah:=aZ a b (3722+nK a)
def Bg{ls:List ah}{q:aw}:sM ls q=true↔∃ r∈ls,r.pair=q:=by
 unfold sM;rw[List.any_eq_true];constructor
 .rintro⟨r,h1,h2⟩;simp only[b5M,b5K] at h2;refine⟨r,h1,?_⟩;obtain⟨⟨p0,p1⟩,_,_,_⟩:=r;obtain⟨q0,q1⟩:=q;simp only at h2 ⊢;rw[h2.1,h2.2]
 .rintro⟨r,h1,rfl⟩;exact⟨r,h1,by simp⟩
structure AB(a b:ae):Prop where
 ka:vD a
 kb:vD b
 ks:b.sig=a.sig
def AB.sw{a b:ae}(h:AB a b):AB b a:=⟨h.kb,h.ka,h.ks.symm⟩
structure P0(a b:ae)(ls:List ah):Prop where
 pos:0<ls.length
 fZ:∀ r∈ls,(-1<=r.pair.a0/\r.pair.a0<(nK a:Int))/\(-1<=r.pair.a1/\r.pair.a1<(nK b:Int))
 nd:(ls.map ah.pair).Nodup
 oM:∀ j,j<ls.length -> -1<=(ls.getD j (ah.mk (aw.mk (0:Int) (0:Int)) (0:Int) (0:Int) (0:Int))).oM/\(ls.getD j (ah.mk (aw.mk (0:Int) (0:Int)) (0:Int) (0:Int) (0:Int))).oM<(j:Int)
def P0.mS{a b:ae}{ls:List ah}(h:P0 a b ls)(xG:AB a b):ls.length<=3721:=by
 have ha:=xG.ka.n60;have hb:=xG.kb.n60;let f:aw->Nat:=λ q=>(q.a0+1).toNat * 61+(q.a1+1).toNat;have h1:((ls.map ah.pair).map f).Nodup:=by
  have:=h.nd;unfold List.Nodup at this ⊢;rw[List.pairwise_map];refine List.Pairwise.imp_of_mem (λ {x y} hx hy q e=>q ?_) this;obtain⟨r,hr,rfl⟩:=List.mem_map.1 hx;obtain⟨r',MA,rfl⟩:=List.mem_map.1 hy;have k1:=h.fZ r hr;have k2:=h.fZ r' MA;simp only[nK] at k1 k2;simp only[f] at e;obtain⟨⟨p0,p1⟩,_,_,_⟩:=r;obtain⟨⟨q0,q1⟩,_,_,_⟩:=r';simp only at e k1 k2 ⊢;have:p0=q0/\p1=q1:=by omega
  rw[this.1,this.2]
 have:=h1.length_le_of_subset (l₂:=List.range 3721) λ y hy=>by
  obtain⟨q,hq,rfl⟩:=b5N.1 hy;obtain⟨r,hr,rfl⟩:=b5N.1 hq;have k1:=h.fZ r hr;simp only[nK] at k1;rw[b7y];simp only[f];omega
 simpa using this
def a8y{ls:List ah}{q:ah}{j:Nat}:j<(ls++[q]).length->(j<ls.length/\(ls++[q]).getD j (ah.mk (aw.mk (0:Int) (0:Int)) (0:Int) (0:Int) (0:Int))=ls.getD j (ah.mk (aw.mk (0:Int) (0:Int)) (0:Int) (0:Int) (0:Int)))\/(j=ls.length/\(ls++[q]).getD j (ah.mk (aw.mk (0:Int) (0:Int)) (0:Int) (0:Int) (0:Int))=q):=λ h=>by
 simp only[b5Y,b5S,b6d] at h;rcases b6E j ls.length with r|r
 .exact .inl ⟨r,by simp only[b5P,b6X r]⟩
 .have:j=ls.length:=by omega
  subst this;exact .inr ⟨rfl,by simp[b5P]⟩
def b1J{ls:List ah}{q:ah}(h:Lk q.pair=true\/sM ls q.pair=true):ls=Bh ls q:=by rw[Bh,b5Q h]
def b1I{ls:List ah}{q:ah}(h:¬ (Lk q.pair=true\/sM ls q.pair=true)):ls++[q]=Bh ls q:=by rw[Bh,b5I h]
def a5B(ls:List ah)(q:ah):ls.length<=(Bh ls q).length:=by unfold Bh;split<;>simp
def a8x{a b:ae}{ls:List ah}(h:P0 a b ls){q:ah}(h1:(-1<=q.pair.a0/\q.pair.a0<(nK a:Int))/\(-1<=q.pair.a1/\q.pair.a1<(nK b:Int)))(h2 : -1<=q.oM/\q.oM<(ls.length:Int)):P0 a b (Bh ls q):=by
 unfold Bh;split
 .exact h
 .rename_i w;rw[not_or] at w;refine⟨by simp,λ r hr=>?_,?_,λ j hj=>?_⟩
  .rcases b5F.1 hr with r'|r'
   .exact h.fZ r r'
   .rw[b5Z] at r';rw[r'];exact h1
  .rw[b7t];refine b8U.2 ⟨h.nd,by simp,λ x hx y hy=>?_⟩;rw[b6w,b7f,b5Z] at hy;subst hy;obtain⟨r,hr,rfl⟩:=b5N.1 hx;exact λ e=>w.2 (Bg.2 ⟨r,hr,e⟩)
  .rcases a8y hj with ⟨k1,k2⟩|⟨k1,k2⟩
   .rw[k2];exact h.oM j k1
   .rw[k2,k1];exact h2
structure RcX(a b:ae)(ls q:List ah):Prop where
 g:P0 a b q
 up:ls.length<=q.length
 pre:∀ j,j<ls.length->q.getD j (ah.mk (aw.mk (0:Int) (0:Int)) (0:Int) (0:Int) (0:Int))=ls.getD j (ah.mk (aw.mk (0:Int) (0:Int)) (0:Int) (0:Int) (0:Int))
def a5D(ls:List ah)(q:ah){j:Nat}(h:j<ls.length):(Bh ls q).getD j (ah.mk (aw.mk (0:Int) (0:Int)) (0:Int) (0:Int) (0:Int))=ls.getD j (ah.mk (aw.mk (0:Int) (0:Int)) (0:Int) (0:Int) (0:Int)):=by
 unfold Bh;split
 .rfl
 .simp only[b5P,b6X h]
def a2a{a b:ae}(h:AB a b){p:aw}(hp:(-1<=p.a0/\p.a0<(nK a:Int))/\(-1<=p.a1/\p.a1<(nK b:Int))){t x:Nat}(ht:t<mK a)(hx:x<kK a):PZ a p.a0 (t:Int) (x:Int)/\PZ b p.a1 (t:Int) (x:Int):=by
 have e1:mK b=mK a:=by simp only[mK,h.ks]
 have e2:kK b=kK a:=by simp only[kK,h.ks]
 exact⟨⟨⟨h.ka,hp.1.1,hp.1.2,by omega,by omega⟩,by omega,by omega⟩,⟨⟨h.kb,hp.2.1,hp.2.2,by omega,by omega⟩,by omega,by omega⟩⟩
def Wt{a b:ae}(h:AB a b){p:aw}(hp:(-1<=p.a0/\p.a0<(nK a:Int))/\(-1<=p.a1/\p.a1<(nK b:Int))){i t:Nat}(ht:t<mK a){ls:List ah}(hg:P0 a b ls)(hi:i<ls.length):∀ x,x<=kK a->RcX a b ls (iy a b p i t ls x)
 | 0,_=>⟨hg,b6k _,λ _ _=>rfl⟩
 | x+1,hx=>by
  have q:=Wt h hp ht hg hi x (by omega);have r:=a2a h hp ht (show x<kK a by omega);have u:=q.up;rw[iy];exact⟨a8x q.g ⟨Wk r.1,Wk r.2⟩ (by simp only[rcQ];omega),b7g u (a5B _ _),λ j hj=>(a5D _ _ (by omega)).trans (q.pre j hj)⟩
def Ll{a b:ae}(h:AB a b){p:aw}(hp:(-1<=p.a0/\p.a0<(nK a:Int))/\(-1<=p.a1/\p.a1<(nK b:Int))){i:Nat}{ls:List ah}(hg:P0 a b ls)(hi:i<ls.length):∀ t,t<=mK a->RcX a b ls (fI a b p i ls t)
 | 0,_=>⟨hg,b6k _,λ _ _=>rfl⟩
 | t+1,ht=>by
  have q:=Ll h hp hg hi t (by omega);have u:=q.up;have r:=Wt h hp (show t<mK a by omega) q.g (show i<(fI a b p i ls t).length by omega) (kK a) (b6k _);rw[fI];exact⟨r.g,b7g u r.up,λ j hj=>(r.pre j (by omega)).trans (q.pre j hj)⟩
def P0.get{a b:ae}{ls:List ah}(h:P0 a b ls){i:Nat}(hi:i<ls.length):(-1<=(ls.getD i (ah.mk (aw.mk (0:Int) (0:Int)) (0:Int) (0:Int) (0:Int))).pair.a0/\(ls.getD i (ah.mk (aw.mk (0:Int) (0:Int)) (0:Int) (0:Int) (0:Int))).pair.a0<(nK a:Int))/\(-1<=(ls.getD i (ah.mk (aw.mk (0:Int) (0:Int)) (0:Int) (0:Int) (0:Int))).pair.a1/\(ls.getD i (ah.mk (aw.mk (0:Int) (0:Int)) (0:Int) (0:Int) (0:Int))).pair.a1<(nK b:Int)):=h.fZ _ (fW hi)
def pF{a b:ae}(h:AB a b):∀ i,P0 a b (aZ a b i)
 | 0=>⟨by simp[aZ],λ r hr=>by
   have:=h.ka.n1;have:=h.kb.n1;simp only[aZ,b5Z] at hr;subst hr;simp only[nK];omega,by simp[aZ],λ j hj=>by
   simp only[aZ,b5S,b6d] at hj;have:j=0:=by omega
   subst this;simp[aZ]⟩
 | i+1=>by
  have q:=pF h i;rw[aZ];split
  .rename_i hi;exact (Ll h (q.get hi) q hi (mK a) (b6k _)).g
  .exact q
def a8v{a b:ae}(h:AB a b){i:Nat}(hi:i<(aZ a b i).length):i+1<=(aZ a b (i+1)).length:=by
 have q:=pF h i;have:=(Ll h (q.get hi) q hi (mK a) (b6k _)).up;rw[aZ,b5Q hi];omega
def Gu{a b:ae}{i:Nat}(hi:¬ i<(aZ a b i).length):∀ j,aZ a b (i+j)=aZ a b i
 | 0=>rfl
 | j+1=>by
  have e:=Gu hi j;rw[<-b8E,aZ,e,b5I (by omega)]
def a5z{a b:ae}{i:Nat}(hi:¬ i<(aZ a b i).length)(h6:i<=3721):aZ a b i=dT a b:=by
 have e:=Gu hi (3722+nK a - i);rw[show i+(3722+nK a - i)=3722+nK a by omega] at e;unfold dT;exact e.symm
def Lj{a b:ae}(h:AB a b):P0 a b (dT a b):=pF h _
def Ee(r:ah):ah:=ah.mk (aw.mk r.pair.a1 r.pair.a0) r.oM r.atom r.act
def b2f(ls:List ah)(q:aw):sM (ls.map Ee) (aw.mk q.a1 q.a0)=sM ls q:=by
 unfold sM;rw[List.any_map];congr 1;funext r;exact Bool.and_comm _ _
def b4w(ls:List ah)(q:ah):Bh (ls.map Ee) (Ee q)=(Bh ls q).map Ee:=by
 unfold Bh;have e1:Lk (Ee q).pair=Lk q.pair:=Bool.and_comm _ _;have e2:sM (ls.map Ee) (Ee q).pair=sM ls q.pair:=b2f ls q.pair;rw[e1,e2];split<;>simp
def a9N(a b:ae)(h:b.sig=a.sig)(p:aw)(i t:Nat)(ls:List ah):∀ x,iy b a (aw.mk p.a1 p.a0) i t (ls.map Ee) x=(iy a b p i t ls x).map Ee
 | 0=>rfl
 | x+1=>by
  rw[iy,iy,a9N a b h p i t ls x,<-b4w];rfl
def a9M(a b:ae)(h:b.sig=a.sig)(p:aw)(i:Nat)(ls:List ah):∀ t,fI b a (aw.mk p.a1 p.a0) i (ls.map Ee) t=(fI a b p i ls t).map Ee
 | 0=>rfl
 | t+1=>by
  have e:kK b=kK a:=by simp only[kK,h]
  rw[fI,fI,a9M a b h p i ls t,a9N a b h,e]
def a9L(a b:ae)(h:b.sig=a.sig):∀ i,aZ b a i=(aZ a b i).map Ee
 | 0=>rfl
 | i+1=>by
  have e:mK b=mK a:=by simp only[mK,h]
  rw[aZ,aZ,a9L a b h i,b6G];by_cases hi:i<(aZ a b i).length
  .rw[b5Q hi,b5Q hi];have e2:(((aZ a b i).map Ee).getD i (ah.mk (aw.mk (0:Int) (0:Int)) (0:Int) (0:Int) (0:Int))).pair=aw.mk ((aZ a b i).getD i (ah.mk (aw.mk (0:Int) (0:Int)) (0:Int) (0:Int) (0:Int))).pair.a1 ((aZ a b i).getD i (ah.mk (aw.mk (0:Int) (0:Int)) (0:Int) (0:Int) (0:Int))).pair.a0:=by
    simp only[b5P,b7m,b6e hi];rfl
   rw[e2,a9M a b h,e]
  .rw[b5I hi,b5I hi]
def b4v{a b:ae}(h:AB a b):dT b a=(dT a b).map Ee:=by
 have f:=(pF h 3722).mS h;have q:¬ 3722<(aZ a b 3722).length:=by omega
 have e1:aZ a b (3722+nK b)=aZ a b 3722:=Gu q _;have e2:aZ a b (3722+nK a)=aZ a b 3722:=Gu q _;unfold dT;rw[a9L a b h.ks,e1,e2]
def fS(ls:List ah)(q:aw):Option Bool:=if sM ls q=true\/(q.a0 = -1/\q.a1 = -1) then some true else none
def a1R{ls:List ah}{q:aw}(h : -1<=q.a0 /\ -1<=q.a1):Option.getD (fS ls q) false=true↔Lk q=true\/sM ls q=true:=by
 unfold fS Lk;simp only[Bool.and_eq_true,decide_eq_true_eq];split
 .rename_i w;simp only[b8R,true_iff];exact w.elim .inr λ w => .inl (by omega)
 .rename_i w;rw[not_or] at w;simp only[Option.getD_none,b5O,false_iff];rintro (q'|q')
  .exact w.2 (by omega)
  .exact w.1 q'
def UB(ls:List ah)(r:ah)(q:aw):sM (ls++[r]) q=true↔sM ls q=true\/r.pair=q:=by
 rw[Bg,Bg];simp only[b5F,b5Z];constructor
 .rintro⟨x,h|h,e⟩
  .exact .inl ⟨x,h,e⟩
  .exact .inr (h ▸ e)
 .rintro (⟨x,h,e⟩|h)
  .exact⟨x, .inl h,e⟩
  .exact⟨r, .inr rfl,h⟩
def a5q(ls:List ah)(r:ah):fj (fS ls) r.pair true=fS (ls++[r]):=by
 funext q;by_cases h:q=r.pair
 .subst h;rw[qN,fS,b5Q (.inl ((UB _ _ _).2 (.inr rfl)))]
 .rw[jA _ _ _ h];unfold fS;have:sM (ls++[r]) q=true↔sM ls q=true:=by
   rw[UB];exact⟨λ w=>w.elim id λ e=>absurd e.symm h, .inl⟩
  simp only[this]
def a5p{ls:List ah}{q:aw}(h:¬ Option.getD (fS ls q) false=true)(n:Nat):gH (fS ls q) n=n+1:=by
 unfold fS at h ⊢;split
 .rename_i w;rw[b5Q w] at h;exact absurd rfl h
 .rfl
def E9:bc:=⟨FA,[.v (.st .automaton), .v (.int .i64), .v (.int .i64), .v (.int .i64)],λ (a:ae) (s:Int) (t:Int) (x:Int)=>⟨(some (PZ a s t x),[⟨(.int .i64),jn a s t x⟩])⟩⟩
def Rk(a:ae)(s:Int)(t:Int)(x:Int):Nat->aI:=cf
def Kt:bc.Good E9:=by
 refine⟨aG CU,?_⟩;intro (a:ae) (s:Int) (t:Int) (x:Int) (hp:PZ a s t x);refine bo [] [] [] [4] trivial CU JX (Rk a s t x) (let v1:=a.next.getD (Int.toNat s) [];let v0:=v1.getD (Int.toNat t) [];let v2:=v0.getD (Int.toNat x) (0:Int);((((decide (s<(0:Int)))=true->(-1:Int)=(jn a s t x))/\((decide (s<(0:Int)))=false->(a.next.length<=140737488355328->(aJ s a.next.length/\(v1.length<=140737488355328->(aJ t v1.length/\(v0.length<=140737488355328->(aJ x v0.length/\(ag v2->v2=(jn a s t x)))))))))))) ?_;have ha:=hp.h.ha;have n0:=hp.h.s0;have n1:=hp.h.s1;have n2:=hp.h.t0;have n3:=hp.h.t1;have n4:=hp.x0;have n5:=hp.x1;have n6:=ha.rwl s.toNat t.toNat;have n7:=n6.nx;have n8:=n6.r;have n9:=n6.rr;refine⟨λ _=>?_,λ _ _=>⟨?_,λ _=>⟨?_,λ _=>⟨?_,λ _=>?_⟩⟩⟩⟩;all_goals try and_intros
 all_goals (try simp only[b6j,b6A,b5K,b5L,aJ,ag,bn,cY,b5R,b7R,b6Z,b8J,b5U,b5T,b5O,b5Y,b5S,b6d,b7s] at *);first|done|with_reducible assumption|omega|with_reducible rfl|exact trivial|exact b4h (by with_reducible assumption)|exact b4g (by with_reducible assumption)
def Df:bc:=⟨Dt,[.v (.st .automaton), .v (.int .i64), .v (.int .i64)],λ (a:ae) (s:Int) (t:Int)=>⟨(some (WX a s t),[⟨.bool,rY a s t⟩])⟩⟩
def OT(a:ae)(s:Int)(t:Int):Nat->aI:=cf
def IA:bc.Good Df:=by
 refine⟨aG z7,?_⟩;intro (a:ae) (s:Int) (t:Int) (hp:WX a s t);refine bo [] [] [] [3] trivial z7 H9 (OT a s t) (let v0:=a.accept.getD (Int.toNat s) [];((((decide ((0:Int)<=s))=true->(a.accept.length<=140737488355328->(aJ s a.accept.length/\(v0.length<=140737488355328->(aJ t v0.length/\(v0.getD (Int.toNat t) false)=(rY a s t))))))/\((decide ((0:Int)<=s))=(!true)->false=(rY a s t))))) ?_;have ha:=hp.ha;have n0:=hp.s0;have n1:=hp.s1;have n2:=hp.t0;have n3:=hp.t1;have n6:=ha.rwl s.toNat t.toNat;have n7:=n6.n;have n8:=n6.ac;refine⟨λ _ _=>⟨?_,λ _=>⟨?_,?_⟩⟩,λ _=>?_⟩;all_goals try and_intros
 all_goals (try simp only[b6j,b6A,b5K,b5L,aJ,ag,bn,cY,b5R,b7R,b6Z,b8J,b5U,b5T,b5O,b5Y,b5S,b6d,b7s] at *);first|done|with_reducible assumption|omega|with_reducible rfl|exact trivial|exact b3C (by with_reducible assumption)|exact a9o (by with_reducible assumption)|exact a9o (by omega)
structure RnI(a b:ae)(i:Nat):Prop where
 l1:(aZ a b i).length<=3721
 l2:1<=(aZ a b i).length
def rnI{a b:ae}(h:AB a b)(i:Nat):RnI a b i:=by
 have q:=pF h i;have:=q.mS h;have:=q.pos;exact⟨by omega,by omega⟩
structure RnT(a b:ae)(i t:Nat):Prop where
 t1:(fI a b ((aZ a b i).getD i (ah.mk (aw.mk (0:Int) (0:Int)) (0:Int) (0:Int) (0:Int))).pair i (aZ a b i) t).length<=3721
 t2:i<(fI a b ((aZ a b i).getD i (ah.mk (aw.mk (0:Int) (0:Int)) (0:Int) (0:Int) (0:Int))).pair i (aZ a b i) t).length
def rnT{a b:ae}(h:AB a b){i t:Nat}(hi:i<(aZ a b i).length)(ht:t<=mK a):RnT a b i t:=by
 have q:=Ll h ((pF h i).get hi) (pF h i) hi t ht;have:=q.g.mS h;have:=q.up;exact⟨by omega,by omega⟩
structure RnX(a b:ae)(i t x:Nat):Prop where
 x1:(iy a b ((aZ a b i).getD i (ah.mk (aw.mk (0:Int) (0:Int)) (0:Int) (0:Int) (0:Int))).pair i t (fI a b ((aZ a b i).getD i (ah.mk (aw.mk (0:Int) (0:Int)) (0:Int) (0:Int) (0:Int))).pair i (aZ a b i) t) x).length<=3721
 x2:i<(iy a b ((aZ a b i).getD i (ah.mk (aw.mk (0:Int) (0:Int)) (0:Int) (0:Int) (0:Int))).pair i t (fI a b ((aZ a b i).getD i (ah.mk (aw.mk (0:Int) (0:Int)) (0:Int) (0:Int) (0:Int))).pair i (aZ a b i) t) x).length
def rnX{a b:ae}(h:AB a b){i t x:Nat}(hi:i<(aZ a b i).length)(ht:t<mK a)(hx:x<=kK a):RnX a b i t x:=by
 have q0:=Ll h ((pF h i).get hi) (pF h i) hi t (Nat.le_of_lt ht);have:=q0.up;have q:=Wt h ((pF h i).get hi) ht q0.g (show i<(fI a b ((aZ a b i).getD i (ah.mk (aw.mk (0:Int) (0:Int)) (0:Int) (0:Int) (0:Int))).pair i (aZ a b i) t).length by omega) x hx;have:=q.g.mS h;have:=q.up;exact⟨by omega,by omega⟩
def rnN{a b:ae}(h:AB a b){i t x:Nat}(hi:i<(aZ a b i).length)(ht:t<mK a)(hx:x<kK a):PZ a ((aZ a b i).getD i (ah.mk (aw.mk (0:Int) (0:Int)) (0:Int) (0:Int) (0:Int))).pair.a0 (t:Int) (x:Int)/\PZ b ((aZ a b i).getD i (ah.mk (aw.mk (0:Int) (0:Int)) (0:Int) (0:Int) (0:Int))).pair.a1 (t:Int) (x:Int):=a2a h ((pF h i).get hi) ht hx
def b4q{a b:ae}(h:AB a b){i t x:Nat}(hi:i<(aZ a b i).length)(ht:t<mK a)(hx:x<kK a):PZ a ((aZ a b i).getD i (ah.mk (aw.mk (0:Int) (0:Int)) (0:Int) (0:Int) (0:Int))).pair.a0 (t:Int) (x:Int):=(rnN h hi ht hx).1
def b4r{a b:ae}(h:AB a b){i t x:Nat}(hi:i<(aZ a b i).length)(ht:t<mK a)(hx:x<kK a):PZ b ((aZ a b i).getD i (ah.mk (aw.mk (0:Int) (0:Int)) (0:Int) (0:Int) (0:Int))).pair.a1 (t:Int) (x:Int):=(rnN h hi ht hx).2
def a5I{a b:ae}(h:AB a b){i t x:Nat}(hi:i<(aZ a b i).length)(ht:t<mK a)(hx:x<kK a) : -1<=(YD a b ((aZ a b i).getD i (ah.mk (aw.mk (0:Int) (0:Int)) (0:Int) (0:Int) (0:Int))).pair t x).a0 /\ -1<=(YD a b ((aZ a b i).getD i (ah.mk (aw.mk (0:Int) (0:Int)) (0:Int) (0:Int) (0:Int))).pair t x).a1:=by
 have q:=rnN h hi ht hx;exact⟨(Wk q.1).1,(Wk q.2).1⟩
def a0F{a b:ae}(h:AB a b){i t x:Nat}(hi:i<(aZ a b i).length)(ht:t<mK a)(hx:x<kK a)(w:Option.getD (fS (iy a b ((aZ a b i).getD i (ah.mk (aw.mk (0:Int) (0:Int)) (0:Int) (0:Int) (0:Int))).pair i t (fI a b ((aZ a b i).getD i (ah.mk (aw.mk (0:Int) (0:Int)) (0:Int) (0:Int) (0:Int))).pair i (aZ a b i) t) x) (aw.mk (jn a ((aZ a b i).getD i (ah.mk (aw.mk (0:Int) (0:Int)) (0:Int) (0:Int) (0:Int))).pair.a0 (t:Int) (x:Int)) (jn b ((aZ a b i).getD i (ah.mk (aw.mk (0:Int) (0:Int)) (0:Int) (0:Int) (0:Int))).pair.a1 (t:Int) (x:Int)))) false=true):(iy a b ((aZ a b i).getD i (ah.mk (aw.mk (0:Int) (0:Int)) (0:Int) (0:Int) (0:Int))).pair i t (fI a b ((aZ a b i).getD i (ah.mk (aw.mk (0:Int) (0:Int)) (0:Int) (0:Int) (0:Int))).pair i (aZ a b i) t) x)=(iy a b ((aZ a b i).getD i (ah.mk (aw.mk (0:Int) (0:Int)) (0:Int) (0:Int) (0:Int))).pair i t (fI a b ((aZ a b i).getD i (ah.mk (aw.mk (0:Int) (0:Int)) (0:Int) (0:Int) (0:Int))).pair i (aZ a b i) t) (x+1)):=b1J (ls:=(iy a b ((aZ a b i).getD i (ah.mk (aw.mk (0:Int) (0:Int)) (0:Int) (0:Int) (0:Int))).pair i t (fI a b ((aZ a b i).getD i (ah.mk (aw.mk (0:Int) (0:Int)) (0:Int) (0:Int) (0:Int))).pair i (aZ a b i) t) x)) (q:=(rcQ a b ((aZ a b i).getD i (ah.mk (aw.mk (0:Int) (0:Int)) (0:Int) (0:Int) (0:Int))).pair i t x)) ((a1R (a5I h hi ht hx)).1 w)
def b1L{a b:ae}(h:AB a b){i t x:Nat}(hi:i<(aZ a b i).length)(ht:t<mK a)(hx:x<kK a)(w:Option.getD (fS (iy a b ((aZ a b i).getD i (ah.mk (aw.mk (0:Int) (0:Int)) (0:Int) (0:Int) (0:Int))).pair i t (fI a b ((aZ a b i).getD i (ah.mk (aw.mk (0:Int) (0:Int)) (0:Int) (0:Int) (0:Int))).pair i (aZ a b i) t) x) (aw.mk (jn a ((aZ a b i).getD i (ah.mk (aw.mk (0:Int) (0:Int)) (0:Int) (0:Int) (0:Int))).pair.a0 (t:Int) (x:Int)) (jn b ((aZ a b i).getD i (ah.mk (aw.mk (0:Int) (0:Int)) (0:Int) (0:Int) (0:Int))).pair.a1 (t:Int) (x:Int)))) false=true):fS (iy a b ((aZ a b i).getD i (ah.mk (aw.mk (0:Int) (0:Int)) (0:Int) (0:Int) (0:Int))).pair i t (fI a b ((aZ a b i).getD i (ah.mk (aw.mk (0:Int) (0:Int)) (0:Int) (0:Int) (0:Int))).pair i (aZ a b i) t) x)=fS (iy a b ((aZ a b i).getD i (ah.mk (aw.mk (0:Int) (0:Int)) (0:Int) (0:Int) (0:Int))).pair i t (fI a b ((aZ a b i).getD i (ah.mk (aw.mk (0:Int) (0:Int)) (0:Int) (0:Int) (0:Int))).pair i (aZ a b i) t) (x+1)):=congrArg fS (a0F h hi ht hx w)
def b1N{a b:ae}(h:AB a b){i t x:Nat}(hi:i<(aZ a b i).length)(ht:t<mK a)(hx:x<kK a)(w:Option.getD (fS (iy a b ((aZ a b i).getD i (ah.mk (aw.mk (0:Int) (0:Int)) (0:Int) (0:Int) (0:Int))).pair i t (fI a b ((aZ a b i).getD i (ah.mk (aw.mk (0:Int) (0:Int)) (0:Int) (0:Int) (0:Int))).pair i (aZ a b i) t) x) (aw.mk (jn a ((aZ a b i).getD i (ah.mk (aw.mk (0:Int) (0:Int)) (0:Int) (0:Int) (0:Int))).pair.a0 (t:Int) (x:Int)) (jn b ((aZ a b i).getD i (ah.mk (aw.mk (0:Int) (0:Int)) (0:Int) (0:Int) (0:Int))).pair.a1 (t:Int) (x:Int)))) false=true):(iy a b ((aZ a b i).getD i (ah.mk (aw.mk (0:Int) (0:Int)) (0:Int) (0:Int) (0:Int))).pair i t (fI a b ((aZ a b i).getD i (ah.mk (aw.mk (0:Int) (0:Int)) (0:Int) (0:Int) (0:Int))).pair i (aZ a b i) t) x).length+1=(iy a b ((aZ a b i).getD i (ah.mk (aw.mk (0:Int) (0:Int)) (0:Int) (0:Int) (0:Int))).pair i t (fI a b ((aZ a b i).getD i (ah.mk (aw.mk (0:Int) (0:Int)) (0:Int) (0:Int) (0:Int))).pair i (aZ a b i) t) (x+1)).length+1:=congrArg (λ l=>List.length l+1) (a0F h hi ht hx w)
def a0E{a b:ae}(h:AB a b){i t x:Nat}(hi:i<(aZ a b i).length)(ht:t<mK a)(hx:x<kK a)(w:Option.getD (fS (iy a b ((aZ a b i).getD i (ah.mk (aw.mk (0:Int) (0:Int)) (0:Int) (0:Int) (0:Int))).pair i t (fI a b ((aZ a b i).getD i (ah.mk (aw.mk (0:Int) (0:Int)) (0:Int) (0:Int) (0:Int))).pair i (aZ a b i) t) x) (aw.mk (jn a ((aZ a b i).getD i (ah.mk (aw.mk (0:Int) (0:Int)) (0:Int) (0:Int) (0:Int))).pair.a0 (t:Int) (x:Int)) (jn b ((aZ a b i).getD i (ah.mk (aw.mk (0:Int) (0:Int)) (0:Int) (0:Int) (0:Int))).pair.a1 (t:Int) (x:Int)))) false=false):(iy a b ((aZ a b i).getD i (ah.mk (aw.mk (0:Int) (0:Int)) (0:Int) (0:Int) (0:Int))).pair i t (fI a b ((aZ a b i).getD i (ah.mk (aw.mk (0:Int) (0:Int)) (0:Int) (0:Int) (0:Int))).pair i (aZ a b i) t) x)++[ah.mk (aw.mk (jn a ((aZ a b i).getD i (ah.mk (aw.mk (0:Int) (0:Int)) (0:Int) (0:Int) (0:Int))).pair.a0 (t:Int) (x:Int)) (jn b ((aZ a b i).getD i (ah.mk (aw.mk (0:Int) (0:Int)) (0:Int) (0:Int) (0:Int))).pair.a1 (t:Int) (x:Int))) (i:Int) (t:Int) (x:Int)]=(iy a b ((aZ a b i).getD i (ah.mk (aw.mk (0:Int) (0:Int)) (0:Int) (0:Int) (0:Int))).pair i t (fI a b ((aZ a b i).getD i (ah.mk (aw.mk (0:Int) (0:Int)) (0:Int) (0:Int) (0:Int))).pair i (aZ a b i) t) (x+1)):=b1I (ls:=(iy a b ((aZ a b i).getD i (ah.mk (aw.mk (0:Int) (0:Int)) (0:Int) (0:Int) (0:Int))).pair i t (fI a b ((aZ a b i).getD i (ah.mk (aw.mk (0:Int) (0:Int)) (0:Int) (0:Int) (0:Int))).pair i (aZ a b i) t) x)) (q:=(rcQ a b ((aZ a b i).getD i (ah.mk (aw.mk (0:Int) (0:Int)) (0:Int) (0:Int) (0:Int))).pair i t x)) λ q=>absurd ((a1R (a5I h hi ht hx)).2 q) (by rw[b9F];exact w)
def b1K{a b:ae}(h:AB a b){i t x:Nat}(hi:i<(aZ a b i).length)(ht:t<mK a)(hx:x<kK a)(w:Option.getD (fS (iy a b ((aZ a b i).getD i (ah.mk (aw.mk (0:Int) (0:Int)) (0:Int) (0:Int) (0:Int))).pair i t (fI a b ((aZ a b i).getD i (ah.mk (aw.mk (0:Int) (0:Int)) (0:Int) (0:Int) (0:Int))).pair i (aZ a b i) t) x) (aw.mk (jn a ((aZ a b i).getD i (ah.mk (aw.mk (0:Int) (0:Int)) (0:Int) (0:Int) (0:Int))).pair.a0 (t:Int) (x:Int)) (jn b ((aZ a b i).getD i (ah.mk (aw.mk (0:Int) (0:Int)) (0:Int) (0:Int) (0:Int))).pair.a1 (t:Int) (x:Int)))) false=false):fj (fS (iy a b ((aZ a b i).getD i (ah.mk (aw.mk (0:Int) (0:Int)) (0:Int) (0:Int) (0:Int))).pair i t (fI a b ((aZ a b i).getD i (ah.mk (aw.mk (0:Int) (0:Int)) (0:Int) (0:Int) (0:Int))).pair i (aZ a b i) t) x)) (aw.mk (jn a ((aZ a b i).getD i (ah.mk (aw.mk (0:Int) (0:Int)) (0:Int) (0:Int) (0:Int))).pair.a0 (t:Int) (x:Int)) (jn b ((aZ a b i).getD i (ah.mk (aw.mk (0:Int) (0:Int)) (0:Int) (0:Int) (0:Int))).pair.a1 (t:Int) (x:Int))) true=fS (iy a b ((aZ a b i).getD i (ah.mk (aw.mk (0:Int) (0:Int)) (0:Int) (0:Int) (0:Int))).pair i t (fI a b ((aZ a b i).getD i (ah.mk (aw.mk (0:Int) (0:Int)) (0:Int) (0:Int) (0:Int))).pair i (aZ a b i) t) (x+1)):=by
 rw[<-a0E h hi ht hx w];exact a5q (iy a b ((aZ a b i).getD i (ah.mk (aw.mk (0:Int) (0:Int)) (0:Int) (0:Int) (0:Int))).pair i t (fI a b ((aZ a b i).getD i (ah.mk (aw.mk (0:Int) (0:Int)) (0:Int) (0:Int) (0:Int))).pair i (aZ a b i) t) x) (rcQ a b ((aZ a b i).getD i (ah.mk (aw.mk (0:Int) (0:Int)) (0:Int) (0:Int) (0:Int))).pair i t x)
def b1M{a b:ae}(h:AB a b){i t x:Nat}(hi:i<(aZ a b i).length)(ht:t<mK a)(hx:x<kK a)(w:Option.getD (fS (iy a b ((aZ a b i).getD i (ah.mk (aw.mk (0:Int) (0:Int)) (0:Int) (0:Int) (0:Int))).pair i t (fI a b ((aZ a b i).getD i (ah.mk (aw.mk (0:Int) (0:Int)) (0:Int) (0:Int) (0:Int))).pair i (aZ a b i) t) x) (aw.mk (jn a ((aZ a b i).getD i (ah.mk (aw.mk (0:Int) (0:Int)) (0:Int) (0:Int) (0:Int))).pair.a0 (t:Int) (x:Int)) (jn b ((aZ a b i).getD i (ah.mk (aw.mk (0:Int) (0:Int)) (0:Int) (0:Int) (0:Int))).pair.a1 (t:Int) (x:Int)))) false=false):gH (fS (iy a b ((aZ a b i).getD i (ah.mk (aw.mk (0:Int) (0:Int)) (0:Int) (0:Int) (0:Int))).pair i t (fI a b ((aZ a b i).getD i (ah.mk (aw.mk (0:Int) (0:Int)) (0:Int) (0:Int) (0:Int))).pair i (aZ a b i) t) x) (aw.mk (jn a ((aZ a b i).getD i (ah.mk (aw.mk (0:Int) (0:Int)) (0:Int) (0:Int) (0:Int))).pair.a0 (t:Int) (x:Int)) (jn b ((aZ a b i).getD i (ah.mk (aw.mk (0:Int) (0:Int)) (0:Int) (0:Int) (0:Int))).pair.a1 (t:Int) (x:Int)))) ((iy a b ((aZ a b i).getD i (ah.mk (aw.mk (0:Int) (0:Int)) (0:Int) (0:Int) (0:Int))).pair i t (fI a b ((aZ a b i).getD i (ah.mk (aw.mk (0:Int) (0:Int)) (0:Int) (0:Int) (0:Int))).pair i (aZ a b i) t) x).length+1)=(iy a b ((aZ a b i).getD i (ah.mk (aw.mk (0:Int) (0:Int)) (0:Int) (0:Int) (0:Int))).pair i t (fI a b ((aZ a b i).getD i (ah.mk (aw.mk (0:Int) (0:Int)) (0:Int) (0:Int) (0:Int))).pair i (aZ a b i) t) (x+1)).length+1:=by
 rw[<-a0E h hi ht hx w,a5p (by rw[b9F];exact w)];simp
def rzT{a b:ae}{p:aw}{i:Nat}{ls:List ah}:ls=fI a b p i ls 0:=rfl
def rzX{a b:ae}{p:aw}{i t:Nat}{ls:List ah}:ls=iy a b p i t ls 0:=rfl
def rzL(a b:ae):[ah.mk (aw.mk (0:Int) (0:Int)) (-1:Int) (0:Int) (0:Int)]=aZ a b 0:=rfl
def a8j(q:aw):fS [ah.mk (aw.mk (0:Int) (0:Int)) (-1:Int) (0:Int) (0:Int)] q=if (q.a0=0/\q.a1=0)\/(q.a0 = -1/\q.a1 = -1) then some true else none:=by
 unfold fS;have:sM [ah.mk (aw.mk (0:Int) (0:Int)) (-1:Int) (0:Int) (0:Int)] q=true↔(q.a0=0/\q.a1=0):=by
  rw[Bg];constructor
  .rintro⟨r,h1,h2⟩;rw[b5Z] at h1;subst h1;subst h2;exact⟨rfl,rfl⟩
  .rintro⟨h1,h2⟩;refine⟨_,b9G _,?_⟩;obtain⟨q0,q1⟩:=q;simp only at h1 h2;rw[h1,h2]
 simp only[this]
def Pp(p q:aw):p=q↔p.a0=q.a0/\p.a1=q.a1:=by
 obtain⟨p0,p1⟩:=p;obtain⟨q0,q1⟩:=q;simp
def a1S(a b:ae):fj (fj (jm aw Bool) (aw.mk (0:Int) (0:Int)) true) (aw.mk (-1:Int) (-1:Int)) true=fS (aZ a b 0):=by
 rw[<-rzL];funext q;rw[a8j];unfold fj jm;simp only[Pp];by_cases h1:q.a0=0/\q.a1=0
 .rw[b5I (show ¬ (q.a0 = -1/\q.a1 = -1) by omega),b5Q h1,b5Q (Or.inl h1)]
 .by_cases h2:q.a0 = -1/\q.a1 = -1
  .rw[b5Q h2,b5Q (Or.inr h2)]
  .rw[b5I h2,b5I h1,b5I (λ w=>w.elim h1 h2)]
def a8k(a b:ae):fj (fj (jm aw Bool) (aw.mk (-1:Int) (-1:Int)) true) (aw.mk (0:Int) (0:Int)) true=fS (aZ a b 0):=by
 rw[<-a1S];funext q;unfold fj;simp only[Pp];by_cases h1:q.a0=0/\q.a1=0
 .rw[b5Q h1,b5I (show ¬ (q.a0 = -1/\q.a1 = -1) by omega),b5Q h1]
 .rw[b5I h1];by_cases h2:q.a0 = -1/\q.a1 = -1
  .rw[b5Q h2,b5Q h2]
  .rw[b5I h2,b5I h2,b5I h1]
def a8l(a b:ae):gH (fj (jm aw Bool) (aw.mk (0:Int) (0:Int)) true (aw.mk (-1:Int) (-1:Int))) (gH (jm aw Bool (aw.mk (0:Int) (0:Int))) 0)=(aZ a b 0).length+1:=by
 unfold fj;rw[if_neg (by rw[Pp];decide)];rfl
def a8m(a b:ae):gH (fj (jm aw Bool) (aw.mk (-1:Int) (-1:Int)) true (aw.mk (0:Int) (0:Int))) (gH (jm aw Bool (aw.mk (-1:Int) (-1:Int))) 0)=(aZ a b 0).length+1:=by
 unfold fj;rw[if_neg (by rw[Pp];decide)];rfl
def rxT{a b:ae}{i t x:Nat}(h:x=kK a):(iy a b ((aZ a b i).getD i (ah.mk (aw.mk (0:Int) (0:Int)) (0:Int) (0:Int) (0:Int))).pair i t (fI a b ((aZ a b i).getD i (ah.mk (aw.mk (0:Int) (0:Int)) (0:Int) (0:Int) (0:Int))).pair i (aZ a b i) t) x)=fI a b ((aZ a b i).getD i (ah.mk (aw.mk (0:Int) (0:Int)) (0:Int) (0:Int) (0:Int))).pair i (aZ a b i) (t+1):=by subst h;rfl
def rtI{a b:ae}{i t:Nat}(hi:i<(aZ a b i).length)(h:t=mK a):(fI a b ((aZ a b i).getD i (ah.mk (aw.mk (0:Int) (0:Int)) (0:Int) (0:Int) (0:Int))).pair i (aZ a b i) t)=aZ a b (i+1):=by subst h;rw[aZ,b5Q hi]
def HD:bc:=⟨HN,[.v (.st .automaton), .v (.st .automaton)],λ (a:ae) (b:ae)=>⟨(some (AB a b),[⟨(.slice (.st .reached)),dT a b⟩])⟩⟩
def S5(a:ae)(b:ae):Nat->aI:=(fu 100003 (.u (AB a b) [0,1,4,12,13,14] [(5, .row 14),(6, .mp 15)] [] [(14, .row nr (.st .reached) ((aZ a b 0):List ah)),(15, .map ⟨(.st .arr2), .bool,(fS (aZ a b 0):aw->Option Bool),((aZ a b 0).length+1)⟩)] (fu 0 (.mk (Nat) (λ i=>i<=(aZ a b i).length) (λ i=>3722 - i) [] [] (λ i=>[(7, .aO ⟨(.int .i64),((i:Int):Int)⟩),(5, .row 14),(6, .mp 15)]) [] (λ i=>[(14, .row nr (.st .reached) ((aZ a b i):List ah)),(15, .map ⟨(.st .arr2), .bool,(fS (aZ a b i):aw->Option Bool),((aZ a b i).length+1)⟩)]) [] [] (λ i=>(fu 2 (.mk (Nat) (λ t=>t<=mK a/\i<(aZ a b i).length) (λ t=>mK a - t) [] [19,20,21,22,25,26,27,28,29,30,31] (λ t=>[(33, .aO ⟨(.int .i64),((t:Int):Int)⟩),(5, .row 14),(6, .mp 15)]) [8] (λ t=>[(14, .row nr (.st .reached) ((fI a b ((aZ a b i).getD i (ah.mk (aw.mk (0:Int) (0:Int)) (0:Int) (0:Int) (0:Int))).pair i (aZ a b i) t):List ah)),(15, .map ⟨(.st .arr2), .bool,(fS (fI a b ((aZ a b i).getD i (ah.mk (aw.mk (0:Int) (0:Int)) (0:Int) (0:Int) (0:Int))).pair i (aZ a b i) t):aw->Option Bool),((fI a b ((aZ a b i).getD i (ah.mk (aw.mk (0:Int) (0:Int)) (0:Int) (0:Int) (0:Int))).pair i (aZ a b i) t).length+1)⟩)]) [] [] (λ t=>(fu 4 (.a (Nat) (λ x=>x<=kK a/\t<mK a) (λ x=>kK a - x) [34,35,36,37] (λ x=>[(39, .aO ⟨(.int .i64),((x:Int):Int)⟩),(5, .row 14),(6, .mp 15)]) [8] (λ x=>[(14, .row nr (.st .reached) ((iy a b ((aZ a b i).getD i (ah.mk (aw.mk (0:Int) (0:Int)) (0:Int) (0:Int) (0:Int))).pair i t (fI a b ((aZ a b i).getD i (ah.mk (aw.mk (0:Int) (0:Int)) (0:Int) (0:Int) (0:Int))).pair i (aZ a b i) t) x):List ah)),(15, .map ⟨(.st .arr2), .bool,(fS (iy a b ((aZ a b i).getD i (ah.mk (aw.mk (0:Int) (0:Int)) (0:Int) (0:Int) (0:Int))).pair i t (fI a b ((aZ a b i).getD i (ah.mk (aw.mk (0:Int) (0:Int)) (0:Int) (0:Int) (0:Int))).pair i (aZ a b i) t) x):aw->Option Bool),((iy a b ((aZ a b i).getD i (ah.mk (aw.mk (0:Int) (0:Int)) (0:Int) (0:Int) (0:Int))).pair i t (fI a b ((aZ a b i).getD i (ah.mk (aw.mk (0:Int) (0:Int)) (0:Int) (0:Int) (0:Int))).pair i (aZ a b i) t) x).length+1)⟩)])) cf))) cf))) cf)) cf)
abbrev Db(a:ae)(b:ae):Prop:=(let v0:=aw.mk (0:Int) (0:Int);let v1:=jm aw Bool;let v2:=aw.mk (-1:Int) (-1:Int);(0<1000000000/\((gH ((v1 v0)) 0)<1000000000/\(∃ u1:Unit,(AB a b/\((a=a/\(b=b/\(True/\(True/\True))))/\(([(ah.mk v0 (-1:Int) (0:Int) (0:Int))])=(aZ a b 0)/\(((fj (fj v1 v0 true) v2 true)=(fS (aZ a b 0))/\(gH (((fj v1 v0 true) v2)) (gH ((v1 v0)) 0))=((aZ a b 0).length+1))/\True))))))))
abbrev OQ(a:ae)(b:ae):Prop:=(let v0:=aw.mk (-1:Int) (-1:Int);let v1:=aw.mk (0:Int) (0:Int);let v2:=jm aw Bool;((0<1000000000/\((gH ((v2 v0)) 0)<1000000000/\(∃ u1:Unit,(AB a b/\((a=a/\(b=b/\(True/\(True/\True))))/\(([(ah.mk v1 (-1:Int) (0:Int) (0:Int))])=(aZ a b 0)/\(((fj (fj v2 v0 true) v1 true)=(fS (aZ a b 0))/\(gH (((fj v2 v0 true) v1)) (gH ((v2 v0)) 0))=((aZ a b 0).length+1))/\True)))))))/\True))
abbrev OS(a:ae)(b:ae)(i2:Nat):Prop:=(let v0:=(aZ a b i2).getD i2 (ah.mk (aw.mk (0:Int) (0:Int)) (0:Int) (0:Int) (0:Int));((v0.pair.a0=v0.pair.a0/\(v0.pair.a1=v0.pair.a1/\True))/\True))
abbrev Dc(a:ae)(b:ae)(i2:Nat)(t3:Nat)(x4:Nat)(x5:Nat):Prop:=(a=a/\(b=b/\(True/\(True/\((i2:Int)=(i2:Int)/\(True/\((t3:Int)=(t3:Int)/\((bE a.sig)=(bE a.sig)/\((t3:Int)=(t3:Int)/\(a.sig.aB=a.sig.aB/\(((x4:Int)+(1:Int))=(x5:Int)/\True)))))))))))
def Mo:bc.Good HD:=by
 refine⟨aG Ej,?_⟩;intro (a:ae) (b:ae) (hp:AB a b);refine bo [ki,E9] [] [] [2,3] ⟨jO,Kt,af⟩ Ej L3 (S5 a b) (let v2:=bE a.sig;let v3:=(0:Int);let v0:=ah.mk (aw.mk v3 v3) v3 v3 v3;let v5:=OQ a b;let v1:=(Db a b)/\v5;let v4:=(Db a b)/\(v1/\True);let v6:=(1:Int);((((v4/\((v1/\v5)/\True))/\((v4/\(v1/\True))/\(((v1/\v5)/\(v1/\True))/\True)))/\(∀ u1:Unit,(AB a b->((∃ i2:Nat,(i2<=(aZ a b i2).length/\((a=a/\(b=b/\(True/\(True/\(v3=(i2:Int)/\True)))))/\((aZ a b 0)=(aZ a b i2)/\(((fS (aZ a b 0))=(fS (aZ a b i2))/\((aZ a b 0).length+1)=((aZ a b i2).length+1))/\True)))))/\(∀ i2:Nat,let v8:=aZ a b i2;let v7:=v8.getD i2 v0;let v9:=(i2:Int);let va:=OS a b i2;let vb:=decide (v9<((v8.length:Int)));(i2<=v8.length->(ag ((v8.length:Int))->((vb=true->(aJ v9 v8.length/\((0<=a.sig.aY/\a.sig.aY<=3)/\(ag v2->((∃ t3:Nat,let vc:=fI a b v7.pair i2 v8 t3;((t3<=mK a/\i2<v8.length)/\((a=a/\(b=b/\(True/\(True/\(v9=v9/\(True/\(v2=v2/\(v3=(t3:Int)/\True))))))))/\(v8=vc/\(((fS v8)=(fS vc)/\(v8.length+1)=(vc.length+1))/\va)))))/\(∀ t3:Nat,let vc:=fI a b v7.pair i2 v8 t3;let vd:=(t3:Int);((t3<=mK a/\i2<v8.length)->(((decide (vd<v2))=true->(ag a.sig.aB->((∃ x4:Nat,let ve:=iy a b v7.pair i2 t3 vc x4;((x4<=kK a/\t3<mK a)/\((a=a/\(b=b/\(True/\(True/\(v9=v9/\(True/\(vd=vd/\(v2=v2/\(vd=vd/\(a.sig.aB=a.sig.aB/\(v3=(x4:Int)/\True)))))))))))/\(vc=ve/\(((fS vc)=(fS ve)/\(vc.length+1)=(ve.length+1))/\va)))))/\(∀ x4:Nat,let vf:=iy a b v7.pair i2 t3 vc x4;let vg:=(x4:Int);let ve:=aw.mk (jn a v7.pair.a0 vd vg) (jn b v7.pair.a1 vd vg);let vh:=vf.length+1;let vi := !(Option.getD (((fS vf) ve)) false);((x4<=kK a/\t3<mK a)->(((decide (vg<a.sig.aB))=true->(PZ a v7.pair.a0 vd vg/\(PZ b v7.pair.a1 vd vg/\(ag v7.pair.a0->(ag (jn a v7.pair.a0 vd vg)->(ag v7.pair.a1->(ag (jn b v7.pair.a1 vd vg)->((vi=true->(vh<1000000000/\(bn (vf.length+([(ah.mk ve v9 vd vg)]).length) 40/\(ag (vg+v6)/\(∃ x5:Nat,let vj:=iy a b v7.pair i2 t3 vc x5;((x5<=kK a/\t3<mK a)/\(kK a - x5<kK a - x4/\((Dc a b i2 t3 x4 x5)/\((vf++([(ah.mk ve v9 vd vg)]))=vj/\(((fj (fS vf) ve true)=(fS vj)/\(gH (((fS vf) ve)) vh)=(vj.length+1))/\va))))))))))/\(vi=false->(ag (vg+v6)/\(∃ x5:Nat,let vj:=iy a b v7.pair i2 t3 vc x5;((x5<=kK a/\t3<mK a)/\(kK a - x5<kK a - x4/\((Dc a b i2 t3 x4 x5)/\(vf=vj/\(((fS vf)=(fS vj)/\vh=(vj.length+1))/\va))))))))))))))))/\((decide (vg<a.sig.aB))=false->(ag (vd+v6)/\(∃ t5:Nat,let vj:=fI a b v7.pair i2 v8 t5;((t5<=mK a/\i2<v8.length)/\(mK a - t5<mK a - t3/\((a=a/\(b=b/\(True/\(True/\(v9=v9/\(True/\(v2=v2/\((vd+v6)=(t5:Int)/\True))))))))/\(vf=vj/\(((fS vf)=(fS vj)/\vh=(vj.length+1))/\va))))))))))))))/\((decide (vd<v2))=false->(ag (v9+v6)/\(∃ i4:Nat,(i4<=(aZ a b i4).length/\(3722 - i4<3722 - i2/\((a=a/\(b=b/\(True/\(True/\((v9+v6)=(i4:Int)/\True)))))/\(vc=(aZ a b i4)/\(((fS vc)=(fS (aZ a b i4))/\(vc.length+1)=((aZ a b i4).length+1))/\True))))))))))))))))/\(vb=false->v8=(dT a b)))))))))))) ?_;have ha:=hp.ka;have hb:=hp.kb;have n1:(bE a.sig)=(mK a:Int):=ha.lens.2.2.2.1.symm;have n2:a.sig.aB=(kK a:Int):=ha.lens.2.2.2.2.symm;have n4:=(dt a.sig).1 ha.s;have n5:=ha.lens;refine⟨⟨⟨⟨⟨?_,?_,(),?_,⟨rfl,rfl,af,af,af⟩,?_,⟨?_,?_⟩,af⟩,⟨⟨?_,?_,(),?_,⟨rfl,rfl,af,af,af⟩,?_,⟨?_,?_⟩,af⟩,⟨?_,?_,(),?_,⟨rfl,rfl,af,af,af⟩,?_,⟨?_,?_⟩,af⟩,af⟩,af⟩,⟨⟨⟨?_,?_,(),?_,⟨rfl,rfl,af,af,af⟩,?_,⟨?_,?_⟩,af⟩,⟨?_,?_,(),?_,⟨rfl,rfl,af,af,af⟩,?_,⟨?_,?_⟩,af⟩,af⟩,⟨?_,?_,(),?_,⟨rfl,rfl,af,af,af⟩,?_,⟨?_,?_⟩,af⟩,af⟩,af⟩,⟨⟨⟨?_,?_,(),?_,⟨rfl,rfl,af,af,af⟩,?_,⟨?_,?_⟩,af⟩,⟨⟨?_,?_,(),?_,⟨rfl,rfl,af,af,af⟩,?_,⟨?_,?_⟩,af⟩,⟨?_,?_,(),?_,⟨rfl,rfl,af,af,af⟩,?_,⟨?_,?_⟩,af⟩,af⟩,af⟩,⟨⟨?_,?_,(),?_,⟨rfl,rfl,af,af,af⟩,?_,⟨?_,?_⟩,af⟩,⟨?_,?_,(),?_,⟨rfl,rfl,af,af,af⟩,?_,⟨?_,?_⟩,af⟩,af⟩,af⟩,⟨⟨⟨⟨?_,?_,(),?_,⟨rfl,rfl,af,af,af⟩,?_,⟨?_,?_⟩,af⟩,⟨?_,?_,(),?_,⟨rfl,rfl,af,af,af⟩,?_,⟨?_,?_⟩,af⟩,af⟩,⟨?_,?_,(),?_,⟨rfl,rfl,af,af,af⟩,?_,⟨?_,?_⟩,af⟩,af⟩,⟨⟨?_,?_,(),?_,⟨rfl,rfl,af,af,af⟩,?_,⟨?_,?_⟩,af⟩,⟨?_,?_,(),?_,⟨rfl,rfl,af,af,af⟩,?_,⟨?_,?_⟩,af⟩,af⟩,af⟩,af⟩,λ u1 a0=>⟨⟨0,?_,⟨rfl,rfl,af,af,?_,af⟩,?_,⟨?_,?_⟩,af⟩,λ i2 a1 _=>⟨λ _=>⟨?_,?_,λ _=>⟨⟨0,?_,⟨rfl,rfl,af,af,rfl,af,rfl,?_,af⟩,?_,⟨?_,?_⟩,⟨rfl,rfl,af⟩,af⟩,λ t3 _=>⟨λ _ _=>⟨⟨0,?_,⟨rfl,rfl,af,af,rfl,af,rfl,rfl,rfl,rfl,?_,af⟩,?_,⟨?_,?_⟩,⟨rfl,rfl,af⟩,af⟩,λ x4 _=>⟨λ _=>⟨?_,?_,λ _ _ _ _=>⟨λ _=>⟨?_,?_,?_,x4+1,?_,?_,⟨rfl,rfl,af,af,rfl,af,rfl,rfl,rfl,rfl,?_,af⟩,?_,⟨?_,?_⟩,⟨rfl,rfl,af⟩,af⟩,λ _=>⟨?_,x4+1,?_,?_,⟨rfl,rfl,af,af,rfl,af,rfl,rfl,rfl,rfl,?_,af⟩,?_,⟨?_,?_⟩,⟨rfl,rfl,af⟩,af⟩⟩⟩,λ _=>⟨?_,t3+1,?_,?_,⟨rfl,rfl,af,af,rfl,af,rfl,?_,af⟩,?_,⟨?_,?_⟩,⟨rfl,rfl,af⟩,af⟩⟩⟩,λ _=>⟨?_,i2+1,?_,?_,⟨rfl,rfl,af,af,?_,af⟩,?_,⟨?_,?_⟩,af⟩⟩⟩⟩,λ _=>?_⟩⟩⟩;all_goals try and_intros
 all_goals (try simp only[b6j,b6A,b5K,b5L,aJ,ag,bn,cY,b5R,b7R,b6Z,b8J,b5U,b5T,b5O,b5V,b5Y,b5S,b6d,b7s] at *);first|done|with_reducible assumption|omega|with_reducible rfl|exact trivial|(have q0:=rnI hp i2;obtain⟨_,_⟩:=q0;omega)|(have q0:=rnI hp i2;obtain⟨_,_⟩:=q0;have q0:=rnT hp (i:=i2) (t:=t3) (by omega) (by omega);obtain⟨_,_⟩:=q0;omega)|(have q0:=rnI hp i2;obtain⟨_,_⟩:=q0;have q0:=rnT hp (i:=i2) (t:=t3) (by omega) (by omega);obtain⟨_,_⟩:=q0;have q0:=rnX hp (i:=i2) (t:=t3) (x:=x4) (by omega) (by omega) (by omega);obtain⟨_,_⟩:=q0;omega)|exact b4q hp (by omega) (by omega) (by omega)|exact b4r hp (by omega) (by omega) (by omega)|exact a0F hp (by omega) (by omega) (by omega) (by with_reducible assumption)|exact b1L hp (by omega) (by omega) (by omega) (by with_reducible assumption)|exact b1N hp (by omega) (by omega) (by omega) (by with_reducible assumption)|exact a0E hp (by omega) (by omega) (by omega) (by with_reducible assumption)|exact b1K hp (by omega) (by omega) (by omega) (by with_reducible assumption)|exact b1M hp (by omega) (by omega) (by omega) (by with_reducible assumption)|exact a1S a b|exact a8k a b|exact a8l a b|exact a8m a b|exact rzL a b|exact rzT|exact congrArg fS rzT|exact congrArg (λ l=>List.length l+1) rzT|exact rzX|exact congrArg fS rzX|exact congrArg (λ l=>List.length l+1) rzX|(simp[gH,jm];done)|exact rxT (by omega)|exact congrArg fS (rxT (by omega))|exact congrArg (λ l=>List.length l+1) (rxT (by omega))|exact rtI (by omega) (by omega)|exact congrArg fS (rtI (by omega) (by omega))|exact congrArg (λ l=>List.length l+1) (rtI (by omega) (by omega))|exact a8v hp (by omega)|(have q0:=rnI hp i2;obtain⟨_,_⟩:=q0;exact a5z (i:=i2) (by omega) (by omega))
def p0(ls:List ah):List Int:=ls.map λ r=>r.pair.a0
def p1(ls:List ah):List Int:=ls.map λ r=>r.pair.a1
def QA(a b:ae)(r:ah)(t:Nat):Prop:=rY a r.pair.a0 (t:Int)=rY b r.pair.a1 (t:Int)
def Zb(a b:ae)(r:ah)(t:Nat):Prop:=rY a r.pair.a0 (t:Int)=true->rY b r.pair.a1 (t:Int)=true
noncomputable def uu(a b:ae):Bool := @decide (∀ i,i<(dT a b).length->∀ t,t<mK a->QA a b ((dT a b).getD i (ah.mk (aw.mk (0:Int) (0:Int)) (0:Int) (0:Int) (0:Int))) t) (Classical.propDecidable _)
noncomputable def WT(a b:ae):Bool := @decide (∀ i,i<(dT a b).length->∀ t,t<mK a->Zb a b ((dT a b).getD i (ah.mk (aw.mk (0:Int) (0:Int)) (0:Int) (0:Int) (0:Int))) t) (Classical.propDecidable _)
def EH{a b:ae}:uu a b=true↔∀ i,i<(dT a b).length->∀ t,t<mK a->QA a b ((dT a b).getD i (ah.mk (aw.mk (0:Int) (0:Int)) (0:Int) (0:Int) (0:Int))) t := @c0e _ (Classical.propDecidable _)
def WU{a b:ae}:WT a b=true↔∀ i,i<(dT a b).length->∀ t,t<mK a->Zb a b ((dT a b).getD i (ah.mk (aw.mk (0:Int) (0:Int)) (0:Int) (0:Int) (0:Int))) t := @c0e _ (Classical.propDecidable _)
def a2s(ls:List ah)(i:Nat):(ls.map Ee).getD i (ah.mk (aw.mk (0:Int) (0:Int)) (0:Int) (0:Int) (0:Int))=Ee (ls.getD i (ah.mk (aw.mk (0:Int) (0:Int)) (0:Int) (0:Int) (0:Int))):=by
 simp only[b5P,b7m];cases ls[i]?<;>rfl
def a6v{a b:ae}(h:AB a b):(WT a b&&WT b a)=uu a b:=by
 have e:mK b=mK a:=by simp only[mK,h.ks]
 rw[b8H,b5M,WU,WU,EH,b4v h,b6G];constructor
 .rintro⟨h1,h2⟩ i hi t ht;have k1:=h1 i hi t ht;have k2:=h2 i hi t (by omega);rw[a2s] at k2;unfold QA;unfold Zb at k1 k2;simp only[Ee] at k2;exact Bool.eq_iff_iff.2 ⟨k1,k2⟩
 .intro h1;refine⟨λ i hi t ht=>?_,λ i hi t ht=>?_⟩
  .have:=h1 i hi t ht;unfold QA at this;unfold Zb;rw[this];exact id
  .have:=h1 i hi t (by omega);rw[a2s];unfold QA at this;unfold Zb;simp only[Ee];rw[this];exact id
structure rK(a b:ae)(i t:Nat):Prop where
 hi:i<=(dT a b).length
 ht:t<=mK a
 p:∀ j,j<i->∀ s,s<mK a->QA a b ((dT a b).getD j (ah.mk (aw.mk (0:Int) (0:Int)) (0:Int) (0:Int) (0:Int))) s
 q:∀ s,s<t->QA a b ((dT a b).getD i (ah.mk (aw.mk (0:Int) (0:Int)) (0:Int) (0:Int) (0:Int))) s
def rK.first(a b:ae):rK a b 0 0:=⟨b6L _,b6L _,λ j hj=>by omega,λ s hs=>by omega⟩
def rK.step{a b:ae}{i t:Nat}(h:rK a b i t)(ht:t<mK a)(e:QA a b ((dT a b).getD i (ah.mk (aw.mk (0:Int) (0:Int)) (0:Int) (0:Int) (0:Int))) t):rK a b i (t+1):=⟨h.hi,ht,h.p,λ s hs=>by
 rcases b6E s t with r|r
 .exact h.q s r
 .rw[show s=t by omega];exact e⟩
def rK.row{a b:ae}{i t:Nat}(h:rK a b i t)(hi:i<(dT a b).length)(ht:¬ t<mK a):rK a b (i+1) 0:=⟨hi,b6L _,λ j hj s hs=>by
 rcases b6E j i with r|r
 .exact h.p j r s hs
 .rw[show j=i by omega];exact h.q s (by omega),λ s hs=>by omega⟩
def rK.done{a b:ae}{i t:Nat}(h:rK a b i t)(hi:¬ i<(dT a b).length):uu a b=true:=EH.2 λ j hj s hs=>h.p j (by omega) s hs
structure Eg(a b:ae)(p:Nat×Nat):Prop where
 d:rK a b p.1 p.2
 i:p.1<(dT a b).length
 t:p.2<mK a
 n:¬ QA a b ((dT a b).getD p.1 (ah.mk (aw.mk (0:Int) (0:Int)) (0:Int) (0:Int) (0:Int))) p.2
def Eg.uniq{a b:ae}{p q:Nat×Nat}(h:Eg a b p)(k:Eg a b q):p=q:=by
 obtain⟨h1,h2,h3,h4⟩:=h;obtain⟨k1,k2,k3,k4⟩:=k;obtain⟨i,t⟩:=p;obtain⟨j,s⟩:=q;simp only at h1 h2 h3 h4 k1 k2 k3 k4;rcases b9n i j with r|r|r
 .exact absurd (k1.p i r t h3) h4
 .subst r;rcases b9n t s with r|r|r
  .exact absurd (k1.q t r) h4
  .rw[r]
  .exact absurd (h1.q s r) k4
 .exact absurd (h1.p j r s k3) k4
noncomputable def Vl(a b:ae):Nat×Nat:=by classical exact if h:∃ p,Eg a b p then h.choose else (0,0)
def Vm{a b:ae}{p:Nat×Nat}(h:Eg a b p):Vl a b=p:=by
 unfold Vl;rw[dif_pos ⟨p,h⟩];exact (Exists.choose_spec (⟨p,h⟩:∃ p,Eg a b p)).uniq h
def Pu{a b:ae}{p:Nat×Nat}(h:Eg a b p):uu a b=false:=by
 rw[Bool.eq_false_iff];intro q;exact h.n (EH.1 q _ h.i _ h.t)
def LZ(ls:List ah):Nat->Nat->List Int
 | 0,_=>[]
 | n+1,k=>if 0<=(ls.getD k (ah.mk (aw.mk (0:Int) (0:Int)) (0:Int) (0:Int) (0:Int))).oM then (ls.getD k (ah.mk (aw.mk (0:Int) (0:Int)) (0:Int) (0:Int) (0:Int))).atom::LZ ls n (ls.getD k (ah.mk (aw.mk (0:Int) (0:Int)) (0:Int) (0:Int) (0:Int))).oM.toNat else []
def L0(ls:List ah):Nat->Nat->List Int
 | 0,_=>[]
 | n+1,k=>if 0<=(ls.getD k (ah.mk (aw.mk (0:Int) (0:Int)) (0:Int) (0:Int) (0:Int))).oM then (ls.getD k (ah.mk (aw.mk (0:Int) (0:Int)) (0:Int) (0:Int) (0:Int))).act::L0 ls n (ls.getD k (ah.mk (aw.mk (0:Int) (0:Int)) (0:Int) (0:Int) (0:Int))).oM.toNat else []
structure FrO(ls:List ah):Prop where
 n:ls.length<=3721
 f:∀ j,j<ls.length -> -1<=(ls.getD j (ah.mk (aw.mk (0:Int) (0:Int)) (0:Int) (0:Int) (0:Int))).oM/\(ls.getD j (ah.mk (aw.mk (0:Int) (0:Int)) (0:Int) (0:Int) (0:Int))).oM<(j:Int)
def VF{a b:ae}(h:AB a b):FrO (dT a b):=⟨(Lj h).mS h,(Lj h).oM⟩
def Zx{ls:List ah}(h:FrO ls):∀ n k,k<ls.length->k+1<=n->LZ ls n k=LZ ls (k+1) k
 | 0,k,_,h2=>by omega
 | n+1,k,h1,h2=>by
  have q:=h.f k h1;rw[LZ,LZ];split
  .rename_i w;rw[Zx h n _ (by omega) (by omega),Zx h k _ (by omega) (by omega)]
  .rfl
def Zy{ls:List ah}(h:FrO ls):∀ n k,k<ls.length->k+1<=n->L0 ls n k=L0 ls (k+1) k
 | 0,k,_,h2=>by omega
 | n+1,k,h1,h2=>by
  have q:=h.f k h1;rw[L0,L0];split
  .rename_i w;rw[Zy h n _ (by omega) (by omega),Zy h k _ (by omega) (by omega)]
  .rfl
structure Ov where
 k:Nat
 xs:List Int
 ys:List Int
structure DI(ls:List ah)(i:Nat)(t:Int)(v:Ov):Prop where
 hi:i<ls.length
 hk:v.k<=i
 n:ls.length<=3721
 nx:v.xs.length+v.k<=i+1
 ny:v.ys.length+v.k<=i
 ex:v.xs++LZ ls (v.k+1) v.k=t::LZ ls (i+1) i
 ey:v.ys++L0 ls (v.k+1) v.k=L0 ls (i+1) i
def DI.first{ls:List ah}(h:FrO ls){i:Nat}(hi:i<ls.length)(t:Int):DI ls i t (Ov.mk i [t] []):=⟨hi,b6k _,h.n,by simp only[b5S,b6d];omega,by simp only[b6d];omega,rfl,rfl⟩
def DI.a0o{ls:List ah}(h:FrO ls){i:Nat}{t:Int}{v:Ov}(q:DI ls i t v)(w:0<=(ls.getD v.k (ah.mk (aw.mk (0:Int) (0:Int)) (0:Int) (0:Int) (0:Int))).oM) :
  DI ls i t (Ov.mk (ls.getD v.k (ah.mk (aw.mk (0:Int) (0:Int)) (0:Int) (0:Int) (0:Int))).oM.toNat (v.xs++[(ls.getD v.k (ah.mk (aw.mk (0:Int) (0:Int)) (0:Int) (0:Int) (0:Int))).atom]) (v.ys++[(ls.getD v.k (ah.mk (aw.mk (0:Int) (0:Int)) (0:Int) (0:Int) (0:Int))).act])):=by
 have e1:=q.hi;have e2:=q.hk;have e3:=q.nx;have e4:=q.ny;have f:=h.f v.k (by omega);have ex:=q.ex;have ey:=q.ey;rw[LZ,b5Q w,Zx h _ _ (by omega) (by omega)] at ex;rw[L0,b5Q w,Zy h _ _ (by omega) (by omega)] at ey;exact⟨q.hi,by simp only;omega,h.n,by simp only[b5Y,b5S,b6d];omega,by simp only[b5Y,b5S,b6d];omega,by rw[<-ex];simp,by rw[<-ey];simp⟩
def DI.b0Q{ls:List ah}{i:Nat}{t:Int}{v:Ov}(q:DI ls i t v)(w:¬ 0<=(ls.getD v.k (ah.mk (aw.mk (0:Int) (0:Int)) (0:Int) (0:Int) (0:Int))).oM):v.xs=t::LZ ls (i+1) i:=by
 have:=q.ex;rw[LZ,b5I w,b6K] at this;exact this
def DI.b0R{ls:List ah}{i:Nat}{t:Int}{v:Ov}(q:DI ls i t v)(w:¬ 0<=(ls.getD v.k (ah.mk (aw.mk (0:Int) (0:Int)) (0:Int) (0:Int) (0:Int))).oM):v.ys=L0 ls (i+1) i:=by
 have:=q.ey;rw[L0,b5I w,b6K] at this;exact this
noncomputable def Vn(a b:ae):List Int:=bif uu a b then [] else (((Vl a b).2:Int)::LZ (dT a b) ((Vl a b).1+1) (Vl a b).1).reverse
noncomputable def Vo(a b:ae):List Int:=bif uu a b then [] else (L0 (dT a b) ((Vl a b).1+1) (Vl a b).1).reverse
noncomputable def ZH(a b:ae):Bool:=bif uu a b then false else rY a ((dT a b).getD (Vl a b).1 (ah.mk (aw.mk (0:Int) (0:Int)) (0:Int) (0:Int) (0:Int))).pair.a0 ((Vl a b).2:Int)
noncomputable def SI(a b:ae):Bool := !uu a b
def b3b{a b:ae}{p:Nat×Nat}(h:Eg a b p){xs:List Int}(e:xs=(p.2:Int)::LZ (dT a b) (p.1+1) p.1):xs.reverse=Vn a b:=by rw[Vn,Pu h,Vm h,e];rfl
def b3c{a b:ae}{p:Nat×Nat}(h:Eg a b p){xs:List Int}(e:xs=L0 (dT a b) (p.1+1) p.1):xs.reverse=Vo a b:=by rw[Vo,Pu h,Vm h,e];rfl
def b2Z{a b:ae}{p:Nat×Nat}(h:Eg a b p):rY a ((dT a b).getD p.1 (ah.mk (aw.mk (0:Int) (0:Int)) (0:Int) (0:Int) (0:Int))).pair.a0 (p.2:Int)=ZH a b:=by rw[ZH,Pu h,Vm h];rfl
def b2Y{a b:ae}{p:Nat×Nat}(h:Eg a b p):true=SI a b:=by rw[SI,Pu h];rfl
def b3j{a b:ae}(h:uu a b=true):[]=Vn a b:=by rw[Vn,h];rfl
def b3k{a b:ae}(h:uu a b=true):[]=Vo a b:=by rw[Vo,h];rfl
def b3h{a b:ae}(h:uu a b=true):false=ZH a b:=by rw[ZH,h];rfl
def b3g{a b:ae}(h:uu a b=true):false=SI a b:=by rw[SI,h];rfl
def qZ(xs:List Int)(k:Nat):List Int:=(List.range xs.length).map λ j=>if j<k\/xs.length<=j+k then xs.getD (xs.length - 1 - j) 0 else xs.getD j 0
def sP(xs:List Int)(k:Nat):(qZ xs k).length=xs.length:=by simp[qZ]
def Bj(xs:List Int)(k:Nat){j:Nat}(h:j<xs.length):(qZ xs k).getD j 0=if j<k\/xs.length<=j+k then xs.getD (xs.length - 1 - j) 0 else xs.getD j 0:=by
 simp[qZ,b5P,h]
def b1O(xs:List Int):xs=qZ xs 0:=by
 apply List.ext_getElem (sP xs 0).symm;intro j h1 h2;have:=Bj xs 0 h1;rw[if_neg (by omega)] at this;simpa [List.getD_eq_getElem?_getD,h1,h2] using this.symm
def YM(xs:List Int){k:Nat}(h:xs.length<=2 * k+1):qZ xs k=xs.reverse:=by
 apply b9E (by rw[sP,c0a]);intro j h1 h2;rw[sP] at h1;have:=Bj xs k h1;have e:(qZ xs k).getD j 0=(qZ xs k)[j]'(by rw[sP];exact h1):=by simp[b5P,sP,h1]
 rw[<-e,this,List.getElem_reverse];split
 .have h4:xs.length - 1 - j<xs.length:=by omega
  simp[b5P,h4]
 .have:xs.length - 1 - j=j:=by omega
  simp[b5P,h1,this]
def b1P(xs:List Int){k:Nat}(h:2 * k+1<xs.length):((qZ xs k).set k ((qZ xs k).getD (xs.length - 1 - k) 0)).set (xs.length - 1 - k) ((qZ xs k).getD k 0)=qZ xs (k+1):=by
 apply b9E (by simp[sP]);intro j h1 h2;rw[sP] at h2;have e:∀ m (hm:j<(qZ xs m).length),(qZ xs m)[j]'hm=(qZ xs m).getD j 0:=λ m hm=>by simp[b5P,hm]
 rw[e,Bj xs (k+1) h2,b9t,b9t];by_cases c1:xs.length - 1 - k=j
 .rw[b5Q c1,b5Q (by omega),Bj xs k (show k<xs.length by omega),b5I (show ¬ (k<k\/xs.length<=k+k) by omega)];congr 1;omega
 .rw[b5I c1];by_cases c2:k=j
  .rw[b5Q c2,b5Q (by omega),Bj xs k (show xs.length - 1 - k<xs.length by omega),b5I (show ¬ (xs.length - 1 - k<k\/xs.length<=xs.length - 1 - k+k) by omega),c2]
  .rw[b5I c2,e,Bj xs k h2];by_cases c3:j<k\/xs.length<=j+k
   .rw[b5Q c3,b5Q (by omega)]
   .rw[b5I c3,b5I (by omega)]
def b1Q{xs:List Int}{k:Nat}(h:(k:Int)<(xs.length:Int) - 1 - (k:Int)):((qZ xs k).set k ((qZ xs k).getD ((xs.length:Int) - 1 - (k:Int)).toNat 0)).set ((xs.length:Int) - 1 - (k:Int)).toNat ((qZ xs k).getD k 0)=qZ xs (k+1):=by
 have e:((xs.length:Int) - 1 - (k:Int)).toNat=xs.length - 1 - k:=by omega
 rw[e];exact b1P xs (by omega)
def iU(n:Nat):LS:=⟨pw,[],(.int .i64),λ  (xs:List Int)=>⟨(some (0<n/\xs.length<=1000000),xs.reverse)⟩⟩
def wQ:LS:=⟨pw,[],(.int .i64),λ  (xs:List Int)=>⟨(some (xs.length<=1000000),xs.reverse)⟩⟩
def Ja (xs:List Int):Nat->aI:=(fu 0 (.a (Nat) (λ k=>k<=xs.length) (λ k=>xs.length - k) [4,5,6] (λ k=>[(2, .aO ⟨(.int .i64),((k:Int):Int)⟩),(3, .aO ⟨(.int .i64),((xs.length:Int) - 1 - (k:Int):Int)⟩),(0, .aC 50)]) [] (λ k=>[(50, .aC (.int .i64) (qZ xs k:List Int))])) cf)
abbrev iu(xs:List Int)(k1:Nat):Prop:=(let v2:=(k1:Int);let v0:=(xs.length:Int) - 1 - v2;let v1:=(qZ xs k1).set k1 ((qZ xs k1).getD (Int.toNat v0) (0:Int));let v3:=(50:Nat);(v3=50/\(v2=v2/\(v3=50/\(v0=v0/\(v3=50/\(v2=v2/\(v3=50/\(v0=v0/\(aJ v2 (qZ xs k1).length/\(v3=50/\(v0=v0/\(v3=50/\(v0=v0/\(aJ v0 v1.length/\(ag (v2+(1:Int))/\(ag (v0 - (1:Int))/\(∃ k2:Nat,(k2<=xs.length/\(xs.length - k2<xs.length - k1/\((True/\((v2+(1:Int))=(k2:Int)/\((v0 - (1:Int))=((xs.length:Int) - 1 - (k2:Int))/\True)))/\((v1.set (Int.toNat v0) ((qZ xs k1).getD k1 (0:Int)))=(qZ xs k2)/\True))))))))))))))))))))))
abbrev sj(xs:List Int)(k1:Nat):Prop:=(let v0:=(xs.length:Int) - 1 - (k1:Int);((50:Nat)=50/\((k1:Int)=(k1:Int)/\((50:Nat)=50/\(v0=v0/\((iu xs k1)/\((iu xs k1)/\True)))))))
def Hh(n:Nat)(hT:PS [iU n]):LS.Good (iU (n+1)):=by
 refine⟨aG jF,?_⟩;intro  (xs:List Int) (hp:0<n+1/\xs.length<=1000000);refine Y6 [] [] [] [] [iU n] [20,21,24,25,26,27] [] [] [] trivial trivial trivial trivial hT jF Eo (Ja xs) (let v0:=(xs.length:Int);let v1:=(50:Nat);((ag ((v0) - (1:Int))/\((∃ k1:Nat,(k1<=xs.length/\((True/\((0:Int)=(k1:Int)/\(((v0) - (1:Int))=(v0 - 1 - (k1:Int))/\True)))/\(xs=(qZ xs k1)/\True))))/\(∀ k1:Nat,let v3:=(k1:Int);let v2:=v0 - 1 - v3;let v4:=qZ xs k1;(k1<=xs.length->(((decide (v3<v2))=true->(ag v3->(ag v2->(ag v2->(ag v3->(v1=50/\(v3=v3/\(v1=50/\(v2=v2/\(v1=50/\(v2=v2/\(v1=50/\(v3=v3/\((aJ v2 v4.length/\(v1=50/\(v3=v3/\(v1=50/\(v2=v2/\(v1=50/\(v3=v3/\((v1=50/\(v3=v3/\(v1=50/\(v2=v2/\(v1=50/\(v3=v3/\(aJ v3 v4.length/\(iu xs k1))))))))/\((aJ v3 v4.length/\(sj xs k1))/\True)))))))))/\((aJ v3 v4.length/\(v1=50/\(v3=v3/\(v1=50/\(v2=v2/\(v1=50/\(v2=v2/\((aJ v2 v4.length/\(sj xs k1))/\((v1=50/\(v3=v3/\(v1=50/\(v2=v2/\(v1=50/\(v2=v2/\(aJ v2 v4.length/\(iu xs k1))))))))/\True)))))))))/\True)))))))))))))))/\((decide (v3<v2))=false->v4=xs.reverse)))))))) ?_;refine⟨?_,⟨0,?_,⟨af,?_,?_,af⟩,?_,af⟩,λ k1 _=>⟨λ _ _ _ _ _=>⟨?_,rfl,?_,rfl,?_,rfl,?_,rfl,⟨?_,?_,rfl,?_,rfl,?_,rfl,⟨?_,rfl,?_,rfl,?_,rfl,?_,?_,rfl,?_,rfl,?_,rfl,?_,rfl,?_,?_,rfl,?_,rfl,?_,?_,?_,k1+1,?_,?_,⟨af,?_,?_,af⟩,?_,af⟩,⟨?_,?_,rfl,?_,rfl,⟨?_,rfl,?_,rfl,?_,rfl,?_,rfl,?_,?_,rfl,?_,rfl,?_,?_,?_,k1+1,?_,?_,⟨af,?_,?_,af⟩,?_,af⟩,⟨?_,rfl,?_,rfl,?_,rfl,?_,rfl,?_,?_,rfl,?_,rfl,?_,?_,?_,k1+1,?_,?_,⟨af,?_,?_,af⟩,?_,af⟩,af⟩,af⟩,⟨?_,?_,rfl,?_,rfl,?_,rfl,⟨?_,?_,rfl,?_,rfl,⟨?_,rfl,?_,rfl,?_,rfl,?_,rfl,?_,?_,rfl,?_,rfl,?_,?_,?_,k1+1,?_,?_,⟨af,?_,?_,af⟩,?_,af⟩,⟨?_,rfl,?_,rfl,?_,rfl,?_,rfl,?_,?_,rfl,?_,rfl,?_,?_,?_,k1+1,?_,?_,⟨af,?_,?_,af⟩,?_,af⟩,af⟩,⟨?_,rfl,?_,rfl,?_,rfl,?_,?_,rfl,?_,rfl,?_,rfl,?_,rfl,?_,?_,rfl,?_,rfl,?_,?_,?_,k1+1,?_,?_,⟨af,?_,?_,af⟩,?_,af⟩,af⟩,af⟩,λ _=>?_⟩⟩;all_goals try and_intros
 all_goals (try simp only[b6j,b6A,b5K,b5L,aJ,ag,bn,cY,b5R,b7R,b6Z,b8J,b5U,b5T,b5O,b5V,sP,b5Y,b5S,b6d,b7s] at *);first|done|with_reducible assumption|omega|with_reducible rfl|exact trivial|exact b1O xs|exact YM xs (by omega)|exact (YM xs (by omega)).symm|exact b4T (by omega) (by with_reducible assumption)|exact b1Q (by omega)
def rN:∀ n,PS [iU n]
 | 0=>⟨⟨aG jF,λ _ h=>absurd h.1 (b6H _)⟩,af⟩
 | n+1=>⟨Hh n (rN n),af⟩
def Ef:LS.Good wQ :=
 ⟨aG jF,λ xs hp=>(rN (0+1)).1.2 xs (⟨b6g _,hp⟩)⟩
structure DnI(a b:ae)(i:Nat):Prop where
 h0:WX a ((dT a b).getD i (ah.mk (aw.mk (0:Int) (0:Int)) (0:Int) (0:Int) (0:Int))).pair.a0 0
 fr:FrO (dT a b)
def b3e{a b:ae}(h:AB a b){i t:Nat}(hi:i<(dT a b).length)(ht:t<mK a):WX a ((dT a b).getD i (ah.mk (aw.mk (0:Int) (0:Int)) (0:Int) (0:Int) (0:Int))).pair.a0 (t:Int):=by
 have q:=(Lj h).get hi;exact⟨h.ka,q.1.1,q.1.2,by omega,by omega⟩
def b3f{a b:ae}(h:AB a b){i t:Nat}(hi:i<(dT a b).length)(ht:t<mK a):WX b ((dT a b).getD i (ah.mk (aw.mk (0:Int) (0:Int)) (0:Int) (0:Int) (0:Int))).pair.a1 (t:Int):=by
 have q:=(Lj h).get hi;have e:mK b=mK a:=by simp only[mK,h.ks]
 exact⟨h.kb,q.2.1,q.2.2,by omega,by omega⟩
def a7F{a b:ae}(h:AB a b):(dT a b).length<=3721:=(VF h).n
def b0N{a b:ae}{i t:Nat}(e:rY a ((dT a b).getD i (ah.mk (aw.mk (0:Int) (0:Int)) (0:Int) (0:Int) (0:Int))).pair.a0 (t:Int)=rY b ((dT a b).getD i (ah.mk (aw.mk (0:Int) (0:Int)) (0:Int) (0:Int) (0:Int))).pair.a1 (t:Int)):QA a b ((dT a b).getD i (ah.mk (aw.mk (0:Int) (0:Int)) (0:Int) (0:Int) (0:Int))) t:=e
def b2X{a b:ae}{i t:Nat}(h:rK a b i t)(hi:i<(dT a b).length)(ht:t<mK a)(e:¬ rY a ((dT a b).getD i (ah.mk (aw.mk (0:Int) (0:Int)) (0:Int) (0:Int) (0:Int))).pair.a0 (t:Int)=rY b ((dT a b).getD i (ah.mk (aw.mk (0:Int) (0:Int)) (0:Int) (0:Int) (0:Int))).pair.a1 (t:Int)):Eg a b (i,t):=⟨h,hi,ht,e⟩
def b3a{a b:ae}{i t:Nat}(h:Eg a b (i,t)){xs ys:List Int}(e:xs=(t:Int)::LZ (dT a b) (i+1) i)(k:ys=L0 (dT a b) (i+1) i):gB.mk xs.reverse ys.reverse=gB.mk (Vn a b) (Vo a b):=by rw[<-b3b h e,<-b3c h k]
def b3i{a b:ae}(h:uu a b=true):gB.mk [] []=gB.mk (Vn a b) (Vo a b):=by rw[<-b3j h,<-b3k h]
def uC:bc:=⟨wV,[.v (.st .automaton), .v (.st .automaton)],λ (a:ae) (b:ae)=>⟨(some (AB a b),[⟨(.st .word),gB.mk (Vn a b) (Vo a b)⟩,⟨.bool,ZH a b⟩,⟨.bool,SI a b⟩])⟩⟩
def Hb(a:ae)(b:ae):Nat->aI:=(fu 0 (.mk (Nat) (λ i=>rK a b i 0) (λ i=>(dT a b).length - i) [] [0,1,14,15,16] (λ i=>[(19, .aO ⟨(.int .i64),((i:Int):Int)⟩)]) [4] (λ i=>[]) [] [] (λ i=>(fu 2 (.mk (Nat) (λ t=>rK a b i t/\i<(dT a b).length) (λ t=>mK a - t) [] [20,21,22,23,24,25] (λ t=>[(27, .aO ⟨(.int .i64),((t:Int):Int)⟩)]) [4,9] (λ t=>[]) [] [] (λ t=>(fu 4 (.a (Ov) (λ v=>DI (dT a b) i (t:Int) v/\Eg a b (i,t)) (λ v=>v.k) [2,3,8,9,10,17,18,19,26,27,28,29,30,31,32,33,34,35,36,37,38,39,40,41,42,43,44,45,46,47] (λ v=>[(13, .aO ⟨(.int .i64),((v.k:Int):Int)⟩)]) [4,9] (λ v=>[(12, .box [.aC 9000, .aC 9100]),(9000, .aC (.int .i64) (v.xs:List Int)),(9100, .aC (.int .i64) (v.ys:List Int))])) cf))) cf))) cf)
abbrev D3(a:ae)(b:ae)(i1:Nat):Prop:=(let v0:=(dT a b).getD i1 (ah.mk (aw.mk (0:Int) (0:Int)) (0:Int) (0:Int) (0:Int));((v0.pair.a0=v0.pair.a0/\(v0.pair.a1=v0.pair.a1/\(v0.oM=v0.oM/\(v0.atom=v0.atom/\(v0.act=v0.act/\True)))))/\((True/\(True/\True))/\True)))
def CC:bc.iY uC:=by
 refine⟨aG ui,?_⟩;intro (a:ae) (b:ae) (hp:AB a b);refine Yx [HD,ki,Df] [] [] [] [wQ] [45,66,67,76,77,81,84] [] [] [2,3] ⟨Mo,jO,IA,af⟩ trivial trivial trivial ⟨Ef,af⟩ ui DM (Hb a b) (let v1:=dT a b;let v2:=(v1.length:Int);let v5:=True/\(True/\True);let v6:=bE a.sig;let v7:=(0:Int);let v0:=ah.mk (aw.mk v7 v7) v7 v7 v7;let v8:=(12:Nat)=12/\(0:Nat)=0;let v9:=(12:Nat)=12/\(1:Nat)=1;((AB a b/\(v1.length<=140737488355328->(ag v2->((∃ i1:Nat,(rK a b i1 0/\((a=a/\(b=b/\(True/\(v1=v1/\(v1=v1/\(v2=v2/\(v7=(i1:Int)/\True)))))))/\(v5/\True))))/\(∀ i1:Nat,let va:=v1.getD i1 v0;let vb:=(i1:Int);let vc:=D3 a b i1;(rK a b i1 0->(((decide (vb<v2))=true->(aJ vb v1.length/\((0<=a.sig.aY/\a.sig.aY<=3)/\(ag v6->((∃ t2:Nat,((rK a b i1 t2/\i1<v1.length)/\((a=a/\(b=b/\(True/\(v1=v1/\(vb=vb/\(True/\(v1=v1/\(v2=v2/\(vb=vb/\(v6=v6/\(v7=(t2:Int)/\True)))))))))))/\vc)))/\(∀ t2:Nat,let ve:=(t2:Int);let vd:=rY a va.pair.a0 ve;((rK a b i1 t2/\i1<v1.length)->(((decide (ve<v6))=true->(ag va.pair.a0->(WX a va.pair.a0 ve/\(ag va.pair.a1->(WX b va.pair.a1 ve/\(((vd == (rY b va.pair.a1 ve))=true->(ag (ve+(1:Int))/\(∃ t3:Nat,((rK a b i1 t3/\i1<v1.length)/\(mK a - t3<mK a - t2/\((a=a/\(b=b/\(True/\(v1=v1/\(vb=vb/\(True/\(v1=v1/\(v2=v2/\(vb=vb/\(v6=v6/\((ve+(1:Int))=(t3:Int)/\True)))))))))))/\vc))))))/\((vd == (rY b va.pair.a1 ve))=false->((∃ v3:Ov,((DI v1 i1 ve v3/\Eg a b (i1,t2))/\((True/\(v1=v1/\(vd=vd/\(True/\(vb=(v3.k:Int)/\True)))))/\(v5/\(([ve])=v3.xs/\(v3.ys=[]/\vc))))))/\(∀ v3:Ov,let vg:=(v3.k:Int);let vf:=v1.getD (Int.toNat vg) v0;((DI v1 i1 ve v3/\Eg a b (i1,t2))->(aJ vg v1.length/\(ag vf.oM->(((decide (v7<=vf.oM))=true->(v1.length<=140737488355328->(ag vg->(aJ vg v1.length/\(ag vf.atom->(v8/\((9000:Nat)=9000/\(v1=v1/\(vg=vg/\(aJ vg v1.length/\(vf=vf/\(vf.atom=vf.atom/\(vf.atom=vf.atom/\(v8/\((9000:Nat)=9000/\(bn (v3.xs.length+([vf.atom]).length) 8/\(v1.length<=140737488355328->(ag vg->(aJ vg v1.length/\(ag vf.act->(v9/\((9100:Nat)=9100/\(v1=v1/\(vg=vg/\(aJ vg v1.length/\(vf=vf/\(vf.act=vf.act/\(vf.act=vf.act/\(v9/\((9100:Nat)=9100/\(bn (v3.ys.length+([vf.act]).length) 8/\(aJ vg v1.length/\(ag vf.oM->(∃ v4:Ov,((DI v1 i1 ve v4/\Eg a b (i1,t2))/\(v4.k<v3.k/\((True/\(v1=v1/\(vd=vd/\(True/\(vf.oM=(v4.k:Int)/\True)))))/\(v5/\((v3.xs++([vf.atom]))=v4.xs/\((v3.ys++([vf.act]))=v4.ys/\vc))))))))))))))))))))))))))))))))))))))))/\((decide (v7<=vf.oM))=false->(v3.xs.length<=1000000/\(v3.ys.length<=1000000/\((gB.mk (v3.xs.reverse) (v3.ys.reverse))=(gB.mk (Vn a b) (Vo a b))/\(vd=(ZH a b)/\true=(SI a b)))))))))))))))))))/\((decide (ve<v6))=false->(ag (vb+(1:Int))/\(∃ i3:Nat,(rK a b i3 0/\(v1.length - i3<v1.length - i1/\((a=a/\(b=b/\(True/\(v1=v1/\(v1=v1/\(v2=v2/\((vb+(1:Int))=(i3:Int)/\True)))))))/\(v5/\True)))))))))))))))/\((decide (vb<v2))=false->((gB.mk [] [])=(gB.mk (Vn a b) (Vo a b))/\(false=(ZH a b)/\false=(SI a b))))))))))))) ?_;have ha:=hp.ka;have hb:=hp.kb;have n1:(bE a.sig)=(mK a:Int):=ha.lens.2.2.2.1.symm;have n4:=(dt a.sig).1 ha.s;have n5:=ha.lens;have n6:=a7F hp;refine⟨?_,λ a0 a1=>⟨⟨0,?_,⟨rfl,rfl,af,rfl,rfl,rfl,?_,af⟩,⟨af,af,af⟩,af⟩,λ i1 _=>⟨λ _=>⟨?_,?_,λ _=>⟨⟨0,?_,⟨rfl,rfl,af,rfl,rfl,af,rfl,rfl,rfl,rfl,?_,af⟩,⟨rfl,rfl,rfl,rfl,rfl,af⟩,⟨af,af,af⟩,af⟩,λ t2 _=>⟨λ _ _=>⟨?_,λ _=>⟨?_,λ _=>⟨?_,t2+1,?_,?_,⟨rfl,rfl,af,rfl,rfl,af,rfl,rfl,rfl,rfl,?_,af⟩,⟨rfl,rfl,rfl,rfl,rfl,af⟩,⟨af,af,af⟩,af⟩,λ _=>⟨⟨(Ov.mk i1 [(t2:Int)] []),?_,⟨af,rfl,rfl,af,?_,af⟩,⟨af,af,af⟩,?_,?_,⟨rfl,rfl,rfl,rfl,rfl,af⟩,⟨af,af,af⟩,af⟩,λ v3 _=>⟨?_,λ _=>⟨λ _ _ _=>⟨?_,λ _=>⟨⟨?_,?_⟩,?_,rfl,rfl,?_,rfl,rfl,rfl,⟨?_,?_⟩,?_,?_,λ _ _=>⟨?_,λ _=>⟨⟨?_,?_⟩,?_,rfl,rfl,?_,rfl,rfl,rfl,⟨?_,?_⟩,?_,?_,?_,λ _=>⟨(Ov.mk ((dT a b).getD v3.k (ah.mk (aw.mk (0:Int) (0:Int)) (0:Int) (0:Int) (0:Int))).oM.toNat (v3.xs++[((dT a b).getD v3.k (ah.mk (aw.mk (0:Int) (0:Int)) (0:Int) (0:Int) (0:Int))).atom]) (v3.ys++[((dT a b).getD v3.k (ah.mk (aw.mk (0:Int) (0:Int)) (0:Int) (0:Int) (0:Int))).act])),?_,?_,⟨af,rfl,rfl,af,?_,af⟩,⟨af,af,af⟩,?_,?_,⟨rfl,rfl,rfl,rfl,rfl,af⟩,⟨af,af,af⟩,af⟩⟩⟩⟩⟩,λ _=>⟨?_,?_,?_,?_,?_⟩⟩⟩⟩⟩⟩,λ _=>⟨?_,i1+1,?_,?_,⟨rfl,rfl,af,rfl,rfl,rfl,?_,af⟩,⟨af,af,af⟩,af⟩⟩⟩⟩,λ _=>⟨?_,?_,?_⟩⟩⟩⟩;all_goals try and_intros
 all_goals (try simp only[b6j,b6A,b5K,b5L,aJ,ag,bn,cY,b5R,b7R,b6Z,b8J,b5U,b5T,b5O,b5V,c0a,b5Y,b5S,b6d,b7s] at *);first|done|with_reducible assumption|omega|with_reducible rfl|exact trivial|exact rK.first a b|exact b3e hp (by omega) (by omega)|exact b3f hp (by omega) (by omega)|exact rK.step (b6Y (by with_reducible assumption)) (by omega) (b0N (by with_reducible assumption))|exact rK.row (b6Y (by with_reducible assumption)) (by omega) (by omega)|exact DI.first (VF hp) (by omega) _|exact b2X (b6Y (by with_reducible assumption)) (by omega) (by omega) (by with_reducible assumption)|(have q0:=b6Y (a:=DI (dT a b) i1 (t2:Int) v3) (by with_reducible assumption);have q1:=q0.hi;have q2:=q0.hk;have q3:=q0.nx;have q4:=q0.ny;have q5:=(VF hp).f v3.k (by omega);omega)|exact DI.a0o (VF hp) (b6Y (by with_reducible assumption)) (by with_reducible assumption)|exact b6W (by with_reducible assumption)|exact b3a (b6W (by with_reducible assumption)) (DI.b0Q (b6Y (by with_reducible assumption)) (by omega)) (DI.b0R (b6Y (by with_reducible assumption)) (by omega))|exact b2Z (b6W (by with_reducible assumption))|exact b2Y (b6W (by with_reducible assumption))|exact b3i (rK.done (by with_reducible assumption) (by omega))|exact b3h (rK.done (by with_reducible assumption) (by omega))|exact b3g (rK.done (by with_reducible assumption) (by omega))
noncomputable def jo(gg:aD)(e f:J):Int:=if iQ gg e=true/\iQ gg f=true then (if dG gg e=0 then dG gg f else dG gg e) else 1
noncomputable def BB(gg:aD)(e f:J):ae:=if jo gg e f=0 then kv gg e else (ae.mk (aD.mk (0:Int) (0:Int)) [] [])
noncomputable def BC(gg:aD)(e f:J):ae:=if jo gg e f=0 then kv gg f else (ae.mk (aD.mk (0:Int) (0:Int)) [] [])
noncomputable def L9(gg:aD)(e f:J):ae:=if iQ gg e=true/\iQ gg f=true then kv gg e else (ae.mk (aD.mk (0:Int) (0:Int)) [] [])
noncomputable def Ma(gg:aD)(e f:J):ae:=if iQ gg e=true/\iQ gg f=true then (if dG gg e=0 then kv gg f else kv gg e) else (ae.mk (aD.mk (0:Int) (0:Int)) [] [])
def a5u(gg:aD)(e f:J):(bH (isE gg) [e,f]&&sigOk gg)=(iQ gg e&&iQ gg f):=by
 simp only[bH,iQ];cases sigOk gg<;>cases isE gg e<;>cases isE gg f<;>rfl
structure BoN(gg:aD)(e f:J):Prop where
 c:1=jo gg e f
 x:(ae.mk (aD.mk (0:Int) (0:Int)) [] [])=BB gg e f
 y:(ae.mk (aD.mk (0:Int) (0:Int)) [] [])=BC gg e f
 xs:(ae.mk (aD.mk (0:Int) (0:Int)) [] [])=L9 gg e f
 ys:(ae.mk (aD.mk (0:Int) (0:Int)) [] [])=Ma gg e f
def Xa{gg:aD}{e f:J}(h:¬ (iQ gg e=true/\iQ gg f=true)):BoN gg e f:=by
 have c:jo gg e f=1:=by rw[jo,b5I h]
 exact⟨c.symm,by rw[BB,c];rfl,by rw[BC,c];rfl,by rw[L9,b5I h],by rw[Ma,b5I h]⟩
structure BoM(gg:aD)(e f:J):Prop where
 c:dG gg e=jo gg e f
 x:(ae.mk (aD.mk (0:Int) (0:Int)) [] [])=BB gg e f
 y:(ae.mk (aD.mk (0:Int) (0:Int)) [] [])=BC gg e f
 xs:kv gg e=L9 gg e f
 ys:kv gg e=Ma gg e f
def Hn{gg:aD}{e f:J}(h:iQ gg e=true)(k:iQ gg f=true)(m:¬ dG gg e=0):BoM gg e f:=by
 have c:jo gg e f=dG gg e:=by rw[jo,b5Q ⟨h,k⟩,b5I m]
 have d:¬ jo gg e f=0:=by rw[c];exact m
 exact⟨c.symm,by rw[BB,b5I d],by rw[BC,b5I d],by rw[L9,b5Q ⟨h,k⟩],by rw[Ma,b5Q ⟨h,k⟩,b5I m]⟩
structure BoF(gg:aD)(e f:J):Prop where
 c:dG gg f=jo gg e f
 xs:kv gg e=L9 gg e f
 ys:kv gg f=Ma gg e f
def JS{gg:aD}{e f:J}(h:iQ gg e=true)(k:iQ gg f=true)(m:dG gg e=0):BoF gg e f:=⟨by rw[jo,b5Q ⟨h,k⟩,b5Q m],by rw[L9,b5Q ⟨h,k⟩],by rw[Ma,b5Q ⟨h,k⟩,b5Q m]⟩
def a3T{gg:aD}{e f:J}(h:iQ gg e=true)(k:iQ gg f=true)(m:dG gg e=0)(n:¬ dG gg f=0):(ae.mk (aD.mk (0:Int) (0:Int)) [] [])=BB gg e f/\(ae.mk (aD.mk (0:Int) (0:Int)) [] [])=BC gg e f:=by
 have d:¬ jo gg e f=0:=by rw[<-(JS h k m).c];exact n
 exact⟨by rw[BB,b5I d],by rw[BC,b5I d]⟩
def ZB{gg:aD}{e f:J}(h:iQ gg e=true)(k:iQ gg f=true)(m:dG gg e=0)(n:dG gg f=0):(0=jo gg e f/\kv gg e=BB gg e f)/\kv gg f=BC gg e f:=by
 have d:jo gg e f=0:=by rw[<-(JS h k m).c];exact n
 exact⟨⟨d.symm,by rw[BB,b5Q d]⟩,by rw[BC,b5Q d]⟩
structure BoK(gg:aD)(e f:J):Prop where
 s:iQ gg e=true
 t:iQ gg f=true
 a:dG gg e=0
 b:dG gg f=0
def a1o{gg:aD}{e f:J}(h:jo gg e f=0):BoK gg e f:=by
 unfold jo at h;split at h
 .rename_i w;split at h
  .rename_i u;exact⟨w.1,w.2,u,h⟩
  .exact absurd h (by assumption)
 .exact absurd h (by decide)
def Pr{gg:aD}{e:J}(h:dG gg e=0):(kv gg e).sig=gg:=by rw[kv,b5Q h]
def ZA{gg:aD}{e f:J}(h:jo gg e f=0):AB (kv gg e) (kv gg f):=by
 have k:=a1o h;have q:=CD k.s;have r:=CD k.t;exact⟨a3L q.s q.g q.n k.a,a3L r.s r.g r.n k.b,by rw[Pr k.a,Pr k.b]⟩
def b0I{gg:aD}{e f:J}(h:jo gg e f=0):AB (BB gg e f) (BC gg e f):=by rw[BB,BC,b5Q h,b5Q h];exact ZA h
def Zz{gg:aD}{e f:J}(h:jo gg e f=0):AB (L9 gg e f) (Ma gg e f):=by
 have k:=a1o h;rw[<-(JS k.s k.t k.a).xs,<-(JS k.s k.t k.a).ys];exact ZA h
def b0J{gg:aD}{e f:J}(h:jo gg e f=0):AB (Ma gg e f) (L9 gg e f):=(Zz h).sw
noncomputable def Iu(gg:aD)(e f:J):Bool:=if jo gg e f=0 then uu (kv gg e) (kv gg f) else false
def b3m{gg:aD}{e f:J}(h:¬ jo gg e f=0):false=Iu gg e f:=by rw[Iu,b5I h]
def b3n{gg:aD}{e f:J}(h:jo gg e f=0):(!SI (BB gg e f) (BC gg e f))=Iu gg e f:=by rw[Iu,b5Q h,BB,BC,b5Q h,b5Q h,SI,Bool.not_not]
def a9d{gg:aD}{e f:J}(h:jo gg e f=0):(WT (L9 gg e f) (Ma gg e f)&&WT (Ma gg e f) (L9 gg e f))=Iu gg e f:=by
 have k:=a1o h;rw[a6v (Zz h),Iu,b5Q h,<-(JS k.s k.t k.a).xs,<-(JS k.s k.t k.a).ys]
def b0W{gg:aD}{e f:J}(h:jo gg e f=0)(w:WT (L9 gg e f) (Ma gg e f)=true):WT (Ma gg e f) (L9 gg e f)=Iu gg e f:=by rw[<-a9d h,w,b7x]
def b0V{gg:aD}{e f:J}(h:jo gg e f=0)(w:WT (L9 gg e f) (Ma gg e f)=false):false=Iu gg e f:=by rw[<-a9d h,w,b8b]
def sn:bc:=⟨sD,[.v (.st .sig), .v (.st .expr), .v (.st .expr)],λ (gg:aD) (e:J) (f:J)=>⟨(none,[⟨(.st .automaton),BB gg e f⟩,⟨(.st .automaton),BC gg e f⟩,⟨(.int .i64),jo gg e f⟩])⟩⟩
def Ff(gg:aD)(e:J)(f:J):Nat->aI:=cf
abbrev pf(gg:aD)(f:J):Prop:=(let v0:=kv gg f;(v0.sig.aY=v0.sig.aY/\(v0.sig.aB=v0.sig.aB/\(v0.accept=v0.accept/\(v0.next=v0.next/\True)))))
def AD:bc.Good sn:=by
 refine⟨aG pR,?_⟩;intro (gg:aD) (e:J) (f:J) _;refine bo [nU,uB] [] [] [3,4,5] ⟨pX,B7,af⟩ pR Ai (Ff gg e f) (let v1:=kv gg e;let v2 := !(bH (isE gg) ([e,f])&&sigOk gg);let v3:=(0:Int);let v0:=ae.mk (aD.mk v3 v3) [] [];(((v2=true->(v0=(BB gg e f)/\(v0=(BC gg e f)/\(1:Int)=(jo gg e f))))/\(v2=false->((sigOk gg=true/\aF e=true/\au e<=1000)/\(ag (dG gg e)->(((!(decide ((dG gg e)=v3)))=true->(v0=(BB gg e f)/\(v0=(BC gg e f)/\(dG gg e)=(jo gg e f))))/\((!(decide ((dG gg e)=v3)))=false->((sigOk gg=true/\aF f=true/\au f<=1000)/\(ag (dG gg f)->(((!(decide ((dG gg f)=v3)))=true->(v0=(BB gg e f)/\(v0=(BC gg e f)/\(dG gg f)=(jo gg e f))))/\((!(decide ((dG gg f)=v3)))=false->((v1.sig.aY=v1.sig.aY/\(v1.sig.aB=v1.sig.aB/\(v1.accept=v1.accept/\(v1.next=v1.next/\True))))/\((pf gg f)/\((pf gg f)/\(v1=(BB gg e f)/\((kv gg f)=(BC gg e f)/\v3=(jo gg e f)))))))))))))))))) ?_;refine⟨λ _=>⟨?_,?_,?_⟩,λ _=>⟨?_,λ _=>⟨λ _=>⟨?_,?_,?_⟩,λ _=>⟨?_,λ _=>⟨λ _=>⟨?_,?_,?_⟩,λ _=>⟨⟨rfl,rfl,rfl,rfl,?_⟩,⟨rfl,rfl,rfl,rfl,?_⟩,⟨rfl,rfl,rfl,rfl,?_⟩,?_,?_,?_⟩⟩⟩⟩⟩⟩;all_goals try and_intros
 all_goals (try simp only[b6j,b6A,b5M,b7U,b5K,b5L,b9F,b8J,b5O,b5V,Decidable.not_not,a5u] at *);first|done|with_reducible assumption|with_reducible rfl|exact trivial|exact (Hn (b6Y (by with_reducible assumption)) (b6W (by with_reducible assumption)) (by with_reducible assumption)).c|exact (Hn (by with_reducible assumption) (by with_reducible assumption) (by with_reducible assumption)).c|exact (Hn (b6Y (by with_reducible assumption)) (b6W (by with_reducible assumption)) (by with_reducible assumption)).x|exact (Hn (by with_reducible assumption) (by with_reducible assumption) (by with_reducible assumption)).x|exact (Hn (b6Y (by with_reducible assumption)) (b6W (by with_reducible assumption)) (by with_reducible assumption)).y|exact (Hn (by with_reducible assumption) (by with_reducible assumption) (by with_reducible assumption)).y|exact (Hn (b6Y (by with_reducible assumption)) (b6W (by with_reducible assumption)) (by with_reducible assumption)).xs|exact (Hn (by with_reducible assumption) (by with_reducible assumption) (by with_reducible assumption)).xs|exact (Hn (b6Y (by with_reducible assumption)) (b6W (by with_reducible assumption)) (by with_reducible assumption)).ys|exact (Hn (by with_reducible assumption) (by with_reducible assumption) (by with_reducible assumption)).ys|exact (JS (by first|exact b6Y (by with_reducible assumption)|exact b6W (by with_reducible assumption)|with_reducible assumption) (by first|exact b6Y (by with_reducible assumption)|exact b6W (by with_reducible assumption)|with_reducible assumption) (by with_reducible assumption)).c|exact (JS (by first|exact b6Y (by with_reducible assumption)|exact b6W (by with_reducible assumption)|with_reducible assumption) (by first|exact b6Y (by with_reducible assumption)|exact b6W (by with_reducible assumption)|with_reducible assumption) (by with_reducible assumption)).xs|exact (JS (by first|exact b6Y (by with_reducible assumption)|exact b6W (by with_reducible assumption)|with_reducible assumption) (by first|exact b6Y (by with_reducible assumption)|exact b6W (by with_reducible assumption)|with_reducible assumption) (by with_reducible assumption)).ys|exact (a3T (by first|exact b6Y (by with_reducible assumption)|exact b6W (by with_reducible assumption)|with_reducible assumption) (by first|exact b6Y (by with_reducible assumption)|exact b6W (by with_reducible assumption)|with_reducible assumption) (by with_reducible assumption) (by with_reducible assumption)).1|exact (a3T (by first|exact b6Y (by with_reducible assumption)|exact b6W (by with_reducible assumption)|with_reducible assumption) (by first|exact b6Y (by with_reducible assumption)|exact b6W (by with_reducible assumption)|with_reducible assumption) (by with_reducible assumption) (by with_reducible assumption)).2|exact (ZB (by first|exact b6Y (by with_reducible assumption)|exact b6W (by with_reducible assumption)|with_reducible assumption) (by first|exact b6Y (by with_reducible assumption)|exact b6W (by with_reducible assumption)|with_reducible assumption) (by with_reducible assumption) (by with_reducible assumption)).1.1|exact (ZB (by first|exact b6Y (by with_reducible assumption)|exact b6W (by with_reducible assumption)|with_reducible assumption) (by first|exact b6Y (by with_reducible assumption)|exact b6W (by with_reducible assumption)|with_reducible assumption) (by with_reducible assumption) (by with_reducible assumption)).1.2|exact (ZB (by first|exact b6Y (by with_reducible assumption)|exact b6W (by with_reducible assumption)|with_reducible assumption) (by first|exact b6Y (by with_reducible assumption)|exact b6W (by with_reducible assumption)|with_reducible assumption) (by with_reducible assumption) (by with_reducible assumption)).2|exact (Xa (by rintro⟨q1,q2⟩;simp_all)).c|exact (Xa (by rintro⟨q1,q2⟩;simp_all)).x|exact (Xa (by rintro⟨q1,q2⟩;simp_all)).y|exact (Xa (by rintro⟨q1,q2⟩;simp_all)).xs|exact (Xa (by rintro⟨q1,q2⟩;simp_all)).ys|exact (CD (by first|exact b6Y (by with_reducible assumption)|exact b6W (by with_reducible assumption)|with_reducible assumption)).s|exact (CD (by first|exact b6Y (by with_reducible assumption)|exact b6W (by with_reducible assumption)|with_reducible assumption)).g|exact (CD (by first|exact b6Y (by with_reducible assumption)|exact b6W (by with_reducible assumption)|with_reducible assumption)).n
structure SG(a b:ae)(i t:Nat):Prop where
 hi:i<=(dT a b).length
 ht:t<=mK a
 p:∀ j,j<i->∀ s,s<mK a->Zb a b ((dT a b).getD j (ah.mk (aw.mk (0:Int) (0:Int)) (0:Int) (0:Int) (0:Int))) s
 q:∀ s,s<t->Zb a b ((dT a b).getD i (ah.mk (aw.mk (0:Int) (0:Int)) (0:Int) (0:Int) (0:Int))) s
def SG.first(a b:ae):SG a b 0 0:=⟨b6L _,b6L _,λ j hj=>by omega,λ s hs=>by omega⟩
def SG.step{a b:ae}{i t:Nat}(h:SG a b i t)(ht:t<mK a)(e:Zb a b ((dT a b).getD i (ah.mk (aw.mk (0:Int) (0:Int)) (0:Int) (0:Int) (0:Int))) t):SG a b i (t+1):=⟨h.hi,ht,h.p,λ s hs=>by
 rcases b6E s t with r|r
 .exact h.q s r
 .rw[show s=t by omega];exact e⟩
def SG.row{a b:ae}{i t:Nat}(h:SG a b i t)(hi:i<(dT a b).length)(ht:¬ t<mK a):SG a b (i+1) 0:=⟨hi,b6L _,λ j hj s hs=>by
 rcases b6E j i with r|r
 .exact h.p j r s hs
 .rw[show j=i by omega];exact h.q s (by omega),λ s hs=>by omega⟩
def SG.done{a b:ae}{i t:Nat}(h:SG a b i t)(hi:¬ i<(dT a b).length):true=WT a b:=(WU.2 λ j hj s hs=>h.p j (by omega) s hs).symm
def wL:bc:=⟨wT,[.v (.st .sig), .v (.st .expr), .v (.st .expr)],λ (gg:aD) (e:J) (f:J)=>⟨(none,[⟨.bool,Iu gg e f⟩,⟨(.int .i64),jo gg e f⟩])⟩⟩
def I5(gg:aD)(e:J)(f:J):Nat->aI:=cf
def DU:bc.Good wL:=by
 refine⟨aG ug,?_⟩;intro (gg:aD) (e:J) (f:J) _;refine qU [sn] [uC] [] [] [28] [] [] [3,4,5] ⟨AD,af⟩ ⟨CC,af⟩ trivial trivial ug DK (I5 gg e f) (let v0:=jo gg e f;((ag v0->(((!(decide (v0=(0:Int))))=true->(false=(Iu gg e f)/\v0=v0))/\((!(decide (v0=(0:Int))))=false->(AB (BB gg e f) (BC gg e f)/\((!(SI (BB gg e f) (BC gg e f)))=(Iu gg e f)/\(0:Int)=v0))))))) ?_;refine λ _=>⟨λ _=>⟨?_,rfl⟩,λ _=>⟨?_,?_,?_⟩⟩;all_goals try and_intros
 all_goals (try simp only[b6j,b6A,b5U,b5T,b5K,b5L] at *);first|done|with_reducible assumption|with_reducible rfl|exact trivial|exact b0I (by with_reducible assumption)|exact Zz (by with_reducible assumption)|exact b0J (by with_reducible assumption)|exact b3m (by with_reducible assumption)|exact b3n (by with_reducible assumption)|exact b0W (by with_reducible assumption) (by with_reducible assumption)|exact b0V (by with_reducible assumption) (by with_reducible assumption)|(symm;assumption)
def EnP(ls:List J)(d:J)(v:Int):Prop:=(v = -1/\d.aj=1)\/∃ j:Nat,v=(j:Int)/\j<ls.length/\ls.getD j zE=d
def xd{α:Type}{z:α}{ls qK:List α}(h:ls <+: qK){j:Nat}(hj:j<ls.length):qK.getD j z=ls.getD j z:=by
 obtain⟨r,rfl⟩:=h;simp only[b5P,b6X hj]
def EnP.up{ls qK:List J}{d:J}{v:Int}(h:EnP ls d v)(q:ls <+: qK):EnP qK d v:=by
 rcases h with h|⟨j,h1,h2,h3⟩
 .exact .inl h
 .exact .inr ⟨j,h1,b6a h2 q.length_le,by rw[xd q h2];exact h3⟩
def JK(ls:List J):Prop:=∀ y∈ls,aF y=true
def a4s{ls:List J}{d:J}(h:0<=jM ls d):∃ j:Nat,jM ls d=(j:Int)/\j<ls.length/\ls.getD j zE=d:=by
 unfold jM at h ⊢;split at h
 .rename_i hl;rw[b5Q hl];refine⟨_,rfl,hl,?_⟩;have:=b8X (w:=hl);rw[Av] at this;rw[b5P,b6e hl];exact this
 .omega
structure StS(a c:Int)(x:J)(s s':mF):Prop where
 t:(bU a c x).2=true
 p:s.ls <+: s'.ls
 g:JK s.ls->JK s'.ls
 e:∃ v,s'.rw=s.rw++[v]/\EnP s'.ls (bU a c x).1 v
def b2a{b:Bool}{a c:Int}{x:J}(hx:aF x=true){s s':mF}(h:rf b a c x s=some s'):StS a c x s s':=by
 unfold rf at h;split at h
 .rename_i ht;have ed:cB a c x=(bU a c x).1:=by rw[<-EA ht]
  have gd:=(No a c x hx).g ht;rw[ed] at h;split at h
  .rename_i h1;cases h;exact⟨ht,b7w _,id,_,rfl, .inl ⟨rfl,h1⟩⟩
  .split at h
   .rename_i h2;cases h;obtain⟨j,q1,q2,q3⟩:=a4s h2;exact⟨ht,b7w _,id,_,rfl, .inr ⟨j,q1,q2,q3⟩⟩
   .split at h
    .cases h
    .cases h;refine⟨ht,c0f _ _,λ g y hy=>?_,_,rfl, .inr ⟨s.ls.length,rfl,by simp,by simp[b5P]⟩⟩;rcases b5F.1 hy with q|q
     .exact g y q
     .rw[b5Z] at q;rw[q];exact gd
 .cases h
structure RoS(a c:Int)(n:Nat)(x:J)(ls:List J)(row:List Int):Prop where
 len:row.length=n
 t:∀ j,j<n->(bU a (c+(j:Int)) x).2=true
 e:∀ j,j<n->EnP ls (bU a (c+(j:Int)) x).1 (row.getD j 0)
def RoS.up{a c:Int}{n:Nat}{x:J}{ls qK:List J}{row:List Int}(h:RoS a c n x ls row)(q:ls <+: qK):RoS a c n x qK row:=⟨h.len,h.t,λ j hj=>(h.e j hj).up q⟩
def a2f{b:Bool}{a:Int}{x:J}(hx:aF x=true):∀ (n:Nat) {c:Int} {s s':mF},qh b a x n c s=some s'->(s.ls <+: s'.ls/\(JK s.ls->JK s'.ls))/\∃ row,s'.rw=s.rw++row/\RoS a c n x s'.ls row
 | 0,c,s,s',h=>by cases h;exact⟨⟨b7w _,id⟩,[],(b6K _).symm,rfl,λ j hj=>by omega,λ j hj=>by omega⟩
 | n+1,c,s,s',h=>by
  unfold qh at h;cases hs:rf b a c x s with
  | none=>rw[hs] at h;cases h
  | some m =>
   rw[hs] at h;have q:=b2a hx hs;obtain⟨⟨p1,g1⟩,row,e1,r⟩:=a2f hx n h;obtain⟨v,ev,en⟩:=q.e;refine⟨⟨q.p.trans p1,λ g=>g1 (q.g g)⟩,v::row,by rw[e1,ev];simp,by simp[r.len],λ j hj=>?_,λ j hj=>?_⟩
   .cases j with
    | zero=>simpa using q.t
    | succ j=>have:=r.t j (by omega);rw[show c+((j+1:Nat):Int)=c+1+(j:Int) by omega];exact this
   .cases j with
    | zero=>simpa using en.up p1
    | succ j=>have:=r.e j (by omega);rw[show c+((j+1:Nat):Int)=c+1+(j:Int) by omega];simpa using this
structure RwS(n:Nat)(x:J)(m:Nat)(a:Int)(ls:List J)(rows:List (List Int)):Prop where
 len:rows.length=m
 r:∀ i,i<m->RoS (a+(i:Int)) 0 n x ls (rows.getD i [])
def RwS.up{n:Nat}{x:J}{m:Nat}{a:Int}{ls qK:List J}{rows:List (List Int)}(h:RwS n x m a ls rows)(q:ls <+: qK):RwS n x m a qK rows:=⟨h.len,λ i hi=>(h.r i hi).up q⟩
def YJ{b:Bool}{n:Nat}{x:J}(hx:aF x=true):∀ (m:Nat) {a:Int} {ls:List J} {rows:List (List Int)} {q:List J×List (List Int)},jX b n x m a ls rows=some q->(ls <+: q.1/\(JK ls->JK q.1))/\∃ R,q.2=rows++R/\RwS n x m a q.1 R
 | 0,a,ls,rows,q,h=>by cases h;exact⟨⟨b7w _,id⟩,[],(b6K _).symm,rfl,λ j hj=>by omega⟩
 | m+1,a,ls,rows,q,h=>by
  unfold jX at h;cases hs:qh b a x n 0 ⟨ls,[]⟩ with
  | none=>rw[hs] at h;cases h
  | some s =>
   rw[hs] at h;obtain⟨⟨p1,g1⟩,row,e1,r1⟩:=a2f hx n hs;obtain⟨⟨p2,g2⟩,R,e2,r2⟩:=YJ hx m h;rw[b6B] at e1;refine⟨⟨p1.trans p2,λ g=>g2 (g1 g)⟩,row::R,by rw[e2,e1];simp,by simp[r2.len],λ i hi=>?_⟩;cases i with
   | zero=>simpa using r1.up p2
   | succ i=>have:=r2.r i (by omega);rw[show a+((i+1:Nat):Int)=a+1+(i:Int) by omega];simpa using this
structure RuS(m n i:Nat)(ls qK:List J)(nx nx':List (List (List Int))):Prop where
 p:ls <+: qK
 g:JK qK
 len:nx'.length=qK.length
 pn:nx <+: nx'
 r:∀ k,i<=k->k<qK.length->RwS n (qK.getD k zE) m 0 qK (nx'.getD k [])
def a2i{b:Bool}{m n:Nat}:∀ (f i:Nat) (ls:List J) (nx:List (List (List Int))) {q:List J×List (List (List Int))},DG b m n f i ls nx=some q->JK ls->nx.length=i->i<=ls.length->RuS m n i ls q.1 nx q.2
 | 0,_,_,_,_,h=>by cases h
 | f+1,i,ls,nx,q,h=>by
  intro hg hn hi;unfold DG at h;split at h
  .rename_i hl;cases hs:jX b n (ls.getD i zE) m 0 ls [] with
   | none=>rw[hs] at h;cases h
   | some s =>
    rw[hs] at h;simp only[b7F] at h;split at h
    .have gx:aF (ls.getD i zE)=true:=hg _ (fW hl);obtain⟨⟨p1,g1⟩,R,e1,r1⟩:=YJ gx m hs;rw[b6B] at e1;have u:=a2i f (i+1) s.1 (nx++[s.2]) h (g1 hg) (by simp[hn]) (by have:=p1.length_le;omega);refine⟨p1.trans u.p,u.g,u.len,(c0f _ _).trans u.pn,λ k hk iP=>?_⟩;rcases Nat.eq_or_lt_of_le hk with e|e
     .subst e;have l1:=p1.length_le;have hx:q.1.getD i zE=ls.getD i zE:=by rw[xd u.p (by omega),xd p1 hl]
      have hy:q.2.getD i []=s.2:=by
       rw[xd u.pn (by simp;omega),b5P,b7Q (by omega),hn,Nat.sub_self];rfl
      rw[hx,hy,e1];exact r1.up u.p
     .exact u.r k e iP
    .cases h
  .rename_i hl;cases h;exact⟨b7w _,hg,by show nx.length=ls.length;omega,b7w _,λ k hk iP=>by simp only at iP;omega⟩
structure SaS(gg:aD)(e:J):Prop where
 p:[gM e] <+: dm gg e
 g:JK (dm gg e)
 len:(iM gg e).length=(dm gg e).length
 r:∀ k,k<(dm gg e).length->RwS gg.aB.toNat ((dm gg e).getD k zE) (bE gg).toNat 0 (dm gg e) ((iM gg e).getD k [])
def a5N{gg:aD}{e:J}(he:aF e=true)(h:dG gg e=0):SaS gg e:=by
 unfold dG at h;split at h
 .rename_i hs;obtain⟨q,hq⟩:=b9A.1 hs;have u:=a2i _ _ _ _ (show DG false _ _ 61 0 [gM e] []=some q from hq) (λ y hy=>by rw[b5Z] at hy;rw[hy];exact (F6 e he).g) rfl (b6L _);have e1:dm gg e=q.1:=by rw[dm,hq];rfl
  have e2:iM gg e=q.2:=by rw[iM,hq];rfl
  refine⟨by rw[e1];exact u.p,by rw[e1];exact u.g,by rw[e1,e2];exact u.len,λ k hk=>?_⟩;rw[e1] at hk ⊢;rw[e2];exact u.r k (b6L _) hk
 .cases h
def Nh(a:ae):Wd->Int->Int->Prop
 | [],t,s=>rY a s t=true
 | p::w,t,s=>Nh a w t (jn a s p.1 p.2)
def okW(gg:aD)(w:Wd)(t:Int):Prop:=(0<=t/\t<bE gg)/\∀ p∈w,(0<=p.1/\p.1<bE gg)/\(0<=p.2/\p.2<gg.aB)
def Ww(a:ae){s:Int}(h:s<0):∀ w t,¬ Nh a w t s:=λ w=>by
 intro t;induction w generalizing s with
 | nil=>intro q;unfold Nh rY at q;rw[if_neg (by omega)] at q;cases q
 | cons p w ih=>intro q;unfold Nh at q;rw[show jn a s p.1 p.2 = -1 from by rw[jn,if_pos h]] at q;exact ih (by decide) q
def a3K{gg:aD}{e:J}(h:dG gg e=0):(kv gg e).accept=pP gg (dm gg e)/\(kv gg e).next=iM gg e:=by rw[kv,b5Q h];exact⟨rfl,rfl⟩
def a4l{gg:aD}{ls:List J}{i:Nat}(hi:i<ls.length){t:Int}(h0:0<=t)(h1:t<bE gg):((pP gg ls).getD i []).getD t.toNat false=fV t (ls.getD i zE):=by
 have e:(pP gg ls).getD i []=EE (ls.getD i zE) (bE gg).toNat:=by simp[pP,b5P,hi]
 rw[e];have ht:t.toNat<(bE gg).toNat:=by omega
 have e2:((t.toNat:Nat):Int)=t:=by omega
 simp[EE,b5P,ht,e2]
def a1j{gg:aD}{e:J}(he:aF e=true)(h:dG gg e=0):∀ (w:Wd) (t:Int),okW gg w t->∀ i:Nat,i<(dm gg e).length->(Nh (kv gg e) w t (i:Int)↔cM ((dm gg e).getD i zE) w t)
 | [],t,ok,i,hi=>by
  have s:=a5N he h;have gi:=s.g _ (fW (z:=zE) hi);rw[meN gi,Nh,rY,b5Q (by omega),(a3K h).1,b5R,a4l hi ok.1.1 ok.1.2]
 | p::w,t,ok,i,hi=>by
  have s:=a5N he h;have gi:=s.g _ (fW (z:=zE) hi);have okp:=ok.2 p (by simp);have okw:okW gg w t:=⟨ok.1,λ q hq=>ok.2 q (by simp[hq])⟩;have r:=(s.r i hi).r p.1.toNat (by omega);have x0:p.2.toNat<gg.aB.toNat:=by omega
  have rt:=r.t p.2.toNat x0;have re:=r.e p.2.toNat x0;have e1:(0:Int)+((p.1.toNat:Nat):Int)=p.1:=by omega
  have e2:(0:Int)+((p.2.toNat:Nat):Int)=p.2:=by omega
  rw[e1,e2] at rt re;have m:=spM gi rt w t;have en:jn (kv gg e) (i:Int) p.1 p.2=(((iM gg e).getD i []).getD p.1.toNat []).getD p.2.toNat 0:=by rw[jn,b5I (by omega),(a3K h).2,b5R]
  rw[show (p::w:Wd)=(p.1,p.2)::w from rfl,<-m];show Nh (kv gg e) w t (jn (kv gg e) (i:Int) p.1 p.2)↔_;rw[en];rcases re with ⟨k1,k2⟩|⟨j,k1,k2,k3⟩
  .rw[k1];exact⟨λ q=>absurd q (Ww _ (by decide) w t),λ q=>absurd q (Ye ((No p.1 p.2 _ gi).g rt) k2 w t)⟩
  .rw[k1,<-k3];exact a1j he h w t okw j k2
def Vd{gg:aD}{e:J}(he:aF e=true)(h:dG gg e=0){w:Wd}{t:Int}(ok:okW gg w t):Nh (kv gg e) w t 0↔cM e w t:=by
 have s:=a5N he h;have l:=s.p.length_le;have:=a1j he h w t ok 0 (by simp only[b5S,b6d] at l;omega);rw[xd s.p (by simp)] at this;rw[show ((0:Nat):Int)=0 from rfl] at this;rw[this];exact tdM he w t
def stA(a:ae):Wd->Int->Int
 | [],s=>s
 | p::w,s=>stA a w (jn a s p.1 p.2)
def WA(a:ae):∀ (w:Wd) (t s:Int),Nh a w t s↔rY a (stA a w s) t=true
 | [],_,_=>b7k
 | _::w,t,_=>WA a w t _
def Sg(a:ae):∀ (u v:Wd) (s:Int),stA a (u++v) s=stA a v (stA a u s)
 | [],_,_=>rfl
 | _::u,v,_=>Sg a u v _
structure Zg(a b:ae)(r:ah):Prop where
 ex:∃ w:Wd,(∀ p∈w,(0<=p.1/\p.1<bE a.sig)/\(0<=p.2/\p.2<a.sig.aB))/\stA a w 0=r.pair.a0/\stA b w 0=r.pair.a1
def By(a b:ae)(ls:List ah):Prop:=∀ r∈ls,Zg a b r
def b1w{a b:ae}{ls:List ah}(h:By a b ls){q:ah}(hq:Zg a b q):By a b (Bh ls q):=by
 unfold Bh;split
 .exact h
 .intro r hr;rcases b5F.1 hr with k|k
  .exact h r k
  .rw[b5Z] at k;rw[k];exact hq
def b1x{a b:ae}(xG:AB a b){r:ah}(h:Zg a b r){i t x:Nat}(ht:t<mK a)(hx:x<kK a):Zg a b (rcQ a b r.pair i t x):=by
 obtain⟨w,h1,h2,h3⟩:=h;have l:=xG.ka.lens;refine⟨w++[((t:Int),(x:Int))],λ p hp=>?_,?_,?_⟩
 .rcases b5F.1 hp with k|k
  .exact h1 p k
  .rw[b5Z] at k;subst k;simp only;omega
 .rw[Sg,h2];rfl
 .rw[Sg,h3];rfl
def a5g{a b:ae}(xG:AB a b){r:ah}(h:Zg a b r){i t:Nat}(ht:t<mK a){ls:List ah}(hl:By a b ls):∀ x,x<=kK a->By a b (iy a b r.pair i t ls x)
 | 0,_=>hl
 | x+1,hx=>b1w (a5g xG h ht hl x (by omega)) (b1x xG h ht (by omega))
def a5f{a b:ae}(xG:AB a b){r:ah}(h:Zg a b r){i:Nat}{ls:List ah}(hl:By a b ls):∀ t,t<=mK a->By a b (fI a b r.pair i ls t)
 | 0,_=>hl
 | t+1,ht=>a5g xG h (by omega) (a5f xG h hl t (by omega)) _ (b6k _)
def a5e{a b:ae}(xG:AB a b):∀ i,By a b (aZ a b i)
 | 0=>λ r hr=>by
  simp only[aZ,b5Z] at hr;subst hr;exact⟨[],by simp,rfl,rfl⟩
 | i+1=>by
  have q:=a5e xG i;rw[aZ];split
  .rename_i hi;exact a5f xG (q _ (fW (z:=(ah.mk (aw.mk (0:Int) (0:Int)) (0:Int) (0:Int) (0:Int))) hi)) q _ (b6k _)
  .exact q
def UW(ls:List ah)(q:aw):Prop:=Lk q=true\/∃ r∈ls,r.pair=q
def UW.up{ls qK:List ah}{q:aw}(h:UW ls q)(p:ls <+: qK):UW qK q:=h.imp id λ ⟨r,h1,h2⟩=>⟨r,p.subset h1,h2⟩
def a5C(ls:List ah)(q:ah):ls <+: Bh ls q:=by unfold Bh;split;exact List.prefix_refl _;exact List.prefix_append _ _
def a8w(ls:List ah)(q:ah):UW (Bh ls q) q.pair:=by
 unfold Bh;split
 .rename_i h;exact h.imp id Bg.1
 .exact .inr ⟨q,by simp,rfl⟩
def a0B(a b:ae)(p:aw)(i t:Nat)(ls:List ah):∀ x,ls <+: iy a b p i t ls x
 | 0=>b7w _
 | x+1=>(a0B a b p i t ls x).trans (a5C _ _)
def a5E(a b:ae)(p:aw)(i:Nat)(ls:List ah):∀ t,ls <+: fI a b p i ls t
 | 0=>b7w _
 | t+1=>(a5E a b p i ls t).trans (a0B _ _ _ _ _ _ _)
def a2c(a b:ae)(p:aw)(i t:Nat)(ls:List ah):∀ x y,y<x->UW (iy a b p i t ls x) (YD a b p t y)
 | 0,y,h=>by omega
 | x+1,y,h=>by
  rcases b6E y x with r|r
  .exact (a2c a b p i t ls x y r).up (a5C _ _)
  .rw[show y=x by omega];exact a8w _ (rcQ a b p i t x)
def a2b(a b:ae)(p:aw)(i:Nat)(ls:List ah):∀ t s y,s<t->y<kK a->UW (fI a b p i ls t) (YD a b p s y)
 | 0,s,y,h,_=>by omega
 | t+1,s,y,h,hy=>by
  rcases b6E s t with r|r
  .exact (a2b a b p i ls t s y r hy).up (a0B _ _ _ _ _ _ _)
  .rw[show s=t by omega];exact a2c a b p i t _ _ y hy
def a5A(a b:ae)(i:Nat):aZ a b i <+: aZ a b (i+1):=by
 rw[aZ];split
 .exact a5E _ _ _ _ _ _
 .exact b7w _
def a1Z(a b:ae):∀ i j,j<i->j<(aZ a b i).length->∀ t y,t<mK a->y<kK a->UW (aZ a b i) (YD a b ((aZ a b i).getD j (ah.mk (aw.mk (0:Int) (0:Int)) (0:Int) (0:Int) (0:Int))).pair t y)
 | 0,j,h,_=>by omega
 | i+1,j,h,hj=>by
  intro t y ht hy;have p:=a5A a b i;rcases b6E j i with r|r
  .by_cases hl:j<(aZ a b i).length
   .rw[xd p hl];exact (a1Z a b i j r hl t y ht hy).up p
   .rw[aZ,b5I (by omega)] at hj;omega
  .rw[show j=i by omega] at hj ⊢;by_cases hl:i<(aZ a b i).length
   .rw[xd p hl,aZ,b5Q hl];exact a2b a b _ i _ _ t y ht hy
   .rw[aZ,b5I hl] at hj;omega
def a8u{a b:ae}(h:AB a b){r:ah}(hr:r∈dT a b){t y:Nat}(ht:t<mK a)(hy:y<kK a):UW (dT a b) (YD a b r.pair t y):=by
 obtain⟨j,hj,e⟩:=b8k hr;have f:=(Lj h).mS h;have q:(dT a b).getD j (ah.mk (aw.mk (0:Int) (0:Int)) (0:Int) (0:Int) (0:Int))=r:=by rw[b5P,b6e hj,e];rfl
 have:=a1Z a b (3722+nK a) j (by omega) hj t y ht hy;rw[<-q];exact this
def a8t{a b:ae}:∃ r∈dT a b,r.pair=aw.mk (0:Int) (0:Int):=by
 have:∀ i,aZ a b 0 <+: aZ a b i:=λ i=>by
  induction i with
  | zero=>exact b7w _
  | succ i ih=>exact ih.trans (a5A a b i)
 exact⟨_,(this _).subset (by rw[aZ];exact b9G _),rfl⟩
def b1U(a b:ae):Prop:=∀ w t,okW a.sig w t->(Nh a w t 0↔Nh b w t 0)
def Xp{a b:ae}(h:AB a b)(q:uu a b=true):∀ (w:Wd) (t:Int),okW a.sig w t->∀ p:aw,UW (dT a b) p->(Nh a w t p.a0↔Nh b w t p.a1)
 | w,t,ok,p,hp=>by
  have l:=h.ka.lens;rcases hp with hp|⟨r,hr,e⟩
  .simp only[Lk,b5M,b5K] at hp;exact⟨λ k=>absurd k (Ww a hp.1 w t),λ k=>absurd k (Ww b hp.2 w t)⟩
  .subst e;match w,ok with
   | [],ok =>
    obtain⟨j,hj,e⟩:=List.getElem_of_mem hr;have k:=EH.1 q j hj t.toNat (by have:=ok.1;omega);unfold QA at k;rw[List.getD_eq_getElem?_getD,List.getElem?_eq_getElem hj] at k;simp only[Option.getD_some,e] at k;rw[show ((t.toNat:Nat):Int)=t by have:=ok.1;omega] at k;show rY a _ t=true↔rY b _ t=true;rw[k]
   | z::w,ok =>
    have okz:=ok.2 z (by simp);have okw:okW a.sig w t:=⟨ok.1,λ y hy=>ok.2 y (by simp[hy])⟩;have k:=Xp h q w t okw _ (a8u h hr (t:=z.1.toNat) (y:=z.2.toNat) (by omega) (by omega));unfold YD at k;rw[show ((z.1.toNat:Nat):Int)=z.1 by omega,show ((z.2.toNat:Nat):Int)=z.2 by omega] at k;exact k
def Ge{a b:ae}(h:AB a b):uu a b=true↔b1U a b:=by
 constructor
 .intro q w t ok;exact Xp h q w t ok (aw.mk 0 0) (.inr a8t)
 .intro q;rw[EH];intro i hi t ht;have l:=h.ka.lens;obtain⟨w,h1,h2,h3⟩:=(a5e h _ _ (fW (z:=(ah.mk (aw.mk (0:Int) (0:Int)) (0:Int) (0:Int) (0:Int))) (show i<(aZ a b (3722+nK a)).length from hi)):Zg a b ((dT a b).getD i (ah.mk (aw.mk (0:Int) (0:Int)) (0:Int) (0:Int) (0:Int))));have k:=q w (t:Int) ⟨by omega,h1⟩;rw[WA,WA,h2,h3] at k;exact b8H.2 k
def b1T(gg:aD)(e f:J):Prop:=∀ w t,okW gg w t->(cM e w t↔cM f w t)
def a4k{gg:aD}{e f:J}(h:jo gg e f=0):Iu gg e f=true↔b1T gg e f:=by
 have k:=a1o h;have q:=CD k.s;have r:=CD k.t;rw[Iu,b5Q h,Ge (ZA h)];constructor
 .intro m w t ok;have:=m w t (by rw[Pr k.a];exact ok);rw[Vd q.g k.a ok,Vd r.g k.b ok] at this;exact this
 .intro m w t ok;rw[Pr k.a] at ok;rw[Vd q.g k.a ok,Vd r.g k.b ok];exact m w t ok
def a9Z(ts as_:List J)(hc:∀ i,i<ts.length->bY (ts.getD i zE)=true)(hn:0<=ts.length):sW (cU ts as_ (J.mk (6:Int) (0:Int) [(J.mk (4:Int) (0:Int) []),(J.mk (6:Int) (0:Int) [(J.mk (4:Int) (1:Int) []),(J.mk (4:Int) (2:Int) [])])])) (cU ts as_ (J.mk (6:Int) (0:Int) [(J.mk (6:Int) (0:Int) [(J.mk (4:Int) (0:Int) []),(J.mk (4:Int) (1:Int) [])]),(J.mk (4:Int) (2:Int) [])])):=b0r (as_.getD 0 zE) (as_.getD 1 zE) (as_.getD 2 zE)
def b0a(ts as_:List J)(hc:∀ i,i<ts.length->bY (ts.getD i zE)=true)(hn:0<=ts.length):sW (cU ts as_ (J.mk (6:Int) (0:Int) [(J.mk (4:Int) (0:Int) []),(J.mk (4:Int) (1:Int) [])])) (cU ts as_ (J.mk (6:Int) (0:Int) [(J.mk (4:Int) (1:Int) []),(J.mk (4:Int) (0:Int) [])])):=b0s (as_.getD 0 zE) (as_.getD 1 zE)
def b0b(ts as_:List J)(hc:∀ i,i<ts.length->bY (ts.getD i zE)=true)(hn:0<=ts.length):sW (cU ts as_ (J.mk (6:Int) (0:Int) [(J.mk (4:Int) (0:Int) []),(J.mk (1:Int) (0:Int) [])])) (cU ts as_ (J.mk (4:Int) (0:Int) [])):=b0t (as_.getD 0 zE)
def b0c(ts as_:List J)(hc:∀ i,i<ts.length->bY (ts.getD i zE)=true)(hn:0<=ts.length):sW (cU ts as_ (J.mk (6:Int) (0:Int) [(J.mk (4:Int) (0:Int) []),(J.mk (4:Int) (0:Int) [])])) (cU ts as_ (J.mk (4:Int) (0:Int) [])):=b0u (as_.getD 0 zE)
def b0d(ts as_:List J)(hc:∀ i,i<ts.length->bY (ts.getD i zE)=true)(hn:0<=ts.length):sW (cU ts as_ (J.mk (7:Int) (0:Int) [(J.mk (4:Int) (0:Int) []),(J.mk (7:Int) (0:Int) [(J.mk (4:Int) (1:Int) []),(J.mk (4:Int) (2:Int) [])])])) (cU ts as_ (J.mk (7:Int) (0:Int) [(J.mk (7:Int) (0:Int) [(J.mk (4:Int) (0:Int) []),(J.mk (4:Int) (1:Int) [])]),(J.mk (4:Int) (2:Int) [])])):=b0v (as_.getD 0 zE) (as_.getD 1 zE) (as_.getD 2 zE)
def b0e(ts as_:List J)(hc:∀ i,i<ts.length->bY (ts.getD i zE)=true)(hn:0<=ts.length):sW (cU ts as_ (J.mk (7:Int) (0:Int) [(J.mk (2:Int) (0:Int) []),(J.mk (4:Int) (0:Int) [])])) (cU ts as_ (J.mk (4:Int) (0:Int) [])):=b0w (as_.getD 0 zE)
def b0f(ts as_:List J)(hc:∀ i,i<ts.length->bY (ts.getD i zE)=true)(hn:0<=ts.length):sW (cU ts as_ (J.mk (7:Int) (0:Int) [(J.mk (4:Int) (0:Int) []),(J.mk (2:Int) (0:Int) [])])) (cU ts as_ (J.mk (4:Int) (0:Int) [])):=b0x (as_.getD 0 zE)
def b0g(ts as_:List J)(hc:∀ i,i<ts.length->bY (ts.getD i zE)=true)(hn:0<=ts.length):sW (cU ts as_ (J.mk (7:Int) (0:Int) [(J.mk (4:Int) (0:Int) []),(J.mk (6:Int) (0:Int) [(J.mk (4:Int) (1:Int) []),(J.mk (4:Int) (2:Int) [])])])) (cU ts as_ (J.mk (6:Int) (0:Int) [(J.mk (7:Int) (0:Int) [(J.mk (4:Int) (0:Int) []),(J.mk (4:Int) (1:Int) [])]),(J.mk (7:Int) (0:Int) [(J.mk (4:Int) (0:Int) []),(J.mk (4:Int) (2:Int) [])])])):=b0y (as_.getD 0 zE) (as_.getD 1 zE) (as_.getD 2 zE)
def b0h(ts as_:List J)(hc:∀ i,i<ts.length->bY (ts.getD i zE)=true)(hn:0<=ts.length):sW (cU ts as_ (J.mk (7:Int) (0:Int) [(J.mk (6:Int) (0:Int) [(J.mk (4:Int) (0:Int) []),(J.mk (4:Int) (1:Int) [])]),(J.mk (4:Int) (2:Int) [])])) (cU ts as_ (J.mk (6:Int) (0:Int) [(J.mk (7:Int) (0:Int) [(J.mk (4:Int) (0:Int) []),(J.mk (4:Int) (2:Int) [])]),(J.mk (7:Int) (0:Int) [(J.mk (4:Int) (1:Int) []),(J.mk (4:Int) (2:Int) [])])])):=b0z (as_.getD 0 zE) (as_.getD 1 zE) (as_.getD 2 zE)
def a6G(ts as_:List J)(hc:∀ i,i<ts.length->bY (ts.getD i zE)=true)(hn:0<=ts.length):sW (cU ts as_ (J.mk (7:Int) (0:Int) [(J.mk (1:Int) (0:Int) []),(J.mk (4:Int) (0:Int) [])])) (cU ts as_ (J.mk (1:Int) (0:Int) [])):=a7l (as_.getD 0 zE)
def a6H(ts as_:List J)(hc:∀ i,i<ts.length->bY (ts.getD i zE)=true)(hn:0<=ts.length):sW (cU ts as_ (J.mk (7:Int) (0:Int) [(J.mk (4:Int) (0:Int) []),(J.mk (1:Int) (0:Int) [])])) (cU ts as_ (J.mk (1:Int) (0:Int) [])):=a7m (as_.getD 0 zE)
def a6I(ts as_:List J)(hc:∀ i,i<ts.length->bY (ts.getD i zE)=true)(hn:0<=ts.length):sW (cU ts as_ (J.mk (6:Int) (0:Int) [(J.mk (2:Int) (0:Int) []),(J.mk (7:Int) (0:Int) [(J.mk (4:Int) (0:Int) []),(J.mk (8:Int) (0:Int) [(J.mk (4:Int) (0:Int) [])])])])) (cU ts as_ (J.mk (8:Int) (0:Int) [(J.mk (4:Int) (0:Int) [])])):=a7n (as_.getD 0 zE)
def a6J(ts as_:List J)(hc:∀ i,i<ts.length->bY (ts.getD i zE)=true)(hn:0<=ts.length):sW (cU ts as_ (J.mk (6:Int) (0:Int) [(J.mk (2:Int) (0:Int) []),(J.mk (7:Int) (0:Int) [(J.mk (8:Int) (0:Int) [(J.mk (4:Int) (0:Int) [])]),(J.mk (4:Int) (0:Int) [])])])) (cU ts as_ (J.mk (8:Int) (0:Int) [(J.mk (4:Int) (0:Int) [])])):=a7o (as_.getD 0 zE)
def a6K(ts as_:List J)(hc:∀ i,i<ts.length->bY (ts.getD i zE)=true)(hn:1<=ts.length):sW (cU ts as_ (J.mk (7:Int) (0:Int) [(J.mk (3:Int) (0:Int) []),(J.mk (3:Int) (0:Int) [])])) (cU ts as_ (J.mk (3:Int) (0:Int) [])):=a7p (ts.getD 0 zE) (hc 0 (by omega))
def a6L(ts as_:List J)(hc:∀ i,i<ts.length->bY (ts.getD i zE)=true)(hn:2<=ts.length):sW (cU ts as_ (J.mk (7:Int) (0:Int) [(J.mk (3:Int) (0:Int) []),(J.mk (3:Int) (1:Int) [])])) (cU ts as_ (J.mk (7:Int) (0:Int) [(J.mk (3:Int) (1:Int) []),(J.mk (3:Int) (0:Int) [])])):=a7q (ts.getD 0 zE) (ts.getD 1 zE) (hc 0 (by omega)) (hc 1 (by omega))
def a6M(ts as_:List J)(hc:∀ i,i<ts.length->bY (ts.getD i zE)=true)(hn:1<=ts.length):sW (cU ts as_ (J.mk (6:Int) (0:Int) [(J.mk (3:Int) (0:Int) []),(J.mk (5:Int) (0:Int) [(J.mk (3:Int) (0:Int) [])])])) (cU ts as_ (J.mk (2:Int) (0:Int) [])):=a7r (ts.getD 0 zE) (hc 0 (by omega))
def a6N(ts as_:List J)(hc:∀ i,i<ts.length->bY (ts.getD i zE)=true)(hn:1<=ts.length):sW (cU ts as_ (J.mk (7:Int) (0:Int) [(J.mk (3:Int) (0:Int) []),(J.mk (5:Int) (0:Int) [(J.mk (3:Int) (0:Int) [])])])) (cU ts as_ (J.mk (1:Int) (0:Int) [])):=a7s (ts.getD 0 zE) (hc 0 (by omega))
def a6O(ts as_:List J)(hc:∀ i,i<ts.length->bY (ts.getD i zE)=true)(hn:1<=ts.length):sW (cU ts as_ (J.mk (5:Int) (0:Int) [(J.mk (5:Int) (0:Int) [(J.mk (3:Int) (0:Int) [])])])) (cU ts as_ (J.mk (3:Int) (0:Int) [])):=a7t (ts.getD 0 zE) (hc 0 (by omega))
def a6P(ts as_:List J)(hc:∀ i,i<ts.length->bY (ts.getD i zE)=true)(hn:2<=ts.length):sW (cU ts as_ (J.mk (5:Int) (0:Int) [(J.mk (6:Int) (0:Int) [(J.mk (3:Int) (0:Int) []),(J.mk (3:Int) (1:Int) [])])])) (cU ts as_ (J.mk (7:Int) (0:Int) [(J.mk (5:Int) (0:Int) [(J.mk (3:Int) (0:Int) [])]),(J.mk (5:Int) (0:Int) [(J.mk (3:Int) (1:Int) [])])])):=a7u (ts.getD 0 zE) (ts.getD 1 zE) (hc 0 (by omega)) (hc 1 (by omega))
def a6Q(ts as_:List J)(hc:∀ i,i<ts.length->bY (ts.getD i zE)=true)(hn:2<=ts.length):sW (cU ts as_ (J.mk (5:Int) (0:Int) [(J.mk (7:Int) (0:Int) [(J.mk (3:Int) (0:Int) []),(J.mk (3:Int) (1:Int) [])])])) (cU ts as_ (J.mk (6:Int) (0:Int) [(J.mk (5:Int) (0:Int) [(J.mk (3:Int) (0:Int) [])]),(J.mk (5:Int) (0:Int) [(J.mk (3:Int) (1:Int) [])])])):=a7v (ts.getD 0 zE) (ts.getD 1 zE) (hc 0 (by omega)) (hc 1 (by omega))
def a6R(ts as_:List J)(hc:∀ i,i<ts.length->bY (ts.getD i zE)=true)(hn:0<=ts.length):sW (cU ts as_ (J.mk (5:Int) (0:Int) [(J.mk (1:Int) (0:Int) [])])) (cU ts as_ (J.mk (2:Int) (0:Int) [])):=a7w
def a6S(ts as_:List J)(hc:∀ i,i<ts.length->bY (ts.getD i zE)=true)(hn:0<=ts.length):sW (cU ts as_ (J.mk (5:Int) (0:Int) [(J.mk (2:Int) (0:Int) [])])) (cU ts as_ (J.mk (1:Int) (0:Int) [])):=a7x
def a6T(ts as_:List J)(hc:∀ i,i<ts.length->bY (ts.getD i zE)=true)(hn:1<=ts.length):sW (cU ts as_ (J.mk (6:Int) (0:Int) [(J.mk (3:Int) (0:Int) []),(J.mk (2:Int) (0:Int) [])])) (cU ts as_ (J.mk (2:Int) (0:Int) [])):=a7y (ts.getD 0 zE) (hc 0 (by omega))
def a6U(ts as_:List J)(hc:∀ i,i<ts.length->bY (ts.getD i zE)=true)(hn:3<=ts.length):sW (cU ts as_ (J.mk (7:Int) (0:Int) [(J.mk (6:Int) (0:Int) [(J.mk (3:Int) (0:Int) []),(J.mk (3:Int) (1:Int) [])]),(J.mk (6:Int) (0:Int) [(J.mk (3:Int) (0:Int) []),(J.mk (3:Int) (2:Int) [])])])) (cU ts as_ (J.mk (6:Int) (0:Int) [(J.mk (3:Int) (0:Int) []),(J.mk (7:Int) (0:Int) [(J.mk (3:Int) (1:Int) []),(J.mk (3:Int) (2:Int) [])])])):=a7z (ts.getD 0 zE) (ts.getD 1 zE) (ts.getD 2 zE) (hc 0 (by omega)) (hc 1 (by omega)) (hc 2 (by omega))
abbrev ZQ:aE:=aE.mk zE zE
def b0i:axQ.getD 0 ZQ=aE.mk (J.mk (6:Int) (0:Int) [(J.mk (4:Int) (0:Int) []),(J.mk (6:Int) (0:Int) [(J.mk (4:Int) (1:Int) []),(J.mk (4:Int) (2:Int) [])])]) (J.mk (6:Int) (0:Int) [(J.mk (6:Int) (0:Int) [(J.mk (4:Int) (0:Int) []),(J.mk (4:Int) (1:Int) [])]),(J.mk (4:Int) (2:Int) [])]):=by kernel_rfl
def b0j:axQ.getD 1 ZQ=aE.mk (J.mk (6:Int) (0:Int) [(J.mk (4:Int) (0:Int) []),(J.mk (4:Int) (1:Int) [])]) (J.mk (6:Int) (0:Int) [(J.mk (4:Int) (1:Int) []),(J.mk (4:Int) (0:Int) [])]):=by kernel_rfl
def b0k:axQ.getD 2 ZQ=aE.mk (J.mk (6:Int) (0:Int) [(J.mk (4:Int) (0:Int) []),(J.mk (1:Int) (0:Int) [])]) (J.mk (4:Int) (0:Int) []):=by kernel_rfl
def b0l:axQ.getD 3 ZQ=aE.mk (J.mk (6:Int) (0:Int) [(J.mk (4:Int) (0:Int) []),(J.mk (4:Int) (0:Int) [])]) (J.mk (4:Int) (0:Int) []):=by kernel_rfl
def b0m:axQ.getD 4 ZQ=aE.mk (J.mk (7:Int) (0:Int) [(J.mk (4:Int) (0:Int) []),(J.mk (7:Int) (0:Int) [(J.mk (4:Int) (1:Int) []),(J.mk (4:Int) (2:Int) [])])]) (J.mk (7:Int) (0:Int) [(J.mk (7:Int) (0:Int) [(J.mk (4:Int) (0:Int) []),(J.mk (4:Int) (1:Int) [])]),(J.mk (4:Int) (2:Int) [])]):=by kernel_rfl
def b0n:axQ.getD 5 ZQ=aE.mk (J.mk (7:Int) (0:Int) [(J.mk (2:Int) (0:Int) []),(J.mk (4:Int) (0:Int) [])]) (J.mk (4:Int) (0:Int) []):=by kernel_rfl
def b0o:axQ.getD 6 ZQ=aE.mk (J.mk (7:Int) (0:Int) [(J.mk (4:Int) (0:Int) []),(J.mk (2:Int) (0:Int) [])]) (J.mk (4:Int) (0:Int) []):=by kernel_rfl
def b0p:axQ.getD 7 ZQ=aE.mk (J.mk (7:Int) (0:Int) [(J.mk (4:Int) (0:Int) []),(J.mk (6:Int) (0:Int) [(J.mk (4:Int) (1:Int) []),(J.mk (4:Int) (2:Int) [])])]) (J.mk (6:Int) (0:Int) [(J.mk (7:Int) (0:Int) [(J.mk (4:Int) (0:Int) []),(J.mk (4:Int) (1:Int) [])]),(J.mk (7:Int) (0:Int) [(J.mk (4:Int) (0:Int) []),(J.mk (4:Int) (2:Int) [])])]):=by kernel_rfl
def b0q:axQ.getD 8 ZQ=aE.mk (J.mk (7:Int) (0:Int) [(J.mk (6:Int) (0:Int) [(J.mk (4:Int) (0:Int) []),(J.mk (4:Int) (1:Int) [])]),(J.mk (4:Int) (2:Int) [])]) (J.mk (6:Int) (0:Int) [(J.mk (7:Int) (0:Int) [(J.mk (4:Int) (0:Int) []),(J.mk (4:Int) (2:Int) [])]),(J.mk (7:Int) (0:Int) [(J.mk (4:Int) (1:Int) []),(J.mk (4:Int) (2:Int) [])])]):=by kernel_rfl
def a6W:axQ.getD 9 ZQ=aE.mk (J.mk (7:Int) (0:Int) [(J.mk (1:Int) (0:Int) []),(J.mk (4:Int) (0:Int) [])]) (J.mk (1:Int) (0:Int) []):=by kernel_rfl
def a6X:axQ.getD 10 ZQ=aE.mk (J.mk (7:Int) (0:Int) [(J.mk (4:Int) (0:Int) []),(J.mk (1:Int) (0:Int) [])]) (J.mk (1:Int) (0:Int) []):=by kernel_rfl
def a6Y:axQ.getD 11 ZQ=aE.mk (J.mk (6:Int) (0:Int) [(J.mk (2:Int) (0:Int) []),(J.mk (7:Int) (0:Int) [(J.mk (4:Int) (0:Int) []),(J.mk (8:Int) (0:Int) [(J.mk (4:Int) (0:Int) [])])])]) (J.mk (8:Int) (0:Int) [(J.mk (4:Int) (0:Int) [])]):=by kernel_rfl
def a6Z:axQ.getD 12 ZQ=aE.mk (J.mk (6:Int) (0:Int) [(J.mk (2:Int) (0:Int) []),(J.mk (7:Int) (0:Int) [(J.mk (8:Int) (0:Int) [(J.mk (4:Int) (0:Int) [])]),(J.mk (4:Int) (0:Int) [])])]) (J.mk (8:Int) (0:Int) [(J.mk (4:Int) (0:Int) [])]):=by kernel_rfl
def a7a:axQ.getD 13 ZQ=aE.mk (J.mk (7:Int) (0:Int) [(J.mk (3:Int) (0:Int) []),(J.mk (3:Int) (0:Int) [])]) (J.mk (3:Int) (0:Int) []):=by kernel_rfl
def a7b:axQ.getD 14 ZQ=aE.mk (J.mk (7:Int) (0:Int) [(J.mk (3:Int) (0:Int) []),(J.mk (3:Int) (1:Int) [])]) (J.mk (7:Int) (0:Int) [(J.mk (3:Int) (1:Int) []),(J.mk (3:Int) (0:Int) [])]):=by kernel_rfl
def a7c:axQ.getD 15 ZQ=aE.mk (J.mk (6:Int) (0:Int) [(J.mk (3:Int) (0:Int) []),(J.mk (5:Int) (0:Int) [(J.mk (3:Int) (0:Int) [])])]) (J.mk (2:Int) (0:Int) []):=by kernel_rfl
def a7d:axQ.getD 16 ZQ=aE.mk (J.mk (7:Int) (0:Int) [(J.mk (3:Int) (0:Int) []),(J.mk (5:Int) (0:Int) [(J.mk (3:Int) (0:Int) [])])]) (J.mk (1:Int) (0:Int) []):=by kernel_rfl
def a7e:axQ.getD 17 ZQ=aE.mk (J.mk (5:Int) (0:Int) [(J.mk (5:Int) (0:Int) [(J.mk (3:Int) (0:Int) [])])]) (J.mk (3:Int) (0:Int) []):=by kernel_rfl
def a7f:axQ.getD 18 ZQ=aE.mk (J.mk (5:Int) (0:Int) [(J.mk (6:Int) (0:Int) [(J.mk (3:Int) (0:Int) []),(J.mk (3:Int) (1:Int) [])])]) (J.mk (7:Int) (0:Int) [(J.mk (5:Int) (0:Int) [(J.mk (3:Int) (0:Int) [])]),(J.mk (5:Int) (0:Int) [(J.mk (3:Int) (1:Int) [])])]):=by kernel_rfl
def a7g:axQ.getD 19 ZQ=aE.mk (J.mk (5:Int) (0:Int) [(J.mk (7:Int) (0:Int) [(J.mk (3:Int) (0:Int) []),(J.mk (3:Int) (1:Int) [])])]) (J.mk (6:Int) (0:Int) [(J.mk (5:Int) (0:Int) [(J.mk (3:Int) (0:Int) [])]),(J.mk (5:Int) (0:Int) [(J.mk (3:Int) (1:Int) [])])]):=by kernel_rfl
def a7h:axQ.getD 20 ZQ=aE.mk (J.mk (5:Int) (0:Int) [(J.mk (1:Int) (0:Int) [])]) (J.mk (2:Int) (0:Int) []):=by kernel_rfl
def a7i:axQ.getD 21 ZQ=aE.mk (J.mk (5:Int) (0:Int) [(J.mk (2:Int) (0:Int) [])]) (J.mk (1:Int) (0:Int) []):=by kernel_rfl
def a7j:axQ.getD 22 ZQ=aE.mk (J.mk (6:Int) (0:Int) [(J.mk (3:Int) (0:Int) []),(J.mk (2:Int) (0:Int) [])]) (J.mk (2:Int) (0:Int) []):=by kernel_rfl
def a7k:axQ.getD 23 ZQ=aE.mk (J.mk (7:Int) (0:Int) [(J.mk (6:Int) (0:Int) [(J.mk (3:Int) (0:Int) []),(J.mk (3:Int) (1:Int) [])]),(J.mk (6:Int) (0:Int) [(J.mk (3:Int) (0:Int) []),(J.mk (3:Int) (2:Int) [])])]) (J.mk (6:Int) (0:Int) [(J.mk (3:Int) (0:Int) []),(J.mk (7:Int) (0:Int) [(J.mk (3:Int) (1:Int) []),(J.mk (3:Int) (2:Int) [])])]):=by kernel_rfl
def a6V(ts as_:List J)(hc:∀ i,i<ts.length->bY (ts.getD i zE)=true)(k:Nat)(hk:k<24)(h:(topEs [(axQ.getD k ZQ).left,(axQ.getD k ZQ).right]).1<=(ts.length:Int)):sW (cU ts as_ (axQ.getD k ZQ).left) (cU ts as_ (axQ.getD k ZQ).right):=by
 have:k=0\/k=1\/k=2\/k=3\/k=4\/k=5\/k=6\/k=7\/k=8\/k=9\/k=10\/k=11\/k=12\/k=13\/k=14\/k=15\/k=16\/k=17\/k=18\/k=19\/k=20\/k=21\/k=22\/k=23:=by omega
 rcases this with e|e|e|e|e|e|e|e|e|e|e|e|e|e|e|e|e|e|e|e|e|e|e|e<;>subst e
 .rw[b0i] at h ⊢;have e:(topEs [(J.mk (6:Int) (0:Int) [(J.mk (4:Int) (0:Int) []),(J.mk (6:Int) (0:Int) [(J.mk (4:Int) (1:Int) []),(J.mk (4:Int) (2:Int) [])])]),(J.mk (6:Int) (0:Int) [(J.mk (6:Int) (0:Int) [(J.mk (4:Int) (0:Int) []),(J.mk (4:Int) (1:Int) [])]),(J.mk (4:Int) (2:Int) [])])]).1=0:=by kernel_rfl
  have h:(topEs [(J.mk (6:Int) (0:Int) [(J.mk (4:Int) (0:Int) []),(J.mk (6:Int) (0:Int) [(J.mk (4:Int) (1:Int) []),(J.mk (4:Int) (2:Int) [])])]),(J.mk (6:Int) (0:Int) [(J.mk (6:Int) (0:Int) [(J.mk (4:Int) (0:Int) []),(J.mk (4:Int) (1:Int) [])]),(J.mk (4:Int) (2:Int) [])])]).1<=(ts.length:Int):=h;have n:0<=ts.length:=by omega
  exact a9Z ts as_ hc n
 .rw[b0j] at h ⊢;have e:(topEs [(J.mk (6:Int) (0:Int) [(J.mk (4:Int) (0:Int) []),(J.mk (4:Int) (1:Int) [])]),(J.mk (6:Int) (0:Int) [(J.mk (4:Int) (1:Int) []),(J.mk (4:Int) (0:Int) [])])]).1=0:=by kernel_rfl
  have h:(topEs [(J.mk (6:Int) (0:Int) [(J.mk (4:Int) (0:Int) []),(J.mk (4:Int) (1:Int) [])]),(J.mk (6:Int) (0:Int) [(J.mk (4:Int) (1:Int) []),(J.mk (4:Int) (0:Int) [])])]).1<=(ts.length:Int):=h;have n:0<=ts.length:=by omega
  exact b0a ts as_ hc n
 .rw[b0k] at h ⊢;have e:(topEs [(J.mk (6:Int) (0:Int) [(J.mk (4:Int) (0:Int) []),(J.mk (1:Int) (0:Int) [])]),(J.mk (4:Int) (0:Int) [])]).1=0:=by kernel_rfl
  have h:(topEs [(J.mk (6:Int) (0:Int) [(J.mk (4:Int) (0:Int) []),(J.mk (1:Int) (0:Int) [])]),(J.mk (4:Int) (0:Int) [])]).1<=(ts.length:Int):=h;have n:0<=ts.length:=by omega
  exact b0b ts as_ hc n
 .rw[b0l] at h ⊢;have e:(topEs [(J.mk (6:Int) (0:Int) [(J.mk (4:Int) (0:Int) []),(J.mk (4:Int) (0:Int) [])]),(J.mk (4:Int) (0:Int) [])]).1=0:=by kernel_rfl
  have h:(topEs [(J.mk (6:Int) (0:Int) [(J.mk (4:Int) (0:Int) []),(J.mk (4:Int) (0:Int) [])]),(J.mk (4:Int) (0:Int) [])]).1<=(ts.length:Int):=h;have n:0<=ts.length:=by omega
  exact b0c ts as_ hc n
 .rw[b0m] at h ⊢;have e:(topEs [(J.mk (7:Int) (0:Int) [(J.mk (4:Int) (0:Int) []),(J.mk (7:Int) (0:Int) [(J.mk (4:Int) (1:Int) []),(J.mk (4:Int) (2:Int) [])])]),(J.mk (7:Int) (0:Int) [(J.mk (7:Int) (0:Int) [(J.mk (4:Int) (0:Int) []),(J.mk (4:Int) (1:Int) [])]),(J.mk (4:Int) (2:Int) [])])]).1=0:=by kernel_rfl
  have h:(topEs [(J.mk (7:Int) (0:Int) [(J.mk (4:Int) (0:Int) []),(J.mk (7:Int) (0:Int) [(J.mk (4:Int) (1:Int) []),(J.mk (4:Int) (2:Int) [])])]),(J.mk (7:Int) (0:Int) [(J.mk (7:Int) (0:Int) [(J.mk (4:Int) (0:Int) []),(J.mk (4:Int) (1:Int) [])]),(J.mk (4:Int) (2:Int) [])])]).1<=(ts.length:Int):=h;have n:0<=ts.length:=by omega
  exact b0d ts as_ hc n
 .rw[b0n] at h ⊢;have e:(topEs [(J.mk (7:Int) (0:Int) [(J.mk (2:Int) (0:Int) []),(J.mk (4:Int) (0:Int) [])]),(J.mk (4:Int) (0:Int) [])]).1=0:=by kernel_rfl
  have h:(topEs [(J.mk (7:Int) (0:Int) [(J.mk (2:Int) (0:Int) []),(J.mk (4:Int) (0:Int) [])]),(J.mk (4:Int) (0:Int) [])]).1<=(ts.length:Int):=h;have n:0<=ts.length:=by omega
  exact b0e ts as_ hc n
 .rw[b0o] at h ⊢;have e:(topEs [(J.mk (7:Int) (0:Int) [(J.mk (4:Int) (0:Int) []),(J.mk (2:Int) (0:Int) [])]),(J.mk (4:Int) (0:Int) [])]).1=0:=by kernel_rfl
  have h:(topEs [(J.mk (7:Int) (0:Int) [(J.mk (4:Int) (0:Int) []),(J.mk (2:Int) (0:Int) [])]),(J.mk (4:Int) (0:Int) [])]).1<=(ts.length:Int):=h;have n:0<=ts.length:=by omega
  exact b0f ts as_ hc n
 .rw[b0p] at h ⊢;have e:(topEs [(J.mk (7:Int) (0:Int) [(J.mk (4:Int) (0:Int) []),(J.mk (6:Int) (0:Int) [(J.mk (4:Int) (1:Int) []),(J.mk (4:Int) (2:Int) [])])]),(J.mk (6:Int) (0:Int) [(J.mk (7:Int) (0:Int) [(J.mk (4:Int) (0:Int) []),(J.mk (4:Int) (1:Int) [])]),(J.mk (7:Int) (0:Int) [(J.mk (4:Int) (0:Int) []),(J.mk (4:Int) (2:Int) [])])])]).1=0:=by kernel_rfl
  have h:(topEs [(J.mk (7:Int) (0:Int) [(J.mk (4:Int) (0:Int) []),(J.mk (6:Int) (0:Int) [(J.mk (4:Int) (1:Int) []),(J.mk (4:Int) (2:Int) [])])]),(J.mk (6:Int) (0:Int) [(J.mk (7:Int) (0:Int) [(J.mk (4:Int) (0:Int) []),(J.mk (4:Int) (1:Int) [])]),(J.mk (7:Int) (0:Int) [(J.mk (4:Int) (0:Int) []),(J.mk (4:Int) (2:Int) [])])])]).1<=(ts.length:Int):=h;have n:0<=ts.length:=by omega
  exact b0g ts as_ hc n
 .rw[b0q] at h ⊢;have e:(topEs [(J.mk (7:Int) (0:Int) [(J.mk (6:Int) (0:Int) [(J.mk (4:Int) (0:Int) []),(J.mk (4:Int) (1:Int) [])]),(J.mk (4:Int) (2:Int) [])]),(J.mk (6:Int) (0:Int) [(J.mk (7:Int) (0:Int) [(J.mk (4:Int) (0:Int) []),(J.mk (4:Int) (2:Int) [])]),(J.mk (7:Int) (0:Int) [(J.mk (4:Int) (1:Int) []),(J.mk (4:Int) (2:Int) [])])])]).1=0:=by kernel_rfl
  have h:(topEs [(J.mk (7:Int) (0:Int) [(J.mk (6:Int) (0:Int) [(J.mk (4:Int) (0:Int) []),(J.mk (4:Int) (1:Int) [])]),(J.mk (4:Int) (2:Int) [])]),(J.mk (6:Int) (0:Int) [(J.mk (7:Int) (0:Int) [(J.mk (4:Int) (0:Int) []),(J.mk (4:Int) (2:Int) [])]),(J.mk (7:Int) (0:Int) [(J.mk (4:Int) (1:Int) []),(J.mk (4:Int) (2:Int) [])])])]).1<=(ts.length:Int):=h;have n:0<=ts.length:=by omega
  exact b0h ts as_ hc n
 .rw[a6W] at h ⊢;have e:(topEs [(J.mk (7:Int) (0:Int) [(J.mk (1:Int) (0:Int) []),(J.mk (4:Int) (0:Int) [])]),(J.mk (1:Int) (0:Int) [])]).1=0:=by kernel_rfl
  have h:(topEs [(J.mk (7:Int) (0:Int) [(J.mk (1:Int) (0:Int) []),(J.mk (4:Int) (0:Int) [])]),(J.mk (1:Int) (0:Int) [])]).1<=(ts.length:Int):=h;have n:0<=ts.length:=by omega
  exact a6G ts as_ hc n
 .rw[a6X] at h ⊢;have e:(topEs [(J.mk (7:Int) (0:Int) [(J.mk (4:Int) (0:Int) []),(J.mk (1:Int) (0:Int) [])]),(J.mk (1:Int) (0:Int) [])]).1=0:=by kernel_rfl
  have h:(topEs [(J.mk (7:Int) (0:Int) [(J.mk (4:Int) (0:Int) []),(J.mk (1:Int) (0:Int) [])]),(J.mk (1:Int) (0:Int) [])]).1<=(ts.length:Int):=h;have n:0<=ts.length:=by omega
  exact a6H ts as_ hc n
 .rw[a6Y] at h ⊢;have e:(topEs [(J.mk (6:Int) (0:Int) [(J.mk (2:Int) (0:Int) []),(J.mk (7:Int) (0:Int) [(J.mk (4:Int) (0:Int) []),(J.mk (8:Int) (0:Int) [(J.mk (4:Int) (0:Int) [])])])]),(J.mk (8:Int) (0:Int) [(J.mk (4:Int) (0:Int) [])])]).1=0:=by kernel_rfl
  have h:(topEs [(J.mk (6:Int) (0:Int) [(J.mk (2:Int) (0:Int) []),(J.mk (7:Int) (0:Int) [(J.mk (4:Int) (0:Int) []),(J.mk (8:Int) (0:Int) [(J.mk (4:Int) (0:Int) [])])])]),(J.mk (8:Int) (0:Int) [(J.mk (4:Int) (0:Int) [])])]).1<=(ts.length:Int):=h;have n:0<=ts.length:=by omega
  exact a6I ts as_ hc n
 .rw[a6Z] at h ⊢;have e:(topEs [(J.mk (6:Int) (0:Int) [(J.mk (2:Int) (0:Int) []),(J.mk (7:Int) (0:Int) [(J.mk (8:Int) (0:Int) [(J.mk (4:Int) (0:Int) [])]),(J.mk (4:Int) (0:Int) [])])]),(J.mk (8:Int) (0:Int) [(J.mk (4:Int) (0:Int) [])])]).1=0:=by kernel_rfl
  have h:(topEs [(J.mk (6:Int) (0:Int) [(J.mk (2:Int) (0:Int) []),(J.mk (7:Int) (0:Int) [(J.mk (8:Int) (0:Int) [(J.mk (4:Int) (0:Int) [])]),(J.mk (4:Int) (0:Int) [])])]),(J.mk (8:Int) (0:Int) [(J.mk (4:Int) (0:Int) [])])]).1<=(ts.length:Int):=h;have n:0<=ts.length:=by omega
  exact a6J ts as_ hc n
 .rw[a7a] at h ⊢;have e:(topEs [(J.mk (7:Int) (0:Int) [(J.mk (3:Int) (0:Int) []),(J.mk (3:Int) (0:Int) [])]),(J.mk (3:Int) (0:Int) [])]).1=1:=by kernel_rfl
  have h:(topEs [(J.mk (7:Int) (0:Int) [(J.mk (3:Int) (0:Int) []),(J.mk (3:Int) (0:Int) [])]),(J.mk (3:Int) (0:Int) [])]).1<=(ts.length:Int):=h;have n:1<=ts.length:=by omega
  exact a6K ts as_ hc n
 .rw[a7b] at h ⊢;have e:(topEs [(J.mk (7:Int) (0:Int) [(J.mk (3:Int) (0:Int) []),(J.mk (3:Int) (1:Int) [])]),(J.mk (7:Int) (0:Int) [(J.mk (3:Int) (1:Int) []),(J.mk (3:Int) (0:Int) [])])]).1=2:=by kernel_rfl
  have h:(topEs [(J.mk (7:Int) (0:Int) [(J.mk (3:Int) (0:Int) []),(J.mk (3:Int) (1:Int) [])]),(J.mk (7:Int) (0:Int) [(J.mk (3:Int) (1:Int) []),(J.mk (3:Int) (0:Int) [])])]).1<=(ts.length:Int):=h;have n:2<=ts.length:=by omega
  exact a6L ts as_ hc n
 .rw[a7c] at h ⊢;have e:(topEs [(J.mk (6:Int) (0:Int) [(J.mk (3:Int) (0:Int) []),(J.mk (5:Int) (0:Int) [(J.mk (3:Int) (0:Int) [])])]),(J.mk (2:Int) (0:Int) [])]).1=1:=by kernel_rfl
  have h:(topEs [(J.mk (6:Int) (0:Int) [(J.mk (3:Int) (0:Int) []),(J.mk (5:Int) (0:Int) [(J.mk (3:Int) (0:Int) [])])]),(J.mk (2:Int) (0:Int) [])]).1<=(ts.length:Int):=h;have n:1<=ts.length:=by omega
  exact a6M ts as_ hc n
 .rw[a7d] at h ⊢;have e:(topEs [(J.mk (7:Int) (0:Int) [(J.mk (3:Int) (0:Int) []),(J.mk (5:Int) (0:Int) [(J.mk (3:Int) (0:Int) [])])]),(J.mk (1:Int) (0:Int) [])]).1=1:=by kernel_rfl
  have h:(topEs [(J.mk (7:Int) (0:Int) [(J.mk (3:Int) (0:Int) []),(J.mk (5:Int) (0:Int) [(J.mk (3:Int) (0:Int) [])])]),(J.mk (1:Int) (0:Int) [])]).1<=(ts.length:Int):=h;have n:1<=ts.length:=by omega
  exact a6N ts as_ hc n
 .rw[a7e] at h ⊢;have e:(topEs [(J.mk (5:Int) (0:Int) [(J.mk (5:Int) (0:Int) [(J.mk (3:Int) (0:Int) [])])]),(J.mk (3:Int) (0:Int) [])]).1=1:=by kernel_rfl
  have h:(topEs [(J.mk (5:Int) (0:Int) [(J.mk (5:Int) (0:Int) [(J.mk (3:Int) (0:Int) [])])]),(J.mk (3:Int) (0:Int) [])]).1<=(ts.length:Int):=h;have n:1<=ts.length:=by omega
  exact a6O ts as_ hc n
 .rw[a7f] at h ⊢;have e:(topEs [(J.mk (5:Int) (0:Int) [(J.mk (6:Int) (0:Int) [(J.mk (3:Int) (0:Int) []),(J.mk (3:Int) (1:Int) [])])]),(J.mk (7:Int) (0:Int) [(J.mk (5:Int) (0:Int) [(J.mk (3:Int) (0:Int) [])]),(J.mk (5:Int) (0:Int) [(J.mk (3:Int) (1:Int) [])])])]).1=2:=by kernel_rfl
  have h:(topEs [(J.mk (5:Int) (0:Int) [(J.mk (6:Int) (0:Int) [(J.mk (3:Int) (0:Int) []),(J.mk (3:Int) (1:Int) [])])]),(J.mk (7:Int) (0:Int) [(J.mk (5:Int) (0:Int) [(J.mk (3:Int) (0:Int) [])]),(J.mk (5:Int) (0:Int) [(J.mk (3:Int) (1:Int) [])])])]).1<=(ts.length:Int):=h;have n:2<=ts.length:=by omega
  exact a6P ts as_ hc n
 .rw[a7g] at h ⊢;have e:(topEs [(J.mk (5:Int) (0:Int) [(J.mk (7:Int) (0:Int) [(J.mk (3:Int) (0:Int) []),(J.mk (3:Int) (1:Int) [])])]),(J.mk (6:Int) (0:Int) [(J.mk (5:Int) (0:Int) [(J.mk (3:Int) (0:Int) [])]),(J.mk (5:Int) (0:Int) [(J.mk (3:Int) (1:Int) [])])])]).1=2:=by kernel_rfl
  have h:(topEs [(J.mk (5:Int) (0:Int) [(J.mk (7:Int) (0:Int) [(J.mk (3:Int) (0:Int) []),(J.mk (3:Int) (1:Int) [])])]),(J.mk (6:Int) (0:Int) [(J.mk (5:Int) (0:Int) [(J.mk (3:Int) (0:Int) [])]),(J.mk (5:Int) (0:Int) [(J.mk (3:Int) (1:Int) [])])])]).1<=(ts.length:Int):=h;have n:2<=ts.length:=by omega
  exact a6Q ts as_ hc n
 .rw[a7h] at h ⊢;have e:(topEs [(J.mk (5:Int) (0:Int) [(J.mk (1:Int) (0:Int) [])]),(J.mk (2:Int) (0:Int) [])]).1=0:=by kernel_rfl
  have h:(topEs [(J.mk (5:Int) (0:Int) [(J.mk (1:Int) (0:Int) [])]),(J.mk (2:Int) (0:Int) [])]).1<=(ts.length:Int):=h;have n:0<=ts.length:=by omega
  exact a6R ts as_ hc n
 .rw[a7i] at h ⊢;have e:(topEs [(J.mk (5:Int) (0:Int) [(J.mk (2:Int) (0:Int) [])]),(J.mk (1:Int) (0:Int) [])]).1=0:=by kernel_rfl
  have h:(topEs [(J.mk (5:Int) (0:Int) [(J.mk (2:Int) (0:Int) [])]),(J.mk (1:Int) (0:Int) [])]).1<=(ts.length:Int):=h;have n:0<=ts.length:=by omega
  exact a6S ts as_ hc n
 .rw[a7j] at h ⊢;have e:(topEs [(J.mk (6:Int) (0:Int) [(J.mk (3:Int) (0:Int) []),(J.mk (2:Int) (0:Int) [])]),(J.mk (2:Int) (0:Int) [])]).1=1:=by kernel_rfl
  have h:(topEs [(J.mk (6:Int) (0:Int) [(J.mk (3:Int) (0:Int) []),(J.mk (2:Int) (0:Int) [])]),(J.mk (2:Int) (0:Int) [])]).1<=(ts.length:Int):=h;have n:1<=ts.length:=by omega
  exact a6T ts as_ hc n
 .rw[a7k] at h ⊢;have e:(topEs [(J.mk (7:Int) (0:Int) [(J.mk (6:Int) (0:Int) [(J.mk (3:Int) (0:Int) []),(J.mk (3:Int) (1:Int) [])]),(J.mk (6:Int) (0:Int) [(J.mk (3:Int) (0:Int) []),(J.mk (3:Int) (2:Int) [])])]),(J.mk (6:Int) (0:Int) [(J.mk (3:Int) (0:Int) []),(J.mk (7:Int) (0:Int) [(J.mk (3:Int) (1:Int) []),(J.mk (3:Int) (2:Int) [])])])]).1=3:=by kernel_rfl
  have h:(topEs [(J.mk (7:Int) (0:Int) [(J.mk (6:Int) (0:Int) [(J.mk (3:Int) (0:Int) []),(J.mk (3:Int) (1:Int) [])]),(J.mk (6:Int) (0:Int) [(J.mk (3:Int) (0:Int) []),(J.mk (3:Int) (2:Int) [])])]),(J.mk (6:Int) (0:Int) [(J.mk (3:Int) (0:Int) []),(J.mk (7:Int) (0:Int) [(J.mk (3:Int) (1:Int) []),(J.mk (3:Int) (2:Int) [])])])]).1<=(ts.length:Int):=h;have n:3<=ts.length:=by omega
  exact a6U ts as_ hc n
abbrev Vf(more:List Int):Nat:=(pk more (Sr.mk 0 0) 24).toNat
abbrev k9(more:List Int):aE:=axQ.getD (Vf more) ZQ
abbrev Zq(more:List Int):Nat:=(topEs [(k9 more).left,(k9 more).right]).1.toNat
abbrev ax2(more:List Int):Nat:=(topEs [(k9 more).left,(k9 more).right]).2.toNat
abbrev xv(O more:List Int):List J:=dtL O (eG O) (Zq more) (Sr.mk 0 0)
abbrev xw(O more:List Int):List J:=daL O (eG O) (ax2 more) (dtS O (Zq more) (Sr.mk 0 0))
def W9:axQ.length=24:=by unfold axQ;rw[List.length_map];exact vL
def a6E:axQ.all (λ q=>(isE gP q.left&&isE gP q.right)&&(a8 62 62 q.left&&a8 62 62 q.right)&&(decide (0<=(topEs [q.left,q.right]).1/\(topEs [q.left,q.right]).1<=3)&&decide (0<=(topEs [q.left,q.right]).2/\(topEs [q.left,q.right]).2<=4)))=true:=by kernel_rfl
def b2u{k:Nat}(h:k<24):UT (axQ.getD k ZQ):=by
 have hm:axQ.getD k ZQ∈axQ:=by
  rw[b5P,b6e (by rw[W9];exact h)];exact b7a _
 have:=b6y.1 a6E _ hm;simp only[b5M,b5K] at this;exact⟨this.1.1.1,this.1.1.2,this.1.2.1,this.1.2.2,this.2.1,this.2.2⟩
structure SbP(gg:aD)(x:J)(ts as_:List J):Prop where
 g:sigOk gg=true
 w:isE gP x=true
 t:bH (isE gg) ts=true
 a:bH (isE gg) as_=true
 c:bH bj ts=true
 f:ly ts as_ x
 tr:a8 62 62 x=true
 fl:JB ts as_
 l1:ts.length<=1000
 l2:as_.length<=1000
structure DH(O more:List Int):Prop where
 hl:O.length<=4096/\more.length<=4096
 hb:cX O
 hm:cX more
 g:sigOk (eG O)=true
 k:Vf more<24
 kz:pk more (Sr.mk 0 0) 24=(Vf more:Int)
 q:UT (k9 more)
 s0:bC O (Sr.mk 0 0) 800000000
 s1:bC more (Sr.mk 0 0) 800000000
 l:SbP (eG O) (k9 more).left (xv O more) (xw O more)
 r:SbP (eG O) (k9 more).right (xv O more) (xw O more)
def X2{gg:aD}{x:J}(h:isE gg x=true):ep x<=1048576:=Gs x (by have:=(AL gg x).1 h;omega)
def b1e{gg:aD}{ts as_:List J}(h:bH (isE gg) ts=true)(k:bH (isE gg) as_=true):JB ts as_:=⟨λ y hy=>X2 (zV _ _ h y hy),λ y hy=>X2 (zV _ _ k y hy)⟩
def b2v{O more:List Int}(hp:cX O/\cX more)(h:O.length<=4096/\more.length<=4096):DH O more:=by
 have E:=e_f O hp.1 (by omega);have q0:bC O (Sr.mk 0 0) 0:=⟨hp.1,by decide,by decide,by omega,by decide,by decide⟩;have q1:bC more (Sr.mk 0 0) 0:=⟨hp.2,by decide,by decide,by omega,by decide,by decide⟩;have p:=q1.pk 24;have k:Vf more<24:=by show (pk more (Sr.mk 0 0) 24).toNat<24;omega
 have c:=b2u k;have c:UT (k9 more):=c;have T:=a1x O E.g q0 (Zq more);have A:=a4f O E.g T.sr (ax2 more);have t1:((Zq more:Nat):Int)=(topEs [(k9 more).left,(k9 more).right]).1:=b7O c.t.1;have t2:((ax2 more:Nat):Int)=(topEs [(k9 more).left,(k9 more).right]).2:=b7O c.a.1;have ff:Gi (xv O more) (xw O more) [(k9 more).left,(k9 more).right]:=⟨by rw[T.len];omega,by rw[A.len];omega⟩;have f1:=Gj ff (k9 more).left (by simp);have f2:=Gj ff (k9 more).right (by simp);have fl:=b1e T.ok A.ok;have b1:=c.t;have b2:=c.a;have n1:(xv O more).length<=1000:=by rw[T.len];omega
 have n2:(xw O more).length<=1000:=by rw[A.len];omega
 exact⟨h,hp.1,hp.2,E.g,k,(b7O p.1).symm,c,q0.mono (by decide),q1.mono (by decide),⟨E.g,c.l,T.ok,A.ok,T.cd,f1,c.tl,fl,n1,n2⟩,⟨E.g,c.r,T.ok,A.ok,T.cd,f2,c.tr,fl,n1,n2⟩⟩
noncomputable def f6V(gg:aD)(e f:J):Bool:=decide (jo gg e f=3)||(decide (jo gg e f=0)&&Iu gg e f)
def b0H{gg:aD}{e f:J}(h:iQ gg e=true)(k:iQ gg f=true):jo gg e f=0\/jo gg e f=3:=by
 rw[jo,b5Q ⟨h,k⟩];rcases a5O gg e with c|c
 .rw[b5Q c];exact a5O gg f
 .rw[b5I (by omega)];exact .inr c
def a7J{α:Type}{x:α}(h:ke x x=false):False:=by rw[Av.2 rfl] at h;cases h
def a1P(gg:aD)(x:J)(ts as_:List J):insC gg x ts as_=0\/insC gg x ts as_=3:=by unfold insC;cases isE gg (cU ts as_ x)<;>simp
def a6F{O more:List Int}(F:DH O more)(h1:insC (eG O) (k9 more).left (xv O more) (xw O more)=0)(h2:insC (eG O) (k9 more).right (xv O more) (xw O more)=0) :
  f6V (eG O) (insV (eG O) (k9 more).left (xv O more) (xw O more)) (insV (eG O) (k9 more).right (xv O more) (xw O more))=true:=by
 have i1:isE (eG O) (cU (xv O more) (xw O more) (k9 more).left)=true:=by
  unfold insC at h1;cases hh:isE (eG O) (cU (xv O more) (xw O more) (k9 more).left) with
  | true=>rfl
  | false=>rw[hh] at h1;cases h1
 have i2:isE (eG O) (cU (xv O more) (xw O more) (k9 more).right)=true:=by
  unfold insC at h2;cases hh:isE (eG O) (cU (xv O more) (xw O more) (k9 more).right) with
  | true=>rfl
  | false=>rw[hh] at h2;cases h2
 rw[(V4 i1).1,(V4 i2).1];have o1:iQ (eG O) (cU (xv O more) (xw O more) (k9 more).left)=true:=by rw[iQ,F.g,i1];rfl
 have o2:iQ (eG O) (cU (xv O more) (xw O more) (k9 more).right)=true:=by rw[iQ,F.g,i2];rfl
 unfold f6V;rcases b0H o1 o2 with c|c
 .rw[c,(a4k c).2 λ w t _=>a6V _ _ (λ i hi=>?_) _ F.k ?_ w t];· rfl
  .have m:=zV _ _ F.l.t _ (fW (z:=zE) hi);have n:=zV _ _ F.l.c _ (fW (z:=zE) hi);exact a2T _ _ F.g (by rw[isC,m,n];rfl)
  .have T:=a1x O F.g F.s0 (Zq more);have:((Zq more:Nat):Int)=(topEs [(k9 more).left,(k9 more).right]).1:=b7O F.q.t.1;show _<=((dtL O (eG O) (Zq more) (Sr.mk 0 0)).length:Int);rw[T.len];exact Int.le_of_eq this.symm
 .rw[c];rfl
def HE:bc:=⟨HO,[.v (.slice (.int .u8))],λ (xs:List Int)=>⟨(none,[⟨.bool,decide (4096<(xs.length:Int))⟩])⟩⟩
def S7(xs:List Int):Nat->aI:=cf
def Mq:bc.Good HE:=by
 refine⟨aG Ek,?_⟩;intro (xs:List Int) _;refine bo [] [] [] [] trivial Ek L5 (S7 xs) (let v0:=(xs.length:Int);((ag (v0)->(decide ((4096:Int)<(v0)))=(decide (4096<v0))))) ?_;refine λ _=>?_;all_goals try and_intros
 all_goals (try simp only[qj,b6j,b6A,b5K,b5L,aJ,ag,bn,cY,b5R,b7R,b6Z,b8J,b5U,b5T,b5O,b5Y,b5S,b6d,J.eta,aD.eta,aE.eta] at *);first|done|contradiction|with_reducible assumption|omega|with_reducible rfl|exact trivial|rfl|(simp_all;done)
def HF:bc:=⟨HP,[.v (.slice (.int .u8))],λ (O:List Int)=>⟨(some (cX O/\O.length<=1000000),[⟨(.st .sig),eG O⟩])⟩⟩
def S8(O:List Int):Nat->aI:=cf
def Ms:bc.Good HF:=by
 refine⟨aG El,?_⟩;intro (O:List Int) (hp:cX O/\O.length<=1000000);refine qU [] [] [] [uD] [] [] [] [] trivial trivial trivial ⟨CI,af⟩ El L6 (S8 O) ((bC O (Sr.mk (0:Int) (0:Int)) 900000000/\(Qt O (Sr.mk (0:Int) (0:Int)))=(eG O))) ?_;have F:=e_f O hp.1 (by omega);refine⟨?_,?_⟩;all_goals try and_intros
 all_goals (try simp only[qj,b6j,b6A,b5K,b5L,aJ,ag,bn,cY,b5R,b7R,b6Z,b8J,b5U,b5T,b5O,b5Y,b5S,b6d,J.eta,aD.eta,aE.eta] at *);first|done|contradiction|with_reducible assumption|omega|with_reducible rfl|exact trivial|rfl|exact F.s0.mono (by decide)
def Fb:bc:=⟨FE,[.v (.slice (.int .u8)), .v (.int .i64)],λ (O:List Int) (n:Int)=>⟨(some (cX O/\O.length<=1000000/\n<=1000000),[⟨(.int .i64),pk O (Sr.mk 0 0) n⟩])⟩⟩
def Rn(O:List Int)(n:Int):Nat->aI:=cf
def Kw:bc.Good Fb:=by
 refine⟨aG CX,?_⟩;intro (O:List Int) (n:Int) (hp:cX O/\O.length<=1000000/\n<=1000000);refine qU [] [] [] [de] [] [] [] [] trivial trivial trivial ⟨dB,af⟩ CX J1 (Rn O n) (((bC O (Sr.mk (0:Int) (0:Int)) 999999000/\n<=1000000)/\(pk O (Sr.mk (0:Int) (0:Int)) n)=(pk O (Sr.mk 0 0) n))) ?_;have F:=e_f O hp.1 (by omega);refine⟨?_,?_⟩;all_goals try and_intros
 all_goals (try simp only[qj,b6j,b6A,b5K,b5L,aJ,ag,bn,cY,b5R,b7R,b6Z,b8J,b5U,b5T,b5O,b5Y,b5S,b6d,J.eta,aD.eta,aE.eta] at *);first|done|contradiction|with_reducible assumption|omega|with_reducible rfl|exact trivial|rfl|exact F.s0.mono (by decide)
def qH:bc:=⟨Dy,[.v (.slice (.int .u8)), .v (.st .sig), .v (.st .equation)],λ (O:List Int) (gg:aD) (q:aE)=>⟨(some ((cX O/\O.length<=1000000)/\sigOk gg=true/\UT q),[⟨(.slice (.st .expr)),dtL O gg (topEs [q.left,q.right]).1.toNat (Sr.mk 0 0)⟩,⟨(.slice (.st .expr)),daL O gg (topEs [q.left,q.right]).2.toNat (dtS O (topEs [q.left,q.right]).1.toNat (Sr.mk 0 0))⟩])⟩⟩
def M0(O:List Int)(gg:aD)(q:aE):Nat->aI:=cf
def He:bc.iY qH:=by
 refine⟨aG Ac,?_⟩;intro (O:List Int) (gg:aD) (q:aE) (hp:(cX O/\O.length<=1000000)/\sigOk gg=true/\UT q);refine eO [] [] [] [qe] [9,11] [] [] [4,5] trivial trivial trivial ⟨zL,af⟩ Ac Ii (M0 O gg q) (let v0:=topEs [q.left,q.right];let v1:=Sr.mk (0:Int) (0:Int);((O.length<=140737488355328->(O=O/\(gg=gg/\(gg=gg/\(((bC O v1 800000000/\sigOk gg=true)/\UT q)/\((dtL O gg v0.1.toNat v1)=(dtL O gg v0.1.toNat (Sr.mk 0 0))/\(daL O gg v0.2.toNat (dtS O v0.1.toNat v1))=(daL O gg v0.2.toNat (dtS O v0.1.toNat (Sr.mk 0 0))))))))))) ?_;have F:=e_f O hp.1.1 (by omega);refine λ _=>⟨rfl,rfl,rfl,?_,?_,?_⟩;all_goals try and_intros
 all_goals (try simp only[qj,b6j,b6A,b5K,b5L,aJ,ag,bn,cY,b5R,b7R,b6Z,b8J,b5U,b5T,b5O,b5Y,b5S,b6d,J.eta,aD.eta,aE.eta] at *);first|done|contradiction|with_reducible assumption|omega|with_reducible rfl|exact trivial|rfl|exact F.s0.mono (by decide)|exact hp.2.1|exact hp.2.2
def IG:bc.Good qH:=He.plain
def Kr:bc.Good tS:=Je.plain
def Kv:bc.Good tT:=Jg.plain
def GU:bc.Good pq:=FQ.plain
def wM:bc:=⟨wU,[.v (.st .sig), .v (.st .expr), .v (.slice (.st .expr)), .v (.slice (.st .expr))],λ (gg:aD) (x:J) (ts:List J) (as_:List J)=>⟨(some (SbP gg x ts as_),[⟨(.st .expr),insV gg x ts as_⟩,⟨(.int .i64),insC gg x ts as_⟩])⟩⟩
def I6(gg:aD)(x:J)(ts:List J)(as_:List J):Nat->aI:=cf
abbrev E7(gg:aD)(x:J)(ts:List J)(as_:List J):Prop:=(let v0:=insC gg x ts as_;((ly ts as_ x/\a8 62 62 x=true/\JB ts as_/\ts.length<=1000/\as_.length<=1000)/\(ag v0 ->
 ((aV (insV gg x ts as_))=(insV gg x ts as_)/\v0=v0))))
abbrev sf(gg:aD)(x:J)(ts:List J)(as_:List J):Prop:=(let v0:=zE=(insV gg x ts as_)/\(2:Int)=(insC gg x ts as_);let v1:=decide (((as_.length:Int))<((topE x).2));let v2:=decide (((ts.length:Int))<((topE x).1));let v3:=E7 gg x ts as_;(((!(bH bj ts))=true ->
 (zE=(insV gg x ts as_)/\(4:Int)=(insC gg x ts as_)))/\((!(bH bj ts))=false ->
 (a8 62 62 x=true/\(ag ((topE x).1) ->
 (ag ((topE x).2) ->
 (ag ((ts.length:Int)) ->
 ((v2=false ->
 (ag ((as_.length:Int)) ->
 ((v1=true ->
 v0)/\(v1=false ->
 v3))))/\(v2=(!false) ->
 ((true=true ->
 v0)/\(true=false ->
 v3)))))))))))
abbrev sg(gg:aD)(x:J)(ts:List J)(as_:List J):Prop:=(let v0 := !(bH (isE gg) as_&&sigOk gg);((v0=true ->
 (zE=(insV gg x ts as_)/\(1:Int)=(insC gg x ts as_)))/\(v0=false ->
 (sf gg x ts as_))))
abbrev si(gg:aD)(x:J)(ts:List J)(as_:List J):Prop:=((true=true ->
 (zE=(insV gg x ts as_)/\(1:Int)=(insC gg x ts as_)))/\(true=false ->
 (sf gg x ts as_)))
abbrev E8(gg:aD)(x:J)(ts:List J)(as_:List J):Prop:=(let v0 := !(bH (isE gg) ts&&sigOk gg);((v0=false ->
 (sg gg x ts as_))/\(v0=(!false) ->
 (si gg x ts as_))))
def DV:bc.Good wM:=by
 refine⟨aG uh,?_⟩;intro (gg:aD) (x:J) (ts:List J) (as_:List J) (hp:SbP gg x ts as_);refine qU [qF,nT,lF,nU,qb,KV,pq] [] [] [] [] [] [] [4,5] ⟨uw,pW,kU,pX,zg,OH,GU,af⟩ trivial trivial trivial uh DL (I6 gg x ts as_) (let v0:=E8 gg x ts as_;let v1:=sg gg x ts as_;let v2:=si gg x ts as_;((((!(sigOk gg))=false->(((!(isE (gP) x))=false->v0)/\((!(isE (gP) x))=(!false)->((true=false->v1)/\(true=(!false)->v2)))))/\((!(sigOk gg))=(!false)->((true=false->v0)/\(true=(!false)->((true=false->v1)/\(true=(!false)->v2)))))))) ?_;have s1:=hp.g;have s2:=hp.w;have s3:=hp.t;have s4:=hp.a;have s5:=hp.c;have s6:=hp.f.t;have s7:=hp.f.a;refine⟨λ _=>⟨λ _=>⟨λ _=>⟨λ _=>⟨?_,?_⟩,λ _=>⟨λ _=>⟨?_,?_⟩,λ _=>⟨?_,λ _ _ _=>⟨λ _ _=>⟨λ _=>⟨?_,?_⟩,λ _=>⟨?_,λ _=>⟨?_,rfl⟩⟩⟩,λ _=>⟨λ _=>⟨?_,?_⟩,λ _=>⟨?_,λ _=>⟨?_,rfl⟩⟩⟩⟩⟩⟩⟩,λ _=>⟨λ _=>⟨?_,?_⟩,λ _=>⟨λ _=>⟨?_,?_⟩,λ _=>⟨?_,λ _ _ _=>⟨λ _ _=>⟨λ _=>⟨?_,?_⟩,λ _=>⟨?_,λ _=>⟨?_,rfl⟩⟩⟩,λ _=>⟨λ _=>⟨?_,?_⟩,λ _=>⟨?_,λ _=>⟨?_,rfl⟩⟩⟩⟩⟩⟩⟩⟩,λ _=>⟨λ _=>⟨λ _=>⟨?_,?_⟩,λ _=>⟨λ _=>⟨?_,?_⟩,λ _=>⟨?_,λ _ _ _=>⟨λ _ _=>⟨λ _=>⟨?_,?_⟩,λ _=>⟨?_,λ _=>⟨?_,rfl⟩⟩⟩,λ _=>⟨λ _=>⟨?_,?_⟩,λ _=>⟨?_,λ _=>⟨?_,rfl⟩⟩⟩⟩⟩⟩⟩,λ _=>⟨λ _=>⟨?_,?_⟩,λ _=>⟨λ _=>⟨?_,?_⟩,λ _=>⟨?_,λ _ _ _=>⟨λ _ _=>⟨λ _=>⟨?_,?_⟩,λ _=>⟨?_,λ _=>⟨?_,rfl⟩⟩⟩,λ _=>⟨λ _=>⟨?_,?_⟩,λ _=>⟨?_,λ _=>⟨?_,rfl⟩⟩⟩⟩⟩⟩⟩⟩⟩,λ _=>⟨λ _=>⟨λ _=>⟨λ _=>⟨?_,?_⟩,λ _=>⟨λ _=>⟨?_,?_⟩,λ _=>⟨?_,λ _ _ _=>⟨λ _ _=>⟨λ _=>⟨?_,?_⟩,λ _=>⟨?_,λ _=>⟨?_,rfl⟩⟩⟩,λ _=>⟨λ _=>⟨?_,?_⟩,λ _=>⟨?_,λ _=>⟨?_,rfl⟩⟩⟩⟩⟩⟩⟩,λ _=>⟨λ _=>⟨?_,?_⟩,λ _=>⟨λ _=>⟨?_,?_⟩,λ _=>⟨?_,λ _ _ _=>⟨λ _ _=>⟨λ _=>⟨?_,?_⟩,λ _=>⟨?_,λ _=>⟨?_,rfl⟩⟩⟩,λ _=>⟨λ _=>⟨?_,?_⟩,λ _=>⟨?_,λ _=>⟨?_,rfl⟩⟩⟩⟩⟩⟩⟩⟩,λ _=>⟨λ _=>⟨λ _=>⟨?_,?_⟩,λ _=>⟨λ _=>⟨?_,?_⟩,λ _=>⟨?_,λ _ _ _=>⟨λ _ _=>⟨λ _=>⟨?_,?_⟩,λ _=>⟨?_,λ _=>⟨?_,rfl⟩⟩⟩,λ _=>⟨λ _=>⟨?_,?_⟩,λ _=>⟨?_,λ _=>⟨?_,rfl⟩⟩⟩⟩⟩⟩⟩,λ _=>⟨λ _=>⟨?_,?_⟩,λ _=>⟨λ _=>⟨?_,?_⟩,λ _=>⟨?_,λ _ _ _=>⟨λ _ _=>⟨λ _=>⟨?_,?_⟩,λ _=>⟨?_,λ _=>⟨?_,rfl⟩⟩⟩,λ _=>⟨λ _=>⟨?_,?_⟩,λ _=>⟨?_,λ _=>⟨?_,rfl⟩⟩⟩⟩⟩⟩⟩⟩⟩⟩;all_goals try and_intros
 all_goals try (first|with_reducible rfl|with_reducible assumption)
 all_goals try simp only[J.eta,aE.eta,aQ,bq] at *
 all_goals (try simp only[qj,b6j,b6A,b5K,b5L,aJ,ag,bn,cY,b5R,b7R,b6Z,b8J,b5U,b5T,b5O,b5Y,b5S,b6d,J.eta,aD.eta,aE.eta] at *);first|done|contradiction|with_reducible assumption|omega|with_reducible rfl|exact trivial|exact hp.tr|exact hp.f|exact hp.fl|exact hp.l1|exact hp.l2|(simp_all;done)|(simp_all;omega)
def Dh:bc:=⟨Dx,[.v (.st .sig), .v (.st .expr), .v (.st .expr)],λ (gg:aD) (e:J) (f:J)=>⟨(none,[⟨.bool,f6V gg e f⟩])⟩⟩
def OZ(gg:aD)(e:J)(f:J):Nat->aI:=cf
def IF:bc.Good Dh:=by
 refine⟨aG Ab,?_⟩;intro (gg:aD) (e:J) (f:J) _;refine bo [wL] [] [] [3,4,5] ⟨DU,af⟩ Ab Ih (OZ gg e f) (let v0:=jo gg e f;((ag v0->(((decide (v0=(3:Int)))=false->(((decide (v0=(0:Int)))=true->(Iu gg e f)=(f6V gg e f))/\((decide (v0=(0:Int)))=(!true)->false=(f6V gg e f))))/\((decide (v0=(3:Int)))=(!false)->true=(f6V gg e f)))))) ?_;refine λ _=>⟨λ _=>⟨λ _=>?_,λ _=>?_⟩,λ _=>?_⟩;all_goals try and_intros
 all_goals (try simp only[qj,b6j,b6A,b5K,b5L,aJ,ag,bn,cY,b5R,b7R,b6Z,b8J,b5U,b5T,b5O,b5Y,b5S,b6d,J.eta,aD.eta,aE.eta] at *);first|done|contradiction|with_reducible assumption|omega|with_reducible rfl|exact trivial|rfl|(simp_all [f6V];done)
def AS:bc:=⟨A9,[.v (.st .expr), .v (.st .expr)],λ (x:J) (y:J)=>⟨(none,[⟨.bool,ke x y⟩])⟩⟩
def MT(x:J)(y:J):Nat->aI:=cf
def GZ:bc.Good AS:=by
 refine⟨aG xW,?_⟩;intro (x:J) (y:J) _;refine bo [Dj] [] [] [2,3] ⟨IJ,af⟩ xW GN (MT x y) ((ke x y)=(ke x y)) ?_;refine rfl;all_goals try and_intros
 all_goals first|rfl|trivial|omega|(simp only[b5K,b5L,aJ,ag,ca,ei,cY,bn] at *;omega)|(simp[aJ,ag] at *;omega)|grind
attribute [local irreducible] eG eX eR insV insC isE sigOk dtL daL dtS axQ topEs topE f6V pk
def MM:bc:=⟨qQ,[.v (.slice (.int .u8)), .v (.slice (.int .u8))],λ (O:List Int) (more:List Int)=>⟨(some (cX O/\cX more),[⟨.bool,true⟩])⟩⟩
def MS(O:List Int)(more:List Int):Nat->aI:=(fu 100003 (.u (DH O more) [] [] [] [] (fu 100008 (.u (DH O more) [22,23,24,25] [] [5] [] (fu 100009 (.u (DH O more) [1] [(8, .aO ⟨(.int .i64),((Vf more:Int):Int)⟩)] [5] [] (fu 100012 (.u (DH O more) [6,7,8,35,36,37,38] [] [5,9] [] (fu 100017 (.u (DH O more/\insC (eG O) (k9 more).left (xv O more) (xw O more)=0/\insC (eG O) (k9 more).right (xv O more) (xw O more)=0) [0,9,10,11,13,15,59,60,61,62,63,64,65,66,67,68,69,70,71,72,73,74,75,76,77,78,79,80,81,82,83] [] [5,12,14] [] cf) cf)) cf)) cf)) cf)) cf)
abbrev wH(O:List Int)(more:List Int):Prop:=(let v0:=(axQ).getD (Int.toNat (Vf more:Int)) (aE.mk zE zE);(∃ u4:Unit,(DH O more/\((O=O/\(True/\(True/\True)))/\((v0.left.aj=v0.left.aj/\(v0.left.aT=v0.left.aT/\(v0.left.U=v0.left.U/\(v0.right.aj=v0.right.aj/\(v0.right.aT=v0.right.aT/\(v0.right.U=v0.right.U/\True))))))/\(((eG O).aY=(eG O).aY/\((eG O).aB=(eG O).aB/\True))/\True))))))
abbrev wI(O:List Int)(more:List Int):Prop:=(let v1:=(axQ).getD (Int.toNat (Vf more:Int)) (aE.mk zE zE);let v0:=topEs [(eW v1).left,(eW v1).right];let v3:=daL O (eG O) v0.2.toNat (dtS O v0.1.toNat (Sr.mk 0 0));let v4:=dtL O (eG O) v0.1.toNat (Sr.mk 0 0);let v2:=decide ((insC (eG O) (aV v1.left) v4 v3)=(3:Int));((v2=false ->
 (decide ((insC (eG O) (aV v1.right) v4 v3)=(3:Int)))=true)/\(v2=(!false) ->
 true=true)))
abbrev wJ(O:List Int)(more:List Int):Prop:=(let v3:=(axQ).getD (Int.toNat (Vf more:Int)) (aE.mk zE zE);let v0:=topEs [(eW v3).left,(eW v3).right];let v4:=eG O;let v5:=daL O v4 v0.2.toNat (dtS O v0.1.toNat (Sr.mk 0 0));let v6:=dtL O v4 v0.1.toNat (Sr.mk 0 0);let v1:=insV v4 (aV v3.right) v6 v5;let v2:=insV v4 (aV v3.left) v6 v5;(∃ u5:Unit,((DH O more/\insC v4 (k9 more).left (xv O more) (xw O more)=0/\insC v4 (k9 more).right (xv O more) (xw O more)=0)/\((True/\(True/\(True/\True)))/\((v1.aj=v1.aj/\(v1.aT=v1.aT/\(v1.U=v1.U/\True)))/\((v2.aj=v2.aj/\(v2.aT=v2.aT/\(v2.U=v2.U/\True)))/\((v4.aY=v4.aY/\(v4.aB=v4.aB/\True))/\True)))))))
def GY:bc.Good MM:=by
 refine⟨aG xU,?_⟩;intro (O:List Int) (more:List Int) (hp:cX O/\cX more);refine qU [HE,HF,tS,tT,Fb,AS,qH,wM,Dh] [] [] [] [] [] [] [] ⟨Mq,Ms,Kr,Kv,Kw,GZ,IG,DV,IF,af⟩ trivial trivial trivial xU GL (MS O more) (let v4:=((axQ).length:Int);let v5:=eG O;let v8:=DH O more/\((O=O/\(more=more/\True))/\True);let v9:=(v5.aY=v5.aY/\(v5.aB=v5.aB/\True))/\True;let va:=(Vf more:Int);let v1:=(axQ).getD (Int.toNat va) (aE.mk zE zE);let v0:=topEs [(eW v1).left,(eW v1).right];let v2:=daL O v5 v0.2.toNat (dtS O v0.1.toNat (Sr.mk 0 0));let v3:=dtL O v5 v0.1.toNat (Sr.mk 0 0);let v6:=aV v1.right;let v7:=aV v1.left;let vb := !(decide ((insC v5 v7 v3 v2)=(0:Int)));let vc := !(decide ((insC v5 v6 v3 v2)=(0:Int)));let vd:=cX O/\O.length<=1000000;let ve:=decide (4096<(O.length:Int));let vf:=decide (4096<(more.length:Int));((((ve=false->((vf=true->true=true)/\(vf=false->(∃ u1:Unit,v8))))/\(ve=(!false)->((true=true->true=true)/\(true=false->(∃ u1:Unit,v8)))))/\(∀ u1:Unit,(DH O more->(vd/\((axQ).length<=140737488355328->((axQ).length<=140737488355328->((ag v4->(ag v4->(((!(decide (v4=v4)))=true->false=true)/\((!(decide (v4=v4)))=false->(∃ u2:Unit,(DH O more/\((O=O/\(more=more/\(True/\((axQ)=(axQ)/\((axQ)=(axQ)/\True)))))/\v9)))))))/\(∀ u2:Unit,(DH O more->((ag v4->((cX more/\more.length<=1000000/\v4<=1000000)/\(ag (pk more (Sr.mk 0 0) v4)->(∃ u3:Unit,(DH O more/\((O=O/\(True/\((axQ)=(axQ)/\((axQ)=(axQ)/\((pk more (Sr.mk 0 0) v4)=va/\True)))))/\v9))))))/\(∀ u3:Unit,(DH O more->(aJ va (axQ).length/\((aJ va (axQ).length/\(((!(ke v1.left v7))=false->(aJ va (axQ).length/\(((!(ke v1.right v6))=true->false=true)/\((!(ke v1.right v6))=false->(wH O more)))))/\((!(ke v1.left v7))=(!false)->((true=true->false=true)/\(true=false->(wH O more))))))/\(∀ u4:Unit,(DH O more->((vd/\sigOk v5=true/\UT (eW v1))/\(v3.length<=140737488355328->(v2.length<=140737488355328->(SbP v5 v7 v3 v2/\(ag (insC v5 v7 v3 v2)->(SbP v5 v6 v3 v2/\(ag (insC v5 v6 v3 v2)->(((vb=false->((vc=true->(wI O more))/\(vc=false->(wJ O more))))/\(vb=(!false)->((true=true->(wI O more))/\(true=false->(wJ O more)))))/\(∀ u5:Unit,((DH O more/\insC v5 (k9 more).left (xv O more) (xw O more)=0/\insC v5 (k9 more).right (xv O more) (xw O more)=0)->(f6V v5 (aV (insV v5 v7 v3 v2)) (aV (insV v5 v6 v3 v2)))=true)))))))))))))))))))))))))))) ?_;refine⟨⟨λ _=>⟨λ _=>rfl,λ _=>⟨(),?_,⟨rfl,rfl,af⟩,af⟩⟩,λ _=>⟨λ _=>rfl,λ _=>⟨(),?_,⟨rfl,rfl,af⟩,af⟩⟩⟩,λ u1 _=>⟨?_,λ _ _=>⟨λ _ _=>⟨λ _=>?_,λ _=>⟨(),?_,⟨rfl,rfl,af,rfl,rfl,af⟩,⟨rfl,rfl,af⟩,af⟩⟩,λ u2 _=>⟨λ _=>⟨?_,λ _=>⟨(),?_,⟨rfl,af,rfl,rfl,?_,af⟩,⟨rfl,rfl,af⟩,af⟩⟩,λ u3 _=>⟨?_,⟨?_,λ _=>⟨?_,λ _=>?_,λ _=>⟨(),?_,⟨rfl,af,af,af⟩,⟨rfl,rfl,rfl,rfl,rfl,rfl,af⟩,⟨rfl,rfl,af⟩,af⟩⟩,λ _=>⟨λ _=>?_,λ _=>⟨(),?_,⟨rfl,af,af,af⟩,⟨rfl,rfl,rfl,rfl,rfl,rfl,af⟩,⟨rfl,rfl,af⟩,af⟩⟩⟩,λ u4 _=>⟨?_,λ _ _=>⟨?_,λ _=>⟨?_,λ _=>⟨⟨λ _=>⟨λ _=>⟨λ _=>?_,λ _=>rfl⟩,λ _=>⟨(),?_,⟨af,af,af,af⟩,⟨rfl,rfl,rfl,af⟩,⟨rfl,rfl,rfl,af⟩,⟨rfl,rfl,af⟩,af⟩⟩,λ _=>⟨λ _=>⟨λ _=>?_,λ _=>rfl⟩,λ _=>⟨(),?_,⟨af,af,af,af⟩,⟨rfl,rfl,rfl,af⟩,⟨rfl,rfl,rfl,af⟩,⟨rfl,rfl,af⟩,af⟩⟩⟩,λ u5 _=>?_⟩⟩⟩⟩⟩⟩⟩⟩⟩;all_goals try and_intros
 all_goals try (first|with_reducible rfl|with_reducible assumption)
 all_goals try simp only[J.eta,aE.eta,aQ,bq] at *
 all_goals (try simp only[qj,b6j,b6A,b5K,b5L,aJ,ag,bn,cY,b5R,b7R,b6Z,b8J,b5U,b5T,b5O,b5Y,b5S,b6d,J.eta,aD.eta,aE.eta] at *);first|done|contradiction|with_reducible assumption|omega|with_reducible rfl|exact trivial|rfl|exact hp.1|exact hp.2|exact b2v hp ⟨by omega,by omega⟩|(have F:DH O more:=(by with_reducible assumption);have n1:=W9;have k1:=F.k;have k2:=F.kz;have l1:=F.hl;first|omega|exact F.hb|exact F.hm|exact F.g|exact F.q|exact F.l|exact F.r|(rw[n1];exact k2)|(have i1:=a1P (eG O) (k9 more).left (xv O more) (xw O more);have i2:=a1P (eG O) (k9 more).right (xv O more) (xw O more);first|omega|exact a7J (by with_reducible assumption)|exact a6F F (by omega) (by omega)|(rcases i2 with z|z;exact absurd z (by assumption);exact z)|(rcases i1 with z|z;exact absurd z (by assumption);exact z)|(exfalso;rcases i1 with z|z<;>exact absurd z (by assumption))|(simp only[b7d,b5K];omega)))
def R2{w:World}{S:Nat->Prop}:∀ (xs:List Int) (b o:Nat),dh w S (xs.map (Ty.int IntKind.u8).aL) b o->cX xs
 | [],_,_,_=>λ i h=>by simp at h
 | x::xs,b,o,h=>λ i hi=>by
  obtain⟨⟨cs,_,h1,_⟩,h2⟩:=h;cases i with
  | zero =>
   have h3:IntKind.u8.min<=x/\x<=IntKind.u8.max:=h1.2;have e1:IntKind.u8.min=0:=by decide
   have e2:IntKind.u8.max=255:=by decide
   rw[e1,e2] at h3;exact h3
  | succ i=>simpa using R2 xs b _ h2 i (by simpa using hi)
def TG{P:Program}{w:World}{S:Nat->Prop}{O:List Int}{x:Value}(h:vC P w S (.val ⟨.slice (.int .u8),O⟩) x):cX O:=by
 obtain⟨a,cap,_,_,_,_,h5⟩:=(show Rd w S (TV.aL ⟨.slice (.int .u8),O⟩) [x] from h);rcases h5 with h5|⟨b,o,_,_,h5⟩
 .have:O=[]:=List.map_eq_nil_iff.1 h5;subst this;exact λ i h=>by simp at h
 .exact R2 O b o h5
def Tb:∀ LK:List TV,LK.map TV.τ=[(.slice (.int .u8)),(.slice (.int .u8))]->gN prog qQ (LK.map .val) (·=[⟨.bool,true⟩]):=by
 intro LK h;match LK,h with
 | [⟨t0,a0⟩,⟨t1,a1⟩],h =>
  simp only[b6w,b7f,b5J,b5W] at h;obtain⟨rfl,rfl⟩:=h;intro w S bK hS ha;match bK,ha with
  | [x,y],ha=>exact GY.2 a0 a1 ⟨TG ha.1,TG ha.2.1⟩ w S [x,y] hS ha
end
end Go.Proofs.YtlpndogmpcolnaaGreatDoor

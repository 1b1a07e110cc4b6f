/- VmDImp, VmDSt, VmDSt2, VmDSt3, VmDSt4, VmCls, VmClsK, VmLst, VmCls2, VmCls3, VmCls4, VmCln, VmLea, VmLea2, VmClr, VmClr2, VmClr3. -/
import Derived.Test.YtncejbehidimmaaGreatDoorVmISum
import Derived.WalkKit
import Derived.LoopTactic
import Derived.OwnWalk
import Derived.Deep.RegionHeld3
import Derived.Deep.AppendLies
import Derived.Maps.AppendAt
import Derived.Deep.DeepCutAuto
import Derived.Deep.CutBlock
import Derived.Lib.SliceRun
import Derived.Deep.RegionWith
import Derived.Lib.Walk
import Derived.Deep.LoopGhost
set_option linter.all false
set_option maxHeartbeats 4000000
set_option maxRecDepth 4000
namespace Go.Proofs.YtncejbehidimmaaGreatDoor
def b1p:=@List.findIdx_le_length
def b2g:=@Nat.le_antisymm
def b2i:=@List.not_of_lt_findIdx
def b1g:=@List.findIdx_getElem
def b2c:=@Option.bind_none
def b0j:=@Option.bind_some
def b0c:=@List.findIdx_cons
def b0y:=@decide_eq_false
def b1y:=@Go.Lib.cell?_alloc_some
def b0W:=@Classical.not_not
def b2e:=@List.getElem?_replicate
def b2o:=@Go.Lib.run_eql_slice_nil
def b1l:=@Nat.le_of_lt
def b0R:=@Bool.true_eq_false
def b2p:=@decide_eq_true
def b1r:=@List.ext_getElem
def b0K:=@And.left
noncomputable section
def a5U(a:Int)(x:J)(h:x.ah=2):true=eo a x:=by rw[<-VS a x (by omega) (by omega) (by omega) (by omega),Ox];simp[O5,h]
def a5T(a:Int)(x:J)(h:x.ah=1):false=eo a x:=by rw[<-VS a x (by omega) (by omega) (by omega) (by omega),Ox];simp[O5,h]
def a5S(a:Int)(x:J)(hg:az x=true)(h2:¬ x.ah=2)(h8:¬ x.ah=8)(h3:¬ x.ah=3)(h5:¬ x.ah=5)(h6:¬ x.ah=6)(h7:¬ x.ah=7):false=eo a x:=by
 rcases ed x hg with h|h|h|h|h|h|h|h
 .exact a5T a x h
 .exact absurd h h2
 .exact absurd h h3
 .exact a2C a x h
 .exact absurd h h5
 .exact absurd h h6
 .exact absurd h h7
 .exact absurd h h8
noncomputable def Lp(x:J):J:=if aj x<=800 then eF x else J.mk (0:Int) (0:Int) []
noncomputable def cj(a c:Int)(x:J):J:=if (bN a c x).2=true then (bN a c x).1 else J.mk (0:Int) (0:Int) []
def a3f(x:J)(h:¬ 800<aj x):eF x=Lp x:=by rw[Lp,a8A (by omega)]
def S6(x:J)(h:800<aj x):J.mk (0:Int) (0:Int) []=Lp x:=by rw[Lp,a8v (by omega)]
def AX{a c:Int}{x:J}(h:(bN a c x).2=true):cj a c x=(bN a c x).1:=by rw[cj,a8A h]
def a2y{a c:Int}{x:J}(h:(bN a c x).2=false):cj a c x=J.mk (0:Int) (0:Int) []:=by rw[cj,a8v (by rw[h];decide)]
structure pA(a c:Int)(x raw:J):Prop where
 e1:Lp raw=cj a c x
 e2:decide (aj raw<=800)=(bN a c x).2
 g:az raw=true
 n:aj raw<=3000
def pA.of{a c:Int}{x:J}(j:CV a c x):pA a c x (lh a c x):=by
 by_cases h:800<aj (lh a c x)
 .have e:=a0y a c x j h;exact⟨by rw[a2y (by rw[e]),S6 _ h],by rw[e];simp;omega,j.g,j.n⟩
 .have e:=a0x a c x j h;exact⟨by rw[AX (by rw[e]),e,a3f _ h],by rw[e];simp;omega,j.g,j.n⟩
def VP(a c:Int)(x:J)(hg:az x=true)(hn:aj x<=1000)(h:x.ah=6)(e:(bN a c (x.U.getD 0 zE)).2=true)(e':(bN a c (x.U.getD 1 zE)).2=true):pA a c x (J.mk 6 0 [cj a c (x.U.getD 0 zE),cj a c (x.U.getD 1 zE)]):=by
 rw[AX e,AX e',<-Tv a c x h];exact pA.of (a0v a c x hg hn h e e')
def Qs(a c:Int)(x:J)(hg:az x=true)(hn:aj x<=1000)(h:x.ah=7)(e:(bN a c (x.U.getD 0 zE)).2=true)(m:eo a (x.U.getD 0 zE)=true)(e':(bN a c (x.U.getD 1 zE)).2=true):pA a c x (J.mk 6 0 [J.mk 7 0 [cj a c (x.U.getD 0 zE),(x.U.getD 1 zE)],cj a c (x.U.getD 1 zE)]):=by
 rw[AX e,AX e',<-N8 a c x h m];exact pA.of (Ry a c x hg hn h e (.inr ⟨m,e'⟩))
def Qr(a c:Int)(x:J)(hg:az x=true)(hn:aj x<=1000)(h:x.ah=7)(e:(bN a c (x.U.getD 0 zE)).2=true)(m:eo a (x.U.getD 0 zE)=false):pA a c x (J.mk 7 0 [cj a c (x.U.getD 0 zE),(x.U.getD 1 zE)]):=by
 rw[AX e,<-N7 a c x h m];exact pA.of (Ry a c x hg hn h e (.inl m))
def VQ(a c:Int)(x:J)(hg:az x=true)(hn:aj x<=1000)(h:x.ah=8)(e:(bN a c (x.U.getD 0 zE)).2=true):pA a c x (J.mk 7 0 [cj a c (x.U.getD 0 zE),x]):=by
 rw[AX e,<-Tw a c x h];exact pA.of (a0w a c x hg hn h e)
structure nY(a c:Int)(x:J):Prop where
 e1:J.mk (0:Int) (0:Int) []=cj a c x
 e2:false=(bN a c x).2
def nY.of{a c:Int}{x y:J}(h:bN a c x=(y,false)):nY a c x:=⟨(a2y (by rw[h])).symm,by rw[h]⟩
structure AD(a c:Int)(x y:J):Prop where
 e1:y=cj a c x
 e2:true=(bN a c x).2
def AD.of{a c:Int}{x y:J}(h:bN a c x=(y,true)):AD a c x y:=⟨by rw[AX (by rw[h]),h],by rw[h]⟩
structure a5i(a c:Int)(x:J):Prop where
 g:(bN a c x).2=true->az (cj a c x)=true
 n:(bN a c x).2=true->aj (cj a c x)<=800
def diT(a c:Int)(x:J)(h:az x=true):a5i a c x:=by
 have q:=XD a c x h;exact⟨λ e=>by rw[AX e];exact q.g e,λ e=>by rw[AX e];exact q.n e⟩
def kh(n:Nat):aQ:=⟨qU,[.v (.st .expr), .v (.int .i64)],λ (x:J) (atom:Int)=>⟨(some (bo x<n/\az x=true/\0<=atom/\atom<=4096),[⟨.bool,eo atom x⟩])⟩⟩
def lP:aQ:=⟨qU,[.v (.st .expr), .v (.int .i64)],λ (x:J) (atom:Int)=>⟨(some (az x=true/\0<=atom/\atom<=4096),[⟨.bool,eo atom x⟩])⟩⟩
def KZ(x:J)(atom:Int):Nat->aG:=cf
abbrev vw(n:Nat)(x:J)(atom:Int):Prop:=(let v0:=x.U.getD 1 zE;(x.U.length<=140737488355328 ->
 (av (1:Int) x.U.length/\((bo v0<n/\az v0=true/\0<=atom/\atom<=4096)/\(eo atom v0)=(eo atom x)))))
abbrev vx(n:Nat)(x:J)(atom:Int):Prop:=(let v0:=x.U.getD 0 zE;let v1:=bo v0<n/\az v0=true/\0<=atom/\atom<=4096;let v2:=eo atom v0;(((decide (x.ah=(6:Int)))=true ->
 (x.U.length<=140737488355328 ->
 (av (0:Int) x.U.length/\(v1/\((v2=false ->
 (vw n x atom))/\(v2=(!false) ->
 true=(eo atom x)))))))/\((decide (x.ah=(6:Int)))=false ->
 (((decide (x.ah=(7:Int)))=true ->
 (x.U.length<=140737488355328 ->
 (av (0:Int) x.U.length/\(v1/\((v2=true ->
 (vw n x atom))/\(v2=(!true) ->
 false=(eo atom x)))))))/\((decide (x.ah=(7:Int)))=false ->
 false=(eo atom x))))))
abbrev vy(n:Nat)(x:J)(atom:Int):Prop:=(let v0:=(gM x=true/\0<=atom/\atom<=4096)/\(fL atom x)=(eo atom x);let v1:=decide (x.ah=(3:Int));((v1=true ->
 ((v1=true ->
 v0)/\(v1=false ->
 (vx n x atom))))/\(v1=false ->
 (((decide (x.ah=(5:Int)))=true ->
 v0)/\((decide (x.ah=(5:Int)))=false ->
 (vx n x atom))))))
def Jk(n:Nat)(hE:bf [kh n,wL]):aQ.Good (kh (n+1)):=by
 refine⟨aB jR,?_⟩;intro (x:J) (atom:Int) (hp:bo x<n+1/\az x=true/\0<=atom/\atom<=4096);refine aP [kh n,wL] [] [] [2] hE jR Eo (KZ x atom) (let v0:=decide (x.ah=(2:Int));((ai x.ah->((v0=true->((v0=true->true=(eo atom x))/\(v0=false->(vy n x atom))))/\(v0=false->(((decide (x.ah=(8:Int)))=true->true=(eo atom x))/\((decide (x.ah=(8:Int)))=false->(vy n x atom)))))))) ?_;obtain⟨hm,hg,h0,h1⟩:=hp;refine λ _=>⟨λ _=>⟨λ _=>?_,λ _=>⟨λ _=>⟨λ _=>⟨?_,?_⟩,λ _=>⟨λ _ _=>⟨?_,?_,λ _ _=>⟨?_,?_,?_⟩,λ _=>?_⟩,λ _=>⟨λ _ _=>⟨?_,?_,λ _ _=>⟨?_,?_,?_⟩,λ _=>?_⟩,λ _=>?_⟩⟩⟩,λ _=>⟨λ _=>⟨?_,?_⟩,λ _=>⟨λ _ _=>⟨?_,?_,λ _ _=>⟨?_,?_,?_⟩,λ _=>?_⟩,λ _=>⟨λ _ _=>⟨?_,?_,λ _ _=>⟨?_,?_,?_⟩,λ _=>?_⟩,λ _=>?_⟩⟩⟩⟩⟩,λ _=>⟨λ _=>?_,λ _=>⟨λ _=>⟨λ _=>⟨?_,?_⟩,λ _=>⟨λ _ _=>⟨?_,?_,λ _ _=>⟨?_,?_,?_⟩,λ _=>?_⟩,λ _=>⟨λ _ _=>⟨?_,?_,λ _ _=>⟨?_,?_,?_⟩,λ _=>?_⟩,λ _=>?_⟩⟩⟩,λ _=>⟨λ _=>⟨?_,?_⟩,λ _=>⟨λ _ _=>⟨?_,?_,λ _ _=>⟨?_,?_,?_⟩,λ _=>?_⟩,λ _=>⟨λ _ _=>⟨?_,?_,λ _ _=>⟨?_,?_,?_⟩,λ _=>?_⟩,λ _=>?_⟩⟩⟩⟩⟩⟩;all_goals try and_intros
 all_goals first|rfl|trivial|omega|((try simp only[a8z,a8y,av,Bool.true_or,b2w,b2x,b2n,Bool.or_true,b1J,J.eta] at *);first|rfl|omega|exact a5S atom x hg (by omega) (by omega) (by omega) (by omega) (by omega) (by omega)|exact a5U atom x (by omega)|exact a2F atom x (by omega)|exact VS atom x (by omega) (by omega) (by omega) (by omega)|exact VY x hg (by have:=ed x hg;omega)|(have b:=cD x hg (by omega);first|(have:=b.len;omega)|exact b.g0|exact b.g1|(have:=b.l0;omega)|(have:=b.l1;omega)|(rw[a2D atom x (by omega) b];simp_all;done)|(rw[a2E atom x (by omega) b];simp_all;done)))
def Pg :∀ n,bf [kh n]
 | 0=>⟨⟨aB jR,λ _ _ h=>absurd h.1 (a8X _)⟩,ae⟩
 | n+1=>by
  have ih:=Pg  n;exact⟨Jk n ⟨ih.1,IE,ae⟩,ae⟩
def tp :aQ.Good lP :=
 ⟨aB jR,λ x atom hp=>(Pg  (bo x+1)).1.2 x atom (⟨a8K _,hp⟩)⟩
def jm(n:Nat):aQ:=⟨oT,[.v (.st .expr)],λ (x:J)=>⟨(some (bo x<n/\aj x<=1048576),[⟨(.int .i64),(aj x:Int)⟩])⟩⟩
def xG:aQ:=⟨oT,[.v (.st .expr)],λ (x:J)=>⟨(some (aj x<=1048576),[⟨(.int .i64),(aj x:Int)⟩])⟩⟩
def I1(x:J):Nat->aG:=(dU 0 (.b (Nat) (λ k=>k<=x.U.length) (λ k=>x.U.length - k) [0,1,2,6] (λ k=>[(9, .aK ⟨(.int .i64),((k:Int):Int)⟩),(3, .aK ⟨(.int .i64),((1+cm aj (x.U.take k):Int):Int)⟩)])) cf)
def HE(n:Nat)(hE:bf [jm n]):aQ.Good (jm (n+1)):=by
 refine⟨aB jf,?_⟩;intro (x:J) (hp:bo x<n+1/\aj x<=1048576);refine aP [jm n] [] [] [1] hE jf C2 (I1 x) (let v0:=(x.U.length:Int);((x.U.length<=140737488355328->(ai v0->((∃ k1:Nat,(k1<=x.U.length/\(((1:Int)=(1+cm aj (x.U.take k1):Int)/\(x.U=x.U/\(v0=v0/\((0:Int)=(k1:Int)/\True))))/\True)))/\(∀ k1:Nat,let v1:=bc (x.U.getD k1 zE);let v2:=(1+cm aj (x.U.take k1):Int);let v3:=(aj v1:Int);(k1<=x.U.length->(((decide ((k1:Int)<v0))=true->(av (k1:Int) x.U.length/\((bo v1<n/\aj v1<=1048576)/\(ai v3->(ai (v2+v3)/\(ai ((k1:Int)+(1:Int))/\(∃ k2:Nat,(k2<=x.U.length/\(x.U.length - k2<x.U.length - k1/\(((v2+v3)=(1+cm aj (x.U.take k2):Int)/\(x.U=x.U/\(v0=v0/\(((k1:Int)+(1:Int))=(k2:Int)/\True))))/\True))))))))))/\((decide ((k1:Int)<v0))=false->v2=(aj x:Int)))))))))) ?_;rw[gv x] at hp;have f0:=dZ x;have f1:=ya aj x.U;refine λ _ _=>⟨⟨0,?_,⟨?_,rfl,rfl,?_,ae⟩,ae⟩,λ k1 _=>have a5t:=kE aj zE x.U k1;have a5u:=dz aj x.U k1;have a5v:=dz aj x.U (k1+1);have a5w:=pQ aj x.U k1;have a5x:=bX zE x.U k1;⟨λ _=>⟨?_,?_,λ _=>⟨?_,?_,k1+1,?_,?_,⟨?_,rfl,rfl,?_,ae⟩,ae⟩⟩,λ _=>?_⟩⟩;all_goals try and_intros
 all_goals try (first|with_reducible rfl|with_reducible assumption)
 all_goals try simp only[J.eta,cW] at *
 all_goals try rw[gv x]
 all_goals first|rfl|trivial|omega|(simp only[a8z,a8y,av,ai,cH,iy,cB,aX] at *;omega)|(simp[av,ai] at *;omega)|grind
def JO :∀ n,bf [jm n]
 | 0=>⟨⟨aB jf,λ _ h=>absurd h.1 (a8X _)⟩,ae⟩
 | n+1=>by
  have ih:=JO  n;exact⟨HE n ⟨ih.1,ae⟩,ae⟩
def Dg :aQ.Good xG :=
 ⟨aB jf,λ x hp=>(JO  (bo x+1)).1.2 x (⟨a8K _,hp⟩)⟩
def ki(n:Nat):aQ:=⟨qV,[.v (.st .expr), .v (.st .expr)],λ (x:J) (b:J)=>⟨(some (bo x<n/\az x=true/\az b=true/\aj x+aj b<=4000),[⟨(.st .expr),ju x b⟩])⟩⟩
def qI:aQ:=⟨qV,[.v (.st .expr), .v (.st .expr)],λ (x:J) (b:J)=>⟨(some (az x=true/\az b=true/\aj x+aj b<=4000),[⟨(.st .expr),ju x b⟩])⟩⟩
def K1(x:J)(b:J):Nat->aG:=cf
abbrev vz(n:Nat)(x:J)(b:J):Prop:=(let v0:=x.U.getD 1 zE;let v1:=x.U.getD 0 zE;(ai x.ah ->
 (((decide (x.ah=(2:Int)))=true ->
 (bc b)=(ju x b))/\((decide (x.ah=(2:Int)))=false ->
 (ai b.ah ->
 (((decide (b.ah=(2:Int)))=true ->
 (bc x)=(ju x b))/\((decide (b.ah=(2:Int)))=false ->
 (ai x.ah ->
 (((decide (x.ah=(7:Int)))=true ->
 (av (0:Int) x.U.length/\(av (1:Int) x.U.length/\((bo v0<n/\az v0=true/\az b=true/\aj v0+aj b<=4000)/\(x.U.length<=140737488355328 ->
 (x.U.length<=140737488355328 ->
 ((bo v1<n/\az v1=true/\az (ju v0 b)=true/\aj v1+aj (ju v0 b)<=4000)/\(bc (ju v1 (ju v0 b)))=(ju x b))))))))/\((decide (x.ah=(7:Int)))=false ->
 (bc (J.mk (7:Int) 0 ([x,b])))=(ju x b)))))))))))
def Jl(n:Nat)(hE:bf [ki n,kd,ke]):aQ.Good (ki (n+1)):=by
 refine⟨aB jS,?_⟩;intro (x:J) (b:J) (hp:bo x<n+1/\az x=true/\az b=true/\aj x+aj b<=4000);refine aP [ki n,kd,ke] [] [] [2,3,42] hE jS Er (K1 x b) (let v0:=bc (J.mk (1:Int) (0:Int) []);((ai x.ah->(((decide (x.ah=(1:Int)))=false->(ai b.ah->(((decide (b.ah=(1:Int)))=true->v0=(ju x b))/\((decide (b.ah=(1:Int)))=false->(vz n x b)))))/\((decide (x.ah=(1:Int)))=(!false)->((true=true->v0=(ju x b))/\(true=false->(vz n x b)))))))) ?_;obtain⟨hm,hg,hb,hn⟩:=hp;refine λ _=>⟨λ _ _=>⟨λ _=>?_,λ _ _=>⟨λ _=>?_,λ _ _=>⟨λ _=>?_,λ _ _=>⟨λ _=>⟨?_,?_,?_,λ _ _=>⟨?_,?_⟩⟩,λ _=>?_⟩⟩⟩⟩,λ _=>⟨λ _=>?_,λ _ _=>⟨λ _=>?_,λ _ _=>⟨λ _=>?_,λ _ _=>⟨λ _=>⟨?_,?_,?_,λ _ _=>⟨?_,?_⟩⟩,λ _=>?_⟩⟩⟩⟩⟩;all_goals try and_intros
 all_goals try (first|with_reducible rfl|with_reducible assumption)
 all_goals try simp only[J.eta,cW] at *
 all_goals (try simp only[a9r,a9y,a8z,a8y,av,J.eta] at *);first|rfl|trivial|omega|exact oY _ (by omega)|exact (Gu x b (by omega)).symm|exact (Gv x b (by omega) (by omega)).symm|exact (Gw x b (by omega) (by omega) (by omega)).symm|exact (Gy x b (by omega) (by omega) (by omega) (by omega)).symm|with_reducible assumption|(have g:=cD x hg (by omega);first|(have:=g.len;omega)|exact g.g0|exact g.g1|(have:=g.l0;omega)|(have:=g.l1;omega)|exact (dtT _ b g.g1 hb).g|(have:=g.nd;omega)|(have:=g.nd;have:=(dtT _ b g.g1 hb).n;omega)|exact (Gx x b (by omega) (by omega) (by omega) (by omega) g).symm)|exact congrArg J.ah (Gu x b (by omega)).symm|exact congrArg J.ah (Gv x b (by omega) (by omega)).symm|exact congrArg J.ah (Gw x b (by omega) (by omega) (by omega)).symm|exact congrArg J.ah (Gy x b (by omega) (by omega) (by omega) (by omega)).symm|exact congrArg J.ah (Gx x b (by omega) (by omega) (by omega) (by omega) (cD x hg (by omega))).symm|exact congrArg J.aZ (Gu x b (by omega)).symm|exact congrArg J.aZ (Gv x b (by omega) (by omega)).symm|exact congrArg J.aZ (Gw x b (by omega) (by omega) (by omega)).symm|exact congrArg J.aZ (Gy x b (by omega) (by omega) (by omega) (by omega)).symm|exact congrArg J.aZ (Gx x b (by omega) (by omega) (by omega) (by omega) (cD x hg (by omega))).symm|exact congrArg J.U (Gu x b (by omega)).symm|exact congrArg J.U (Gv x b (by omega) (by omega)).symm|exact congrArg J.U (Gw x b (by omega) (by omega) (by omega)).symm|exact congrArg J.U (Gy x b (by omega) (by omega) (by omega) (by omega)).symm|exact congrArg J.U (Gx x b (by omega) (by omega) (by omega) (by omega) (cD x hg (by omega))).symm
def Pe :∀ n,bf [ki n]
 | 0=>⟨⟨aB jS,λ _ _ h=>absurd h.1 (a8X _)⟩,ae⟩
 | n+1=>by
  have ih:=Pe  n;exact⟨Jl n ⟨ih.1,lL,lM,ae⟩,ae⟩
def ER :aQ.Good qI :=
 ⟨aB jS,λ x b hp=>(Pe  (bo x+1)).1.2 x b (⟨a8K _,hp⟩)⟩
def oK:aQ:=⟨xT,[.v (.st .expr)],λ (x:J)=>⟨(some (az x=true/\aj x<=4000),[⟨(.st .expr),Cd x⟩])⟩⟩
def I4(x:J):Nat->aG:=cf
def Dk:aQ.Good oK:=by
 refine⟨aB uL,?_⟩;intro (x:J) (hp:az x=true/\aj x<=4000);refine aP [gD,ke,kd] [] [] [1,13] ⟨nh,lM,lL,ae⟩ uL C6 (I4 x) ((((bF x)=true->(bc (J.mk (2:Int) (0:Int) []))=(Cd x))/\((bF x)=false->(ai x.ah->(((decide (x.ah=(8:Int)))=true->(bc x)=(Cd x))/\((decide (x.ah=(8:Int)))=false->(bc (J.mk (8:Int) 0 ([x])))=(Cd x))))))) ?_;obtain⟨hg,hn⟩:=hp;refine⟨λ _=>?_,λ _ _=>⟨λ _=>?_,λ _=>?_⟩⟩;all_goals try and_intros
 all_goals try (first|with_reducible rfl|with_reducible assumption)
 all_goals try simp only[J.eta,cW] at *
 all_goals (try simp only[decide_eq_true_eq,decide_eq_false_iff_not,av,J.eta] at *);first|rfl|trivial|omega|exact oY _ (by omega)|(unfold Cd;first|(rw[if_pos (by with_reducible assumption)];done)|(rw[if_neg (by simp_all),if_pos (by with_reducible assumption)];done)|(rw[if_neg (by simp_all),if_neg (by with_reducible assumption)];done))
def Di:aQ.Good jq:=BW.plain
def ph(n:Nat):aQ:=⟨yS,[.v (.st .expr)],λ (x:J)=>⟨(some (bo x<n/\az x=true/\aj x<=3000),[⟨(.st .expr),eF x⟩])⟩⟩
def yO:aQ:=⟨yS,[.v (.st .expr)],λ (x:J)=>⟨(some (az x=true/\aj x<=3000),[⟨(.st .expr),eF x⟩])⟩⟩
def Q5(x:J):Nat->aG:=cf
def OZ(n:Nat)(hE:bf [ph n,qJ,qI,oK,jq]):aQ.Good (ph (n+1)):=by
 refine⟨aB pf,?_⟩;intro (x:J) (hp:bo x<n+1/\az x=true/\aj x<=3000);refine aP [ph n,qJ,qI,oK,jq] [] [] [1] hE pf KE (Q5 x) (let v0:=x.U.getD 0 zE;let v1:=x.U.getD 1 zE;let v2:=bo v0<n/\az v0=true/\aj v0<=3000;let v3:=bo v1<n/\az v1=true/\aj v1<=3000;let v4:=eF v0;((ai x.ah->(((decide (x.ah=(6:Int)))=true->(av (0:Int) x.U.length/\(v2/\(av (1:Int) x.U.length/\(x.U.length<=140737488355328->(x.U.length<=140737488355328->(v3/\((az v4=true/\az (eF v1)=true/\aj v4+aj (eF v1)<=7000)/\(bc (Ly v4 (eF v1)))=(eF x)))))))))/\((decide (x.ah=(6:Int)))=false->(((decide (x.ah=(7:Int)))=true->(av (0:Int) x.U.length/\(v2/\(av (1:Int) x.U.length/\(x.U.length<=140737488355328->(x.U.length<=140737488355328->(v3/\((az v4=true/\az (eF v1)=true/\aj v4+aj (eF v1)<=4000)/\(bc (ju v4 (eF v1)))=(eF x)))))))))/\((decide (x.ah=(7:Int)))=false->(((decide (x.ah=(8:Int)))=true->(x.U.length<=140737488355328->(av (0:Int) x.U.length/\(v2/\((az v4=true/\aj v4<=4000)/\(bc (Cd v4))=(eF x))))))/\((decide (x.ah=(8:Int)))=false->(aY x<=1048576/\(bc x)=(eF x))))))))))) ?_;obtain⟨hm,hg,hn⟩:=hp;refine λ _=>⟨λ _=>⟨?_,?_,?_,λ _ _=>⟨?_,?_,?_⟩⟩,λ _=>⟨λ _=>⟨?_,?_,?_,λ _ _=>⟨?_,?_,?_⟩⟩,λ _=>⟨λ _ _=>⟨?_,?_,?_,?_⟩,λ _=>⟨?_,?_⟩⟩⟩⟩;all_goals try and_intros
 all_goals try (first|with_reducible rfl|with_reducible assumption)
 all_goals try simp only[J.eta,cW] at *
 all_goals (try simp only[a9r,a9y,a8z,a8y,av,J.eta] at *);first|rfl|trivial|omega|exact oY _ (by omega)|(have g:=jC x hg (.inr (by omega));first|(have:=g.len;omega)|exact g.g0|(have:=g.l0;omega)|(have:=g.nd;omega)|exact (Cg _ g.g0).g|(have:=(Cg _ g.g0).n;have:=g.nd;omega)|(rw[a1c x (by omega) g]<;>rfl))|(have g:=cD x hg (by omega);first|(have:=g.len;omega)|exact g.g0|exact g.g1|(have:=g.l0;omega)|(have:=g.l1;omega)|(have:=g.nd;omega)|exact (Cg _ g.g0).g|exact (Cg _ g.g1).g|(have:=(Cg _ g.g0).n;have:=(Cg _ g.g1).n;have:=g.nd;omega)|(rw[a1a x (by omega) g]<;>rfl)|(rw[a1b x (by omega) g]<;>rfl))|(rw[a1d x (by omega) (by omega) (by omega)]<;>rfl)
def Pj :∀ n,bf [ph n]
 | 0=>⟨⟨aB pf,λ _ h=>absurd h.1 (a8X _)⟩,ae⟩
 | n+1=>by
  have ih:=Pj  n;exact⟨OZ n ⟨ih.1,ES,ER,Dk,Di,ae⟩,ae⟩
def zw :aQ.Good yO :=
 ⟨aB pf,λ x hp=>(Pj  (bo x+1)).1.2 x (⟨a8K _,hp⟩)⟩
def qH:aQ:=⟨zU,[.v (.st .expr)],λ (x:J)=>⟨(some (az x=true/\aj x<=3000),[⟨(.st .expr),Lp x⟩,⟨.bool,decide (aj x<=800)⟩])⟩⟩
def K0(x:J):Nat->aG:=cf
def EP:aQ.Good qH:=by
 refine⟨aB wY,?_⟩;intro (x:J) (hp:az x=true/\aj x<=3000);refine aP [xG,yO] [] [] [1] ⟨Dg,zw,ae⟩ wY Ep (K0 x) (let v0:=decide ((800:Int)<((aj x:Int)));((aj x<=1048576/\(ai ((aj x:Int))->((v0=true->(zE=(Lp x)/\false=(decide (aj x<=800))))/\(v0=false->((az x=true/\aj x<=3000)/\((bc (eF x))=(Lp x)/\true=(decide (aj x<=800)))))))))) ?_;obtain⟨hg,hn⟩:=hp;refine⟨?_,λ _=>⟨λ _=>⟨?_,?_⟩,λ _=>⟨?_,?_,?_⟩⟩⟩;all_goals try and_intros
 all_goals try (first|with_reducible rfl|with_reducible assumption)
 all_goals try simp only[J.eta,cW] at *
 all_goals (try simp only[a8z,a8y,av,J.eta] at *);first|rfl|trivial|omega|exact S6 x (by omega)|exact a3f x (by omega)|(simp;omega)|exact congrArg J.ah (S6 x (by omega))|exact congrArg J.aZ (S6 x (by omega))|exact congrArg J.U (S6 x (by omega))
def kg(n:Nat):aQ:=⟨qT,[.v (.st .expr), .v (.int .i64), .v (.int .i64)],λ (x:J) (atom:Int) (act:Int)=>⟨(some (bo x<n/\az x=true/\aj x<=1000/\0<=atom/\atom<=4096),[⟨(.st .expr),cj atom act x⟩,⟨.bool,(bN atom act x).2⟩])⟩⟩
def zI:aQ:=⟨qT,[.v (.st .expr), .v (.int .i64), .v (.int .i64)],λ (x:J) (atom:Int) (act:Int)=>⟨(some (az x=true/\aj x<=1000/\0<=atom/\atom<=4096),[⟨(.st .expr),cj atom act x⟩,⟨.bool,(bN atom act x).2⟩])⟩⟩
def KY(x:J)(atom:Int)(act:Int):Nat->aG:=cf
abbrev vr(x:J)(atom:Int)(act:Int):Prop:=((!((bN atom act (x.U.getD 1 zE)).2))=true ->
 (zE=(cj atom act x)/\false=((bN atom act x).2)))
abbrev vu(x:J)(atom:Int)(act:Int):Prop:=(let v0:=J.mk (6:Int) 0 ([(bc (cj atom act (x.U.getD 0 zE))),(bc (cj atom act (x.U.getD 1 zE)))]);((az v0=true/\aj v0<=3000)/\((bc (Lp v0))=(cj atom act x)/\(decide (aj v0<=800))=((bN atom act x).2))))
abbrev vv(x:J)(atom:Int)(act:Int):Prop:=((!((bN atom act (x.U.getD 0 zE)).2))=true ->
 (zE=(cj atom act x)/\false=((bN atom act x).2)))
def Jj(n:Nat)(hE:bf [kg n,kd,ke,lP,qH]):aQ.Good (kg (n+1)):=by
 refine⟨aB jQ,?_⟩;intro (x:J) (atom:Int) (act:Int) (hp:bo x<n+1/\az x=true/\aj x<=1000/\0<=atom/\atom<=4096);refine aP [kg n,kd,ke,lP,qH] [] [] [3,59,84,112,134] hE jQ En (KY x atom act) (let v1:=x.U.getD 0 zE;let v3:=bo v1<n/\az v1=true/\aj v1<=1000/\0<=atom/\atom<=4096;let v4:=J.mk (7:Int) 0 ([(bc (cj atom act v1)),x]);let v5:=x.U.getD 1 zE;let v0:=bc (J.mk (7:Int) 0 ([(bc (cj atom act v1)),v5]));let v2:=J.mk (6:Int) 0 ([v0,(bc (cj atom act v5))]);let v6:=(bN atom act x).2;let v7:=bo v5<n/\az v5=true/\aj v5<=1000/\0<=atom/\atom<=4096;let v8:=cj atom act x;let v9 := !((bN atom act v1).2);let vb:=(0:Int);let va:=(bc (J.mk (1:Int) vb []))=v8/\true=v6;((ai x.ah->(((decide (x.ah=(4:Int)))=true->(ai x.aZ->(((decide (x.aZ=act))=true->((bc (J.mk (2:Int) vb []))=v8/\true=v6))/\((decide (x.aZ=act))=false->va))))/\((decide (x.ah=(4:Int)))=false->(((decide (x.ah=(6:Int)))=true->(x.U.length<=140737488355328->(av vb x.U.length/\(v3/\(x.U.length<=140737488355328->(av (1:Int) x.U.length/\(v7/\((v9=false->((vr x atom act)/\((!((bN atom act v5).2))=false->(vu x atom act))))/\(v9=(!false)->((true=true->(zE=v8/\false=v6))/\(true=false->(vu x atom act))))))))))))/\((decide (x.ah=(6:Int)))=false->(((decide (x.ah=(7:Int)))=true->(x.U.length<=140737488355328->(av vb x.U.length/\(v3/\((vv x atom act)/\(v9=false->(av (1:Int) x.U.length/\(x.U.length<=140737488355328->(x.U.length<=140737488355328->(av vb x.U.length/\((az v1=true/\0<=atom/\atom<=4096)/\(((!(eo atom v1))=true->((az v0=true/\aj v0<=3000)/\((bc (Lp v0))=v8/\(decide (aj v0<=800))=v6)))/\((!(eo atom v1))=false->(x.U.length<=140737488355328->(av (1:Int) x.U.length/\(v7/\((vr x atom act)/\((!((bN atom act v5).2))=false->((az v2=true/\aj v2<=3000)/\((bc (Lp v2))=v8/\(decide (aj v2<=800))=v6))))))))))))))))))))/\((decide (x.ah=(7:Int)))=false->(((decide (x.ah=(8:Int)))=true->(x.U.length<=140737488355328->(av vb x.U.length/\(v3/\((vv x atom act)/\(v9=false->((az v4=true/\aj v4<=3000)/\((bc (Lp v4))=v8/\(decide (aj v4<=800))=v6))))))))/\((decide (x.ah=(8:Int)))=false->va))))))))))) ?_;obtain⟨hm,hg,hn,h0,h1⟩:=hp;refine λ _=>⟨λ _ _=>⟨λ _=>⟨?_,?_⟩,λ _=>⟨?_,?_⟩⟩,λ _=>⟨λ _ _=>⟨?_,?_,λ _=>⟨?_,?_,λ _=>⟨λ _=>⟨?_,?_⟩,λ _=>⟨?_,?_,?_⟩⟩,λ _=>⟨λ _=>⟨?_,?_⟩,λ _=>⟨?_,?_,?_⟩⟩⟩⟩,λ _=>⟨λ _ _=>⟨?_,?_,λ _=>⟨?_,?_⟩,λ _=>⟨?_,λ _ _=>⟨?_,?_,λ _=>⟨?_,?_,?_⟩,λ _ _=>⟨?_,?_,λ _=>⟨?_,?_⟩,λ _=>⟨?_,?_,?_⟩⟩⟩⟩⟩,λ _=>⟨λ _ _=>⟨?_,?_,λ _=>⟨?_,?_⟩,λ _=>⟨?_,?_,?_⟩⟩,λ _=>⟨?_,?_⟩⟩⟩⟩⟩;all_goals try and_intros
 all_goals try (first|with_reducible rfl|with_reducible assumption)
 all_goals try simp only[J.eta,cW] at *
 all_goals (try simp only[a9r,a9y,a8S,a9b,a8z,a8y,av,J.eta] at *);first|rfl|trivial|omega|with_reducible assumption|exact pA.e1 (VP atom act x hg hn (by omega) (by with_reducible assumption) (by with_reducible assumption))|exact pA.e2 (VP atom act x hg hn (by omega) (by with_reducible assumption) (by with_reducible assumption))|exact pA.g (VP atom act x hg hn (by omega) (by with_reducible assumption) (by with_reducible assumption))|exact pA.n (VP atom act x hg hn (by omega) (by with_reducible assumption) (by with_reducible assumption))|exact pA.e1 (Qs atom act x hg hn (by omega) (by with_reducible assumption) (by with_reducible assumption) (by with_reducible assumption))|exact pA.e2 (Qs atom act x hg hn (by omega) (by with_reducible assumption) (by with_reducible assumption) (by with_reducible assumption))|exact pA.g (Qs atom act x hg hn (by omega) (by with_reducible assumption) (by with_reducible assumption) (by with_reducible assumption))|exact pA.n (Qs atom act x hg hn (by omega) (by with_reducible assumption) (by with_reducible assumption) (by with_reducible assumption))|exact pA.e1 (Qr atom act x hg hn (by omega) (by with_reducible assumption) (by with_reducible assumption))|exact pA.e2 (Qr atom act x hg hn (by omega) (by with_reducible assumption) (by with_reducible assumption))|exact pA.g (Qr atom act x hg hn (by omega) (by with_reducible assumption) (by with_reducible assumption))|exact pA.n (Qr atom act x hg hn (by omega) (by with_reducible assumption) (by with_reducible assumption))|exact pA.e1 (VQ atom act x hg hn (by omega) (by with_reducible assumption))|exact pA.e2 (VQ atom act x hg hn (by omega) (by with_reducible assumption))|exact pA.g (VQ atom act x hg hn (by omega) (by with_reducible assumption))|exact pA.n (VQ atom act x hg hn (by omega) (by with_reducible assumption))|exact (AD.of (FE atom act x (by omega) (by omega))).e1|exact (AD.of (FE atom act x (by omega) (by omega))).e2|exact congrArg J.ah (AD.of (FE atom act x (by omega) (by omega))).e1|exact congrArg J.aZ (AD.of (FE atom act x (by omega) (by omega))).e1|exact congrArg J.U (AD.of (FE atom act x (by omega) (by omega))).e1|exact (AD.of (FD atom act x (by omega) (by omega))).e1|exact (AD.of (FD atom act x (by omega) (by omega))).e2|exact congrArg J.ah (AD.of (FD atom act x (by omega) (by omega))).e1|exact congrArg J.aZ (AD.of (FD atom act x (by omega) (by omega))).e1|exact congrArg J.U (AD.of (FD atom act x (by omega) (by omega))).e1|exact (AD.of (Og atom act x (by omega) (by omega) (by omega) (by omega))).e1|exact (AD.of (Og atom act x (by omega) (by omega) (by omega) (by omega))).e2|exact congrArg J.ah (AD.of (Og atom act x (by omega) (by omega) (by omega) (by omega))).e1|exact congrArg J.aZ (AD.of (Og atom act x (by omega) (by omega) (by omega) (by omega))).e1|exact congrArg J.U (AD.of (Og atom act x (by omega) (by omega) (by omega) (by omega))).e1|(have g:=cD x hg (by omega);first|(have:=g.len;omega)|exact g.g0|exact g.g1|(have:=g.l0;omega)|(have:=g.l1;omega)|(have:=g.nd;omega)|exact (nY.of (nL atom act x (by omega) g (.inl (by with_reducible assumption)))).e1|exact (nY.of (nL atom act x (by omega) g (.inl (by with_reducible assumption)))).e2|exact congrArg J.ah (nY.of (nL atom act x (by omega) g (.inl (by with_reducible assumption)))).e1|exact congrArg J.aZ (nY.of (nL atom act x (by omega) g (.inl (by with_reducible assumption)))).e1|exact congrArg J.U (nY.of (nL atom act x (by omega) g (.inl (by with_reducible assumption)))).e1|exact (nY.of (nL atom act x (by omega) g (.inr (by with_reducible assumption)))).e1|exact (nY.of (nL atom act x (by omega) g (.inr (by with_reducible assumption)))).e2|exact congrArg J.ah (nY.of (nL atom act x (by omega) g (.inr (by with_reducible assumption)))).e1|exact congrArg J.aZ (nY.of (nL atom act x (by omega) g (.inr (by with_reducible assumption)))).e1|exact congrArg J.U (nY.of (nL atom act x (by omega) g (.inr (by with_reducible assumption)))).e1|exact (nY.of (FF atom act x (by omega) g (by with_reducible assumption))).e1|exact (nY.of (FF atom act x (by omega) g (by with_reducible assumption))).e2|exact congrArg J.ah (nY.of (FF atom act x (by omega) g (by with_reducible assumption))).e1|exact congrArg J.aZ (nY.of (FF atom act x (by omega) g (by with_reducible assumption))).e1|exact congrArg J.U (nY.of (FF atom act x (by omega) g (by with_reducible assumption))).e1|exact (nY.of (FG atom act x (by omega) g (by with_reducible assumption) (by with_reducible assumption) (by with_reducible assumption))).e1|exact (nY.of (FG atom act x (by omega) g (by with_reducible assumption) (by with_reducible assumption) (by with_reducible assumption))).e2|exact congrArg J.ah (nY.of (FG atom act x (by omega) g (by with_reducible assumption) (by with_reducible assumption) (by with_reducible assumption))).e1|exact congrArg J.aZ (nY.of (FG atom act x (by omega) g (by with_reducible assumption) (by with_reducible assumption) (by with_reducible assumption))).e1|exact congrArg J.U (nY.of (FG atom act x (by omega) g (by with_reducible assumption) (by with_reducible assumption) (by with_reducible assumption))).e1)|(have g:=jC x hg (by omega);first|(have:=g.len;omega)|exact g.g0|(have:=g.l0;omega)|(have:=g.nd;omega)|exact (nY.of (FH atom act x (by omega) g (by with_reducible assumption))).e1|exact (nY.of (FH atom act x (by omega) g (by with_reducible assumption))).e2|exact congrArg J.ah (nY.of (FH atom act x (by omega) g (by with_reducible assumption))).e1|exact congrArg J.aZ (nY.of (FH atom act x (by omega) g (by with_reducible assumption))).e1|exact congrArg J.U (nY.of (FH atom act x (by omega) g (by with_reducible assumption))).e1)
def Pd :∀ n,bf [kg n]
 | 0=>⟨⟨aB jQ,λ _ _ _ h=>absurd h.1 (a8X _)⟩,ae⟩
 | n+1=>by
  have ih:=Pd  n;exact⟨Jj n ⟨ih.1,lL,lM,tp,EP,ae⟩,ae⟩
def EO :aQ.Good zI :=
 ⟨aB jQ,λ x atom act hp=>(Pd  (bo x+1)).1.2 x atom act (⟨a8K _,hp⟩)⟩
noncomputable def xn(xs:List J)(d:J):Nat:=xs.findIdx λ y=>eg y d
noncomputable def fU(xs:List J)(d:J):Int:=if xn xs d<xs.length then (xn xs d:Int) else -1
def a1v(xs:List J)(d:J):xn xs d<=xs.length:=b1p
def a5W(xs:List J)(d:J)(k:Nat)(hk:k<xs.length)(hle:k<=xn xs d)(h:eg (xs.getD k zE) d=true):(k:Int)=fU xs d:=by
 have e:xn xs d=k:=by
  apply b2g _ hle;rcases a8Q k (xn xs d) with q|q
  .have:=b2i q;rw[a8D,a8H hk] at h;simp only[b1b] at h;rw[h] at this;cases this
  .exact q
 rw[fU,a8A (by omega),e]
def a5V(xs:List J)(d:J)(k:Nat)(hk:k<xs.length)(hle:k<=xn xs d)(h:eg (xs.getD k zE) d=false):k+1<=xn xs d:=by
 rcases a8Q k (xn xs d) with q|q
 .exact q
 .have e:xn xs d=k:=by omega
  have bm:xn xs d<xs.length:=by omega
  have:=b1g (w:=bm);rw[a8D,a8H hk] at h;simp only[b1b] at h;have e2:xs[xn xs d]=xs[k]:=by simp[e]
  have h3:eg xs[xn xs d] d=true:=this;rw[e2,h] at h3;cases h3
def a1w(xs:List J)(d:J)(h:xs.length<=xn xs d) : -1=fU xs d:=by rw[fU,a8v (by omega)]
def a1u(xs:List J)(d:J) : -1<=fU xs d/\fU xs d<xs.length:=by
 unfold fU;split<;>omega
structure kQ where
 ls:List J
 rw:List Int
noncomputable def rY(b:Bool)(a c:Int)(x:J)(s:kQ):Option kQ :=
 if (bN a c x).2=true then
  (if (cj a c x).ah=1 then some ⟨s.ls,s.rw++[-1]⟩ else if 0<=fU s.ls (cj a c x) then some ⟨s.ls,s.rw++[fU s.ls (cj a c x)]⟩
   else if b=true/\s.ls.length=60 then none else some ⟨s.ls++[cj a c x],s.rw++[(s.ls.length:Int)]⟩)
 else none
noncomputable def ud(b:Bool)(a:Int)(x:J):Nat->Int->kQ->Option kQ
 | 0,_,s=>some s
 | n+1,c,s=>(rY b a c x s).bind λ s'=>ud b a x n (c+1) s'
noncomputable def lg(b:Bool)(n:Nat)(x:J):Nat->Int->List J->List (List Int)->Option (List J×List (List Int))
 | 0,_,ls,rows=>some (ls,rows)
 | m+1,a,ls,rows=>(ud b a x n 0 ⟨ls,[]⟩).bind λ s=>lg b n x m (a+1) s.ls (rows++[s.rw])
noncomputable def HR(b:Bool)(m n:Nat):Nat->Nat->List J->List (List (List Int))->Option (List J×List (List (List Int)))
 | 0,_,_,_=>none
 | f+1,i,ls,nx=>if i<ls.length then ((lg b n (ls.getD i zE) m 0 ls []).bind λ q=>if q.1.length<=60 then HR b m n f (i+1) q.1 (nx++[q.2]) else none) else some (ls,nx)
noncomputable def kM(b:Bool)(gg:aH)(e:J):Option (List J×List (List (List Int))):=HR b (bB gg).toNat gg.ar.toNat 61 0 [eF e] []
def a0G{b:Bool}{a c:Int}{x:J}{s s':kQ}(h:rY b a c x s=some s'):s.ls.length<=s'.ls.length:=by
 unfold rY at h;split at h
 .split at h
  .cases h;exact a8C _
  .split at h
   .cases h;exact a8C _
   .split at h
    .cases h
    .cases h;simp
 .cases h
def Jz{b:Bool}{a:Int}{x:J}:∀ (n:Nat) {c:Int} {s s':kQ},ud b a x n c s=some s'->s.ls.length<=s'.ls.length
 | 0,_,_,_,h=>by cases h;exact a8C _
 | n+1,c,s,s',h=>by
  unfold ud at h;cases hs:rY b a c x s with
  | none=>rw[hs] at h;cases h
  | some t=>rw[hs] at h;exact a9v (a0G hs) (Jz n h)
def N3{b:Bool}{n:Nat}{x:J}:∀ (m:Nat) {a:Int} {ls:List J} {rows:List (List Int)} {q:List J×List (List Int)},lg b n x m a ls rows=some q->ls.length<=q.1.length
 | 0,_,_,_,_,h=>by cases h;exact a8C _
 | m+1,a,ls,rows,q,h=>by
  unfold lg at h;cases hs:ud b a x n 0 ⟨ls,[]⟩ with
  | none=>rw[hs] at h;cases h
  | some t=>rw[hs] at h;exact a9v (Jz n hs) (N3 m h)
def me(k:Nat){α:Type}(o:α):Option α:=if k<=60 then some o else none
def LM(a:Int)(x:J):∀ (n:Nat) (c:Int) (s:kQ),s.ls.length<=60->ud true a x n c s=(ud false a x n c s).bind λ s'=>me s'.ls.length s'
 | 0,c,s,h=>by simp[ud,me,h]
 | n+1,c,s,h=>by
  unfold ud;by_cases h1:(bN a c x).2=true
  .by_cases h2:(cj a c x).ah=1
   .have e:∀ b,rY b a c x s=some ⟨s.ls,s.rw++[-1]⟩:=λ b=>by rw[rY,a8A h1,a8A h2]
    rw[e,e];exact LM a x n (c+1) _ h
   .by_cases h3:0<=fU s.ls (cj a c x)
    .have e:∀ b,rY b a c x s=some ⟨s.ls,s.rw++[fU s.ls (cj a c x)]⟩:=λ b=>by rw[rY,a8A h1,a8v h2,a8A h3]
     rw[e,e];exact LM a x n (c+1) _ h
    .have ef:rY false a c x s=some ⟨s.ls++[cj a c x],s.rw++[(s.ls.length:Int)]⟩:=by rw[rY,a8A h1,a8v h2,a8v h3,a8v (by simp)]
     rw[ef];by_cases h4:s.ls.length=60
     .have et:rY true a c x s=none:=by rw[rY,a8A h1,a8v h2,a8v h3,a8A ⟨rfl,h4⟩]
      rw[et];simp only[b2c,b0j];cases hq:ud false a x n (c+1) ⟨s.ls++[cj a c x],s.rw++[(s.ls.length:Int)]⟩ with
      | none=>rfl
      | some q =>
       have:=Jz n hq;simp only[a8E,a8F,a8R] at this;simp only[b0j,me];rw[a8v (by omega)]
     .have et:rY true a c x s=some ⟨s.ls++[cj a c x],s.rw++[(s.ls.length:Int)]⟩:=by rw[rY,a8A h1,a8v h2,a8v h3,a8v (by simp[h4])]
      rw[et];exact LM a x n (c+1) _ (by simp;omega)
  .have e:∀ b,rY b a c x s=none:=λ b=>by rw[rY,a8v h1]
   rw[e,e];rfl
def Tr(n:Nat)(x:J):∀ (m:Nat) (a:Int) (ls:List J) (rows:List (List Int)),ls.length<=60->lg true n x m a ls rows=(lg false n x m a ls rows).bind λ q=>me q.1.length q
 | 0,a,ls,rows,h=>by simp[lg,me,h]
 | m+1,a,ls,rows,h=>by
  unfold lg;rw[LM a x n 0 ⟨ls,[]⟩ h];cases hq:ud false a x n 0 ⟨ls,[]⟩ with
  | none=>rfl
  | some s =>
   simp only[b0j];by_cases hs:s.ls.length<=60
   .rw[me,a8A hs];exact Tr n x m (a+1) s.ls _ hs
   .rw[me,a8v hs];simp only[b2c];cases hr:lg false n x m (a+1) s.ls (rows++[s.rw]) with
    | none=>rfl
    | some q =>
     have:=N3 m hr;simp only[b0j,me];rw[a8v (by omega)]
def Wj(m n:Nat):∀ (f i:Nat) (ls:List J) (nx:List (List (List Int))),ls.length<=60->HR true m n f i ls nx=HR false m n f i ls nx
 | 0,_,_,_,_=>rfl
 | f+1,i,ls,nx,h=>by
  unfold HR;by_cases hi:i<ls.length
  .rw[a8A hi,a8A hi,Tr n _ m 0 ls [] h];cases hr:lg false n (ls.getD i zE) m 0 ls [] with
   | none=>rfl
   | some q =>
    simp only[b0j,me];by_cases hq:q.1.length<=60
    .rw[a8A hq];simp only[b0j];rw[a8A hq,a8A hq];exact Wj m n f (i+1) q.1 _ hq
    .rw[a8v hq];simp only[b2c];rw[a8v hq]
  .rw[a8v hi,a8v hi]
def a0H(gg:aH)(e:J):kM true gg e=kM false gg e:=Wj _ _ _ _ _ _ (by simp)
noncomputable def df(gg:aH)(e:J):List J:=((kM false gg e).getD ([],[])).1
noncomputable def fu(gg:aH)(e:J):List (List (List Int)):=((kM false gg e).getD ([],[])).2
noncomputable def im(gg:aH)(e:J):Int:=if (kM false gg e).isSome=true then 0 else 3
def oE(ls:List J):Prop:=∀ y∈ls,az y=true/\aj y<=1000
def oE.get{ls:List J}(h:oE ls){i:Nat}(hi:i<ls.length):az (ls.getD i zE)=true/\aj (ls.getD i zE)<=1000:=h _ (by
 rw[a8D,a8H hi];exact b0o _)
def oE.snoc{ls:List J}(h:oE ls){d:J}(hd:az d=true/\aj d<=1000):oE (ls++[d]):=λ y hy=>by
 rcases a8t.1 hy with q|q
 .exact h y q
 .rw[a8L] at q;rw[q];exact hd
def N6(L:Nat)(r:List Int):Prop:=∀ v∈r,-1<=v/\v<(L:Int)
def Cb(n L:Nat)(rows:List (List Int)):Prop:=∀ r∈rows,r.length=n/\N6 L r
def Ji(m n L:Nat)(nx:List (List (List Int))):Prop:=∀ rows∈nx,rows.length=m/\Cb n L rows
def N6.up{L L':Nat}{r:List Int}(h:N6 L r)(hl:L<=L'):N6 L' r:=λ v hv=>⟨(h v hv).1,by have:=(h v hv).2;omega⟩
def Cb.up{n L L':Nat}{r:List (List Int)}(h:Cb n L r)(hl:L<=L'):Cb n L' r:=λ v hv=>⟨(h v hv).1,(h v hv).2.up hl⟩
def Ji.up{m n L L':Nat}{r:List (List (List Int))}(h:Ji m n L r)(hl:L<=L'):Ji m n L' r:=λ v hv=>⟨(h v hv).1,(h v hv).2.up hl⟩
def N6.snoc{L:Nat}{r:List Int}(h:N6 L r){v:Int}(hv : -1<=v/\v<(L:Int)):N6 L (r++[v]):=λ u hu=>by
 rcases a8t.1 hu with q|q
 .exact h u q
 .rw[a8L] at q;rw[q];exact hv
def Cb.snoc{n L:Nat}{r:List (List Int)}(h:Cb n L r){v:List Int}(h1:v.length=n)(hv:N6 L v):Cb n L (r++[v]):=λ u hu=>by
 rcases a8t.1 hu with q|q
 .exact h u q
 .rw[a8L] at q;rw[q];exact⟨h1,hv⟩
def Ji.snoc{m n L:Nat}{r:List (List (List Int))}(h:Ji m n L r){v:List (List Int)}(h1:v.length=m)(hv:Cb n L v):Ji m n L (r++[v]):=λ u hu=>by
 rcases a8t.1 hu with q|q
 .exact h u q
 .rw[a8L] at q;rw[q];exact⟨h1,hv⟩
structure BO(b:Bool)(gg:aH)(e:J)(i:Nat)(ls:List J)(nx:List (List (List Int))):Prop where
 eq:HR b (bB gg).toNat gg.ar.toNat (61 - i) i ls nx=kM b gg e
 le:i<=ls.length
 me:ls.length<=60
 ux:nx.length=i
 rp:oE ls
 pos:0<ls.length
 ok:Ji (bB gg).toNat gg.ar.toNat ls.length nx
noncomputable def kO(b:Bool)(gg:aH)(i:Nat)(nx:List (List (List Int)))(q:List J×List (List Int)):Option (List J×List (List (List Int))) :=
 if q.1.length<=60 then HR b (bB gg).toNat gg.ar.toNat (61 - (i+1)) (i+1) q.1 (nx++[q.2]) else none
structure BM(b:Bool)(gg:aH)(e:J)(i:Nat)(nx:List (List (List Int)))(x:J)(a:Nat)(ls:List J)(rows:List (List Int)):Prop where
 eq:(lg b gg.ar.toNat x ((bB gg).toNat - a) (a:Int) ls rows).bind (kO b gg i nx)=kM b gg e
 ha:a<=(bB gg).toNat
 Ff:rows.length=a
 hi:i<ls.length
 i6:i<60
 ux:nx.length=i
 hx:ls.getD i zE=x
 rp:oE ls
 me:ls.length<=60+4 * a
 b6:b=true->ls.length<=60
 ok:Ji (bB gg).toNat gg.ar.toNat ls.length nx
 rk:Cb gg.ar.toNat ls.length rows
structure BI(b:Bool)(gg:aH)(e:J)(i:Nat)(nx:List (List (List Int)))(x:J)(a:Nat)(rows:List (List Int))(c:Nat)(s:kQ):Prop where
 eq:((ud b (a:Int) x (gg.ar.toNat - c) (c:Int) s).bind λ s'=>lg b gg.ar.toNat x ((bB gg).toNat - (a+1)) ((a:Int)+1) s'.ls (rows++[s'.rw])).bind (kO b gg i nx)=kM b gg e
 ha:a<(bB gg).toNat
 hc:c<=gg.ar.toNat
 rw:s.rw.length=c
 Ff:rows.length=a
 hi:i<s.ls.length
 i6:i<60
 ux:nx.length=i
 hx:s.ls.getD i zE=x
 rp:oE s.ls
 me:s.ls.length<=60+4 * a+c
 b6:b=true->s.ls.length<=60
 ok:Ji (bB gg).toNat gg.ar.toNat s.ls.length nx
 rk:Cb gg.ar.toNat s.ls.length rows
 wk:N6 s.ls.length s.rw
def BO.first(b:Bool)(gg:aH)(e:J)(hg:az e=true)(hn:aj e<=1000):BO b gg e 0 [eF e] [] :=
 ⟨rfl,a9l _,by simp,rfl,λ y hy=>by
  rw[a8L] at hy;have:=Cg e hg;rw[hy];exact⟨this.g,by have:=this.n;omega⟩,by simp,λ _ h=>by cases h⟩
def BO.go{b:Bool}{gg:aH}{e:J}{i:Nat}{ls:List J}{nx:List (List (List Int))}(h:BO b gg e i ls nx)(hi:i<ls.length):BM b gg e i nx (ls.getD i zE) 0 ls []:=by
 have h6:=h.me;refine⟨?_,a9l _,rfl,hi,by omega,h.ux,rfl,h.rp,by omega,λ _=>h6,h.ok,λ _ h=>by cases h⟩;rw[<-h.eq,show 61 - i=(61 - (i+1))+1 by omega,HR,a8A hi];rfl
def BO.done{b:Bool}{gg:aH}{e:J}{i:Nat}{ls:List J}{nx:List (List (List Int))}(h:BO b gg e i ls nx)(hi:ls.length<=i):kM b gg e=some (ls,nx):=by
 have h6:=h.me;have:=h.le;rw[<-h.eq,show 61 - i=(61 - (i+1))+1 by omega,HR,a8v (by omega)]
def BM.go{b:Bool}{gg:aH}{e:J}{i:Nat}{nx:List (List (List Int))}{x:J}{a:Nat}{ls:List J}{rows:List (List Int)}(h:BM b gg e i nx x a ls rows)(ha:a<(bB gg).toNat):BI b gg e i nx x a rows 0 ⟨ls,[]⟩:=by
 refine⟨?_,ha,Nat.zero_le _,rfl,h.Ff,h.hi,h.i6,h.ux,h.hx,h.rp,by have:=h.me;simpa using this,h.b6,h.ok,h.rk,λ _ h=>by cases h⟩;rw[<-h.eq,show (bB gg).toNat - a=((bB gg).toNat - (a+1))+1 by omega,lg];rfl
def BM.done{b:Bool}{gg:aH}{e:J}{i:Nat}{nx:List (List (List Int))}{x:J}{a:Nat}{ls:List J}{rows:List (List Int)}(h:BM b gg e i nx x a ls rows)(ha:(bB gg).toNat<=a)(h6:ls.length<=60):BO b gg e (i+1) ls (nx++[rows]):=by
 have:=h.ha;have hi:=h.hi;refine⟨?_,hi,h6,by rw[a8E,h.ux];rfl,h.rp,by omega,h.ok.snoc (by rw[h.Ff];omega) h.rk⟩;rw[<-h.eq,show (bB gg).toNat - a=0 by omega,lg,b0j,kO,a8A h6]
def BM.over{b:Bool}{gg:aH}{e:J}{i:Nat}{nx:List (List (List Int))}{x:J}{a:Nat}{ls:List J}{rows:List (List Int)}(h:BM b gg e i nx x a ls rows)(ha:(bB gg).toNat<=a)(h6:60<ls.length):kM b gg e=none:=by
 have:=h.ha;rw[<-h.eq,show (bB gg).toNat - a=0 by omega,lg,Option.bind_some,kO,if_neg (by simpa using h6)]
def BI.done{b:Bool}{gg:aH}{e:J}{i:Nat}{nx:List (List (List Int))}{x:J}{a:Nat}{rows:List (List Int)}{c:Nat}{s:kQ}(h:BI b gg e i nx x a rows c s)(hs:gg.ar.toNat<=4)(hc:gg.ar.toNat<=c):BM b gg e i nx x (a+1) s.ls (rows++[s.rw]):=by
 have:=h.hc;refine⟨?_,h.ha,by rw[a8E,h.Ff];rfl,h.hi,h.i6,h.ux,h.hx,h.rp,by have:=h.me;omega,h.b6,h.ok,h.rk.snoc (by rw[h.rw];omega) h.wk⟩;rw[<-h.eq,show gg.ar.toNat - c=0 by omega,ud,b0j];rfl
def BI.step{b:Bool}{gg:aH}{e:J}{i:Nat}{nx:List (List (List Int))}{x:J}{a:Nat}{rows:List (List Int)}{c:Nat}{s:kQ}(h:BI b gg e i nx x a rows c s)(hc:c<gg.ar.toNat) :
  ((rY b (a:Int) (c:Int) x s).bind λ s=>(ud b (a:Int) x (gg.ar.toNat - (c+1)) ((c:Int)+1) s).bind λ s'=>lg b gg.ar.toNat x ((bB gg).toNat - (a+1)) ((a:Int)+1) s'.ls (rows++[s'.rw])).bind (kO b gg i nx)=kM b gg e:=by
 rw[<-h.eq,show gg.ar.toNat - c=(gg.ar.toNat - (c+1))+1 by omega,ud];simp only[Option.bind_assoc]
def BI.fail{b:Bool}{gg:aH}{e:J}{i:Nat}{nx:List (List (List Int))}{x:J}{a:Nat}{rows:List (List Int)}{c:Nat}{s:kQ}(h:BI b gg e i nx x a rows c s)(hc:c<gg.ar.toNat)(hf:rY b (a:Int) (c:Int) x s=none):kM b gg e=none:=by
 rw[<-h.step hc,hf];rfl
def BI.next{b:Bool}{gg:aH}{e:J}{i:Nat}{nx:List (List (List Int))}{x:J}{a:Nat}{rows:List (List Int)}{c:Nat}{s:kQ}(h:BI b gg e i nx x a rows c s)(hc:c<gg.ar.toNat){s':kQ}(hf:rY b (a:Int) (c:Int) x s=some s')
  (hl:s'.ls=s.ls\/∃ d,az d=true/\aj d<=1000/\s'.ls=s.ls++[d]/\(b=true->s.ls.length<60)) (hr:s'.rw.length=c+1) (hw:N6 s'.ls.length s'.rw):BI b gg e i nx x a rows (c+1) s':=by
 have hi:=h.hi;have hx:=h.hx;have h6:=h.me;have hb6:=h.b6;have hup:s.ls.length<=s'.ls.length:=by
  rcases hl with e|⟨d,_,_,e,_⟩<;>rw[e]<;>simp
 refine⟨?_,h.ha,hc,hr,h.Ff,?_,h.i6,h.ux,?_,?_,?_,?_,h.ok.up hup,h.rk.up hup,hw⟩
 .rw[<-h.step hc,hf];rfl
 .rcases hl with e|⟨d,_,_,e,_⟩
  .rw[e];exact hi
  .rw[e];simp;omega
 .rcases hl with e|⟨d,_,_,e,_⟩
  .rw[e];exact hx
  .rw[e,a8D,a9K hi,<-a8D];exact hx
 .rcases hl with e|⟨d,d1,d2,e,_⟩
  .rw[e];exact h.rp
  .rw[e];exact h.rp.snoc ⟨d1,d2⟩
 .rcases hl with e|⟨d,_,_,e,_⟩
  .rw[e];omega
  .rw[e];simp;omega
 .intro hb;rcases hl with e|⟨d,_,_,e,q⟩
  .rw[e];exact hb6 hb
  .rw[e];have:=q hb;simp;omega
def BI.w0{b:Bool}{gg:aH}{e:J}{i:Nat}{nx:List (List (List Int))}{x:J}{a:Nat}{rows:List (List Int)}{c:Nat}{s:kQ}(h:BI b gg e i nx x a rows c s)(hc:c<gg.ar.toNat)(h1:(bN (a:Int) (c:Int) x).2=false):kM b gg e=none :=
 h.fail hc (by rw[rY,a8v (by rw[h1];decide)])
def BI.w1{b:Bool}{gg:aH}{e:J}{i:Nat}{nx:List (List (List Int))}{x:J}{a:Nat}{rows:List (List Int)}{c:Nat}{s:kQ}(h:BI b gg e i nx x a rows c s)(hc:c<gg.ar.toNat)(h1:(bN (a:Int) (c:Int) x).2=true)(h2:(cj (a:Int) (c:Int) x).ah=1):BI b gg e i nx x a rows (c+1) ⟨s.ls,s.rw++[-1]⟩ :=
 h.next hc (by rw[rY,a8A h1,a8A h2]) (.inl rfl) (by rw[a8E,h.rw];rfl) (h.wk.snoc ⟨by omega,by show (-1:Int)<(s.ls.length:Int);omega⟩)
def BI.w2{b:Bool}{gg:aH}{e:J}{i:Nat}{nx:List (List (List Int))}{x:J}{a:Nat}{rows:List (List Int)}{c:Nat}{s:kQ}(h:BI b gg e i nx x a rows c s)(hc:c<gg.ar.toNat)(h1:(bN (a:Int) (c:Int) x).2=true)(h2:¬ (cj (a:Int) (c:Int) x).ah=1)(h3:0<=fU s.ls (cj (a:Int) (c:Int) x)):BI b gg e i nx x a rows (c+1) ⟨s.ls,s.rw++[fU s.ls (cj (a:Int) (c:Int) x)]⟩ :=
 h.next hc (by rw[rY,a8A h1,a8v h2,a8A h3]) (.inl rfl) (by rw[a8E,h.rw];rfl) (h.wk.snoc (a1u _ _))
def BI.w3{b:Bool}{gg:aH}{e:J}{i:Nat}{nx:List (List (List Int))}{x:J}{a:Nat}{rows:List (List Int)}{c:Nat}{s:kQ}(h:BI b gg e i nx x a rows c s)(hc:c<gg.ar.toNat)(h1:(bN (a:Int) (c:Int) x).2=true)(h2:¬ (cj (a:Int) (c:Int) x).ah=1)(h3:fU s.ls (cj (a:Int) (c:Int) x)<0)(h4:b=true->¬ s.ls.length=60):BI b gg e i nx x a rows (c+1) ⟨s.ls++[cj (a:Int) (c:Int) x],s.rw++[(s.ls.length:Int)]⟩:=by
 have hg:=h.rp.get h.hi;rw[h.hx] at hg;have q:=diT (a:Int) (c:Int) x hg.1;have hb6:=h.b6;refine h.next hc (by rw[rY,a8A h1,a8v h2,a8v (by omega),a8v λ q=>h4 q.1 q.2]) (.inr ⟨_,q.g h1,by have:=q.n h1;omega,rfl,λ hb=>by have:=h4 hb;have:=hb6 hb;omega⟩) (by rw[a8E,h.rw];rfl) ((h.wk.up (by simp)).snoc ⟨by omega,by simp;omega⟩)
def BI.w4{gg:aH}{e:J}{i:Nat}{nx:List (List (List Int))}{x:J}{a:Nat}{rows:List (List Int)}{c:Nat}{s:kQ}(h:BI true gg e i nx x a rows c s)(hc:c<gg.ar.toNat)(h1:(bN (a:Int) (c:Int) x).2=true)(h2:¬ (cj (a:Int) (c:Int) x).ah=1)(h3:fU s.ls (cj (a:Int) (c:Int) x)<0)(h4:s.ls.length=60):kM true gg e=none :=
 h.fail hc (by rw[rY,a8A h1,a8v h2,a8v (by omega),a8A ⟨rfl,h4⟩])
def e9{gg:aH}{e:J}{b:Bool}(h:kM b gg e=none):df gg e=[]/\fu gg e=[]/\im gg e=3:=by
 have h':kM false gg e=none:=by cases b with
  | false=>exact h
  | true=>rw[<-a0H];exact h
 unfold df fu im;rw[h'];exact⟨rfl,rfl,rfl⟩
def uh{gg:aH}{e:J}{b:Bool}{ls:List J}{nx:List (List (List Int))}(h:kM b gg e=some (ls,nx)):df gg e=ls/\fu gg e=nx/\im gg e=0:=by
 have h':kM false gg e=some (ls,nx):=by cases b with
  | false=>exact h
  | true=>rw[<-a0H];exact h
 unfold df fu im;rw[h'];exact⟨rfl,rfl,rfl⟩
structure CY where
 i:Nat
 ls:List J
 nx:List (List (List Int))
structure CX where
 a:Nat
 ls:List J
 rows:List (List Int)
structure CW where
 c:Nat
 s:kQ
noncomputable def Ai(ls:List J)(d:J):Int:=if d.ah=1 then -1 else if 0<=fU ls d then fU ls d else (ls.length:Int)
noncomputable def nS(ls:List J)(d:J):List J:=if d.ah=1 then ls else if 0<=fU ls d then ls else ls++[d]
def JV{ls:List J}{d:J}(h:d.ah=1) : -1=Ai ls d/\ls=nS ls d:=by rw[Ai,nS,a8A h,a8A h];exact⟨rfl,rfl⟩
def JW{ls:List J}{d:J}(h:¬ d.ah=1)(h2:¬ fU ls d<0):fU ls d=Ai ls d/\ls=nS ls d:=by
 rw[Ai,nS,a8v h,a8v h,a8A (by omega),a8A (by omega)];exact⟨rfl,rfl⟩
def JX{ls:List J}{d:J}(h:¬ d.ah=1)(h2:fU ls d<0):(ls.length:Int)=Ai ls d/\ls++[d]=nS ls d:=by
 rw[Ai,nS,a8v h,a8v h,a8v (by omega),a8v (by omega)];exact⟨rfl,rfl⟩
def BI.Z2{b:Bool}{gg:aH}{e:J}{i:Nat}{nx:List (List (List Int))}{x:J}{a:Nat}{rows:List (List Int)}{c:Nat}{s:kQ}(h:BI b gg e i nx x a rows c s)(hc:c<gg.ar.toNat)(h1:(bN (a:Int) (c:Int) x).2=true)
  (h4:b=true->¬ (cj (a:Int) (c:Int) x).ah=1->fU s.ls (cj (a:Int) (c:Int) x)<0->¬ s.ls.length=60):BI b gg e i nx x a rows (c+1) ⟨nS s.ls (cj (a:Int) (c:Int) x),s.rw++[Ai s.ls (cj (a:Int) (c:Int) x)]⟩:=by
 by_cases h2:(cj (a:Int) (c:Int) x).ah=1
 .have e:=JV (ls:=s.ls) h2;rw[<-e.1,<-e.2];exact h.w1 hc h1 h2
 .by_cases h3:fU s.ls (cj (a:Int) (c:Int) x)<0
  .have e:=JX h2 h3;rw[<-e.1,<-e.2];exact h.w3 hc h1 h2 h3 λ hb=>h4 hb h2 h3
  .have e:=JW h2 h3;rw[<-e.1,<-e.2];exact h.w2 hc h1 h2 (by omega)
def BI.a4F{gg:aH}{e:J}{i:Nat}{nx:List (List (List Int))}{x:J}{a:Nat}{rows:List (List Int)}{c:Nat}{s:kQ}(h:BI false gg e i nx x a rows c s)(hc:c<gg.ar.toNat)(h1:(bN (a:Int) (c:Int) (s.ls.getD i zE)).2=true) :
  BI false gg e i nx x a rows (c+1) ⟨nS s.ls (bN (a:Int) (c:Int) (s.ls.getD i zE)).1,s.rw++[Ai s.ls (bN (a:Int) (c:Int) (s.ls.getD i zE)).1]⟩:=by
 rw[h.hx] at h1 ⊢;have:=h.Z2 hc h1 nofun;rw[AX h1] at this;exact this
def BI.Iz{b:Bool}{gg:aH}{e:J}{i:Nat}{nx:List (List (List Int))}{x:J}{a:Nat}{rows:List (List Int)}{c:Nat}{s:kQ}(h:BI b gg e i nx x a rows c s)(hc:c<gg.ar.toNat)(h1:(bN (a:Int) (c:Int) (s.ls.getD i zE)).2=false):kM b gg e=none:=by
 rw[h.hx] at h1;exact h.w0 hc h1
def BI.get{b:Bool}{gg:aH}{e:J}{i:Nat}{nx:List (List (List Int))}{x:J}{a:Nat}{rows:List (List Int)}{c:Nat}{s:kQ}(h:BI b gg e i nx x a rows c s):az (s.ls.getD i zE)=true/\aj (s.ls.getD i zE)<=1000:=h.rp.get h.hi
structure BIl(gg:aH)(i a c:Nat)(nx:List (List (List Int)))(rows:List (List Int))(s:kQ):Prop where
 l1:i<s.ls.length
 l2:s.ls.length<=100
 l3:a<8
 l4:c<=4
 l5:s.rw.length<=4
 l6:rows.length<=8
 l7:nx.length<=60
 l8:i<60
def BI.lens{b:Bool}{gg:aH}{e:J}{i:Nat}{nx:List (List (List Int))}{x:J}{a:Nat}{rows:List (List Int)}{c:Nat}{s:kQ}(h:BI b gg e i nx x a rows c s)(hg:dj gg=true):BIl gg i a c nx rows s:=by
 rw[eY] at hg;have:=iw gg hg.1;have:=h.me;have:=h.ha;have:=h.hc;have:=h.rw;have:=h.Ff;have:=h.ux;have:=h.hi;have:=h.i6;constructor<;>omega
structure BMl(i a:Nat)(nx:List (List (List Int)))(ls:List J)(rows:List (List Int)):Prop where
 l1:i<ls.length
 l2:ls.length<=100
 l3:a<=8
 l6:rows.length<=8
 l7:nx.length<=60
 l8:i<60
def BM.lens{b:Bool}{gg:aH}{e:J}{i:Nat}{nx:List (List (List Int))}{x:J}{a:Nat}{ls:List J}{rows:List (List Int)}(h:BM b gg e i nx x a ls rows)(hg:dj gg=true):BMl i a nx ls rows:=by
 rw[eY] at hg;have:=iw gg hg.1;have:=h.me;have:=h.ha;have:=h.Ff;have:=h.ux;have:=h.hi;have:=h.i6;constructor<;>omega
structure BOl(i:Nat)(ls:List J)(nx:List (List (List Int))):Prop where
 l1:i<=ls.length
 l2:ls.length<=60
 l3:nx.length<=60
def BO.lens{b:Bool}{gg:aH}{e:J}{i:Nat}{ls:List J}{nx:List (List (List Int))}(h:BO b gg e i ls nx):BOl i ls nx:=by
 have:=h.le;have:=h.me;have:=h.ux;constructor<;>omega
def zM:aQ:=⟨z8,[.v (.slice (.st .expr)), .r (.st .expr)],λ (xs:List J) (d:J)=>⟨(some (xs.length<=1000),[⟨(.int .i64),fU xs d⟩])⟩⟩
def Lc(xs:List J)(d:J):Nat->aG:=(dU 0 (.b (Nat) (λ k=>k<=xs.length/\k<=xn xs d) (λ k=>xs.length - k) [] (λ k=>[(5, .aK ⟨(.int .i64),((k:Int):Int)⟩)])) cf)
def E0:aQ.Good zM:=by
 refine⟨aB xa,?_⟩;intro (xs:List J) (d:J) (hp:xs.length<=1000);refine aP [zK] [] [] [] ⟨tu,ae⟩ xa EC (Lc xs d) (let v0:=(xs.length:Int);(((∃ k1:Nat,((k1<=xs.length/\k1<=xn xs d)/\((xs=xs/\(d=d/\((0:Int)=(k1:Int)/\True)))/\True)))/\(∀ k1:Nat,let v1:=(k1:Int);((k1<=xs.length/\k1<=xn xs d)->(ai v0->(((decide (v1<v0))=true->(av v1 xs.length/\(((eg (xs.getD k1 zE) d)=true->v1=(fU xs d))/\((eg (xs.getD k1 zE) d)=false->(ai (v1+(1:Int))/\(∃ k2:Nat,((k2<=xs.length/\k2<=xn xs d)/\(xs.length - k2<xs.length - k1/\((xs=xs/\(d=d/\((v1+(1:Int))=(k2:Int)/\True)))/\True)))))))))/\((decide (v1<v0))=false->(-1:Int)=(fU xs d))))))))) ?_;refine⟨⟨0,?_,⟨rfl,rfl,?_,ae⟩,ae⟩,λ k1 _ _=>⟨λ _=>⟨?_,λ _=>?_,λ _=>⟨?_,k1+1,?_,?_,⟨rfl,rfl,?_,ae⟩,ae⟩⟩,λ _=>?_⟩⟩;all_goals try and_intros
 all_goals (try simp only[a8z,a8y,av,ai] at *);first|omega|with_reducible rfl|with_reducible assumption|exact trivial|exact a5W xs d _ (by omega) (by omega) (by with_reducible assumption)|exact a5V xs d _ (by omega) (by omega) (by with_reducible assumption)|exact a1w xs d (by omega)|exact a1v xs d
def vO:aQ:=⟨vW,[.v (.st .sig), .r (.st .expr)],λ (gg:aH) (e:J)=>⟨(some (dj gg=true/\az e=true/\aj e<=1000),[⟨(.slice (.st .expr)),df gg e⟩,⟨(.slice (.slice (.slice (.int .i64)))),fu gg e⟩,⟨(.int .i64),im gg e⟩])⟩⟩
def Ho(gg:aH)(e:J):Nat->aG:=(dU 0 (.mk (CY) (λ v=>BO false gg e v.i v.ls v.nx) (λ v=>60 - v.i) [] [0,1,18,19,20,21] (λ v=>[(9, .aK ⟨(.int .i64),((v.i:Int):Int)⟩),(7, .row 20),(8, .row 21)]) [] (λ v=>[(20, .row eH (.st .expr) (v.ls:List J)),(21, .row mT (.slice (.slice (.int .i64))) (v.nx:List (List (List Int))))]) [] [] (λ v=>(dU 2 (.mk (CX) (λ m=>BM false gg e v.i v.nx (v.ls.getD v.i zE) m.a m.ls m.rows) (λ m=>(bB gg).toNat - m.a) [] [22,23,24,25,28] (λ m=>[(11, .aK ⟨(.int .i64),((m.a:Int):Int)⟩),(10, .row 28),(7, .row 20)]) [21] (λ m=>[(20, .row eH (.st .expr) (m.ls:List J)),(28, .row sD (.slice (.int .i64)) (m.rows:List (List Int)))]) [] [] (λ m=>(dU 4 (.mk (CW) (λ q=>BI false gg e v.i v.nx (v.ls.getD v.i zE) m.a m.rows q.c q.s) (λ q=>gg.ar.toNat - q.c) [] [29,30,31,32,35] (λ q=>[(13, .aK ⟨(.int .i64),((q.c:Int):Int)⟩),(12, .row 35),(7, .row 20)]) [21,28] (λ q=>[(20, .row eH (.st .expr) (q.s.ls:List J)),(35, .row eK (.int .i64) (q.s.rw:List Int))]) [] [] (λ q=>(dU 100024 (.u (q.c<gg.ar.toNat/\(bN (m.a:Int) (q.c:Int) (q.s.ls.getD v.i zE)).2=true) [14,15,16,36,37,38,39,42,43,44,45,46,47,48,49,50,51,52,53] [(17, .aK ⟨(.int .i64),(Ai q.s.ls (bN (m.a:Int) (q.c:Int) (q.s.ls.getD v.i zE)).1:Int)⟩),(7, .row 20)] [14,15,21,28,35] [(20, .row eH (.st .expr) (nS q.s.ls (bN (m.a:Int) (q.c:Int) (q.s.ls.getD v.i zE)).1:List J))] cf) cf))) cf))) cf))) cf)
abbrev rD(v1:CY)(m2:CX)(q3:CW):Prop:=(let v0:=q3.s.ls.getD (Int.toNat (v1.i:Int)) zE;let v2:=(bN (m2.a:Int) (q3.c:Int) (bc v0)).1;((v2.ah=v2.ah/\(v2.aZ=v2.aZ/\(v2.U=v2.U/\True)))/\((v0.ah=v0.ah/\(v0.aZ=v0.aZ/\(v0.U=v0.U/\True)))/\(q3.s.rw=q3.s.rw/\(m2.rows=m2.rows/\(v1.nx=v1.nx/\True))))))
def Bg:aQ.Good vO:=by
 refine⟨aB sH,?_⟩;intro (gg:aH) (e:J) (hp:dj gg=true/\az e=true/\aj e<=1000);refine aP [lQ,oM,zP,zM] [] [] [2] ⟨tv,rq,E4,E0,ae⟩ sH AO (Ho gg e) (let v0:=[]=(df gg e)/\([]=(fu gg e)/\(3:Int)=(im gg e));let v2:=(1:Int);let v4:=bB gg;let v5:=(0:Int);(((az e=true/\aj e<=3000)/\((∃ v1:CY,(BO false gg e v1.i v1.ls v1.nx/\((gg=gg/\(True/\(True/\(v5=(v1.i:Int)/\True))))/\(([(eF e)])=v1.ls/\([]=v1.nx/\True)))))/\(∀ v1:CY,let v6:=(v1.i:Int);let v7:=Int.toNat v6;let v8:=v1.ls.getD v1.i zE;let v9:=v1.nx=v1.nx/\True;let va:=(v1.ls.length:Int);(BO false gg e v1.i v1.ls v1.nx->(ai va->(((decide (v6<va))=true->((∃ m2:CX,(BM false gg e v1.i v1.nx v8 m2.a m2.ls m2.rows/\((gg=gg/\(True/\(True/\(v6=v6/\(True/\(v5=(m2.a:Int)/\True))))))/\(v1.ls=m2.ls/\([]=m2.rows/\v9)))))/\(∀ m2:CX,let vb:=(m2.a:Int);let vc:=decide ((60:Int)<((m2.ls.length:Int)));(BM false gg e v1.i v1.nx v8 m2.a m2.ls m2.rows->((0<=gg.aF/\gg.aF<=3)/\(ai v4->(((decide (vb<v4))=true->((∃ q3:CW,(BI false gg e v1.i v1.nx v8 m2.a m2.rows q3.c q3.s/\((gg=gg/\(True/\(True/\(v6=v6/\(True/\(vb=vb/\(True/\(v5=(q3.c:Int)/\True))))))))/\(m2.ls=q3.s.ls/\([]=q3.s.rw/\(m2.rows=m2.rows/\v9))))))/\(∀ q3:CW,let vg:=(q3.c:Int);let vd:=bN vb vg (q3.s.ls.getD v1.i zE);let vf:=q3.c<gg.ar.toNat/\vd.2=true;let vj:=Ai q3.s.ls vd.1;let vk:=bc (q3.s.ls.getD v7 zE);let ve:=bN vb vg vk;let vh:=fU q3.s.ls (bc (ve.1));let vl:=nS q3.s.ls vd.1;let vi:=q3.s.ls=vl/\(rD v1 m2 q3);(BI false gg e v1.i v1.nx v8 m2.a m2.rows q3.c q3.s->(ai gg.ar->(((decide (vg<gg.ar))=true->(av v6 q3.s.ls.length/\((az vk=true/\aj vk<=1000/\0<=vb/\vb<=4096)/\(((!(ve.2))=true->v0)/\((!(ve.2))=false->((ai (ve.1).ah->(((!(decide ((ve.1).ah=v2)))=true->(q3.s.ls.length<=1000/\(ai vh->(((decide (vh<v5))=true->(ai ((q3.s.ls.length:Int))->(aX (q3.s.ls.length+([(bc (ve.1))]).length) 40/\(∃ u4:Unit,(vf/\((gg=gg/\(True/\(True/\(v6=v6/\(True/\(vb=vb/\(True/\(vg=vg/\(((q3.s.ls.length:Int))=vj/\True)))))))))/\((q3.s.ls++([(bc (ve.1))]))=vl/\(rD v1 m2 q3))))))))/\((decide (vh<v5))=false->(∃ u4:Unit,(vf/\((gg=gg/\(True/\(True/\(v6=v6/\(True/\(vb=vb/\(True/\(vg=vg/\(vh=vj/\True)))))))))/\vi))))))))/\((!(decide ((ve.1).ah=v2)))=false->(∃ u4:Unit,(vf/\((gg=gg/\(True/\(True/\(v6=v6/\(True/\(vb=vb/\(True/\(vg=vg/\((-1:Int)=vj/\True)))))))))/\vi))))))/\(∀ u4:Unit,(vf->(aX (q3.s.rw.length+([vj]).length) 8/\(ai (vg+v2)/\(∃ q5:CW,(BI false gg e v1.i v1.nx v8 m2.a m2.rows q5.c q5.s/\(gg.ar.toNat - q5.c<gg.ar.toNat - q3.c/\((gg=gg/\(True/\(True/\(v6=v6/\(True/\(vb=vb/\(True/\((vg+v2)=(q5.c:Int)/\True))))))))/\(vl=q5.s.ls/\((q3.s.rw++([vj]))=q5.s.rw/\(m2.rows=m2.rows/\v9)))))))))))))))))/\((decide (vg<gg.ar))=false->(aX (m2.rows.length+([q3.s.rw]).length) 24/\(ai (vb+v2)/\(∃ m4:CX,(BM false gg e v1.i v1.nx v8 m4.a m4.ls m4.rows/\(v4.toNat - m4.a<v4.toNat - m2.a/\((gg=gg/\(True/\(True/\(v6=v6/\(True/\((vb+v2)=(m4.a:Int)/\True))))))/\(q3.s.ls=m4.ls/\((m2.rows++([q3.s.rw]))=m4.rows/\v9)))))))))))))))/\((decide (vb<v4))=false->(aX (v1.nx.length+([m2.rows]).length) 24/\(ai ((m2.ls.length:Int))->((vc=true->v0)/\(vc=false->(ai (v6+v2)/\(∃ v3:CY,(BO false gg e v3.i v3.ls v3.nx/\(60 - v3.i<60 - v1.i/\((gg=gg/\(True/\(True/\((v6+v2)=(v3.i:Int)/\True))))/\(m2.ls=v3.ls/\((v1.nx++([m2.rows]))=v3.nx/\True)))))))))))))))))))/\((decide (v6<va))=false->(v1.ls=(df gg e)/\(v1.nx=(fu gg e)/\v5=(im gg e)))))))))))) ?_;obtain⟨hg,he,hn⟩:=hp;have hq:=(eY gg).1 hg;have ha:=iw gg hq.1;refine⟨?_,⟨(CY.mk 0 [eF e] []),?_,⟨rfl,ae,ae,?_,ae⟩,?_,?_,ae⟩,λ v1 _ _=>⟨λ _=>⟨⟨(CX.mk 0 v1.ls []),?_,⟨rfl,ae,ae,rfl,ae,?_,ae⟩,?_,?_,rfl,ae⟩,λ m2 _=>⟨?_,λ _=>⟨λ _=>⟨⟨(CW.mk 0 (kQ.mk m2.ls [])),?_,⟨rfl,ae,ae,rfl,ae,rfl,ae,?_,ae⟩,?_,?_,rfl,rfl,ae⟩,λ q3 _ _=>⟨λ _=>⟨?_,?_,λ _=>⟨?_,?_,?_⟩,λ _=>⟨λ _=>⟨λ _=>⟨?_,λ _=>⟨λ _ _=>⟨?_,(),?_,⟨rfl,ae,ae,rfl,ae,rfl,ae,rfl,?_,ae⟩,?_,⟨rfl,rfl,rfl,ae⟩,⟨rfl,rfl,rfl,ae⟩,rfl,rfl,rfl,ae⟩,λ _=>⟨(),?_,⟨rfl,ae,ae,rfl,ae,rfl,ae,rfl,?_,ae⟩,?_,⟨rfl,rfl,rfl,ae⟩,⟨rfl,rfl,rfl,ae⟩,rfl,rfl,rfl,ae⟩⟩⟩,λ _=>⟨(),?_,⟨rfl,ae,ae,rfl,ae,rfl,ae,rfl,?_,ae⟩,?_,⟨rfl,rfl,rfl,ae⟩,⟨rfl,rfl,rfl,ae⟩,rfl,rfl,rfl,ae⟩⟩,λ u4 _=>⟨?_,?_,(CW.mk (q3.c+1) (kQ.mk (nS q3.s.ls (bN (m2.a:Int) (q3.c:Int) (q3.s.ls.getD v1.i zE)).1) (q3.s.rw++[Ai q3.s.ls (bN (m2.a:Int) (q3.c:Int) (q3.s.ls.getD v1.i zE)).1]))),?_,?_,⟨rfl,ae,ae,rfl,ae,rfl,ae,?_,ae⟩,?_,?_,rfl,rfl,ae⟩⟩⟩,λ _=>⟨?_,?_,(CX.mk (m2.a+1) q3.s.ls (m2.rows++[q3.s.rw])),?_,?_,⟨rfl,ae,ae,rfl,ae,?_,ae⟩,?_,?_,rfl,ae⟩⟩⟩,λ _=>⟨?_,λ _=>⟨λ _=>⟨?_,?_,?_⟩,λ _=>⟨?_,(CY.mk (v1.i+1) m2.ls (v1.nx++[m2.rows])),?_,?_,⟨rfl,ae,ae,?_,ae⟩,?_,?_,ae⟩⟩⟩⟩⟩⟩,λ _=>⟨?_,?_,?_⟩⟩⟩;all_goals try and_intros
 all_goals try (first|with_reducible rfl|with_reducible assumption)
 all_goals try simp only[J.eta,cW] at *
 all_goals (try simp only[a8S,a9b,a8z,a8y,av,ai,aX,a9j,a8E,a8F,a8R] at *);first|with_reducible assumption|omega|with_reducible rfl|exact trivial|exact BO.first _ _ _ he hn|exact BO.go (by with_reducible assumption) (by omega)|exact BM.go (by with_reducible assumption) (by omega)|exact BM.done (by with_reducible assumption) (by omega) (by omega)|exact BI.done (by with_reducible assumption) (by omega) (by omega)|(obtain⟨_,_,_,_,_,_,_,_⟩:=(BI.lens (b:=false) (e:=e) (by with_reducible assumption) hg);omega)|(obtain⟨_,_,_,_,_,_⟩:=(BM.lens (b:=false) (e:=e) (by with_reducible assumption) hg);omega)|(obtain⟨_,_,_⟩:=(BO.lens (b:=false) (e:=e) (by with_reducible assumption));omega)|exact (e9 (BI.Iz (by with_reducible assumption) (by omega) (by with_reducible assumption))).1.symm|exact (e9 (BI.Iz (by with_reducible assumption) (by omega) (by with_reducible assumption))).2.1.symm|exact (e9 (BI.Iz (by with_reducible assumption) (by omega) (by with_reducible assumption))).2.2.symm|exact (e9 (BM.over (by with_reducible assumption) (by omega) (by omega))).1.symm|exact (e9 (BM.over (by with_reducible assumption) (by omega) (by omega))).2.1.symm|exact (e9 (BM.over (by with_reducible assumption) (by omega) (by omega))).2.2.symm|exact (uh (BO.done (by with_reducible assumption) (by omega))).1.symm|exact (uh (BO.done (by with_reducible assumption) (by omega))).2.1.symm|exact (uh (BO.done (by with_reducible assumption) (by omega))).2.2.symm|exact (BI.get (by with_reducible assumption)).1|exact (BI.get (by with_reducible assumption)).2|exact BI.a4F (by with_reducible assumption) (by omega) (by with_reducible assumption)|exact (JV (by with_reducible assumption)).1|exact (JV (by with_reducible assumption)).2|exact (JW (by with_reducible assumption) (by omega)).1|exact (JW (by with_reducible assumption) (by omega)).2|exact (JX (by with_reducible assumption) (by omega)).1|exact (JX (by with_reducible assumption) (by omega)).2|rfl
noncomputable def uv(x:J)(a:Nat):List Bool:=(List.range a).map λ (i:Nat)=>eo (i:Int) x
noncomputable def mR(gg:aH)(ls:List J):List (List Bool):=ls.map λ x=>uv x (bB gg).toNat
def Yx(x:J)(a:Nat):uv x a++[eo (a:Int) x]=uv x (a+1):=by simp[uv,b1w]
def Mw(x:J)(a:Nat):(uv x a).length=a:=by simp[uv]
def a4b(gg:aH)(ls:List J)(k:Nat)(h:k<ls.length):mR gg (ls.take k)++[uv (ls.getD k zE) (bB gg).toNat]=mR gg (ls.take (k+1)):=by
 rw[fE zE ls k h];simp[mR]
def Yy(gg:aH)(ls:List J)(k:Nat)(h:k<=ls.length):(mR gg (ls.take k)).length=k:=by simp[mR];omega
noncomputable def C0(gg:aH)(e:J):O:=if im gg e=0 then O.mk gg (mR gg (df gg e)) (fu gg e) else O.mk (aH.mk (0:Int) (0:Int)) [] []
def PX{b:Bool}{gg:aH}{e:J}(h4s:gg.ar.toNat<=4):∀ (f i:Nat) (ls:List J) (nx:List (List (List Int))),f+i=61->BO b gg e i ls nx->∀ q,kM b gg e=some q->∃ j,BO b gg e j q.1 q.2/\q.1.length<=j
 | 0,i,ls,nx,hf,h,q,hq=>by have:=h.le;have:=h.me;omega
 | f+1,i,ls,nx,hf,h,q,hq=>by
  by_cases hi:i<ls.length
  .have hm:∀ (m a:Nat),m+a=(bB gg).toNat->∀ ZM rows,BM b gg e i nx (ls.getD i zE) a ZM rows->∃ j,BO b gg e j q.1 q.2/\q.1.length<=j:=by
    intro m;induction m with
    | zero =>
     intro a ha ZM rows hB;by_cases h6:ZM.length<=60
     .exact PX h4s f (i+1) ZM _ (by omega) (hB.done (by omega) h6) q hq
     .have:=hB.over (by omega) (by omega);rw[this] at hq;cases hq
    | succ m ih =>
     intro a ha ZM rows hB;have hc:∀ (n c:Nat),n+c=gg.ar.toNat->∀ s,BI b gg e i nx (ls.getD i zE) a rows c s->∃ j,BO b gg e j q.1 q.2/\q.1.length<=j:=by
      intro n;induction n with
      | zero =>
       intro c hc s hI;exact ih (a+1) (by omega) s.ls (rows++[s.rw]) (hI.done h4s (by omega))
      | succ n U5 =>
       intro c hc s hI;cases hs:(bN (a:Int) (c:Int) (ls.getD i zE)).2 with
       | false=>have:=hI.w0 (by omega) hs;rw[this] at hq;cases hq
       | true =>
        by_cases h2:(cj (a:Int) (c:Int) (ls.getD i zE)).ah=1
        .exact U5 (c+1) (by omega) _ (hI.w1 (by omega) hs h2)
        .by_cases h3:fU s.ls (cj (a:Int) (c:Int) (ls.getD i zE))<0
         .by_cases h4:b=true/\s.ls.length=60
          .obtain⟨rfl,h4⟩:=h4;have:=hI.w4 (by omega) hs h2 h3 h4;rw[this] at hq;cases hq
          .exact U5 (c+1) (by omega) _ (hI.w3 (by omega) hs h2 h3 λ hb hl=>h4 ⟨hb,hl⟩)
         .exact U5 (c+1) (by omega) _ (hI.w2 (by omega) hs h2 (by omega))
     exact hc gg.ar.toNat 0 rfl _ (hB.go (by omega))
   exact hm _ 0 rfl _ _ (h.go hi)
  .have:=h.done (by omega);rw[this] at hq;cases hq;exact⟨i,h,by show ls.length<=i;omega⟩
structure a2g(gg:aH)(e:J):Prop where
 pos:0<(df gg e).length
 me:(df gg e).length<=60
 len:(fu gg e).length=(df gg e).length
 ok:Ji (bB gg).toNat gg.ar.toNat (df gg e).length (fu gg e)
 rp:oE (df gg e)
def Rq(gg:aH)(e:J)(hg:dj gg=true)(he:az e=true)(hn:aj e<=1000)(h:im gg e=0):a2g gg e:=by
 rw[eY] at hg;cases hs:kM false gg e with
 | none=>have:=(e9 hs).2.2;rw[this] at h;cases h
 | some q =>
  obtain⟨j,hB,hj⟩:=PX (by omega) 61 0 _ _ rfl (BO.first false gg e he hn) q hs;obtain⟨h1,h2,_⟩:=uh (ls:=q.1) (nx:=q.2) hs;have:=hB.le;exact⟨by rw[h1];exact hB.pos,by rw[h1];exact hB.me,by rw[h1,h2];have:=hB.ux;omega,by rw[h1,h2];exact hB.ok,by rw[h1];exact hB.rp⟩
def a2j{gg:aH}{e:J}(h:im gg e=0):O.mk gg (mR gg (df gg e)) (fu gg e)=C0 gg e:=by rw[C0,a8A h]
def JY{gg:aH}{e:J}(h:¬ im gg e=0):O.mk (aH.mk (0:Int) (0:Int)) [] []=C0 gg e:=by rw[C0,a8v h]
structure iW(gg:aH)(e:J)(k:Nat):Prop where
 ok:a2g gg e
 c:im gg e=0
 le:k<=(df gg e).length
def iW.lens{gg:aH}{e:J}{k:Nat}(h:iW gg e k):(mR gg ((df gg e).take k)).length=k/\k<=(df gg e).length/\(df gg e).length<=60/\(fu gg e).length<=60 :=
 ⟨Yy gg _ k h.le,h.le,h.ok.me,by rw[h.ok.len];exact h.ok.me⟩
def iW.get{gg:aH}{e:J}{k:Nat}(h:iW gg e k)(hk:k<(df gg e).length):az ((df gg e).getD k zE)=true:=(h.ok.rp.get hk).1
def iW.next{gg:aH}{e:J}{k:Nat}(h:iW gg e k)(hk:k<(df gg e).length):iW gg e (k+1):=⟨h.ok,h.c,hk⟩
def iW.step{gg:aH}{e:J}{k a:Nat}(_h:iW gg e k)(hk:k<(df gg e).length)(ha:a<=(bB gg).toNat)(ha':(bB gg).toNat<=a):mR gg ((df gg e).take k)++[uv ((df gg e).getD k zE) a]=mR gg ((df gg e).take (k+1)):=by
 rw[show a=(bB gg).toNat by omega];exact a4b gg _ k hk
def iW.done{gg:aH}{e:J}{k:Nat}(h:iW gg e k)(hk:(df gg e).length<=k):O.mk gg (mR gg ((df gg e).take k)) (fu gg e)=C0 gg e:=by
 rw[a9f hk];exact a2j h.c
def zO:aQ:=⟨Ab,[.v (.st .sig), .r (.st .expr)],λ (gg:aH) (e:J)=>⟨(some (dj gg=true/\az e=true/\aj e<=1000),[⟨(.st .automaton),C0 gg e⟩,⟨(.int .i64),im gg e⟩])⟩⟩
def Le(gg:aH)(e:J):Nat->aG:=(dU 0 (.mk (Nat) (λ k=>iW gg e k) (λ k=>(df gg e).length - k) [] [0,1,5,7,8,13,14,15,16,17,18,19,20,21,24,25,26] (λ k=>[(10, .aK ⟨(.int .i64),((k:Int):Int)⟩)]) [4] (λ k=>[(9, .box [.aK ⟨(.int .i64),(gg.aF:Int)⟩, .aK ⟨(.int .i64),(gg.ar:Int)⟩, .row 3000, .aK ⟨(.slice (.slice (.slice (.int .i64)))),(fu gg e:List (List (List Int)))⟩]),(3000, .row Cm (.slice .bool) (mR gg ((df gg e).take k):List (List Bool)))]) [] [] (λ k=>(dU 2 (.a (Nat) (λ a=>a<=(bB gg).toNat) (λ a=>(bB gg).toNat - a) [27,28,29,30,33] (λ a=>[(12, .aK ⟨(.int .i64),((a:Int):Int)⟩),(11, .row 33)]) [4,9,3000] (λ a=>[(33, .row yg .bool (uv ((df gg e).getD k zE) a:List Bool))])) cf))) cf)
abbrev vH(gg:aH)(e:J)(k1:Nat):Prop:=((gg.aF=gg.aF/\(gg.ar=gg.ar/\(True/\((fu gg e)=(fu gg e)/\True))))/\((mR gg ((df gg e).take k1))=(mR gg ((df gg e).take k1))/\(((0:Int)=(0:Int)/\((0:Int)=(0:Int)/\(True/\(True/\True))))/\True)))
def E2:aQ.Good zO:=by
 refine⟨aB xc,?_⟩;intro (gg:aH) (e:J) (hp:dj gg=true/\az e=true/\aj e<=1000);refine aP [vO,oM,kf] [] [] [2] ⟨Bg,rq,rA,ae⟩ xc EE (Le gg e) (let v0:=df gg e;let v1:=gg.aF=gg.aF/\(gg.ar=gg.ar/\(True/\((fu gg e)=(fu gg e)/\True)));let v3:=(0:Int);let v2:=(v3=v3/\(v3=v3/\(True/\(True/\True))))/\True;let v4:=bB gg;let v5:=im gg e;let v6:=(v0.length:Int);(((dj gg=true/\az e=true/\aj e<=1000)/\(v0.length<=140737488355328->((fu gg e).length<=140737488355328->(ai v5->(((!(decide (v5=v3)))=true->((O.mk (aH.mk v3 v3) [] [])=(C0 gg e)/\v5=v5))/\((!(decide (v5=v3)))=false->((∃ k1:Nat,(iW gg e k1/\((gg=gg/\(True/\(v0=v0/\(True/\(v3=(k1:Int)/\True)))))/\(v1/\((mR gg (v0.take k1))=[]/\v2)))))/\(∀ k1:Nat,let v7:=v0.getD k1 zE;let v8:=(k1:Int);let v9:=mR gg (v0.take k1);(iW gg e k1->(ai v6->(((decide (v8<v6))=true->((∃ a2:Nat,(a2<=v4.toNat/\((gg=gg/\(True/\(v0=v0/\(True/\(v8=v8/\(True/\(v3=(a2:Int)/\True)))))))/\([]=(uv v7 a2)/\(vH gg e k1)))))/\(∀ a2:Nat,let va:=(a2:Int);(a2<=v4.toNat->((0<=gg.aF/\gg.aF<=3)/\(ai v4->(((decide (va<v4))=true->(av v8 v0.length/\((az v7=true/\0<=va/\va<=4096)/\(aX ((uv v7 a2).length+([(eo va v7)]).length) 1/\(ai (va+(1:Int))/\(∃ a3:Nat,(a3<=v4.toNat/\(v4.toNat - a3<v4.toNat - a2/\((gg=gg/\(True/\(v0=v0/\(True/\(v8=v8/\(True/\((va+(1:Int))=(a3:Int)/\True)))))))/\(((uv v7 a2)++([(eo va v7)]))=(uv v7 a3)/\(vH gg e k1)))))))))))/\((decide (va<v4))=false->(aX (v9.length+([(uv v7 a2)]).length) 24/\(ai (v8+(1:Int))/\(∃ k3:Nat,(iW gg e k3/\(v0.length - k3<v0.length - k1/\((gg=gg/\(True/\(v0=v0/\(True/\((v8+(1:Int))=(k3:Int)/\True)))))/\(v1/\((v9++([(uv v7 a2)]))=(mR gg (v0.take k3))/\v2))))))))))))))))/\((decide (v8<v6))=false->((O.mk (aH.mk gg.aF gg.ar) v9 (fu gg e))=(C0 gg e)/\v3=v5))))))))))))))) ?_;obtain⟨hg,he,hn⟩:=hp;have hq:=(eY gg).1 hg;have ha:=iw gg hq.1;refine⟨?_,λ _ _ a2=>⟨λ a3=>⟨?_,rfl⟩,λ a3=>⟨⟨0,?_,⟨rfl,ae,rfl,ae,?_,ae⟩,⟨rfl,rfl,ae,rfl,ae⟩,?_,⟨rfl,rfl,ae,ae,ae⟩,ae⟩,λ k1 _ _=>⟨λ _=>⟨⟨0,?_,⟨rfl,ae,rfl,ae,rfl,ae,?_,ae⟩,?_,⟨rfl,rfl,ae,rfl,ae⟩,rfl,⟨rfl,rfl,ae,ae,ae⟩,ae⟩,λ a2 _=>⟨?_,λ _=>⟨λ _=>⟨?_,?_,?_,?_,a2+1,?_,?_,⟨rfl,ae,rfl,ae,rfl,ae,?_,ae⟩,?_,⟨rfl,rfl,ae,rfl,ae⟩,rfl,⟨rfl,rfl,ae,ae,ae⟩,ae⟩,λ _=>⟨?_,?_,k1+1,?_,?_,⟨rfl,ae,rfl,ae,?_,ae⟩,⟨rfl,rfl,ae,rfl,ae⟩,?_,⟨rfl,rfl,ae,ae,ae⟩,ae⟩⟩⟩⟩,λ _=>⟨?_,?_⟩⟩⟩⟩⟩;all_goals try and_intros
 all_goals (try simp only[a8S,a9b,a8z,a8y,av,ai,aX,a9j,a8E,a8F,a8R,Mw] at *);first|with_reducible assumption|omega|with_reducible rfl|exact trivial|(obtain⟨_,_,_,_⟩:=iW.lens (by with_reducible assumption);omega)|exact iW.mk (Rq gg e hg he hn (by omega)) (by omega) (a9l _)|exact iW.get (by with_reducible assumption) (by omega)|exact iW.next (by with_reducible assumption) (by omega)|exact iW.step (by with_reducible assumption) (by omega) (by omega) (by omega)|exact Yx _ _|exact JY (by omega)|exact iW.done (gg:=gg) (by with_reducible assumption) (by omega)|exact congrArg O.sig (JY (by omega))|exact congrArg O.sig (iW.done (gg:=gg) (by with_reducible assumption) (by omega))|exact congrArg O.accept (JY (by omega))|exact congrArg O.accept (iW.done (gg:=gg) (by with_reducible assumption) (by omega))|exact congrArg O.next (JY (by omega))|exact congrArg O.next (iW.done (gg:=gg) (by with_reducible assumption) (by omega))|rfl
noncomputable def aoV(gg:aH)(e:J):O:=if ub gg e=true then C0 gg e else O.mk (aH.mk (0:Int) (0:Int)) [] []
noncomputable def aoC(gg:aH)(e:J):Int:=if ub gg e=true then im gg e else 1
structure OkE(gg:aH)(e:J):Prop where
 s:dj gg=true
 g:az e=true
 n:aj e<=1000
def yY{gg:aH}{e:J}(h:ub gg e=true):OkE gg e:=by
 unfold ub at h;rw[Bool.and_eq_true] at h;have hE:=(Zx gg e).1 h.2;have hq:=(eY gg).1 h.1;refine⟨h.1,?_,by omega⟩;have h1:=hE.1;rw[NZ _ (by omega),NZ _ (by omega)] at h1;exact Cj _ _ 9 9 (by omega) (by omega) e h1
def sF{gg:aH}{e:J}(h:ub gg e=true):C0 gg e=aoV gg e/\im gg e=aoC gg e:=by rw[aoV,aoC,a8A h,a8A h];exact⟨rfl,rfl⟩
def sE{gg:aH}{e:J}(h:ub gg e=false):O.mk (aH.mk (0:Int) (0:Int)) [] []=aoV gg e/\1=aoC gg e:=by rw[aoV,aoC,a8v (by rw[h];decide),a8v (by rw[h];decide)];exact⟨rfl,rfl⟩
def BB:aQ:=⟨BS,[.v (.st .sig), .r (.st .expr)],λ (gg:aH) (e:J)=>⟨(none,[⟨(.st .automaton),aoV gg e⟩,⟨(.int .i64),aoC gg e⟩])⟩⟩
def Ns(gg:aH)(e:J):Nat->aG:=cf
def GX:aQ.Good BB:=by
 refine⟨aB zt,?_⟩;intro (gg:aH) (e:J) _;refine aP [DU,zO] [] [] [2] ⟨IG,E2,ae⟩ zt Gl (Ns gg e) ((((!(ub gg e))=true->((O.mk (aH.mk (0:Int) (0:Int)) [] [])=(aoV gg e)/\(1:Int)=(aoC gg e)))/\((!(ub gg e))=false->((dj gg=true/\az e=true/\aj e<=1000)/\(ai (im gg e)->((C0 gg e)=(aoV gg e)/\(im gg e)=(aoC gg e))))))) ?_;refine⟨λ _=>⟨?_,?_⟩,λ _=>⟨?_,λ _=>⟨?_,?_⟩⟩⟩;all_goals try and_intros
 all_goals (try simp only[a8S,a9b] at *);first|with_reducible assumption|with_reducible rfl|exact trivial|exact (sF (by with_reducible assumption)).1|exact (sF (by with_reducible assumption)).2|exact congrArg O.sig (sF (by with_reducible assumption)).1|exact congrArg O.accept (sF (by with_reducible assumption)).1|exact congrArg O.next (sF (by with_reducible assumption)).1|exact congrArg (λ a=>aH.aF (O.sig a)) (sF (by with_reducible assumption)).1|exact congrArg (λ a=>aH.ar (O.sig a)) (sF (by with_reducible assumption)).1|exact (sE (by with_reducible assumption)).1|exact (sE (by with_reducible assumption)).2|exact congrArg O.sig (sE (by with_reducible assumption)).1|exact congrArg O.accept (sE (by with_reducible assumption)).1|exact congrArg O.next (sE (by with_reducible assumption)).1|exact congrArg (λ a=>aH.aF (O.sig a)) (sE (by with_reducible assumption)).1|exact congrArg (λ a=>aH.ar (O.sig a)) (sE (by with_reducible assumption)).1|exact (yY (by with_reducible assumption)).s|exact (yY (by with_reducible assumption)).g|exact (yY (by with_reducible assumption)).n
def gw(ls:List J)(t:List UInt8):Option Int:=if (ls.findIdx λ y=>decide (bC y=t))<ls.length then some ((ls.findIdx λ y=>decide (bC y=t):Nat):Int) else none
def find_congr{α:Type}{p q:α->Bool}:∀ (l:List α),(∀ x∈l,p x=q x)->l.findIdx p=l.findIdx q
 | [],_=>rfl
 | x::l,h=>by
  rw[b0c,b0c,h x (by simp),find_congr l λ y hy=>h y (by simp[hy])]
def RL{ls:List J}{d:J}(h:oE ls)(hd:az d=true):gw ls (bC d)=if 0<=fU ls d then some (fU ls d) else none:=by
 have e:(ls.findIdx λ y=>decide (bC y=bC d))=xn ls d:=find_congr ls λ y hy=>by
  by_cases q:y=d
  .subst q;simp
  .have:¬ bC y=bC d:=λ e=>q (Oy (h y hy).1 hd e);rw[b0y this,Pr.2 q]
 unfold gw;rw[e];unfold fU;by_cases hl:xn ls d<ls.length
 .rw[a8A hl,a8A hl,a8A (by omega)]
 .rw[a8v hl,a8v hl,a8v (by omega)]
def a4Z(x:J):fK (gV (List UInt8) Int) (bC x) (0:Int)=gw [x]:=by
 funext t;by_cases h:t=bC x
 .subst h;rw[gu];simp[gw]
 .rw[eL _ _ _ h];have h':¬ bC x=t:=λ e=>h e.symm;simp[gV,gw,b0c,h']
def a5b{ls:List J}{d:J}(h:oE ls)(hd:az d=true)(hf:fU ls d<0):fK (gw ls) (bC d) (ls.length:Int)=gw (ls++[d]):=by
 have hn:=RL h hd;rw[a8v (by omega)] at hn;funext t;by_cases ht:t=bC d
 .subst ht;rw[gu];unfold gw at hn ⊢;have hl:¬ (ls.findIdx λ y=>decide (bC y=bC d))<ls.length:=λ q=>by rw[if_pos q] at hn;cases hn
  have hle:(ls.findIdx λ y=>decide (bC y=bC d))<=ls.length:=b1p;rw[List.findIdx_append,a8v hl];simp
 .rw[eL _ _ _ ht];unfold gw;rw[List.findIdx_append];by_cases hl:(ls.findIdx λ y=>decide (bC y=t))<ls.length
  .rw[a8A hl,a8A hl,a8A (by simp;omega)]
  .have h':¬ bC d=t:=λ e=>ht e.symm;rw[a8v hl,a8v hl];simp[b0c,h'];omega
def a5a{ls:List J}{d:J}(h:oE ls)(hd:az d=true)(hf:fU ls d<0):gB (gw ls (bC d)) ls.length=(ls++[d]).length:=by
 have hn:=RL h hd;rw[a8v (by omega)] at hn;rw[hn];simp[gB]
def BI.a4E{gg:aH}{e:J}{i:Nat}{nx:List (List (List Int))}{x:J}{a:Nat}{rows:List (List Int)}{c:Nat}{s:kQ}(h:BI true gg e i nx x a rows c s)(hc:c<gg.ar.toNat)(h1:(bN (a:Int) (c:Int) (s.ls.getD i zE)).2=true)
  (h4:¬ (cj (a:Int) (c:Int) (s.ls.getD i zE)).ah=1->fU s.ls (cj (a:Int) (c:Int) (s.ls.getD i zE))<0->¬ s.ls.length=60) :
  BI true gg e i nx x a rows (c+1) ⟨nS s.ls (cj (a:Int) (c:Int) (s.ls.getD i zE)),s.rw++[Ai s.ls (cj (a:Int) (c:Int) (s.ls.getD i zE))]⟩:=by
 rw[h.hx] at h1 h4 ⊢;exact h.Z2 hc h1 λ _=>h4
def BI.Vk{gg:aH}{e:J}{i:Nat}{nx:List (List (List Int))}{x:J}{a:Nat}{rows:List (List Int)}{c:Nat}{s:kQ}(h:BI true gg e i nx x a rows c s)(hc:c<gg.ar.toNat)(h1:(bN (a:Int) (c:Int) (s.ls.getD i zE)).2=true)
  (h2:¬ (cj (a:Int) (c:Int) (s.ls.getD i zE)).ah=1) (h3:fU s.ls (cj (a:Int) (c:Int) (s.ls.getD i zE))<0) (h4:s.ls.length=60):kM true gg e=none:=by
 rw[h.hx] at h1 h2 h3;exact h.w4 hc h1 h2 h3 h4
structure su(a c:Int)(ls:List J)(i:Nat):Prop where
 gs:oE ls
 t:(bN a c (ls.getD i zE)).2=true
 g:az (cj a c (ls.getD i zE))=true
 n:aj (cj a c (ls.getD i zE))<=800
def BI.dd{b:Bool}{gg:aH}{e:J}{i:Nat}{nx:List (List (List Int))}{x:J}{a:Nat}{rows:List (List Int)}{c:Nat}{s:kQ}(h:BI b gg e i nx x a rows c s)(h1:(bN (a:Int) (c:Int) (s.ls.getD i zE)).2=true):su (a:Int) (c:Int) s.ls i:=by
 have q:=diT (a:Int) (c:Int) _ h.get.1;exact⟨h.rp,h1,q.g h1,q.n h1⟩
def su.tx{a c:Int}{ls:List J}{i:Nat}(h:su a c ls i):(bC (cj a c (ls.getD i zE))).length<=1000000:=RM _ h.g (by have:=h.n;omega)
def su.yes{a c:Int}{ls:List J}{i:Nat}(h:su a c ls i)(hs:(gw ls (bC (cj a c (ls.getD i zE)))).isSome=true):(gw ls (bC (cj a c (ls.getD i zE)))).getD (0:Int)=fU ls (cj a c (ls.getD i zE))/\¬ fU ls (cj a c (ls.getD i zE))<0:=by
 rw[RL h.gs h.g] at hs ⊢;by_cases h3:0<=fU ls (cj a c (ls.getD i zE))
 .rw[a8A h3];exact⟨rfl,by omega⟩
 .rw[a8v h3] at hs;cases hs
def su.no{a c:Int}{ls:List J}{i:Nat}(h:su a c ls i)(hs:(gw ls (bC (cj a c (ls.getD i zE)))).isSome=false):fU ls (cj a c (ls.getD i zE))<0:=by
 rw[RL h.gs h.g] at hs;by_cases h3:0<=fU ls (cj a c (ls.getD i zE))
 .rw[a8A h3] at hs;cases hs
 .omega
structure JM(gg:aH)(a c:Int)(ls:List J)(i:Nat):Prop where
 hc:c<gg.ar
 d:su a c ls i
 k:¬ (cj a c (ls.getD i zE)).ah=1
 f:fU ls (cj a c (ls.getD i zE))<0->¬ ls.length=60
structure JN(gg:aH)(a c:Int)(ls:List J)(i:Nat):Prop where
 hc:c<gg.ar
 d:su a c ls i
 f:¬ (cj a c (ls.getD i zE)).ah=1->fU ls (cj a c (ls.getD i zE))<0->¬ ls.length=60
def JM.n{gg:aH}{a c:Int}{ls:List J}{i:Nat}(h:JM gg a c ls i):JN gg a c ls i:=⟨h.hc,h.d,λ _=>h.f⟩
def JN.go{gg:aH}{e:J}{i:Nat}{nx:List (List (List Int))}{x:J}{a:Nat}{rows:List (List Int)}{c:Nat}{s:kQ}(h:BI true gg e i nx x a rows c s)(j:JN gg (a:Int) (c:Int) s.ls i) :
  BI true gg e i nx x a rows (c+1) ⟨nS s.ls (cj (a:Int) (c:Int) (s.ls.getD i zE)),s.rw++[Ai s.ls (cj (a:Int) (c:Int) (s.ls.getD i zE))]⟩:=h.a4E (by have:=j.hc;omega) j.d.t j.f
def ZN{a c:Int}{ls:List J}{i:Nat}(h:(cj a c (ls.getD i zE)).ah=1):gw ls=gw (nS ls (cj a c (ls.getD i zE)))/\ls.length=(nS ls (cj a c (ls.getD i zE))).length:=by rw[<-(JV (ls:=ls) h).2];exact⟨rfl,rfl⟩
def ZO{a c:Int}{ls:List J}{i:Nat}(h:¬ (cj a c (ls.getD i zE)).ah=1)(h2:¬ fU ls (cj a c (ls.getD i zE))<0):gw ls=gw (nS ls (cj a c (ls.getD i zE)))/\ls.length=(nS ls (cj a c (ls.getD i zE))).length:=by rw[<-(JW h h2).2];exact⟨rfl,rfl⟩
def ZP{a c:Int}{ls:List J}{i:Nat}(q:su a c ls i)(h:¬ (cj a c (ls.getD i zE)).ah=1)(h2:fU ls (cj a c (ls.getD i zE))<0):fK (gw ls) (bC (cj a c (ls.getD i zE))) (ls.length:Int)=gw (nS ls (cj a c (ls.getD i zE)))/\gB (gw ls (bC (cj a c (ls.getD i zE)))) ls.length=(nS ls (cj a c (ls.getD i zE))).length:=by
 rw[<-(JX h h2).2];exact⟨a5b q.gs q.g h2,a5a q.gs q.g h2⟩
def Wq(e:J)(he:az e=true)(hn:aj e<=1000):az (eF e)=true/\(bC (eF e)).length<=1000000:=⟨(Cg e he).g,RM _ (Cg e he).g (by have:=(Cg e he).n;omega)⟩
def xI:aQ:=⟨xS,[.v (.st .sig), .v (.st .expr)],λ (gg:aH) (e:J)=>⟨(some (dj gg=true/\az e=true/\aj e<=1000),[⟨(.slice (.st .expr)),df gg e⟩,⟨(.slice (.slice (.slice (.int .i64)))),fu gg e⟩,⟨(.int .i64),im gg e⟩])⟩⟩
def I3(gg:aH)(e:J):Nat->aG:=(dU 0 (.mk (CY) (λ v=>BO true gg e v.i v.ls v.nx) (λ v=>60 - v.i) [] [0,1,3,20,21,22,23,24,25,26,27,28,29] (λ v=>[(10, .aK ⟨(.int .i64),((v.i:Int):Int)⟩),(7, .row 22),(8, .mp 23),(9, .row 29)]) [] (λ v=>[(22, .row eH (.st .expr) (v.ls:List J)),(23, .map ⟨.str,(.int .i64),(gw v.ls:List UInt8->Option Int),v.ls.length⟩),(29, .row mT (.slice (.slice (.int .i64))) (v.nx:List (List (List Int))))]) [] [] (λ v=>(dU 2 (.mk (CX) (λ m=>BM true gg e v.i v.nx (v.ls.getD v.i zE) m.a m.ls m.rows) (λ m=>(bB gg).toNat - m.a) [] [30,31,32,33,36,37] (λ m=>[(39, .aK ⟨(.int .i64),((m.a:Int):Int)⟩),(11, .row 36),(7, .row 22),(8, .mp 23)]) [29] (λ m=>[(22, .row eH (.st .expr) (m.ls:List J)),(23, .map ⟨.str,(.int .i64),(gw m.ls:List UInt8->Option Int),m.ls.length⟩),(36, .row sD (.slice (.int .i64)) (m.rows:List (List Int)))]) [] [] (λ m=>(dU 4 (.mk (CW) (λ q=>BI true gg e v.i v.nx (v.ls.getD v.i zE) m.a m.rows q.c q.s) (λ q=>gg.ar.toNat - q.c) [] [40,41,42,43] (λ q=>[(45, .aK ⟨(.int .i64),((q.c:Int):Int)⟩),(13, .row 42),(7, .row 22),(8, .mp 23)]) [29,36] (λ q=>[(22, .row eH (.st .expr) (q.s.ls:List J)),(23, .map ⟨.str,(.int .i64),(gw q.s.ls:List UInt8->Option Int),q.s.ls.length⟩),(42, .row eK (.int .i64) (q.s.rw:List Int))]) [] [] (λ q=>(dU 100028 (.u (JM gg (m.a:Int) (q.c:Int) q.s.ls v.i) [14,15,16,17,19,46,47,48,49,50,51,52,53,54,55,56,57,58,59,60,61,62,66,67,68,69,70,71,72,73] [(18, .aK ⟨(.int .i64),(Ai q.s.ls (cj (m.a:Int) (q.c:Int) (q.s.ls.getD v.i zE)):Int)⟩),(7, .row 22),(8, .mp 23)] [15,29,36,42] [(22, .row eH (.st .expr) ((nS q.s.ls (cj (m.a:Int) (q.c:Int) (q.s.ls.getD v.i zE))):List J)),(23, .map ⟨.str,(.int .i64),(gw (nS q.s.ls (cj (m.a:Int) (q.c:Int) (q.s.ls.getD v.i zE))):List UInt8->Option Int),((nS q.s.ls (cj (m.a:Int) (q.c:Int) (q.s.ls.getD v.i zE))).length)⟩)] cf) (dU 100029 (.u (JN gg (m.a:Int) (q.c:Int) q.s.ls v.i) [46] [(13, .row 42),(7, .row 22),(8, .mp 23)] [29,36] [(22, .row eH (.st .expr) ((nS q.s.ls (cj (m.a:Int) (q.c:Int) (q.s.ls.getD v.i zE))):List J)),(23, .map ⟨.str,(.int .i64),(gw (nS q.s.ls (cj (m.a:Int) (q.c:Int) (q.s.ls.getD v.i zE))):List UInt8->Option Int),((nS q.s.ls (cj (m.a:Int) (q.c:Int) (q.s.ls.getD v.i zE))).length)⟩),(42, .row eK (.int .i64) (q.s.rw++[Ai q.s.ls (cj (m.a:Int) (q.c:Int) (q.s.ls.getD v.i zE))]:List Int))] cf) cf)))) cf))) cf))) cf)
abbrev Fj(gg:aH)(v1:CY)(m2:CX)(q3:CW):Prop:=(gg=gg/\(True/\(True/\(True/\((v1.i:Int)=(v1.i:Int)/\(True/\((m2.a:Int)=(m2.a:Int)/\(True/\((bB gg)=(bB gg)/\((m2.a:Int)=(m2.a:Int)/\(gg.ar=gg.ar/\((q3.c:Int)=(q3.c:Int)/\True))))))))))))
abbrev tH(v1:CY)(m2:CX)(q3:CW):Prop:=(let v0:=nS q3.s.ls (cj (m2.a:Int) (q3.c:Int) (q3.s.ls.getD v1.i zE));((gw q3.s.ls)=(gw v0)/\q3.s.ls.length=(v0.length)))
abbrev tI(v1:CY)(m2:CX)(q3:CW):Prop:=(let v0:=cj (m2.a:Int) (q3.c:Int) (q3.s.ls.getD (Int.toNat (v1.i:Int)) zE);((v0.ah=v0.ah/\(v0.aZ=v0.aZ/\(v0.U=v0.U/\True)))/\(q3.s.rw=q3.s.rw/\(m2.rows=m2.rows/\(v1.nx=v1.nx/\True)))))
def Dj:aQ.Good xI:=by
 refine⟨aB uK,?_⟩;intro (gg:aH) (e:J) (hp:dj gg=true/\az e=true/\aj e<=1000);refine aP [yO,Bw,lO,zI] [] [] [2,3] ⟨zw,GN,mg,EO,ae⟩ uK C5 (I3 gg e) (let v0:=bB gg;let v2:=([(eF e)]).getD 0 zE;let v4:=[]=(df gg e)/\([]=(fu gg e)/\(3:Int)=(im gg e));let v5:=(0:Int);let v6:=(1:Int);(((az e=true/\aj e<=3000)/\(av v5 ([(eF e)]).length/\((az v2=true/\(bC v2).length<=1000000)/\((bC v2).length<=140737488355328->(0<1000000000/\((∃ v1:CY,(BO true gg e v1.i v1.ls v1.nx/\((gg=gg/\(True/\(True/\(True/\(v5=(v1.i:Int)/\True)))))/\(([(eF e)])=v1.ls/\(((fK (gV (List UInt8) Int) (bC v2) v5)=(gw v1.ls)/\(gB (((gV (List UInt8) Int) (bC v2))) 0)=v1.ls.length)/\([]=v1.nx/\True))))))/\(∀ v1:CY,let v8:=(v1.i:Int);let v7:=Int.toNat v8;let v9:=v1.nx=v1.nx/\True;let va:=v1.ls.getD v1.i zE;let vb:=(v1.ls.length:Int);(BO true gg e v1.i v1.ls v1.nx->(ai vb->(((decide (v8<vb))=true->((0<=gg.aF/\gg.aF<=3)/\(ai v0->((∃ m2:CX,(BM true gg e v1.i v1.nx va m2.a m2.ls m2.rows/\((gg=gg/\(True/\(True/\(True/\(v8=v8/\(True/\(v0=v0/\(v5=(m2.a:Int)/\True))))))))/\(v1.ls=m2.ls/\(((gw v1.ls)=(gw m2.ls)/\v1.ls.length=m2.ls.length)/\([]=m2.rows/\v9))))))/\(∀ m2:CX,let vc:=(m2.a:Int);let vd:=m2.rows=m2.rows/\v9;(BM true gg e v1.i v1.nx va m2.a m2.ls m2.rows->(((decide (vc<v0))=true->(ai gg.ar->((∃ q3:CW,(BI true gg e v1.i v1.nx va m2.a m2.rows q3.c q3.s/\((gg=gg/\(True/\(True/\(True/\(v8=v8/\(True/\(vc=vc/\(True/\(v0=v0/\(vc=vc/\(gg.ar=gg.ar/\(v5=(q3.c:Int)/\True))))))))))))/\(m2.ls=q3.s.ls/\(((gw m2.ls)=(gw q3.s.ls)/\m2.ls.length=q3.s.ls.length)/\([]=q3.s.rw/\vd))))))/\(∀ q3:CW,let vh:=(q3.c:Int);let ve:=cj vc vh (q3.s.ls.getD v1.i zE);let vg:=nS q3.s.ls ve;let vj:=(q3.s.ls.length:Int);let vk:=v0=v0/\(vc=vc/\(gg.ar=gg.ar/\(vh=vh/\True)));let vl:=q3.s.ls.getD v7 zE;let vf:=cj vc vh vl;let vm:=q3.s.rw++[Ai q3.s.ls ve];let vn:=bc vf;let vi:=((gw q3.s.ls) (bC vn));let vo:=Ai q3.s.ls ve;let vp:=Fj gg v1 m2 q3;(BI true gg e v1.i v1.nx va m2.a m2.rows q3.c q3.s->(((decide (vh<gg.ar))=true->((av v8 q3.s.ls.length/\((az vl=true/\aj vl<=1000/\0<=vc/\vc<=4096)/\(((!((bN vc vh vl).2))=true->v4)/\((!((bN vc vh vl).2))=false->(ai vf.ah->(((decide (vf.ah=v6))=true->(aX (q3.s.rw.length+([(-1:Int)]).length) 8/\(∃ u4:Unit,(JN gg vc vh q3.s.ls v1.i/\(vp/\(q3.s.ls=vg/\((tH v1 m2 q3)/\((q3.s.rw++([(-1:Int)]))=vm/\vd))))))))/\((decide (vf.ah=v6))=false->((az vn=true/\(bC vn).length<=1000000)/\((bC vn).length<=140737488355328->(ai (Option.getD vi v5)->((((!(Option.isSome vi))=true->(ai vj->(((decide (vj=(60:Int)))=true->v4)/\((decide (vj=(60:Int)))=false->(ai vj->(q3.s.ls.length<1000000000/\(aX (q3.s.ls.length+([vn]).length) 40/\(∃ u4:Unit,(JM gg vc vh q3.s.ls v1.i/\((gg=gg/\(True/\(True/\(True/\(v8=v8/\(True/\(vc=vc/\(True/\(vj=vo/\vk)))))))))/\((q3.s.ls++([vn]))=vg/\(((fK (gw q3.s.ls) (bC vn) vj)=(gw vg)/\(gB vi q3.s.ls.length)=(vg.length))/\(tI v1 m2 q3)))))))))))))/\((!(Option.isSome vi))=false->(∃ u4:Unit,(JM gg vc vh q3.s.ls v1.i/\((gg=gg/\(True/\(True/\(True/\(v8=v8/\(True/\(vc=vc/\(True/\((Option.getD vi v5)=vo/\vk)))))))))/\(q3.s.ls=vg/\((tH v1 m2 q3)/\(tI v1 m2 q3))))))))/\(∀ u4:Unit,(JM gg vc vh q3.s.ls v1.i->(aX (q3.s.rw.length+([vo]).length) 8/\(∃ u5:Unit,(JN gg vc vh q3.s.ls v1.i/\(vp/\(vg=vg/\(((gw vg)=(gw vg)/\(vg.length)=(vg.length))/\((q3.s.rw++([vo]))=vm/\vd))))))))))))))))))))/\(∀ u4:Unit,(JN gg vc vh q3.s.ls v1.i->(ai (vh+v6)/\(∃ q5:CW,(BI true gg e v1.i v1.nx va m2.a m2.rows q5.c q5.s/\(gg.ar.toNat - q5.c<gg.ar.toNat - q3.c/\((gg=gg/\(True/\(True/\(True/\(v8=v8/\(True/\(vc=vc/\(True/\(v0=v0/\(vc=vc/\(gg.ar=gg.ar/\((vh+v6)=(q5.c:Int)/\True))))))))))))/\(vg=q5.s.ls/\(((gw vg)=(gw q5.s.ls)/\(vg.length)=q5.s.ls.length)/\(vm=q5.s.rw/\vd))))))))))))/\((decide (vh<gg.ar))=false->(aX (m2.rows.length+([q3.s.rw]).length) 24/\(ai (vc+v6)/\(∃ m4:CX,(BM true gg e v1.i v1.nx va m4.a m4.ls m4.rows/\(v0.toNat - m4.a<v0.toNat - m2.a/\((gg=gg/\(True/\(True/\(True/\(v8=v8/\(True/\(v0=v0/\((vc+v6)=(m4.a:Int)/\True))))))))/\(q3.s.ls=m4.ls/\(((gw q3.s.ls)=(gw m4.ls)/\q3.s.ls.length=m4.ls.length)/\((m2.rows++([q3.s.rw]))=m4.rows/\v9))))))))))))))))/\((decide (vc<v0))=false->(aX (v1.nx.length+([m2.rows]).length) 24/\(ai (v8+v6)/\(∃ v3:CY,(BO true gg e v3.i v3.ls v3.nx/\(60 - v3.i<60 - v1.i/\((gg=gg/\(True/\(True/\(True/\((v8+v6)=(v3.i:Int)/\True)))))/\(m2.ls=v3.ls/\(((gw m2.ls)=(gw v3.ls)/\m2.ls.length=v3.ls.length)/\((v1.nx++([m2.rows]))=v3.nx/\True)))))))))))))))))/\((decide (v8<vb))=false->(v1.ls=(df gg e)/\(v1.nx=(fu gg e)/\v5=(im gg e)))))))))))))))) ?_;obtain⟨hg,he,hn⟩:=hp;have hq:=(eY gg).1 hg;have ha:=iw gg hq.1;refine⟨?_,?_,?_,λ _=>⟨?_,⟨(CY.mk 0 [eF e] []),?_,⟨rfl,ae,ae,ae,?_,ae⟩,?_,⟨?_,?_⟩,?_,ae⟩,λ v1 _ _=>⟨λ _=>⟨?_,λ _=>⟨⟨(CX.mk 0 v1.ls []),?_,⟨rfl,ae,ae,ae,rfl,ae,rfl,?_,ae⟩,?_,⟨?_,?_⟩,?_,rfl,ae⟩,λ m2 _=>⟨λ _ _=>⟨⟨(CW.mk 0 (kQ.mk m2.ls [])),?_,⟨rfl,ae,ae,ae,rfl,ae,rfl,ae,rfl,rfl,rfl,?_,ae⟩,?_,⟨?_,?_⟩,?_,rfl,rfl,ae⟩,λ q3 _=>⟨λ _=>⟨⟨?_,?_,λ _=>⟨?_,?_,?_⟩,λ _ _=>⟨λ _=>⟨?_,(),?_,⟨rfl,ae,ae,ae,rfl,ae,rfl,ae,rfl,rfl,rfl,rfl,ae⟩,?_,⟨?_,?_⟩,?_,rfl,rfl,ae⟩,λ _=>⟨?_,λ _ _=>⟨⟨λ _ _=>⟨λ _=>⟨?_,?_,?_⟩,λ _ _=>⟨?_,?_,(),?_,⟨rfl,ae,ae,ae,rfl,ae,rfl,ae,?_,rfl,rfl,rfl,rfl,ae⟩,?_,⟨?_,?_⟩,⟨rfl,rfl,rfl,ae⟩,rfl,rfl,rfl,ae⟩⟩,λ _=>⟨(),?_,⟨rfl,ae,ae,ae,rfl,ae,rfl,ae,?_,rfl,rfl,rfl,rfl,ae⟩,?_,⟨?_,?_⟩,⟨rfl,rfl,rfl,ae⟩,rfl,rfl,rfl,ae⟩⟩,λ u4 _=>⟨?_,(),?_,⟨rfl,ae,ae,ae,rfl,ae,rfl,ae,rfl,rfl,rfl,rfl,ae⟩,rfl,⟨rfl,rfl⟩,?_,rfl,rfl,ae⟩⟩⟩⟩⟩,λ u4 _=>⟨?_,(CW.mk (q3.c+1) (kQ.mk (nS q3.s.ls (cj (m2.a:Int) (q3.c:Int) (q3.s.ls.getD v1.i zE))) (q3.s.rw++[Ai q3.s.ls (cj (m2.a:Int) (q3.c:Int) (q3.s.ls.getD v1.i zE))]))),?_,?_,⟨rfl,ae,ae,ae,rfl,ae,rfl,ae,rfl,rfl,rfl,?_,ae⟩,?_,⟨?_,?_⟩,?_,rfl,rfl,ae⟩⟩,λ _=>⟨?_,?_,(CX.mk (m2.a+1) q3.s.ls (m2.rows++[q3.s.rw])),?_,?_,⟨rfl,ae,ae,ae,rfl,ae,rfl,?_,ae⟩,?_,⟨?_,?_⟩,?_,rfl,ae⟩⟩⟩,λ _=>⟨?_,?_,(CY.mk (v1.i+1) m2.ls (v1.nx++[m2.rows])),?_,?_,⟨rfl,ae,ae,ae,?_,ae⟩,?_,⟨?_,?_⟩,?_,ae⟩⟩⟩⟩,λ _=>⟨?_,?_,?_⟩⟩⟩⟩;all_goals try and_intros
 all_goals try (first|with_reducible rfl|with_reducible assumption)
 all_goals try simp only[J.eta,cW] at *
 all_goals (try simp only[a8S,a9b,a8z,a8y,av,ai,aX,a9j,a8E,a8F,a8R] at *);first|with_reducible assumption|omega|with_reducible rfl|exact trivial|exact BO.first _ _ _ he hn|exact BO.go (by with_reducible assumption) (by omega)|exact BM.go (by with_reducible assumption) (by omega)|exact BM.done (by with_reducible assumption) (by omega) (by omega)|exact BI.done (by with_reducible assumption) (by omega) (by omega)|(obtain⟨_,_,_,_,_,_,_,_⟩:=(BI.lens (b:=true) (e:=e) (by with_reducible assumption) hg);omega)|(obtain⟨_,_,_,_,_,_⟩:=(BM.lens (b:=true) (e:=e) (by with_reducible assumption) hg);omega)|(obtain⟨_,_,_⟩:=(BO.lens (b:=true) (e:=e) (by with_reducible assumption));omega)|exact (e9 (BI.Iz (by with_reducible assumption) (by omega) (by with_reducible assumption))).1.symm|exact (e9 (BI.Iz (by with_reducible assumption) (by omega) (by with_reducible assumption))).2.1.symm|exact (e9 (BI.Iz (by with_reducible assumption) (by omega) (by with_reducible assumption))).2.2.symm|exact (e9 (BM.over (by with_reducible assumption) (by omega) (by omega))).1.symm|exact (e9 (BM.over (by with_reducible assumption) (by omega) (by omega))).2.1.symm|exact (e9 (BM.over (by with_reducible assumption) (by omega) (by omega))).2.2.symm|exact (uh (BO.done (by with_reducible assumption) (by omega))).1.symm|exact (uh (BO.done (by with_reducible assumption) (by omega))).2.1.symm|exact (uh (BO.done (by with_reducible assumption) (by omega))).2.2.symm|exact (BI.get (by with_reducible assumption)).1|exact (BI.get (by with_reducible assumption)).2|exact a4Z _|exact (Wq e he hn).1|exact (Wq e he hn).2|exact (BI.dd (by with_reducible assumption) (by with_reducible assumption)).g|exact (BI.dd (by with_reducible assumption) (by with_reducible assumption)).tx|exact JM.mk (by omega) (BI.dd (by with_reducible assumption) (by with_reducible assumption)) (by with_reducible assumption) (λ h=>absurd h (su.yes (BI.dd (by with_reducible assumption) (by with_reducible assumption)) (by with_reducible assumption)).2)|exact JM.mk (by omega) (BI.dd (by with_reducible assumption) (by with_reducible assumption)) (by with_reducible assumption) (λ _=>by omega)|exact JN.mk (by omega) (BI.dd (by with_reducible assumption) (by with_reducible assumption)) (λ h=>absurd (by with_reducible assumption) h)|exact JM.n (by with_reducible assumption)|exact JN.go (by with_reducible assumption) (by with_reducible assumption)|exact (su.yes (BI.dd (by with_reducible assumption) (by with_reducible assumption)) (by with_reducible assumption)).1.trans (JW (by with_reducible assumption) (su.yes (BI.dd (by with_reducible assumption) (by with_reducible assumption)) (by with_reducible assumption)).2).1|exact (JX (by with_reducible assumption) (su.no (BI.dd (by with_reducible assumption) (by with_reducible assumption)) (by with_reducible assumption))).1|exact (JV (by with_reducible assumption)).2|exact (JW (by with_reducible assumption) (su.yes (BI.dd (by with_reducible assumption) (by with_reducible assumption)) (by with_reducible assumption)).2).2|exact (JX (by with_reducible assumption) (su.no (BI.dd (by with_reducible assumption) (by with_reducible assumption)) (by with_reducible assumption))).2|exact (ZN (by with_reducible assumption)).1|exact (ZO (by with_reducible assumption) (su.yes (BI.dd (by with_reducible assumption) (by with_reducible assumption)) (by with_reducible assumption)).2).1|exact (ZP (BI.dd (by with_reducible assumption) (by with_reducible assumption)) (by with_reducible assumption) (su.no (BI.dd (by with_reducible assumption) (by with_reducible assumption)) (by with_reducible assumption))).1|exact (ZN (by with_reducible assumption)).2|exact (ZO (by with_reducible assumption) (su.yes (BI.dd (by with_reducible assumption) (by with_reducible assumption)) (by with_reducible assumption)).2).2|exact (ZP (BI.dd (by with_reducible assumption) (by with_reducible assumption)) (by with_reducible assumption) (su.no (BI.dd (by with_reducible assumption) (by with_reducible assumption)) (by with_reducible assumption))).2|exact (e9 (BI.Vk (by with_reducible assumption) (by omega) (by with_reducible assumption) (by with_reducible assumption) (su.no (BI.dd (by with_reducible assumption) (by with_reducible assumption)) (by with_reducible assumption)) (by omega))).1.symm|exact (e9 (BI.Vk (by with_reducible assumption) (by omega) (by with_reducible assumption) (by with_reducible assumption) (su.no (BI.dd (by with_reducible assumption) (by with_reducible assumption)) (by with_reducible assumption)) (by omega))).2.1.symm|exact (e9 (BI.Vk (by with_reducible assumption) (by omega) (by with_reducible assumption) (by with_reducible assumption) (su.no (BI.dd (by with_reducible assumption) (by with_reducible assumption)) (by with_reducible assumption)) (by omega))).2.2.symm|exact BM.done (by with_reducible assumption) (by omega) (BM.b6 (by with_reducible assumption) rfl)|(rw[<-(JV (by with_reducible assumption)).1])|(simp[gB,gV];done)|exact (JV (by with_reducible assumption)).1|exact (JV (by with_reducible assumption)).2|exact (JW (by with_reducible assumption) (by omega)).1|exact (JW (by with_reducible assumption) (by omega)).2|exact (JX (by with_reducible assumption) (by omega)).1|exact (JX (by with_reducible assumption) (by omega)).2|rfl
def rK:aQ:=⟨rM,[.v (.st .sig), .v (.st .expr)],λ (gg:aH) (e:J)=>⟨(some (dj gg=true/\az e=true/\aj e<=1000),[⟨(.st .automaton),C0 gg e⟩,⟨(.int .i64),im gg e⟩])⟩⟩
def Dw(gg:aH)(e:J):Nat->aG:=(dU 0 (.mk (Nat) (λ k=>iW gg e k) (λ k=>(df gg e).length - k) [] [0,1,3,5,6,7,8,14,15,16,17,18,19,20,21,22,25,26,27] (λ k=>[(30, .aK ⟨(.int .i64),((k:Int):Int)⟩)]) [4] (λ k=>[(9, .box [.aK ⟨(.int .i64),(gg.aF:Int)⟩, .aK ⟨(.int .i64),(gg.ar:Int)⟩, .row 3000, .aK ⟨(.slice (.slice (.slice (.int .i64)))),(fu gg e:List (List (List Int)))⟩]),(3000, .row Cm (.slice .bool) (mR gg ((df gg e).take k):List (List Bool)))]) [] [] (λ k=>(dU 2 (.a (Nat) (λ a=>a<=(bB gg).toNat) (λ a=>(bB gg).toNat - a) [31,32,33,34,35] (λ a=>[(37, .aK ⟨(.int .i64),((a:Int):Int)⟩),(12, .row 34)]) [4,9,11,3000] (λ a=>[(34, .row yg .bool (uv ((df gg e).getD k zE) a:List Bool))])) cf))) cf)
abbrev nW(gg:aH)(e:J)(k1:Nat):Prop:=(let v0:=(df gg e).getD k1 zE;((v0.ah=v0.ah/\(v0.aZ=v0.aZ/\(v0.U=v0.U/\True)))/\((gg.aF=gg.aF/\(gg.ar=gg.ar/\(True/\((fu gg e)=(fu gg e)/\True))))/\((mR gg ((df gg e).take k1))=(mR gg ((df gg e).take k1))/\(((0:Int)=(0:Int)/\((0:Int)=(0:Int)/\(True/\(True/\True))))/\True)))))
def yG:aQ.Good rK:=by
 refine⟨aB pD,?_⟩;intro (gg:aH) (e:J) (hp:dj gg=true/\az e=true/\aj e<=1000);refine aP [xI,lO,lP] [] [] [2,3] ⟨Dj,mg,tp,ae⟩ pD yo (Dw gg e) (let v0:=df gg e;let v1:=(v0.length:Int);let v2:=gg.aF=gg.aF/\(gg.ar=gg.ar/\(True/\((fu gg e)=(fu gg e)/\True)));let v4:=bB gg;let v5:=(0:Int);let v3:=(v5=v5/\(v5=v5/\(True/\(True/\True))))/\True;let v6:=im gg e;(((dj gg=true/\az e=true/\aj e<=1000)/\(v0.length<=140737488355328->((fu gg e).length<=140737488355328->(ai v6->(((!(decide (v6=v5)))=true->((O.mk (aH.mk v5 v5) [] [])=(C0 gg e)/\v6=v6))/\((!(decide (v6=v5)))=false->(ai v1->((∃ k1:Nat,(iW gg e k1/\((gg=gg/\(True/\(True/\(v0=v0/\(v1=v1/\(v5=(k1:Int)/\True))))))/\(v2/\((mR gg (v0.take k1))=[]/\v3)))))/\(∀ k1:Nat,let v7:=v0.getD k1 zE;let v8:=(k1:Int);let v9:=mR gg (v0.take k1);(iW gg e k1->(((decide (v8<v1))=true->(av v8 v0.length/\((0<=gg.aF/\gg.aF<=3)/\(ai v4->((∃ a2:Nat,(a2<=v4.toNat/\((gg=gg/\(True/\(True/\(True/\(True/\(v0=v0/\(v1=v1/\(v8=v8/\(v4=v4/\(v5=(a2:Int)/\True))))))))))/\([]=(uv v7 a2)/\(nW gg e k1)))))/\(∀ a2:Nat,let va:=(a2:Int);(a2<=v4.toNat->(((decide (va<v4))=true->((az (bc v7)=true/\0<=va/\va<=4096)/\(aX ((uv v7 a2).length+([(eo va (bc v7))]).length) 1/\(ai (va+(1:Int))/\(∃ a3:Nat,(a3<=v4.toNat/\(v4.toNat - a3<v4.toNat - a2/\((gg=gg/\(True/\(True/\(True/\(True/\(v0=v0/\(v1=v1/\(v8=v8/\(v4=v4/\((va+(1:Int))=(a3:Int)/\True))))))))))/\(((uv v7 a2)++([(eo va (bc v7))]))=(uv v7 a3)/\(nW gg e k1))))))))))/\((decide (va<v4))=false->(aX (v9.length+([(uv v7 a2)]).length) 24/\(ai (v8+(1:Int))/\(∃ k3:Nat,(iW gg e k3/\(v0.length - k3<v0.length - k1/\((gg=gg/\(True/\(True/\(v0=v0/\(v1=v1/\((v8+(1:Int))=(k3:Int)/\True))))))/\(v2/\((v9++([(uv v7 a2)]))=(mR gg (v0.take k3))/\v3)))))))))))))))))/\((decide (v8<v1))=false->((O.mk (aH.mk gg.aF gg.ar) v9 (fu gg e))=(C0 gg e)/\v5=v6))))))))))))))) ?_;obtain⟨hg,he,hn⟩:=hp;have hq:=(eY gg).1 hg;have ha:=iw gg hq.1;refine⟨?_,λ _ _ a2=>⟨λ a3=>⟨?_,rfl⟩,λ a3 _=>⟨⟨0,?_,⟨rfl,ae,ae,rfl,rfl,?_,ae⟩,⟨rfl,rfl,ae,rfl,ae⟩,?_,⟨rfl,rfl,ae,ae,ae⟩,ae⟩,λ k1 _=>⟨λ _=>⟨?_,?_,λ _=>⟨⟨0,?_,⟨rfl,ae,ae,ae,ae,rfl,rfl,rfl,rfl,?_,ae⟩,?_,⟨rfl,rfl,rfl,ae⟩,⟨rfl,rfl,ae,rfl,ae⟩,rfl,⟨rfl,rfl,ae,ae,ae⟩,ae⟩,λ a2 _=>⟨λ _=>⟨?_,?_,?_,a2+1,?_,?_,⟨rfl,ae,ae,ae,ae,rfl,rfl,rfl,rfl,?_,ae⟩,?_,⟨rfl,rfl,rfl,ae⟩,⟨rfl,rfl,ae,rfl,ae⟩,rfl,⟨rfl,rfl,ae,ae,ae⟩,ae⟩,λ _=>⟨?_,?_,k1+1,?_,?_,⟨rfl,ae,ae,rfl,rfl,?_,ae⟩,⟨rfl,rfl,ae,rfl,ae⟩,?_,⟨rfl,rfl,ae,ae,ae⟩,ae⟩⟩⟩⟩,λ _=>⟨?_,?_⟩⟩⟩⟩⟩;all_goals try and_intros
 all_goals try (first|with_reducible rfl|with_reducible assumption)
 all_goals try simp only[J.eta,cW] at *
 all_goals (try simp only[a8S,a9b,a8z,a8y,av,ai,aX,a9j,a8E,a8F,a8R,Mw] at *);first|with_reducible assumption|omega|with_reducible rfl|exact trivial|(obtain⟨_,_,_,_⟩:=iW.lens (by with_reducible assumption);omega)|exact iW.mk (Rq gg e hg he hn (by omega)) (by omega) (a9l _)|exact iW.get (by with_reducible assumption) (by omega)|exact iW.next (by with_reducible assumption) (by omega)|exact iW.step (by with_reducible assumption) (by omega) (by omega) (by omega)|exact Yx _ _|exact JY (by omega)|exact iW.done (gg:=gg) (by with_reducible assumption) (by omega)|exact congrArg O.sig (JY (by omega))|exact congrArg O.sig (iW.done (gg:=gg) (by with_reducible assumption) (by omega))|exact congrArg O.accept (JY (by omega))|exact congrArg O.accept (iW.done (gg:=gg) (by with_reducible assumption) (by omega))|exact congrArg O.next (JY (by omega))|exact congrArg O.next (iW.done (gg:=gg) (by with_reducible assumption) (by omega))|rfl
def rJ:aQ:=⟨rL,[.v (.st .sig), .v (.st .expr)],λ (gg:aH) (e:J)=>⟨(none,[⟨(.st .automaton),aoV gg e⟩,⟨(.int .i64),aoC gg e⟩])⟩⟩
def Du(gg:aH)(e:J):Nat->aG:=cf
def yF:aQ.Good rJ:=by
 refine⟨aB pC,?_⟩;intro (gg:aH) (e:J) _;refine aP [vM,rK] [] [] [2,3] ⟨Be,yG,ae⟩ pC ym (Du gg e) ((((!(ub gg e))=true->((O.mk (aH.mk (0:Int) (0:Int)) [] [])=(aoV gg e)/\(1:Int)=(aoC gg e)))/\((!(ub gg e))=false->((dj gg=true/\az e=true/\aj e<=1000)/\(ai (im gg e)->((C0 gg e)=(aoV gg e)/\(im gg e)=(aoC gg e))))))) ?_;refine⟨λ _=>⟨?_,?_⟩,λ _=>⟨?_,λ _=>⟨?_,?_⟩⟩⟩;all_goals try and_intros
 all_goals (try simp only[a8S,a9b] at *);first|with_reducible assumption|with_reducible rfl|exact trivial|exact (sF (by with_reducible assumption)).1|exact (sF (by with_reducible assumption)).2|exact congrArg O.sig (sF (by with_reducible assumption)).1|exact congrArg O.accept (sF (by with_reducible assumption)).1|exact congrArg O.next (sF (by with_reducible assumption)).1|exact congrArg (λ a=>aH.aF (O.sig a)) (sF (by with_reducible assumption)).1|exact congrArg (λ a=>aH.ar (O.sig a)) (sF (by with_reducible assumption)).1|exact (sE (by with_reducible assumption)).1|exact (sE (by with_reducible assumption)).2|exact congrArg O.sig (sE (by with_reducible assumption)).1|exact congrArg O.accept (sE (by with_reducible assumption)).1|exact congrArg O.next (sE (by with_reducible assumption)).1|exact congrArg (λ a=>aH.aF (O.sig a)) (sE (by with_reducible assumption)).1|exact congrArg (λ a=>aH.ar (O.sig a)) (sE (by with_reducible assumption)).1|exact (yY (by with_reducible assumption)).s|exact (yY (by with_reducible assumption)).g|exact (yY (by with_reducible assumption)).n
structure cG(a:O):Prop where
 s:dj a.sig=true
 n1:1<=a.accept.length
 n60:a.accept.length<=60
 nx:a.next.length=a.accept.length
 ac:∀ r∈a.accept,r.length=(bB a.sig).toNat
 ok:Ji (bB a.sig).toNat a.sig.ar.toNat a.accept.length a.next
def ng{α:Type}{z:α}{xs:List α}{i:Nat}(h:i<xs.length):xs.getD i z∈xs:=by rw[a8D,a8H h];exact b0o _
def Yz{gg:aH}{ls:List J}:∀ r∈mR gg ls,r.length=(bB gg).toNat:=λ r hr=>by
 obtain⟨x,_,rfl⟩:=a8w.1 hr;exact Mw _ _
def a3D{gg:aH}{e:J}(hg:dj gg=true)(he:az e=true)(hn:aj e<=1000)(h:im gg e=0):cG (C0 gg e):=by
 have q:=Rq gg e hg he hn h;rw[<-a2j h];have hl:(mR gg (df gg e)).length=(df gg e).length:=by simp[mR]
 exact⟨hg,by show 1<=(mR gg (df gg e)).length;have:=q.pos;omega,by show (mR gg (df gg e)).length<=60;have:=q.me;omega,by show (fu gg e).length=(mR gg (df gg e)).length;have:=q.len;omega,
  Yz,by show Ji _ _ (mR gg (df gg e)).length (fu gg e);rw[hl];exact q.ok⟩
abbrev nK(a:O):Nat:=a.accept.length
abbrev mK(a:O):Nat:=(bB a.sig).toNat
abbrev kK(a:O):Nat:=a.sig.ar.toNat
def kR(a:O)(i t:Nat):Bool:=decide (i<nK a)&&(a.accept.getD i []).getD t false
def lj(a:O)(i t x:Nat):Int:=((a.next.getD i []).getD t []).getD x 0
def fb(a:O)(i t x:Nat):Nat:=if i<nK a then (if lj a i t x<0 then nK a else (lj a i t x).toNat) else nK a
def cG.row{a:O}(h:cG a){i t x:Nat}(hi:i<nK a)(ht:t<mK a)(hx:x<kK a) : -1<=lj a i t x/\lj a i t x<nK a:=by
 have h1:=h.ok (a.next.getD i []) (ng (by rw[h.nx];exact hi));have h2:=h1.2 ((a.next.getD i []).getD t []) (ng (by rw[h1.1];exact ht));exact h2.2 _ (ng (by rw[h2.1];exact hx))
def cG.lens{a:O}(h:cG a):1<=mK a/\mK a<=8/\kK a<=4/\(mK a:Int)=bB a.sig/\(kK a:Int)=a.sig.ar:=by
 have hq:=(eY a.sig).1 h.s;have:=iw a.sig hq.1;simp only[mK,kK];refine⟨?_,?_,?_,?_,?_⟩<;>omega
def cG.wU{a:O}(h:cG a){i:Nat}(hi:i<nK a):(a.accept.getD i []).length=mK a/\(a.next.getD i []).length=mK a:=by
 refine⟨h.ac _ ?_,(h.ok _ ?_).1⟩
 .exact ng hi
 .exact ng (by rw[h.nx];exact hi)
def cG.NL{a:O}(h:cG a){i t:Nat}(hi:i<nK a)(ht:t<mK a):((a.next.getD i []).getD t []).length=kK a:=by
 have h1:=h.ok (a.next.getD i []) (ng (by rw[h.nx];exact hi));exact (h1.2 _ (ng (by rw[h1.1];exact ht))).1
def cG.go{a:O}(h:cG a){i t x:Nat}(ht:t<mK a)(hx:x<kK a):fb a i t x<=nK a:=by
 unfold fb;split
 .rename_i hi;have:=h.row hi ht hx;split<;>omega
 .omega
structure Ik(a:O)(out:List Int):Prop where
 len:out.length=nK a+1
 bd:∀ v∈out,0<=v/\v<100
def Ik.get{a:O}{out:List Int}(h:Ik a out){i:Nat}(hi:i<=nK a):0<=out.getD i 0/\out.getD i 0<100:=h.bd _ (ng (by rw[h.len];omega))
def Dt(a:O)(out:List Int)(i t x:Nat):List UInt8:=(List.range x).flatMap λ y=>32::iL (out.getD (fb a i t y) 0)
def Cc(b:Bool):List UInt8:=if b=true then [43] else []
def Xf(a:O)(out:List Int)(i t:Nat):List UInt8:=Cc (kR a i t)++(Dt a out i t (kK a)++[59])
def uA(a:O)(out:List Int)(i t:Nat):List UInt8:=(List.range t).flatMap (Xf a out i)
def er(a:O)(out:List Int)(i:Nat):List UInt8:=iL (out.getD i 0)++[124]++uA a out i (mK a)
def ZD(a:O)(out:List Int)(i t x:Nat):Dt a out i t x++(32::iL (out.getD (fb a i t x) 0))=Dt a out i t (x+1):=by simp[Dt,b1w]
def ZC(a:O)(out:List Int)(i t:Nat):uA a out i t++Xf a out i t=uA a out i (t+1):=by simp[uA,b1w]
def a5Q:∀ n:Fin 100,(iL (n.val:Int)).length<=2/\(∀ b∈iL (n.val:Int),48<=b/\b<=57):=by decide +kernel
def a4a:∀ m n:Fin 100,iL (m.val:Int)=iL (n.val:Int)->m=n:=by decide +kernel
def AY{n:Int}(h:0<=n/\n<100):(iL n).length<=2/\∀ b∈iL n,48<=b/\b<=57:=by
 have:=a5Q ⟨n.toNat,by omega⟩;rwa [show ((n.toNat:Nat):Int)=n by omega] at this
def Yu{m n:Int}(h:0<=m/\m<100)(k:0<=n/\n<100)(e:iL m=iL n):m=n:=by
 have:=a4a ⟨m.toNat,by omega⟩ ⟨n.toNat,by omega⟩ (by rw[show ((m.toNat:Nat):Int)=m by omega,show ((n.toNat:Nat):Int)=n by omega];exact e);simp only[Fin.mk.injEq] at this;omega
def P9(r:List UInt8):Prop:=∀ b t,r=b::t->¬ (48<=b/\b<=57)
def Mt:∀ (x y r s:List UInt8),(∀ b∈x,(48:UInt8)<=b/\b<=57)->(∀ b∈y,(48:UInt8)<=b/\b<=57)->P9 r->P9 s->x++r=y++s->x=y/\r=s
 | [],[],r,s,_,_,_,_,h=>⟨rfl,h⟩
 | [],b::y,r,s,_,hy,hr,_,h=>absurd (hy b (by simp)) (hr b (y++s) (by simpa using h))
 | b::x,[],r,s,hx,_,_,hs,h=>absurd (hx b (by simp)) (hs b (x++r) (by simpa using h.symm))
 | b::x,c::y,r,s,hx,hy,hr,hs,h=>by
  simp only[a9i,a8x] at h;obtain⟨h1,h2⟩:=Mt x y r s (λ d hd=>hx d (by simp[hd])) (λ d hd=>hy d (by simp[hd])) hr hs h.2;exact⟨by rw[h.1,h1],h2⟩
def P9.c{b:UInt8}{t:List UInt8}(h:¬ (48<=b/\b<=57)):P9 (b::t):=λ c u e=>by cases e;exact h
def a3d{f g:Nat->Int}:∀ (l:List Nat) (r s:List UInt8),(∀ y∈l,0<=f y/\f y<100)->(∀ y∈l,0<=g y/\g y<100)->(l.flatMap λ y=>32::iL (f y))++(59::r)=(l.flatMap λ y=>32::iL (g y))++(59::s)->(∀ y∈l,f y=g y)/\r=s
 | [],r,s,_,_,h=>⟨λ _ h=>(by cases h),by simpa using h⟩
 | y::l,r,s,hf,hg,h=>by
  simp only[b0a,a9i,a8Y,a8x,b0e] at h;have nd:∀ (k:Nat->Int) (r:List UInt8),P9 ((l.flatMap λ y=>32::iL (k y))++(59::r)):=λ k r=>by
   cases l with
   | nil=>exact P9.c (by decide)
   | cons z l=>simp only[b0a,a9i];exact P9.c (by decide)
  obtain⟨h1,h2⟩:=Mt _ _ _ _ (AY (hf y (by simp))).2 (AY (hg y (by simp))).2 (nd f r) (nd g s) h;obtain⟨h3,h4⟩:=a3d l r s (λ z hz=>hf z (by simp[hz])) (λ z hz=>hg z (by simp[hz])) h2;refine⟨λ z hz=>?_,h4⟩;rcases a8G.1 hz with rfl|q
  .exact Yu (hf z (by simp)) (hg z (by simp)) h1
  .exact h3 z q
def ZE{p:Nat->Prop}{f g:Nat->List UInt8}:∀ (l:List Nat),(∀ t∈l,∀ r s,f t++r=g t++s->p t/\r=s)->l.flatMap f=l.flatMap g->∀ t∈l,p t
 | [],_,_,t,h=>by cases h
 | u::l,hp,h,t,ht=>by
  rw[b0a,b0a] at h;obtain⟨h1,h2⟩:=hp u (by simp) _ _ h;rcases a8G.1 ht with rfl|q
  .exact h1
  .exact ZE l (λ t ht=>hp t (by simp[ht])) h2 t q
def a7c(b c:Bool)(a:O)(out:List Int)(i j t x:Nat)(r s:List UInt8)(h:Cc b++(Dt a out i t x++(59::r))=Cc c++(Dt a out j t x++(59::s))):b=c/\Dt a out i t x++(59::r)=Dt a out j t x++(59::s):=by
 have hd:∀ (i:Nat) (r:List UInt8),∃ u v,Dt a out i t x++(59::r)=u::v/\¬ u=43:=λ i r=>by
  unfold Dt;cases x with
  | zero=>exact⟨_,_,rfl,by decide⟩
  | succ x=>rw[List.range_succ_eq_map];exact⟨_,_,rfl,by decide⟩
 cases b<;>cases c
 .exact⟨rfl,by simpa [Cc] using h⟩
 .obtain⟨u,v,e,hu⟩:=hd i r;simp only[Cc,b0k,a9e,a9i,a9m,b1q] at h;rw[e] at h;simp only[a8x] at h;exact absurd h.1 hu
 .obtain⟨u,v,e,hu⟩:=hd j s;simp only[Cc,b0k,a9e,a9i,a9m,b1q] at h;rw[e] at h;simp only[a8x] at h;exact absurd h.1.symm hu
 .exact⟨rfl,by simpa [Cc] using h⟩
def key_inj{a:O}(ha:cG a){out:List Int}(ho:Ik a out){i j:Nat}(hi:i<=nK a)(hj:j<=nK a)(h:er a out i=er a out j) :
  out.getD i 0=out.getD j 0/\∀ t,t<mK a->kR a i t=kR a j t/\∀ x,x<kK a->out.getD (fb a i t x) 0=out.getD (fb a j t x) 0:=by
 unfold er at h;simp only[List.append_assoc] at h;obtain⟨h1,h2⟩:=Mt _ _ _ _ (AY (ho.get hi)).2 (AY (ho.get hj)).2 (P9.c (by decide)) (P9.c (by decide)) h;refine⟨Yu (ho.get hi) (ho.get hj) h1,λ t ht=>?_⟩;have h3:uA a out i (mK a)=uA a out j (mK a):=by simpa using h2
 refine ZE (p:=λ t=>kR a i t=kR a j t/\∀ x,x<kK a->out.getD (fb a i t x) 0=out.getD (fb a j t x) 0) (List.range (mK a)) (λ t ht r s e=>?_) h3 t (List.mem_range.2 ht);unfold Xf at e;simp only[List.append_assoc,List.cons_append,List.nil_append] at e;obtain⟨e1,e2⟩:=a7c _ _ a out i j t _ _ _ e;have IP:=List.mem_range.1 ht;obtain⟨e3,e4⟩:=a3d (List.range (kK a)) _ _ (λ y hy=>ho.get (ha.go IP (List.mem_range.1 hy))) (λ y hy=>ho.get (ha.go IP (List.mem_range.1 hy))) e2;exact⟨⟨e1,λ x hx=>e3 x (List.mem_range.2 hx)⟩,e4⟩
def a1M{a:O}{out:List Int}{i j:Nat}(h:out.getD i 0=out.getD j 0/\∀ t,t<mK a->kR a i t=kR a j t/\∀ x,x<kK a->out.getD (fb a i t x) 0=out.getD (fb a j t x) 0):er a out i=er a out j:=by
 have fc:∀ {f g:Nat->List UInt8} (l:List Nat),(∀ t∈l,f t=g t)->l.flatMap f=l.flatMap g:=λ {f g} l=>by
  induction l with
  | nil=>intro _;rfl
  | cons u l ih=>intro h;rw[b0a,b0a,h u (by simp),ih λ t ht=>h t (by simp[ht])]
 unfold er;rw[h.1];congr 1;refine fc _ λ t ht=>?_;have IP:=h.2 t (List.mem_range.1 ht);unfold Xf;rw[IP.1];congr 2;exact fc _ λ x hx=>by rw[IP.2 x (List.mem_range.1 hx)]
def Nf{a:O}(ha:cG a){out:List Int}(ho:Ik a out){i t:Nat}(ht:t<mK a):∀ x,x<=kK a->(Dt a out i t x).length<=3 * x
 | 0,_=>by simp[Dt]
 | x+1,hx=>by
  have:=Nf ha ho (i:=i) ht x (by omega);have:=(AY (ho.get (ha.go (i:=i) ht (show x<kK a by omega)))).1;rw[<-ZD];simp only[a8E,a8F];omega
def Nd{a:O}(ha:cG a){out:List Int}(ho:Ik a out){i:Nat}:∀ t,t<=mK a->(uA a out i t).length<=20 * t
 | 0,_=>by simp[uA]
 | t+1,ht=>by
  have:=Nd ha ho (i:=i) t (by omega);have h1:=Nf ha ho (i:=i) (show t<mK a by omega) (kK a) (Nat.le_refl _);have:=ha.lens;have h2:(Cc (kR a i t)).length<=1:=by unfold Cc;split<;>simp
  rw[<-ZC,Xf];simp only[a8E,a8F,a8R];omega
open Go.RowKit Go.Proofs
def Ls(w:World)(S:Nat->Prop)(L:List D)(v:Value):Prop:=∃ p cap,v = .slice p L.length cap/\(L=[]\/∃ b o,p=some ⟨b,o,none⟩/\S b/\cv w S L b o)
def Je{w:World}{S:Nat->Prop}{n:Nat}{L:List D}{v:Value}(h:Rd w S (.slice n L) [v]):Ls w S L v:=by
 obtain⟨p,cap,h1,_,_,_,h5⟩:=(show ∃ a cap,[v]=[.slice a L.length cap]/\L.length<=cap/\cap<=maxLen/\L.length<=140737488355328/\(L=[]\/∃ b o,a=some ⟨b,o,none⟩/\S b/\cv w S L b o) from h);simp only[a8x,a8T] at h1;exact⟨p,cap,h1,h5⟩
def a0e{w:World}{S:Nat->Prop}{a:O}{cs:List Value}(h:Rd w S a.aD cs):∃ v1 v2,cs=[.int .i64 a.sig.aF, .int .i64 a.sig.ar,v1,v2] /\
  Ls w S (a.accept.map λ y=>D.slice 1 (y.map λ y=>D.bool y)) v1/\Ls w S (a.next.map λ y=>D.slice 1 (y.map λ y=>D.slice 1 (y.map λ y=>D.int .i64 y))) v2:=by
 simp only[O.aD,Rd,cR] at h;obtain⟨u0,r0,rfl,⟨h0,_⟩,u1,r1,rfl,⟨h1,_⟩,u2,r2,rfl,h2,u3,r3,rfl,h3,rfl⟩:=h;simp only[a8x,a8T] at h0 h1;subst h0 h1;exact⟨u2,u3,rfl,Je (n:=1) h2,Je (n:=1) h3⟩
def CD{α:Type}(f:α->D)(z:α)(xs:List α)(i:Nat)(h:i<xs.length):(xs.map f)[i]?=some (f (xs.getD i z)):=by
 simp[a9R,a8D,h]
def U6{B:Nat}{w w1:World}(h:Below B w w1){b o:Nat}(hb:b<B){v:Value}(hc:w.cell? ⟨b,o,none⟩=some v):w1.cell? ⟨b,o,none⟩=some v:=by
 rw[<-hc];exact b0B (a:=⟨b,o,none⟩) (h.block b hb)
def CG{w:World}{S:Nat->Prop}{L:List D}{b o:Nat}(h:cv w S L b o)(h1:∀ d∈L,d.size=1)(i:Nat)(d:D)(hd:L[i]?=some d):∃ u,Rd w S d [u]/\w.cell? ⟨b,o+i,none⟩=some u:=by
 obtain⟨cs,q1,q2,q3⟩:=cv.at_ (n:=1) L b o h h1 i d hd;match cs,q1 with
 | [u],_=>exact⟨u,q2,by have:=q3 0 u rfl;simpa using this⟩
def CB{w:World}{S:Nat->Prop}{L:List D}{v:Value}(h:Ls w S L v)(n:Nat)(hl:L.length=n)(hn:0<n):∃ b o cap,v = .slice (some ⟨b,o,none⟩) n cap/\S b/\cv w S L b o:=by
 obtain⟨p,cap,rfl,h5⟩:=h;rcases h5 with h5|⟨b,o,rfl,hb,hr⟩
 .rw[h5] at hl;simp at hl;omega
 .exact⟨b,o,cap,by rw[hl],hb,hr⟩
def XJ{α:Type}(f:α->D)(h:∀ x,(f x).size=1)(xs:List α):∀ d∈xs.map f,d.size=1:=λ d hd=>by obtain⟨x,_,rfl⟩:=a8w.1 hd;exact h x
open Go.RowKit Go.Proofs
def a1n(g:aH)(h:0<=g.aF/\g.aF<=3)(w:World):Calls prog 53 #[.agg #[.int .i64 g.aF, .int .i64 g.ar]] w λ e w'=>e = .returned (.int .i64 (bB g))/\w'=w.alloc (.cells #[.int .i64 g.aF, .int .i64 g.ar] 31):=by
 obtain⟨t,c⟩:=g;have ht:t=0\/t=1\/t=2\/t=3:=by simp only at h;omega
 rcases ht with rfl|rfl|rfl|rfl;all_goals
  go_enter Tryz.func53,Tryz.ntmps53
  go_wp2
  go_ret
  exact⟨rfl,rfl⟩
structure T3(a:O)(out:List Int)(w:World)(S:Nat->Prop)(ab ao nb no ob oo:Nat)(b1 o1 p1 b2 o2 p2 b5 o5 p5:Nat):Prop where
 a0:w.cell? ⟨ab,ao,none⟩=some (.int .i64 a.sig.aF)
 a1:w.cell? ⟨ab,ao+1,none⟩=some (.int .i64 a.sig.ar)
 a2:w.cell? ⟨ab,ao+2,none⟩=some (.slice (some ⟨b1,o1,none⟩) (nK a) p1)
 a3:w.cell? ⟨ab,ao+3,none⟩=some (.slice (some ⟨b2,o2,none⟩) (nK a) p2)
 n0:w.cell? ⟨nb,no,none⟩=some (.int .i64 (nK a:Int))
 u0:w.cell? ⟨ob,oo,none⟩=some (.slice (some ⟨b5,o5,none⟩) (nK a+1) p5)
 la:ab<w.heap.size
 ln:nb<w.heap.size
 lo:ob<w.heap.size
 s1:S b1
 s2:S b2
 s5:S b5
 r1:cv w S (a.accept.map λ y=>D.slice 1 (y.map λ y=>D.bool y)) b1 o1
 r2:cv w S (a.next.map λ y=>D.slice 1 (y.map λ y=>D.slice 1 (y.map λ y=>D.int .i64 y))) b2 o2
 r5:cv w S (out.map λ y=>D.int .i64 y) b5 o5
def T3.a3h{a:O}{out:List Int}{w:World}{S:Nat->Prop}{ab ao nb no ob oo b1 o1 p1 b2 o2 p2 b5 o5 p5:Nat}(h:T3 a out w S ab ao nb no ob oo b1 o1 p1 b2 o2 p2 b5 o5 p5)(k:Nat)(hk:k<out.length):w.cell? ⟨b5,o5+k,none⟩=some (.int .i64 (out.getD k 0)):=by
 obtain⟨u,hu,cu⟩:=CG h.r5 (XJ (λ y:Int=>D.int .i64 y) (λ _=>rfl) out) k _ (CD _ 0 out k hk);have hu:[u]=[.int .i64 (out.getD k 0)]:=hu.1;simp only[a8x,a8T] at hu;rw[cu,hu]
def T3.a5l{a:O}{out:List Int}{w:World}{S:Nat->Prop}{ab ao nb no ob oo b1 o1 p1 b2 o2 p2 b5 o5 p5:Nat}(h:T3 a out w S ab ao nb no ob oo b1 o1 p1 b2 o2 p2 b5 o5 p5)(ha:cG a)(i t:Nat)(hi:i<nK a)(ht:t<mK a):∃ b3 o3 p3,S b3/\w.cell? ⟨b1,o1+i,none⟩=some (.slice (some ⟨b3,o3,none⟩) (mK a) p3)/\w.cell? ⟨b3,o3+t,none⟩=some (.bool ((a.accept.getD i []).getD t false)):=by
 obtain⟨u,hu,cu⟩:=CG h.r1 (XJ (λ y:List Bool=>D.slice 1 (y.map λ y=>D.bool y)) (λ _=>rfl) a.accept) i _ (CD _ [] a.accept i hi);have hl:=(ha.wU hi).1;obtain⟨b3,o3,cp3,rfl,yH,r3⟩:=CB (Je hu) (mK a) (by simpa using hl) (by omega);obtain⟨u',ON,cu'⟩:=CG r3 (XJ (λ y:Bool=>D.bool y) (λ _=>rfl) (a.accept.getD i [])) t _ (CD _ false (a.accept.getD i []) t (by omega));have ON:[u']=[.bool ((a.accept.getD i []).getD t false)]:=ON;simp only[List.cons.injEq,and_true] at ON;exact⟨b3,o3,cp3,yH,cu,by rw[cu',ON]⟩
def T3.a6M{a:O}{out:List Int}{w:World}{S:Nat->Prop}{ab ao nb no ob oo b1 o1 p1 b2 o2 p2 b5 o5 p5:Nat}(h:T3 a out w S ab ao nb no ob oo b1 o1 p1 b2 o2 p2 b5 o5 p5)(ha:cG a)(i t x:Nat)(hi:i<nK a)(ht:t<mK a)(hx:x<kK a):∃ b3 o3 p3 b4 o4 p4,S b3/\S b4/\w.cell? ⟨b2,o2+i,none⟩=some (.slice (some ⟨b3,o3,none⟩) (mK a) p3)/\w.cell? ⟨b3,o3+t,none⟩=some (.slice (some ⟨b4,o4,none⟩) (kK a) p4)/\w.cell? ⟨b4,o4+x,none⟩=some (.int .i64 (lj a i t x)):=by
 obtain⟨u,hu,cu⟩:=CG h.r2 (XJ (λ y:List (List Int)=>D.slice 1 (y.map λ y=>D.slice 1 (y.map λ y=>D.int .i64 y))) (λ _=>rfl) a.next) i _ (CD _ [] a.next i (by rw[ha.nx];exact hi));have hl:=(ha.wU hi).2;obtain⟨b3,o3,cp3,rfl,yH,r3⟩:=CB (Je hu) (mK a) (by simpa using hl) (by omega);obtain⟨u',ON,cu'⟩:=CG r3 (XJ (λ y:List Int=>D.slice 1 (y.map λ y=>D.int .i64 y)) (λ _=>rfl) (a.next.getD i [])) t _ (CD _ [] (a.next.getD i []) t (by omega));have Zc:=ha.NL hi ht;obtain⟨b4,o4,cp4,rfl,YV,r4⟩:=CB (Je ON) (kK a) (by simpa using Zc) (by omega);obtain⟨u4,Zu,cu4⟩:=CG r4 (XJ (λ y:Int=>D.int .i64 y) (λ _=>rfl) ((a.next.getD i []).getD t [])) x _ (CD _ 0 ((a.next.getD i []).getD t []) x (by omega));have Zu:[u4]=[.int .i64 (lj a i t x)]:=Zu.1;simp only[List.cons.injEq,and_true] at Zu;exact⟨b3,o3,cp3,b4,o4,cp4,yH,YV,cu,cu',by rw[cu4,Zu]⟩
def tN:Value->Nat
 | .int _ k=>k.toNat
 | _=>0
set_option maxRecDepth 100000 in
def Xd(a:O)(ha:cG a)(out:List Int)(ho:Ik a out)(i:Nat)(hi:i<=nK a)(w:World)(S:Nat->Prop)(hS:∀ b,S b->b<w.heap.size)(ab ao nb no ob oo b1 o1 p1 b2 o2 p2 b5 o5 p5:Nat)
  (E:T3 a out w S ab ao nb no ob oo b1 o1 p1 b2 o2 p2 b5 o5 p5) :
  Calls prog 81 #[.int .i64 i, .pointer (some ⟨ab,ao,none⟩), .pointer (some ⟨nb,no,none⟩), .pointer (some ⟨ob,oo,none⟩)] w λ e w'=>e = .returned (.string ⟨(er a out i).toArray⟩)/\Below w.heap.size w w':=by
 have hI:nZ w.heap.size w.heap.size [] (w.alloc (.cells #[.pointer none, .slice none 0 0] 120)):=b2E 120 5 w;obtain⟨L1,L2,L3,L4,L5⟩:=ha.lens;have a0:=b1y (.cells #[.pointer none, .slice none 0 0] 120) E.a0;have a1:=b1y (.cells #[.pointer none, .slice none 0 0] 120) E.a1;have B0:Below w.heap.size w (w.alloc (.cells #[.pointer none, .slice none 0 0] 120)):=(b0d _ w).alloc (a8C _) _;have z0:(w.alloc (.cells #[.pointer none, .slice none 0 0] 120)).heap.size=w.heap.size+1:=by simp
 go_enter Tryz.func81,Tryz.ntmps81;go_upto_region 2 with fail;generalize w.alloc (.cells #[.pointer none, .slice none 0 0] 120)=W0 at *
 go_wp2_with (go_at_call 53;refine (a1n a.sig ((eY a.sig).1 ha.s).1 _).mono ?_);rintro e W1 ⟨he,hW1⟩;subst he;have hI1:nZ w.heap.size w.heap.size [] W1:=by rw[hW1];exact iC hI _
 have B1:Below w.heap.size w W1:=by rw[hW1];exact B0.alloc (by omega) _
 have z1:w.heap.size+1<=W1.heap.size:=by rw[hW1];simp;omega
 clear hW1 hI a0 a1 B0 z0;have KX:∀ {t:List UInt8} {wr:World},Wr w.heap.size w.heap.size [] t W1 wr->Below w.heap.size w wr/\w.heap.size+1<=wr.heap.size:=λ {t wr} h=>⟨B1.trans h.cK,a9v z1 h.cK.size⟩;have KC:∀ {wr:World} {ad:Nat} {o:Nat} {v:Value},Below w.heap.size w wr->ad<w.heap.size->w.cell? ⟨ad,o,none⟩=some v->wr.cell? ⟨ad,o,none⟩=some v:=λ h hb hc=>U6 h hb hc;have W00:Wr w.heap.size w.heap.size [] (uA a out i 0) W1 W1:=⟨hI1,b0d _ _,gb.refl _ _⟩;go_wp2_with fail;go_loopw [15] (λ t wr=>∃ k:Nat,t = .int .i64 k/\k<=mK a/\Wr w.heap.size w.heap.size [] (uA a out i k) W1 wr) (λ t wr=>mK a - tN t)
 .exact⟨0,rfl,a9l _,W00⟩
 obtain⟨t,rfl,ht,hw⟩:=hrel;obtain⟨x3,x4⟩:=KX hw;have li:=Nd ha ho (i:=i) t ht;have U2:nZ w.heap.size w.heap.size (uA a out i t) wr:=hw.Fi;have v2:=KC x3 E.la E.a2;have vn:=KC x3 E.ln E.n0;by_cases qE:t<mK a
 .have bt:(t:Int)<bB a.sig:=by omega
  go_upto_region 5 with fail;go_cut [8] (λ s8 wx=>wx=wr/\s8 = .bool (kR a i t));case first =>
   by_cases ep:i<nK a
   .obtain⟨b3,o3,p3,yH,q1,q2⟩:=E.a5l ha i t ep qE;obtain⟨bv,hbv⟩:∃ bv,(a.accept.getD i []).getD t false=bv:=⟨_,rfl⟩;rw[hbv] at q2;have q1':=KC x3 (hS _ E.s1) q1;have q2':=KC x3 (hS _ yH) q2;have Yh:(0:Int)<=(i:Int):=by omega
    have WB:(i:Int)<(nK a:Int):=by omega
    have bt0:(0:Int)<=(t:Int):=by omega
    have bt1:(t:Int)<(mK a:Int):=by omega
    have e:kR a i t=(a.accept.getD i []).getD t false:=by unfold kR;rw[decide_eq_true ep];rfl
    go_wp2;go_meet;rw[e,hbv];exact⟨by first|rfl|trivial,by first|rfl|trivial⟩
   .have e:kR a i t=false:=by unfold kR;rw[decide_eq_false ep];rfl
    have WB:¬ (i:Int)<(nK a:Int):=by omega
    go_wp2;go_meet;rw[e];exact⟨by first|rfl|trivial,by first|rfl|trivial⟩
  case rest =>
   obtain⟨hwc,rfl⟩:=hcut;cases hwc;cases hb:kR a i t;case' false =>
    have hM:Wr w.heap.size w.heap.size [] (uA a out i t++Cc (kR a i t)) W1 wr:=by rw[hb];simpa [Cc] using hw
    obtain⟨w2,hw2⟩:∃ w2,w2=wr:=⟨_,rfl⟩;rw[<-hw2] at hM;have va1:=KC (KX hM).1 E.la E.a1;rw[hw2] at va1;go_wp2_with fail;rw[<-hw2];clear hw2 hw U2 x3 x4 v2 vn va1
   case' true =>
    go_wp2_with (go_at_call 82;refine (ws w.heap.size w.heap.size (uA a out i t) _ _ U2 (by simp;omega) (by omega)).mono ?_);first|(rintro e w2 ⟨he,h2⟩;subst he)|(intro e w2 he h2;subst he)
    have hM:Wr w.heap.size w.heap.size [] (uA a out i t++Cc (kR a i t)) W1 w2:=by rw[hb];exact hw.trans (show Wr _ _ ([]++uA a out i t) _ _ _ from h2)
    have va1:=KC (KX hM).1 E.la E.a1;go_wp2_with fail;clear hw U2 x3 x4 v2 vn h2 va1
   all_goals
    clear hb
    go_loopw [36] (λ c wr=>∃ x:Nat,c = .int .i64 x/\x<=kK a/\Wr w.heap.size w.heap.size [] (uA a out i t++(Cc (kR a i t)++Dt a out i t x)) W1 wr) (λ c wr=>kK a - tN c)
    .exact⟨0,rfl,Nat.zero_le _,by simpa [Dt] using hM⟩
    clear hM
    obtain⟨x,rfl,hx,hw⟩:=hrel
    obtain⟨x3,x4⟩:=KX hw
    have lx:=Nf ha ho (i:=i) qE x hx
    have ls:(Cc (kR a i t)).length<=1:=by unfold Cc;split<;>simp
    have U2:=hw.Fi
    have v3:=KC x3 E.la E.a3
    have vn:=KC x3 E.ln E.n0
    have vo:=KC x3 E.lo E.u0
    by_cases ns:x<kK a
    .have bx:(x:Int)<a.sig.ar:=by omega
     have hgk:=ha.go (i:=i) qE ns;have UO:=E.a3h (fb a i t x) (by rw[ho.len];omega);have Au:=ho.get hgk;have Y0:=AY Au;obtain⟨ov,UQ⟩:∃ ov:Nat,out.getD (fb a i t x) 0=(ov:Int):=⟨(out.getD (fb a i t x) 0).toNat,by omega⟩;have hkx:=ZD a out i t x;rw[UQ] at UO Au Y0 hkx;have a2X:=KC x3 (hS _ E.s5) UO;have Yh:(0:Int)<=(i:Int):=by omega
     have bt0:(0:Int)<=(t:Int):=by omega
     have bt1:(t:Int)<(mK a:Int):=by omega
     have bx0:(0:Int)<=(x:Int):=by omega
     have bx1:(x:Int)<(kK a:Int):=by omega
     obtain⟨gk,MX⟩:∃ gk:Nat,fb a i t x=gk:=⟨_,rfl⟩;rw[MX] at hgk a2X;have bg0:(0:Int)<=(gk:Int):=by omega
     have bg1:(gk:Int)<((nK a+1:Nat):Int):=by omega
     have bg2:(gk:Int)<(nK a:Int)+1:=by omega
     clear UQ UO;by_cases ep:i<nK a;case' neg =>
      have Y5:nK a=gk:=by rw[<-MX,fb,a8v ep]
      clear MX;have WB:¬ (i:Int)<(nK a:Int):=by omega
      go_upto_region 16 with fail;clear Y5
     case' pos =>
      obtain⟨b3,o3,p3,b4,o4,p4,yH,YV,q1,q2,q3⟩:=E.a6M ha i t x ep qE ns;have hrw:=ha.row ep qE ns;have E9:fb a i t x=if lj a i t x<0 then nK a else (lj a i t x).toNat:=by rw[fb,a8A ep]
      obtain⟨rv,a3b⟩:∃ rv,lj a i t x=rv:=⟨_,rfl⟩;rw[a3b] at q3 hrw E9;clear a3b;have q1':=KC x3 (hS _ E.s2) q1;have q2':=KC x3 (hS _ yH) q2;have q3':=KC x3 (hS _ YV) q3;have WB:(i:Int)<(nK a:Int):=by omega
      by_cases hrv:rv<0;case' pos =>
       have Y5:nK a=gk:=by rw[<-MX,E9,a8A hrv]
       clear MX E9;go_upto_region 16 with fail;clear Y5
      case' neg =>
       have Y5:rv=(gk:Int):=by rw[<-MX,E9,a8v hrv];omega
       clear MX E9;subst Y5;have a8m:¬ (gk:Int)<0:=by omega
       go_upto_region 16 with fail
     all_goals
      have hdd:iL (ov:Int)=Lib.decDigits ov:=by simp[iL]
      rw[hdd] at Y0 hkx
      have Zl:ov<100:=by omega
      have hdc:=mY ov Zl wr
      go_wp2_with (go_at_call 83;refine hdc.mono ?_)
      try (rintro e w3 ⟨he,hw3⟩;subst he;subst w3)
      go_wp2_with (go_at_call 82;refine (ws w.heap.size w.heap.size _ _ _ U2 (by simp;omega) (by omega)).mono ?_)
      first|(rintro e w4 ⟨he,h4⟩;subst he)|(intro e w4 he h4;subst he)
      go_wp2
      refine⟨⟨x+1,by first|rfl|simp,ns,?_⟩,?_⟩
      .have h5:=hw.trans (show Wr _ _ ([]++(uA a out i t++(Cc (kR a i t)++Dt a out i t x))) _ _ _ from h4);rw[<-hkx];simpa using h5
      .simp only[tN];omega
    .have hxk:x=kK a:=by omega
     subst hxk;have bx:¬ ((kK a:Nat):Int)<a.sig.ar:=by omega
     go_wp2_with (go_at_call 82;refine (ws w.heap.size w.heap.size _ _ _ U2 (by simp;omega) (by omega)).mono ?_);first|(rintro e w4 ⟨he,h4⟩;subst he)|(intro e w4 he h4;subst he)
     go_wp2;refine⟨⟨t+1,by first|rfl|simp,qE,?_⟩,?_⟩
     .have h5:=hw.trans (show Wr _ _ ([]++(uA a out i t++(Cc (kR a i t)++Dt a out i t (kK a)))) _ _ _ from h4);rw[<-ZC,Xf];simpa using h5
     .simp only[tN];omega
 .have UO:=E.a3h i (by rw[ho.len];omega);have Au:=ho.get hi;obtain⟨ov,UQ⟩:∃ ov:Nat,out.getD i 0=(ov:Int):=⟨(out.getD i 0).toNat,by omega⟩;have WY:er a out i=iL (out.getD i 0)++[124]++uA a out i (mK a):=rfl;rw[UQ] at UO Au WY;have a2X:=KC x3 (hS _ E.s5) UO;have vo:=KC x3 E.lo E.u0;have Yh:(0:Int)<=(i:Int):=by omega
  have WB:(i:Int)<((nK a+1:Nat):Int):=by omega
  have bi2:(i:Int)<(nK a:Int)+1:=by omega
  have U0:t=mK a:=by omega
  subst U0;have hdd:iL (ov:Int)=Lib.decDigits ov:=by simp[iL]
  have Zl:ov<100:=by omega
  have bt:¬ ((mK a:Nat):Int)<bB a.sig:=by omega
  have Y0:=(AY Au).1;rw[hdd] at Y0;have lk:(uA a out i (mK a)).length<=160:=by omega
  clear UQ UO;go_wp2_with (go_at_call 83;refine (mY ov Zl _).mono ?_);try (rintro e w3 ⟨he,hw3⟩;subst he;subst w3)
  go_wp2_with (go_at_call 84;refine (Tryz.Builder_String_any w.heap.size w.heap.size _ _ U2 (by omega)).mono ?_);try (rintro e w4 ⟨he,h4⟩;subst he)
  go_wp2;go_ret;refine⟨?_,x3.trans (h4.mono (by omega))⟩;rw[WY,hdd];have hbs:(({ data:=(Lib.decDigits ov).toArray }++{ data := #[124] }++{ data:=(uA a out i (mK a)).toArray }:ByteArray))=⟨(Lib.decDigits ov++[124]++uA a out i (mK a)).toArray⟩:=by
   apply ByteArray.ext;apply b1P;simp
  exact congrArg (λ s=>Ending.returned (Value.string s)) hbs
def je(a:O)(n:Int)(out:List Int):Int->Prop×(List UInt8):=λ (i:Int)=>((cG a/\Ik a out/\n=(nK a:Int)/\0<=i/\i<=(nK a:Int)),er a out i.toNat)
def CO(a:O)(n:Int)(out:List Int)(i:Int):(je a n out i).1=(cG a/\Ik a out/\n=(nK a:Int)/\0<=i/\i<=(nK a:Int)):=rfl
def CQ(a:O)(n:Int)(out:List Int)(i:Int):(je a n out i).2=(er a out i.toNat):=rfl
def HJ:Nat×zd:=(nD,⟨[(.int .i64)], .str,[(true,(.st .automaton)),(true,(.int .i64)),(true,(.slice (.int .i64)))]⟩)
def vN:aQ:=⟨nD,[.v (.int .i64), .r (.st .automaton), .r (.int .i64), .r (.slice (.int .i64))],λ (i:Int) (a:O) (n:Int) (out:List Int)=>⟨(some (cG a/\Ik a out/\n=(nK a:Int)/\0<=i/\i<=(nK a:Int)),[⟨.str,er a out i.toNat⟩])⟩⟩
def Bf:aQ.Good vN:=by
 refine⟨aB Ej rfl (by decide),?_⟩;intro i a n out hp w S cC hS hv;match cC,hv with
 | [v1,v2,v3,v4],hv =>
  obtain⟨⟨h1,_⟩,⟨ab,ao,ca,rfl,YS,Ss,ha3⟩,⟨nb,no,cn,rfl,MZ,OJ,KP⟩,⟨ob,oo,co,rfl,ho1,ho2,ho3⟩,_⟩:=hv;obtain⟨hA,hO,rfl,Bo,hi1⟩:=hp;simp only[List.cons.injEq,and_true] at h1;subst h1;obtain⟨u1,u2,rfl,l1,l2⟩:=a0e ha3;obtain⟨b1,o1,p1,rfl,wI,r1⟩:=CB l1 (nK a) (by simp) hA.n1;obtain⟨b2,o2,p2,rfl,Bj,r2⟩:=CB l2 (nK a) (by simpa using hA.nx) hA.n1;have KP:cn=[.int .i64 (nK a:Int)]:=KP.1;subst KP;obtain⟨u3,rfl⟩:∃ u,co=[u]:=by
   obtain⟨q1,q2,q3,_⟩:=ho3;exact⟨_,q3⟩
  obtain⟨b5,o5,p5,rfl,hb5,r5⟩:=CB (Je (n:=1) ho3) (nK a+1) (by rw[a8W];exact hO.len) (by omega);obtain⟨j,rfl⟩:∃ j:Nat,i=(j:Int):=⟨i.toNat,(b2A Bo).symm⟩;refine (Xd a hA out hO j (by omega) w S hS.1 ab ao nb no ob oo b1 o1 p1 b2 o2 p2 b5 o5 p5 ⟨Ss 0 _ rfl,Ss 1 _ rfl,Ss 2 _ rfl,Ss 3 _ rfl,OJ 0 _ rfl,ho2 0 _ rfl,YS,MZ,ho1,wI,Bj,hb5,r1,r2,r5⟩).mono ?_;rintro e w' ⟨rfl,hb⟩;refine⟨_,S,_,rfl,rfl,yl hb,λ _ _=>b0G,λ b h=>a8B (hS.1 b h) hb.size,?_⟩;have:=(Nd hA hO (i:=j) (mK a) (a8C _));have:=hA.lens;have:=(AY (hO.get (show j<=nK a by omega))).1;exact Rn (w:=w') (S:=S) _ (by rw[er];simp only[a8E,a8F,a8R,a9j];omega)
end
end Go.Proofs.YtncejbehidimmaaGreatDoor

namespace Go.Proofs.YtncejbehidimmaaGreatDoor
noncomputable section
structure Am where
 n:Nat
 m:Nat
 k:Nat
 ac:Nat->Nat->Bool
 dl:Nat->Nat->Nat->Nat
structure uC(A:Am):Prop where
 sink:∀ a,A.ac A.n a=false
 stay:∀ a x,A.dl A.n a x=A.n
 le:∀ s a x,s<=A.n->A.dl s a x<=A.n
def Am.run(A:Am):Nat->List (Nat×Nat)->Nat
 | s,[]=>s
 | s,p::w=>A.run (A.dl s p.1 p.2) w
def Am.word(A:Am)(w:List (Nat×Nat)):Prop:=∀ p∈w,p.1<A.m/\p.2<A.k
def Am.same(A:Am)(s t:Nat):Prop:=∀ w a,A.word w->a<A.m->A.ac (A.run s w) a=A.ac (A.run t w) a
def Am.eqv(A:Am)(I:Nat->Nat->Prop):Nat->Nat->Nat->Prop
 | 0,s,t=>I s t
 | d+1,s,t=>A.eqv I d s t/\(∀ a,a<A.m->A.ac s a=A.ac t a)/\∀ a x,a<A.m->x<A.k->A.eqv I d (A.dl s a x) (A.dl t a x)
def Am.Oa{A:Am}{s t:Nat}(h:A.same s t){a x:Nat}(ha:a<A.m)(hx:x<A.k):A.same (A.dl s a x) (A.dl t a x):=λ w b hw hb =>
 h ((a,x)::w) b (λ p hp=>(a8G.1 hp).elim (λ e=>by rw[e];exact⟨ha,hx⟩) (hw p)) hb
structure Am.Wx(A:Am)(I:Nat->Nat->Prop)(R:Nat->Nat->Prop):Prop where
 ini:∀ s t,R s t->I s t
 acc:∀ s t,R s t->∀ a,a<A.m->A.ac s a=A.ac t a
 go:∀ s t,s<=A.n->t<=A.n->R s t->∀ a x,a<A.m->x<A.k->R (A.dl s a x) (A.dl t a x)
def Am.Wx.eqv{A:Am}(hA:uC A){I R:Nat->Nat->Prop}(h:A.Wx I R):∀ (d:Nat) {s t:Nat},s<=A.n->t<=A.n->R s t->A.eqv I d s t
 | 0,s,t,_,_,q=>h.ini s t q
 | d+1,s,t,hs,ht,q=>⟨h.eqv hA d hs ht q,h.acc s t q,λ a x ha hx=>h.eqv hA d (hA.le s a x hs) (hA.le t a x ht) (h.go s t hs ht q a x ha hx)⟩
def Am.YB{A:Am}{I:Nat->Nat->Prop}:∀ (d:Nat) {s t:Nat},A.eqv I d s t->I s t
 | 0,_,_,h=>h
 | d+1,_,_,h=>Am.YB d h.1
def Am.Pt{A:Am}(hA:uC A){I:Nat->Nat->Prop}{d:Nat}(hd:∀ s t,s<=A.n->t<=A.n->A.eqv I d s t->A.eqv I (d+1) s t):∀ (w:List (Nat×Nat)) {s t:Nat},s<=A.n->t<=A.n->A.eqv I d s t->A.word w->∀ a,a<A.m->A.ac (A.run s w) a=A.ac (A.run t w) a
 | [],s,t,hs,ht,h,_,a,ha=>(hd s t hs ht h).2.1 a ha
 | p::w,s,t,hs,ht,h,hw,a,ha=>by
  have hp:=hw p (by simp);exact Am.Pt hA hd w (hA.le s _ _ hs) (hA.le t _ _ ht) ((hd s t hs ht h).2.2 p.1 p.2 hp.1 hp.2) (λ q hq=>hw q (a9p _ hq)) a ha
def Am.Xx(A:Am):A.Wx (λ _ _=>True) A.same:=⟨λ _ _ _=>trivial,λ s t h a ha=>h [] a (λ _ hp=>by cases hp) ha,λ s t _ _ h a x ha hx=>Am.Oa h ha hx⟩
def Am.dead(A:Am)(s:Nat):Prop:=∀ w a,A.word w->a<A.m->A.ac (A.run s w) a=false
def Am.CH{A:Am}(hA:uC A):∀ w,A.run A.n w=A.n
 | []=>rfl
 | p::w=>by unfold Am.run;rw[hA.stay];exact Am.CH hA w
def Am.Pq{A:Am}(hA:uC A)(s:Nat):A.dead s↔A.same s A.n :=
 ⟨λ h w a hw ha=>by rw[h w a hw ha,Am.CH hA,hA.sink],λ h w a hw ha=>by rw[h w a hw ha,Am.CH hA,hA.sink]⟩
def pN(c:Nat->Int)(i:Nat):Bool:=(List.range i).all λ j=>decide (¬ c j=c i)
def gZ{c:Nat->Int}{i:Nat}:pN c i=true↔∀ j,j<i->¬ c j=c i:=by
 unfold pN;simp only[List.all_eq_true,List.mem_range,decide_eq_true_eq]
def nO(c:Nat->Int)(n:Nat):Nat:=((List.range n).filter (pN c)).length
def VW{p q:Nat->Bool}:∀ (l:List Nat),(∀ i∈l,p i=true->q i=true)->(l.filter p).length=(l.filter q).length->∀ i∈l,p i=q i
 | [],_,_,i,hi=>by cases hi
 | a::l,h,hl,i,hi=>by
  have hle:∀ l:List Nat,(∀ i∈l,p i=true->q i=true)->(l.filter p).length<=(l.filter q).length:=by
   intro l;induction l with
   | nil=>intro _;simp
   | cons b l ih =>
    intro h;have h2:=ih λ i hi=>h i (a9p _ hi);have h3:=h b (by simp);cases hp:p b<;>cases hq:q b<;>simp_all<;>omega
  have h2:=hle l λ i hi=>h i (a9p _ hi);have h3:=h a (by simp);have key:p a=q a/\(l.filter p).length=(l.filter q).length:=by
   cases hp:p a<;>cases hq:q a<;>simp_all<;>omega
  rcases a8G.1 hi with rfl|hi
  .exact key.1
  .exact VW l (λ i hi=>h i (a9p _ hi)) key.2 i hi
def Ro(c:Nat->Int):∀ i:Nat,∃ r,r<=i/\c r=c i/\pN c r=true:=by
 intro i;induction i using Nat.strongRecOn with
 | _ i ih =>
  cases h:pN c i with
  | true=>exact⟨i,a8C _,rfl,h⟩
  | false =>
   have:¬ ∀ j,j<i->¬ c j=c i:=λ q=>by rw[gZ.2 q] at h;cases h
   have ⟨j,hj⟩:=b0C.1 this;have ⟨hj1,hj2⟩:=b0A.1 hj;have hj2:=b0W.1 hj2;obtain⟨r,h1,h2,h3⟩:=ih j hj1;exact⟨r,by omega,h2.trans hj2,h3⟩
def Tq{c:Nat->Int}{r r':Nat}(h:pN c r=true)(h':pN c r'=true)(e:c r=c r'):r=r':=by
 rcases Nat.lt_trichotomy r r' with q|q|q
 .exact absurd e (gZ.1 h' r q)
 .exact q
 .exact absurd e.symm (gZ.1 h r' q)
def YD{c c':Nat->Int}{n:Nat}(hf:∀ s t,s<n->t<n->c' s=c' t->c s=c t)(hn:nO c n=nO c' n){s t:Nat}(hs:s<n)(ht:t<n)(h:c s=c t):c' s=c' t:=by
 have zA:∀ i∈List.range n,pN c i=true->pN c' i=true:=λ i hi hr=>gZ.2 λ j hj e=>gZ.1 hr j hj (hf j i (by have:=a9Z.1 hi;omega) (a9Z.1 hi) e);have heq:=VW (List.range n) zA hn;obtain⟨r,h1,h2,h3⟩:=Ro c' s;obtain⟨r',uw,xx,YJ⟩:=Ro c' t;have g:pN c r=true:=by rw[heq r (a9Z.2 (by omega))];exact h3
 have g':pN c r'=true:=by rw[heq r' (a9Z.2 (by omega))];exact YJ
 have e:c r=c r':=(hf r s (by omega) hs h2).trans (h.trans (hf r' t (by omega) ht xx).symm);have:=Tq g g' e;rw[<-h2,<-xx,this]
def Sh{c c':Nat->Int}{n:Nat}(hf:∀ s t,s<n->t<n->c' s=c' t->c s=c t):nO c n<=nO c' n:=by
 unfold nO;have:∀ l:List Nat,(∀ i∈l,pN c i=true->pN c' i=true)->(l.filter (pN c)).length<=(l.filter (pN c')).length:=by
  intro l;induction l with
  | nil=>intro _;simp
  | cons b l ih =>
   intro h;have h2:=ih λ i hi=>h i (a9p _ hi);have h3:=h b (by simp);cases hp:pN c b<;>cases hq:pN c' b<;>simp_all<;>omega
 exact this _ λ i hi hr=>gZ.2 λ j hj e=>gZ.1 hr j hj (hf j i (by have:=a9Z.1 hi;omega) (a9Z.1 hi) e)
def Am.alike(A:Am)(c:Nat->Int)(s t:Nat):Prop:=c s=c t/\(∀ a,a<A.m->A.ac s a=A.ac t a)/\∀ a x,a<A.m->x<A.k->c (A.dl s a x)=c (A.dl t a x)
def Am.round{A:Am}(hA:uC A){I:Nat->Nat->Prop}{d:Nat}{c c':Nat->Int}(h:∀ s t,s<=A.n->t<=A.n->(c s=c t↔A.eqv I d s t))(hr:∀ s t,s<=A.n->t<=A.n->(c' s=c' t↔A.alike c s t)) :
  ∀ s t,s<=A.n->t<=A.n->(c' s=c' t↔A.eqv I (d+1) s t):=λ s t hs ht=>by
 rw[hr s t hs ht];constructor
 .rintro⟨h1,h2,h3⟩;exact⟨(h s t hs ht).1 h1,h2,λ a x ha hx=>(h _ _ (hA.le s a x hs) (hA.le t a x ht)).1 (h3 a x ha hx)⟩
 .rintro⟨h1,h2,h3⟩;exact⟨(h s t hs ht).2 h1,h2,λ a x ha hx=>(h _ _ (hA.le s a x hs) (hA.le t a x ht)).2 (h3 a x ha hx)⟩
def Am.ended{A:Am}(hA:uC A){I R:Nat->Nat->Prop}(hR:A.Wx I R)(hI:∀ s t,s<=A.n->t<=A.n->I s t->A.same s t->R s t){d:Nat}{c c':Nat->Int}(h:∀ s t,s<=A.n->t<=A.n->(c s=c t↔A.eqv I d s t))(h':∀ s t,s<=A.n->t<=A.n->(c' s=c' t↔A.eqv I (d+1) s t))(hn:nO c (A.n+1)=nO c' (A.n+1)) :
  ∀ s t,s<=A.n->t<=A.n->((c s=c t↔R s t)/\(c' s=c' t↔R s t)):=λ s t hs ht=>by
 have bQ:∀ s t,s<=A.n->t<=A.n->A.eqv I d s t->A.eqv I (d+1) s t:=λ s t hs ht q =>
  (h' s t hs ht).1 (YD (n:=A.n+1) (λ s t hs ht e=>(h s t (by omega) (by omega)).2 ((h' s t (by omega) (by omega)).1 e).1) hn (by omega) (by omega) ((h s t hs ht).2 q))
 have key:A.eqv I d s t↔R s t:=⟨λ q=>hI s t hs ht (Am.YB d q) λ w a hw ha=>Am.Pt hA bQ w hs ht q hw a ha,λ q=>hR.eqv hA d hs ht q⟩;exact⟨(h s t hs ht).trans key,(h' s t hs ht).trans ⟨λ q=>key.1 q.1,λ q=>bQ s t hs ht (key.2 q)⟩⟩
structure Cut(A B:Am):Prop where
 n:B.n=A.n
 m:B.m=A.m
 k:B.k=A.k
 ac:∀ s a,B.ac s a=A.ac s a
 dl:∀ s a x,s<=A.n->a<A.m->x<A.k->B.dl s a x=A.dl s a x\/(B.dl s a x=A.n/\A.dead (A.dl s a x))
 live:∀ s a x,s<=A.n->a<A.m->x<A.k->B.dl s a x=A.n\/¬ A.dead (B.dl s a x)
def Am.Uk{A:Am}{s:Nat}(h:A.dead s){a x:Nat}(ha:a<A.m)(hx:x<A.k):A.dead (A.dl s a x):=λ w b hw hb =>
 h ((a,x)::w) b (λ p hp=>(a8G.1 hp).elim (λ e=>by rw[e];exact⟨ha,hx⟩) (hw p)) hb
def Cut.run{A B:Am}(hA:uC A)(hB:uC B)(h:Cut A B):∀ (w:List (Nat×Nat)) {s:Nat},s<=A.n->A.word w->∀ a,a<A.m->B.ac (B.run s w) a=A.ac (A.run s w) a
 | [],s,_,_,a,_=>h.ac s a
 | p::w,s,hs,hw,a,ha=>by
  have hp:=hw p (by simp);have xC:A.word w:=λ q hq=>hw q (a9p _ hq);show B.ac (B.run (B.dl s p.1 p.2) w) a=A.ac (A.run (A.dl s p.1 p.2) w) a;rcases h.dl s p.1 p.2 hs hp.1 hp.2 with e|⟨e,hd⟩
  .rw[e];exact h.run hA hB w (hA.le s _ _ hs) xC a ha
  .rw[e,hd w a xC ha,<-h.n,Am.CH hB,hB.sink]
def Cut.same{A B:Am}(hA:uC A)(hB:uC B)(h:Cut A B){s t:Nat}(hs:s<=A.n)(ht:t<=A.n):B.same s t↔A.same s t:=by
 have hw:∀ w,B.word w↔A.word w:=λ w=>by unfold Am.word;rw[h.m,h.k]
 constructor
 .intro q w a xC ha;rw[<-h.run hA hB w hs xC a ha,<-h.run hA hB w ht xC a ha];exact q w a ((hw w).2 xC) (by rw[h.m];exact ha)
 .intro q w a xC ha;have xC:=(hw w).1 xC;rw[h.m] at ha;rw[h.run hA hB w hs xC a ha,h.run hA hB w ht xC a ha];exact q w a xC ha
def Cut.ini{A B:Am}(hA:uC A)(hB:uC B)(h:Cut A B):B.Wx (λ s t=>(s=A.n↔t=A.n)) (λ s t=>A.same s t/\(s=A.n↔t=A.n)) where
 ini s t q:=q.2
 acc s t q a ha:=by rw[h.ac,h.ac];exact q.1 [] a (λ _ hp=>by cases hp) (by rw[<-h.m];exact ha)
 go s t hs ht q a x ha hx:=by
  rw[h.n] at hs ht;rw[h.m] at ha;rw[h.k] at hx;have h1:A.same (A.dl s a x) (A.dl t a x):=Am.Oa q.1 ha hx;have hd:A.dead (A.dl s a x)↔A.dead (A.dl t a x):=⟨λ g w b hw hb=>by rw[<-h1 w b hw hb];exact g w b hw hb,λ g w b hw hb=>by rw[h1 w b hw hb];exact g w b hw hb⟩;have dn:A.dead A.n:=(Am.Pq hA _).2 λ w a _ _=>rfl;have hS:B.dl s a x=A.n↔A.dead (A.dl s a x):=by
   rcases h.dl s a x hs ha hx with e|⟨e,g⟩
   .rw[e];exact⟨λ g=>by rw[g];exact dn,λ g=>(h.live s a x hs ha hx).elim (λ g=>by rw[<-e];exact g) (λ g2=>absurd (by rw[e];exact g) g2)⟩
   .exact⟨λ _=>g,λ _=>e⟩
  have hT:B.dl t a x=A.n↔A.dead (A.dl t a x):=by
   rcases h.dl t a x ht ha hx with e|⟨e,g⟩
   .rw[e];exact⟨λ g=>by rw[g];exact dn,λ g=>(h.live t a x ht ha hx).elim (λ g=>by rw[<-e];exact g) (λ g2=>absurd (by rw[e];exact g) g2)⟩
   .exact⟨λ _=>g,λ _=>e⟩
  refine⟨?_,hS.trans (hd.trans hT.symm)⟩;rcases h.dl s a x hs ha hx with e|⟨e,g⟩
  .rcases h.dl t a x ht ha hx with e'|⟨e',g'⟩
   .rw[e,e'];exact h1
   .rw[hS.2 (hd.2 g'),e'];exact λ w a _ _=>rfl
  .rw[e,hT.2 (hd.1 g)];exact λ w a _ _=>rfl
def Xh{A:Am}(hA:uC A){L:Nat->Prop}(h1:∀ s,s<=A.n->L s->¬ A.dead s)(h2:∀ s,s<=A.n->(∃ a,a<A.m/\A.ac s a=true)->L s)(h3:∀ s a x,s<=A.n->a<A.m->x<A.k->L (A.dl s a x)->L s){s:Nat}(hs:s<=A.n):L s↔¬ A.dead s:=by
 refine⟨h1 s hs,λ h=>?_⟩;have key:∀ (w:List (Nat×Nat)) (s:Nat),s<=A.n->A.word w->(∃ a,a<A.m/\A.ac (A.run s w) a=true)->L s:=by
  intro w;induction w with
  | nil=>intro s hs _ ha;exact h2 s hs ha
  | cons p w ih =>
   intro s hs hw ha;have hp:=hw p (by simp);exact h3 s p.1 p.2 hs hp.1 hp.2 (ih _ (hA.le s _ _ hs) (λ q hq=>hw q (a9p _ hq)) ha)
 have ⟨w,hw⟩:=b0C.1 h;have ⟨a,ha⟩:=b0C.1 hw;have ⟨h4,h5⟩:=b0A.1 ha;have ⟨h6,h7⟩:=b0A.1 h5;exact key w s hs h4 ⟨a,h6,by cases hq:A.ac (A.run s w) a<;>simp_all⟩
def OY{A:Am}{s a:Nat}(ha:a<A.m)(h:A.ac s a=true):¬ A.dead s:=λ g=>by
 have:=g [] a (λ _ hp=>by cases hp) ha;have h2:A.ac s a=false:=this;rw[h] at h2;cases h2
def NP{A:Am}{s a x:Nat}(ha:a<A.m)(hx:x<A.k)(h:¬ A.dead (A.dl s a x)):¬ A.dead s:=λ g=>h (Am.Uk g ha hx)
def lZ(a:O):Am:=⟨nK a,mK a,kK a,kR a,fb a⟩
def yh{a:O}(h:cG a):uC (lZ a):=by
 refine⟨λ t=>?_,λ t x=>?_,λ s t x hs=>?_⟩
 .show kR a (nK a) t=false;unfold kR;rw[decide_eq_false (by omega)];rfl
 .show fb a (nK a) t x=nK a;unfold fb;rw[if_neg (by omega)]
 .show fb a s t x<=nK a;by_cases hx:t<mK a/\x<kK a
  .exact h.go hx.1 hx.2
  .unfold fb;split
   .rename_i UY;have hz:lj a s t x=0:=by
     unfold lj;by_cases ht:t<mK a
     .have:=h.NL UY ht;rw[a8D,b0w (by omega)];rfl
     .have:=(h.wU UY).2;rw[show (a.next.getD s []).getD t []=[] from by rw[a8D,b0w (by omega)];rfl];rfl
    rw[hz];simp
   .omega
def KL(a:O)(out:List Int):Nat->List (List UInt8)
 | 0=>[er a out (nK a)]
 | j+1=>if er a out j∈KL a out j then KL a out j else KL a out j++[er a out j]
def nt(L:List (List UInt8))(k:List UInt8):Nat:=L.findIdx λ y=>decide (y=k)
def oS(L:List (List UInt8))(t:List UInt8):Option Int:=if nt L t<L.length then some (nt L t:Int) else none
def tG{L:List (List UInt8)}{k:List UInt8}:nt L k<L.length↔k∈L:=by
 unfold nt;rw[List.findIdx_lt_length];constructor
 .rintro⟨y,hy,h⟩;rw[<-a8U h];exact hy
 .intro h;exact⟨k,h,by simp⟩
def Q2{L M:List (List UInt8)}{k:List UInt8}(h:k∈L):nt (L++M) k=nt L k:=by
 have:=tG.2 h;unfold nt at this ⊢;rw[List.findIdx_append,if_pos this]
def a1K{L:List (List UInt8)}{k l:List UInt8}(hk:k∈L)(h:nt L k=nt L l):k=l:=by
 have h1:=tG.2 hk;have h2:nt L l<L.length:=by omega
 have e1:decide (L[nt L k]=k)=true:=b1g (p:=λ y=>decide (y=k)) (w:=h1);have e2:decide (L[nt L l]=l)=true:=b1g (p:=λ y=>decide (y=l)) (w:=h2);have e3:L[nt L k]=L[nt L l]:=by simp[h]
 rw[<-a8U e1,e3,a8U e2]
def a6K(k:List UInt8):fK (gV (List UInt8) Int) k (0:Int)=oS [k]:=by
 funext t;by_cases h:t=k
 .subst h;rw[gu];simp[oS,nt]
 .rw[eL _ _ _ h];have h':¬ k=t:=λ e=>h e.symm;simp[gV,oS,nt,b0c,h']
def a6L{L:List (List UInt8)}{k:List UInt8}(hk:¬ k∈L):fK (oS L) k (L.length:Int)=oS (L++[k]):=by
 have hl:¬ nt L k<L.length:=λ q=>hk (tG.1 q);funext t;by_cases ht:t=k
 .subst ht;rw[gu];unfold nt at hl;unfold oS nt;have hle:(L.findIdx λ y=>decide (y=t))<=L.length:=List.findIdx_le_length;rw[List.findIdx_append,if_neg hl];simp
 .rw[eL _ _ _ ht];by_cases hm:t∈L
  .unfold oS;rw[Q2 hm,if_pos (tG.2 hm),if_pos (by have:=tG.2 hm;simp;omega)]
  .unfold oS;rw[if_neg (λ q=>hm (tG.1 q)),if_neg];rw[tG];simp[hm,ht]
def NH{L:List (List UInt8)}{k:List UInt8}:(oS L k).isSome=true↔k∈L:=by
 unfold oS;rw[<-tG];split<;>simp_all
def NG{L:List (List UInt8)}{k:List UInt8}(h:(oS L k).isSome=false):¬ k∈L:=λ q=>by
 rw[NH.2 q] at h;cases h
def a1S{L:List (List UInt8)}{k:List UInt8}(h:k∈L):(oS L k).getD (0:Int)=(nt L k:Int):=by
 unfold oS;rw[if_pos (tG.2 h)];rfl
def a1T{L:List (List UInt8)}{k:List UInt8}(h:¬ k∈L):gB (oS L k) L.length=(L++[k]).length:=by
 unfold oS;rw[if_neg (λ q=>h (tG.1 q))];simp[gB]
def XX(a:O)(out:List Int)(j:Nat):er a out j∈KL a out (j+1):=by
 unfold KL;split
 .assumption
 .simp
def a2f{a:O}{out:List Int}{j:Nat}(h:er a out j∈KL a out j):KL a out j=KL a out (j+1):=by
 rw[KL,a8A h]
def a5j{a:O}{out:List Int}{j:Nat}(h:¬ er a out j∈KL a out j):KL a out j++[er a out j]=KL a out (j+1):=by
 rw[KL,a8v h]
def Lz(a:O)(out:List Int)(j:Nat):∀ i,∃ M,KL a out (j+i)=KL a out j++M
 | 0=>⟨[],by simp⟩
 | i+1=>by
  obtain⟨M,hM⟩:=Lz a out j i;rw[<-b0z,KL];split
  .exact⟨M,hM⟩
  .exact⟨M++[er a out (j+i)],by rw[hM,a8Y]⟩
def a3A(a:O)(out:List Int){i j:Nat}(h:i<j):er a out i∈KL a out j:=by
 obtain⟨M,hM⟩:=Lz a out (i+1) (j - (i+1));rw[show i+1+(j - (i+1))=j by omega] at hM;rw[hM];exact a9Y _ (XX a out i)
def XW(a:O)(out:List Int)(j:Nat):er a out (nK a)∈KL a out j/\nt (KL a out j) (er a out (nK a))=0/\1<=(KL a out j).length:=by
 obtain⟨M,hM⟩:=Lz a out 0 j;rw[a9I] at hM;have h0:er a out (nK a)∈KL a out 0:=by simp[KL]
 rw[hM];refine⟨a9Y _ h0,?_,by simp[KL]⟩;rw[Q2 h0];simp[KL,nt]
def LX(a:O)(out:List Int):∀ j,(KL a out j).length<=j+1
 | 0=>by simp[KL]
 | j+1=>by
  have:=LX a out j;rw[KL];split
  .omega
  .simp;omega
def Dz(a:O)(out:List Int)(j:Nat):List Int:=(List.range (nK a+1)).map λ i=>if i<j then (nt (KL a out (nK a)) (er a out i):Int) else 0
def Tf(a:O)(out:List Int)(j:Nat):(Dz a out j).length=nK a+1:=by simp[Dz]
def a4G(a:O)(out:List Int):List.replicate (nK a+1) (0:Int)=Dz a out 0:=by
 unfold Dz;apply List.ext_getElem (by simp);intro i h1 h2;simp
def a4H{a:O}{out:List Int}{j:Nat}(hj:j<nK a):(Dz a out j).set j (nt (KL a out (j+1)) (er a out j):Int)=Dz a out (j+1):=by
 obtain⟨M,hM⟩:=Lz a out (j+1) (nK a - (j+1));rw[show j+1+(nK a - (j+1))=nK a by omega] at hM;have e:nt (KL a out (nK a)) (er a out j)=nt (KL a out (j+1)) (er a out j):=by rw[hM,Q2 (XX a out j)]
 unfold Dz;apply List.ext_getElem (by simp);intro i h1 h2;simp only[List.getElem_set,List.getElem_map,List.getElem_range];by_cases nQ:j=i
 .subst nQ;rw[a8A rfl,a8A (by omega),e]
 .rw[a8v nQ];by_cases hi:i<j
  .rw[a8A hi,a8A (by omega)]
  .rw[a8v hi,a8v (by omega)]
abbrev y6(a:O)(out:List Int):List Int:=Dz a out (nK a)
abbrev yx(a:O)(out:List Int):Nat:=(KL a out (nK a)).length
def Mn(a:O):Nat->List Int->Nat->List Int
 | 0,out,_=>out
 | f+1,out,count=>if yx a out=count then y6 a out else Mn a f (y6 a out) (yx a out)
def aN(a:O):List Int:=Mn a 70 (List.replicate (nK a+1) (0:Int)) 0
def Tm{a:O}{out:List Int}{i:Nat}(hi:i<=nK a):(y6 a out).getD i 0=if i<nK a then (nt (KL a out (nK a)) (er a out i):Int) else 0:=by
 unfold y6 Dz;rw[List.getD_eq_getElem?_getD,List.getElem?_map,List.getElem?_range (by omega)];rfl
def Tn{a:O}{out:List Int}{i:Nat}(hi:i<=nK a):(y6 a out).getD i 0=(nt (KL a out (nK a)) (er a out i):Int):=by
 rw[Tm hi];by_cases h:i<nK a
 .rw[a8A h]
 .rw[a8v h,show i=nK a by omega,(XW a out (nK a)).2.1];rfl
def P8(a:O)(out:List Int){i:Nat}(hi:i<=nK a):er a out i∈KL a out (nK a):=by
 rcases a8Q i (nK a) with h|h
 .exact a3A a out h
 .rw[show i=nK a by omega];exact (XW a out _).1
def We{a:O}{out:List Int}{i j:Nat}(hi:i<=nK a)(hj:j<=nK a):(y6 a out).getD i 0=(y6 a out).getD j 0↔er a out i=er a out j:=by
 rw[Tn hi,Tn hj];constructor
 .intro h;exact a1K (P8 a out hi) (by omega)
 .intro h;rw[h]
def Wf{a:O}(h:cG a)(out:List Int):Ik a (y6 a out):=by
 refine⟨Tf a out _,λ v hv=>?_⟩;unfold y6 Dz at hv;obtain⟨i,hi,rfl⟩:=List.mem_map.1 hv;have hi:=List.mem_range.1 hi;split
 .have:=tG.2 (P8 a out (show i<=nK a by omega));have:=LX a out (nK a);have h6:nK a<=60:=h.n60;omega
 .omega
def Vp{a:O}(h:cG a){out:List Int}(ho:Ik a out){i j:Nat}(hi:i<=nK a)(hj:j<=nK a):(y6 a out).getD i 0=(y6 a out).getD j 0↔(lZ a).alike (λ s=>out.getD s 0) i j:=by
 rw[We hi hj];constructor
 .intro e;obtain⟨h1,h2⟩:=key_inj h ho hi hj e;exact⟨h1,λ t ht=>(h2 t ht).1,λ t x ht hx=>(h2 t ht).2 x hx⟩
 .rintro⟨h1,h2,h3⟩;exact a1M ⟨h1,λ t ht=>⟨h2 t ht,λ x hx=>h3 t x ht hx⟩⟩
def Ym{α:Type}{c:Nat->Int}{N:Nat}{f:Nat->α}{L:List α}(hL:L.Nodup)(h1:∀ i,i<N->f i∈L)(h2:∀ y∈L,∃ i,i<N/\f i=y)(h3:∀ i j,i<N->j<N->(c i=c j↔f i=f j)):nO c N=L.length:=by
 unfold nO;have hR:∀ i∈(List.range N).filter (pN c),i<N/\pN c i=true:=λ i hi=>by
  rw[a9z,a9Z] at hi;exact hi
 have cX:(((List.range N).filter (pN c)).map f).Nodup:=by
  unfold List.Nodup;rw[List.pairwise_map];have hp:=(List.nodup_range (n:=N)).filter (pN c);refine List.Pairwise.imp_of_mem (λ {i j} hi hj nQ e=>?_) hp;obtain⟨i1,i2⟩:=hR i hi;obtain⟨j1,j2⟩:=hR j hj;exact nQ (Tq i2 j2 ((h3 i j i1 j1).2 e))
 apply b2g
 .have:=cX.length_le_of_subset (l₂:=L) (λ y hy=>by
   obtain⟨i,hi,rfl⟩:=a8w.1 hy;exact h1 i (hR i hi).1)
  simpa using this
 .have:=hL.length_le_of_subset (l₂:=((List.range N).filter (pN c)).map f) (λ y hy=>by
   obtain⟨i,hi,rfl⟩:=h2 y hy;obtain⟨r,r1,r2,r3⟩:=Ro c i;refine a8w.2 ⟨r,?_,(h3 r i (by omega) hi).1 r2⟩;rw[a9z,a9Z];exact⟨by omega,r3⟩)
  simpa using this
def Ih(a:O)(out:List Int):∀ j,(KL a out j).Nodup
 | 0=>by simp[KL]
 | j+1=>by
  rw[KL];split
  .exact Ih a out j
  .rename_i h;refine b1t.2 ⟨Ih a out j,by simp,λ x hx y hy=>?_⟩;rw[a8L] at hy;subst hy;exact λ e=>h (e ▸ hx)
def LW(a:O)(out:List Int):∀ j,j<=nK a->∀ y∈KL a out j,∃ i,i<nK a+1/\er a out i=y
 | 0,_,y,hy=>by
  simp only[KL,a8L] at hy;exact⟨nK a,by omega,hy.symm⟩
 | j+1,hj,y,hy=>by
  rw[KL] at hy;split at hy
  .exact LW a out j (by omega) y hy
  .rcases a8t.1 hy with q|q
   .exact LW a out j (by omega) y q
   .rw[a8L] at q;exact⟨j,by omega,q.symm⟩
def Qm(a:O)(out:List Int):nO (λ s=>(y6 a out).getD s 0) (nK a+1)=yx a out :=
 Ym (f:=er a out) (Ih a out _) (λ i hi=>P8 a out (by omega)) (LW a out _ (a8C _)) λ i j hi hj=>We (by omega) (by omega)
structure CP(a:O)(d:Nat)(out:List Int)(count:Nat):Prop where
 ok:cG a
 eq:Mn a (70 - d) out count=aN a
 dc:d<=count
 cn:count<=61
 o:Ik a out
 Lk:∀ s t,s<=nK a->t<=nK a->(out.getD s 0=out.getD t 0↔(lZ a).eqv (λ _ _=>True) d s t)
 aZ:d=0/\count=0\/count=nO (λ s=>out.getD s 0) (nK a+1)
 z:out.getD (nK a) 0=0
def HN(n i:Nat):(List.replicate n (0:Int)).getD i 0=0:=by
 rw[a8D,b2e];split<;>rfl
def CP.first{a:O}(h:cG a):CP a 0 (List.replicate (nK a+1) (0:Int)) 0 :=
 ⟨h,rfl,a8C _,by omega,⟨by simp,λ v hv=>by rw[b1U hv];omega⟩,λ s t _ _=>by rw[HN,HN];exact⟨λ _=>trivial,λ _=>rfl⟩, .inl ⟨rfl,rfl⟩,HN _ _⟩
def CP.Nt{a:O}{d:Nat}{out:List Int}{count:Nat}(h:CP a d out count):∀ s t,s<=nK a->t<=nK a->((y6 a out).getD s 0=(y6 a out).getD t 0↔(lZ a).eqv (λ _ _=>True) (d+1) s t) :=
 Am.round (yh h.ok) h.Lk λ _ _ hs ht=>Vp h.ok h.o hs ht
def a0d(a:O)(out:List Int):(y6 a out).getD (nK a) 0=0:=by rw[Tm (a8C _),a8v (by omega)]
def CP.up{a:O}{d:Nat}{out:List Int}{count:Nat}(h:CP a d out count):count<=yx a out:=by
 rcases h.aZ with ⟨_,e⟩|e
 .omega
 .rw[e,<-Qm];exact Sh λ s t hs ht q=>(h.Lk s t (by omega) (by omega)).2 ((h.Nt s t (by omega) (by omega)).1 q).1
def CP.next{a:O}{d:Nat}{out:List Int}{count:Nat}(h:CP a d out count)(hn:¬ yx a out=count):CP a (d+1) (y6 a out) (yx a out):=by
 have:=h.up;have:=h.dc;have:=h.cn;have hl:yx a out<=nK a+1:=LX a out (nK a);have h6:nK a<=60:=h.ok.n60;refine⟨h.ok,?_,by omega,by omega,Wf h.ok out,h.Nt, .inr (Qm a out).symm,a0d a out⟩;rw[<-h.eq,show 70 - d=(70 - (d+1))+1 by omega,Mn,a8v hn]
def CP.less{a:O}{d:Nat}{out:List Int}{count:Nat}(h:CP a d out count)(hn:¬ yx a out=count):70 - yx a out<70 - count:=by
 have:=h.up;have:=h.cn;have hl:yx a out<=nK a+1:=LX a out (nK a);have h6:nK a<=60:=h.ok.n60;omega
structure XS(a:O)(out:List Int):Prop where
 o:Ik a out
 Lk:∀ s t,s<=nK a->t<=nK a->(out.getD s 0=out.getD t 0↔(lZ a).same s t)
 z:out.getD (nK a) 0=0
def CP.done{a:O}{d:Nat}{out:List Int}{count:Nat}(h:CP a d out count)(hn:yx a out=count):y6 a out=aN a/\XS a (y6 a out):=by
 have hp:1<=yx a out:=(XW a out (nK a)).2.2;have h1:=h.dc;have h2:=h.cn;refine⟨?_,Wf h.ok out,?_,a0d a out⟩
 .rw[<-h.eq,show 70 - d=(70 - (d+1))+1 by omega,Mn,a8A hn]
 .rcases h.aZ with ⟨_,e⟩|e
  .omega
  .intro s t hs ht;exact (Am.ended (yh h.ok) (Am.Xx (lZ a)) (λ _ _ _ _ _ q=>q) h.Lk h.Nt (by show nO _ (nK a+1)=nO _ (nK a+1);rw[Qm,hn,e]) s t hs ht).2
def R3{a:O}(h:cG a):∀ (f d:Nat) (out:List Int) (count:Nat),62<=f+count->CP a d out count->XS a (aN a)
 | 0,d,out,count,hf,hc=>by have:=hc.cn;omega
 | f+1,d,out,count,hf,hc=>by
  by_cases hn:yx a out=count
  .have:=hc.done hn;rw[<-this.1];exact this.2
  .exact R3 h f (d+1) _ _ (by have:=hc.up;omega) (hc.next hn)
def Gr{a:O}(h:cG a):XS a (aN a):=R3 h 62 0 _ 0 (a8C _) (CP.first h)
structure RP where
 d:Nat
 out:List Int
 count:Nat
def a4O(n:Nat)(z:Int):List.replicate (Int.toNat ((n:Int)+1)) z=List.replicate (n+1) z:=by rw[show Int.toNat ((n:Int)+1)=n+1 by omega]
def a1J{a:O}{out:List Int}{j:Nat}:(oS (KL a out (j+1)) (er a out j)).getD (0:Int)=(nt (KL a out (j+1)) (er a out j):Int):=a1S (XX a out j)
def XV(a:O)(h:cG a)(out:List Int)(j:Nat)(hj:j<=nK a):(KL a out j).length<=61:=by
 have:=LX a out j;have h6:nK a<=60:=h.n60;omega
def zH:aQ:=⟨zT,[.v (.st .automaton)],λ (a:O)=>⟨(some (cG a),[⟨(.slice (.int .i64)),aN a⟩])⟩⟩
def KW(a:O):Nat->aG:=(dU 0 (.mk (RP) (λ v=>CP a v.d v.out v.count) (λ v=>70 - v.count) [] [0,13,14,15,16,17,18] (λ v=>[(5, .aK ⟨(.int .i64),((v.count:Int):Int)⟩)]) [3] (λ v=>[(4, .box [.row 5000]),(5000, .row eK (.int .i64) (v.out:List Int))]) [(5000,18)] [(5000,22)] (λ v=>(dU 2 (.mk (Nat) (λ j=>j<=nK a) (λ j=>nK a - j) [] [19,20,21,22,23,24,25,26,27] (λ j=>[(29, .aK ⟨(.int .i64),((j:Int):Int)⟩),(7, .row 22),(6, .mp 19)]) [3,4,5000] (λ j=>[(22, .row eK (.int .i64) (Dz a v.out j:List Int)),(19, .map ⟨.str,(.int .i64),(oS (KL a v.out j):List UInt8->Option Int),((KL a v.out j).length)⟩)]) [] [] (λ j=>(dU 100015 (.u (j<nK a) [30,31,32,33,34] [(6, .mp 19)] [3,4,22,5000] [(19, .map ⟨.str,(.int .i64),(oS (KL a v.out (j+1)):List UInt8->Option Int),((KL a v.out (j+1)).length)⟩)] cf) cf))) cf))) cf)
abbrev u7(a:O)(v1:RP)(j2:Nat):Prop:=(let v2:=(a.accept.length:Int);let v0:=((je a v2 v1.out) (j2:Int)).2;(a=a/\(True/\(True/\((v1.count:Int)=(v1.count:Int)/\(True/\(True/\((a=a/\(True/\(True/\True)))/\((j2:Int)=(j2:Int)/\(v0=v0/\(v2=v2/\((j2:Int)=(j2:Int)/\True))))))))))))
abbrev u9(a:O)(v1:RP)(j2:Nat):Prop:=((Dz a v1.out j2)=(Dz a v1.out j2)/\((True/\True)/\(v1.out=v1.out/\((((a.accept.length:Int))=((a.accept.length:Int))/\True)/\True))))
def EN:aQ.Good zH:=by
 refine⟨aB wX,?_⟩;intro (a:O) (hp:cG a);refine aP [vN] [] [HJ] [1] ⟨Bf,ae⟩ wX Em (KW a) (let v0:=(a.accept.length:Int);let v2:=v0+(1:Int);let v4:=(v0=v0/\True)/\True;let v5:=True/\True;let v7:=(0:Int);let v6:=List.replicate (Int.toNat v2) v7;((a.accept.length<=140737488355328->(ai v0->(ai v0->(ai v2/\(cB v2 v2 8/\((∃ v1:RP,(CP a v1.d v1.out v1.count/\((a=a/\(True/\(True/\(v7=(v1.count:Int)/\True))))/\(v5/\(v6=v1.out/\v4)))))/\(∀ v1:RP,let v8:=je a v0 v1.out;let v9:=(v1.count:Int);let va:=v5/\(v1.out=v1.out/\v4);(CP a v1.d v1.out v1.count->(ai v0->(ai v2/\(cB v2 v2 8/\(ai v0->((v8 v0).1/\(((v8 v0).2).length<=140737488355328->(0<1000000000/\(ai v0->((∃ j2:Nat,(j2<=nK a/\((a=a/\(True/\(True/\(v9=v9/\(True/\(True/\((a=a/\(True/\v5))/\(v0=v0/\(v7=(j2:Int)/\True)))))))))/\(v6=(Dz a v1.out j2)/\(((fK (gV (List UInt8) Int) ((v8 v0).2) v7)=(oS (KL a v1.out j2))/\(gB (((gV (List UInt8) Int) ((v8 v0).2))) 0)=((KL a v1.out j2).length))/\va)))))/\(∀ j2:Nat,let vd:=KL a v1.out (j2+1);let ve:=KL a v1.out j2;let vb:=(((ve.length):Nat):Int);let vf:=(j2:Int);let vc:=((oS ve) ((v8 vf).2));let vg:=Dz a v1.out j2;(j2<=nK a->(((decide (vf<v0))=true->((v8 vf).1/\(((v8 vf).2).length<=140737488355328->((ai (Option.getD vc v7)->(((!(Option.isSome vc))=true->(ai vb->((ve.length)<1000000000/\(∃ u3:Unit,(j2<nK a/\((u7 a v1 j2)/\(((fK (oS ve) ((v8 vf).2) vb)=(oS vd)/\(gB vc (ve.length))=(vd.length))/\(u9 a v1 j2))))))))/\((!(Option.isSome vc))=false->(∃ u3:Unit,(j2<nK a/\((u7 a v1 j2)/\(((oS ve)=(oS vd)/\(ve.length)=(vd.length))/\(u9 a v1 j2))))))))/\(∀ u3:Unit,(j2<nK a->(av vf vg.length/\(ai (vf+(1:Int))/\(∃ j4:Nat,(j4<=nK a/\(nK a - j4<nK a - j2/\((a=a/\(True/\(True/\(v9=v9/\(True/\(True/\((a=a/\(True/\v5))/\(v0=v0/\((vf+(1:Int))=(j4:Int)/\True)))))))))/\((vg.set j2 (Option.getD (((oS vd) ((v8 vf).2))) v7))=(Dz a v1.out j4)/\(((oS vd)=(oS (KL a v1.out j4))/\(vd.length)=((KL a v1.out j4).length))/\va))))))))))))))/\((decide (vf<v0))=false->(ai vb->(((decide (vb=v9))=true->vg=(aN a))/\((decide (vb=v9))=false->(ai vb->(∃ v3:RP,(CP a v3.d v3.out v3.count/\(70 - v3.count<70 - v1.count/\((a=a/\(True/\(True/\(vb=(v3.count:Int)/\True))))/\(v5/\(vg=v3.out/\v4))))))))))))))))))))))))))))))))) ?_;have h6:a.accept.length<=60:=hp.n60;have h7:∀ (out:List Int) (j:Nat),j<=nK a->(KL a out j).length<=61:=XV a hp;have h8:nK a=a.accept.length:=rfl;refine λ _ _ _=>⟨?_,?_,⟨(RP.mk 0 (List.replicate (nK a+1) (0:Int)) 0),?_,⟨rfl,ae,ae,?_,ae⟩,⟨ae,ae⟩,?_,⟨rfl,ae⟩,ae⟩,λ v1 _ _=>⟨?_,?_,λ _=>⟨?_,λ _=>⟨?_,λ _=>⟨⟨0,?_,⟨rfl,ae,ae,rfl,ae,ae,⟨rfl,ae,ae,ae⟩,rfl,?_,ae⟩,?_,⟨?_,?_⟩,⟨ae,ae⟩,rfl,⟨rfl,ae⟩,ae⟩,λ j2 _=>⟨λ _=>⟨?_,λ _=>⟨λ _=>⟨λ _ _=>⟨?_,(),?_,⟨rfl,ae,ae,rfl,ae,ae,⟨rfl,ae,ae,ae⟩,rfl,rfl,rfl,rfl,ae⟩,⟨?_,?_⟩,rfl,⟨ae,ae⟩,rfl,⟨rfl,ae⟩,ae⟩,λ _=>⟨(),?_,⟨rfl,ae,ae,rfl,ae,ae,⟨rfl,ae,ae,ae⟩,rfl,rfl,rfl,rfl,ae⟩,⟨?_,?_⟩,rfl,⟨ae,ae⟩,rfl,⟨rfl,ae⟩,ae⟩⟩,λ u3 _=>⟨?_,?_,j2+1,?_,?_,⟨rfl,ae,ae,rfl,ae,ae,⟨rfl,ae,ae,ae⟩,rfl,?_,ae⟩,?_,⟨?_,?_⟩,⟨ae,ae⟩,rfl,⟨rfl,ae⟩,ae⟩⟩⟩,λ _ _=>⟨λ _=>?_,λ _ _=>⟨(RP.mk (v1.d+1) (y6 a v1.out) (yx a v1.out)),?_,?_,⟨rfl,ae,ae,?_,ae⟩,⟨ae,ae⟩,?_,⟨rfl,ae⟩,ae⟩⟩⟩⟩⟩⟩⟩⟩;all_goals try and_intros
 all_goals (try simp only[CO,CQ,a9j,a8S,a9b,a8z,a8y,av,ai,cB,Tf,a4O] at *);first|done|with_reducible assumption|omega|with_reducible rfl|exact trivial|exact CP.first (by with_reducible assumption)|exact CP.next (by with_reducible assumption) (by omega)|exact CP.less (by with_reducible assumption) (by omega)|exact (CP.done (by with_reducible assumption) (by omega)).1|exact a4G _ _|exact a6K _|(simp[gB,gV,KL];done)|exact⟨CP.ok (by with_reducible assumption),CP.o (by with_reducible assumption),rfl,by omega,by omega⟩|exact CP.ok (by with_reducible assumption)|exact CP.o (by with_reducible assumption)|(rw[<-a5j (NG (by with_reducible assumption))];first|done|exact a6L (NG (by with_reducible assumption))|exact a1T (NG (by with_reducible assumption)))|(rw[<-a2f (NH.1 (by with_reducible assumption))];done)|(rw[<-a2f (NH.1 (by with_reducible assumption))];first|rfl|assumption)|(rw[a1J];first|done|exact a4H (by omega))|exact Nat.lt_of_le_of_lt (XV a ‹cG a› _ _ (by simp only[nK] at *;first|done|omega)) (by omega)|(simp only[nK,yx] at *;first|done|omega)|(obtain rfl:j2=nK a:=(by simp only[nK] at *;first|done|omega);first|rfl|exact (CP.done (by with_reducible assumption) (by simp only[nK,yx] at *;first|done|omega)).1|exact CP.next (by with_reducible assumption) (by simp only[nK,yx] at *;first|done|omega)|exact CP.less (by with_reducible assumption) (by simp only[nK,yx] at *;first|done|omega)|(simp only[yx];done))
open Go.RowKit Go.Proofs
set_option maxRecDepth 100000 in
def Ql(i0:TypeInfo)(z:Value)(bytes:Nat)(hi:prog.info? 4=some i0)(KS:i0.zero=some z)(IQ:i0.size=1)(Hi:i0.bytes=bytes)(IS:z.cells.size=1)
  (a:Addr) (n c:Nat) (news:List Value) (w:World) (hl:news.length=n * 1) (hn:n<=maxLen) (Sv:n * bytes<=140737488355328)
  (hc:∀ j u,news[j]?=some u->w.cell? (a.add j)=some u) (h1:∀ u∈news,u.oneCell'=true) :
  Calls prog dS #[.slice (some a) n c] w λ e w'=>∃ v',e = .returned v'/\w'.ownsRow w.heap.size 4 1 v' n news/\Below w.heap.size w w':=by
 have t22:prog.underlying 69=some (.slice 4):=by kernel_rfl
 have q22:∀ (w:World) (a:Option Addr) (n c n' c':Nat),(binOp .eql 69 (.slice a n c) (.slice none n' c')).run prog w = .ok (.bool a.isNone) w:=λ w a n c n' c'=>b2o w _ _ a n c n' c' t22;have u22:∀ w,Sem.run prog (underlying 69) w = .ok (TypeDesc.slice 4) w:=a9g t22;have z23:∀ w,(Go.sizeOf 4).run prog w = .ok 1 w:=λ w=>by simp[Go.sizeOf,typeInfo,hi,IQ,Result.andThen]
 have A:Aside (∀ j u,news[j]?=some u->w.cell? (a.add j)=some u):=hc;clear hc;go_enter Tryz.func54,Tryz.ntmps54;go_wp2_with (at_builtin;refine b0V _ rfl _ _ 69 rfl w.heap.size 4 i0 z 1 bytes t22 hi KS IQ Hi IS (by decide) _ _ _ rfl (b0v w #[] 0 (a8C _) (a9l _) (by simp)) a n c news rfl ?qc1 ?qc2 ?qc3 ?qc4 ?qc5 ?qc6 ?_);case qc1=>exact hl
 case qc2 =>
  intro j u hj;exact b1y _ (A.out j u hj)
 case qc3=>exact h1
 case qc4=>rw[a9I];exact hn
 case qc5=>rw[a9I];exact Sv
 case qc6=>simp
 intro v' w1 dk cU gO;go_wp2;go_ret;refine⟨v',rfl,by simpa using dk,?_⟩;exact ((Below.refl _ w).alloc (Nat.le_refl _) _).grown cU (by simp) (by intro k hk;simp[Value.ownBlock] at hk;omega)
def R5(n c:Nat)(w:World):Calls prog dS #[.slice none n c] w λ e w'=>e = .returned (.slice none 0 0)/\w'=w:=by
 have t22:prog.underlying 69=some (.slice 4):=by kernel_rfl
 have q22:∀ (w:World) (a:Option Addr) (n c n' c':Nat),(binOp .eql 69 (.slice a n c) (.slice none n' c')).run prog w = .ok (.bool a.isNone) w:=λ w a n c n' c'=>b2o w _ _ a n c n' c' t22;go_enter Tryz.func54,Tryz.ntmps54;go_wp2;go_ret;exact⟨rfl,rfl⟩
def R6(xs:List Bool)(hx:xs.length<=1048576):sC prog dS [.val ⟨.slice .bool,xs⟩] [⟨.slice .bool,xs⟩]:=by
 intro w S cC fa hS ha _ _ _;match cC,ha with
 | [v],⟨f1,f2,e0,⟨e1,h1⟩,e2⟩ =>
  have e2:f2=[]:=e2;subst e1 e2;have e0:fa=[]:=e0;subst e0;have h1:Rd w S (.slice 1 (xs.map Ty.bool.aD)) [v]:=h1;obtain⟨a,c,e,h2,h3,h4,h5⟩:=id h1;simp only[a8x,a8T] at e;rw[show (List.map Ty.bool.aD xs).length=xs.length from a8W _] at e h2;subst e;have QR:∀ d∈xs.map Ty.bool.aD,d.light=true:=λ d hd=>by obtain⟨y,_,rfl⟩:=a8w.1 hd;rfl
  have done:∀ (v:Value) (w':World) (l:List Value),w'.ownsRow w.heap.size 4 1 v xs.length l->Below w.heap.size w w'->cP w S (xs.map Ty.bool.aD) l->∃ x fp,Ending.returned v = .returned x/\bH (λ b=>b∈([]:List Nat)) w w'/\AF w' [⟨.slice .bool,xs⟩] x fp/\fp.Nodup/\∀ b∈fp,b∈([]:List Nat)\/(w.heap.size<=b/\b<w'.heap.size):=λ v w' l ho hb hr=>by
   have hk:bH (λ b=>b∈([]:List Nat)) w w':=⟨hb.os,hb.tape,hb.output,hb.size,λ k hk _=>hb.block k hk⟩;rcases ho.2 with ⟨rfl,hn⟩|⟨g,cap,cur,rfl,hg,hh,MZ,OJ,KP,Zh⟩
   .have hn:xs=[]:=a9s hn;subst hn;exact⟨_,[],rfl,hk,⟨none,0,rfl,a8C _,by simp[maxLen],by simp, .inl ⟨rfl,⟨rfl,rfl⟩,rfl⟩⟩,a9x,by simp⟩
   .have hl:cur.toList=l++cur.toList.drop (xs.length * 1):=by rw[<-Zh,a9Q]
    refine⟨_,[g],rfl,hk,⟨some ⟨g,0,none⟩,cap,by rw[List.length_map],by rw[List.length_map];exact MZ,OJ,(by show (xs.map Ty.bool.aD).length<=140737488355328;rw[List.length_map];omega), .inr ⟨g,[],cur.toList,4,rfl,rfl,by simpa using hh,(by show cur.toList.length=cap * 1;simpa using KP),?_⟩⟩,by simp,λ b q=>?_⟩
    .rw[hl];exact bG.dT _ QR (S:=λ _=>True) (hr.aE (λ _ _=>trivial) λ b q=>hb.block b (hS.1 b q))
    .simp only[a8L] at q;subst q;exact .inr ⟨hg,(a9H.1 hh).1⟩
  have hi:∃ i0 z bytes,prog.info? 4=some i0/\i0.zero=some z/\i0.size=1/\i0.bytes=bytes/\z.cells.size=1/\bytes<=100:=by
   have q:(match prog.info? 4 with
    | some i=>match i.zero with
     | some z=>decide (i.size=1)&&(decide (z.cells.size=1)&&decide (i.bytes<=100))
     | none=>false
    | none=>false)=true:=by kernel_rfl
   split at q
   .rename_i i hi;split at q
    .rename_i z hz;simp only[a8I,a8z] at q;exact⟨i,z,_,hi,hz,q.1,rfl,q.2.1,q.2.2⟩
    .cases q
   .cases q
  obtain⟨i0,z,bytes,k1,k2,k3,k4,k5,k6⟩:=hi;have Sv:xs.length * bytes<=140737488355328:=a9v (b2l hx k6) (by decide);have key:∀ (ad:Addr) (l:List Value),a=some ad->cP w S (xs.map Ty.bool.aD) l->(∀ j u,l[j]?=some u->w.cell? (ad.add j)=some u) ->
    Calls prog dS #[.slice a xs.length c] w λ e w'=>∃ x fp,e = .returned x/\bH (λ b=>b∈([]:List Nat)) w w'/\AF w' [⟨.slice .bool,xs⟩] x fp/\fp.Nodup/\∀ b∈fp,b∈([]:List Nat)\/(w.heap.size<=b/\b<w'.heap.size):=λ ad l e hr hc=>by
   subst e;have hl:=cP.length _ hr (n:=1) λ d hd=>by
    obtain⟨y,_,rfl⟩:=a8w.1 hd;rfl
   rw[a8W] at hl;refine (Ql i0 z bytes k1 k2 k3 k4 k5 ad xs.length c l w hl (a9v h2 h3) Sv hc (cP.gX (τ := .bool) hr)).mono ?_;rintro e w' ⟨v',rfl,ho,hb⟩;exact done v' w' l ho hb hr
  rcases h5 with h5|⟨b,o,rfl,hb,h5⟩
  .have hn:xs=[]:=List.map_eq_nil_iff.1 h5;cases a with
   | none =>
    subst hn;refine (R5 _ c w).mono ?_;rintro e w' ⟨rfl,rfl⟩;exact done _ _ [] (World.ownsRow_nil w' _ _ _) (b0d _ _) rfl
   | some ad=>exact key ad [] rfl (by subst hn;rfl) (λ j u hj=>by simp at hj)
  .obtain⟨l,hl,hc⟩:=cv.cells _ _ _ h5;exact key ⟨b,o,none⟩ l rfl hl λ j u hj=>by rw[b0I];exact hc j u hj
def jb:aQ:=⟨dS,[.v (.slice .bool)],λ (xs:List Bool)=>⟨(some (xs.length<=1048576),[⟨(.slice .bool),xs⟩])⟩⟩
def wP:aQ.wq jb :=
 ⟨aB Aj rfl (by decide),λ xs h=>R6 xs h⟩
def xv:aQ.Good jb:=wP.plain
end
end Go.Proofs.YtncejbehidimmaaGreatDoor

namespace Go.Proofs.YtncejbehidimmaaGreatDoor
noncomputable section
abbrev my(c:List Int)(k:Int):Int:=c.getD k.toNat 0
def uB(c ls:List Int)(k:Int):Nat:=ls.findIdx λ y=>decide (my c y=my c k)
def Ll(c ls:List Int)(k:Int):Int:=if k<0\/my c k=0 then -1 else (uB c ls k:Int)
def Hr(c ls:List Int)(k:Int):List Int:=if (k<0\/my c k=0)\/uB c ls k<ls.length then ls else ls++[k]
abbrev rw3(a:O)(s t x:Nat):Int:=((a.next.getD s []).getD t []).getD x 0
def bp(a:O)(c:List Int)(s t:Nat)(ls:List Int):Nat->List Int×List Int
 | 0=>(ls,[])
 | x+1=>(Hr c (bp a c s t ls x).1 (rw3 a s t x),(bp a c s t ls x).2++[Ll c (bp a c s t ls x).1 (rw3 a s t x)])
def dK(a:O)(c:List Int)(s:Nat)(ls:List Int):Nat->List Int×List (List Int)
 | 0=>(ls,[])
 | t+1=>((bp a c s t (dK a c s ls t).1 (kK a)).1,(dK a c s ls t).2++[(bp a c s t (dK a c s ls t).1 (kK a)).2])
structure LeS where
 ls:List Int
 nx:List (List (List Int))
 ac:List (List Bool)
def stI(a:O)(c:List Int):Nat->LeS
 | 0=>⟨[0],[],[]⟩
 | i+1=>if i<(stI a c i).ls.length then ⟨(dK a c ((stI a c i).ls.getD i 0).toNat (stI a c i).ls (mK a)).1,(stI a c i).nx++[(dK a c ((stI a c i).ls.getD i 0).toNat (stI a c i).ls (mK a)).2],(stI a c i).ac++[a.accept.getD ((stI a c i).ls.getD i 0).toNat []]⟩ else stI a c i
noncomputable def leAt(a:O)(n:Nat):O:=⟨a.sig,(stI a (aN a) n).ac,(stI a (aN a) n).nx⟩
noncomputable def leA(a:O):O:=leAt a 61
structure Ii(a:O)(c ls:List Int):Prop where
 pos:0<ls.length
 fN:∀ y∈ls,0<=y/\y<(nK a:Int)
 nd:(ls.map (my c)).Nodup
def Ii.me{a:O}{c ls:List Int}(h:Ii a c ls):ls.length<=nK a:=by
 have h1:(ls.map Int.toNat).Nodup:=by
  have:=h.nd;unfold List.Nodup at this ⊢;rw[List.pairwise_map] at this ⊢;exact this.imp λ {x y} q e=>q (by show c.getD x.toNat 0=c.getD y.toNat 0;rw[e])
 have:=h1.length_le_of_subset (l₂:=List.range (nK a)) λ y hy=>by
  obtain⟨z,hz,rfl⟩:=a8w.1 hy;have:=h.fN z hz;rw[a9Z];omega
 simpa using this
def ZW{c ls:List Int}{k:Int}(h:¬ uB c ls k<ls.length):¬ my c k∈ls.map (my c):=λ q=>by
 obtain⟨y,hy,e⟩:=List.mem_map.1 q;apply h;unfold uB;rw[List.findIdx_lt_length];exact⟨y,hy,by simpa using e⟩
def ZV(c ls:List Int)(k:Int):uB c ls k<=ls.length:=b1p
def S3(c ls:List Int)(k:Int):ls.length<=(Hr c ls k).length:=by unfold Hr;split<;>simp
def a1N{a:O}{c ls:List Int}(h:Ii a c ls){k:Int}(hk:k<(nK a:Int)):Ii a c (Hr c ls k):=by
 unfold Hr;split
 .exact h
 .rename_i q;rw[not_or,not_or] at q;refine⟨by simp,λ y hy=>?_,?_⟩
  .rcases a8t.1 hy with r|r
   .exact h.fN y r
   .rw[a8L] at r;rw[r];omega
  .rw[a9F];refine b1t.2 ⟨h.nd,by simp,λ x hx y hy=>?_⟩;rw[a9a,b0s,a8L] at hy;subst hy;exact λ e=>ZW q.2 (e ▸ hx)
def a1O(c ls:List Int)(k:Int) : -1<=Ll c ls k/\Ll c ls k<((Hr c ls k).length:Int):=by
 have h1:=ZV c ls k;have h2:=S3 c ls k;unfold Ll;split
 .omega
 .rename_i q;unfold Hr at h2 ⊢;by_cases r:uB c ls k<ls.length
  .rw[a8A (.inr r)];omega
  .rw[a8v (λ w=>w.elim q r)];simp;omega
structure LeX(a:O)(c ls:List Int)(x:Nat)(q:List Int×List Int):Prop where
 g:Ii a c q.1
 up:ls.length<=q.1.length
 len:q.2.length=x
 ok:N6 q.1.length q.2
def leX{a:O}(h:cG a){c ls:List Int}(hg:Ii a c ls){s t:Nat}(hs:s<nK a)(ht:t<mK a):∀ x,x<=kK a->LeX a c ls x (bp a c s t ls x)
 | 0,_=>⟨hg,a8C _,rfl,λ v hv=>by cases hv⟩
 | x+1,hx=>by
  have q:=leX h hg hs ht x (by omega);have hr:=h.row hs ht (show x<kK a by omega);have hl:=S3 c (bp a c s t ls x).1 (rw3 a s t x);have e:bp a c s t ls (x+1)=(Hr c (bp a c s t ls x).1 (rw3 a s t x),(bp a c s t ls x).2++[Ll c (bp a c s t ls x).1 (rw3 a s t x)]):=rfl;rw[e];exact⟨a1N q.g hr.2,a9v q.up hl,by simp[q.len],(q.ok.up hl).snoc (a1O _ _ _)⟩
structure LeT(a:O)(c ls:List Int)(t:Nat)(q:List Int×List (List Int)):Prop where
 g:Ii a c q.1
 up:ls.length<=q.1.length
 len:q.2.length=t
 ok:Cb (kK a) q.1.length q.2
def Xg{a:O}(h:cG a){c ls:List Int}(hg:Ii a c ls){s:Nat}(hs:s<nK a):∀ t,t<=mK a->LeT a c ls t (dK a c s ls t)
 | 0,_=>⟨hg,a8C _,rfl,λ v hv=>by cases hv⟩
 | t+1,ht=>by
  have q:=Xg h hg hs t (by omega);have r:=leX h q.g hs (show t<mK a by omega) (kK a) (a8C _);have e:dK a c s ls (t+1)=((bp a c s t (dK a c s ls t).1 (kK a)).1,(dK a c s ls t).2++[(bp a c s t (dK a c s ls t).1 (kK a)).2]):=rfl;rw[e];exact⟨r.g,a9v q.up r.up,by simp[q.len],(q.ok.up r.up).snoc r.len r.ok⟩
structure LeI(a:O)(c:List Int)(i:Nat)(q:LeS):Prop where
 g:Ii a c q.ls
 n:q.nx.length=min i q.ls.length
 m:q.ac.length=min i q.ls.length
 ok:Ji (mK a) (kK a) q.ls.length q.nx
 ac:∀ r∈q.ac,r.length=mK a
def Ii.get{a:O}{c ls:List Int}(h:Ii a c ls){i:Nat}(hi:i<ls.length):0<=ls.getD i 0/\ls.getD i 0<(nK a:Int):=h.fN _ (ng hi)
def S2{a:O}(h:cG a)(c:List Int):∀ i,LeI a c i (stI a c i)
 | 0=>⟨⟨by simp[stI],λ y hy=>by simp only[stI,a8L] at hy;have:=h.n1;rw[hy];simp only[nK];omega,by simp[stI]⟩,by simp[stI],by simp[stI],λ v hv=>(by cases hv),λ v hv=>(by cases hv)⟩
 | i+1=>by
  have q:=S2 h c i;have qn:=q.n;have qm:=q.m;rw[stI];by_cases hi:i<(stI a c i).ls.length
  .rw[a8A hi];have hs:=q.g.get hi;have r:=Xg h q.g (show ((stI a c i).ls.getD i 0).toNat<nK a by omega) (mK a) (a8C _);have ru:=r.up;refine⟨r.g,?_,?_,(q.ok.up r.up).snoc r.len r.ok,λ v hv=>?_⟩
   .simp only[a8E,a8F,a8R];omega
   .simp only[a8E,a8F,a8R];omega
   .rcases a8t.1 hv with w|w
    .exact q.ac v w
    .rw[a8L] at w;rw[w];exact (h.wU (by omega)).1
  .rw[a8v hi];exact⟨q.g,by omega,by omega,q.ok,q.ac⟩
def P2{a:O}{c:List Int}{i:Nat}(hi:¬ i<(stI a c i).ls.length):∀ j,stI a c (i+j)=stI a c i
 | 0=>rfl
 | j+1=>by
  have e:=P2 hi j;rw[<-b0z,stI,e,a8v (by omega)]
def SZ{a:O}{i:Nat}(hi:¬ i<(stI a (aN a) i).ls.length)(h6:i<=60):O.mk a.sig (stI a (aN a) i).ac (stI a (aN a) i).nx=leA a:=by
 have e:=P2 hi (61 - i);rw[show i+(61 - i)=61 by omega] at e;unfold leA leAt;rw[e]
def ZJ{a:O}(h:cG a){n:Nat}(hn:60<=n):cG (leAt a n):=by
 have q:=S2 h (aN a) n;have h6:nK a<=60:=h.n60;have hf:=q.g.me;have hp:=q.g.pos;have e1:(leAt a n).accept.length=(stI a (aN a) n).ls.length:=by show (stI a (aN a) n).ac.length=_;rw[q.m];omega
 have e2:(leAt a n).next.length=(stI a (aN a) n).ls.length:=by show (stI a (aN a) n).nx.length=_;rw[q.n];omega
 exact⟨h.s,by omega,by omega,by rw[e1,e2],q.ac,by rw[e1];exact q.ok⟩
def eQ{a:O}(h:cG a):cG (leA a):=ZJ h (by decide)
def dA(c ls:List Int)(v:Int):Option Int:=if (ls.findIdx λ y=>decide (my c y=v))<ls.length then some ((ls.findIdx λ y=>decide (my c y=v):Nat):Int) else none
def BH(c ls:List Int)(k:Int):dA c ls (my c k)=if uB c ls k<ls.length then some (uB c ls k:Int) else none:=rfl
def Vb(c:List Int):fK (gV Int Int) (c.getD 0 0) (0:Int)=dA c [0]:=by
 funext t;by_cases h:t=c.getD 0 0
 .subst h;rw[gu];simp[dA]
 .rw[eL _ _ _ h];have h':¬ my c 0=t:=λ e=>h e.symm;have e:([0]:List Int).findIdx (λ y=>decide (my c y=t))=1:=by
   rw[b0c,b0y h'];rfl
  unfold dA;rw[e];rfl
def Vd{c ls:List Int}{k:Int}(hn:(dA c ls (my c k)).isSome=false):fK (dA c ls) (my c k) (ls.length:Int)=dA c (ls++[k])/\gB (dA c ls (my c k)) ls.length=(ls++[k]).length:=by
 rw[BH] at hn;have hl:¬ uB c ls k<ls.length:=λ q=>by rw[a8A q] at hn;cases hn
 refine⟨?_,by rw[BH,a8v hl];simp[gB]⟩;funext t;by_cases ht:t=my c k
 .subst ht;rw[gu];unfold uB at hl;unfold dA;have hle:(ls.findIdx λ y=>decide (my c y=my c k))<=ls.length:=List.findIdx_le_length;rw[List.findIdx_append,if_neg hl];simp
 .rw[eL _ _ _ ht];unfold dA;rw[List.findIdx_append];by_cases hl:(ls.findIdx λ y=>decide (my c y=t))<ls.length
  .rw[a8A hl,a8A hl,a8A (a8B hl (by rw[a8E];exact Nat.le_add_right _ _))]
  .have h':¬ my c k=t:=λ e=>ht e.symm;have e1:([k]:List Int).findIdx (λ y=>decide (my c y=t))=1:=by
    rw[b0c,b0y h'];rfl
   rw[a8v hl,a8v hl,e1,a8v];rw[a8E];simp;omega
def S4{c ls:List Int}{k:Int}(h:k<0\/my c k=0) : -1=Ll c ls k/\ls=Hr c ls k:=by rw[Ll,Hr,a8A h,a8A (.inl h)];exact⟨rfl,rfl⟩
def ZK{c ls:List Int}{k:Int}(h:¬ k<0)(h':¬ my c k=0)(hs:(dA c ls (my c k)).isSome=true):(dA c ls (my c k)).getD 0=Ll c ls k/\ls=Hr c ls k:=by
 rw[BH] at hs ⊢;have hl:uB c ls k<ls.length:=b0W.1 λ q=>by rw[a8v q] at hs;cases hs
 refine⟨?_,?_⟩
 .rw[a8A hl,Ll,a8v (λ w=>w.elim h h')];rfl
 .rw[Hr,a8A (.inr hl)]
def a3e{c ls:List Int}{k:Int}(h:¬ k<0)(h':¬ my c k=0)(hs:(dA c ls (my c k)).isSome=false):(dA c (ls++[k]) (my c k)).getD 0=Ll c ls k/\ls++[k]=Hr c ls k:=by
 rw[BH] at hs;have hl:¬ uB c ls k<ls.length:=λ q=>by rw[a8A q] at hs;cases hs
 have nm:=hl;unfold uB at nm;have he:uB c (ls++[k]) k=ls.length:=by
  unfold uB;rw[List.findIdx_append,if_neg nm];simp
 have h0:=ZV c ls k;refine⟨?_,?_⟩
 .rw[BH,he,a8A (by simp),Ll,a8v (λ w=>w.elim h h')];show (ls.length:Int)=(uB c ls k:Int);omega
 .rw[Hr,a8v (λ w=>w.elim (λ w=>w.elim h h') hl)]
def RE{a:O}{c ls:List Int}{s t x:Nat}(h:(((a.next.getD s []).getD t []).getD x 0)<0):(bp a c s t ls x).1=(bp a c s t ls (x+1)).1:=(S4 (.inl h)).2
def a0L{a:O}{c ls:List Int}{s t x:Nat}(h:(((a.next.getD s []).getD t []).getD x 0)<0):dA c (bp a c s t ls x).1=dA c (bp a c s t ls (x+1)).1:=congrArg (dA c) (RE h)
def a0P{a:O}{c ls:List Int}{s t x:Nat}(h:(((a.next.getD s []).getD t []).getD x 0)<0):(bp a c s t ls x).1.length=(bp a c s t ls (x+1)).1.length:=congrArg List.length (RE h)
def a0T{a:O}{c ls:List Int}{s t x:Nat}(h:(((a.next.getD s []).getD t []).getD x 0)<0):(bp a c s t ls x).2++[-1]=(bp a c s t ls (x+1)).2:=congrArg (λ v=>(bp a c s t ls x).2++[v]) (S4 (.inl h)).1
def RF{a:O}{c ls:List Int}{s t x:Nat}(h:(c.getD (Int.toNat (((a.next.getD s []).getD t []).getD x 0)) 0)=0):(bp a c s t ls x).1=(bp a c s t ls (x+1)).1:=(S4 (.inr h)).2
def a0M{a:O}{c ls:List Int}{s t x:Nat}(h:(c.getD (Int.toNat (((a.next.getD s []).getD t []).getD x 0)) 0)=0):dA c (bp a c s t ls x).1=dA c (bp a c s t ls (x+1)).1:=congrArg (dA c) (RF h)
def a0Q{a:O}{c ls:List Int}{s t x:Nat}(h:(c.getD (Int.toNat (((a.next.getD s []).getD t []).getD x 0)) 0)=0):(bp a c s t ls x).1.length=(bp a c s t ls (x+1)).1.length:=congrArg List.length (RF h)
def a0U{a:O}{c ls:List Int}{s t x:Nat}(h:(c.getD (Int.toNat (((a.next.getD s []).getD t []).getD x 0)) 0)=0):(bp a c s t ls x).2++[-1]=(bp a c s t ls (x+1)).2:=congrArg (λ v=>(bp a c s t ls x).2++[v]) (S4 (.inr h)).1
def RG{a:O}{c ls:List Int}{s t x:Nat}(h:¬ (((a.next.getD s []).getD t []).getD x 0)<0)(h2:¬ (c.getD (Int.toNat (((a.next.getD s []).getD t []).getD x 0)) 0)=0)(h3:(dA c (bp a c s t ls x).1 (c.getD (Int.toNat (((a.next.getD s []).getD t []).getD x 0)) 0)).isSome=true):(bp a c s t ls x).1=(bp a c s t ls (x+1)).1:=(ZK h h2 h3).2
def a0N{a:O}{c ls:List Int}{s t x:Nat}(h:¬ (((a.next.getD s []).getD t []).getD x 0)<0)(h2:¬ (c.getD (Int.toNat (((a.next.getD s []).getD t []).getD x 0)) 0)=0)(h3:(dA c (bp a c s t ls x).1 (c.getD (Int.toNat (((a.next.getD s []).getD t []).getD x 0)) 0)).isSome=true):dA c (bp a c s t ls x).1=dA c (bp a c s t ls (x+1)).1:=congrArg (dA c) (RG h h2 h3)
def a0R{a:O}{c ls:List Int}{s t x:Nat}(h:¬ (((a.next.getD s []).getD t []).getD x 0)<0)(h2:¬ (c.getD (Int.toNat (((a.next.getD s []).getD t []).getD x 0)) 0)=0)(h3:(dA c (bp a c s t ls x).1 (c.getD (Int.toNat (((a.next.getD s []).getD t []).getD x 0)) 0)).isSome=true):(bp a c s t ls x).1.length=(bp a c s t ls (x+1)).1.length:=congrArg List.length (RG h h2 h3)
def a0V{a:O}{c ls:List Int}{s t x:Nat}(h:¬ (((a.next.getD s []).getD t []).getD x 0)<0)(h2:¬ (c.getD (Int.toNat (((a.next.getD s []).getD t []).getD x 0)) 0)=0)(h3:(dA c (bp a c s t ls x).1 (c.getD (Int.toNat (((a.next.getD s []).getD t []).getD x 0)) 0)).isSome=true):(bp a c s t ls x).2++[(dA c (bp a c s t ls x).1 (c.getD (Int.toNat (((a.next.getD s []).getD t []).getD x 0)) 0)).getD 0]=(bp a c s t ls (x+1)).2:=congrArg (λ v=>(bp a c s t ls x).2++[v]) (ZK h h2 h3).1
def Om{a:O}{c ls:List Int}{s t x:Nat}(h:¬ (((a.next.getD s []).getD t []).getD x 0)<0)(h2:¬ (c.getD (Int.toNat (((a.next.getD s []).getD t []).getD x 0)) 0)=0)(h3:(dA c (bp a c s t ls x).1 (c.getD (Int.toNat (((a.next.getD s []).getD t []).getD x 0)) 0)).isSome=false):(bp a c s t ls x).1++[(((a.next.getD s []).getD t []).getD x 0)]=(bp a c s t ls (x+1)).1:=(a3e h h2 h3).2
def a0O{a:O}{c ls:List Int}{s t x:Nat}(h:¬ (((a.next.getD s []).getD t []).getD x 0)<0)(h2:¬ (c.getD (Int.toNat (((a.next.getD s []).getD t []).getD x 0)) 0)=0)(h3:(dA c (bp a c s t ls x).1 (c.getD (Int.toNat (((a.next.getD s []).getD t []).getD x 0)) 0)).isSome=false):fK (dA c (bp a c s t ls x).1) (c.getD (Int.toNat (((a.next.getD s []).getD t []).getD x 0)) 0) ((bp a c s t ls x).1.length:Int)=dA c (bp a c s t ls (x+1)).1:=(Vd h3).1.trans (congrArg (dA c) (Om h h2 h3))
def a0S{a:O}{c ls:List Int}{s t x:Nat}(h:¬ (((a.next.getD s []).getD t []).getD x 0)<0)(h2:¬ (c.getD (Int.toNat (((a.next.getD s []).getD t []).getD x 0)) 0)=0)(h3:(dA c (bp a c s t ls x).1 (c.getD (Int.toNat (((a.next.getD s []).getD t []).getD x 0)) 0)).isSome=false):gB (dA c (bp a c s t ls x).1 (c.getD (Int.toNat (((a.next.getD s []).getD t []).getD x 0)) 0)) (bp a c s t ls x).1.length=(bp a c s t ls (x+1)).1.length:=(Vd h3).2.trans (congrArg List.length (Om h h2 h3))
def a4Y{a:O}{c ls:List Int}{s t x:Nat}(h:¬ (((a.next.getD s []).getD t []).getD x 0)<0)(h2:¬ (c.getD (Int.toNat (((a.next.getD s []).getD t []).getD x 0)) 0)=0)(h3:(dA c (bp a c s t ls x).1 (c.getD (Int.toNat (((a.next.getD s []).getD t []).getD x 0)) 0)).isSome=false):(fK (dA c (bp a c s t ls x).1) (c.getD (Int.toNat (((a.next.getD s []).getD t []).getD x 0)) 0) ((bp a c s t ls x).1.length:Int) (c.getD (Int.toNat (((a.next.getD s []).getD t []).getD x 0)) 0)).getD 0=Ll c (bp a c s t ls x).1 (((a.next.getD s []).getD t []).getD x 0):=by
 rw[(Vd h3).1];exact (a3e h h2 h3).1
def Vv{a:O}{c ls:List Int}{s t x:Nat}(h:¬ (((a.next.getD s []).getD t []).getD x 0)<0)(h2:¬ (c.getD (Int.toNat (((a.next.getD s []).getD t []).getD x 0)) 0)=0)(h3:(dA c (bp a c s t ls x).1 (c.getD (Int.toNat (((a.next.getD s []).getD t []).getD x 0)) 0)).isSome=false):(bp a c s t ls x).2++[(fK (dA c (bp a c s t ls x).1) (c.getD (Int.toNat (((a.next.getD s []).getD t []).getD x 0)) 0) ((bp a c s t ls x).1.length:Int) (c.getD (Int.toNat (((a.next.getD s []).getD t []).getD x 0)) 0)).getD 0]=(bp a c s t ls (x+1)).2:=congrArg (λ v=>(bp a c s t ls x).2++[v]) (a4Y h h2 h3)
def Vw{a:O}{c ls:List Int}{s t x:Nat}(h:¬ (((a.next.getD s []).getD t []).getD x 0)<0)(h2:¬ (c.getD (Int.toNat (((a.next.getD s []).getD t []).getD x 0)) 0)=0)(h3:(dA c (bp a c s t ls x).1 (c.getD (Int.toNat (((a.next.getD s []).getD t []).getD x 0)) 0)).isSome=false):(bp a c s t ls x).2++[((bp a c s t ls x).1.length:Int)]=(bp a c s t ls (x+1)).2:=by
 have:=Vv h h2 h3;rw[gu] at this;exact this
def zXL{a:O}{c ls:List Int}{s t:Nat}:ls=(bp a c s t ls 0).1:=rfl
def zXM{a:O}{c ls:List Int}{s t:Nat}:dA c ls=dA c (bp a c s t ls 0).1:=rfl
def zXN{a:O}{c ls:List Int}{s t:Nat}:ls.length=(bp a c s t ls 0).1.length:=rfl
def zXR{a:O}{c ls:List Int}{s t:Nat}:[]=(bp a c s t ls 0).2:=rfl
def zTL{a:O}{c ls:List Int}{s:Nat}:ls=(dK a c s ls 0).1:=rfl
def zTM{a:O}{c ls:List Int}{s:Nat}:dA c ls=dA c (dK a c s ls 0).1:=rfl
def zTN{a:O}{c ls:List Int}{s:Nat}:ls.length=(dK a c s ls 0).1.length:=rfl
def zTR{a:O}{c ls:List Int}{s:Nat}:[]=(dK a c s ls 0).2:=rfl
def zIA{a:O}{c:List Int}:(stI a c 0).ac=[]:=rfl
def zIX{a:O}{c:List Int}:(stI a c 0).nx=[]:=rfl
def a3v{a:O}{c:List Int}:[]=(stI a c 0).ac:=rfl
def a3w{a:O}{c:List Int}:[]=(stI a c 0).nx:=rfl
def zIL{a:O}{c:List Int}:[0]=(stI a c 0).ls:=rfl
def zIM{a:O}{c:List Int}:fK (gV Int Int) (c.getD 0 0) (0:Int)=dA c (stI a c 0).ls:=Vb c
def zIN{a:O}{c:List Int}{k:Int}:gB (gV Int Int k) 0=(stI a c 0).ls.length:=rfl
def eXL{a:O}{c ls:List Int}{s t x:Nat}(h:x=kK a):(bp a c s t (dK a c s ls t).1 x).1=(dK a c s ls (t+1)).1:=by subst h;rfl
def eXM{a:O}{c ls:List Int}{s t x:Nat}(h:x=kK a):dA c (bp a c s t (dK a c s ls t).1 x).1=dA c (dK a c s ls (t+1)).1:=by subst h;rfl
def eXN{a:O}{c ls:List Int}{s t x:Nat}(h:x=kK a):(bp a c s t (dK a c s ls t).1 x).1.length=(dK a c s ls (t+1)).1.length:=by subst h;rfl
def eXR{a:O}{c ls:List Int}{s t x:Nat}(h:x=kK a):(dK a c s ls t).2++[(bp a c s t (dK a c s ls t).1 x).2]=(dK a c s ls (t+1)).2:=by subst h;rfl
def WH{a:O}{c:List Int}{i t:Nat}(h:i<(stI a c i).ls.length)(h2:t=mK a):(dK a c ((stI a c i).ls.getD i 0).toNat (stI a c i).ls t).1=(stI a c (i+1)).ls:=by subst h2;rw[stI,a8A h]
def eTM{a:O}{c:List Int}{i t:Nat}(h:i<(stI a c i).ls.length)(h2:t=mK a):dA c (dK a c ((stI a c i).ls.getD i 0).toNat (stI a c i).ls t).1=dA c (stI a c (i+1)).ls:=congrArg (dA c) (WH h h2)
def eTN{a:O}{c:List Int}{i t:Nat}(h:i<(stI a c i).ls.length)(h2:t=mK a):(dK a c ((stI a c i).ls.getD i 0).toNat (stI a c i).ls t).1.length=(stI a c (i+1)).ls.length:=congrArg List.length (WH h h2)
def eTX{a:O}{c:List Int}{i t:Nat}(h:i<(stI a c i).ls.length)(h2:t=mK a):(stI a c i).nx++[(dK a c ((stI a c i).ls.getD i 0).toNat (stI a c i).ls t).2]=(stI a c (i+1)).nx:=by subst h2;rw[stI,a8A h]
def eTA{a:O}{c:List Int}{i:Nat}(h:i<(stI a c i).ls.length):(stI a c i).ac++[a.accept.getD ((stI a c i).ls.getD i 0).toNat []]=(stI a c (i+1)).ac:=by rw[stI,a8A h]
structure LnI(a:O)(i:Nat):Prop where
 l1:(stI a (aN a) i).ls.length<=60
 l2:1<=(stI a (aN a) i).ls.length
 l3:(stI a (aN a) i).nx.length<=60
 l4:(stI a (aN a) i).ac.length<=60
 l5:(aN a).length=nK a+1
 l6:nK a<=60
 l7:mK a<=8
 l8:kK a<=4
 l9:1<=mK a
def wM{a:O}(h:cG a)(i:Nat):LnI a i:=by
 have q:=S2 h (aN a) i;have h6:nK a<=60:=h.n60;have:=q.g.me;have:=q.g.pos;have:=q.n;have:=q.m;have:=h.lens;refine⟨?_,?_,?_,?_,(Gr h).o.len,h6,?_,?_,?_⟩<;>omega
structure LnS(a:O)(i:Nat):Prop where
 s1:0<=(stI a (aN a) i).ls.getD i 0
 s2:(stI a (aN a) i).ls.getD i 0<(nK a:Int)
 s3:((stI a (aN a) i).ls.getD i 0).toNat<nK a
 s4:(a.accept.getD ((stI a (aN a) i).ls.getD i 0).toNat []).length=mK a
 s5:(a.next.getD ((stI a (aN a) i).ls.getD i 0).toNat []).length=mK a
 s6:a.accept.length=nK a
 s7:a.next.length=nK a
def qR{a:O}(h:cG a){i:Nat}(hi:i<(stI a (aN a) i).ls.length):LnS a i:=by
 have q:=(S2 h (aN a) i).g.get hi;have hs:((stI a (aN a) i).ls.getD i 0).toNat<nK a:=by omega
 exact⟨q.1,q.2,hs,(h.wU hs).1,(h.wU hs).2,rfl,h.nx⟩
structure LnT(a:O)(i t:Nat):Prop where
 t1:(dK a (aN a) ((stI a (aN a) i).ls.getD i 0).toNat (stI a (aN a) i).ls t).1.length<=60
 t2:(dK a (aN a) ((stI a (aN a) i).ls.getD i 0).toNat (stI a (aN a) i).ls t).2.length=t
def OW{a:O}(h:cG a){i t:Nat}(hi:i<(stI a (aN a) i).ls.length)(ht:t<=mK a):LnT a i t:=by
 have q:=Xg h (S2 h (aN a) i).g (qR h hi).s3 t ht;have:=q.g.me;have h6:nK a<=60:=h.n60;exact⟨by omega,q.len⟩
structure LnX(a:O)(i t x:Nat):Prop where
 x1:(bp a (aN a) ((stI a (aN a) i).ls.getD i 0).toNat t (dK a (aN a) ((stI a (aN a) i).ls.getD i 0).toNat (stI a (aN a) i).ls t).1 x).1.length<=60
 x2:(bp a (aN a) ((stI a (aN a) i).ls.getD i 0).toNat t (dK a (aN a) ((stI a (aN a) i).ls.getD i 0).toNat (stI a (aN a) i).ls t).1 x).2.length=x
 x3:((a.next.getD ((stI a (aN a) i).ls.getD i 0).toNat []).getD t []).length=kK a
def S7{a:O}(h:cG a){i t x:Nat}(hi:i<(stI a (aN a) i).ls.length)(ht:t<mK a)(hx:x<=kK a):LnX a i t x:=by
 have q:=leX h (Xg h (S2 h (aN a) i).g (qR h hi).s3 t (b1l ht)).g (qR h hi).s3 ht x hx;have:=q.g.me;have h6:nK a<=60:=h.n60;exact⟨by omega,q.len,h.NL (qR h hi).s3 ht⟩
structure LnK(a:O)(i t x:Nat):Prop where
 k1 : -1<=(((a.next.getD ((stI a (aN a) i).ls.getD i 0).toNat []).getD t []).getD x 0)
 k2:(((a.next.getD ((stI a (aN a) i).ls.getD i 0).toNat []).getD t []).getD x 0)<(nK a:Int)
def lnK{a:O}(h:cG a){i t x:Nat}(hi:i<(stI a (aN a) i).ls.length)(ht:t<mK a)(hx:x<kK a):LnK a i t x:=⟨(h.row (qR h hi).s3 ht hx).1,(h.row (qR h hi).s3 ht hx).2⟩
def iI{a:O}(h:cG a){i:Nat}(hi:i<(stI a (aN a) i).ls.length):i+1<=(stI a (aN a) (i+1)).ls.length:=by
 have q:=(Xg h (S2 h (aN a) i).g (qR h hi).s3 (mK a) (a8C _)).up;rw[stI,a8A hi];exact a9v hi q
def DS:aQ:=⟨D0,[.v (.st .automaton)],λ (a:O)=>⟨(some (cG a),[⟨(.st .automaton),leA a⟩])⟩⟩
def OQ(a:O):Nat->aG:=(dU 0 (.mk (Nat) (λ i=>i<=(stI a (aN a) i).ls.length) (λ i=>61 - i) [] [0,16,17,18,19,20,21,22,23,24,25,26] (λ i=>[(7, .aK ⟨(.int .i64),((i:Int):Int)⟩),(5, .row 23),(4, .mp 18)]) [2] (λ i=>[(6, .box [.aK ⟨(.int .i64),(a.sig.aF:Int)⟩, .aK ⟨(.int .i64),(a.sig.ar:Int)⟩, .row 3001, .row 3002]),(3001, .row Cm (.slice .bool) ((stI a (aN a) i).ac:List (List Bool))),(3002, .row mT (.slice (.slice (.int .i64))) ((stI a (aN a) i).nx:List (List (List Int)))),(23, .row eK (.int .i64) ((stI a (aN a) i).ls:List Int)),(18, .map ⟨(.int .i64),(.int .i64),(dA (aN a) (stI a (aN a) i).ls:Int->Option Int),((stI a (aN a) i).ls.length)⟩)]) [] [] (λ i=>(dU 2 (.mk (Nat) (λ t=>t<=mK a/\i<(stI a (aN a) i).ls.length) (λ t=>mK a - t) [] [27,28,29,30,33,34,35,36,37,38,39] (λ t=>[(41, .aK ⟨(.int .i64),((t:Int):Int)⟩),(9, .row 37),(5, .row 23),(4, .mp 18)]) [2,6,3001,3002] (λ t=>[(23, .row eK (.int .i64) ((dK a (aN a) ((stI a (aN a) i).ls.getD i 0).toNat (stI a (aN a) i).ls t).1:List Int)),(18, .map ⟨(.int .i64),(.int .i64),(dA (aN a) (dK a (aN a) ((stI a (aN a) i).ls.getD i 0).toNat (stI a (aN a) i).ls t).1:Int->Option Int),((dK a (aN a) ((stI a (aN a) i).ls.getD i 0).toNat (stI a (aN a) i).ls t).1.length)⟩),(37, .row sD (.slice (.int .i64)) ((dK a (aN a) ((stI a (aN a) i).ls.getD i 0).toNat (stI a (aN a) i).ls t).2:List (List Int)))]) [] [] (λ t=>(dU 4 (.a (Nat) (λ x=>x<=kK a/\t<mK a) (λ x=>kK a - x) [42,43,44,45,46] (λ x=>[(48, .aK ⟨(.int .i64),((x:Int):Int)⟩),(11, .row 44),(5, .row 23),(4, .mp 18)]) [2,6,37,3001,3002] (λ x=>[(23, .row eK (.int .i64) ((bp a (aN a) ((stI a (aN a) i).ls.getD i 0).toNat t (dK a (aN a) ((stI a (aN a) i).ls.getD i 0).toNat (stI a (aN a) i).ls t).1 x).1:List Int)),(18, .map ⟨(.int .i64),(.int .i64),(dA (aN a) (bp a (aN a) ((stI a (aN a) i).ls.getD i 0).toNat t (dK a (aN a) ((stI a (aN a) i).ls.getD i 0).toNat (stI a (aN a) i).ls t).1 x).1:Int->Option Int),((bp a (aN a) ((stI a (aN a) i).ls.getD i 0).toNat t (dK a (aN a) ((stI a (aN a) i).ls.getD i 0).toNat (stI a (aN a) i).ls t).1 x).1.length)⟩),(44, .row eK (.int .i64) ((bp a (aN a) ((stI a (aN a) i).ls.getD i 0).toNat t (dK a (aN a) ((stI a (aN a) i).ls.getD i 0).toNat (stI a (aN a) i).ls t).1 x).2:List Int))])) cf))) cf))) cf)
abbrev qF(a:O)(i1:Nat):Prop:=(let v0:=stI a (aN a) i1;((a.sig.aF=a.sig.aF/\(a.sig.ar=a.sig.ar/\(True/\(True/\True))))/\((v0.ac)=(v0.ac)/\((v0.nx)=(v0.nx)/\(((0:Int)=(0:Int)/\((0:Int)=(0:Int)/\(True/\(True/\True))))/\True)))))
abbrev lN(a:O)(i1:Nat)(t2:Nat):Prop:=(let v0:=(dK a (aN a) ((stI a (aN a) i1).ls.getD i1 0).toNat (stI a (aN a) i1).ls t2).2;(v0=v0/\(qF a i1)))
abbrev qG(a:O)(i1:Nat)(t2:Nat)(x3:Nat)(x4:Nat):Prop:=(let v0:=((stI a (aN a) i1).ls).getD i1 (0:Int);(a=a/\(True/\((aN a)=(aN a)/\(True/\(True/\(True/\((i1:Int)=(i1:Int)/\(v0=v0/\(True/\((t2:Int)=(t2:Int)/\(True/\((bB a.sig)=(bB a.sig)/\((t2:Int)=(t2:Int)/\(a.sig.ar=a.sig.ar/\(((x3:Int)+(1:Int))=(x4:Int)/\True))))))))))))))))
abbrev zB(a:O)(i1:Nat)(t2:Nat)(x3:Nat)(x4:Nat):Prop:=(let v1:=(stI a (aN a) i1).ls.getD i1 0;let v0:=dK a (aN a) v1.toNat (stI a (aN a) i1).ls t2;let v2:=bp a (aN a) v1.toNat t2 v0.1 x3;let v3:=bp a (aN a) v1.toNat t2 v0.1 x4;((dA (aN a) v2.1)=(dA (aN a) v3.1)/\(v2.1.length)=(v3.1.length)))
abbrev zC(a:O)(i1:Nat)(t2:Nat)(x3:Nat):Prop:=(let v1:=(stI a (aN a) i1).ls.getD i1 0;let v0:=dK a (aN a) v1.toNat (stI a (aN a) i1).ls t2;let v2:=bp a (aN a) v1.toNat t2 v0.1 x3;(aX ((v2.2).length+([(-1:Int)]).length) 8/\(ai ((x3:Int)+(1:Int))/\(∃ x4:Nat,let v3:=bp a (aN a) v1.toNat t2 v0.1 x4;((x4<=kK a/\t2<mK a)/\(kK a - x4<kK a - x3/\((qG a i1 t2 x3 x4)/\((v2.1)=(v3.1)/\((zB a i1 t2 x3 x4)/\(((v2.2)++([(-1:Int)]))=(v3.2)/\(lN a i1 t2)))))))))))
abbrev zD(a:O)(i1:Nat)(t2:Nat)(x3:Nat):Prop:=(let v7:=aN a;let v1:=((a.next.getD (Int.toNat (((stI a v7 i1).ls).getD i1 (0:Int))) []).getD t2 []).getD x3 (0:Int);let v2:=v7.getD (Int.toNat v1) (0:Int);let v4:=(stI a v7 i1).ls.getD i1 0;let v3:=dK a v7 v4.toNat (stI a v7 i1).ls t2;let v0:=bp a v7 v4.toNat t2 v3.1 x3;let v5:=dA v7 v0.1;let v8:=Option.getD ((v5 v2)) (0:Int);let v9:=((v0.1).length:Int);let v6:=[(Option.getD (((fK v5 v2 v9) v2)) (0:Int))];(av v1 v7.length/\(ai v2 ->
 (ai v8 ->
 (((!(Option.isSome ((v5 v2))))=true ->
 (av v1 v7.length/\(ai v2 ->
 (ai v9 ->
 ((v0.1.length)<1000000000/\(aX ((v0.1).length+([v1]).length) 8/\(av v1 v7.length/\(ai v2 ->
 (aX ((v0.2).length+v6.length) 8/\(ai ((x3:Int)+(1:Int))/\(∃ x4:Nat,let va:=bp a v7 v4.toNat t2 v3.1 x4;((x4<=kK a/\t2<mK a)/\(kK a - x4<kK a - x3/\((qG a i1 t2 x3 x4)/\(((v0.1)++([v1]))=(va.1)/\(((fK v5 v2 v9)=(dA v7 va.1)/\(gB ((v5 v2)) (v0.1.length))=(va.1.length))/\(((v0.2)++v6)=(va.2)/\(lN a i1 t2))))))))))))))))))/\((!(Option.isSome ((v5 v2))))=false ->
 (av v1 v7.length/\(ai v2 ->
 (aX ((v0.2).length+([v8]).length) 8/\(ai ((x3:Int)+(1:Int))/\(∃ x4:Nat,((x4<=kK a/\t2<mK a)/\(kK a - x4<kK a - x3/\((qG a i1 t2 x3 x4)/\((v0.1)=((bp a v7 v4.toNat t2 v3.1 x4).1)/\((zB a i1 t2 x3 x4)/\(((v0.2)++([v8]))=((bp a v7 v4.toNat t2 v3.1 x4).2)/\(lN a i1 t2))))))))))))))))))
def ID:aQ.Good DS:=by
 refine⟨aB AJ,?_⟩;intro (a:O) (hp:cG a);refine aP [zH,jb,lO] [] [] [1] ⟨EN,xv,mg,ae⟩ AJ Ip (OQ a) (let v0:=aN a;let v1:=(0:Int);let v2:=a.sig.aF=a.sig.aF/\(a.sig.ar=a.sig.ar/\(True/\(True/\True)));let v3:=bB a.sig;let v4:=(v1=v1/\(v1=v1/\(True/\(True/\True))))/\True;((cG a/\(v0.length<=140737488355328->(av v1 v0.length/\(ai (v0.getD 0 v1)->(0<1000000000/\((∃ i1:Nat,let v5:=stI a v0 i1;(i1<=v5.ls.length/\((a=a/\(True/\(v0=v0/\(True/\(True/\(True/\(v1=(i1:Int)/\True)))))))/\(v2/\((v5.ac)=[]/\((v5.nx)=[]/\(([v1])=(v5.ls)/\(((fK (gV Int Int) (v0.getD 0 v1) v1)=(dA v0 v5.ls)/\(gB (((gV Int Int) (v0.getD 0 v1))) 0)=(v5.ls.length))/\v4))))))))/\(∀ i1:Nat,let v5:=stI a v0 i1;let v6:=v5.ls.getD i1 0;let v8:=(v5.ls).getD i1 v1;let v7:=a.next.getD (Int.toNat v8) [];let v9:=a.accept.getD (Int.toNat v8) [];let va:=(i1:Int);let vb:=((v5.ls).length:Int);(i1<=v5.ls.length->(ai vb->(((decide (va<vb))=true->(av va (v5.ls).length/\(ai v8->((0<=a.sig.aF/\a.sig.aF<=3)/\(ai v3->((∃ t2:Nat,let vc:=dK a v0 v6.toNat v5.ls t2;((t2<=mK a/\i1<v5.ls.length)/\((a=a/\(True/\(v0=v0/\(True/\(True/\(True/\(va=va/\(v8=v8/\(True/\(v3=v3/\(v1=(t2:Int)/\True)))))))))))/\((v5.ls)=(vc.1)/\(((dA v0 v5.ls)=(dA v0 vc.1)/\(v5.ls.length)=(vc.1.length))/\([]=(vc.2)/\(qF a i1)))))))/\(∀ t2:Nat,let vc:=dK a v0 v6.toNat v5.ls t2;let vd:=v7.getD t2 [];let ve:=(t2:Int);((t2<=mK a/\i1<v5.ls.length)->(((decide (ve<v3))=true->(ai a.sig.ar->((∃ x3:Nat,let vf:=bp a v0 v6.toNat t2 vc.1 x3;((x3<=kK a/\t2<mK a)/\((a=a/\(True/\(v0=v0/\(True/\(True/\(True/\(va=va/\(v8=v8/\(True/\(ve=ve/\(True/\(v3=v3/\(ve=ve/\(a.sig.ar=a.sig.ar/\(v1=(x3:Int)/\True)))))))))))))))/\((vc.1)=(vf.1)/\(((dA v0 vc.1)=(dA v0 vf.1)/\(vc.1.length)=(vf.1.length))/\([]=(vf.2)/\(lN a i1 t2)))))))/\(∀ x3:Nat,let vf:=bp a v0 v6.toNat t2 vc.1 x3;let vh:=vd.getD x3 v1;let vg:=v0.getD (Int.toNat vh) v1;let vi:=decide ((x3:Int)<a.sig.ar);((x3<=kK a/\t2<mK a)->((vi=true->(a.next.length<=140737488355328->(av v8 a.next.length/\(v7.length<=140737488355328->(av ve v7.length/\(vd.length<=140737488355328->(av (x3:Int) vd.length/\(ai vh->(((decide (vh<v1))=false->(av vh v0.length/\(ai vg->(((decide (vg=v1))=true->(zC a i1 t2 x3))/\((decide (vg=v1))=false->(zD a i1 t2 x3))))))/\((decide (vh<v1))=(!false)->((true=true->(zC a i1 t2 x3))/\(true=false->(zD a i1 t2 x3)))))))))))))/\(vi=false->(aX ((vc.2).length+([(vf.2)]).length) 24/\(ai (ve+(1:Int))/\(∃ t4:Nat,let vj:=dK a v0 v6.toNat v5.ls t4;((t4<=mK a/\i1<v5.ls.length)/\(mK a - t4<mK a - t2/\((a=a/\(True/\(v0=v0/\(True/\(True/\(True/\(va=va/\(v8=v8/\(True/\(v3=v3/\((ve+(1:Int))=(t4:Int)/\True)))))))))))/\((vf.1)=(vj.1)/\(((dA v0 vf.1)=(dA v0 vj.1)/\(vf.1.length)=(vj.1.length))/\(((vc.2)++([(vf.2)]))=(vj.2)/\(qF a i1)))))))))))))))))/\((decide (ve<v3))=false->(av v8 a.accept.length/\(v9.length<=1048576/\(a.accept.length<=140737488355328->(v9.length<=140737488355328->(v9.length<=140737488355328->(aX ((v5.ac).length+([v9]).length) 24/\(aX ((v5.nx).length+([(vc.2)]).length) 24/\(ai (va+(1:Int))/\(∃ i3:Nat,let vf:=stI a v0 i3;(i3<=vf.ls.length/\(61 - i3<61 - i1/\((a=a/\(True/\(v0=v0/\(True/\(True/\(True/\((va+(1:Int))=(i3:Int)/\True)))))))/\(v2/\(((v5.ac)++([v9]))=(vf.ac)/\(((v5.nx)++([(vc.2)]))=(vf.nx)/\((vc.1)=(vf.ls)/\(((dA v0 vc.1)=(dA v0 vf.ls)/\(vc.1.length)=(vf.ls.length))/\v4)))))))))))))))))))))))))))/\((decide (va<vb))=false->(O.mk (aH.mk a.sig.aF a.sig.ar) (v5.ac) (v5.nx))=(leA a)))))))))))))) ?_;have ha:=hp;have n0:a.accept.length<=nK a/\nK a<=a.accept.length:=⟨a8C _,a8C _⟩;have n1:(bB a.sig)=(mK a:Int):=ha.lens.2.2.2.1.symm;have n2:a.sig.ar=(kK a:Int):=ha.lens.2.2.2.2.symm;have n3:a.next.length=nK a:=ha.nx;have n4:=(eY a.sig).1 ha.s;have n5:=(Gr ha).o.len;refine⟨?_,λ _=>⟨?_,λ _=>⟨?_,⟨0,?_,⟨rfl,ae,rfl,ae,ae,ae,?_,ae⟩,⟨rfl,rfl,ae,ae,ae⟩,?_,?_,?_,⟨?_,?_⟩,⟨rfl,rfl,ae,ae,ae⟩,ae⟩,λ i1 _ _=>⟨λ _=>⟨?_,λ _=>⟨?_,λ _=>⟨⟨0,?_,⟨rfl,ae,rfl,ae,ae,ae,rfl,rfl,ae,rfl,?_,ae⟩,?_,⟨?_,?_⟩,?_,⟨rfl,rfl,ae,ae,ae⟩,rfl,rfl,⟨rfl,rfl,ae,ae,ae⟩,ae⟩,λ t2 _=>⟨λ _ _=>⟨⟨0,?_,⟨rfl,ae,rfl,ae,ae,ae,rfl,rfl,ae,rfl,ae,rfl,rfl,rfl,?_,ae⟩,?_,⟨?_,?_⟩,?_,rfl,⟨rfl,rfl,ae,ae,ae⟩,rfl,rfl,⟨rfl,rfl,ae,ae,ae⟩,ae⟩,λ x3 _=>⟨λ _ _=>⟨?_,λ _=>⟨?_,λ _=>⟨?_,λ _=>⟨λ _=>⟨?_,λ _=>⟨λ _=>⟨?_,?_,x3+1,?_,?_,⟨rfl,ae,rfl,ae,ae,ae,rfl,rfl,ae,rfl,ae,rfl,rfl,rfl,?_,ae⟩,?_,⟨?_,?_⟩,?_,rfl,⟨rfl,rfl,ae,ae,ae⟩,rfl,rfl,⟨rfl,rfl,ae,ae,ae⟩,ae⟩,λ _=>⟨?_,λ _ _=>⟨λ _=>⟨?_,λ _ _=>⟨?_,?_,?_,λ _=>⟨?_,?_,x3+1,?_,?_,⟨rfl,ae,rfl,ae,ae,ae,rfl,rfl,ae,rfl,ae,rfl,rfl,rfl,?_,ae⟩,?_,⟨?_,?_⟩,?_,rfl,⟨rfl,rfl,ae,ae,ae⟩,rfl,rfl,⟨rfl,rfl,ae,ae,ae⟩,ae⟩⟩⟩,λ _=>⟨?_,λ _=>⟨?_,?_,x3+1,?_,?_,⟨rfl,ae,rfl,ae,ae,ae,rfl,rfl,ae,rfl,ae,rfl,rfl,rfl,?_,ae⟩,?_,⟨?_,?_⟩,?_,rfl,⟨rfl,rfl,ae,ae,ae⟩,rfl,rfl,⟨rfl,rfl,ae,ae,ae⟩,ae⟩⟩⟩⟩⟩⟩,λ _=>⟨λ _=>⟨?_,?_,x3+1,?_,?_,⟨rfl,ae,rfl,ae,ae,ae,rfl,rfl,ae,rfl,ae,rfl,rfl,rfl,?_,ae⟩,?_,⟨?_,?_⟩,?_,rfl,⟨rfl,rfl,ae,ae,ae⟩,rfl,rfl,⟨rfl,rfl,ae,ae,ae⟩,ae⟩,λ _=>⟨?_,λ _ _=>⟨λ _=>⟨?_,λ _ _=>⟨?_,?_,?_,λ _=>⟨?_,?_,x3+1,?_,?_,⟨rfl,ae,rfl,ae,ae,ae,rfl,rfl,ae,rfl,ae,rfl,rfl,rfl,?_,ae⟩,?_,⟨?_,?_⟩,?_,rfl,⟨rfl,rfl,ae,ae,ae⟩,rfl,rfl,⟨rfl,rfl,ae,ae,ae⟩,ae⟩⟩⟩,λ _=>⟨?_,λ _=>⟨?_,?_,x3+1,?_,?_,⟨rfl,ae,rfl,ae,ae,ae,rfl,rfl,ae,rfl,ae,rfl,rfl,rfl,?_,ae⟩,?_,⟨?_,?_⟩,?_,rfl,⟨rfl,rfl,ae,ae,ae⟩,rfl,rfl,⟨rfl,rfl,ae,ae,ae⟩,ae⟩⟩⟩⟩⟩⟩⟩⟩⟩,λ _=>⟨?_,?_,t2+1,?_,?_,⟨rfl,ae,rfl,ae,ae,ae,rfl,rfl,ae,rfl,?_,ae⟩,?_,⟨?_,?_⟩,?_,⟨rfl,rfl,ae,ae,ae⟩,rfl,rfl,⟨rfl,rfl,ae,ae,ae⟩,ae⟩⟩⟩,λ _=>⟨?_,?_,λ _ _ _=>⟨?_,?_,?_,i1+1,?_,?_,⟨rfl,ae,rfl,ae,ae,ae,?_,ae⟩,⟨rfl,rfl,ae,ae,ae⟩,?_,?_,?_,⟨?_,?_⟩,⟨rfl,rfl,ae,ae,ae⟩,ae⟩⟩⟩⟩⟩⟩,λ _=>?_⟩⟩⟩⟩;all_goals try and_intros
 all_goals (try simp only[a8S,a9b,a8z,a8y,av,ai,aX,a9j,a9y,a9r,a9m,b0R,a8E,a8F,a8R] at *);first|done|with_reducible assumption|omega|with_reducible rfl|exact trivial|(have q0:=wM ha i1;obtain⟨_,_,_,_,_,_,_,_,_⟩:=q0;omega)|(have q0:=wM ha (i1+1);obtain⟨_,_,_,_,_,_,_,_,_⟩:=q0;omega)|(have q0:=wM ha i1;obtain⟨_,_,_,_,_,_,_,_,_⟩:=q0;have q0:=qR ha (i:=i1) (by omega);obtain⟨_,_,_,_,_,_,_⟩:=q0;omega)|(have q0:=wM ha i1;obtain⟨_,_,_,_,_,_,_,_,_⟩:=q0;have q0:=qR ha (i:=i1) (by omega);obtain⟨_,_,_,_,_,_,_⟩:=q0;have q0:=OW ha (i:=i1) (t:=t2) (by omega) (by omega);obtain⟨_,_⟩:=q0;omega)|(have q0:=wM ha i1;obtain⟨_,_,_,_,_,_,_,_,_⟩:=q0;have q0:=qR ha (i:=i1) (by omega);obtain⟨_,_,_,_,_,_,_⟩:=q0;have q0:=OW ha (i:=i1) (t:=t2) (by omega) (by omega);obtain⟨_,_⟩:=q0;have q0:=S7 ha (i:=i1) (t:=t2) (x:=x3) (by omega) (by omega) (by omega);obtain⟨_,_,_⟩:=q0;omega)|(have q0:=wM ha i1;obtain⟨_,_,_,_,_,_,_,_,_⟩:=q0;have q0:=qR ha (i:=i1) (by omega);obtain⟨_,_,_,_,_,_,_⟩:=q0;have q0:=OW ha (i:=i1) (t:=t2) (by omega) (by omega);obtain⟨_,_⟩:=q0;have q0:=S7 ha (i:=i1) (t:=t2) (x:=x3) (by omega) (by omega) (by omega);obtain⟨_,_,_⟩:=q0;have q0:=lnK ha (i:=i1) (t:=t2) (x:=x3) (by omega) (by omega) (by omega);obtain⟨_,_⟩:=q0;omega)|exact Vb _|exact RE (by with_reducible assumption)|exact RF (by with_reducible assumption)|exact RG (by with_reducible assumption) (by with_reducible assumption) (by with_reducible assumption)|exact Om (by with_reducible assumption) (by with_reducible assumption) (by with_reducible assumption)|exact a0L (by with_reducible assumption)|exact a0M (by with_reducible assumption)|exact a0N (by with_reducible assumption) (by with_reducible assumption) (by with_reducible assumption)|exact a0O (by with_reducible assumption) (by with_reducible assumption) (by with_reducible assumption)|exact a0P (by with_reducible assumption)|exact a0Q (by with_reducible assumption)|exact a0R (by with_reducible assumption) (by with_reducible assumption) (by with_reducible assumption)|exact a0S (by with_reducible assumption) (by with_reducible assumption) (by with_reducible assumption)|exact a0T (by with_reducible assumption)|exact a0U (by with_reducible assumption)|exact a0V (by with_reducible assumption) (by with_reducible assumption) (by with_reducible assumption)|exact Vv (by with_reducible assumption) (by with_reducible assumption) (by with_reducible assumption)|exact Vw (by with_reducible assumption) (by with_reducible assumption) (by with_reducible assumption)|exact zXL|exact zXM|exact zXN|exact zXR|exact zTL|exact zTM|exact zTN|exact zTR|exact zIA|exact zIX|exact zIL|exact zIM|exact zIN|exact a3v|exact a3w|exact eXL (by omega)|exact eXM (by omega)|exact eXN (by omega)|exact eXR (by omega)|exact WH (by omega) (by omega)|exact eTM (by omega) (by omega)|exact eTN (by omega) (by omega)|exact eTX (by omega) (by omega)|exact eTA (by omega)|(have q0:=wM ha i1;obtain⟨_,_,_,_,_,_,_,_,_⟩:=q0;exact SZ (i:=i1) (by omega) (by omega))|exact iI ha (by omega)
def gh(c:List Int)(s:Int):Int:=if s<0 then -1 else c.getD s.toNat 0
def a3O{c:List Int}{s:Int}(h:s<0) : -1=gh c s:=by rw[gh,a8A h]
def a3N{c:List Int}{s:Int}(h:¬ s<0):c.getD s.toNat 0=gh c s:=by rw[gh,a8v h]
def a4T{xs ys:List Bool}(h:¬ (xs.length:Int)=(ys.length:Int)):false=decide (xs=ys):=by
 rw[b0y];exact λ e=>h (by rw[e])
structure Eg(xs ys:List Bool)(k:Nat):Prop where
 hl:xs.length=ys.length
 hk:k<=xs.length
 he:∀ i,i<k->xs.getD i false=ys.getD i false
def Eg.first{xs ys:List Bool}(h:(xs.length:Int)=(ys.length:Int)):Eg xs ys 0:=⟨by omega,by omega,λ i hi=>by omega⟩
def Eg.next{xs ys:List Bool}{k:Nat}(h:Eg xs ys k)(hk:k<xs.length)(e:xs.getD k false=ys.getD k false):Eg xs ys (k+1):=⟨h.hl,hk,λ i hi=>by
 rcases a8Q i k with q|q
 .exact h.he i q
 .rw[show i=k by omega];exact e⟩
def Eg.done{xs ys:List Bool}{k:Nat}(h:Eg xs ys k)(hk:¬ k<xs.length):true=decide (xs=ys):=by
 rw[b2p];refine b1r h.hl λ i h1 h2=>?_;have:=h.he i (by have:=h.hk;omega);rw[a8D,a8D,a8H h1,a8H h2] at this;exact this
def a4U{xs ys:List Bool}{k:Nat}(h:¬ xs.getD k false=ys.getD k false):false=decide (xs=ys):=by
 rw[b0y];exact λ e=>h (by rw[e])
def Bt(xs:List Int)(n:Int):Nat:=xs.findIdx λ y=>decide (y=n)
def rU(xs:List Int)(n:Int):Int:=if Bt xs n<xs.length then (Bt xs n:Int) else -1
def a4v(xs:List Int)(n:Int)(k:Nat)(h:k<xs.length)(hk:k<=Bt xs n)(e:xs.getD k 0=n):(k:Int)=rU xs n:=by
 have:Bt xs n=k:=by
  refine b2g ?_ hk;refine Nat.le_of_not_lt λ q=>?_;have:=b2i q;rw[a8D,a8H h] at e;have e:xs[k]=n:=e;simp[e] at this
 rw[rU,this,a8A h]
def a4u(xs:List Int)(n:Int)(k:Nat)(h:k<xs.length)(hk:k<=Bt xs n)(e:¬ xs.getD k 0=n):k+1<=Bt xs n:=by
 rcases a8Q k (Bt xs n) with q|q
 .exact q
 .exfalso;have hh:Bt xs n=k:=by omega
  have hl:Bt xs n<xs.length:=by omega
  have:=b1g (p:=λ y=>decide (y=n)) (w:=hl);apply e;rw[a8D,a8H h];have h2:=a8U this;show xs[k]=n;rw[<-h2];simp only[Bt] at hh;simp[hh]
def Zy{xs:List Int}{n:Int}{k:Nat}(hk:k<=xs.length/\k<=Bt xs n)(h:¬ k<xs.length) : -1=rU xs n:=by
 rw[rU,a8v (by omega)]
def alP(a:O)(c:List Int)(s t:Nat):Prop:=a.accept.getD s []=a.accept.getD t []/\∀ i,i<mK a->∀ x,x<kK a->gh c (lj a s i x)=gh c (lj a t i x)
noncomputable def FU(a:O)(c:List Int)(s t:Nat):Bool:=by
 classical exact decide (alP a c s t)
def a5o{a:O}{c:List Int}{s t:Nat}(h:alP a c s t):true=FU a c s t:=by unfold FU;simp[h]
def a2i{a:O}{c:List Int}{s t:Nat}(h:¬ alP a c s t):false=FU a c s t:=by unfold FU;simp[h]
structure pz(a:O)(c:List Int)(s t i x:Nat):Prop where
 ha:a.accept.getD s []=a.accept.getD t []
 hi:i<=mK a
 hx:x<=kK a
 hr:∀ j,j<i->∀ y,y<kK a->gh c (lj a s j y)=gh c (lj a t j y)
 hq:∀ y,y<x->gh c (lj a s i y)=gh c (lj a t i y)
def pz.first{a:O}{c:List Int}{s t:Nat}(h:a.accept.getD s []=a.accept.getD t []):pz a c s t 0 0:=⟨h,by omega,by omega,λ i hi=>by omega,λ i hi=>by omega⟩
def pz.a0I{a:O}{c:List Int}{s t i x:Nat}(h:pz a c s t i x)(hx:x<kK a)(e:gh c (((a.next.getD s []).getD i []).getD x 0)=gh c (((a.next.getD t []).getD i []).getD x 0)):pz a c s t i (x+1):=⟨h.ha,h.hi,hx,h.hr,λ y hy=>by
 rcases a8Q y x with q|q
 .exact h.hq y q
 .rw[show y=x by omega];exact e⟩
def pz.a4W{a:O}{c:List Int}{s t i x:Nat}(h:pz a c s t i x)(hi:i<mK a)(hx:¬ x<kK a):pz a c s t (i+1) 0:=⟨h.ha,hi,by omega,λ j hj y hy=>by
 rcases a8Q j i with q|q
 .exact h.hr j q y hy
 .rw[show j=i by omega];exact h.hq y (by omega),λ y hy=>by omega⟩
def pz.done{a:O}{c:List Int}{s t i x:Nat}(h:pz a c s t i x)(hi:¬ i<mK a):true=FU a c s t:=a5o ⟨h.ha,λ j hj y hy=>h.hr j (by omega) y hy⟩
def pz.no{a:O}{c:List Int}{s t i x:Nat}(_h:pz a c s t i x)(hi:i<mK a)(hx:x<kK a)(e:¬ gh c (((a.next.getD s []).getD i []).getD x 0)=gh c (((a.next.getD t []).getD i []).getD x 0)):false=FU a c s t:=a2i λ q=>e (q.2 i hi x hx)
def a5n{a:O}{c:List Int}{s t:Nat}(h:¬ a.accept.getD s []=a.accept.getD t []):false=FU a c s t:=a2i λ q=>h q.1
structure AlK(a:O)(c:List Int)(s t:Int):Prop where
 ha:cG a
 hc:c.length=nK a
 hs:0<=s/\s<nK a
 ht:0<=t/\t<nK a
structure RwL(a:O)(s i:Nat):Prop where
 n:nK a<=60/\a.accept.length<=60
 nx:a.next.length=nK a
 m:mK a<=8
 k:kK a<=4
 ac:s<nK a->(a.accept.getD s []).length=mK a
 r:s<nK a->(a.next.getD s []).length=mK a
 rr:s<nK a->i<mK a->((a.next.getD s []).getD i []).length=kK a
def cG.pb{a:O}(h:cG a)(s i:Nat):RwL a s i:=⟨⟨h.n60,h.n60⟩,h.nx,h.lens.2.1,h.lens.2.2.1,λ hs=>(h.wU hs).1,λ hs=>(h.wU hs).2,λ hs hi=>h.NL hs hi⟩
def oN:aQ:=⟨xW,[.v (.slice (.int .i64)), .v (.int .i64)],λ (c:List Int) (s:Int)=>⟨(some (s<(c.length:Int)),[⟨(.int .i64),gh c s⟩])⟩⟩
def I8(c:List Int)(s:Int):Nat->aG:=cf
def rz:aQ.Good oN:=by
 refine⟨aB uO,?_⟩;intro (c:List Int) (s:Int) (hp:s<(c.length:Int));refine aP [] [] [] [] trivial uO Da (I8 c s) (let v0:=c.getD (Int.toNat s) (0:Int);((((decide (s<(0:Int)))=true->(-1:Int)=(gh c s))/\((decide (s<(0:Int)))=false->(av s c.length/\(ai v0->v0=(gh c s))))))) ?_;refine⟨λ _=>?_,λ _=>⟨?_,λ _=>?_⟩⟩;all_goals try and_intros
 all_goals (try simp only[a8S,a9b,a8z,a8y,av,ai,aX,cB,a9j,b0r,a9G,b1F,a9y,a9r,a9m,a8E,a8F,a8R,a9q] at *);first|done|with_reducible assumption|omega|with_reducible rfl|exact trivial|exact a3O (by with_reducible assumption)|exact a3N (by with_reducible assumption)
def tQ:aQ:=⟨tZ,[.v (.slice .bool), .v (.slice .bool)],λ (xs:List Bool) (ys:List Bool)=>⟨(some (xs.length<=1000/\ys.length<=1000),[⟨.bool,decide (xs=ys)⟩])⟩⟩
def Fl(xs:List Bool)(ys:List Bool):Nat->aG:=(dU 0 (.b (Nat) (λ k=>Eg xs ys k) (λ k=>xs.length - k) [6,7,8,9,10] (λ k=>[(5, .aK ⟨(.int .i64),((k:Int):Int)⟩)])) cf)
def Aq:aQ.Good tQ:=by
 refine⟨aB rm,?_⟩;intro (xs:List Bool) (ys:List Bool) (hp:xs.length<=1000/\ys.length<=1000);refine aP [] [] [] [] trivial rm Al (Fl xs ys) (let v0:=(xs.length:Int);let v1 := !(decide (v0=((ys.length:Int))));let v2:=decide (xs=ys);((ai v0->(ai ((ys.length:Int))->((v1=true->false=v2)/\(v1=false->((∃ k1:Nat,(Eg xs ys k1/\((xs=xs/\(ys=ys/\((0:Int)=(k1:Int)/\True)))/\True)))/\(∀ k1:Nat,let v3 := !((xs.getD k1 false) == (ys.getD k1 false));let v4:=(k1:Int);(Eg xs ys k1->(ai v0->(((decide (v4<v0))=true->(av v4 xs.length/\(av v4 ys.length/\((v3=true->false=v2)/\(v3=false->(ai (v4+(1:Int))/\(∃ k2:Nat,(Eg xs ys k2/\(xs.length - k2<xs.length - k1/\((xs=xs/\(ys=ys/\((v4+(1:Int))=(k2:Int)/\True)))/\True))))))))))/\((decide (v4<v0))=false->true=v2)))))))))))) ?_;refine λ _ _=>⟨λ _=>?_,λ _=>⟨⟨0,?_,⟨rfl,rfl,?_,ae⟩,ae⟩,λ k1 _ _=>⟨λ _=>⟨?_,?_,λ _=>?_,λ _=>⟨?_,k1+1,?_,?_,⟨rfl,rfl,?_,ae⟩,ae⟩⟩,λ _=>?_⟩⟩⟩;all_goals try and_intros
 all_goals (try simp only[a8S,a9b,a8z,a8y,av,ai,aX,cB,a9j,b0r,a9G,b1F,a9y,a9r,a9m,a8E,a8F,a8R,a9q] at *);first|done|with_reducible assumption|omega|with_reducible rfl|exact trivial|exact Eg.first (by with_reducible assumption)|exact Eg.next (by with_reducible assumption) (by omega) (by with_reducible assumption)|exact Eg.done (by with_reducible assumption) (by omega)|exact a4U (by with_reducible assumption)|exact a4T (by with_reducible assumption)|(have:=(Eg.hl (by with_reducible assumption));omega)
def xL:aQ:=⟨xX,[.v (.slice (.int .i64)), .v (.int .i64)],λ (xs:List Int) (n:Int)=>⟨(some (xs.length<=1000),[⟨(.int .i64),rU xs n⟩])⟩⟩
def Ja(xs:List Int)(n:Int):Nat->aG:=(dU 0 (.b (Nat) (λ k=>k<=xs.length/\k<=Bt xs n) (λ k=>xs.length - k) [] (λ k=>[(5, .aK ⟨(.int .i64),((k:Int):Int)⟩)])) cf)
def Dn:aQ.Good xL:=by
 refine⟨aB uP,?_⟩;intro (xs:List Int) (n:Int) (hp:xs.length<=1000);refine aP [] [] [] [] trivial uP Dc (Ja xs n) (let v0:=(xs.length:Int);(((∃ k1:Nat,((k1<=xs.length/\k1<=Bt xs n)/\((xs=xs/\(n=n/\((0:Int)=(k1:Int)/\True)))/\True)))/\(∀ k1:Nat,let v1:=xs.getD k1 (0:Int);let v2:=(k1:Int);((k1<=xs.length/\k1<=Bt xs n)->(ai v0->(((decide (v2<v0))=true->(av v2 xs.length/\(ai v1->(((decide (v1=n))=true->v2=(rU xs n))/\((decide (v1=n))=false->(ai (v2+(1:Int))/\(∃ k2:Nat,((k2<=xs.length/\k2<=Bt xs n)/\(xs.length - k2<xs.length - k1/\((xs=xs/\(n=n/\((v2+(1:Int))=(k2:Int)/\True)))/\True))))))))))/\((decide (v2<v0))=false->(-1:Int)=(rU xs n))))))))) ?_;refine⟨⟨0,?_,⟨rfl,rfl,?_,ae⟩,ae⟩,λ k1 _ _=>⟨λ _=>⟨?_,λ _=>⟨λ _=>?_,λ _=>⟨?_,k1+1,?_,?_,⟨rfl,rfl,?_,ae⟩,ae⟩⟩⟩,λ _=>?_⟩⟩;all_goals try and_intros
 all_goals (try simp only[a8S,a9b,a8z,a8y,av,ai,aX,cB,a9j,b0r,a9G,b1F,a9y,a9r,a9m,a8E,a8F,a8R,a9q] at *);first|done|with_reducible assumption|omega|with_reducible rfl|exact trivial|exact a4v xs n _ (by omega) (by omega) (by with_reducible assumption)|exact a4u xs n _ (by omega) (by omega) (by with_reducible assumption)|exact Zy (by with_reducible assumption) (by omega)
def xK:aQ:=⟨xV,[.r (.st .automaton), .v (.slice (.int .i64)), .v (.int .i64), .v (.int .i64)],λ (a:O) (c:List Int) (s:Int) (t:Int)=>⟨(some (AlK a c s t),[⟨.bool,FU a c s.toNat t.toNat⟩])⟩⟩
def I7(a:O)(c:List Int)(s:Int)(t:Int):Nat->aG:=(dU 0 (.mk (Nat) (λ i=>pz a c s.toNat t.toNat i 0) (λ i=>mK a - i) [] [11,12,13,14,15,16,17,18,19,20,21,22,23,24,25,26] (λ i=>[(9, .aK ⟨(.int .i64),((i:Int):Int)⟩)]) [] (λ i=>[]) [] [] (λ i=>(dU 2 (.b (Nat) (λ x=>pz a c s.toNat t.toNat i x/\i<mK a) (λ x=>kK a - x) [27,28,29,30,31,32,33,34,35,36] (λ x=>[(10, .aK ⟨(.int .i64),((x:Int):Int)⟩)])) cf))) cf)
def Dm:aQ.Good xK:=by
 refine⟨aB uN,?_⟩;intro (a:O) (c:List Int) (s:Int) (t:Int) (hp:AlK a c s t);refine aP [tQ,oN] [] [] [] ⟨Aq,rz,ae⟩ uN C9 (I7 a c s t) (let v0:=a.next.getD (Int.toNat s) [];let v1:=a.next.getD (Int.toNat t) [];let v2:=a.accept.getD (Int.toNat s) [];let v3:=a.accept.getD (Int.toNat t) [];let v4:=(0:Int);let v5:=FU a c s.toNat t.toNat;let v6:=(v0.length:Int);((av s a.accept.length/\(av t a.accept.length/\(a.accept.length<=140737488355328->(v2.length<=140737488355328->(a.accept.length<=140737488355328->(v3.length<=140737488355328->((v2.length<=1000/\v3.length<=1000)/\(((!(decide (v2=v3)))=true->false=v5)/\((!(decide (v2=v3)))=false->((∃ i1:Nat,(pz a c s.toNat t.toNat i1 0/\((a=a/\(c=c/\(s=s/\(t=t/\(v4=(i1:Int)/\True)))))/\True)))/\(∀ i1:Nat,let v7:=v0.getD i1 [];let v8:=v1.getD i1 [];let v9:=(i1:Int);let va:=(v7.length:Int);(pz a c s.toNat t.toNat i1 0->(a.next.length<=140737488355328->(av s a.next.length/\(v0.length<=140737488355328->(ai v6->(((decide (v9<v6))=true->((∃ x2:Nat,((pz a c s.toNat t.toNat i1 x2/\i1<mK a)/\((a=a/\(c=c/\(s=s/\(t=t/\(v9=v9/\(v4=(x2:Int)/\True))))))/\True)))/\(∀ x2:Nat,let vc:=v7.getD x2 v4;let vd:=v8.getD x2 v4;let vb := !(decide ((gh c vc)=(gh c vd)));let ve:=(x2:Int);((pz a c s.toNat t.toNat i1 x2/\i1<mK a)->(a.next.length<=140737488355328->(av s a.next.length/\(v0.length<=140737488355328->(av v9 v0.length/\(v7.length<=140737488355328->(ai va->(((decide (ve<va))=true->(av s a.next.length/\(av v9 v0.length/\(av ve v7.length/\(vc<(c.length:Int)/\(av t a.next.length/\(av v9 v1.length/\(av ve v8.length/\(a.next.length<=140737488355328->(v0.length<=140737488355328->(v7.length<=140737488355328->(ai vc->(ai (gh c vc)->(a.next.length<=140737488355328->(v1.length<=140737488355328->(v8.length<=140737488355328->(ai vd->(vd<(c.length:Int)/\(ai (gh c vd)->((vb=true->false=v5)/\(vb=false->(ai (ve+(1:Int))/\(∃ x3:Nat,((pz a c s.toNat t.toNat i1 x3/\i1<mK a)/\(kK a - x3<kK a - x2/\((a=a/\(c=c/\(s=s/\(t=t/\(v9=v9/\((ve+(1:Int))=(x3:Int)/\True))))))/\True))))))))))))))))))))))))))/\((decide (ve<va))=false->(ai (v9+(1:Int))/\(∃ i3:Nat,(pz a c s.toNat t.toNat i3 0/\(mK a - i3<mK a - i1/\((a=a/\(c=c/\(s=s/\(t=t/\((v9+(1:Int))=(i3:Int)/\True)))))/\True)))))))))))))))))/\((decide (v9<v6))=false->true=v5)))))))))))))))))))) ?_;obtain⟨ha,hc,hs,ht⟩:=hp;have n1:a.accept.length<=nK a/\nK a<=a.accept.length:=⟨a8C _,a8C _⟩;have n2:=ha.nx;have n3:=ha.pb 0 0;have n4:=n3.n;have n5:=n3.m;have n6:=n3.k;have ls:=ha.wU (show s.toNat<nK a by omega);have lt:=ha.wU (show t.toNat<nK a by omega);have rs:∀ i,i<mK a->((a.next.getD s.toNat []).getD i []).length=kK a:=λ i hi=>ha.NL (by omega) hi;have rt:∀ i,i<mK a->((a.next.getD t.toNat []).getD i []).length=kK a:=λ i hi=>ha.NL (by omega) hi;have ws:∀ i x,i<mK a->x<kK a->((a.next.getD s.toNat []).getD i []).getD x 0<(c.length:Int):=λ i x hi hx=>by rw[hc];exact (ha.row (show s.toNat<nK a by omega) hi hx).2
 have wt:∀ i x,i<mK a->x<kK a->((a.next.getD t.toNat []).getD i []).getD x 0<(c.length:Int):=λ i x hi hx=>by rw[hc];exact (ha.row (show t.toNat<nK a by omega) hi hx).2
 refine⟨?_,?_,λ _ _ _ _=>⟨?_,λ _=>?_,λ _=>⟨⟨0,?_,⟨rfl,rfl,rfl,rfl,?_,ae⟩,ae⟩,λ i1 _ _=>⟨?_,λ _ _=>⟨λ _=>⟨⟨0,?_,⟨rfl,rfl,rfl,rfl,rfl,?_,ae⟩,ae⟩,λ x2 _ _=>⟨?_,λ _=>⟨?_,λ _ _=>⟨λ _=>⟨?_,?_,?_,?_,?_,?_,?_,λ _ _ _ _ _ _ _ _ _=>⟨?_,λ _=>⟨λ _=>?_,λ _=>⟨?_,x2+1,?_,?_,⟨rfl,rfl,rfl,rfl,rfl,?_,ae⟩,ae⟩⟩⟩⟩,λ _=>⟨?_,i1+1,?_,?_,⟨rfl,rfl,rfl,rfl,?_,ae⟩,ae⟩⟩⟩⟩⟩,λ _=>?_⟩⟩⟩⟩⟩;all_goals try and_intros
 all_goals (try simp only[a8S,a9b,a8z,a8y,av,ai,aX,cB,a9j,b0r,a9G,b1F,a9y,a9r,a9m,a8E,a8F,a8R,a9q] at *);first|done|with_reducible assumption|omega|with_reducible rfl|exact trivial|(have q1:=rs i1 (by omega);have q2:=rt i1 (by omega);omega)|(have q1:=rs i1 (by omega);have q2:=rt i1 (by omega);exact ws i1 x2 (by omega) (by omega))|(have q1:=rs i1 (by omega);have q2:=rt i1 (by omega);exact wt i1 x2 (by omega) (by omega))|exact pz.first (by with_reducible assumption)|exact a5n (by with_reducible assumption)|exact pz.done (by with_reducible assumption) (by omega)|exact pz.a0I (b0K (by with_reducible assumption)) (by omega) (by with_reducible assumption)|(have q1:=rs i1 (by omega);have q2:=rt i1 (by omega);exact pz.a4W (b0K (by with_reducible assumption)) (by omega) (by omega))|(have q1:=rs i1 (by omega);have q2:=rt i1 (by omega);exact pz.no (b0K (by with_reducible assumption)) (by omega) (by omega) (by with_reducible assumption))|exact b0K (by with_reducible assumption)|(have q1:=rs i1 (by omega);have q2:=rt i1 (by omega);exact pz.a0I (b0K (by with_reducible assumption)) (by omega) (by with_reducible assumption))
noncomputable def kU(a:O)(c:List Int)(s t:Nat):Bool:=decide (c.getD s 0=c.getD t 0)&&FU a c s t
def gY(p:Nat->Bool)(out:List Int):Nat->Int
 | 0 => -1
 | t+1=>if gY p out t<0 then (if p t=true then out.getD t 0 else gY p out t) else gY p out t
def Ti{p:Nat->Bool}{out:List Int}{t:Nat}(h:¬ gY p out t<0):∀ i,gY p out (t+i)=gY p out t
 | 0=>rfl
 | i+1=>by
  have e:=Ti h i;rw[<-b0z,gY,e,a8v h]
def Wb{p:Nat->Bool}{out:List Int}{t s:Nat}(ht:t<=s)(h:¬ gY p out t<0):gY p out t=gY p out s:=by
 rw[<-Ti h (s - t),show t+(s - t)=s by omega]
def a3i{p:Nat->Bool}{out:List Int}{t:Nat}(h:gY p out t<0)(hp:p t=true):out.getD t 0=gY p out (t+1):=by rw[gY,a8A h,a8A hp]
def Z7{p:Nat->Bool}{out:List Int}{t:Nat}(h:gY p out t<0)(hp:¬ p t=true):gY p out t=gY p out (t+1):=by rw[gY,a8A h,a8v hp]
noncomputable def bZ(a:O)(c:List Int):Nat->List Int×Nat
 | 0=>([],0)
 | s+1=>if gY (kU a c s) (bZ a c s).1 s<0 then ((bZ a c s).1++[((bZ a c s).2:Int)],(bZ a c s).2+1) else ((bZ a c s).1++[gY (kU a c s) (bZ a c s).1 s],(bZ a c s).2)
def Wn{a:O}{c:List Int}{s:Nat}(h:gY (kU a c s) (bZ a c s).1 s<0):(bZ a c s).1++[((bZ a c s).2:Int)]=(bZ a c (s+1)).1/\((bZ a c s).2:Int)+1=((bZ a c (s+1)).2:Int):=by
 rw[bZ,a8A h];exact⟨rfl,rfl⟩
def a0C{a:O}{c:List Int}{s:Nat}(h:¬ gY (kU a c s) (bZ a c s).1 s<0):(bZ a c s).1++[gY (kU a c s) (bZ a c s).1 s]=(bZ a c (s+1)).1/\((bZ a c s).2:Int)=((bZ a c (s+1)).2:Int):=by
 rw[bZ,a8v h];exact⟨rfl,rfl⟩
def CI(a:O)(c:List Int):∀ s,(bZ a c s).1.length=s/\(bZ a c s).2<=s
 | 0=>⟨rfl,a8C _⟩
 | s+1=>by
  have:=CI a c s;rw[bZ];split<;>simp<;>omega
def a5r{a:O}{c:List Int}{s t:Nat}(h:c.getD s 0=c.getD t 0)(h2:FU a c s t=true):kU a c s t=true:=by rw[kU,b2p h,h2];rfl
def a5p{a:O}{c:List Int}{s t:Nat}(h:¬ c.getD s 0=c.getD t 0):¬ kU a c s t=true:=by rw[kU,b0y h,b2n];decide
def a5q{a:O}{c:List Int}{s t:Nat}(h:FU a c s t=false):¬ kU a c s t=true:=by rw[kU,h,Bool.and_false];decide
def LA{a:O}{c:List Int}{s t:Nat}:kU a c s t=true↔c.getD s 0=c.getD t 0/\alP a c s t:=by
 unfold kU FU;simp
def a3r{a:O}{c:List Int}{s t:Nat}(h:¬ gY (kU a c s) (bZ a c s).1 t<0)(ht:t<=s):(bZ a c s).1++[gY (kU a c s) (bZ a c s).1 t]=(bZ a c (s+1)).1/\((bZ a c s).2:Int)=((bZ a c (s+1)).2:Int):=by
 have e:=Wb ht h;rw[e] at h ⊢;exact a0C h
structure a5k(a:O)(c:List Int)(s:Nat):Prop where
 bd:∀ i,i<s->0<=(bZ a c s).1.getD i 0/\(bZ a c s).1.getD i 0<((bZ a c s).2:Int)
 eq:∀ i j,i<s->j<s->((bZ a c s).1.getD i 0=(bZ a c s).1.getD j 0↔kU a c i j=true)
 aZ:nO (λ i=>(bZ a c s).1.getD i 0) s=(bZ a c s).2
def RW(a:O)(c:List Int)(s:Nat):kU a c s s=true:=LA.2 ⟨rfl,rfl,λ _ _ _ _=>rfl⟩
def F3{a:O}{c:List Int}{s t:Nat}(h:kU a c s t=true):kU a c t s=true:=by
 rw[LA] at h ⊢;exact⟨h.1.symm,h.2.1.symm,λ i hi x hx=>(h.2.2 i hi x hx).symm⟩
def Pl{a:O}{c:List Int}{s t u:Nat}(h:kU a c s t=true)(k:kU a c t u=true):kU a c s u=true:=by
 rw[LA] at h k ⊢;exact⟨h.1.trans k.1,h.2.1.trans k.2.1,λ i hi x hx=>(h.2.2 i hi x hx).trans (k.2.2 i hi x hx)⟩
def Wc{p:Nat->Bool}{out:List Int}:∀ t,(∀ i,i<t->0<=out.getD i 0)->gY p out t<0->∀ i,i<t->¬ p i=true
 | 0,_,_,i,hi=>by omega
 | t+1,h,hn,i,hi=>by
  rw[gY] at hn;split at hn
  .rename_i h0;split at hn
   .have:=h t (by omega);omega
   .rename_i hp;rcases a8Q i t with q|q
    .exact Wc t (λ i hi=>h i (by omega)) h0 i q
    .rw[show i=t by omega];exact hp
  .rename_i h0;exact absurd hn h0
def Wd{p:Nat->Bool}{out:List Int}:∀ t,¬ gY p out t<0->∃ i,i<t/\p i=true/\gY p out t=out.getD i 0
 | 0,h=>by exact absurd (show gY p out 0<0 by simp[gY]) h
 | t+1,h=>by
  by_cases h0:gY p out t<0
  .by_cases hp:p t=true
   .exact⟨t,by omega,hp,(a3i h0 hp).symm⟩
   .rw[<-Z7 h0 hp] at h;exact absurd h0 h
  .obtain⟨i,h1,h2,h3⟩:=Wd t h0;exact⟨i,by omega,h2,by rw[<-h3];exact (Wb (b2L _) h0).symm⟩
def PA{α:Type}{z:α}{xs:List α}{y:α}{i:Nat}:(xs++[y]).getD i z=if i<xs.length then xs.getD i z else if i=xs.length then y else z:=by
 simp only[a8D];by_cases h:i<xs.length
 .rw[a8A h,a9K h]
 .rw[a8v h,b0h (by omega)];by_cases h2:i=xs.length
  .rw[a8A h2,h2];simp
  .rw[a8v h2,b0w (by simp;omega)];rfl
def Iu(c:Nat->Int)(n:Nat):nO c (n+1)=nO c n+(if pN c n=true then 1 else 0):=by
 unfold nO;rw[List.range_succ,List.filter_append];simp only[List.filter_cons,List.filter_nil,List.length_append];split<;>simp
def sN{c d:Nat->Int}:∀ n,(∀ i,i<n->c i=d i)->nO c n=nO d n
 | 0,_=>rfl
 | n+1,h=>by
  rw[Iu,Iu,sN n λ i hi=>h i (by omega)];have:pN c n=pN d n:=by
   rw[b1u,gZ,gZ];refine forall_congr' λ j=>forall_congr' λ hj=>?_;rw[h j (by omega),h n (by omega)]
  rw[this]
def LP(a:O)(c:List Int):∀ s,a5k a c s
 | 0=>⟨λ i hi=>by omega,λ i j hi=>by omega,rfl⟩
 | s+1=>by
  have h:=LP a c s;have hl:=(CI a c s).1;have hz:=(CI a c s).2;by_cases ho:gY (kU a c s) (bZ a c s).1 s<0
  .have hn:=Wc s (λ i hi=>(h.bd i hi).1) ho;have g:∀ i,(bZ a c (s+1)).1.getD i 0=if i<s then (bZ a c s).1.getD i 0 else if i=s then ((bZ a c s).2:Int) else 0:=λ i=>by
    rw[<-(Wn ho).1,PA,hl]
   have g2:(bZ a c (s+1)).2=(bZ a c s).2+1:=by have:=(Wn ho).2;omega
   have go:∀ i,i<s->(bZ a c (s+1)).1.getD i 0=(bZ a c s).1.getD i 0:=λ i hi=>by rw[g,a8A hi]
   have gs:(bZ a c (s+1)).1.getD s 0=((bZ a c s).2:Int):=by rw[g,a8v (by omega),a8A rfl]
   refine⟨λ i hi=>?_,λ i j hi hj=>?_,?_⟩
   .rw[g2];rcases a8Q i s with q|q
    .rw[go i q];have:=h.bd i q;omega
    .rw[show i=s by omega,gs];omega
   .rcases a8Q i s with q|q
    .rcases a8Q j s with r|r
     .rw[go i q,go j r];exact h.eq i j q r
     .rw[go i q,show j=s by omega,gs];have:=h.bd i q;exact⟨λ e=>by omega,λ e=>absurd (F3 e) (hn i q)⟩
    .rcases a8Q j s with r|r
     .rw[go j r,show i=s by omega,gs];have:=h.bd j r;exact⟨λ e=>by omega,λ e=>absurd e (hn j r)⟩
     .rw[show i=s by omega,show j=s by omega];exact⟨λ _=>RW a c s,λ _=>rfl⟩
   .rw[Iu,sN s go,h.aZ,a8A,g2];rw[gZ];intro j hj e;rw[go j hj,gs] at e;have:=h.bd j hj;omega
  .obtain⟨i0,Bo,hp,he⟩:=Wd s ho;have g:∀ i,(bZ a c (s+1)).1.getD i 0=if i<s then (bZ a c s).1.getD i 0 else if i=s then gY (kU a c s) (bZ a c s).1 s else 0:=λ i=>by
    rw[<-(a0C ho).1,PA,hl]
   have g2:(bZ a c (s+1)).2=(bZ a c s).2:=by have:=(a0C ho).2;omega
   have go:∀ i,i<s->(bZ a c (s+1)).1.getD i 0=(bZ a c s).1.getD i 0:=λ i hi=>by rw[g,a8A hi]
   have gs:(bZ a c (s+1)).1.getD s 0=(bZ a c s).1.getD i0 0:=by rw[g,a8v (by omega),a8A rfl,he]
   have ge:∀ j,j<s->((bZ a c s).1.getD i0 0=(bZ a c s).1.getD j 0↔kU a c s j=true):=λ j hj=>by
    rw[h.eq i0 j Bo hj];exact⟨λ e=>Pl hp e,λ e=>Pl (F3 hp) e⟩
   refine⟨λ i hi=>?_,λ i j hi hj=>?_,?_⟩
   .rw[g2];rcases a8Q i s with q|q
    .rw[go i q];exact h.bd i q
    .rw[show i=s by omega,gs];exact h.bd i0 Bo
   .rcases a8Q i s with q|q
    .rcases a8Q j s with r|r
     .rw[go i q,go j r];exact h.eq i j q r
     .rw[go i q,show j=s by omega,gs];exact⟨λ e=>F3 ((ge i q).1 e.symm),λ e=>((ge i q).2 (F3 e)).symm⟩
    .rcases a8Q j s with r|r
     .rw[go j r,show i=s by omega,gs];exact ge j r
     .rw[show i=s by omega,show j=s by omega];exact⟨λ _=>RW a c s,λ _=>rfl⟩
   .have hnr:¬ pN (λ i=>(bZ a c (s+1)).1.getD i 0) s=true:=by
     rw[gZ];intro q;exact q i0 Bo (by rw[go i0 Bo,gs])
    rw[Iu,sN s go,h.aZ,a8v hnr,g2];rfl
structure RT(a:O)(c:List Int)(s:Nat):Prop where
 ha:cG a
 hc:c.length=nK a
 hs:s<nK a
 h6:nK a<=60
def RT.al{a:O}{c:List Int}{s t:Nat}(h:RT a c s)(ht:t<=s):AlK a c (s:Int) (t:Int):=⟨h.ha,h.hc,by have:=h.hs;omega,by have:=h.hs;omega⟩
def vQ:aQ:=⟨xZ,[.r (.st .automaton), .v (.slice (.int .i64))],λ (a:O) (c:List Int)=>⟨(some (cG a/\c.length=nK a),[⟨(.slice (.int .i64)),(bZ a c (nK a)).1⟩,⟨(.int .i64),((bZ a c (nK a)).2:Int)⟩])⟩⟩
def Hv(a:O)(c:List Int):Nat->aG:=(dU 0 (.mk (Nat) (λ s=>s<=nK a) (λ s=>nK a - s) [] [4,5,11] (λ s=>[(8, .aK ⟨(.int .i64),((s:Int):Int)⟩),(7, .aK ⟨(.int .i64),(((bZ a c s).2:Int):Int)⟩),(6, .aA 1600)]) [] (λ s=>[(1600, .aA (.int .i64) ((bZ a c s).1:List Int))]) [] [] (λ s=>(dU 2 (.a (Nat) (λ t=>t<=s/\RT a c s) (λ t=>s - t) [12,13,14,15] (λ t=>[(10, .aK ⟨(.int .i64),((t:Int):Int)⟩),(9, .aK ⟨(.int .i64),((gY (kU a c s) (bZ a c s).1 t):Int)⟩)]) [1600] (λ t=>[])) cf))) cf)
abbrev rF(a:O)(c:List Int)(s1:Nat)(t2:Nat):Prop:=(let v0:=bZ a c s1;(av (t2:Int) (v0.1).length/\(ai ((t2:Int)+(1:Int))/\(∃ t3:Nat,((t3<=s1/\RT a c s1)/\(s1 - t3<s1 - t2/\((a=a/\(c=c/\(True/\((v0.2:Int)=(v0.2:Int)/\((s1:Int)=(s1:Int)/\(((v0.1).getD t2 (0:Int))=(gY (kU a c s1) v0.1 t3)/\(((t2:Int)+(1:Int))=(t3:Int)/\True)))))))/\((v0.1)=(v0.1)/\True))))))))
abbrev rG(a:O)(c:List Int)(s1:Nat)(t2:Nat):Prop:=(let v0:=bZ a c s1;(ai ((t2:Int)+(1:Int))/\(∃ t3:Nat,((t3<=s1/\RT a c s1)/\(s1 - t3<s1 - t2/\((a=a/\(c=c/\(True/\((v0.2:Int)=(v0.2:Int)/\((s1:Int)=(s1:Int)/\((gY (kU a c s1) v0.1 t2)=(gY (kU a c s1) v0.1 t3)/\(((t2:Int)+(1:Int))=(t3:Int)/\True)))))))/\((v0.1)=(v0.1)/\True)))))))
abbrev rH(a:O)(c:List Int)(s1:Nat)(t2:Nat):Prop:=(let v0:=c.getD s1 (0:Int);let v1:=c.getD t2 (0:Int);let v2:=FU a c (s1:Int).toNat (t2:Int).toNat;(av (s1:Int) c.length/\(av (t2:Int) c.length/\(((decide (v0=v1))=true ->
 (ai v0 ->
 (ai v1 ->
 (AlK a c (s1:Int) (t2:Int)/\((v2=true ->
 (rF a c s1 t2))/\(v2=false ->
 (rG a c s1 t2)))))))/\((decide (v0=v1))=(!true) ->
 (ai v0 ->
 (ai v1 ->
 ((false=true ->
 (rF a c s1 t2))/\(false=false ->
 (rG a c s1 t2))))))))))
abbrev rI(a:O)(c:List Int)(s1:Nat)(t2:Nat):Prop:=(let v0:=bZ a c s1;let v1:=gY (kU a c s1) v0.1 t2;let v2:=(s1:Int)+(1:Int);let v3:=(v0.2:Int);(((decide (v1<(0:Int)))=true ->
 (ai (v3+(1:Int))/\(aX ((v0.1).length+([v3]).length) 8/\(ai v2/\(∃ s3:Nat,(s3<=nK a/\(nK a - s3<nK a - s1/\((a=a/\(c=c/\(True/\((v3+(1:Int))=((bZ a c s3).2:Int)/\(v2=(s3:Int)/\True)))))/\(((v0.1)++([v3]))=((bZ a c s3).1)/\True)))))))))/\((decide (v1<(0:Int)))=false ->
 (aX ((v0.1).length+([v1]).length) 8/\(ai v2/\(∃ s3:Nat,(s3<=nK a/\(nK a - s3<nK a - s1/\((a=a/\(c=c/\(True/\(v3=((bZ a c s3).2:Int)/\(v2=(s3:Int)/\True)))))/\(((v0.1)++([v1]))=((bZ a c s3).1)/\True))))))))))
def BY:aQ.wq vQ:=by
 refine⟨aB uR,?_⟩;intro (a:O) (c:List Int) (hp:cG a/\c.length=nK a);refine yZ [xK] [] [] [] [11,54,55] [] [] [] ⟨Dm,ae⟩ trivial trivial trivial uR De (Hv a c) (let v0:=(c.length:Int);(((∃ s1:Nat,(s1<=nK a/\((a=a/\(c=c/\(True/\((0:Int)=((bZ a c s1).2:Int)/\((0:Int)=(s1:Int)/\True)))))/\([]=((bZ a c s1).1)/\True))))/\(∀ s1:Nat,let v1:=bZ a c s1;let v2:=(s1:Int);(s1<=nK a->(ai v0->(((decide (v2<v0))=true->((∃ t2:Nat,((t2<=s1/\RT a c s1)/\((a=a/\(c=c/\(True/\((v1.2:Int)=(v1.2:Int)/\(v2=v2/\((-1:Int)=(gY (kU a c s1) v1.1 t2)/\((0:Int)=(t2:Int)/\True)))))))/\((v1.1)=(v1.1)/\True))))/\(∀ t2:Nat,let v3:=decide ((gY (kU a c s1) v1.1 t2)<(0:Int));((t2<=s1/\RT a c s1)->(((decide ((t2:Int)<v2))=true->((v3=true->(rH a c s1 t2))/\(v3=false->(rI a c s1 t2))))/\((decide ((t2:Int)<v2))=(!true)->((false=true->(rH a c s1 t2))/\(false=false->(rI a c s1 t2)))))))))/\((decide (v2<v0))=false->((v1.1)=((bZ a c (nK a)).1)/\(v1.2:Int)=((bZ a c (nK a)).2:Int)))))))))) ?_;obtain⟨ha,hc⟩:=hp;have n4:nK a<=60/\c.length<=60:=by have:a.accept.length<=60:=ha.n60;rw[hc];exact⟨this,this⟩
 have n7:∀ s,(bZ a c s).1.length=s/\(bZ a c s).2<=s:=CI a c;refine⟨⟨0,?_,⟨rfl,rfl,ae,?_,?_,ae⟩,?_,ae⟩,λ s1 _ _=>⟨λ _=>⟨⟨0,?_,⟨rfl,rfl,ae,rfl,rfl,?_,?_,ae⟩,rfl,ae⟩,λ t2 _=>⟨λ _=>⟨λ _=>⟨?_,?_,λ _ _ _=>⟨?_,λ _=>⟨?_,?_,t2+1,?_,?_,⟨rfl,rfl,ae,rfl,rfl,?_,?_,ae⟩,rfl,ae⟩,λ _=>⟨?_,t2+1,?_,?_,⟨rfl,rfl,ae,rfl,rfl,?_,?_,ae⟩,rfl,ae⟩⟩,λ _ _ _=>⟨λ _=>⟨?_,?_,t2+1,?_,?_,⟨rfl,rfl,ae,rfl,rfl,?_,?_,ae⟩,rfl,ae⟩,λ _=>⟨?_,t2+1,?_,?_,⟨rfl,rfl,ae,rfl,rfl,?_,?_,ae⟩,rfl,ae⟩⟩⟩,λ _=>⟨λ _=>⟨?_,?_,?_,s1+1,?_,?_,⟨rfl,rfl,ae,?_,?_,ae⟩,?_,ae⟩,λ _=>⟨?_,?_,s1+1,?_,?_,⟨rfl,rfl,ae,?_,?_,ae⟩,?_,ae⟩⟩⟩,λ _=>⟨λ _=>⟨?_,?_,λ _ _ _=>⟨?_,λ _=>⟨?_,?_,t2+1,?_,?_,⟨rfl,rfl,ae,rfl,rfl,?_,?_,ae⟩,rfl,ae⟩,λ _=>⟨?_,t2+1,?_,?_,⟨rfl,rfl,ae,rfl,rfl,?_,?_,ae⟩,rfl,ae⟩⟩,λ _ _ _=>⟨λ _=>⟨?_,?_,t2+1,?_,?_,⟨rfl,rfl,ae,rfl,rfl,?_,?_,ae⟩,rfl,ae⟩,λ _=>⟨?_,t2+1,?_,?_,⟨rfl,rfl,ae,rfl,rfl,?_,?_,ae⟩,rfl,ae⟩⟩⟩,λ _=>⟨λ _=>⟨?_,?_,?_,s1+1,?_,?_,⟨rfl,rfl,ae,?_,?_,ae⟩,?_,ae⟩,λ _=>⟨?_,?_,s1+1,?_,?_,⟨rfl,rfl,ae,?_,?_,ae⟩,?_,ae⟩⟩⟩⟩⟩,λ _=>⟨?_,?_⟩⟩⟩;all_goals try and_intros
 all_goals (try simp only[a8S,a9b,a8z,a8y,av,ai,aX,cB,a9j,b0r,a9G,b1F,a9y,a9r,a9m,a8E,a8F,a8R,a9q] at *);first|done|with_reducible assumption|omega|with_reducible rfl|exact trivial|exact (rfl : -1=gY (kU a c s1) (bZ a c s1).1 0)|exact (rfl:0=((bZ a c 0).2:Int))|exact (rfl:[]=(bZ a c 0).1)|(have q1:=n7 s1;have q2:=n7 (s1+1);omega)|exact Z7 (by omega) (a5p (by with_reducible assumption))|exact Z7 (by omega) (a5q (by with_reducible assumption))|exact a3i (by omega) (a5r (by with_reducible assumption) (by with_reducible assumption))|exact RT.al (And.right (by with_reducible assumption)) (by omega)|exact And.right (by with_reducible assumption)|exact⟨ha,hc,by omega,n4.1⟩|exact⟨by omega,ha,hc,by omega,n4.1⟩|exact (a3r (by with_reducible assumption) (by omega)).1|exact (a3r (by with_reducible assumption) (by omega)).2|((have q:t2=s1:=by omega);(subst q);first|exact (Wn (by with_reducible assumption)).1|exact (Wn (by with_reducible assumption)).2)|((have q:s1=nK a:=by omega);(subst q);rfl)
def um(a:O)(out:List Bool)(s t:Nat):Nat->Bool->Bool
 | 0,y=>y
 | x+1,y=>um a out s t x y||(decide (0<=(((a.next.getD s []).getD t []).getD x 0))&&out.getD (Int.toNat (((a.next.getD s []).getD t []).getD x 0)) false)
def kH(a:O)(out:List Bool)(s:Nat):Nat->Bool
 | 0=>false
 | t+1=>um a out s t (kK a) (kH a out s t||(a.accept.getD s []).getD t false)
def xm(out:List Bool):Nat:=(out.filter λ b => !b).length
def R7:∀ (out:List Bool) (s:Nat),s<out.length->out.getD s false=false->xm (out.set s true)<xm out
 | [],s,h,_=>by simp at h
 | b::out,0,_,h=>by
  have h:b=false:=h;subst h;simp[xm]
 | b::out,s+1,h,h2=>by
  have:=R7 out s (by simpa using h) (by simpa using h2);simp only[xm,List.set_cons_succ,List.filter_cons] at this ⊢;split<;>simp<;>omega
def TX{a:O}{out:List Bool}{s t:Nat}:∀ (x:Nat) (y:Bool),um a out s t x y=true↔y=true\/∃ i,i<x/\0<=lj a s t i/\out.getD (lj a s t i).toNat false=true
 | 0,y=>by simp[um]
 | x+1,y=>by
  rw[um,a9O,TX x y,a8I,a8z];constructor
  .rintro ((h|⟨i,hi,h⟩)|h)
   .exact .inl h
   .exact .inr ⟨i,by omega,h⟩
   .exact .inr ⟨x,by omega,h⟩
  .rintro (h|⟨i,hi,h⟩)
   .exact .inl (.inl h)
   .rcases a8Q i x with q|q
    .exact .inl (.inr ⟨i,q,h⟩)
    .rw[show i=x by omega] at h;exact .inr h
def Ia{a:O}{out:List Bool}{s:Nat}:∀ (t:Nat),kH a out s t=true↔∃ j,j<t/\((a.accept.getD s []).getD j false=true\/∃ i,i<kK a/\0<=lj a s j i/\out.getD (lj a s j i).toNat false=true)
 | 0=>by simp[kH]
 | t+1=>by
  rw[kH,TX,a9O,Ia t];constructor
  .rintro ((⟨j,hj,h⟩|h)|h)
   .exact⟨j,by omega,h⟩
   .exact⟨t,by omega, .inl h⟩
   .exact⟨t,by omega, .inr h⟩
  .rintro⟨j,hj,h⟩;rcases a8Q j t with q|q
   .exact .inl (.inl ⟨j,q,h⟩)
   .rw[show j=t by omega] at h;rcases h with h|h
    .exact .inl (.inr h)
    .exact .inr h
noncomputable def eJ(a:O):List Bool:=by
 classical exact (List.range (nK a)).map λ s=>decide (¬ (lZ a).dead s)
def S9(a:O):(eJ a).length=nK a:=by simp[eJ]
def xP{a:O}{s:Nat}(h:s<nK a):(eJ a).getD s false=true↔¬ (lZ a).dead s:=by
 unfold eJ;rw[List.getD_eq_getElem?_getD,List.getElem?_map,List.getElem?_range h];simp
structure LvC(a:O)(out:List Bool):Prop where
 ha:cG a
 hl:out.length=nK a
 so:∀ s,s<nK a->out.getD s false=true->¬ (lZ a).dead s
structure CT(a:O)(g:Bool)(out:List Bool):Prop where
 c:LvC a out
 cl:g=false->∀ s,s<nK a->kH a out s (mK a)=true->out.getD s false=true
structure jO(a:O)(ly:List Bool)(s:Nat)(g:Bool)(out:List Bool):Prop where
 c:LvC a out
 hs:s<=nK a
 c1:g=false->out=ly/\∀ i,i<s->kH a out i (mK a)=true->out.getD i false=true
 c2:g=true->xm out<xm ly
def a4N(n i:Nat):(List.replicate n false).getD i false=false:=by
 rw[a8D,b2e];split<;>rfl
def CT.first{a:O}(h:cG a):CT a true (List.replicate (nK a) false):=⟨⟨h,by simp,λ s _ q=>by rw[a4N] at q;cases q⟩,nofun⟩
def CT.go{a:O}{g:Bool}{out:List Bool}(h:CT a g out):jO a out 0 false out:=⟨h.c,by omega,λ _=>⟨rfl,λ i hi=>by omega⟩,nofun⟩
def LvC.ys{a:O}{out:List Bool}(h:LvC a out){s:Nat}(hs:s<nK a)(q:kH a out s (mK a)=true):¬ (lZ a).dead s:=by
 obtain⟨j,hj,q|⟨i,hi,q1,q2⟩⟩:=(Ia _).1 q
 .exact OY (A:=lZ a) (a:=j) hj (by show kR a s j=true;unfold kR;rw[decide_eq_true hs,q];rfl)
 .refine NP (A:=lZ a) (a:=j) (x:=i) hj hi ?_;show ¬ (lZ a).dead (fb a s j i);have:=h.ha.row hs hj hi;unfold fb;rw[if_pos hs,if_neg (by omega)];exact h.so _ (by omega) q2
def WO{α:Type}{z y:α}{xs:List α}{s i:Nat}(h:s<xs.length):(xs.set s y).getD i z=if i=s then y else xs.getD i z:=by
 simp only[a8D,b1M];by_cases e:s=i
 .subst e;simp[h]
 .rw[a8v e,a8v (λ q=>e q.symm)]
def jO.set{a:O}{ly:List Bool}{s:Nat}{g:Bool}{out:List Bool}(h:jO a ly s g out)(hs:s<nK a)(q:kH a out s (mK a)=true)(f:out.getD s false=false):jO a ly (s+1) true (out.set s true):=by
 have hl:=h.c.hl;have hc:=R7 out s (by omega) f;refine⟨⟨h.c.ha,by rw[a9q];exact hl,λ i hi e=>?_⟩,hs,nofun,λ _=>?_⟩
 .rw[WO (by omega)] at e;split at e
  .rename_i e2;rw[e2];exact h.c.ys hs q
  .exact h.c.so i hi e
 .cases hg:g with
  | true=>have:=h.c2 hg;omega
  | false=>have:=(h.c1 hg).1;rw[<-this];exact hc
def jO.skip{a:O}{ly:List Bool}{s:Nat}{g:Bool}{out:List Bool}(h:jO a ly s g out)(hs:s<nK a)(q:kH a out s (mK a)=true->out.getD s false=true):jO a ly (s+1) g out :=
 ⟨h.c,hs,λ e=>⟨(h.c1 e).1,λ i hi=>by
  rcases a8Q i s with r|r
  .exact (h.c1 e).2 i r
  .rw[show i=s by omega];exact q⟩,h.c2⟩
def jO.done{a:O}{ly:List Bool}{s:Nat}{g:Bool}{out:List Bool}(h:jO a ly s g out)(hs:¬ s<nK a):CT a g out:=⟨h.c,λ e i hi=>(h.c1 e).2 i (by omega)⟩
def jO.less{a:O}{ly:List Bool}{s:Nat}{g:Bool}{out:List Bool}(h:jO a ly s g out):xm out+g.toNat<xm ly+true.toNat:=by
 cases hg:g with
 | true=>have:=h.c2 hg;simp;omega
 | false=>rw[(h.c1 hg).1];simp
def CT.done{a:O}{out:List Bool}(h:CT a false out):out=eJ a:=by
 refine b1r (by rw[h.c.hl,S9]) λ i h1 h2=>?_;have hi:i<nK a:=by rw[<-h.c.hl];exact h1
 have e:out.getD i false=true↔¬ (lZ a).dead i:=by
  refine (Xh (A:=lZ a) (yh h.c.ha) (L:=λ s=>s<nK a/\out.getD s false=true) (λ s _ q=>h.c.so s q.1 q.2) ?_ ?_ (s:=i) (b1l hi)).symm.symm.trans b0G |>.symm.trans ?_ |>.symm
  .rintro s hs ⟨t,ht,q⟩;have q:kR a s t=true:=q;unfold kR at q;rw[Bool.and_eq_true,decide_eq_true_eq] at q;exact⟨q.1,h.cl rfl s q.1 ((Ia _).2 ⟨t,ht, .inl q.2⟩)⟩
  .rintro s t x hs ht hx ⟨q1,q2⟩;have q1:fb a s t x<nK a:=q1;have q2:out.getD (fb a s t x) false=true:=q2;have UY:s<nK a:=by
    rcases a8Q s (nK a) with r|r
    .exact r
    .exfalso;unfold fb at q1;rw[if_neg (by omega)] at q1;omega
   have hr:0<=lj a s t x:=by
    unfold fb at q1;rw[if_pos UY] at q1;rcases Int.lt_or_le (lj a s t x) 0 with r|r
    .rw[a8A r] at q1;omega
    .exact r
   unfold fb at q2;rw[if_pos UY,if_neg (by omega)] at q2;exact⟨UY,h.cl rfl s UY ((Ia _).2 ⟨t,ht, .inr ⟨x,hx,hr,q2⟩⟩)⟩
  .exact⟨λ q=>q.2,λ q=>⟨hi,q⟩⟩
 have g:=xP hi;rw[a8D,a8H h1] at e;rw[a8D,a8H h2] at g;exact b1u.2 (e.trans g.symm)
structure RR where
 g:Bool
 out:List Bool
structure Ij where
 s:Nat
 g:Bool
 out:List Bool
def Hw(y b g:Bool):Bool:=if y=true/\b=false then true else g
def Hx(y b:Bool)(out:List Bool)(s:Nat):List Bool:=if y=true/\b=false then out.set s true else out
def ZU{y b g:Bool}{out:List Bool}{s:Nat}(h:y=true)(h2:b=false):true=Hw y b g/\out.set s true=Hx y b out s:=by rw[Hw,Hx,a8A ⟨h,h2⟩,a8A ⟨h,h2⟩];exact⟨rfl,rfl⟩
def ZR{y b g:Bool}{out:List Bool}{s:Nat}(h:y=false):g=Hw y b g/\out=Hx y b out s:=by
 have:¬ (y=true/\b=false):=λ q=>by rw[h] at q;exact absurd q.1 (by decide)
 rw[Hw,Hx,a8v this,a8v this];exact⟨rfl,rfl⟩
def ZT{y b g:Bool}{out:List Bool}{s:Nat}(h:b=true):g=Hw y b g/\out=Hx y b out s:=by
 have:¬ (y=true/\b=false):=λ q=>by rw[h] at q;exact absurd q.2 (by decide)
 rw[Hw,Hx,a8v this,a8v this];exact⟨rfl,rfl⟩
def a5d{a:O}{out:List Bool}{s t:Nat}(h:kH a out s t=true):true=um a out s t 0 (kH a out s t||(a.accept.getD s []).getD t false):=by rw[h];rfl
def a5c{a:O}{out:List Bool}{s t:Nat}(h:kH a out s t=false):(a.accept.getD s []).getD t false=um a out s t 0 (kH a out s t||(a.accept.getD s []).getD t false):=by rw[h];rfl
def a5g{a:O}{out:List Bool}{s t x:Nat}{y:Bool}(h:um a out s t x y=true):true=um a out s t (x+1) y:=by rw[um,h];rfl
def a5f{a:O}{out:List Bool}{s t x:Nat}{y:Bool}(h:um a out s t x y=false)(h2:0<=(((a.next.getD s []).getD t []).getD x 0)):out.getD (Int.toNat (((a.next.getD s []).getD t []).getD x 0)) false=um a out s t (x+1) y:=by rw[um,h,b2p h2];rfl
def a5e{a:O}{out:List Bool}{s t x:Nat}{y:Bool}(h:um a out s t x y=false)(h2:¬ 0<=(((a.next.getD s []).getD t []).getD x 0)):false=um a out s t (x+1) y:=by rw[um,h,b0y h2];rfl
def a4z{y b g:Bool}(h:y=true)(h2:b=false):true=Hw y b g:=(ZU (out:=[]) (s:=0) h h2).1
def a4x{y b g:Bool}(h:y=false):g=Hw y b g:=(ZR (out:=[]) (s:=0) h).1
def a4y{y b g:Bool}(h:b=true):g=Hw y b g:=(ZT (out:=[]) (s:=0) h).1
def a4C{y b:Bool}{out:List Bool}{s:Nat}(h:y=true)(h2:b=false):out.set s true=Hx y b out s:=(ZU (g:=true) h h2).2
def a4A{y b:Bool}{out:List Bool}{s:Nat}(h:y=false):out=Hx y b out s:=(ZR (g:=true) h).2
def a4B{y b:Bool}{out:List Bool}{s:Nat}(h:b=true):out=Hx y b out s:=(ZT (g:=true) h).2
structure LvN(a:O)(s:Nat)(out:List Bool):Prop where
 l1:out.length=nK a
 l2:s<=nK a
def jO.lens{a:O}{ly:List Bool}{s:Nat}{g:Bool}{out:List Bool}(h:jO a ly s g out):LvN a s out:=⟨h.c.hl,h.hs⟩
def jO.a4w{a:O}{ly:List Bool}{s:Nat}{g g0:Bool}{out:List Bool}(h:jO a ly s g out)(hg:g0=true):xm out+g.toNat<xm ly+g0.toNat:=by rw[hg];exact h.less
def CT.Ul{a:O}{g:Bool}{out:List Bool}(h:CT a g out)(hg:g=false):out=eJ a:=by subst hg;exact h.done
def jO.next{a:O}{ly:List Bool}{s:Nat}{g:Bool}{out:List Bool}(h:jO a ly s g out)(hs:s<nK a):jO a ly (s+1) (Hw (kH a out s (mK a)) (out.getD s false) g) (Hx (kH a out s (mK a)) (out.getD s false) out s):=by
 by_cases h1:kH a out s (mK a)=true
 .by_cases h2:out.getD s false=false
  .have e:=ZU (g:=g) (out:=out) (s:=s) h1 h2;rw[<-e.1,<-e.2];exact h.set hs h1 h2
  .have h2:out.getD s false=true:=by simpa using h2
   have e:=ZT (y:=kH a out s (mK a)) (g:=g) (out:=out) (s:=s) h2;rw[<-e.1,<-e.2];exact h.skip hs λ _=>h2
 .have e:=ZR (b:=out.getD s false) (g:=g) (out:=out) (s:=s) (show kH a out s (mK a)=false by simpa using h1);rw[<-e.1,<-e.2];exact h.skip hs λ q=>absurd q h1
def zN:aQ:=⟨Aa,[.r (.st .automaton)],λ (a:O)=>⟨(some (cG a),[⟨(.slice .bool),eJ a⟩])⟩⟩
def Ld(a:O):Nat->aG:=(dU 0 (.mk (RR) (λ v=>CT a v.g v.out) (λ v=>xm v.out+v.g.toNat) [] [2,10,11,12,13,14,15] (λ v=>[(4, .aK ⟨.bool,(v.g:Bool)⟩),(3, .row 15)]) [] (λ v=>[(15, .row yg .bool (v.out:List Bool))]) [] [] (λ v=>(dU 2 (.mk (Ij) (λ q=>jO a v.out q.s q.g q.out) (λ q=>nK a - q.s) [] [16] (λ q=>[(5, .aK ⟨(.int .i64),((q.s:Int):Int)⟩),(4, .aK ⟨.bool,(q.g:Bool)⟩),(3, .row 15)]) [] (λ q=>[(15, .row yg .bool (q.out:List Bool))]) [] [] (λ q=>(dU 4 (.mk (Nat) (λ t=>t<=mK a/\q.s<nK a) (λ t=>mK a - t) [] [17,18,19,20] (λ t=>[(7, .aK ⟨(.int .i64),((t:Int):Int)⟩),(6, .aK ⟨.bool,((kH a q.out q.s t):Bool)⟩)]) [15] (λ t=>[]) [] [] (λ t=>(dU 6 (.a (Nat) (λ x=>x<=kK a/\t<mK a) (λ x=>kK a - x) [23,24,25,26,27,28,29,30,31,32,35,36,37,38,39,40,41,42,43,44,45,46,47] (λ x=>[(8, .aK ⟨(.int .i64),((x:Int):Int)⟩),(6, .aK ⟨.bool,((um a q.out q.s t x (kH a q.out q.s t||(a.accept.getD q.s []).getD t false)):Bool)⟩)]) [15] (λ x=>[])) cf))) cf))) cf))) cf)
abbrev vE(a:O)(q2:Ij)(t3:Nat):Prop:=(let v1:=kH a q2.out q2.s t3||(a.accept.getD q2.s []).getD t3 false;let v3:=(q2.s:Int);let v0:=a.next.getD (Int.toNat v3) [];let v2:=v0.getD t3 [];let v4:=q2.out=q2.out/\True;let v5:=(t3:Int);let v6:=(1:Int);let v7:=(0:Int);let v8:=(v2.length:Int);(∀ x4:Nat,let v9:=(x4:Int)+v6;let va:=um a q2.out q2.s t3 x4 v1;let vb:=v2.getD x4 v7;((x4<=kK a/\t3<mK a) ->
 (a.next.length<=140737488355328 ->
 (av v3 a.next.length/\(v0.length<=140737488355328 ->
 (av v5 v0.length/\(v2.length<=140737488355328 ->
 (ai v8 ->
 (((decide ((x4:Int)<v8))=true ->
 (a.next.length<=140737488355328 ->
 (av v3 a.next.length/\(v0.length<=140737488355328 ->
 (av v5 v0.length/\(v2.length<=140737488355328 ->
 (av (x4:Int) v2.length/\(ai vb ->
 ((va=false ->
 (((decide (v7<=vb))=true ->
 (av vb q2.out.length/\(ai v9/\(∃ x5:Nat,((x5<=kK a/\t3<mK a)/\(kK a - x5<kK a - x4/\((a=a/\(True/\(q2.g=q2.g/\(v3=v3/\((q2.out.getD (Int.toNat vb) false)=(um a q2.out q2.s t3 x5 v1)/\(v5=v5/\(v9=(x5:Int)/\True)))))))/\v4)))))))/\((decide (v7<=vb))=(!true) ->
 (ai v9/\(∃ x5:Nat,((x5<=kK a/\t3<mK a)/\(kK a - x5<kK a - x4/\((a=a/\(True/\(q2.g=q2.g/\(v3=v3/\(false=(um a q2.out q2.s t3 x5 v1)/\(v5=v5/\(v9=(x5:Int)/\True)))))))/\v4))))))))/\(va=(!false) ->
 (ai v9/\(∃ x5:Nat,((x5<=kK a/\t3<mK a)/\(kK a - x5<kK a - x4/\((a=a/\(True/\(q2.g=q2.g/\(v3=v3/\(true=(um a q2.out q2.s t3 x5 v1)/\(v5=v5/\(v9=(x5:Int)/\True)))))))/\v4)))))))))))))))/\((decide ((x4:Int)<v8))=false ->
 (ai (v5+v6)/\(∃ t5:Nat,((t5<=mK a/\q2.s<nK a)/\(mK a - t5<mK a - t3/\((a=a/\(True/\(q2.g=q2.g/\(v3=v3/\(va=(kH a q2.out q2.s t5)/\((v5+v6)=(t5:Int)/\True))))))/\v4))))))))))))))))
abbrev vF(a:O)(v1:RR)(q2:Ij):Prop:=(av (q2.s:Int) q2.out.length/\(ai ((q2.s:Int)+(1:Int))/\(∃ q4:Ij,(jO a v1.out q4.s q4.g q4.out/\(nK a - q4.s<nK a - q2.s/\((a=a/\(True/\(true=q4.g/\(((q2.s:Int)+(1:Int))=(q4.s:Int)/\True))))/\((q2.out.set (Int.toNat (q2.s:Int)) true)=q4.out/\True)))))))
abbrev vG(a:O)(v1:RR)(q2:Ij):Prop:=(ai ((q2.s:Int)+(1:Int))/\(∃ q4:Ij,(jO a v1.out q4.s q4.g q4.out/\(nK a - q4.s<nK a - q2.s/\((a=a/\(True/\(q2.g=q4.g/\(((q2.s:Int)+(1:Int))=(q4.s:Int)/\True))))/\(q2.out=q4.out/\True))))))
def E1:aQ.Good zN:=by
 refine⟨aB xb,?_⟩;intro (a:O) (hp:cG a);refine aP [] [] [] [] trivial xb ED (Ld a) (let v0:=(a.accept.length:Int);((a.accept.length<=140737488355328->(ai v0->(cB v0 v0 1/\((∃ v1:RR,(CT a v1.g v1.out/\((a=a/\(True/\(true=v1.g/\True)))/\((List.replicate (Int.toNat v0) false)=v1.out/\True))))/\(∀ v1:RR,(CT a v1.g v1.out->((v1.g=true->((∃ q2:Ij,(jO a v1.out q2.s q2.g q2.out/\((a=a/\(True/\(false=q2.g/\((0:Int)=(q2.s:Int)/\True))))/\(v1.out=q2.out/\True))))/\(∀ q2:Ij,let v4:=(q2.s:Int);let v2:=a.accept.getD (Int.toNat v4) [];let v5:=q2.out=q2.out/\True;let v6:=(q2.out.length:Int);let v7 := !(q2.out.getD (Int.toNat v4) false);let v8:=(v2.length:Int);(jO a v1.out q2.s q2.g q2.out->(ai v6->(((decide (v4<v6))=true->((∃ t3:Nat,((t3<=mK a/\q2.s<nK a)/\((a=a/\(True/\(q2.g=q2.g/\(v4=v4/\(false=(kH a q2.out q2.s t3)/\((0:Int)=(t3:Int)/\True))))))/\v5)))/\(∀ t3:Nat,let v9:=kH a q2.out q2.s t3||(a.accept.getD q2.s []).getD t3 false;let va:=kH a q2.out q2.s t3;let vb:=(t3:Int);((t3<=mK a/\q2.s<nK a)->(a.accept.length<=140737488355328->(av v4 a.accept.length/\(v2.length<=140737488355328->(ai v8->(((decide (vb<v8))=true->((va=false->(a.accept.length<=140737488355328->(av v4 a.accept.length/\(v2.length<=140737488355328->(av vb v2.length/\((∃ x4:Nat,((x4<=kK a/\t3<mK a)/\((a=a/\(True/\(q2.g=q2.g/\(v4=v4/\((v2.getD t3 false)=(um a q2.out q2.s t3 x4 v9)/\(vb=vb/\((0:Int)=(x4:Int)/\True)))))))/\v5)))/\(vE a q2 t3)))))))/\(va=(!false)->((∃ x4:Nat,((x4<=kK a/\t3<mK a)/\((a=a/\(True/\(q2.g=q2.g/\(v4=v4/\(true=(um a q2.out q2.s t3 x4 v9)/\(vb=vb/\((0:Int)=(x4:Int)/\True)))))))/\v5)))/\(vE a q2 t3)))))/\((decide (vb<v8))=false->((va=true->(av v4 q2.out.length/\((v7=true->(vF a v1 q2))/\(v7=false->(vG a v1 q2)))))/\(va=(!true)->((false=true->(vF a v1 q2))/\(false=false->(vG a v1 q2)))))))))))))))/\((decide (v4<v6))=false->(∃ v3:RR,(CT a v3.g v3.out/\(xm v3.out+v3.g.toNat<xm v1.out+v1.g.toNat/\((a=a/\(True/\(q2.g=v3.g/\True)))/\(q2.out=v3.out/\True))))))))))))/\(v1.g=false->v1.out=(eJ a))))))))))) ?_;have ha:=hp;have n1:a.accept.length<=nK a/\nK a<=a.accept.length:=⟨a8C _,a8C _⟩;have n2:=ha.nx;have n4:nK a<=60/\a.accept.length<=60:=(ha.pb 0 0).n;have n5:mK a<=8:=(ha.pb 0 0).m;have n6:kK a<=4:=(ha.pb 0 0).k;have n7:∀ s i,RwL a s i:=ha.pb;have nr:∀ s i x,s<nK a->i<mK a->x<kK a->((a.next.getD s []).getD i []).getD x 0<(nK a:Int):=λ s i x h1 h2 h3=>(ha.row h1 h2 h3).2;refine λ _ _=>⟨?_,⟨(RR.mk true (List.replicate (nK a) false)),?_,⟨rfl,ae,?_,ae⟩,?_,ae⟩,λ v1 _=>⟨λ _=>⟨⟨(Ij.mk 0 false v1.out),?_,⟨rfl,ae,?_,?_,ae⟩,?_,ae⟩,λ q2 _ _=>⟨λ _=>⟨⟨0,?_,⟨rfl,ae,rfl,rfl,?_,?_,ae⟩,rfl,ae⟩,λ t3 _ _=>⟨?_,λ _ _=>⟨λ _=>⟨λ _ _=>⟨?_,λ _=>⟨?_,⟨0,?_,⟨rfl,ae,rfl,rfl,?_,rfl,?_,ae⟩,rfl,ae⟩,λ x4 _ _=>⟨?_,λ _=>⟨?_,λ _ _=>⟨λ _ _=>⟨?_,λ _=>⟨?_,λ _=>⟨?_,λ _=>⟨λ _=>⟨λ _=>⟨?_,?_,x4+1,?_,?_,⟨rfl,ae,rfl,rfl,?_,rfl,?_,ae⟩,rfl,ae⟩,λ _=>⟨?_,x4+1,?_,?_,⟨rfl,ae,rfl,rfl,?_,rfl,?_,ae⟩,rfl,ae⟩⟩,λ _=>⟨?_,x4+1,?_,?_,⟨rfl,ae,rfl,rfl,?_,rfl,?_,ae⟩,rfl,ae⟩⟩⟩⟩⟩,λ _=>⟨?_,t3+1,?_,?_,⟨rfl,ae,rfl,rfl,?_,?_,ae⟩,rfl,ae⟩⟩⟩⟩⟩⟩,λ _=>⟨⟨0,?_,⟨rfl,ae,rfl,rfl,?_,rfl,?_,ae⟩,rfl,ae⟩,λ x4 _ _=>⟨?_,λ _=>⟨?_,λ _ _=>⟨λ _ _=>⟨?_,λ _=>⟨?_,λ _=>⟨?_,λ _=>⟨λ _=>⟨λ _=>⟨?_,?_,x4+1,?_,?_,⟨rfl,ae,rfl,rfl,?_,rfl,?_,ae⟩,rfl,ae⟩,λ _=>⟨?_,x4+1,?_,?_,⟨rfl,ae,rfl,rfl,?_,rfl,?_,ae⟩,rfl,ae⟩⟩,λ _=>⟨?_,x4+1,?_,?_,⟨rfl,ae,rfl,rfl,?_,rfl,?_,ae⟩,rfl,ae⟩⟩⟩⟩⟩,λ _=>⟨?_,t3+1,?_,?_,⟨rfl,ae,rfl,rfl,?_,?_,ae⟩,rfl,ae⟩⟩⟩⟩⟩⟩,λ _=>⟨λ _=>⟨?_,λ _=>⟨?_,?_,(Ij.mk (q2.s+1) (Hw (kH a q2.out q2.s (mK a)) (q2.out.getD q2.s false) q2.g) (Hx (kH a q2.out q2.s (mK a)) (q2.out.getD q2.s false) q2.out q2.s)),?_,?_,⟨rfl,ae,?_,?_,ae⟩,?_,ae⟩,λ _=>⟨?_,(Ij.mk (q2.s+1) (Hw (kH a q2.out q2.s (mK a)) (q2.out.getD q2.s false) q2.g) (Hx (kH a q2.out q2.s (mK a)) (q2.out.getD q2.s false) q2.out q2.s)),?_,?_,⟨rfl,ae,?_,?_,ae⟩,?_,ae⟩⟩,λ _=>⟨λ _=>⟨?_,?_,(Ij.mk (q2.s+1) (Hw (kH a q2.out q2.s (mK a)) (q2.out.getD q2.s false) q2.g) (Hx (kH a q2.out q2.s (mK a)) (q2.out.getD q2.s false) q2.out q2.s)),?_,?_,⟨rfl,ae,?_,?_,ae⟩,?_,ae⟩,λ _=>⟨?_,(Ij.mk (q2.s+1) (Hw (kH a q2.out q2.s (mK a)) (q2.out.getD q2.s false) q2.g) (Hx (kH a q2.out q2.s (mK a)) (q2.out.getD q2.s false) q2.out q2.s)),?_,?_,⟨rfl,ae,?_,?_,ae⟩,?_,ae⟩⟩⟩⟩⟩⟩,λ _=>⟨(RR.mk q2.g q2.out),?_,?_,⟨rfl,ae,?_,ae⟩,?_,ae⟩⟩⟩,λ _=>?_⟩⟩;all_goals try and_intros
 all_goals (try simp only[a8S,a9b,a8z,a8y,av,ai,aX,cB,a9j,b0r,a9G,b1F,a9y,a9r,a9m,a8E,a8F,a8R,a9q] at *);first|done|with_reducible assumption|omega|with_reducible rfl|exact trivial|exact (rfl:false=kH a q2.out q2.s 0)|exact CT.first ha|exact CT.go (by with_reducible assumption)|exact CT.Ul (by with_reducible assumption) (by with_reducible assumption)|(obtain⟨_,_⟩:=jO.lens (by with_reducible assumption);exact jO.done (by with_reducible assumption) (by omega))|exact jO.a4w (by with_reducible assumption) (by with_reducible assumption)|(obtain⟨_,_⟩:=jO.lens (by with_reducible assumption);omega)|(obtain⟨_,_⟩:=jO.lens (by with_reducible assumption);obtain⟨_,_,_,_,_,_,_⟩:=n7 q2.s 0;omega)|(obtain⟨_,_⟩:=jO.lens (by with_reducible assumption);obtain⟨_,_,_,_,_,_,_⟩:=n7 q2.s t3;omega)|(obtain⟨_,_⟩:=jO.lens (by with_reducible assumption);exact jO.next (by with_reducible assumption) (by omega))|(obtain⟨_,_⟩:=jO.lens (by with_reducible assumption);obtain⟨_,_,_,_,_,_,_⟩:=n7 q2.s t3;have q:=nr q2.s t3 x4 (by omega) (by omega) (by omega);omega)|exact a5d (by with_reducible assumption)|exact a5c (by with_reducible assumption)|exact a5g (by with_reducible assumption)|exact a5f (by with_reducible assumption) (by with_reducible assumption)|exact a5e (by with_reducible assumption) (by omega)|(obtain⟨_,_⟩:=jO.lens (by with_reducible assumption);obtain⟨_,_,_,_,_,_,_⟩:=n7 q2.s t3;(have q:x4=kK a:=by omega);(subst q);rfl)|(obtain⟨_,_⟩:=jO.lens (by with_reducible assumption);obtain⟨_,_,_,_,_,_,_⟩:=n7 q2.s 0;(have q:t3=mK a:=by omega);(subst q);first|exact a4z (by with_reducible assumption) (by with_reducible assumption)|exact a4C (by with_reducible assumption) (by with_reducible assumption)|exact a4x (by with_reducible assumption)|exact a4A (by with_reducible assumption)|exact a4y (by with_reducible assumption)|exact a4B (by with_reducible assumption))
def fw(live:List Bool)(tz:Int):Int:=if 0<=tz/\live.getD tz.toNat false=false then -1 else tz
def a2w{live:List Bool}{tz:Int}(h:0<=tz)(h2:live.getD tz.toNat false=false) : -1=fw live tz:=by rw[fw,a8A ⟨h,h2⟩]
def a2u{live:List Bool}{tz:Int}(h:¬ 0<=tz):tz=fw live tz:=by rw[fw,a8v λ q=>h q.1]
def a2v{live:List Bool}{tz:Int}(h2:live.getD tz.toNat false=true):tz=fw live tz:=by rw[fw,a8v λ q=>by rw[h2] at q;exact absurd q.2 (by decide)]
noncomputable def eN(a:O):O:=⟨a.sig,a.accept,a.next.map λ r=>r.map λ row=>row.map (fw (eJ a))⟩
def Yt{live:List Bool}{row:List Int}{x:Nat}(h:x<row.length):(row.take x).map (fw live)++[fw live (row.getD x 0)]=(row.take (x+1)).map (fw live):=by
 rw[fE 0 row x h];simp
def a5M{live:List Bool}{r:List (List Int)}{t:Nat}(h:t<r.length):((r.take t).map λ row=>row.map (fw live))++[(r.getD t []).map (fw live)]=(r.take (t+1)).map λ row=>row.map (fw live):=by
 rw[fE [] r t h];simp
def a5N{live:List Bool}{nx:List (List (List Int))}{s:Nat}(h:s<nx.length):((nx.take s).map λ r=>r.map λ row=>row.map (fw live))++[(nx.getD s []).map λ row=>row.map (fw live)]=(nx.take (s+1)).map λ r=>r.map λ row=>row.map (fw live):=by
 rw[fE [] nx s h];simp
def Jf{α β:Type}{f:α->β}{z:α}{w:β}{xs:List α}{i:Nat}(h:i<xs.length):(xs.map f).getD i w=f (xs.getD i z):=by
 simp only[a8D,a9R,a8H h];rfl
def a3Z{a:O}(h:cG a){s t x:Nat}(hs:s<nK a)(ht:t<mK a)(hx:x<kK a):lj (eN a) s t x=fw (eJ a) (lj a s t x):=by
 show ((((a.next.map λ r=>r.map λ row=>row.map (fw (eJ a))).getD s []).getD t []).getD x 0)=_;rw[Jf (z:=[]) (by rw[h.nx];exact hs),Jf (z:=[]) (by rw[(h.wU hs).2];exact ht),Jf (z:=0) (by rw[h.NL hs ht];exact hx)];rfl
def a3Y{live:List Bool}{n tz:Int}(h : -1<=tz/\tz<n)(hn:0<=n) : -1<=fw live tz/\fw live tz<n:=by unfold fw;split<;>omega
def Qp{a:O}(h:cG a):cG (eN a):=by
 refine⟨h.s,h.n1,h.n60,by show (a.next.map _).length=_;rw[a8W];exact h.nx,h.ac,?_⟩;intro r hr;obtain⟨r0,h0,rfl⟩:=a8w.1 hr;have g:=h.ok r0 h0;refine⟨by rw[a8W];exact g.1,λ row eG=>?_⟩;obtain⟨a6R,h1,rfl⟩:=a8w.1 eG;have g1:=g.2 a6R h1;refine⟨by rw[a8W];exact g1.1,λ v hv=>?_⟩;obtain⟨v0,h2,rfl⟩:=a8w.1 hv;exact a3Y (g1.2 v0 h2) (by omega)
def Ys{a:O}(h:cG a){s t x:Nat}(hs:s<nK a)(ht:t<mK a)(hx:x<kK a):fb (eN a) s t x=fb a s t x/\(fb a s t x=nK a\/¬ (lZ a).dead (fb a s t x))\/fb (eN a) s t x=nK a/\(lZ a).dead (fb a s t x):=by
 have hr:=h.row hs ht hx;have e1:fb (eN a) s t x=if fw (eJ a) (lj a s t x)<0 then nK a else (fw (eJ a) (lj a s t x)).toNat:=by
  unfold fb;rw[if_pos (show s<nK (eN a) from hs),a3Z h hs ht hx];rfl
 have e2:fb a s t x=if lj a s t x<0 then nK a else (lj a s t x).toNat:=by unfold fb;rw[if_pos hs]
 by_cases h0:0<=lj a s t x
 .cases hl:(eJ a).getD (lj a s t x).toNat false with
  | true =>
   rw[<-a2v hl] at e1;exact .inl ⟨by rw[e1,e2], .inr (by rw[e2,a8v (by omega)];exact (xP (by omega)).1 hl)⟩
  | false =>
   rw[<-a2w h0 hl] at e1;refine .inr ⟨by rw[e1];rfl,?_⟩;rw[e2,a8v (by omega)];exact b0W.1 λ q=>by rw[(xP (by omega)).2 q] at hl;cases hl
 .rw[<-a2u h0] at e1;exact .inl ⟨by rw[e1,e2], .inl (by rw[e2,a8A (by omega)])⟩
def Uy{a:O}{s t x:Nat}(h:nK a<=s):fb a s t x=nK a:=by unfold fb;exact if_neg (by omega)
def a1p{a:O}(h:cG a):Cut (lZ a) (lZ (eN a)) where
 n:=rfl
 m:=rfl
 k:=rfl
 ac s t:=rfl
 dl s t x hs ht hx:=by
  rcases a8Q s (nK a) with q|q
  .rcases Ys h q ht hx with e|e
   .exact .inl e.1
   .exact .inr e
  .left;show fb (eN a) s t x=fb a s t x;rw[Uy q,Uy (a:=eN a) q];rfl
 live s t x hs ht hx:=by
  show fb (eN a) s t x=nK a\/¬ (lZ a).dead (fb (eN a) s t x);rcases a8Q s (nK a) with q|q
  .rcases Ys h q ht hx with e|e
   .rw[e.1];exact e.2
   .exact .inl e.1
  .left;rw[Uy (a:=eN a) q];rfl
noncomputable def Mr(b:O):Nat->List Int->Nat->List Int
 | 0,out,_=>out
 | f+1,out,n=>if (bZ b out (nK b)).2=n then out else Mr b f (bZ b out (nK b)).1 (bZ b out (nK b)).2
noncomputable def Sb(a:O):List Int:=Mr (eN a) 70 (List.replicate (nK a) (0:Int)) 1
def cx(N:Nat)(out:List Int)(s:Nat):Int:=if s<N then out.getD s 0 else -1
structure CS(a:O)(d:Nat)(out:List Int)(n:Nat):Prop where
 ok:cG a
 eq:Mr (eN a) (70 - d) out n=Sb a
 hl:out.length=nK a
 bd:∀ i,i<nK a->0<=out.getD i 0
 dn:d+1<=n
 nn:n<=nK a
 Lk:∀ s t,s<=nK a->t<=nK a->(cx (nK a) out s=cx (nK a) out t↔(lZ (eN a)).eqv (λ s t=>(s=nK a↔t=nK a)) d s t)
 aZ:nO (cx (nK a) out) (nK a+1)=n+1
def Yo:∀ n,1<=n->nO (λ _=>(0:Int)) n=1
 | 1,_=>rfl
 | n+2,_=>by
  rw[Iu,Yo (n+1) (by omega),a8v];rw[gZ];exact λ q=>q 0 (by omega) rfl
def iz{N:Nat}{out:List Int}{s:Nat}(h:s<N):cx N out s=out.getD s 0:=by rw[cx,a8A h]
def J6{N:Nat}{out:List Int}:cx N out N = -1:=by rw[cx,a8v (by omega)]
def Yn{N:Nat}{out:List Int}(h:∀ i,i<N->0<=out.getD i 0):nO (cx N out) (N+1)=nO (λ i=>out.getD i 0) N+1:=by
 rw[Iu,sN (d:=λ i=>out.getD i 0) N λ i hi=>iz hi,a8A];rw[gZ];intro j hj e;rw[iz hj,J6] at e;have:=h j hj;omega
def CS.first{a:O}(h:cG a):CS a 0 (List.replicate (nK a) (0:Int)) 1:=by
 have hz:∀ i,(List.replicate (nK a) (0:Int)).getD i 0=0:=HN _;refine⟨h,rfl,by simp,λ i _=>by rw[hz];omega,by omega,h.n1,λ s t hs ht=>?_,?_⟩
 .show _↔(s=nK a↔t=nK a);rcases a8Q s (nK a) with q|q<;>rcases a8Q t (nK a) with r|r
  .rw[iz q,iz r,hz,hz];exact⟨λ _=>by omega,λ _=>rfl⟩
  .rw[iz q,show t=nK a by omega,J6,hz];exact⟨λ e=>by omega,λ e=>by omega⟩
  .rw[iz r,show s=nK a by omega,J6,hz];exact⟨λ e=>by omega,λ e=>by omega⟩
  .rw[show s=nK a by omega,show t=nK a by omega];exact⟨λ _=>b0G,λ _=>rfl⟩
 .rw[Yn λ i _=>by rw[hz];omega,sN (d:=λ _=>0) _ λ i _=>hz i,Yo _ h.n1]
def XF{a:O}(h:cG a){out:List Int}(hb:∀ i,i<nK a->0<=out.getD i 0){s t:Nat}(hs:s<=nK a)(ht:t<=nK a):cx (nK a) (bZ a out (nK a)).1 s=cx (nK a) (bZ a out (nK a)).1 t↔(lZ a).alike (cx (nK a) out) s t:=by
 have hk:=LP a out (nK a);have hx:∀ s t x,s<nK a->t<mK a->x<kK a->gh out (lj a s t x)=cx (nK a) out (fb a s t x):=λ s t x hs ht hx=>by
  have:=h.row hs ht hx;unfold gh fb;rw[if_pos hs];by_cases q:lj a s t x<0
  .rw[a8A q,a8A q,J6]
  .rw[a8v q,a8v q,iz (by omega)]
 rcases a8Q s (nK a) with q|q<;>rcases a8Q t (nK a) with r|r
 .rw[iz q,iz r,hk.eq s t q r,LA];constructor
  .rintro⟨h1,h2,h3⟩;refine⟨by rw[iz q,iz r];exact h1,λ i hi=>?_,λ i x hi mo=>?_⟩
   .show kR a s i=kR a t i;unfold kR;rw[decide_eq_true q,decide_eq_true r,h2]
   .show cx (nK a) out (fb a s i x)=cx (nK a) out (fb a t i x);rw[<-hx s i x q hi mo,<-hx t i x r hi mo];exact h3 i hi x mo
  .rintro⟨h1,h2,h3⟩;refine⟨by rw[iz q,iz r] at h1;exact h1,?_,λ i hi x mo=>?_⟩
   .have l1:=(h.wU q).1;have l2:=(h.wU r).1;refine List.ext_getElem (by rw[l1,l2]) λ i g1 g2=>?_;have:=h2 i (by show i<mK a;omega);have this:kR a s i=kR a t i:=this;unfold kR at this;rw[decide_eq_true q,decide_eq_true r,List.getD_eq_getElem?_getD (l:=a.accept.getD s []),List.getD_eq_getElem?_getD (l:=a.accept.getD t []),List.getElem?_eq_getElem g1,List.getElem?_eq_getElem g2] at this;exact this
   .have:=h3 i x hi mo;rw[hx s i x q hi mo,hx t i x r hi mo];exact this
 .rw[iz q,show t=nK a by omega,J6];have:=(hk.bd s q).1;have:=hb s q;exact⟨λ e=>by omega,λ e=>by have e1:=e.1;rw[iz q,J6] at e1;omega⟩
 .rw[iz r,show s=nK a by omega,J6];have:=(hk.bd t r).1;have:=hb t r;exact⟨λ e=>by omega,λ e=>by have e1:=e.1;rw[iz r,J6] at e1;omega⟩
 .rw[show s=nK a by omega,show t=nK a by omega];exact⟨λ _=>⟨rfl,λ _ _=>rfl,λ _ _ _ _=>rfl⟩,λ _=>rfl⟩
def CS.Nt{a:O}{d:Nat}{out:List Int}{n:Nat}(h:CS a d out n):∀ s t,s<=nK a->t<=nK a->(cx (nK a) (bZ (eN a) out (nK a)).1 s=cx (nK a) (bZ (eN a) out (nK a)).1 t↔(lZ (eN a)).eqv (λ s t=>(s=nK a↔t=nK a)) (d+1) s t) :=
 Am.round (yh (Qp h.ok)) h.Lk λ _ _ hs ht=>XF (Qp h.ok) h.bd hs ht
def CS.Z4{a:O}{d:Nat}{out:List Int}{n:Nat}(_h:CS a d out n):nO (cx (nK a) (bZ (eN a) out (nK a)).1) (nK a+1)=(bZ (eN a) out (nK a)).2+1:=by
 have hk:=LP (eN a) out (nK a);rw[Yn λ i hi=>(hk.bd i hi).1,hk.aZ]
def CS.up{a:O}{d:Nat}{out:List Int}{n:Nat}(h:CS a d out n):n<=(bZ (eN a) out (nK a)).2/\(bZ (eN a) out (nK a)).2<=nK a:=by
 have h1:=h.aZ;have h2:=h.Z4;have h3:nO (cx (nK a) out) (nK a+1)<=nO (cx (nK a) (bZ (eN a) out (nK a)).1) (nK a+1):=Sh λ s t hs ht q=>(h.Lk s t (by omega) (by omega)).2 ((h.Nt s t (by omega) (by omega)).1 q).1;exact⟨by omega,(CI _ _ _).2⟩
def CS.next{a:O}{d:Nat}{out:List Int}{n:Nat}(h:CS a d out n)(hn:¬ (bZ (eN a) out (nK a)).2=n):CS a (d+1) (bZ (eN a) out (nK a)).1 (bZ (eN a) out (nK a)).2:=by
 have h6:nK a<=60:=h.ok.n60;have:=h.up;have:=h.dn;have:=h.nn;refine⟨h.ok,?_,(CI _ _ _).1,λ i hi=>((LP _ _ _).bd i hi).1,by omega,by omega,h.Nt,h.Z4⟩;rw[<-h.eq,show 70 - d=(70 - (d+1))+1 by omega,Mr,a8v (show ¬ (bZ (eN a) out (nK (eN a))).2=n from hn)];rfl
structure XT(a:O)(out:List Int):Prop where
 hl:out.length=nK a
 bd:∀ i,i<nK a->0<=out.getD i 0
 Lk:∀ s t,s<nK a->t<nK a->(out.getD s 0=out.getD t 0↔(lZ a).same s t)
def CS.done{a:O}{d:Nat}{out:List Int}{n:Nat}(h:CS a d out n)(hn:(bZ (eN a) out (nK a)).2=n):out=Sb a/\XT a out:=by
 have h6:nK a<=60:=h.ok.n60;have:=h.dn;have:=h.nn;have hB:=yh (Qp h.ok);have hA:=yh h.ok;have hC:=a1p h.ok;refine⟨?_,h.hl,h.bd,λ s t hs ht=>?_⟩
 .rw[<-h.eq,show 70 - d=(70 - (d+1))+1 by omega,Mr,a8A (show (bZ (eN a) out (nK (eN a))).2=n from hn)]
 .have hI:=hC.ini hA hB;have rP:(lZ (eN a)).Wx (λ s t=>(s=nK a↔t=nK a)) (λ s t=>(lZ a).same s t/\(s=nK a↔t=nK a)):=hI;have:=(Am.ended hB rP (λ s t hs ht q1 q2=>⟨(hC.same hA hB hs ht).1 q2,q1⟩) h.Lk h.Nt (by
   show nO _ (nK a+1)=nO _ (nK a+1);rw[h.aZ,h.Z4,hn]) s t (b1l hs) (b1l ht)).1
  rw[iz hs,iz ht] at this;exact this.trans ⟨λ q=>q.1,λ q=>⟨q,by omega⟩⟩
def VM{a:O}:∀ (f d:Nat) (out:List Int) (n:Nat),62<=f+n->CS a d out n->XT a (Sb a)
 | 0,d,out,n,hf,hc=>by have:=hc.nn;have h6:nK a<=60:=hc.ok.n60;omega
 | f+1,d,out,n,hf,hc=>by
  by_cases hn:(bZ (eN a) out (nK a)).2=n
  .have:=hc.done hn;rw[<-this.1];exact this.2
  .exact VM f (d+1) _ _ (by have:=hc.up;omega) (hc.next hn)
def Uj{a:O}(h:cG a):XT a (Sb a):=VM 61 0 _ 1 (a8C _) (CS.first h)
noncomputable def rO(a:O)(j:Nat):List Int:=(List.range (nK a)).map λ s=>if s<j/\(eJ a).getD s false=false then -1 else (Sb a).getD s 0
noncomputable def cA(a:O):List Int:=rO a (nK a)
def pI(a:O)(j:Nat):(rO a j).length=nK a:=by simp[rO]
def xq{a:O}{j s:Nat}(h:s<nK a):(rO a j).getD s 0=if s<j/\(eJ a).getD s false=false then -1 else (Sb a).getD s 0:=by
 unfold rO;rw[List.getD_eq_getElem?_getD,List.getElem?_map,List.getElem?_range h];rfl
def a4c{a:O}(h:cG a):Sb a=rO a 0:=by
 refine b1r (by rw[pI,(Uj h).hl]) λ i h1 h2=>?_;have:=xq (a:=a) (j:=0) (s:=i) (by rw[pI] at h2;exact h2);rw[a8v (by omega),a8D,a8D,a8H h1,a8H h2] at this;exact this.symm
def a4e{a:O}{j:Nat}(hj:j<nK a)(hl:(eJ a).getD j false=false):(rO a j).set j (-1)=rO a (j+1):=by
 refine b1r (by rw[a9q,pI,pI]) λ i h1 h2=>?_;have hi:i<nK a:=by rw[pI] at h2;exact h2
 have e1:=xq (a:=a) (j:=j) hi;have e2:=xq (a:=a) (j:=j+1) hi;have e3:(rO a j).getD i 0=(rO a j)[i]'(by rw[pI];exact hi):=by rw[a8D,a8H];rfl
 rw[a8D,a8H h2] at e2;have e2:(rO a (j+1))[i]=_:=e2;rw[e3] at e1;rw[List.getElem_set,e2,e1];by_cases q:j=i
 .subst q;rw[a8A rfl,a8A ⟨by omega,hl⟩]
 .rw[a8v q];by_cases r:i<j
  .by_cases l:(eJ a).getD i false=false
   .rw[a8A ⟨r,l⟩,a8A ⟨by omega,l⟩]
   .rw[a8v λ w=>l w.2,a8v λ w=>l w.2]
  .rw[a8v λ w=>r w.1,a8v λ w=>by omega]
def a4d{a:O}{j:Nat}(hl:(eJ a).getD j false=true):rO a j=rO a (j+1):=by
 unfold rO;refine List.map_congr_left λ i _=>?_;by_cases q:i=j
 .subst q;rw[a8v λ w=>by rw[hl] at w;exact absurd w.2 (by decide),a8v λ w=>by rw[hl] at w;exact absurd w.2 (by decide)]
 .by_cases l:i<j/\(eJ a).getD i false=false
  .rw[a8A l,a8A ⟨by omega,l.2⟩]
  .rw[a8v l,a8v λ w=>l ⟨by omega,w.2⟩]
def R4{a:O}(h:cG a){s:Nat}(hs:s<nK a):(aN a).getD s 0=0↔(lZ a).dead s:=by
 have hk:=Gr h;rw[Am.Pq (yh h)];have:=hk.Lk s (nK a) (by omega) (by omega);rw[hk.z] at this;exact this
def pF{a:O}(h:cG a){s:Nat}(hs:s<nK a):(cA a).getD s 0<0↔(lZ a).dead s:=by
 have hk:=(Uj h).bd s hs;unfold cA;rw[xq hs];by_cases l:(eJ a).getD s false=false
 .rw[a8A ⟨hs,l⟩];exact⟨λ _=>b0W.1 λ q=>absurd l (by rw[(xP hs).2 q];decide),λ _=>by omega⟩
 .rw[if_neg λ w=>l w.2];have l:(eJ a).getD s false=true:=by simpa using l
  exact⟨λ q=>by omega,λ q=>absurd q ((xP hs).1 l)⟩
def Sc{a:O}{s:Nat}(h:cG a)(hs:s<nK a)(q:¬ (lZ a).dead s):(cA a).getD s 0=(Sb a).getD s 0:=by
 unfold cA;rw[xq hs,if_neg λ w=>by rw[(xP hs).2 q] at w;exact absurd w.2 (by decide)]
def a3R{a:O}(h:cG a){s t:Nat}(hs:s<nK a)(ht:t<nK a):(cA a).getD s 0=(cA a).getD t 0↔(aN a).getD s 0=(aN a).getD t 0:=by
 have hk:=Gr h;have hc:=Uj h;rw[hk.Lk s t (by omega) (by omega)];by_cases d1:(lZ a).dead s<;>by_cases d2:(lZ a).dead t
 .have e1:=(pF h hs).2 d1;have e2:=(pF h ht).2 d2;have f:∀ i,i<nK a->(cA a).getD i 0<0->(cA a).getD i 0 = -1:=λ i hi q=>by
   have:=hc.bd i hi;unfold cA at q ⊢;rw[xq hi] at q ⊢;split at q
   .rename_i w;rw[a8A w]
   .omega
  rw[f s hs e1,f t ht e2];exact⟨λ _ w i hw hi=>by rw[d1 w i hw hi,d2 w i hw hi],λ _=>rfl⟩
 .have e1:=(pF h hs).2 d1;have e2:¬ (cA a).getD t 0<0:=λ q=>d2 ((pF h ht).1 q);exact⟨λ e=>by omega,λ e=>absurd (λ w i hw hi=>by rw[<-e w i hw hi];exact d1 w i hw hi) d2⟩
 .have e1:=(pF h ht).2 d2;have e2:¬ (cA a).getD s 0<0:=λ q=>d1 ((pF h hs).1 q);exact⟨λ e=>by omega,λ e=>absurd (λ w i hw hi=>by rw[e w i hw hi];exact d2 w i hw hi) d1⟩
 .rw[Sc h hs d1,Sc h ht d2];exact hc.Lk s t hs ht
structure Wv where
 d:Nat
 out:List Int
 n:Nat
def CS.Ul{a:O}{d:Nat}{out:List Int}{n:Nat}(h:CS a d out n)(hn:(bZ (eN a) out (nK a)).2=n):out=rO a 0:=(h.done hn).1.trans (a4c h.ok)
def CS.less{a:O}{d:Nat}{out:List Int}{n:Nat}(h:CS a d out n)(hn:¬ (bZ (eN a) out (nK a)).2=n):70 - (bZ (eN a) out (nK a)).2<70 - n:=by
 have:=h.up;have h6:nK a<=60:=h.ok.n60;omega
end
end Go.Proofs.YtncejbehidimmaaGreatDoor

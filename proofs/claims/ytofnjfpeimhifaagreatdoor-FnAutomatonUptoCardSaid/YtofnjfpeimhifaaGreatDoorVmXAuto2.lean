/- VmDStep, VmDInj, VmISumL, VmIBase, VmSort, VmISum, VmDImp, VmDSt, VmDSt2, VmDSt3, VmDSt4, VmSas, VmFitX, VmShelf3, VmXSplit, VmXAuto, VmXAuto2. -/
import Derived.Test.YtofnjfpeimhifaaGreatDoorVmDSum
import Derived.Sort.Statements
import Derived.Shelf.Small.Bits
import Derived.Shelf.Small.Strs
import Derived.Shelf.SlSortCmp.NoneTotal
import Derived.Shelf.Utf8.RuneCount
import Derived.Shelf.Strings.Search1
import Derived.Shelf.Strings.Search2
import Derived.Shelf.Strings.Search3
import Derived.Shelf.Strings.Count
import Derived.Shelf.Strings.Shaped
import Derived.Shelf.Strings.Split
import Derived.Shelf.Strings.SplitShaped
import Derived.Shelf.Unicode.Decode
import Derived.Shelf.Strings.RuneCount
import Derived.Shelf.Strings.Explode
import Derived.Shelf.Unicode.DecodeSlow
import Derived.Shelf.Unicode.DecodeAny
import Derived.Test.YtofnjfpeimhifaaGreatDoorProg
import Derived.WalkKit
import Derived.LoopTactic
import Derived.OwnWalk
import Derived.Deep.RegionHeld3
import Derived.Deep.AppendLies
import Derived.Maps.AppendAt
import Derived.Deep.DeepCutAuto
import Derived.Deep.CutBlock
import Derived.Lib.SliceRun
import Derived.Deep.RegionWith
import Derived.Shelf.Strings.Builder1
import Derived.Shelf.Strconv.Itoa0
import Derived.Shelf.Strconv.Itoa1
import Derived.Shelf.LaysM
import Derived.Shelf.Strconv.Itoa2
import Derived.Shelf.Strconv.Itoa3
set_option linter.all false
set_option maxHeartbeats 4000000
set_option maxRecDepth 4000
namespace Go.Proofs.YtofnjfpeimhifaaGreatDoor
def b1G:=@Bool.and_eq_false_iff
def b0f:=@beq_eq_false_iff_ne
def b2H:=@UInt8.not_lt
def b0O:=@beq_iff_eq
def b2O:=@List.findIdx_le_length
def b3a:=@List.findIdx_getElem
def b2I:=@Option.bind_none
def b0L:=@Option.bind_some
def b1S:=@List.findIdx_cons
def b1p:=@List.prefix_refl
def b3s:=@List.prefix_append
def b3c:=@cond_false
def b3t:=@List.count_eq_zero
def b3y:=@Go.Lib.size_eq
noncomputable section
def ly(n:Nat):aX:=⟨su,[.r (.st .expr)],λ (x:J)=>⟨(some (bH x<n/\aA x=true/\ar x<=3000),[⟨(.st .expr),eC x⟩])⟩⟩
def mK:aX:=⟨su,[.r (.st .expr)],λ (x:J)=>⟨(some (aA x=true/\ar x<=3000),[⟨(.st .expr),eC x⟩])⟩⟩
def Nj(x:J):Nat->aJ:=cj
abbrev wV(n:Nat)(x:J):Prop:=(let v2:=x.ae.getD 0 zE;let v0:=aU (eC v2);let v3:=x.ae.getD 1 zE;let v1:=aU (eC v3);(x.ae.length<=140737488355328 ->
 (aB (0:Int) x.ae.length/\((bH v2<n/\aA v2=true/\ar v2<=3000)/\(x.ae.length<=140737488355328 ->
 (aB (1:Int) x.ae.length/\((bH v3<n/\aA v3=true/\ar v3<=3000)/\(ai x.ah ->
 (((decide (x.ah=(6:Int)))=true ->
 ((aA v0=true/\aA v1=true/\ar v0+ar v1<=7000)/\(aU (Nv v0 v1))=(eC x)))/\((decide (x.ah=(6:Int)))=false ->
 ((aA v0=true/\aA v1=true/\ar v0+ar v1<=4000)/\(aU (jT v0 v1))=(eC x))))))))))))
abbrev wW(n:Nat)(x:J):Prop:=(let v0:=x.ae.getD 0 zE;let v1:=aU (eC v0);(((decide (x.ah=(8:Int)))=true ->
 (x.ae.length<=140737488355328 ->
 (aB (0:Int) x.ae.length/\((bH v0<n/\aA v0=true/\ar v0<=3000)/\((aA v1=true/\ar v1<=4000)/\(aU (DR v1))=(eC x))))))/\((decide (x.ah=(8:Int)))=false ->
 (cv x<=1048576/\(aU x)=(eC x)))))
def Lh(n:Nat)(hE:bo [ly n,u9,uZ,rX,fA]):aX.Good (ly (n+1)):=by
 refine⟨aD kL,?_⟩;intro (x:J) (hp:bH x<n+1/\aA x=true/\ar x<=3000);refine aY [ly n,u9,uZ,rX,fA] [] [] [] hE kL Gj (Nj x) (let v0:=decide (x.ah=(6:Int));((ai x.ah->((v0=true->((v0=true->(wV n x))/\(v0=false->(wW n x))))/\(v0=false->(((decide (x.ah=(7:Int)))=true->(wV n x))/\((decide (x.ah=(7:Int)))=false->(wW n x)))))))) ?_;obtain⟨hm,hg,hn⟩:=hp;refine λ _=>⟨λ _=>⟨λ _ _=>⟨?_,?_,λ _=>⟨?_,?_,λ _=>⟨λ _=>⟨?_,?_⟩,λ _=>⟨?_,?_⟩⟩⟩⟩,λ _=>⟨λ _ _=>⟨?_,?_,?_,?_⟩,λ _=>⟨?_,?_⟩⟩⟩,λ _=>⟨λ _ _=>⟨?_,?_,λ _=>⟨?_,?_,λ _=>⟨λ _=>⟨?_,?_⟩,λ _=>⟨?_,?_⟩⟩⟩⟩,λ _=>⟨λ _ _=>⟨?_,?_,?_,?_⟩,λ _=>⟨?_,?_⟩⟩⟩⟩;all_goals try and_intros
 all_goals try (first|with_reducible rfl|with_reducible assumption)
 all_goals try simp only[J.eta,cC] at *
 all_goals (try simp only[a9J,a9N,a9d,a8Z,aB,J.eta] at *);first|rfl|trivial|omega|exact lB _ (by omega)|(have g:=j9 x hg (.inr (by omega));first|(have:=g.len;omega)|exact g.g0|(have:=g.l0;omega)|(have:=g.nd;omega)|exact (Ck _ g.g0).g|(have:=(Ck _ g.g0).n;have:=g.nd;omega)|(rw[a2r x (by omega) g]<;>rfl))|(have g:=cH x hg (by omega);first|(have:=g.len;omega)|exact g.g0|exact g.g1|(have:=g.l0;omega)|(have:=g.l1;omega)|(have:=g.nd;omega)|exact (Ck _ g.g0).g|exact (Ck _ g.g1).g|(have:=(Ck _ g.g0).n;have:=(Ck _ g.g1).n;have:=g.nd;omega)|(rw[a2p x (by omega) g]<;>rfl)|(rw[a2q x (by omega) g]<;>rfl))|(rw[a2s x (by omega) (by omega) (by omega)]<;>rfl)
def Rw :∀ n,bo [ly n]
 | 0=>⟨⟨aD kL,λ _ h=>absurd h.1 (a9K _)⟩,U⟩
 | n+1=>by
  have ih:=Rw  n;exact⟨Lh n ⟨ih.1,IF,IE,GK,jM,U⟩,U⟩
def uD :aX.Good mK :=
 ⟨aD kL,λ x hp=>(Rw  (bH x+1)).1.2 x (⟨a9o _,hp⟩)⟩
noncomputable def JD(raw:J):J×Bool:=if 800<ar raw then (raw,false) else (eC raw,true)
def VJ(x a b:J)(em:Bool):J:=if x.ah=6 then J.mk 6 0 [a,b] else if x.ah=7 then (if em=true then J.mk 6 0 [J.mk 7 0 [a,(x.ae.getD 1 zE)],b] else J.mk 7 0 [a,(x.ae.getD 1 zE)]) else J.mk 7 0 [a,x]
noncomputable def Rh(a c:Int)(x:J)(rs:List (J×Bool)):J×Bool :=
 if x.ah=4 then (if x.bl=c then J.mk 2 0 [] else J.mk 1 0 [],true)
 else if x.ah=6 then (if ((rs.getD 0 (x,false)).2&&(rs.getD 1 (x,false)).2)=true then JD (VJ x (rs.getD 0 (x,false)).1 (rs.getD 1 (x,false)).1 (emV a (x.ae.getD 0 zE))) else (J.mk 1 0 [],false))
 else if x.ah=7 then (if (rs.getD 0 (x,false)).2=true then (if (emV a (x.ae.getD 0 zE) && !(rs.getD 1 (x,false)).2)=true then (J.mk 7 0 [(rs.getD 0 (x,false)).1,(x.ae.getD 1 zE)],false) else JD (VJ x (rs.getD 0 (x,false)).1 (rs.getD 1 (x,false)).1 (emV a (x.ae.getD 0 zE)))) else (J.mk 1 0 [],false))
 else if x.ah=8 then (if (rs.getD 0 (x,false)).2=true then JD (VJ x (rs.getD 0 (x,false)).1 (rs.getD 1 (x,false)).1 (emV a (x.ae.getD 0 zE))) else (J.mk 1 0 [],false))
 else (J.mk 1 0 [],true)
noncomputable def spV(a c:Int)(x:J):J×Bool:=Ae (Rh a c) x
def Lm(a c:Int)(x:J):spV a c x=Rh a c x (jL (Rh a c) x.ae):=kP _ x
def VU(a c:Int)(x:J)(i:Nat)(h:i<x.ae.length):(jL (Rh a c) x.ae).getD i (x,false)=spV a c (x.ae.getD i zE):=eQ _ _ _ _ i h
noncomputable def lY(a c:Int)(x:J):J:=if x.ah=8 then J.mk 7 0 [(spV a c (x.ae.getD 0 zE)).1,x] else VJ x (spV a c (x.ae.getD 0 zE)).1 (spV a c (x.ae.getD 1 zE)).1 (emV a (x.ae.getD 0 zE))
def Hs(a c:Int)(x:J)(h:x.ah=4)(e:x.bl=c):spV a c x=(J.mk 2 0 [],true):=by rw[Lm,Rh,a9l h,a9l e]
def Hr(a c:Int)(x:J)(h:x.ah=4)(e:¬ x.bl=c):spV a c x=(J.mk 1 0 [],true):=by rw[Lm,Rh,a9l h,a9c e]
def a4y(a c:Int)(x:J)(h:x.ah=6)(g:B2 x):spV a c x=if ((spV a c (x.ae.getD 0 zE)).2&&(spV a c (x.ae.getD 1 zE)).2)=true then JD (lY a c x) else (J.mk 1 0 [],false):=by
 rw[Lm,Rh,a9c (by omega),a9l h,VU a c x 0 (by have:=g.len;omega),VU a c x 1 (by have:=g.len;omega),show lY a c x=_ from a9c (by omega)]
def oJ(a c:Int)(x:J)(h:x.ah=6)(g:B2 x)(e:(spV a c (x.ae.getD 0 zE)).2=false\/(spV a c (x.ae.getD 1 zE)).2=false):spV a c x=(J.mk 1 0 [],false):=by
 rw[a4y a c x h g,a9c];rcases e with e|e<;>rw[e]<;>simp
def a2a(a c:Int)(x:J)(h:x.ah=6)(g:B2 x)(e:(spV a c (x.ae.getD 0 zE)).2=true)(e':(spV a c (x.ae.getD 1 zE)).2=true):spV a c x=JD (lY a c x):=by
 rw[a4y a c x h g,a9l (by rw[e,e'];rfl)]
def a2b(a c:Int)(x:J)(h:x.ah=7)(g:B2 x):spV a c x=if (spV a c (x.ae.getD 0 zE)).2=true then (if (emV a (x.ae.getD 0 zE) && !(spV a c (x.ae.getD 1 zE)).2)=true then (J.mk 7 0 [(spV a c (x.ae.getD 0 zE)).1,(x.ae.getD 1 zE)],false) else JD (lY a c x)) else (J.mk 1 0 [],false):=by
 rw[Lm,Rh,a9c (by omega),a9c (by omega),a9l h,VU a c x 0 (by have:=g.len;omega),VU a c x 1 (by have:=g.len;omega),show lY a c x=_ from a9c (by omega)]
def Ht(a c:Int)(x:J)(h:x.ah=7)(g:B2 x)(e:(spV a c (x.ae.getD 0 zE)).2=false):spV a c x=(J.mk 1 0 [],false):=by
 rw[a2b a c x h g,a9c (by rw[e];decide)]
def Hu(a c:Int)(x:J)(h:x.ah=7)(g:B2 x)(e:(spV a c (x.ae.getD 0 zE)).2=true)(m:emV a (x.ae.getD 0 zE)=true)(e':(spV a c (x.ae.getD 1 zE)).2=false):spV a c x=(J.mk 7 0 [(spV a c (x.ae.getD 0 zE)).1,(x.ae.getD 1 zE)],false):=by
 rw[a2b a c x h g,a9l e,a9l (by rw[m,e'];rfl)]
def T7(a c:Int)(x:J)(h:x.ah=7)(g:B2 x)(e:(spV a c (x.ae.getD 0 zE)).2=true)(m:emV a (x.ae.getD 0 zE)=false\/(spV a c (x.ae.getD 1 zE)).2=true):spV a c x=JD (lY a c x):=by
 rw[a2b a c x h g,a9l e,a9c];rcases m with m|m<;>rw[m]<;>simp
def a4z(a c:Int)(x:J)(h:x.ah=8)(g:B1 x):spV a c x=if (spV a c (x.ae.getD 0 zE)).2=true then JD (lY a c x) else (J.mk 1 0 [],false):=by
 rw[Lm,Rh,a9c (by omega),a9c (by omega),a9c (by omega),a9l h,VU a c x 0 (by have:=g.len;omega),show lY a c x=_ from a9l h,show VJ x _ _ _=J.mk 7 0 [_,x] from (a9c (by omega)).trans (a9c (by omega))]
def Hv(a c:Int)(x:J)(h:x.ah=8)(g:B1 x)(e:(spV a c (x.ae.getD 0 zE)).2=false):spV a c x=(J.mk 1 0 [],false):=by
 rw[a4z a c x h g,a9c (by rw[e];decide)]
def a2c(a c:Int)(x:J)(h:x.ah=8)(g:B1 x)(e:(spV a c (x.ae.getD 0 zE)).2=true):spV a c x=JD (lY a c x):=by
 rw[a4z a c x h g,a9l e]
def Qp(a c:Int)(x:J)(h4:¬ x.ah=4)(h6:¬ x.ah=6)(h7:¬ x.ah=7)(h8:¬ x.ah=8):spV a c x=(J.mk 1 0 [],true):=by
 rw[Lm,Rh,a9c h4,a9c h6,a9c h7,a9c h8]
def VK(a c:Int)(x:J)(h:x.ah=6):lY a c x=J.mk 6 0 [(spV a c (x.ae.getD 0 zE)).1,(spV a c (x.ae.getD 1 zE)).1]:=by rw[lY,a9c (by omega),VJ,a9l h]
def Qh(a c:Int)(x:J)(h:x.ah=7)(m:emV a (x.ae.getD 0 zE)=true):lY a c x=J.mk 6 0 [J.mk 7 0 [(spV a c (x.ae.getD 0 zE)).1,(x.ae.getD 1 zE)],(spV a c (x.ae.getD 1 zE)).1]:=by rw[lY,a9c (by omega),VJ,a9c (by omega),a9l h,a9l m]
def Qg(a c:Int)(x:J)(h:x.ah=7)(m:emV a (x.ae.getD 0 zE)=false):lY a c x=J.mk 7 0 [(spV a c (x.ae.getD 0 zE)).1,(x.ae.getD 1 zE)]:=by rw[lY,a9c (by omega),VJ,a9c (by omega),a9l h,a9c (by rw[m];decide)]
def VL(a c:Int)(x:J)(h:x.ah=8):lY a c x=J.mk 7 0 [(spV a c (x.ae.getD 0 zE)).1,x]:=by rw[lY,a9l h]
structure Um(r:J×Bool):Prop where
 g:r.2=true->aA r.1=true
 n:r.2=true->ar r.1<=800
def NO(x:J)(h:aA x=true):Um (JD x):=by
 unfold JD;split
 .exact⟨nofun,nofun⟩
 .have:=Ck x h;exact⟨λ _=>this.g,λ _=>by have:=this.n;show ar (eC x)<=800;omega⟩
structure Es(a c:Int)(x:J):Prop where
 e:spV a c x=JD (lY a c x)
 g:aA (lY a c x)=true
 n:ar (lY a c x)<=3000
def Ln(a c:Int):∀ (N:Nat) (x:J),bH x<N->aA x=true->Um (spV a c x)
 | 0,x,h,_=>by omega
 | N+1,x,hN,h=>by
  have z1:Um (J.mk 1 0 [],true):=⟨λ _=>GM,λ _=>by decide⟩;have zf:∀ y,Um (y,false):=λ y=>⟨nofun,nofun⟩;by_cases h4:x.ah=4
  .by_cases e:x.bl=c
   .rw[Hs a c x h4 e];exact⟨λ _=>RQ,λ _=>by decide⟩
   .rw[Hr a c x h4 e];exact z1
  by_cases h6:x.ah=6
  .have g:=cH x h (.inl h6);have p:=Ln a c N (x.ae.getD 0 zE) (by have:=g.l0;omega) g.g0;have q:=Ln a c N (x.ae.getD 1 zE) (by have:=g.l1;omega) g.g1;rcases b0j (spV a c (x.ae.getD 0 zE)).2 with e|e
   .rcases b0j (spV a c (x.ae.getD 1 zE)).2 with e'|e'
    .rw[a2a a c x h6 g e e',VK a c x h6];exact NO _ (gG _ _ 6 (p.g e) (q.g e') (.inl rfl))
    .rw[oJ a c x h6 g (.inr e')];exact zf _
   .rw[oJ a c x h6 g (.inl e)];exact zf _
  by_cases h7:x.ah=7
  .have g:=cH x h (.inr h7);have p:=Ln a c N (x.ae.getD 0 zE) (by have:=g.l0;omega) g.g0;have q:=Ln a c N (x.ae.getD 1 zE) (by have:=g.l1;omega) g.g1;rcases b0j (spV a c (x.ae.getD 0 zE)).2 with e|e
   .have b:=gG _ _ 7 (p.g e) g.g1 (.inr rfl);rcases b0j (emV a (x.ae.getD 0 zE)) with m|m
    .rcases b0j (spV a c (x.ae.getD 1 zE)).2 with e'|e'
     .rw[T7 a c x h7 g e (.inr e'),Qh a c x h7 m];exact NO _ (gG _ _ 6 b (q.g e') (.inl rfl))
     .rw[Hu a c x h7 g e m e'];exact zf _
    .rw[T7 a c x h7 g e (.inl m),Qg a c x h7 m];exact NO _ b
   .rw[Ht a c x h7 g e];exact zf _
  by_cases h8:x.ah=8
  .have g:=j9 x h (.inr h8);have p:=Ln a c N (x.ae.getD 0 zE) (by have:=g.l0;omega) g.g0;rcases b0j (spV a c (x.ae.getD 0 zE)).2 with e|e
   .rw[a2c a c x h8 g e,VL a c x h8];exact NO _ (gG _ _ 7 (p.g e) h (.inr rfl))
   .rw[Hv a c x h8 g e];exact zf _
  .rw[Qp a c x h4 h6 h7 h8];exact z1
def VT(a c:Int)(x:J)(h:aA x=true):Um (spV a c x):=Ln a c _ x (a9o _) h
def a1W(a c:Int)(x:J)(hg:aA x=true)(hn:ar x<=1000)(h:x.ah=6)(e:(spV a c (x.ae.getD 0 zE)).2=true)(e':(spV a c (x.ae.getD 1 zE)).2=true):Es a c x:=by
 have g:=cH x hg (.inl h);have p:=VT a c _ g.g0;have q:=VT a c _ g.g1;refine⟨a2a a c x h g e e',?_,?_⟩
 .rw[VK a c x h];exact gG _ _ 6 (p.g e) (q.g e') (.inl rfl)
 .rw[VK a c x h,km];have:=p.n e;have:=q.n e';omega
def T6(a c:Int)(x:J)(hg:aA x=true)(hn:ar x<=1000)(h:x.ah=7)(e:(spV a c (x.ae.getD 0 zE)).2=true)(m:emV a (x.ae.getD 0 zE)=false\/(emV a (x.ae.getD 0 zE)=true/\(spV a c (x.ae.getD 1 zE)).2=true)):Es a c x:=by
 have g:=cH x hg (.inr h);have p:=VT a c _ g.g0;have q:=VT a c _ g.g1;have b:=gG _ _ 7 (p.g e) g.g1 (.inr rfl);have nd:=g.nd;have n0:=p.n e;rcases m with m|⟨m,e'⟩
 .refine⟨T7 a c x h g e (.inl m),?_,?_⟩
  .rw[Qg a c x h m];exact b
  .rw[Qg a c x h m,km];omega
 .refine⟨T7 a c x h g e (.inr e'),?_,?_⟩
  .rw[Qh a c x h m];exact gG _ _ 6 b (q.g e') (.inl rfl)
  .rw[Qh a c x h m,km,km];have:=q.n e';omega
def a1X(a c:Int)(x:J)(hg:aA x=true)(hn:ar x<=1000)(h:x.ah=8)(e:(spV a c (x.ae.getD 0 zE)).2=true):Es a c x:=by
 have g:=j9 x hg (.inr h);have p:=VT a c _ g.g0;refine⟨a2c a c x h g e,?_,?_⟩
 .rw[VL a c x h];exact gG _ _ 7 (p.g e) hg (.inr rfl)
 .rw[VL a c x h,km];have:=p.n e;omega
def a1Z(a c:Int)(x:J)(j:Es a c x)(h:800<ar (lY a c x)):spV a c x=(lY a c x,false):=by rw[j.e,JD,a9l h]
def a1Y(a c:Int)(x:J)(j:Es a c x)(h:¬ 800<ar (lY a c x)):spV a c x=(eC (lY a c x),true):=by rw[j.e,JD,a9c h]
def lv(n:Nat):aX:=⟨ss,[.r (.st .expr), .v (.int .i64), .v (.int .i64)],λ (x:J) (atom:Int) (act:Int)=>⟨(some (bH x<n/\aA x=true/\ar x<=1000/\0<=atom/\atom<=4096),[⟨(.st .expr),(spV atom act x).1⟩,⟨.bool,(spV atom act x).2⟩])⟩⟩
def Bt:aX:=⟨ss,[.r (.st .expr), .v (.int .i64), .v (.int .i64)],λ (x:J) (atom:Int) (act:Int)=>⟨(some (aA x=true/\ar x<=1000/\0<=atom/\atom<=4096),[⟨(.st .expr),(spV atom act x).1⟩,⟨.bool,(spV atom act x).2⟩])⟩⟩
def Ni(x:J)(atom:Int)(act:Int):Nat->aJ:=(eA 100029 (.u (Es atom act x) [0,1,2,19] [] [6] [(8, .box [.aN ⟨(.int .i64),((lY atom act x).ah:Int)⟩, .aN ⟨(.int .i64),((lY atom act x).bl:Int)⟩, .aN ⟨(.slice (.st .expr)),((lY atom act x).ae:List J)⟩])] cj) cj)
abbrev wT(x:J)(atom:Int)(act:Int):Prop:=(let v0:=J.mk (6:Int) 0 [(aU ((spV atom act (x.ae.getD 0 zE)).1)),(aU ((spV atom act (x.ae.getD 1 zE)).1))];(∃ u1:Unit,(Es atom act x/\((True/\(True/\True))/\((v0.ah=((lY atom act x).ah)/\(v0.bl=((lY atom act x).bl)/\(v0.ae=((lY atom act x).ae)/\True)))/\(((0:Int)=(0:Int)/\((0:Int)=(0:Int)/\(True/\True)))/\True))))))
abbrev wU(x:J)(atom:Int)(act:Int):Prop:=((!((spV atom act (x.ae.getD 0 zE)).2))=true ->
 ((aU (J.mk 1 0 []))=((spV atom act x).1)/\false=((spV atom act x).2)))
def Lg(n:Nat)(hE:bo [lv n,jm,ou,jl,pO,rV,mK]):aX.Good (lv (n+1)):=by
 refine⟨aD kK,?_⟩;intro (x:J) (atom:Int) (act:Int) (hp:bH x<n+1/\aA x=true/\ar x<=1000/\0<=atom/\atom<=4096);refine aY [lv n,jm,ou,jl,pO,rV,mK] [] [] [] hE kK Gi (Ni x atom act) (let v2:=x.ae.getD 0 zE;let v3:=x.ae.getD 1 zE;let v4:=spV atom act x;let v5:=bH v2<n/\aA v2=true/\ar v2<=1000/\0<=atom/\atom<=4096;let v7:=lY atom act x;let v0:=J.mk (v7.ah) (v7.bl) (v7.ae);let va:=bH v3<n/\aA v3=true/\ar v3<=1000/\0<=atom/\atom<=4096;let vb:=spV atom act v2;let v1:=J.mk (7:Int) 0 [(aU (vb.1)),v3];let v8:=J.mk (6:Int) 0 [(aU v1),(aU ((spV atom act v3).1))];let v9:=J.mk (7:Int) 0 [(aU (vb.1)),x];let vc:=aU (J.mk 1 0 []);let vd := !((spV atom act v3).2);let ve:=True/\(True/\True);let vf:=decide ((800:Int)<((ar v0:Int)));let vg:=(0:Int);let v6:=(vg=vg/\(vg=vg/\(True/\True)))/\True;let vh:=vc=(v4.1)/\false=(v4.2);let vi:=vc=(v4.1)/\true=(v4.2);(((ai x.ah->(((decide (x.ah=(4:Int)))=true->(ai x.bl->(((decide (x.bl=act))=true->((aU (J.mk 2 0 []))=(v4.1)/\true=(v4.2)))/\((decide (x.bl=act))=false->vi))))/\((decide (x.ah=(4:Int)))=false->(((decide (x.ah=(6:Int)))=true->(x.ae.length<=140737488355328->(aB vg x.ae.length/\(v5/\(x.ae.length<=140737488355328->(aB (1:Int) x.ae.length/\(va/\(((!(vb.2))=false->((vd=true->vh)/\(vd=false->(wT x atom act))))/\((!(vb.2))=(!false)->((true=true->vh)/\(true=false->(wT x atom act))))))))))))/\((decide (x.ah=(6:Int)))=false->(((decide (x.ah=(7:Int)))=true->(x.ae.length<=140737488355328->(aB vg x.ae.length/\(v5/\((wU x atom act)/\((!(vb.2))=false->(aB (1:Int) x.ae.length/\(x.ae.length<=140737488355328->(x.ae.length<=140737488355328->(aB vg x.ae.length/\((aA v2=true/\0<=atom/\atom<=4096)/\(((emV atom v2)=true->(x.ae.length<=140737488355328->(aB (1:Int) x.ae.length/\(va/\((vd=true->((aU v1)=(v4.1)/\false=(v4.2)))/\(vd=false->(∃ u1:Unit,(Es atom act x/\(ve/\((v8.ah=(v7.ah)/\(v8.bl=(v7.bl)/\(v8.ae=(v7.ae)/\True)))/\v6))))))))))/\((emV atom v2)=false->(∃ u1:Unit,(Es atom act x/\(ve/\((v1.ah=(v7.ah)/\(v1.bl=(v7.bl)/\(v1.ae=(v7.ae)/\True)))/\v6)))))))))))))))))/\((decide (x.ah=(7:Int)))=false->(((decide (x.ah=(8:Int)))=true->(x.ae.length<=140737488355328->(aB vg x.ae.length/\(v5/\((wU x atom act)/\((!(vb.2))=false->(∃ u1:Unit,(Es atom act x/\(ve/\((v9.ah=(v7.ah)/\(v9.bl=(v7.bl)/\(v9.ae=(v7.ae)/\True)))/\v6))))))))))/\((decide (x.ah=(8:Int)))=false->vi)))))))))/\(∀ u1:Unit,(Es atom act x->(ar v0<=1048576/\(ai ((ar v0:Int))->((vf=true->(v0=(v4.1)/\false=(v4.2)))/\(vf=false->((aA v0=true/\ar v0<=3000)/\((aU (eC v0))=(v4.1)/\true=(v4.2)))))))))))) ?_;obtain⟨hm,hg,hn,h0,h1⟩:=hp;refine⟨λ _=>⟨λ _ _=>⟨λ _=>⟨?_,?_⟩,λ _=>⟨?_,?_⟩⟩,λ _=>⟨λ _ _=>⟨?_,?_,λ _=>⟨?_,?_,λ _=>⟨λ _=>⟨?_,?_⟩,λ _=>⟨(),?_,⟨U,U,U⟩,⟨?_,?_,?_,U⟩,⟨rfl,rfl,U,U⟩,U⟩⟩,λ _=>⟨λ _=>⟨?_,?_⟩,λ _=>⟨(),?_,⟨U,U,U⟩,⟨?_,?_,?_,U⟩,⟨rfl,rfl,U,U⟩,U⟩⟩⟩⟩,λ _=>⟨λ _ _=>⟨?_,?_,λ _=>⟨?_,?_⟩,λ _=>⟨?_,λ _ _=>⟨?_,?_,λ _ _=>⟨?_,?_,λ _=>⟨?_,?_⟩,λ _=>⟨(),?_,⟨U,U,U⟩,⟨?_,?_,?_,U⟩,⟨rfl,rfl,U,U⟩,U⟩⟩,λ _=>⟨(),?_,⟨U,U,U⟩,⟨?_,?_,?_,U⟩,⟨rfl,rfl,U,U⟩,U⟩⟩⟩⟩,λ _=>⟨λ _ _=>⟨?_,?_,λ _=>⟨?_,?_⟩,λ _=>⟨(),?_,⟨U,U,U⟩,⟨?_,?_,?_,U⟩,⟨rfl,rfl,U,U⟩,U⟩⟩,λ _=>⟨?_,?_⟩⟩⟩⟩⟩,λ u1 _=>⟨?_,λ _=>⟨λ _=>⟨?_,?_⟩,λ _=>⟨?_,?_,?_⟩⟩⟩⟩;all_goals try and_intros
 all_goals try (first|with_reducible rfl|with_reducible assumption)
 all_goals try simp only[J.eta,cC] at *
 all_goals (try simp only[a9J,a9N,a9t,a9E,a9d,a8Z,aB,J.eta] at *);first|rfl|trivial|omega|with_reducible assumption|(rw[Hs atom act x (by omega) (by omega)]<;>rfl)|(rw[Hr atom act x (by omega) (by omega)]<;>rfl)|(rw[Qp atom act x (by omega) (by omega) (by omega) (by omega)]<;>rfl)|exact a1W atom act x hg hn (by omega) (by with_reducible assumption) (by with_reducible assumption)|exact T6 atom act x hg hn (by omega) (by with_reducible assumption) (.inl (by with_reducible assumption))|exact T6 atom act x hg hn (by omega) (by with_reducible assumption) (.inr ⟨(by with_reducible assumption),(by with_reducible assumption)⟩)|exact a1X atom act x hg hn (by omega) (by with_reducible assumption)|(rw[a1Z atom act x (by with_reducible assumption) (by omega)]<;>rfl)|(rw[a1Y atom act x (by with_reducible assumption) (by omega)]<;>rfl)|exact Es.g (by with_reducible assumption)|exact Es.n (by with_reducible assumption)|(have q:=Es.n (show Es atom act x by assumption);omega)|(have g:=cH x hg (by omega);first|(have:=g.len;omega)|exact g.g0|exact g.g1|(have:=g.l0;omega)|(have:=g.l1;omega)|(have:=g.nd;omega)|(rw[oJ atom act x (by omega) g (.inl (by with_reducible assumption))]<;>rfl)|(rw[oJ atom act x (by omega) g (.inr (by with_reducible assumption))]<;>rfl)|(rw[Ht atom act x (by omega) g (by with_reducible assumption)]<;>rfl)|(rw[Hu atom act x (by omega) g (by with_reducible assumption) (by with_reducible assumption) (by with_reducible assumption)]<;>rfl)|(rw[VK atom act x (by omega)]<;>rfl)|(rw[Qh atom act x (by omega) (by with_reducible assumption)]<;>rfl)|(rw[Qg atom act x (by omega) (by with_reducible assumption)]<;>rfl))|(have g:=j9 x hg (by omega);first|(have:=g.len;omega)|exact g.g0|(have:=g.l0;omega)|(have:=g.nd;omega)|(rw[Hv atom act x (by omega) g (by with_reducible assumption)]<;>rfl)|(rw[VL atom act x (by omega)]<;>rfl))
def Ru :∀ n,bo [lv n]
 | 0=>⟨⟨aD kK,λ _ _ _ h=>absurd h.1 (a9K _)⟩,U⟩
 | n+1=>by
  have ih:=Ru  n;exact⟨Lg n ⟨ih.1,mZ,wC,mY,ES,GF,uD,U⟩,U⟩
def GL :aX.Good Bt :=
 ⟨aD kK,λ x atom act hp=>(Ru  (bH x+1)).1.2 x atom act (⟨a9o _,hp⟩)⟩
def Qs:Nat->J->J
 | 0,x=>x
 | m+1,x=>Qs m (J.mk 8 0 [x])
def Qt:∀ (m:Nat) (x:J),Qs (m+1) x=J.mk 8 0 [Qs m x]
 | 0,x=>rfl
 | m+1,x=>Qt m (J.mk 8 0 [x])
def VY{x y:J}(hx:¬ x.ah=8)(hy:¬ y.ah=8):∀ (m n:Nat),Qs m x=Qs n y->x=y/\m=n
 | 0,0,h=>⟨h,rfl⟩
 | 0,n+1,h=>by rw[Qt] at h;exact absurd (by rw[show x=_ from h]) hx
 | m+1,0,h=>by rw[Qt] at h;exact absurd (by rw[show y=_ from h.symm]) hy
 | m+1,n+1,h=>by
  rw[Qt,Qt] at h;simp only[J.mk.injEq,a9a,a9q,b0z] at h;obtain⟨h1,h2⟩:=VY hx hy m n h;exact⟨h1,by rw[h2]⟩
def NS(r:List UInt8):Prop:=∀ b t,r=b::t->¬ b=42
def NS.of{b:UInt8}{t:List UInt8}(h:¬ b=42):NS (b::t):=λ c u e=>by cases e;exact h
def NS.nil:NS []:=λ _ _ e=>nomatch e
def VF:∀ (m n:Nat) {r s:List UInt8},NS r->NS s->List.replicate m (42:UInt8)++r=List.replicate n 42++s->m=n/\r=s
 | 0,0,r,s,_,_,h=>⟨rfl,h⟩
 | 0,n+1,r,s,hr,_,h=>absurd rfl (hr 42 (List.replicate n 42++s) (by simpa [List.replicate_succ] using h))
 | m+1,0,r,s,_,hs,h=>absurd rfl (hs 42 (List.replicate m 42++r) (by simpa [List.replicate_succ] using h.symm))
 | m+1,n+1,r,s,hr,hs,h=>by
  obtain⟨h1,h2⟩:=VF m n hr hs (by simpa [List.replicate_succ] using h);exact⟨by rw[h1],h2⟩
def iq(x:J)(h:aA x=true)(h3:¬ x.ah=3)(h4:¬ x.ah=4):x.bl=0:=by
 simp only[aA] at h;rw[jv,nv] at h;simp only[Bool.and_eq_true,decide_eq_true_eq] at h;have:=h.1.1.2;rw[AO,if_neg h3,if_neg h4] at this;simpa using this
def OW(x:J)(h:aA x=true)(h5:x.ah=5):¬ (x.ae.getD 0 zE).ah=8:=by
 simp only[aA] at h;rw[jv,nv] at h;simp only[Bool.and_eq_true,decide_eq_true_eq] at h;have:bD (x.ae.getD 0 zE)=true:=by simpa [h5] using h.1.2
 rw[tm] at this;intro e;rw[e] at this;simp[ua] at this
def ka(x:J)(h:aA x=true)(e:x.ah=1\/x.ah=2\/x.ah=3\/x.ah=4):x.ae=[]:=by
 simp only[aA] at h;rw[jv,nv] at h;simp only[a9e,a9d] at h;have h1:=h.1.1.1;apply b0d;rcases e with e|e|e|e<;>rw[e] at h1<;>simp[cA] at h1<;>omega
def a0B(x:J)(h:x.ae.length=1):x=J.mk x.ah x.bl [(x.ae.getD 0 zE)]:=by
 obtain⟨k,n,ks⟩:=x;match ks,h with
 | [a],_=>rfl
def X7(x:J)(h:x.ae.length=2):x=J.mk x.ah x.bl [(x.ae.getD 0 zE),(x.ae.getD 1 zE)]:=by
 obtain⟨k,n,ks⟩:=x;match ks,h with
 | [a,b],_=>rfl
def LY(x:J)(h:x.ae=[]):x=J.mk x.ah x.bl []:=by
 obtain⟨k,n,ks⟩:=x;cases h;rfl
def fbE(k:Int):UInt8:=if k=1 then 48 else if k=2 then 49 else if k=3 then 116 else if k=4 then 97 else if k=5 then 126 else 40
def XK(x:J)(h:aA x=true)(h8:¬ x.ah=8):∃ t,bC x=fbE x.ah::t:=by
 rcases ez x h with e|e|e|e|e|e|e|e
 .exact⟨_,by rw[(dO x h).1 e,e];rfl⟩
 .exact⟨_,by rw[(dO x h).2.1 e,e];rfl⟩
 .exact⟨_,by rw[(YF x h e).2.2.2,e];rfl⟩
 .exact⟨_,by rw[(YG x h e).2.2.2,e];rfl⟩
 .exact⟨_,by rw[(YH x h e).2.2,e];rfl⟩
 .exact⟨_,by rw[(Sl x h e).2.2.2,e];rfl⟩
 .exact⟨_,by rw[(Sm x h e).2.2.2,e];rfl⟩
 .exact absurd e h8
def XJ(x:J)(h:aA x=true)(e:x.ah=8):aA (x.ae.getD 0 zE)=true/\bH (x.ae.getD 0 zE)<bH x/\x=J.mk 8 0 [(x.ae.getD 0 zE)]/\bC x=bC (x.ae.getD 0 zE)++[42]:=by
 have b:=j9 x h (.inr e);have g:=a4G x h (by omega) (by omega) (by omega) (by omega) (by omega) (by omega) (by omega);have hx:=a0B x b.len;rw[iq x h (by omega) (by omega),e] at hx;exact⟨b.g0,b.l0,hx,by rw[g.2.2]⟩
def Lu:∀ (N:Nat) (x:J),bH x<N->aA x=true->∃ b t,bC x=b::t/\¬ b=42/\¬ b=43
 | 0,x,h,_=>by omega
 | N+1,x,hN,h=>by
  by_cases h8:x.ah=8
  .obtain⟨g,l,_,e⟩:=XJ x h h8;obtain⟨b,t,h1,h2⟩:=Lu N (x.ae.getD 0 zE) (by omega) g;exact⟨b,t++[42],by rw[e,h1];rfl,h2⟩
  .obtain⟨t,e⟩:=XK x h h8;refine⟨_,t,e,?_⟩;unfold fbE;repeat' split
   all_goals decide
def a0x:∀ a b:Fin 10,eh (a.val:Int)=eh (b.val:Int)->a=b:=by decide +kernel
def XZ{a b:Int}(ha:0<=a/\a<=9)(hb:0<=b/\b<=9)(h:eh a=eh b):a=b:=by
 have:=a0x ⟨a.toNat,by omega⟩ ⟨b.toNat,by omega⟩ (by rw[show ((a.toNat:Nat):Int)=a by omega,show ((b.toNat:Nat):Int)=b by omega];exact h);simp only[Fin.mk.injEq] at this;omega
def qp:∀ (N:Nat) (x y:J),bH x+bH y<N->aA x=true->aA y=true->∀ (m n:Nat) (r s:List UInt8),NS r->NS s ->
  bC x++(List.replicate m (42:UInt8)++r)=bC y++(List.replicate n 42++s)->Qs m x=Qs n y/\r=s
 | 0,x,y,h,_,_=>by omega
 | N+1,x,y,hN,hx,hy=>by
  intro m n r s hr hs h;by_cases h8:x.ah=8
  .obtain⟨g,l,e1,e2⟩:=XJ x hx h8;have ih:=qp N (x.ae.getD 0 zE) y (by omega) g hy (m+1) n r s hr hs (by rw[<-h,e2];simp[b2d]);refine⟨?_,ih.2⟩;rw[<-ih.1];show Qs m x=Qs m (J.mk 8 0 [(x.ae.getD 0 zE)]);rw[<-e1]
  by_cases S4:y.ah=8
  .obtain⟨g,l,e1,e2⟩:=XJ y hy S4;have ih:=qp N x (y.ae.getD 0 zE) (by omega) hx g m (n+1) r s hr hs (by rw[h,e2];simp[b2d]);refine⟨?_,ih.2⟩;rw[ih.1];show Qs n (J.mk 8 0 [y.ae.getD 0 zE])=Qs n y;rw[<-e1]
  suffices q:x=y/\List.replicate m (42:UInt8)++r=List.replicate n 42++s by
   obtain⟨q1,q2⟩:=q;obtain⟨q3,q4⟩:=VF m n hr hs q2;exact⟨by rw[q1,q3],q4⟩
  obtain⟨t1,e1⟩:=XK x hx h8;obtain⟨t2,e2⟩:=XK y hy S4;have hb:fbE x.ah=fbE y.ah:=by
   have:=h;rw[e1,e2] at this;simp only[a9X,a9a] at this;exact this.1
  clear e1 e2 t1 t2;have n32:∀ t:List UInt8,NS (32::t):=λ t=>NS.of (by decide);have n41:∀ t:List UInt8,NS (41::t):=λ t=>NS.of (by decide);rcases ez x hx with e|e|e|e|e|e|e|e
  .rcases ez y hy with f|f|f|f|f|f|f|f
   .rw[(dO x hx).1 e,(dO y hy).1 f] at h;refine⟨?_,by simpa using h⟩;rw[LY x (ka x hx (by omega)),LY y (ka y hy (by omega)),iq x hx (by omega) (by omega),iq y hy (by omega) (by omega),e,f]
   all_goals first|exact absurd f S4|(rw[e,f] at hb;exact absurd hb (by decide))
  .rcases ez y hy with f|f|f|f|f|f|f|f
   .rw[e,f] at hb;exact absurd hb (by decide)
   .rw[(dO x hx).2.1 e,(dO y hy).2.1 f] at h;refine⟨?_,by simpa using h⟩;rw[LY x (ka x hx (by omega)),LY y (ka y hy (by omega)),iq x hx (by omega) (by omega),iq y hy (by omega) (by omega),e,f]
   all_goals first|exact absurd f S4|(rw[e,f] at hb;exact absurd hb (by decide))
  .rcases ez y hy with f|f|f|f|f|f|f|f
   .rw[e,f] at hb;exact absurd hb (by decide)
   .rw[e,f] at hb;exact absurd hb (by decide)
   .obtain⟨a1,a2,a3,a4⟩:=YF x hx e;obtain⟨b1,b2,b3,b4⟩:=YF y hy f;rw[a4,b4] at h;simp only[a9X,a9L,a9a,b0z] at h;obtain⟨d1,d2⟩:=List.append_inj h (by rw[a3,b3]);refine⟨?_,d2⟩;rw[LY x (ka x hx (by omega)),LY y (ka y hy (by omega)),XZ ⟨a1,a2⟩ ⟨b1,b2⟩ d1,e,f]
   all_goals first|exact absurd f S4|(rw[e,f] at hb;exact absurd hb (by decide))
  .rcases ez y hy with f|f|f|f|f|f|f|f
   .rw[e,f] at hb;exact absurd hb (by decide)
   .rw[e,f] at hb;exact absurd hb (by decide)
   .rw[e,f] at hb;exact absurd hb (by decide)
   .obtain⟨a1,a2,a3,a4⟩:=YG x hx e;obtain⟨b1,b2,b3,b4⟩:=YG y hy f;rw[a4,b4] at h;simp only[a9X,a9L,a9a,b0z] at h;obtain⟨d1,d2⟩:=List.append_inj h (by rw[a3,b3]);refine⟨?_,d2⟩;rw[LY x (ka x hx (by omega)),LY y (ka y hy (by omega)),XZ ⟨a1,a2⟩ ⟨b1,b2⟩ d1,e,f]
   all_goals first|exact absurd f S4|(rw[e,f] at hb;exact absurd hb (by decide))
  .have f:y.ah=5:=by
    rcases ez y hy with f|f|f|f|f|f|f|f;all_goals first|exact f|exact absurd f S4|(rw[e,f] at hb;exact absurd hb (by decide))
   have bx:=j9 x hx (.inl e);have BT:=j9 y hy (.inl f);rw[(YH x hx e).2.2,(YH y hy f).2.2] at h;simp only[a9X,a9L,a9a,b0z] at h;obtain⟨i1,i2⟩:=qp N (x.ae.getD 0 zE) (y.ae.getD 0 zE) (by have:=bx.l0;have:=BT.l0;omega) bx.g0 BT.g0 m n r s hr hs h;obtain⟨j1,j2⟩:=VY (OW x hx e) (OW y hy f) m n i1;refine⟨?_,by rw[j2,i2]⟩;rw[a0B x bx.len,a0B y BT.len,iq x hx (by omega) (by omega),iq y hy (by omega) (by omega),e,f,j1]
  .have f:y.ah=6\/y.ah=7:=by
    rcases ez y hy with f|f|f|f|f|f|f|f;all_goals first|exact .inl f|exact .inr f|exact absurd f S4|(rw[e,f] at hb;exact absurd hb (by decide))
   have bx:=cH x hx (.inl e);have BT:=cH y hy f;have U0:bH (x.ae.getD 0 zE)+bH (y.ae.getD 0 zE)<N:=by have:=bx.l0;have:=BT.l0;omega
   have MR:bH (x.ae.getD 1 zE)+bH (y.ae.getD 1 zE)<N:=by have:=bx.l1;have:=BT.l1;omega
   rcases f with f|f
   .rw[(Sl x hx e).2.2.2,(Sl y hy f).2.2.2] at h;simp only[a9X,a9L,a9a,b0z,a9B] at h;obtain⟨i1,i2⟩:=qp N _ _ U0 bx.g0 BT.g0 0 0 _ _ (n32 _) (n32 _) h;simp only[a9a,b0z] at i2;obtain⟨j1,j2⟩:=qp N _ _ MR bx.g1 BT.g1 0 0 _ _ (n41 _) (n41 _) i2;simp only[a9a,b0z] at j2;refine⟨?_,j2⟩;rw[X7 x bx.len,X7 y BT.len,iq x hx (by omega) (by omega),iq y hy (by omega) (by omega),e,f];rw[show (x.ae.getD 0 zE)=_ from i1,show (x.ae.getD 1 zE)=_ from j1];rfl
   .rw[(Sl x hx e).2.2.2,(Sm y hy f).2.2.2] at h;simp only[a9X,a9L,a9a,b0z,a9B] at h;obtain⟨i1,i2⟩:=qp N _ _ U0 bx.g0 BT.g0 0 0 _ _ (n32 _) (n32 _) h;obtain⟨b,t,q1,q2,q3⟩:=Lu _ _ (a9o _) BT.g1;rw[q1] at i2;simp only[a9X,a9a,b0z] at i2;exact absurd i2.1.symm q3
  .have f:y.ah=6\/y.ah=7:=by
    rcases ez y hy with f|f|f|f|f|f|f|f;all_goals first|exact .inl f|exact .inr f|exact absurd f S4|(rw[e,f] at hb;exact absurd hb (by decide))
   have bx:=cH x hx (.inr e);have BT:=cH y hy f;have U0:bH (x.ae.getD 0 zE)+bH (y.ae.getD 0 zE)<N:=by have:=bx.l0;have:=BT.l0;omega
   have MR:bH (x.ae.getD 1 zE)+bH (y.ae.getD 1 zE)<N:=by have:=bx.l1;have:=BT.l1;omega
   rcases f with f|f
   .rw[(Sm x hx e).2.2.2,(Sl y hy f).2.2.2] at h;simp only[a9X,a9L,a9a,b0z,a9B] at h;obtain⟨i1,i2⟩:=qp N _ _ U0 bx.g0 BT.g0 0 0 _ _ (n32 _) (n32 _) h;obtain⟨b,t,q1,q2,q3⟩:=Lu _ _ (a9o _) bx.g1;rw[q1] at i2;simp only[a9X,a9a,b0z] at i2;exact absurd i2.1 q3
   .rw[(Sm x hx e).2.2.2,(Sm y hy f).2.2.2] at h;simp only[a9X,a9L,a9a,b0z,a9B] at h;obtain⟨i1,i2⟩:=qp N _ _ U0 bx.g0 BT.g0 0 0 _ _ (n32 _) (n32 _) h;simp only[a9a,b0z] at i2;obtain⟨j1,j2⟩:=qp N _ _ MR bx.g1 BT.g1 0 0 _ _ (n41 _) (n41 _) i2;simp only[a9a,b0z] at j2;refine⟨?_,j2⟩;rw[X7 x bx.len,X7 y BT.len,iq x hx (by omega) (by omega),iq y hy (by omega) (by omega),e,f];rw[show (x.ae.getD 0 zE)=_ from i1,show (x.ae.getD 1 zE)=_ from j1];rfl
  .exact absurd e h8
def QD{x y:J}(hx:aA x=true)(hy:aA y=true)(h:bC x=bC y):x=y :=
 (qp _ x y (Nat.lt_succ_self _) hx hy 0 0 [] [] NS.nil NS.nil (by simpa using h)).1
def UJ(x:J)(fs:List (List J->List J))(out:List J):List J :=
 if x.ah=1 then out else if x.ah=6 then fs.getD 1 id (fs.getD 0 id out) else out++[x]
def yE(x:J)(out:List J):List J:=Ae UJ x out
def WA(x:J)(out:List J):yE x out=UJ x (jL UJ x.ae) out:=congrFun (kP _ x) out
def a0G(x:J)(out:List J)(h:x.ah=1):yE x out=out:=by rw[WA];simp[UJ,h]
def a0H(x:J)(out:List J)(h:x.ah=6)(b:B2 x):yE x out=yE (x.ae.getD 1 zE) (yE (x.ae.getD 0 zE) out):=by
 rw[WA];simp only[UJ,h];rw[eQ UJ id zE x.ae 0 (by have:=b.len;omega),eQ UJ id zE x.ae 1 (by have:=b.len;omega)];rfl
def a0I(x:J)(out:List J)(h1:¬ x.ah=1)(h6:¬ x.ah=6):yE x out=out++[x]:=by
 rw[WA,UJ,a9c h1,a9c h6]
def OP:∀ (N:Nat) (x:J),bH x<N->aA x=true->∀ out,j8 out->j8 (yE x out)/\eI (yE x out)<=eI out+ar x+1
 | 0,x,h,_=>by omega
 | N+1,x,hN,h=>by
  intro out ho;by_cases h1:x.ah=1
  .rw[a0G x out h1];exact⟨ho,by omega⟩
  by_cases h6:x.ah=6
  .have b:=cH x h (.inl h6);rw[a0H x out h6 b];obtain⟨a1,a2⟩:=OP N (x.ae.getD 0 zE) (by have:=b.l0;omega) b.g0 out ho;obtain⟨c1,c2⟩:=OP N (x.ae.getD 1 zE) (by have:=b.l1;omega) b.g1 _ a1;exact⟨c1,by have:=b.nd;omega⟩
  rw[a0I x out h1 h6];refine⟨λ y hy=>?_,?_⟩
  .rcases a8X.1 hy with q|q
   .exact ho y q
   .rw[a9w] at q;rw[q];exact h
  .simp only[eI,zz,cT,a9i,a9f,a9v];omega
noncomputable def Ia(out:List J)(x:J):List J:=if out.any (λ y=>gu y x)=true then out else out++[x]
def T3:∀ (N:Nat) (x:J),bH x<N->aA x=true->∀ ys out,dN x (ys.foldl Ia out)=(yE x ys).foldl Ia out
 | 0,x,h,_=>by omega
 | N+1,x,hN,h=>by
  intro ys out;by_cases h1:x.ah=1
  .rw[a1R x _ h1,a0G x _ h1]
  by_cases h6:x.ah=6
  .have b:=cH x h (.inl h6);rw[a1S x _ h6 b,a0H x _ h6 b,T3 N (x.ae.getD 0 zE) (by have:=b.l0;omega) b.g0,T3 N (x.ae.getD 1 zE) (by have:=b.l1;omega) b.g1]
  rw[a0I x _ h1 h6,b1h];show _=Ia _ x;rcases b0j ((ys.foldl Ia out).any (λ y=>gu y x)) with e|e
  .rw[a1U x _ h1 h6 e,Ia,a9l e]
  .rw[a1T x _ h1 h6 e,Ia,a9c (by rw[e];decide)]
noncomputable def vR(L:List J)(k:Nat):List J:=(L.take k).foldl Ia []
def OB(L:List J)(k:Nat)(x:J)(h:L[k]?=some x):vR L (k+1)=Ia (vR L k) x:=by
 rw[vR,b1D,h];simp only[Option.toList_some,b1h,b0C,b2k];rfl
def a2K(x y:J)(hx:aA x=true)(hy:aA y=true)(k:Nat)(h:(yE y (yE x [])).length<=k):vR (yE y (yE x [])) k=dN y (dN x []):=by
 rw[vR,a9A h,<-T3 _ y (a9o _) hy,<-T3 _ x (a9o _) hx];rfl
def a2J(out:List J)(x:J)(hx:aA x=true)(ho:j8 out):out.any (λ y=>gu y x)=true↔∃ z∈out,bC z=bC x:=by
 rw[b2D];constructor
 .rintro⟨z,h1,h2⟩;exact⟨z,h1,by rw[CL.1 h2]⟩
 .rintro⟨z,h1,h2⟩;exact⟨z,h1,CL.2 (QD (ho z h1) hx h2)⟩
def CG(L:List J)(h:j8 L):∀ k,j8 (vR L k)
 | 0=>λ y hy=>by simp[vR] at hy
 | k+1=>by
  cases hk:L[k]? with
  | none =>
   have e:vR L (k+1)=vR L k:=by rw[vR,vR,b1D,hk];simp
   rw[e];exact CG L h k
  | some x =>
   rw[OB L k x hk,Ia];split
   .exact CG L h k
   .intro y hy;rcases a8X.1 hy with q|q
    .exact CG L h k y q
    .rw[a9w] at q;rw[q];exact h x (a9C hk)
def SO(L:List J):∀ k,(vR L k).length<=k
 | 0=>by simp[vR]
 | k+1=>by
  have ih:=SO L k;cases hk:L[k]? with
  | none =>
   have e:vR L (k+1)=vR L k:=by rw[vR,vR,b1D,hk];simp
   rw[e];omega
  | some x =>
   rw[OB L k x hk,Ia];split
   .omega
   .simp;omega
def FZ:∀ x:List UInt8,Op.bytesLess x x=false
 | []=>rfl
 | a::x=>by simp[Op.bytesLess,FZ x]
def SF:∀ x y:List UInt8,Op.bytesLess x y=false->Op.bytesLess y x=false->x=y
 | [],[],_,_=>rfl
 | [],_::_,h,_=>by simp[Op.bytesLess] at h
 | _::_,[],_,h=>by simp[Op.bytesLess] at h
 | a::x,b::y,h,k=>by
  simp only[Op.bytesLess,b2X,b1G,a8Z,b0f] at h k;have e:a=b:=UInt8.le_antisymm (b2H.1 k.1) (b2H.1 h.1);subst e;rw[SF x y (h.2.resolve_left λ q=>q rfl) (k.2.resolve_left λ q=>q rfl)]
def D2:∀ x y z:List UInt8,Op.bytesLess x y=true->Op.bytesLess y z=true->Op.bytesLess x z=true
 | _,[],_,h,_=>by cases (by simpa [Op.bytesLess] using h:False)
 | _,_::_,[],_,h=>by cases (by simpa [Op.bytesLess] using h:False)
 | [],_::_,_::_,_,_=>rfl
 | a::x,b::y,c::z,h,k=>by
  simp only[Op.bytesLess,b0B,a9e,a9d,b0O] at h k ⊢;rcases h with h|⟨rfl,h⟩
  .rcases k with k|⟨rfl,k⟩
   .exact .inl (UInt8.lt_trans h k)
   .exact .inl h
  .rcases k with k|⟨rfl,k⟩
   .exact .inl k
   .exact .inr ⟨rfl,D2 x y z h k⟩
def Om(x y z:List UInt8)(h:Op.bytesLess x y=false)(k:Op.bytesLess y z=false):Op.bytesLess x z=false:=by
 cases hxz:Op.bytesLess x z with
 | false=>rfl
 | true =>
  cases hzy:Op.bytesLess z y with
  | true=>rw[D2 x z y hxz hzy] at h;cases h
  | false =>
   have e:=SF y z k hzy;subst e;rw[h] at hxz;cases hxz
def FG(xs:List J):Prop:=xs.Pairwise λ a b=>Q8 b a=false
def KD(x:J):∀ ys,(fG x ys).Perm (x::ys)
 | [] => .refl _
 | y::ys=>by
  rw[fG];split
  .exact ((KD x ys).cons y).trans (.swap x y ys)
  .exact .refl _
def Vb(x:J):∀ ys,FG ys->FG (fG x ys)
 | [],_=>by simp[fG,FG]
 | y::ys,h=>by
  have ⟨h1,h2⟩:=b0E.1 h;rw[fG];split
  .rename_i hl;refine b0E.2 ⟨λ z hz=>?_,Vb x ys h2⟩;rcases a9k.1 ((KD x ys).mem_iff.1 hz) with rfl|q
   .cases hzy:Q8 z y with
    | false=>rfl
    | true=>have:=D2 _ _ _ hl hzy;rw[FZ] at this;cases this
   .exact h1 z q
  .rename_i hl;have hl:Q8 y x=false:=by simpa using hl
   refine b0E.2 ⟨λ z hz=>?_,h⟩;rcases a9k.1 hz with rfl|q
   .exact hl
   .exact Om _ _ _ (h1 z q) hl
def YC:∀ (xs acc:List J),FG acc->FG (xs.foldl (λ out x=>fG x out) acc)/\(xs.foldl (λ out x=>fG x out) acc).Perm (xs++acc)
 | [],acc,h=>⟨h, .refl _⟩
 | x::xs,acc,h=>by
  obtain⟨h1,h2⟩:=YC xs (fG x acc) (Vb x acc h);refine⟨h1,h2.trans ?_⟩;exact ((KD x acc).append_left xs).trans b2F
def R6:∀ xs ys:List J,xs.Perm ys->FG xs->FG ys->j8 xs->xs=ys
 | [],ys,h,_,_,_=>(List.nil_perm.1 h).symm
 | x::xs,[],h,_,_,_=>absurd h.length_eq (by simp)
 | x::xs,y::ys,h,hx,hy,hg=>by
  obtain⟨x1,x2⟩:=b0E.1 hx;obtain⟨y1,y2⟩:=b0E.1 hy;have e:x=y:=by
   rcases a9k.1 (h.mem_iff.1 (b1f)) with q|q
   .exact q
   rcases a9k.1 (h.mem_iff.2 (b1f)) with p|p
   .exact p.symm
   .exact QD (hg x (by simp)) (hg y (by simp[p])) (SF _ _ (y1 x q) (x1 y p))
  subst e;rw[R6 xs ys h.cons_inv x2 y2 λ z hz=>hg z (by simp[hz])]
def a2d(xs zs:List J)(hg:j8 xs)(hp:zs.Perm xs)(ho:FG zs):zs=AW xs:=by
 obtain⟨h1,h2⟩:=YC xs [] (by simp[FG]);rw[a9U] at h2;exact R6 zs _ (hp.trans h2.symm) ho h1 λ z hz=>hg z (hp.mem_iff.1 hz)
def kW:aX:=⟨Jf,[.v (.int .i64), .v (.int .i64)],λ (k:Int) (m:Int)=>⟨(none,[⟨(.st .expr),J.mk k m []⟩])⟩⟩
def Tw(k:Int)(m:Int):Nat->aJ:=cj
def mI:aX.Good kW:=by
 refine⟨aD Fc,?_⟩;intro (k:Int) (m:Int) _;refine aY [] [] [] [] trivial Fc Mz (Tw k m) ((J.mk k m [])=(J.mk k m [])) ?_;refine rfl;all_goals try and_intros
 all_goals first|rfl|trivial|omega|(simp only[a9d,a8Z,aB,ai,ca,fv,dh,bz] at *;omega)|(simp[aB,ai] at *;omega)|grind
def kX:aX:=⟨Jg,[.v (.int .i64), .v (.slice (.st .expr))],λ (k:Int) (ks:List J)=>⟨(none,[⟨(.st .expr),J.mk k 0 ks⟩])⟩⟩
def Tz(k:Int)(ks:List J):Nat->aJ:=cj
def mJ:aX.Good kX:=by
 refine⟨aD Fe,?_⟩;intro (k:Int) (ks:List J) _;refine aY [] [] [] [] trivial Fe MB (Tz k ks) ((J.mk k (0:Int) ks)=(J.mk k 0 ks)) ?_;refine ?_;all_goals try and_intros
 all_goals first|rfl|trivial|omega|(simp only[a9d,a8Z,aB,ai,ca,fv,dh,bz] at *;omega)|(simp[aB,ai] at *;omega)|grind
end
end Go.Proofs.YtofnjfpeimhifaaGreatDoor

namespace Go.Proofs
open Go.Shelf
def Tryz.TB:Go.Shelf.Ren:=⟨λ|106=>121|213=>133|265=>154|n=>n,λ|9=>9|3=>3|n=>n,λ|n=>n⟩
def Tryz.a1k:Go.Proofs.Lays.n106 Tryz.prog Tryz.TB:={
 mixed:=by kernel_rfl
 f106:=Tryz.func121.trans (congrArg some (by kernel_rfl))
 f213:=Tryz.func133.trans (congrArg some (by kernel_rfl))
 f265:=Tryz.func154.trans (congrArg some (by kernel_rfl))
 t3:=Tryz.underlying3
 a3:=Tryz.isAgg3
 z3:=Tryz.sizeOf3
 v3:=Tryz.zeroValue3
 t9:=Tryz.underlying9
 a9:=Tryz.isAgg9
 z9:=Tryz.sizeOf9
 v9:=Tryz.zeroValue9 }
open Go.RowKit in
def Tryz.strings_Compare(a b:ByteArray)(w:World) :
  Calls Tryz.prog 121 #[.string a, .string b] w λ e w'=>e = .returned (.int .i64 (Lib.compareBytes a.data.toList b.data.toList))/\w'=w:=Any.strings_Compare Tryz.a1k a b w
def Tryz.VQ:Go.Shelf.Ren:=⟨λ|6=>119|15=>132|14=>131|28=>152|29=>153|20=>144|21=>145|22=>146|23=>147|24=>148|25=>149|26=>150|27=>151|46=>161|47=>162|48=>163|49=>164|50=>165|57=>168|n=>n,λ|22=>163|24=>167|25=>169|3=>3|39=>134|0=>0|53=>197|55=>97|4=>4|46=>190|45=>189|50=>194|5=>5|9=>9|66=>208|70=>212|76=>214|77=>215|n=>n,λ|n=>n⟩
def Tryz.a3p:Go.Proofs.SlLaysF0.n6 Tryz.prog Tryz.VQ:={
 mixed:=by kernel_rfl
 f6:=⟨Tryz.f119.name,by decide,Tryz.func119.trans (congrArg some (by kernel_rfl))⟩
 f14:=⟨Tryz.f131.name,by decide,Tryz.func131.trans (congrArg some (by kernel_rfl))⟩
 f15:=Tryz.func132.trans (congrArg some (by kernel_rfl))
 f20:=⟨Tryz.f144.name,by decide,Tryz.func144.trans (congrArg some (by kernel_rfl))⟩
 f21:=⟨Tryz.f145.name,by decide,Tryz.func145.trans (congrArg some (by kernel_rfl))⟩
 f22:=⟨Tryz.f146.name,by decide,Tryz.func146.trans (congrArg some (by kernel_rfl))⟩
 f23:=⟨Tryz.f147.name,by decide,Tryz.func147.trans (congrArg some (by kernel_rfl))⟩
 f24:=⟨Tryz.f148.name,by decide,Tryz.func148.trans (congrArg some (by kernel_rfl))⟩
 f25:=⟨Tryz.f149.name,by decide,Tryz.func149.trans (congrArg some (by kernel_rfl))⟩
 f26:=⟨Tryz.f150.name,by decide,Tryz.func150.trans (congrArg some (by kernel_rfl))⟩
 f27:=⟨Tryz.f151.name,by decide,Tryz.func151.trans (congrArg some (by kernel_rfl))⟩
 f28:=Tryz.func152.trans (congrArg some (by kernel_rfl))
 f29:=Tryz.func153.trans (congrArg some (by kernel_rfl))
 f46:=⟨Tryz.f161.name,by decide,Tryz.func161.trans (congrArg some (by kernel_rfl))⟩
 f47:=Tryz.func162.trans (congrArg some (by kernel_rfl))
 f48:=Tryz.func163.trans (congrArg some (by kernel_rfl))
 f49:=⟨Tryz.f164.name,by decide,Tryz.func164.trans (congrArg some (by kernel_rfl))⟩
 f50:=⟨Tryz.f165.name,by decide,Tryz.func165.trans (congrArg some (by kernel_rfl))⟩
 f57:=⟨Tryz.f168.name,by decide,Tryz.func168.trans (congrArg some (by kernel_rfl))⟩
 t0:=Tryz.underlying0
 a0:=Tryz.isAgg0
 z0:=Tryz.sizeOf0
 v0:=Tryz.zeroValue0
 t3:=Tryz.underlying3
 a3:=Tryz.isAgg3
 z3:=Tryz.sizeOf3
 v3:=Tryz.zeroValue3
 t4:=Tryz.underlying4
 a4:=Tryz.isAgg4
 z4:=Tryz.sizeOf4
 v4:=Tryz.zeroValue4
 t5:=Tryz.underlying5
 a5:=Tryz.isAgg5
 z5:=Tryz.sizeOf5
 v5:=Tryz.zeroValue5
 t9:=Tryz.underlying9
 a9:=Tryz.isAgg9
 z9:=Tryz.sizeOf9
 v9:=Tryz.zeroValue9
 t22:=Tryz.underlying163
 a22:=Tryz.isAgg163
 z22:=Tryz.sizeOf163
 v22:=Tryz.zeroValue163
 t25:=Tryz.underlying169
 a25:=Tryz.isAgg169
 z25:=Tryz.sizeOf169
 v25:=Tryz.zeroValue169
 t39:=Tryz.underlying134
 a39:=Tryz.isAgg134
 z39:=Tryz.sizeOf134
 v39:=Tryz.zeroValue134
 t45:=Tryz.underlying189
 a45:=Tryz.isAgg189
 z45:=Tryz.sizeOf189
 v45:=Tryz.zeroValue189
 t46:=Tryz.underlying190
 a46:=Tryz.isAgg190
 z46:=Tryz.sizeOf190
 v46:=Tryz.zeroValue190
 t50:=Tryz.underlying194
 a50:=Tryz.isAgg194
 z50:=Tryz.sizeOf194
 v50:=Tryz.zeroValue194
 t53:=Tryz.underlying197
 a53:=Tryz.isAgg197
 z53:=Tryz.sizeOf197
 v53:=Tryz.zeroValue197
 t55:=Tryz.underlying97
 a55:=Tryz.isAgg97
 z55:=Tryz.sizeOf97
 v55:=Tryz.zeroValue97
 t66:=Tryz.underlying208
 a66:=Tryz.isAgg208
 z66:=Tryz.sizeOf208
 v66:=Tryz.zeroValue208
 t70:=Tryz.underlying212
 a70:=Tryz.isAgg212
 z70:=Tryz.sizeOf212
 v70:=Tryz.zeroValue212
 t76:=Tryz.underlying214
 a76:=Tryz.isAgg214
 z76:=Tryz.sizeOf214
 v76:=Tryz.zeroValue214
 t77:=Tryz.underlying215
 a77:=Tryz.isAgg215
 z77:=Tryz.sizeOf215
 v77:=Tryz.zeroValue215 }
end Go.Proofs

namespace Go.Proofs.YtofnjfpeimhifaaGreatDoor
noncomputable section
open Go.RowKit Go.Proofs
def xu{P:Program}{w:World}{ops:Array Oper}{rest:List Oper}{o:Oper}{a:Act}{Q:Exit->Act->World->Prop}(hgd:o.guard=none)(s x:Operand)(t:TypeId)
  (ho:o.op = .call { callee := .builtin .append,args := #[s,x],argTypes := #[t,t] })
  (base:Nat) (e:TypeId) (i:TypeInfo) (z:Value) (size bytes:Nat) (ht:P.underlying t=some (.slice e)) (hi:P.info? e=some i) (hz:i.zero=some z)
  (xS:i.size=size) (hby:i.bytes=bytes) (Pk:z.cells.size=size) (bZ:0<size)
  (v:Value) (n:Nat) (xs:List Value) (hs:a.eval s=v) (dF:w.ownsRow base e size v n xs)
  (ad:Addr) (m c:Nat) (news:List Value) (hx:a.eval x = .slice (some ad) m c) (hl:news.length=m * size) (Am:∀ j u,news[j]?=some u->w.cell? (ad.add j)=some u) (h1:∀ u∈news,u.oneCell'=true)
  (h63:n+m<=maxLen) (Tc:(n+m) * bytes<=140737488355328) (Ku:base<=w.heap.size)
  (h:∀ v' w',w'.ownsRow base e size v' (n+m) (xs++news)->w.grownBy w' v.ownBlock->(v'.ownBlock=v.ownBlock\/v'.ownBlock=some w.heap.size)->(v' = .slice none 0 0↔v = .slice none 0 0/\m=0)->wpList P ops Q rest (a.put o.dst v') w'):wpList P ops Q (o::rest) a w :=
 wpList_plain hgd λ K hK=>by
  obtain⟨v',w',hr,h2,h3,h4,h5⟩:=run_append_own_at (P:=P) w base t o.type e i z size bytes ht hi hz xS hby Pk bZ v n xs dF ad m c news hl Am h1 h63 Tc Ku;unfold Oper.wp execOp;simp only[ho,resolve,invoke,builtin,Sem.run_bind,Sem.run_pure,Result.andThen_ok,List.map_toArray,List.map_cons,List.map_nil,hs,hx,hr];exact hK _ _ (h v' w' h2 h3 h5 h4)
structure HD(w0:World)(S:Nat->Prop)(B:Nat)(w:World)(v:Value)(ys:List J)(L:List Value):Prop where
 cQ:Below w0.heap.size w0 w
 b0:w0.heap.size<=B
 bw:B<=w.heap.size
 own:w.ownsRow B 28 3 v ys.length L
 rd:cZ w0 S (ys.map J.aE) L
structure xw(v v':Value)(w w':World):Prop where
 g:w.grownBy w' v.ownBlock
 own:∀ k,v'.ownBlock=some k->v.ownBlock=some k\/w.heap.size<=k
def xw.trans{v v' v'':Value}{w w' JS:World}(h:xw v v' w w')(k:xw v' v'' w' JS):xw v v'' w JS:=by
 refine⟨⟨k.g.os.trans h.g.os,k.g.tape.trans h.g.tape,k.g.output.trans h.g.output,b0b h.g.size k.g.size,λ q h1 h2=>?_⟩,λ q hq=>?_⟩
 .rw[k.g.block q (a9g h1 h.g.size) λ e=>?_,h.g.block q h1 h2];rcases h.own q e.symm with r|r
  .exact h2 r.symm
  .omega
 .rcases k.own q hq with r|r
  .exact h.own q r
  .exact .inr (b0b h.g.size r)
def xw.alloc{v:Value}(w:World)(o:Obj):xw v v w (w.alloc o):=⟨⟨rfl,rfl,rfl,by simp,λ k h _=>b0a w o k h⟩,λ k h => .inl h⟩
def HD.alloc{w0:World}{S:Nat->Prop}{B:Nat}{w:World}{v:Value}{ys:List J}{L:List Value}(h:HD w0 S B w v ys L)(o:Obj):HD w0 S B (w.alloc o) v ys L :=
 ⟨h.cQ.alloc h.cQ.size o,h.b0,by have:=h.bw;simp;omega,h.own.alloc o,h.rd⟩
def HD.drew{w0:World}{S:Nat->Prop}{B:Nat}{w:World}{v:Value}{ys:List J}{L:List Value}(h:HD w0 S B w v ys L):HD w0 S B w.drew v ys L :=
 ⟨h.cQ.drew,h.b0,h.bw,h.own.drew,h.rd⟩
def xw.drew{v v':Value}{w w':World}(h:xw v v' w w'):xw v v' w w'.drew:=⟨⟨h.g.os,h.g.tape,h.g.output,h.g.size,h.g.block⟩,h.own⟩
abbrev YJ(w0:World)(S:Nat->Prop)(B:Nat)(x:J)(cs:List Value)(v:Value)(ys:List J)(w:World):Prop :=
 Calls prog 118 #[v, .agg cs.toArray] w λ e w'=>∃ v' L',e = .returned v'/\HD w0 S B w' v' (yE x ys) L'/\xw v v' w w'
def Jq{w:World}{B e sz n:Nat}{v:Value}{L:List Value}(h:w.ownsRow B e sz v n L):∀ k,v.ownBlock=some k->B<=k/\k<w.heap.size:=λ k hk=>h.lt k hk
def xw.below{v v':Value}{w0 w w':World}{B e sz n:Nat}{L:List Value}(h:xw v v' w w')(hb:Below w0.heap.size w0 w)(h0:w0.heap.size<=B)(ho:w.ownsRow B e sz v n L):Below w0.heap.size w0 w' :=
 hb.trans ⟨h.g.os,h.g.tape,h.g.output,h.g.size,λ k hk=>h.g.block k (a9g hk hb.size) λ q=>by
  have:=(Jq ho k q.symm).1;omega⟩
set_option maxRecDepth 100000 in
def a6x(w0:World)(S:Nat->Prop)(B:Nat)(x:J)(h1:x.ah=1)(n:Int)(sl v:Value)(ys:List J)(L:List Value)(w:World)(hl:HD w0 S B w v ys L):YJ w0 S B x [.int .i64 1, .int .i64 n,sl] v ys w:=by
 go_enter Tryz.func118,Tryz.ntmps118;go_wp2;go_ret;rw[a0G x ys h1];exact⟨v,L,rfl,hl.alloc _,xw.alloc _ _⟩
set_option maxRecDepth 100000 in
def a6y(w0:World)(S:Nat->Prop)(B:Nat)(x:J)(h6:x.ah=6)(b2:B2 x)(n:Int)(kb ko cap:Nat)(c0 c1 c2 d0 d1 d2:Value)(v:Value)(ys:List J)(L:List Value)(w:World)(hl:HD w0 S B w v ys L)(hkb:kb<w0.heap.size)
  (kd:bm w0 kb ko [c0,c1,c2]) (oO:bm w0 kb (ko+3) [d0,d1,d2])
  (i0:∀ w',HD w0 S B w' v ys L->YJ w0 S B (x.ae.getD 0 zE) [c0,c1,c2] v ys w')
  (i1:∀ w' v' L',HD w0 S B w' v' (yE (x.ae.getD 0 zE) ys) L'->YJ w0 S B (x.ae.getD 1 zE) [d0,d1,d2] v' (yE (x.ae.getD 0 zE) ys) w') :
  YJ w0 S B x [.int .i64 6, .int .i64 n, .slice (some ⟨kb,ko,none⟩) 2 cap] v ys w:=by
 have l0:=hl.alloc (.cells #[.int .i64 6, .int .i64 n, .slice (some ⟨kb,ko,none⟩) 2 cap] 28);have f0:xw v v w (w.alloc (.cells #[.int .i64 6, .int .i64 n, .slice (some ⟨kb,ko,none⟩) 2 cap] 28)):=xw.alloc _ _;have e0:=b0k w (.cells #[.int .i64 6, .int .i64 n, .slice (some ⟨kb,ko,none⟩) 2 cap] 28);have vb:v.ownBlock≠some w.heap.size:=λ e=>by have:=(Jq hl.own _ e).2;omega
 go_enter Tryz.func118,Tryz.ntmps118;go_upto_region 1 with fail;generalize hb:w.heap.size=bx at *
 generalize w.alloc (.cells #[.int .i64 6, .int .i64 n, .slice (some ⟨kb,ko,none⟩) 2 cap] 28)=w1 at *
 have cl:=λ (W:World) (h:Below w0.heap.size w0 W)=>(⟨kd.aL (h.block kb hkb),oO.aL (h.block kb hkb)⟩:bm W kb ko [c0,c1,c2]/\bm W kb (ko+3) [d0,d1,d2]);have q0:w1.cell? ⟨kb,ko,none⟩=some c0:=(cl w1 l0.cQ).1 0 _ rfl;have q1:w1.cell? ⟨kb,ko+1,none⟩=some c1:=(cl w1 l0.cQ).1 1 _ rfl;have q2:w1.cell? ⟨kb,ko+2,none⟩=some c2:=(cl w1 l0.cQ).1 2 _ rfl;have r0:w1.cell? ⟨kb,ko+3,none⟩=some d0:=(cl w1 l0.cQ).2 0 _ rfl;have r1:w1.cell? ⟨kb,ko+4,none⟩=some d1:=(cl w1 l0.cQ).2 1 _ rfl;have r2:w1.cell? ⟨kb,ko+5,none⟩=some d2:=(cl w1 l0.cQ).2 2 _ rfl;obtain⟨⟨k0,k1,k2⟩,g0,g1,g2⟩:=qY e0;have C2:=bp e0;have vb':some bx≠v.ownBlock:=λ e=>vb e.symm;go_wp2_with fail;go_region_held3 (λ w'=>w'.cell? ⟨bx,2,none⟩=some (.slice (some ⟨kb,ko,none⟩) 2 cap)/\w'.cell? ⟨kb,ko,none⟩=some c0/\w'.cell? ⟨kb,ko+1,none⟩=some c1/\w'.cell? ⟨kb,ko+2,none⟩=some c2/\w'.cell? ⟨kb,ko+3,none⟩=some d0/\w'.cell? ⟨kb,ko+4,none⟩=some d1/\w'.cell? ⟨kb,ko+5,none⟩=some d2) (go_keep)
  (first
   | (
     go_at_call_of 118 c0
     refine (i0 _ l0.drew).mono ?_
     rintro e w2 ⟨v1,L1,he,l1,f1⟩
     subst he
     have e2:w2.heap[bx]?=some (.cells #[.int .i64 6, .int .i64 n, .slice (some ⟨kb,ko,none⟩) 2 cap] 28 (0,0)):=(f1.g.block bx C2 vb').trans e0
     obtain⟨⟨k3,k4,k5⟩,g3,g4,g5⟩:=qY e2
     have p3:w2.cell? ⟨kb,ko,none⟩=some c0:=(cl w2 l1.cQ).1 0 _ rfl
     have p4:w2.cell? ⟨kb,ko+1,none⟩=some c1:=(cl w2 l1.cQ).1 1 _ rfl
     have p5:w2.cell? ⟨kb,ko+2,none⟩=some c2:=(cl w2 l1.cQ).1 2 _ rfl
     have r3:w2.cell? ⟨kb,ko+3,none⟩=some d0:=(cl w2 l1.cQ).2 0 _ rfl
     have r4:w2.cell? ⟨kb,ko+4,none⟩=some d1:=(cl w2 l1.cQ).2 1 _ rfl
     have r5:w2.cell? ⟨kb,ko+5,none⟩=some d2:=(cl w2 l1.cQ).2 2 _ rfl)
   | (
     go_at_call_of 118 d0
     refine (i1 _ _ _ l1).mono ?_
     rintro e w3 ⟨v2,L2,he,l2,f2⟩
     subst he
     have e3:w3.heap[bx]?=some (.cells #[.int .i64 6, .int .i64 n, .slice (some ⟨kb,ko,none⟩) 2 cap] 28 (0,0)):=(f2.g.block bx (bp e2) (λ e=>(f1.own bx e.symm).elim (λ q=>vb q) λ q=>by have q:w1.heap.size<=bx:=q;omega)).trans e2
     obtain⟨⟨k6,k7,k8⟩,g6,g7,g8⟩:=qY e3
     have p6:w3.cell? ⟨kb,ko,none⟩=some c0:=(cl w3 l2.cQ).1 0 _ rfl
     have p7:w3.cell? ⟨kb,ko+1,none⟩=some c1:=(cl w3 l2.cQ).1 1 _ rfl
     have p8:w3.cell? ⟨kb,ko+2,none⟩=some c2:=(cl w3 l2.cQ).1 2 _ rfl
     have r6:w3.cell? ⟨kb,ko+3,none⟩=some d0:=(cl w3 l2.cQ).2 0 _ rfl
     have r7:w3.cell? ⟨kb,ko+4,none⟩=some d1:=(cl w3 l2.cQ).2 1 _ rfl
     have r8:w3.cell? ⟨kb,ko+5,none⟩=some d2:=(cl w3 l2.cQ).2 2 _ rfl))
 all_goals
  go_wp2
  go_ret
  rw[a0H x ys h6 b2]
  exact⟨v2,L2,rfl,l2,f0.trans ((xw.trans (show xw v v w1 w1.drew from ⟨⟨rfl,rfl,rfl,a9n _,λ _ _ _=>rfl⟩,λ k h => .inl h⟩) f1).trans f2)⟩
set_option maxRecDepth 100000 in
def a6z(w0:World)(S:Nat->Prop)(B:Nat)(x:J)(n1:¬ x.ah=1)(n6:¬ x.ah=6)(cs:List Value)(v:Value)(ys:List J)(L:List Value)(w:World)(hl:HD w0 S B w v ys L)(hr:Rd w0 S x.aE cs)(hn:ys.length<=8000) :
  YJ w0 S B x cs v ys w:=by
 obtain⟨a,cap,rfl,_⟩:=oE hr;have kb1:(x.ah == 1)=false:=by simpa using n1
 have kb6:(x.ah == 6)=false:=by simpa using n6
 have l0:=(hl.alloc (.cells #[.int .i64 x.ah, .int .i64 x.bl, .slice a x.ae.length cap] 28)).alloc (.cells #[.int .i64 x.ah, .int .i64 x.bl, .slice a x.ae.length cap] 28);have f0:xw v v w ((w.alloc (.cells #[.int .i64 x.ah, .int .i64 x.bl, .slice a x.ae.length cap] 28)).alloc (.cells #[.int .i64 x.ah, .int .i64 x.bl, .slice a x.ae.length cap] 28)):=(xw.alloc _ _).trans (xw.alloc _ _);obtain⟨i0,QW,GY,KC,MW⟩:=info_parts Tu;go_enter Tryz.func118,Tryz.ntmps118;go_wp2_with (at_builtin;refine xu rfl _ _ 26 rfl B 28 i0 _ 3 40 Tryz.underlying26 QW GY KC MW rfl (by decide) v ys.length L rfl l0.own ⟨w.heap.size+1,0,none⟩ 1 1 [.int .i64 x.ah, .int .i64 x.bl, .slice a x.ae.length cap] (by first|rfl|simp) (by rfl) (World.news_of_block (cs := #[.int .i64 x.ah, .int .i64 x.bl, .slice a x.ae.length cap]) (t:=28) (fr:=(0,0)) (by simpa using heap_alloc_new (w.alloc _) (.cells #[.int .i64 x.ah, .int .i64 x.bl, .slice a x.ae.length cap] 28))) (by simp[Value.oneCell']) (by simp[maxLen];omega) (by omega) l0.bw ?_);intro v' w' dF di Ks iK;go_wp2;go_ret;rw[a0I x ys n1 n6];have fr:xw v v' _ w':=⟨di,λ k hk=>by
  rcases Ks with e|e
  .exact .inl (by rw[<-e];exact hk)
  .rw[e] at hk;cases hk;exact .inr (by simp)⟩
 refine⟨v',_,rfl,⟨fr.below l0.cQ l0.b0 l0.own,l0.b0,Nat.le_trans l0.bw di.size,by simpa using dF,?_⟩,f0.trans fr⟩;rw[List.map_append];exact cZ.append _ _ l0.rd ⟨_,[],by simp,hr,rfl⟩
def Ip(w0:World)(S:Nat->Prop)(hS:jf w0 S)(B:Nat):∀ (N:Nat) (x:J),bH x<N->aA x=true->∀ (cs:List Value) (v:Value) (ys:List J) (L:List Value) (w:World),HD w0 S B w v ys L->Rd w0 S x.aE cs->j8 ys->eI ys+ar x<=8000->YJ w0 S B x cs v ys w
 | 0,x,h,_=>by omega
 | N+1,x,hN,hg=>by
  intro cs v ys L w hl hr QV hn;by_cases h1:x.ah=1
  .obtain⟨a,cap,rfl,_⟩:=oE hr;rw[h1];exact a6x w0 S B x h1 _ _ v ys L w hl
  by_cases h6:x.ah=6
  .have b2:=cH x hg (.inl h6);obtain⟨a,cap,rfl,hk⟩:=oE hr;obtain⟨kb,ko,rfl,Y3,eW⟩:∃ kb ko,a=some ⟨kb,ko,none⟩/\S kb/\cF w0 S (x.ae.map J.aE) kb ko:=by
    rcases hk with hk|hk
    .have:=b2.len;rw[hk] at this;cases this
    .obtain⟨kb,ko,e1,e2,e3⟩:=hk;exact⟨kb,ko,e1,e2,e3⟩
   obtain⟨c0,c1,c2,r0,q0⟩:=Ju eW 0 (by have:=b2.len;omega);obtain⟨d0,d1,d2,r1,q1⟩:=Ju eW 1 (by have:=b2.len;omega);obtain⟨g1,t1⟩:=OP _ (x.ae.getD 0 zE) (Nat.lt_succ_self _) b2.g0 ys QV;have nd:=b2.nd;rw[h6,b2.len];refine a6y w0 S B x h6 b2 _ kb ko cap _ _ _ _ _ _ v ys L w hl (hS.1 kb Y3) (by simpa using q0) (by simpa using q1)
    (λ w' l'=>Ip w0 S hS B N _ (by have:=b2.l0;omega) b2.g0 _ v ys L w' l' r0 QV (by omega)) λ w' v' L' l' =>
    Ip w0 S hS B N _ (by have:=b2.l1;omega) b2.g1 _ v' _ L' w' l' r1 g1 (by omega)
  .exact a6z w0 S B x h1 h6 cs v ys L w hl hr (by have:eI ys=cT ar ys+ys.length:=rfl;omega)
def TI{T:TypeId}(W:World):(Instr.makeMap T none).run prog W = .ok (.map (some W.heap.size)) (W.alloc (.map #[] 0)):=by simp[Instr.makeMap]
abbrev Nm:=J×Int×Int×Option Addr×Nat×Nat
instance a8a:Inhabited Nm:=⟨(J.mk (0:Int) (0:Int) [],0,0,none,0,0)⟩
def RF(x:Nm):List Value:=[.int .i64 x.2.1, .int .i64 x.2.2.1, .slice x.2.2.2.1 x.2.2.2.2.1 x.2.2.2.2.2]
def nU(x:Nm):List Value := .string ⟨(bC x.1).toArray⟩::RF x
def tv(x:Nm):(nU x).length=4:=rfl
def YU(x:Nm):∀ v∈nU x,v.oneCell'=true:=λ v hv=>by
 simp[nU,RF] at hv;rcases hv with rfl|rfl|rfl|rfl<;>rfl
def RM:∀ (T:List Nm) (i q:Nat) (t:Nm),T[i]?=some t->q<4->(T.flatMap nU)[i * 4+q]?=(nU t)[q]?
 | [],i,q,t,h,_=>by simp at h
 | u::T,0,q,t,h,hq=>by
  simp only[b1N,a8V] at h;subst h;rw[b1P,b0n (by rw[tv];omega)];simp
 | u::T,i+1,q,t,h,hq=>by
  rw[List.flatMap_cons,List.getElem?_append_right (by rw[tv];omega),tv,show (i+1) * 4+q - 4=i * 4+q by omega];exact RM T i q t (by simpa using h) hq
structure NZ(w:World)(mb:Nat)(L:List J)(i:Nat):Prop where
 ex:∃ (f:List UInt8->Option Bool) (n:Nat) (es:Array MapEntry) (clock:Nat),w.heap[mb]?=some (.map es clock)/\vZ ⟨.str, .bool,f,n⟩ es/\n<=i/\∀ t,(f t).getD false=true↔∃ z∈L,bC z=t
structure NmX(w0:World)(S:Nat->Prop)(w:World)(v:Value)(T:List Nm):Prop where
 own:w.ownsRow w0.heap.size 167 4 v T.length (T.flatMap nU)
 rd:∀ t∈T,Rd w0 S t.1.aE (RF t)
def a5y:(Tryz.prog.info? 167).map (λ i=>(i.zero,i.size,i.bytes))=some (some (.agg #[.string ⟨#[]⟩, .int .i64 0, .int .i64 0, .slice none 0 0]),4,56):=by kernel_rfl
def Zt{w:World}{B e sz n:Nat}{v:Value}{L:List Value}(h:w.ownsRow B e sz v n L):∃ ad cp,v = .slice ad n cp/\(n=0\/∃ g cur,ad=some ⟨g,0,none⟩/\B<=g/\w.heap[g]?=some (.cells cur e (0,0))/\cur.toList.take (n * sz)=L):=by
 rcases h.2 with ⟨e1,e2⟩|⟨g,cp,cur,e1,e2,e3,_,_,_,e4⟩
 .exact⟨none,0,by rw[e1,e2], .inl e2⟩
 .exact⟨_,cp,e1, .inr ⟨g,cur,rfl,e2,e3,e4⟩⟩
def a2D(w:World)(o1 o2 o3 o4 o5:Obj):(((((w.alloc o1).alloc o2).alloc o3).alloc o4).alloc o5).heap[w.heap.size]?=some o1/\(((((w.alloc o1).alloc o2).alloc o3).alloc o4).alloc o5).heap[w.heap.size+1]?=some o2 /\
  (((((w.alloc o1).alloc o2).alloc o3).alloc o4).alloc o5).heap[w.heap.size+1+1]?=some o3/\(((((w.alloc o1).alloc o2).alloc o3).alloc o4).alloc o5).heap[w.heap.size+1+1+1]?=some o4/\(((((w.alloc o1).alloc o2).alloc o3).alloc o4).alloc o5).heap[w.heap.size+1+1+1+1]?=some o5:=by
 have nw:=λ (w:World) (o:Obj)=>(b3o w o).1;refine⟨?_,?_,?_,?_,?_⟩
 .rw[b0a _ _ _ (by simp<;>omega),b0a _ _ _ (by simp<;>omega),b0a _ _ _ (by simp<;>omega),b0a _ _ _ (by simp)];exact nw w o1
 .rw[Lib.alloc_old _ _ _ (by simp<;>omega),Lib.alloc_old _ _ _ (by simp<;>omega),Lib.alloc_old _ _ _ (by simp)];exact (by simpa using nw (w.alloc o1) o2)
 .rw[Lib.alloc_old _ _ _ (by simp<;>omega),Lib.alloc_old _ _ _ (by simp)];exact (by simpa using nw ((w.alloc o1).alloc o2) o3)
 .rw[Lib.alloc_old _ _ _ (by simp)];exact (by simpa using nw (((w.alloc o1).alloc o2).alloc o3) o4)
 .exact (by simpa using nw ((((w.alloc o1).alloc o2).alloc o3).alloc o4) o5)
structure Hz(b3 b4:Nat)(w w':World):Prop where
 os:w'.os=w.os
 tape:w'.tape=w.tape
 output:w'.output=w.output
 size:w.heap.size<=w'.heap.size
 block:∀ k,k<w.heap.size->k≠b3->k≠b4->w'.heap[k]?=w.heap[k]?
def Hz.refl(b3 b4:Nat)(w:World):Hz b3 b4 w w:=⟨rfl,rfl,rfl,a9n _,λ _ _ _ _=>rfl⟩
def Hz.trans{b3 b4:Nat}{w w' JS:World}(h:Hz b3 b4 w w')(k:Hz b3 b4 w' JS):Hz b3 b4 w JS :=
 ⟨k.os.trans h.os,k.tape.trans h.tape,k.output.trans h.output,b0b h.size k.size,λ q h1 h2 h3=>(k.block q (a9g h1 h.size) h2 h3).trans (h.block q h1 h2 h3)⟩
def Hz.cQ{b3 b4 B:Nat}{w0 w w':World}(h:Hz b3 b4 w w')(hb:Below B w0 w)(hB:B<=w0.heap.size)(h3:B<=b3)(h4:B<=b4):Below B w0 w' :=
 hb.trans ⟨h.os,h.tape,h.output,h.size,λ k hk=>h.block k (a9g hk (b0b hB hb.size)) (by omega) (by omega)⟩
def Hz.of{b3 b4:Nat}{w w':World}(h:Below w.heap.size w w'):Hz b3 b4 w w':=⟨h.os,h.tape,h.output,h.size,λ k hk _ _=>h.block k hk⟩
def NZ.none{w:World}{mb:Nat}(h:w.heap[mb]?=some (.map #[] 0)):NZ w mb [] 0 :=
 ⟨xZ _ _,0,#[],0,h,vZ.empty rfl rfl,a9n _,λ t=>by simp[xZ]⟩
def NZ.aL{w w':World}{mb i j:Nat}{L:List J}(h:NZ w mb L i)(uK:i<=j)(hw:w'.heap[mb]?=w.heap[mb]?):NZ w' mb L j:=by
 obtain⟨f,n,es,c,h1,h2,h3,h4⟩:=h.ex;exact⟨f,n,es,c,hw.trans h1,h2,by omega,h4⟩
def a1P(l:List UInt8)(h:l.length<=140737488355328):nI .str l (.string ⟨l.toArray⟩):=λ w S=>⟨⟨l.toArray⟩,rfl,by simp,by simpa [ByteArray.size] using h⟩
def Sd(b:Bool):nI .bool b (.bool b):=λ w S=>rfl
def Ep:prog.underlying 164=some (.map 9 4)/\prog.underlying 9=some .string:=⟨by kernel_rfl,by kernel_rfl⟩
def XM(w:World):(zeroValue 4).run prog w = .ok (.bool false) w:=by
 have h:(Tryz.prog.info? 4).map (λ i=>i.zero)=some (some (.bool false)):=by kernel_rfl
 match hq:Tryz.prog.info? 4,h with
 | some i,h =>
  simp only[b1v,a8V] at h;simp[zeroValue,typeInfo,show prog.info? 4=some i from hq,h,Result.andThen]
def NZ.af{w:World}{mb i:Nat}{L:List J}(h:NZ w mb L i)(x:J)(hl:(bC x).length<=1000000)(hg:aA x=true)(hL:j8 L)(hi:i<1000000000) :
  (Instr.lookup 164 (.map (some mb)) (.string ⟨(bC x).toArray⟩) false).run prog w = .ok (.bool (L.any λ y=>gu y x)) w /\
  ((L.any λ y=>gu y x)=false->∃ w',(Instr.mapUpdate 164 (.map (some mb)) (.string ⟨(bC x).toArray⟩) (.bool true)).run prog w = .ok () w'/\NZ w' mb (L++[x]) (i+1)/\w'.os=w.os/\w'.tape=w.tape/\w'.output=w.output/\w'.heap.size=w.heap.size/\∀ k,k≠mb->w'.heap[k]?=w.heap[k]?):=by
 obtain⟨f,n,es,c,h1,h2,h3,h4⟩:=h.ex;have hk:=a1P (bC x) (by omega);obtain⟨u,u1,u2⟩:=h2.af (P:=prog) Ep.1 (Hy.str Ep.2 w) h1 (XM w) (Sd false) (k:=bC x) hk false;have hu:[u]=[.bool ((f (bC x)).getD false)]:=u1 w (λ _=>False);simp only[a9a,a9q] at hu;subst hu;have hb:(f (bC x)).getD false=(L.any λ y=>gu y x):=by
  have e:=a2J L x hg hL;rw[<-h4] at e;cases h5:(f (bC x)).getD false<;>cases h6:L.any (λ y=>gu y x)<;>simp_all
 rw[hb] at u2;refine⟨u2,λ hf=>?_⟩;obtain⟨UG,c',m1,m2⟩:=h2.store (P:=prog) Ep.1 (Hy.str Ep.2 w) h1 (k:=bC x) hk (x:=true) (Sd true) (show n<1000000000 by omega);obtain⟨q1,q2⟩:=MapKept.heap_set (o' := .map UG c') h1;refine⟨_,m1,⟨_,_,UG,c',q1,m2,?_,λ t=>?_⟩,rfl,rfl,rfl,by simp,q2⟩
 .show qN _ n<=_;unfold qN;cases (f (bC x)).isSome<;>simp<;>omega
 .show (
     qO f (bC x) true t).getD false=true↔_
  by_cases ht:t=bC x
  .subst ht;rw[vz];simp
  .rw[kk _ _ _ ht,h4];constructor
   .rintro⟨z,hz,e⟩;exact⟨z,b0W _ hz,e⟩
   .rintro⟨z,hz,e⟩;rcases a8X.1 hz with q|q
    .exact⟨z,q,e⟩
    .rw[a9w] at q;exact absurd (by rw[<-e,q]) ht
open Go.Shelf Go.Lib Go.Sort
def XW:∀ a b:List UInt8,decide (Lib.compareBytes a b<0)=Op.bytesLess a b
 | [],[]=>rfl
 | [],_::_=>rfl
 | _::_,[]=>rfl
 | a::x,b::y=>by
  have ih:=XW x y;unfold Lib.compareBytes Op.bytesLess;by_cases h1:a<b
  .simp[h1]
  .by_cases h2:b<a
   .have h3:¬ a=b:=λ e=>by subst e;exact absurd h2 h1
    simp[h1,h2,h3]
   .have h3:a=b:=UInt8.le_antisymm (b2H.1 h2) (b2H.1 h1);subst h3;simp only[h1,b1M,ih];simp
abbrev Wt(x y:Nm):Int:=Lib.compareBytes (bC x.1) (bC y.1)
def ltN(x y:Nm):ltOf Wt x y=Q8 x.1 y.1:=XW _ _
def a7D:SWO (ltOf Wt) where
 irrefl x:=by rw[ltN];exact FZ _
 trans x y z h1 h2:=by rw[ltN] at *;exact D2 _ _ _ h1 h2
 ntrans x y z h1 h2:=by rw[ltN] at *;exact Om _ _ _ h1 h2
set_option maxRecDepth 100000 in
def YQ(x y:Nm)(W:World):Calls prog 120 #[.agg (nU x).toArray, .agg (nU y).toArray] W λ e w'=>e = .returned (.int .i64 (Wt x y))/\∃ q os',w'=grow (W.drewN q) os':=by
 have RW:=λ W'=>Tryz.strings_Compare ⟨(bC x.1).toArray⟩ ⟨(bC y.1).toArray⟩ W';simp only at RW;show Calls prog 120 #[.agg #[.string ⟨(bC x.1).toArray⟩, .int .i64 x.2.1, .int .i64 x.2.2.1, .slice x.2.2.2.1 x.2.2.2.2.1 x.2.2.2.2.2], .agg #[.string ⟨(bC y.1).toArray⟩, .int .i64 y.2.1, .int .i64 y.2.2.1, .slice y.2.2.2.1 y.2.2.2.2.1 y.2.2.2.2.2]] W _;unfold Wt;generalize Lib.compareBytes (bC x.1) (bC y.1)=r at RW ⊢;go_enter Tryz.func120,Tryz.ntmps120;go_wp2_with (go_at_call 121;refine (RW _).mono ?_;rintro e w' ⟨rfl,rfl⟩);go_ret;exact⟨rfl,0,_,by rw[alloc_eq_grow,alloc_eq_grow,grow_grow];rfl⟩
def a2M:∀ args w,(callFunc 120 args).run prog w = .ok (.enter 120 args) w:=enters_of Tryz.func120 (by kernel_rfl) rfl
def a5V:∀ w,(isAgg (167)).run prog w = .ok true w:=Tryz.isAgg167
def a7z:∀ w,(Go.sizeOf (167)).run prog w = .ok 4 w:=Tryz.sizeOf167
def WX(w:World)(os:Array Obj)(k:Nat)(h:k<w.heap.size):(grow w os).heap[k]?=w.heap[k]?:=by
 unfold grow;simp only;rw[Array.getElem?_append_left h]
def VS(w:World)(dk off n:Nat)(d:Array Nm)(os:Array Obj):bI (λ b=>b=dk) w (sortWorldK nU 4 w dk off n d os):=by
 refine⟨rfl,rfl,rfl,size_sortWorldK_c _ _ _ _ _ _ _ _,λ b hb dv=>?_⟩;unfold sortWorldK;rw[WX _ _ _ (by rw[size_putRowK];exact hb)];unfold putRowK putRow mapBlock;simp only[Sort.ahead];rw[Array.getElem?_modify,if_neg λ e=>dv e.symm]
def Yk{w0 w:World}{S:Nat->Prop}{gl cl:Nat}{T:List Nm}(h:NmX w0 S w (.slice (some ⟨gl,0,none⟩) T.length cl) T):HoldsK nU 4 w gl 0 T.toArray:=by
 intro j hj;rw[size_flatK] at hj;have hj:j<T.length * 4:=by simpa using hj
 obtain⟨cur,hc⟩:∃ cur,w.heap[gl]?=some (.cells cur 167 (0,0)):=by
  rcases h.own.2 with ⟨e,_⟩|⟨g',c',cur,e,_,h2,_⟩
  .cases e
  .cases e;exact⟨cur,h2⟩
 have hi:j / 4<T.length:=by omega
 refine⟨?_,S3 hc⟩;have fD:=h.own.cells (g:=gl) rfl j (id ((flatK nU 4 T.toArray)[j]!)) (by
  have:=RM T (j / 4) (j % 4) _ (List.getElem?_eq_getElem hi) (by omega);rw[show j / 4 * 4+j % 4=j by omega] at this;rw[this,get_flatK _ _ _ _ (by simpa using hj)];have e:T.toArray[j / 4]! = T[j / 4]:=getElem!_pos T.toArray (j / 4) (by simpa using hi);rw[e];have hl:j % 4<(nU T[j / 4]).length:=by rw[tv];omega
  simp[hl])
 simpa [Addr.add_lit] using fD
def W2{w:World}{gl:Nat}{d:Array Nm}(h:HoldsK nU 4 w gl 0 d)(i:Nat)(t:Nm)(ht:d.toList[i]?=some t):bm w gl (i * 4) (nU t):=by
 intro q v hv;have hq:q<4:=by have:=(a9p.1 hv).1;rwa [tv] at this
 have hi:i<d.size:=by have:=(List.getElem?_eq_some_iff.1 ht).1;simpa using this
 have:=(h (i * 4+q) (by rw[size_flatK];omega)).1;rw[get_flatK _ _ _ _ (by omega),show (i * 4+q) / 4=i by omega,show (i * 4+q) % 4=q by omega] at this;have e:d[i]! = t:=by
  have h1:d[i]?=some t:=by simpa using ht
  rw[getElem!_pos d i hi];exact b0g ((a9S hi).symm.trans h1)
 rw[e] at this;have h2:(nU t)[q]! = v:=by simp[hv]
 rw[h2] at this;simpa using this
def ZH{T:List Nm}{d':Array Nm}{M:List J}(hM:T.map (·.1)=M)(hg:j8 M)(hp:PermIn 0 T.toArray.size T.toArray d')(hs:SortedIn (ltOf Wt) 0 T.toArray.size d'):d'.toList.map (·.1)=AW M/\d'.toList.Perm T:=by
 obtain⟨h1,_,h3⟩:=hp;have h3:d'.toList.Perm T:=by
  have e1:T.toArray.extract 0 T.toArray.size=T.toArray:=by simp
  have e2:d'.extract 0 T.toArray.size=d':=by rw[<-h1];simp
  rw[e1,e2] at h3;simpa using h3
 refine⟨a2d M _ hg (by rw[<-hM];exact h3.map _) ?_,h3⟩;unfold FG;rw[List.pairwise_map,List.pairwise_iff_getElem];intro i j hi hj uK;have:=hs i j (Nat.zero_le _) uK (by rw[<-h1];simpa using hj);rw[ltN] at this;have e1:d'[i]! = d'.toList[i]:=getElem!_pos d' i (by simpa using hi);have e2:d'[j]! = d'.toList[j]:=getElem!_pos d' j (by simpa using hj);rw[e1,e2] at this;exact this
def Vj{w0 w:World}{S Z:Nat->Prop}(hS:jf w0 S)(hb:Below w0.heap.size w0 w)(hZ:∀ b,Z b->b<w.heap.size) :
  Calls prog 70 #[.int .i64 1, .int .i64 0] w λ e w'=>∃ (k' n':Int) (a':Option Addr) (l' c':Nat),e = .returned (.agg #[.int .i64 k', .int .i64 n', .slice a' l' c'])/\bI (λ _=>False) w w'/\Rd w' (Sx w0 S Z w') (J.mk 1 0 []).aE [.int .i64 k', .int .i64 n', .slice a' l' c']:=by
 refine (mI.2 (1:Int) (0:Int) trivial w _ [_,_] (Lp Z hS hb) ⟨⟨rfl,by decide,by decide⟩,⟨rfl,by decide,by decide⟩,U⟩).mono ?_;rintro e w' ⟨v,S',res,rfl,rfl,eK,td,CX,hr⟩;obtain⟨cs,rfl,vV⟩:=(show ∃ cs,v = .agg cs.toArray/\Rd w' S' (J.mk 1 0 []).aE cs from hr);obtain⟨_,_,_,_,_,rfl⟩:=Lv vV;exact⟨_,_,_,_,_,rfl,eK,JI hS hb hZ eK td CX vV⟩
def V6{w0 w:World}{S Z:Nat->Prop}(hS:jf w0 S)(hb:Below w0.heap.size w0 w)(hZ:∀ b,Z b->b<w.heap.size)(x y:J)(a0 a1 a2 b0 b1 b2:Value)(rx:Rd w (Sx w0 S Z w) x.aE [a0,a1,a2])(ry:Rd w (Sx w0 S Z w) y.aE [b0,b1,b2])
  (bk:Nat) (WR:w.heap[bk]?=some (.cells #[a0,a1,a2,b0,b1,b2] 28 (0,0))) (h0:w0.heap.size<=bk) (hz:¬ Z bk) :
  Calls prog 35 #[.int .i64 6, .slice (some ⟨bk,0,none⟩) 2 2] w λ e w'=>∃ (k' n':Int) (a':Option Addr) (l' c':Nat),e = .returned (.agg #[.int .i64 k', .int .i64 n', .slice a' l' c'])/\bI (λ _=>False) w w'/\Rd w' (Sx w0 S Z w') (J.mk 6 0 [x,y]).aE [.int .i64 k', .int .i64 n', .slice a' l' c']:=by
 have hc:∀ (o:Nat) (v:Value),(#[a0,a1,a2,b0,b1,b2]:Array Value)[o]?=some v->w.cell? ⟨bk,o,none⟩=some v:=λ o v h=>by simp[World.cell?,WR,h]
 have r1:bm w bk 0 [a0,a1,a2]:=λ j v hj=>by
  have hj3:j<3:=(a9p.1 hj).1;match j,hj3 with
  | 0,_=>exact hc 0 v hj
  | 1,_=>exact hc 1 v hj
  | 2,_=>exact hc 2 v hj
 have r2:bm w bk 3 [b0,b1,b2]:=λ j v hj=>by
  have hj3:j<3:=(a9p.1 hj).1;match j,hj3 with
  | 0,_=>exact hc 3 v hj
  | 1,_=>exact hc 4 v hj
  | 2,_=>exact hc 5 v hj
 have sx:x.aE.size=3:=by cases x;rfl
 have sy:y.aE.size=3:=by cases y;rfl
 have q1:[a0,a1,a2].length=x.aE.size:=by rw[sx];rfl
 have q2:[b0,b1,b2].length=y.aE.size:=by rw[sy];rfl
 have q3:bm w bk (0+x.aE.size) [b0,b1,b2]:=by rw[sx];exact r2
 refine (mJ.2 (6:Int) [x,y] trivial w _ [_,_] (Lp Z hS hb) ⟨⟨rfl,by decide,by decide⟩,⟨some ⟨bk,0,none⟩,2,rfl,a9n 2,(show (2:Nat)<=maxLen by decide),(show (2:Nat)<=140737488355328 by decide), .inr ⟨bk,0,rfl, .inr ⟨h0,bp WR,hz⟩,⟨[a0,a1,a2],q1,rx,r1⟩,⟨[b0,b1,b2],q2,ry,q3⟩,U⟩⟩,U⟩).mono ?_;rintro e w' ⟨v,S',res,rfl,rfl,eK,td,CX,hr⟩;obtain⟨cs,rfl,vV⟩:=(show ∃ cs,v = .agg cs.toArray/\Rd w' S' (J.mk 6 0 [x,y]).aE cs from hr);obtain⟨_,_,_,_,_,rfl⟩:=Lv vV;exact⟨_,_,_,_,_,rfl,eK,JI hS hb hZ eK td CX vV⟩
def FO{a:Act}{w:World}{b:Nat}{cs:List Value}{t:TypeId}(h4:a.tmps.getD 4 undef = .pointer (some ⟨b,0,none⟩))(hb:w.heap[b]?=some (.cells cs.toArray t (0,0)))(hl:cs.length=3)(hd:a.defers=[])
  {R:Ending->World->Prop} (hR:R (.returned (.agg cs.toArray)) w):bodyPost prog Tryz.f97 R .ret a w:=by
 refine b2G ?_ hd hR;have cz:(Instr.loadAt 28 (.pointer (some ⟨b,0,none⟩))).run prog w = .ok (.agg cs.toArray) w:=gF (D5 (l:=[]) (wr:=[]) (cl:=[]) (ro:=[]) trivial) (T:=28) (τ := .st .expr) rfl (λ j v hj=>by simp[World.cell?,hb,hj]) hl;simp only[Instr.loadAt,Instr.sureAddr,a9r,a9u,a9m] at cz;rw[qP,b0U];simp only[a9r,b2l,Tryz.f97,b1m,List.mapM_nil,lD,h4,asAddr,a9u,a9m,cz];rfl
set_option maxRecDepth 100000 in
def Rj(w:World)(S:Nat->Prop)(hS:jf w S)(x y:J)(hx:aA x=true)(hy:aA y=true)(hn:ar x+ar y<=7000)(cx cy:List Value)(rx:Rd w S x.aE cx)(ry:Rd w S y.aE cy) :
  Calls prog 97 #[.agg cx.toArray, .agg cy.toArray] w λ e w'=>∃ cs,e = .returned (.agg cs.toArray)/\Rd w' (Sx w S (λ _=>False) w') (Nv x y).aE cs/\bI (λ _=>False) w w':=by
 obtain⟨k1,n1,a1,l1,p1,rfl⟩:=Lv rx;obtain⟨k2,n2,a2,l2,p2,rfl⟩:=Lv ry;have hmk:=TI (T:=164);have X1:∃ W,W=((((w.alloc (.cells #[.int .i64 k1, .int .i64 n1, .slice a1 l1 p1] 28)).alloc (.cells #[.int .i64 k2, .int .i64 n2, .slice a2 l2 p2] 28)).alloc (.cells #[.int .i64 0, .int .i64 0, .slice none 0 0] 28)).alloc (.cells #[] 167)).alloc (.map #[] 0):=⟨_,rfl⟩;obtain⟨W,hW⟩:=X1;have B0:Below w.heap.size w W:=by
  rw[hW];exact (((((b0R _ w).alloc (a9n _) _).alloc (by simp) _).alloc (by simp;omega) _).alloc (by simp;omega) _).alloc (by simp;omega) _
 have Wz:W.heap.size=w.heap.size+5:=by rw[hW];simp
 obtain⟨e1,e2,e3,e4,e5⟩:=a2D w (.cells #[.int .i64 k1, .int .i64 n1, .slice a1 l1 p1] 28) (.cells #[.int .i64 k2, .int .i64 n2, .slice a2 l2 p2] 28) (.cells #[.int .i64 0, .int .i64 0, .slice none 0 0] 28) (.cells #[] 167) (.map #[] 0);rw[<-hW] at e1 e2 e3 e4 e5;go_enter Tryz.func97,Tryz.ntmps97;go_upto_region 3 with fail;rw[<-hW];clear hW hmk;have b1:w.heap.size<W.heap.size:=bp e1;have b2:w.heap.size+1<W.heap.size:=bp e2;obtain⟨⟨q0,q1,q2⟩,_,_,_⟩:=qY e1;obtain⟨⟨r0,r1,r2⟩,_,_,_⟩:=qY e2;have l0:HD w S W.heap.size W.drew (.slice none 0 0) [] []:=⟨B0.drew,B0.size,a9n _,⟨rfl, .inl ⟨rfl,rfl⟩⟩,rfl⟩;have t0:eI []=0:=rfl;have gn:j8 []:=λ _ h=>by cases h
 obtain⟨g1,t1⟩:=OP _ x (a9o _) hx [] gn;obtain⟨g2,t2⟩:=OP _ y (a9o _) hy _ g1;go_wp2_with fail;go_region_held3 (λ w'=>w'.cell? ⟨w.heap.size,0,none⟩=some (.int .i64 k1)/\w'.cell? ⟨w.heap.size,1,none⟩=some (.int .i64 n1)/\w'.cell? ⟨w.heap.size,2,none⟩=some (.slice a1 l1 p1)/\w'.cell? ⟨w.heap.size+1,0,none⟩=some (.int .i64 k2)/\w'.cell? ⟨w.heap.size+1,1,none⟩=some (.int .i64 n2)/\w'.cell? ⟨w.heap.size+1,2,none⟩=some (.slice a2 l2 p2)) (go_keep)
  (first
   | (
     go_at_call_of 118 k1
     refine (Ip w S hS W.heap.size _ x (a9o _) hx _ (.slice none 0 0) [] [] _ l0 rx gn (by omega)).mono ?_
     rintro e w2 ⟨v1,L1,he,l1,f1⟩
     subst he
     have m1:∀ k,k<W.heap.size->w2.heap[k]?=W.heap[k]?:=λ k hk=>f1.g.block k hk (by simp[Value.ownBlock])
     obtain⟨⟨q3,q4,q5⟩,_,_,_⟩:=qY ((m1 _ b1).trans e1)
     obtain⟨⟨r3,r4,r5⟩,_,_,_⟩:=qY ((m1 _ b2).trans e2))
   | (
     go_at_call_of 118 k2
     refine (Ip w S hS W.heap.size _ y (a9o _) hy _ v1 _ L1 _ l1 ry g1 (by omega)).mono ?_
     rintro e w3 ⟨v2,L2,he,l2,f2⟩
     subst he
     have m2:∀ k,k<W.heap.size->w3.heap[k]?=W.heap[k]?:=λ k hk=>(f2.g.block k (a9g hk f1.g.size) (λ e=>(f1.own k e.symm).elim (λ q=>by simp[Value.ownBlock] at q) λ q=>by have q:W.heap.size<=k:=q;omega)).trans (m1 k hk)
     obtain⟨⟨q6,q7,q8⟩,_,_,_⟩:=qY ((m2 _ b1).trans e1)
     obtain⟨⟨r6,r7,r8⟩,_,_,_⟩:=qY ((m2 _ b2).trans e2)
     obtain⟨ad,cp,rfl,hFL⟩:=Zt l2.own))
 obtain⟨iN,hN,hN0,hN1,hN2⟩:=b2Y a5y;have hdk:=a2K x y hx hy;have hsu:=a2i x y hx hy;have Zg:Nv x y=nb (AW (dN y (dN x []))):=rfl;have a4w:=l2.rd;have a0o:=l2.cQ;have s3:=l2.bw;have hFg:=g2;have hFt:eI (yE y (yE x []))<=7002:=by omega
 have f3:=(m2 _ (bp e3)).trans e3;have f4:=(m2 _ (bp e4)).trans e4;have f5:=(m2 _ (bp e5)).trans e5;clear t1 t2 g1 g2 t0 gn q0 q1 q2 r0 r1 r2 q3 q4 q5 r3 r4 r5 q6 q7 q8 r6 r7 r8 l0 e1 e2 e3 e4 e5 f1 f2 m1 l1 l2 b1 b2;generalize yE y (yE x [])=FL at *
 have hFn:FL.length<=7002:=by have:eI FL=cT ar FL+FL.length:=rfl;omega
 rename_i a5j;clear a5j;go_wp2_with fail;go_loopw [5,20] (λ vl i wr=>∃ (k:Nat) (T:List Nm) (g c:Nat),i = .int .i64 k/\k<=FL.length/\T.map (·.1)=vR FL k/\vl = .slice (some ⟨g,0,none⟩) T.length c/\NmX w S wr vl T/\NZ wr (w.heap.size+1+1+1+1) (vR FL k) k /\
   Hz (w.heap.size+1+1+1) (w.heap.size+1+1+1+1) w3 wr/\(g=w.heap.size+1+1+1\/w3.heap.size<=g)) (λ vl i wr=>FL.length - kN i)
 .refine⟨0,[],w.heap.size+1+1+1,0,rfl,a9F _,rfl,rfl,⟨⟨rfl, .inr ⟨w.heap.size+1+1+1,0,#[],rfl,by omega,f4,a9n _,by simp[maxLen],rfl,rfl⟩⟩,λ t ht=>by cases ht⟩,NZ.none f5,Hz.refl _ _ _, .inl rfl⟩
 obtain⟨k,T,gl,cl,rfl,hk,hT,rfl,QR,hSe,UO,QV⟩:=hrel;by_cases bj:k<FL.length
 .obtain⟨z,hz⟩:∃ z,FL[k]?=some z:=⟨_,a9j bj⟩;have hgz:aA z=true:=hFg z (a9C hz);have hnz:ar z<=9000:=by
   have:ar z<=cT ar FL:=by
    obtain⟨a,b,rfl⟩:=b2n (a9C hz);rw[zz];simp[cT];omega
   have:eI FL=cT ar FL+FL.length:=rfl;omega
  have U1:=Ug z hgz hnz;have hdz:=OB FL k z hz;have hdg:=CG FL hFg k;have hdl:=SO FL k;obtain⟨g,cur,rfl,hgW,oi,hgt⟩:=hFL.resolve_left (by omega);have a6X:wr.heap[g]?=some (.cells cur 28 (0,0)):=(UO.block g (bp oi) (by omega) (by omega)).trans oi;obtain⟨c0,c1,c2,hcz,hrz⟩:=DN a6X hgt a4w k z hz;obtain⟨zk,zn,za,zl,zc,hce⟩:=Lv hrz;simp only[a9a,a9q] at hce;obtain⟨rfl,rfl,rfl⟩:=hce;have z0:wr.cell? ⟨g,k * 3,none⟩=some (.int .i64 zk):=hcz 0 _ rfl;have z1:wr.cell? ⟨g,k * 3+1,none⟩=some (.int .i64 zn):=hcz 1 _ rfl;have z2:wr.cell? ⟨g,k * 3+2,none⟩=some (.slice za zl zc):=hcz 2 _ rfl;have bk0:(0:Int)<=(k:Int):=by omega
  have bk1:(k:Int)<(FL.length:Int):=by omega
  have Ol:Below w.heap.size w wr:=UO.cQ a0o (a9n _) (by omega) (by omega);have srw:=UO.size;go_upto_region 6 with fail;have n4:=b0k wr (.cells #[.int .i64 zk, .int .i64 zn, .slice za zl zc] 28);have b4:Below wr.heap.size wr (wr.alloc (.cells #[.int .i64 zk, .int .i64 zn, .slice za zl zc] 28)):=(b0R _ wr).alloc (a9n _) _;have sz4:(wr.alloc (.cells #[.int .i64 zk, .int .i64 zn, .slice za zl zc] 28)).heap.size=wr.heap.size+1:=by simp
  generalize wr.alloc (.cells #[.int .i64 zk, .int .i64 zn, .slice za zl zc] 28)=w4 at *
  have a0n:Below w.heap.size w w4:=Ol.trans (b4.mono Ol.size);obtain⟨⟨o0,o1,o2⟩,_,_,_⟩:=qY n4;go_wp2_with (go_at_call 78;refine (JO z w4 S (λ b hb=>a9g (hS.1 b hb) a0n.size) hgz U1 _ (Ys hS a0n hrz)).mono ?_);rintro e w5 ⟨he,b5⟩;subst he;have b45:Below wr.heap.size wr w5:=b4.trans (b5.mono (by omega));have a7V:Below w.heap.size w w5:=Ol.trans (b45.mono Ol.size);have n5:=(b5.block _ (bp n4)).trans n4;obtain⟨⟨m0,m1,m2'⟩,_,_,_⟩:=qY n5;have L5:Hz (w.heap.size+1+1+1) (w.heap.size+1+1+1+1) w3 w5:=UO.trans (Hz.of b45);have a8T:w.heap.size+1+1+1+1<w3.heap.size:=bp f5;have a3Z:NZ w5 (w.heap.size+1+1+1+1) (vR FL k) k:=hSe.aL (a9n _) (b45.block _ (by omega));have Ao:=QR.own.kept (yI b45) (.inr (by simp[Value.ownBlock]));have hs5:=b5.size;obtain⟨Kz,yM⟩:=a3Z.af z U1 hgz hdg (by omega);rcases b0j ((vR FL k).any λ y=>gu y z) with ha|ha
  .rw[ha] at Kz;go_wp2;refine⟨⟨k+1,T,gl,cl,by first|rfl|simp,bj,?_,rfl,⟨Ao,QR.rd⟩,?_,L5,QV⟩,?_⟩
   .rw[hT,hdz,Ia,a9l ha]
   .rw[hdz,Ia,a9l ha];exact a3Z.aL (b2N _) rfl
   .simp only[kN];omega
  .rw[ha] at Kz;obtain⟨w6,a8S,a6F,u1,u2,u3,u4,u5⟩:=yM ha;have n6:=(u5 wr.heap.size (by omega)).trans n5;obtain⟨⟨m3,m4,m5⟩,_,_,_⟩:=qY n6;have hg6:w5.grownBy w6 (some (w.heap.size+1+1+1+1)):=⟨u1,u2,u3,by omega,λ q h1 h2=>u5 q λ e=>h2 (by rw[e])⟩;have W3:=Ao.kept hg6 (.inr (by simp[Value.ownBlock];omega));have Ti:=W3.alloc (.cells #[.string ⟨(bC z).toArray⟩, .int .i64 zk, .int .i64 zn, .slice za zl zc] 167);have hTl:(vR FL k).length=T.length:=by rw[<-hT,a9M]
   have hu4:w5.heap.size=w6.heap.size:=u4.symm;clear u4;go_wp2_with (at_builtin;refine xu rfl _ _ 163 rfl w.heap.size 167 iN _ 4 56 Tryz.underlying163 hN hN0 hN1 hN2 rfl (by decide) _ T.length _ rfl Ti ⟨w6.heap.size,0,none⟩ 1 1 [.string ⟨(bC z).toArray⟩, .int .i64 zk, .int .i64 zn, .slice za zl zc] (by first|rfl|simp) (by rfl) (b2f (cs := #[.string ⟨(bC z).toArray⟩, .int .i64 zk, .int .i64 zn, .slice za zl zc]) (t:=167) (fr:=(0,0)) (b0k w6 _)) (by simp[Value.oneCell']) (by simp[maxLen];omega) (by omega) (by simp;omega) ?_);intro v' w7 dF di Ks iK;go_wp2;rcases dF.2 with ⟨e,_⟩|⟨g',c',a8E,rfl,o1',o2',o3',o4',o5',o6'⟩
   .exact (iK e).elim
   have a8R:w6.heap.size+1<=w7.heap.size:=by simpa using di.size
   have a3L:∀ q,q<w6.heap.size->q≠gl->w7.heap[q]?=w6.heap[q]?:=λ q h1 h2=>(di.block q (by simp;omega) (λ e=>h2 (b0g e))).trans (b0a _ _ _ h1);have a8K:gl<w5.heap.size:=(Jq Ao gl rfl).2;refine⟨⟨k+1,T++[(z,zk,zn,za,zl,zc)],g',c',by first|rfl|simp,bj,?_,by simp,⟨?_,λ t ht=>?_⟩,?_,?_,?_⟩,?_⟩
   .rw[hdz,Ia,a9c (by rw[ha];decide),b0p,hT];rfl
   .rw[a9i,List.flatMap_append];exact dF
   .rcases a8X.1 ht with q|q
    .exact QR.rd t q
    .rw[a9w] at q;rw[q];exact hrz
   .rw[hdz,Ia,a9c (by rw[ha];decide)];exact a6F.aL (a9n _) (a3L _ (by omega) (by omega))
   .exact⟨di.os.trans (u1.trans L5.os),di.tape.trans (u2.trans L5.tape),di.output.trans (u3.trans L5.output),by have:=L5.size;omega,λ q h1 h2 h3=>(a3L q (by have:=L5.size;omega) (by rintro rfl;exact QV.elim (λ e=>h2 e) λ e=>by omega)).trans ((u5 q h3).trans (L5.block q h1 h2 h3))⟩
   .rcases Ks with e|e
    .have e:g'=gl:=by simpa [Value.ownBlock] using e
     rw[e];exact QV
    .have e:g'=w6.heap.size+1:=by simpa [Value.ownBlock] using e
     exact .inr (by have:=L5.size;omega)
   .simp only[kN];omega
 .have W0:k=FL.length:=by omega
  have hM:=hdk k (by omega);rw[hM] at hT;have hMg:=hM ▸ CG FL hFg k;clear hdk hSe hFL a4w hFg hFt;have hTl:T.length<=7002:=by
   have h1:T.length=(dN y (dN x [])).length:=by rw[<-hT,a9M]
   have h2:=SO FL k;rw[hM] at h2;omega
  have O1:T.toArray.size<4611686018427387904:=by rw[b2t];omega
  have RW:Calls prog 119 #[.slice (some ⟨gl,0,none⟩) T.length cl, .func (.func 120) #[] #[]] wr λ e w'=>e = .returned (.tuple #[])/\∃ d' n os,PermIn 0 T.toArray.size T.toArray d'/\SortedIn (ltOf Wt) 0 T.toArray.size d'/\w'=sortWorldK nU 4 wr gl 0 n d' os :=
   AnyQ.slices_SortFunc Tryz.a3p 4 a5V a7z nU tv YU Wt a7D 120 #[] gl 0 cl T.toArray wr a2M (λ _ _ _ _ x y=>YQ x y _) (Yk QR) (Jq QR.own gl rfl).2 O1
  go_wp2_with (go_at_call 119;refine RW.mono ?_);rintro e w4 ⟨he,d',nn,os,hp,Zf,U7⟩;subst he;obtain⟨hsr,hpm⟩:=ZH hT hMg hp Zf;have a0T:=(Jq QR.own gl rfl);have UY:bI (λ b=>b=gl) wr w4:=by rw[U7];exact VS _ _ _ _ _ _
  have hH4:HoldsK nU 4 w4 gl 0 d':=by rw[U7];exact holdsK_sortWorldK_c _ _ _ _ _ _ _ _ _ (Yk QR) a0T.2 hp.1
  have uI:=λ i t h=>W2 hH4 i t h;have a4p:∀ t∈d'.toList,Rd w S t.1.aE (RF t):=λ t ht=>QR.rd t (hpm.mem_iff.1 ht);have hDl:d'.toList.length=T.length:=hpm.length_eq;have Ol:Below w.heap.size w wr:=UO.cQ a0o (a9n _) (by omega) (by omega);have b4:Below w.heap.size w w4:=Ol.trans ⟨UY.os,UY.tape,UY.output,UY.size,λ q hq=>UY.block q (a9g hq Ol.size) (by omega)⟩;have hw3:=bp f3;have hLs:=UO.size;have z4:w4.heap[w.heap.size+1+1]?=some (.cells #[.int .i64 0, .int .i64 0, .slice none 0 0] 28 (0,0)):=(UY.block _ (by omega) (by omega)).trans ((UO.block _ hw3 (by omega) (by omega)).trans f3);have a6W:gl<w4.heap.size:=a9g a0T.2 UY.size;have a8L:gl≠w.heap.size+1+1:=by omega
  have a8H:T.length<=cl:=by
   rcases QR.own.2 with ⟨e,_⟩|⟨_,_,_,e,_,_,h,_⟩
   .cases e
   .cases e;exact h
  clear RW U7 hH4 hp Zf QR hpm UY hLs a0T;generalize d'.toList=D at *
  have hZS:AW (dN y (dN x []))=D.map (·.1):=hsr.symm;rw[hZS] at hsu Zg;generalize dN y (dN x [])=M at *
  clear hM hsr hZS hT hMg UO f3 f4 f5 m2;have Y4:∀ b,b=w.heap.size+1+1->w.heap.size<=b:=λ b h=>by omega
  have lt4:=bp z4;go_upto_region 12 with fail;generalize hnT:T.length=n at *
  by_cases hn0:n=0
  .subst hn0;have e0:D=[]:=List.eq_nil_of_length_eq_zero hDl;go_wp2_with (go_at_call 70;refine (Vj (Z:=λ b=>b=w.heap.size+1+1) hS b4 (λ b hb=>by have hb:b=w.heap.size+1+1:=hb;omega)).mono ?_);rintro e w5 ⟨ek,en,ea,em,ec,he,O6,r5⟩;subst he;have z5:=(O6.block _ lt4 id).trans z4;have b5:=b4.trans (qA O6 b4.size);obtain⟨⟨k0,k1,k2⟩,g0,g1,g2⟩:=qY z5;go_wp2;obtain⟨z6,o6⟩:=Qr (.int .i64 ek) (.int .i64 en) (.slice ea em ec) z5;refine FO (cs:=[.int .i64 ek, .int .i64 en, .slice ea em ec]) rfl z6 rfl rfl ?_;refine⟨[.int .i64 ek, .int .i64 en, .slice ea em ec],rfl,?_,b5.os,b5.tape,b5.output,by simpa using b5.size,λ b hb _=>(o6 b (by omega)).trans (b5.block b hb)⟩;rw[Zg,e0];exact qS hS b5 (by simp) Y4 (λ b _ h=>o6 b h) (λ b _ h=>h.elim) r5
  .obtain⟨t0,ht0⟩:∃ t,D[0]?=some t:=⟨_,List.getElem?_eq_getElem (by omega)⟩;have c0:=uI 0 t0 ht0;have a0:w4.cell? ⟨gl,0,none⟩=some (.string ⟨(bC t0.1).toArray⟩):=by simpa using c0 0 _ rfl
   have a1':w4.cell? ⟨gl,1,none⟩=some (.int .i64 t0.2.1):=by simpa using c0 1 _ rfl
   have a2':w4.cell? ⟨gl,2,none⟩=some (.int .i64 t0.2.2.1):=by simpa using c0 2 _ rfl
   have a3':w4.cell? ⟨gl,3,none⟩=some (.slice t0.2.2.2.1 t0.2.2.2.2.1 t0.2.2.2.2.2):=by simpa using c0 3 _ rfl
   have bn0:(0:Int)<(n:Int):=by omega
   have bn1:(1:Int)<=(n:Int):=by omega
   have bn2:(n:Int)<=(cl:Int):=by omega
   go_upto_region 15 with fail;have r0':Rd w S t0.1.aE (RF t0):=a4p t0 (a9C ht0);have n4:=b0k w4 (.cells #[.int .i64 t0.2.1, .int .i64 t0.2.2.1, .slice t0.2.2.2.1 t0.2.2.2.2.1 t0.2.2.2.2.2] 28);have m6:∀ b,b<w4.heap.size->(w4.alloc (.cells #[.int .i64 t0.2.1, .int .i64 t0.2.2.1, .slice t0.2.2.2.1 t0.2.2.2.2.1 t0.2.2.2.2.2] 28)).heap[b]?=w4.heap[b]?:=λ b hb=>b0a _ _ _ hb;have b6:Below w.heap.size w (w4.alloc (.cells #[.int .i64 t0.2.1, .int .i64 t0.2.2.1, .slice t0.2.2.2.1 t0.2.2.2.2.1 t0.2.2.2.2.2] 28)):=b4.alloc (by omega) _;have s6:(w4.alloc (.cells #[.int .i64 t0.2.1, .int .i64 t0.2.2.1, .slice t0.2.2.2.1 t0.2.2.2.2.1 t0.2.2.2.2.2] 28)).heap.size=w4.heap.size+1:=by simp
   generalize w4.alloc (.cells #[.int .i64 t0.2.1, .int .i64 t0.2.2.1, .slice t0.2.2.2.1 t0.2.2.2.2.1 t0.2.2.2.2.2] 28)=w6 at *
   have z6:=(m6 _ lt4).trans z4;have a6R:∀ i t,D[i]?=some t->bm w6 gl (i * 4) (nU t):=λ i t h=>(uI i t h).aL (m6 _ a6W);have r6:Rd w6 (Sx w S (λ b=>b=w.heap.size+1+1\/b=w4.heap.size) w6) (nb ((D.map (·.1)).take 1)).aE [.int .i64 t0.2.1, .int .i64 t0.2.2.1, .slice t0.2.2.2.1 t0.2.2.2.2.1 t0.2.2.2.2.2]:=by
    have:nb ((D.map (·.1)).take 1)=t0.1:=by
     match D,ht0 with
     | t::_,ht0=>cases ht0;rfl
    rw[this];exact Uc _ hS b6 r0'
   clear uI m6 a0 a1' a2' a3' c0 z4;generalize hT0:w4.heap.size=T0 at *
   go_cut [50,51,52] (λ s50 s51 s52 wx=>wx=w6/\s51 = .int .i64 ((n - 1:Nat):Int)/\s52 = .int .i64 0/\∃ o c,s50 = .slice (some ⟨gl,o,none⟩) (n - 1) c/\(n - 1=0\/o=4));case first =>
    have e1:(n:Int) - 1=((n - 1:Nat):Int):=by omega
    by_cases Kw:cl=1
    .subst Kw;have MS:n=1:=by omega
     subst MS;go_wp2;go_meet;exact⟨rfl,rfl,rfl,_,_,rfl, .inl (by simp)⟩
    .go_wp2;go_meet;exact⟨rfl,rfl,rfl,_,_,rfl, .inr rfl⟩
   case rest =>
    obtain⟨hwc,rfl,rfl,o,c,rfl,ho⟩:=hcut;cases hwc;go_wp2;go_loopw [52] (λ i wr=>∃ (j:Nat) (k' n':Int) (a':Option Addr) (l' c':Nat),i = .int .i64 j/\1+j<=n/\w6.grownBy wr (some T0)/\wr.heap[T0]?=some (.cells #[.int .i64 k', .int .i64 n', .slice a' l' c'] 28 (0,0)) /\
     Rd wr (Sx w S (λ b=>b=w.heap.size+1+1\/b=T0) wr) (nb ((D.map (·.1)).take (j+1))).aE [.int .i64 k', .int .i64 n', .slice a' l' c']) (λ i wr=>n - kN i)
    .exact⟨0,_,_,_,_,_,rfl,by omega,⟨rfl,rfl,rfl,a9n _,λ _ _ _=>rfl⟩,n4,r6⟩
    obtain⟨j,ak,an,aa,al,ac,rfl,hjn,oi,oP,Q1⟩:=hrel;have br:RowKit.Below w.heap.size w wr:=b6.grown oi (by omega) (λ q e=>by have e':T0=q:=b0g e;omega);have ltr:=bp oP;have szr:=oi.size;by_cases hjl:1+j<n
    .have ho4:o=4:=ho.resolve_left (by omega);subst ho4;obtain⟨t,ht⟩:∃ t,D[j+1]?=some t:=⟨_,a9j (by omega)⟩;have hct:=(a6R (j+1) t ht).aL (oi.block gl (by omega) (λ e=>by have e':gl=T0:=b0g e;omega));have y0:wr.cell? ⟨gl,4+j * 4,none⟩=some (.string ⟨(bC t.1).toArray⟩):=by have:=hct 0 _ rfl;rwa [show (j+1) * 4+0=4+j * 4 by omega] at this
     have y1:wr.cell? ⟨gl,4+j * 4+1,none⟩=some (.int .i64 t.2.1):=by have:=hct 1 _ rfl;rwa [show (j+1) * 4+1=4+j * 4+1 by omega] at this
     have y2:wr.cell? ⟨gl,4+j * 4+2,none⟩=some (.int .i64 t.2.2.1):=by have:=hct 2 _ rfl;rwa [show (j+1) * 4+2=4+j * 4+2 by omega] at this
     have y3:wr.cell? ⟨gl,4+j * 4+3,none⟩=some (.slice t.2.2.2.1 t.2.2.2.2.1 t.2.2.2.2.2):=by have:=hct 3 _ rfl;rwa [show (j+1) * 4+3=4+j * 4+3 by omega] at this
     have bj0:(0:Int)<=(j:Int):=by omega
     have bj1:(j:Int)<((n - 1:Nat):Int):=by omega
     obtain⟨⟨v0,v1',v2⟩,_,_,_⟩:=qY oP;go_upto_region 18 with fail;have rt:Rd w S t.1.aE (RF t):=a4p t (a9C ht);have n7:=b0k wr (.cells #[.string ⟨(bC t.1).toArray⟩, .int .i64 t.2.1, .int .i64 t.2.2.1, .slice t.2.2.2.1 t.2.2.2.2.1 t.2.2.2.2.2] 167);have b7:RowKit.Below w.heap.size w (wr.alloc (.cells #[.string ⟨(bC t.1).toArray⟩, .int .i64 t.2.1, .int .i64 t.2.2.1, .slice t.2.2.2.1 t.2.2.2.2.1 t.2.2.2.2.2] 167)):=br.alloc (by omega) _;have k7:bI (λ _=>False) wr (wr.alloc (.cells #[.string ⟨(bC t.1).toArray⟩, .int .i64 t.2.1, .int .i64 t.2.2.1, .slice t.2.2.2.1 t.2.2.2.2.1 t.2.2.2.2.2] 167)):=⟨rfl,rfl,rfl,by simp,λ b hb _=>b0a _ _ _ hb⟩;have s7:(wr.alloc (.cells #[.string ⟨(bC t.1).toArray⟩, .int .i64 t.2.1, .int .i64 t.2.2.1, .slice t.2.2.2.1 t.2.2.2.2.1 t.2.2.2.2.2] 167)).heap.size=wr.heap.size+1:=by simp
     generalize wr.alloc (.cells #[.string ⟨(bC t.1).toArray⟩, .int .i64 t.2.1, .int .i64 t.2.2.1, .slice t.2.2.2.1 t.2.2.2.2.1 t.2.2.2.2.2] 167)=w7 at *
     have q0:w7.cell? ⟨wr.heap.size,1,none⟩=some (.int .i64 t.2.1):=by simp[World.cell?,n7]
     have q1:w7.cell? ⟨wr.heap.size,2,none⟩=some (.int .i64 t.2.2.1):=by simp[World.cell?,n7]
     have q2:w7.cell? ⟨wr.heap.size,3,none⟩=some (.slice t.2.2.2.1 t.2.2.2.2.1 t.2.2.2.2.2):=by simp[World.cell?,n7]
     have t7:=(k7.block _ ltr id).trans oP;obtain⟨⟨v3,v4,v5⟩,_,_,_⟩:=qY t7;have n8:=b0k w7 (.cells #[.int .i64 ak, .int .i64 an, .slice aa al ac, .int .i64 t.2.1, .int .i64 t.2.2.1, .slice t.2.2.2.1 t.2.2.2.2.1 t.2.2.2.2.2] 28);rw[s7] at n8;have sbr:=br.size;have b8:RowKit.Below w.heap.size w (w7.alloc (.cells #[.int .i64 ak, .int .i64 an, .slice aa al ac, .int .i64 t.2.1, .int .i64 t.2.2.1, .slice t.2.2.2.1 t.2.2.2.2.1 t.2.2.2.2.2] 28)):=b7.alloc (by omega) _;have k8:bI (λ _=>False) w7 (w7.alloc (.cells #[.int .i64 ak, .int .i64 an, .slice aa al ac, .int .i64 t.2.1, .int .i64 t.2.2.1, .slice t.2.2.2.1 t.2.2.2.2.1 t.2.2.2.2.2] 28)):=⟨rfl,rfl,rfl,by simp,λ b hb _=>b0a _ _ _ hb⟩;have s8:(w7.alloc (.cells #[.int .i64 ak, .int .i64 an, .slice aa al ac, .int .i64 t.2.1, .int .i64 t.2.2.1, .slice t.2.2.2.1 t.2.2.2.2.1 t.2.2.2.2.2] 28)).heap.size=w7.heap.size+1:=by simp
     have rr8:=Qv hS b7 k8 (Qv hS br k7 Q1);have ry8:=Uc (λ b=>b=w.heap.size+1+1\/b=T0) hS b8 rt;have hZ8:∀ b,(b=w.heap.size+1+1\/b=T0)->b<(w7.alloc (.cells #[.int .i64 ak, .int .i64 an, .slice aa al ac, .int .i64 t.2.1, .int .i64 t.2.2.1, .slice t.2.2.2.1 t.2.2.2.2.1 t.2.2.2.2.2] 28)).heap.size:=λ b h=>by rw[s8];rcases h with h|h<;>omega
     go_wp2_with (go_at_call 35;refine (V6 (Z:=λ b=>b=w.heap.size+1+1\/b=T0) hS b8 hZ8 _ t.1 _ _ _ _ _ _ rr8 ry8 (wr.heap.size+1) n8 (by omega) (by omega)).mono ?_);intro e w9 fk fn fa fm fc he WZ r9;subst he;have t9:=(WZ.block T0 (by rw[s8];omega) id).trans ((k8.block _ (by omega) id).trans t7);obtain⟨⟨x0,x1,x2⟩,y0',y1',y2'⟩:=qY t9;have b9:=b8.trans (qA WZ b8.size);go_wp2;obtain⟨z9,o9⟩:=Qr (.int .i64 fk) (.int .i64 fn) (.slice fa fm fc) t9;have s9:=WZ.size;have hj:=Ma (D.map (·.1)) (j+1) t.1 (by omega) (by rw[b0w,ht];rfl);refine⟨⟨j+1,fk,fn,fa,fm,fc,by simp,by omega,⟨WZ.os.trans (k7.os.trans oi.os),WZ.tape.trans (k7.tape.trans oi.tape),WZ.output.trans (k7.output.trans oi.output),by simp;omega,λ q hq dv=>?_⟩,z9,?_⟩,?_⟩
     .have B3:q<wr.heap.size:=by omega
      exact (o9 q (λ e=>dv (by rw[e]))).trans ((WZ.block q (by rw[s8];omega) id).trans ((k8.block q (by omega) id).trans ((k7.block q B3 id).trans (oi.block q hq dv))))
     .rw[hj];exact qS (Z:=λ b=>b=w.heap.size+1+1\/b=T0) hS b9 (by simp) (λ b h=>by rcases h with h|h<;>omega) (λ b _ hb=>o9 b λ e=>hb (.inr e)) (λ _ _ h=>h) r9
     .simp only[kN];omega
    .have a8N:1+j=n:=by omega
     have bjn:¬ (j:Int)<((n - 1:Nat):Int):=by omega
     have zr:=(oi.block (w.heap.size+1+1) (by omega) (λ e=>by have e':=Option.some.inj e;omega)).trans z6;obtain⟨⟨k0,k1',k2'⟩,g0,g1,g2⟩:=qY oP;obtain⟨⟨x0,x1,x2⟩,y0,y1,y2⟩:=qY zr;obtain⟨z9,o9⟩:=Qr (.int .i64 ak) (.int .i64 an) (.slice aa al ac) zr;go_wp2;refine FO (cs:=[.int .i64 ak, .int .i64 an, .slice aa al ac]) rfl z9 rfl rfl ?_;refine⟨[.int .i64 ak, .int .i64 an, .slice aa al ac],rfl,?_,br.os,br.tape,br.output,by simpa using br.size,λ b hb _=>(o9 b (by omega)).trans (br.block b hb)⟩;(try rw[Zg]);rw[show (D.map (·.1)).take (j+1)=D.map (·.1) from List.take_of_length_le (by rw[List.length_map];omega)] at Q1;exact qS (Z:=λ b=>b=w.heap.size+1+1\/b=T0) hS br (by simp) (λ b h=>by rcases h with h|h<;>omega) (λ b _ hb=>o9 b λ e=>hb (.inl e)) (λ b _ h=>h.elim) Q1
def rR:aX:=⟨BA,[.v (.st .expr), .v (.st .expr)],λ (x:J) (b:J)=>⟨(some (aA x=true/\aA b=true/\ar x+ar b<=7000),[⟨(.st .expr),Nv x b⟩])⟩⟩
def Gz:aX.Good rR:=by
 refine⟨aD J1 rfl (by decide),?_⟩;intro x y hp w S bV hS ha;match bV,ha with
 | [v1,v2],ha =>
  obtain⟨⟨cx,rfl,rx⟩,⟨cy,rfl,ry⟩,_⟩:=ha;refine (Rj w S hS x y hp.1 hp.2.1 hp.2.2 cx cy rx ry).mono ?_;rintro e w' ⟨cs,rfl,hr,hk⟩;exact⟨_,Sx w S (λ _=>False) w',_,rfl,rfl,hk,λ b hb=>⟨λ h=>h.elim id λ h=>by omega, .inl⟩,λ b h=>h.elim (λ h=>a9g (hS.1 b h) hk.size) λ h=>h.2.1,⟨cs,rfl,hr⟩⟩
end
end Go.Proofs.YtofnjfpeimhifaaGreatDoor

namespace Go.Proofs.YtofnjfpeimhifaaGreatDoor
noncomputable section
def a6q(a:Int)(x:J)(h:x.ah=2):true=emV a x:=by rw[<-X5 a x (by omega) (by omega) (by omega) (by omega),QC];simp[Ri,h]
def a6p(a:Int)(x:J)(h:x.ah=1):false=emV a x:=by rw[<-X5 a x (by omega) (by omega) (by omega) (by omega),QC];simp[Ri,h]
def a6o(a:Int)(x:J)(hg:aA x=true)(h2:¬ x.ah=2)(h8:¬ x.ah=8)(h3:¬ x.ah=3)(h5:¬ x.ah=5)(h6:¬ x.ah=6)(h7:¬ x.ah=7):false=emV a x:=by
 rcases ez x hg with h|h|h|h|h|h|h|h
 .exact a6p a x h
 .exact absurd h h2
 .exact absurd h h3
 .exact a3R a x h
 .exact absurd h h5
 .exact absurd h h6
 .exact absurd h h7
 .exact absurd h h8
noncomputable def No(x:J):J:=if ar x<=800 then eC x else J.mk (0:Int) (0:Int) []
noncomputable def cr(a c:Int)(x:J):J:=if (spV a c x).2=true then (spV a c x).1 else J.mk (0:Int) (0:Int) []
def a4q(x:J)(h:¬ 800<ar x):eC x=No x:=by rw[No,a9l (by omega)]
def Vl(x:J)(h:800<ar x):J.mk (0:Int) (0:Int) []=No x:=by rw[No,a9c (by omega)]
def yB{a c:Int}{x:J}(h:(spV a c x).2=true):cr a c x=(spV a c x).1:=by rw[cr,a9l h]
def a3Q{a c:Int}{x:J}(h:(spV a c x).2=false):cr a c x=J.mk (0:Int) (0:Int) []:=by rw[cr,a9c (by rw[h];decide)]
structure qq(a c:Int)(x raw:J):Prop where
 e1:No raw=cr a c x
 e2:decide (ar raw<=800)=(spV a c x).2
 g:aA raw=true
 n:ar raw<=3000
def qq.of{a c:Int}{x:J}(j:Es a c x):qq a c x (lY a c x):=by
 by_cases h:800<ar (lY a c x)
 .have e:=a1Z a c x j h;exact⟨by rw[a3Q (by rw[e]),Vl _ h],by rw[e];simp;omega,j.g,j.n⟩
 .have e:=a1Y a c x j h;exact⟨by rw[yB (by rw[e]),e,a4q _ h],by rw[e];simp;omega,j.g,j.n⟩
def X2(a c:Int)(x:J)(hg:aA x=true)(hn:ar x<=1000)(h:x.ah=6)(e:(spV a c (x.ae.getD 0 zE)).2=true)(e':(spV a c (x.ae.getD 1 zE)).2=true):qq a c x (J.mk 6 0 [cr a c (x.ae.getD 0 zE),cr a c (x.ae.getD 1 zE)]):=by
 rw[yB e,yB e',<-VK a c x h];exact qq.of (a1W a c x hg hn h e e')
def SN(a c:Int)(x:J)(hg:aA x=true)(hn:ar x<=1000)(h:x.ah=7)(e:(spV a c (x.ae.getD 0 zE)).2=true)(m:emV a (x.ae.getD 0 zE)=true)(e':(spV a c (x.ae.getD 1 zE)).2=true):qq a c x (J.mk 6 0 [J.mk 7 0 [cr a c (x.ae.getD 0 zE),(x.ae.getD 1 zE)],cr a c (x.ae.getD 1 zE)]):=by
 rw[yB e,yB e',<-Qh a c x h m];exact qq.of (T6 a c x hg hn h e (.inr ⟨m,e'⟩))
def SM(a c:Int)(x:J)(hg:aA x=true)(hn:ar x<=1000)(h:x.ah=7)(e:(spV a c (x.ae.getD 0 zE)).2=true)(m:emV a (x.ae.getD 0 zE)=false):qq a c x (J.mk 7 0 [cr a c (x.ae.getD 0 zE),(x.ae.getD 1 zE)]):=by
 rw[yB e,<-Qg a c x h m];exact qq.of (T6 a c x hg hn h e (.inl m))
def X3(a c:Int)(x:J)(hg:aA x=true)(hn:ar x<=1000)(h:x.ah=8)(e:(spV a c (x.ae.getD 0 zE)).2=true):qq a c x (J.mk 7 0 [cr a c (x.ae.getD 0 zE),x]):=by
 rw[yB e,<-VL a c x h];exact qq.of (a1X a c x hg hn h e)
structure pe(a c:Int)(x:J):Prop where
 e1:J.mk (0:Int) (0:Int) []=cr a c x
 e2:false=(spV a c x).2
def pe.of{a c:Int}{x y:J}(h:spV a c x=(y,false)):pe a c x:=⟨(a3Q (by rw[h])).symm,by rw[h]⟩
structure Cl(a c:Int)(x y:J):Prop where
 e1:y=cr a c x
 e2:true=(spV a c x).2
def Cl.of{a c:Int}{x y:J}(h:spV a c x=(y,true)):Cl a c x y:=⟨by rw[yB (by rw[h]),h],by rw[h]⟩
structure a5U(a c:Int)(x:J):Prop where
 g:(spV a c x).2=true->aA (cr a c x)=true
 n:(spV a c x).2=true->ar (cr a c x)<=800
def diT(a c:Int)(x:J)(h:aA x=true):a5U a c x:=by
 have q:=VT a c x h;exact⟨λ e=>by rw[yB e];exact q.g e,λ e=>by rw[yB e];exact q.n e⟩
def lf(n:Nat):aX:=⟨sf,[.v (.st .expr), .v (.int .i64)],λ (x:J) (atom:Int)=>⟨(some (bH x<n/\aA x=true/\0<=atom/\atom<=4096),[⟨.bool,emV atom x⟩])⟩⟩
def jk:aX:=⟨sf,[.v (.st .expr), .v (.int .i64)],λ (x:J) (atom:Int)=>⟨(some (aA x=true/\0<=atom/\atom<=4096),[⟨.bool,emV atom x⟩])⟩⟩
def M1(x:J)(atom:Int):Nat->aJ:=cj
abbrev wL(n:Nat)(x:J)(atom:Int):Prop:=(let v0:=x.ae.getD 1 zE;(x.ae.length<=140737488355328 ->
 (aB (1:Int) x.ae.length/\((bH v0<n/\aA v0=true/\0<=atom/\atom<=4096)/\(emV atom v0)=(emV atom x)))))
abbrev wM(n:Nat)(x:J)(atom:Int):Prop:=(let v0:=x.ae.getD 0 zE;let v1:=bH v0<n/\aA v0=true/\0<=atom/\atom<=4096;let v2:=emV atom v0;(((decide (x.ah=(6:Int)))=true ->
 (x.ae.length<=140737488355328 ->
 (aB (0:Int) x.ae.length/\(v1/\((v2=false ->
 (wL n x atom))/\(v2=(!false) ->
 true=(emV atom x)))))))/\((decide (x.ah=(6:Int)))=false ->
 (((decide (x.ah=(7:Int)))=true ->
 (x.ae.length<=140737488355328 ->
 (aB (0:Int) x.ae.length/\(v1/\((v2=true ->
 (wL n x atom))/\(v2=(!true) ->
 false=(emV atom x)))))))/\((decide (x.ah=(7:Int)))=false ->
 false=(emV atom x))))))
abbrev wN(n:Nat)(x:J)(atom:Int):Prop:=(let v0:=(im x=true/\0<=atom/\atom<=4096)/\(fZ atom x)=(emV atom x);let v1:=decide (x.ah=(3:Int));((v1=true ->
 ((v1=true ->
 v0)/\(v1=false ->
 (wM n x atom))))/\(v1=false ->
 (((decide (x.ah=(5:Int)))=true ->
 v0)/\((decide (x.ah=(5:Int)))=false ->
 (wM n x atom))))))
def K8(n:Nat)(hE:bo [lf n,xV]):aX.Good (lf (n+1)):=by
 refine⟨aD kz,?_⟩;intro (x:J) (atom:Int) (hp:bH x<n+1/\aA x=true/\0<=atom/\atom<=4096);refine aY [lf n,xV] [] [] [2] hE kz F3 (M1 x atom) (let v0:=decide (x.ah=(2:Int));((ai x.ah->((v0=true->((v0=true->true=(emV atom x))/\(v0=false->(wN n x atom))))/\(v0=false->(((decide (x.ah=(8:Int)))=true->true=(emV atom x))/\((decide (x.ah=(8:Int)))=false->(wN n x atom)))))))) ?_;obtain⟨hm,hg,h0,h1⟩:=hp;refine λ _=>⟨λ _=>⟨λ _=>?_,λ _=>⟨λ _=>⟨λ _=>⟨?_,?_⟩,λ _=>⟨λ _ _=>⟨?_,?_,λ _ _=>⟨?_,?_,?_⟩,λ _=>?_⟩,λ _=>⟨λ _ _=>⟨?_,?_,λ _ _=>⟨?_,?_,?_⟩,λ _=>?_⟩,λ _=>?_⟩⟩⟩,λ _=>⟨λ _=>⟨?_,?_⟩,λ _=>⟨λ _ _=>⟨?_,?_,λ _ _=>⟨?_,?_,?_⟩,λ _=>?_⟩,λ _=>⟨λ _ _=>⟨?_,?_,λ _ _=>⟨?_,?_,?_⟩,λ _=>?_⟩,λ _=>?_⟩⟩⟩⟩⟩,λ _=>⟨λ _=>?_,λ _=>⟨λ _=>⟨λ _=>⟨?_,?_⟩,λ _=>⟨λ _ _=>⟨?_,?_,λ _ _=>⟨?_,?_,?_⟩,λ _=>?_⟩,λ _=>⟨λ _ _=>⟨?_,?_,λ _ _=>⟨?_,?_,?_⟩,λ _=>?_⟩,λ _=>?_⟩⟩⟩,λ _=>⟨λ _=>⟨?_,?_⟩,λ _=>⟨λ _ _=>⟨?_,?_,λ _ _=>⟨?_,?_,?_⟩,λ _=>?_⟩,λ _=>⟨λ _ _=>⟨?_,?_,λ _ _=>⟨?_,?_,?_⟩,λ _=>?_⟩,λ _=>?_⟩⟩⟩⟩⟩⟩;all_goals try and_intros
 all_goals first|rfl|trivial|omega|((try simp only[a9d,a8Z,aB,b3q,b1s,b3e,Bool.false_and,Bool.or_true,b1u,J.eta] at *);first|rfl|omega|exact a6o atom x hg (by omega) (by omega) (by omega) (by omega) (by omega) (by omega)|exact a6q atom x (by omega)|exact a3U atom x (by omega)|exact X5 atom x (by omega) (by omega) (by omega) (by omega)|exact Yb x hg (by have:=ez x hg;omega)|(have b:=cH x hg (by omega);first|(have:=b.len;omega)|exact b.g0|exact b.g1|(have:=b.l0;omega)|(have:=b.l1;omega)|(rw[a3S atom x (by omega) b];simp_all;done)|(rw[a3T atom x (by omega) b];simp_all;done)))
def Rt :∀ n,bo [lf n]
 | 0=>⟨⟨aD kz,λ _ _ h=>absurd h.1 (a9K _)⟩,U⟩
 | n+1=>by
  have ih:=Rt  n;exact⟨K8 n ⟨ih.1,Kp,U⟩,U⟩
def mW :aX.Good jk :=
 ⟨aD kz,λ x atom hp=>(Rt  (bH x+1)).1.2 x atom (⟨a9o _,hp⟩)⟩
def jN(n:Nat):aX:=⟨pS,[.v (.st .expr)],λ (x:J)=>⟨(some (bH x<n/\ar x<=1048576),[⟨(.int .i64),(ar x:Int)⟩])⟩⟩
def yT:aX:=⟨pS,[.v (.st .expr)],λ (x:J)=>⟨(some (ar x<=1048576),[⟨(.int .i64),(ar x:Int)⟩])⟩⟩
def KL(x:J):Nat->aJ:=(eA 0 (.b (Nat) (λ k=>k<=x.ae.length) (λ k=>x.ae.length - k) [0,1,2,6] (λ k=>[(9, .aN ⟨(.int .i64),((k:Int):Int)⟩),(3, .aN ⟨(.int .i64),((1+cT ar (x.ae.take k):Int):Int)⟩)])) cj)
def Jm(n:Nat)(hE:bo [jN n]):aX.Good (jN (n+1)):=by
 refine⟨aD jG,?_⟩;intro (x:J) (hp:bH x<n+1/\ar x<=1048576);refine aY [jN n] [] [] [1] hE jG Ex (KL x) (let v0:=(x.ae.length:Int);((x.ae.length<=140737488355328->(ai v0->((∃ k1:Nat,(k1<=x.ae.length/\(((1:Int)=(1+cT ar (x.ae.take k1):Int)/\(x.ae=x.ae/\(v0=v0/\((0:Int)=(k1:Int)/\True))))/\True)))/\(∀ k1:Nat,let v1:=aU (x.ae.getD k1 zE);let v2:=(1+cT ar (x.ae.take k1):Int);let v3:=(ar v1:Int);(k1<=x.ae.length->(((decide ((k1:Int)<v0))=true->(aB (k1:Int) x.ae.length/\((bH v1<n/\ar v1<=1048576)/\(ai v3->(ai (v2+v3)/\(ai ((k1:Int)+(1:Int))/\(∃ k2:Nat,(k2<=x.ae.length/\(x.ae.length - k2<x.ae.length - k1/\(((v2+v3)=(1+cT ar (x.ae.take k2):Int)/\(x.ae=x.ae/\(v0=v0/\(((k1:Int)+(1:Int))=(k2:Int)/\True))))/\True))))))))))/\((decide ((k1:Int)<v0))=false->v2=(ar x:Int)))))))))) ?_;rw[gR x] at hp;have f0:=fK x;have f1:=Em ar x.ae;refine λ _ _=>⟨⟨0,?_,⟨?_,rfl,rfl,?_,U⟩,U⟩,λ k1 _=>have a8j:=nF ar zE x.ae k1;have a8k:=er ar x.ae k1;have a8l:=er ar x.ae (k1+1);have a8m:=vK ar x.ae k1;have a8n:=cB zE x.ae k1;⟨λ _=>⟨?_,?_,λ _=>⟨?_,?_,k1+1,?_,?_,⟨?_,rfl,rfl,?_,U⟩,U⟩⟩,λ _=>?_⟩⟩;all_goals try and_intros
 all_goals try (first|with_reducible rfl|with_reducible assumption)
 all_goals try simp only[J.eta,cC] at *
 all_goals try rw[gR x]
 all_goals first|rfl|trivial|omega|(simp only[a9d,a8Z,aB,ai,ca,fv,dh,bz] at *;omega)|(simp[aB,ai] at *;omega)|grind
def LA :∀ n,bo [jN n]
 | 0=>⟨⟨aD jG,λ _ h=>absurd h.1 (a9K _)⟩,U⟩
 | n+1=>by
  have ih:=LA  n;exact⟨Jm n ⟨ih.1,U⟩,U⟩
def EL :aX.Good yT :=
 ⟨aD jG,λ x hp=>(LA  (bH x+1)).1.2 x (⟨a9o _,hp⟩)⟩
def lg(n:Nat):aX:=⟨si,[.v (.st .expr), .v (.st .expr)],λ (x:J) (b:J)=>⟨(some (bH x<n/\aA x=true/\aA b=true/\ar x+ar b<=4000),[⟨(.st .expr),jT x b⟩])⟩⟩
def rQ:aX:=⟨si,[.v (.st .expr), .v (.st .expr)],λ (x:J) (b:J)=>⟨(some (aA x=true/\aA b=true/\ar x+ar b<=4000),[⟨(.st .expr),jT x b⟩])⟩⟩
def M5(x:J)(b:J):Nat->aJ:=cj
abbrev wO(n:Nat)(x:J)(b:J):Prop:=(let v0:=x.ae.getD 1 zE;let v1:=x.ae.getD 0 zE;(ai x.ah ->
 (((decide (x.ah=(2:Int)))=true ->
 (aU b)=(jT x b))/\((decide (x.ah=(2:Int)))=false ->
 (ai b.ah ->
 (((decide (b.ah=(2:Int)))=true ->
 (aU x)=(jT x b))/\((decide (b.ah=(2:Int)))=false ->
 (ai x.ah ->
 (((decide (x.ah=(7:Int)))=true ->
 (aB (0:Int) x.ae.length/\(aB (1:Int) x.ae.length/\((bH v0<n/\aA v0=true/\aA b=true/\ar v0+ar b<=4000)/\(x.ae.length<=140737488355328 ->
 (x.ae.length<=140737488355328 ->
 ((bH v1<n/\aA v1=true/\aA (jT v0 b)=true/\ar v1+ar (jT v0 b)<=4000)/\(aU (jT v1 (jT v0 b)))=(jT x b))))))))/\((decide (x.ah=(7:Int)))=false ->
 (aU (J.mk (7:Int) 0 ([x,b])))=(jT x b)))))))))))
def K9(n:Nat)(hE:bo [lg n,kW,kX]):aX.Good (lg (n+1)):=by
 refine⟨aD kA,?_⟩;intro (x:J) (b:J) (hp:bH x<n+1/\aA x=true/\aA b=true/\ar x+ar b<=4000);refine aY [lg n,kW,kX] [] [] [2,3,42] hE kA F6 (M5 x b) (let v0:=aU (J.mk (1:Int) (0:Int) []);((ai x.ah->(((decide (x.ah=(1:Int)))=false->(ai b.ah->(((decide (b.ah=(1:Int)))=true->v0=(jT x b))/\((decide (b.ah=(1:Int)))=false->(wO n x b)))))/\((decide (x.ah=(1:Int)))=(!false)->((true=true->v0=(jT x b))/\(true=false->(wO n x b)))))))) ?_;obtain⟨hm,hg,hb,hn⟩:=hp;refine λ _=>⟨λ _ _=>⟨λ _=>?_,λ _ _=>⟨λ _=>?_,λ _ _=>⟨λ _=>?_,λ _ _=>⟨λ _=>⟨?_,?_,?_,λ _ _=>⟨?_,?_⟩⟩,λ _=>?_⟩⟩⟩⟩,λ _=>⟨λ _=>?_,λ _ _=>⟨λ _=>?_,λ _ _=>⟨λ _=>?_,λ _ _=>⟨λ _=>⟨?_,?_,?_,λ _ _=>⟨?_,?_⟩⟩,λ _=>?_⟩⟩⟩⟩⟩;all_goals try and_intros
 all_goals try (first|with_reducible rfl|with_reducible assumption)
 all_goals try simp only[J.eta,cC] at *
 all_goals (try simp only[a9J,a9N,a9d,a8Z,aB,J.eta] at *);first|rfl|trivial|omega|exact lB _ (by omega)|exact (Ic x b (by omega)).symm|exact (Ie x b (by omega) (by omega)).symm|exact (Ig x b (by omega) (by omega) (by omega)).symm|exact (Ii x b (by omega) (by omega) (by omega) (by omega)).symm|with_reducible assumption|(have g:=cH x hg (by omega);first|(have:=g.len;omega)|exact g.g0|exact g.g1|(have:=g.l0;omega)|(have:=g.l1;omega)|exact (dtT _ b g.g1 hb).g|(have:=g.nd;omega)|(have:=g.nd;have:=(dtT _ b g.g1 hb).n;omega)|exact (Ih x b (by omega) (by omega) (by omega) (by omega) g).symm)|exact congrArg J.ah (Ic x b (by omega)).symm|exact congrArg J.ah (Ie x b (by omega) (by omega)).symm|exact congrArg J.ah (Ig x b (by omega) (by omega) (by omega)).symm|exact congrArg J.ah (Ii x b (by omega) (by omega) (by omega) (by omega)).symm|exact congrArg J.ah (Ih x b (by omega) (by omega) (by omega) (by omega) (cH x hg (by omega))).symm|exact congrArg J.bl (Ic x b (by omega)).symm|exact congrArg J.bl (Ie x b (by omega) (by omega)).symm|exact congrArg J.bl (Ig x b (by omega) (by omega) (by omega)).symm|exact congrArg J.bl (Ii x b (by omega) (by omega) (by omega) (by omega)).symm|exact congrArg J.bl (Ih x b (by omega) (by omega) (by omega) (by omega) (cH x hg (by omega))).symm|exact congrArg J.ae (Ic x b (by omega)).symm|exact congrArg J.ae (Ie x b (by omega) (by omega)).symm|exact congrArg J.ae (Ig x b (by omega) (by omega) (by omega)).symm|exact congrArg J.ae (Ii x b (by omega) (by omega) (by omega) (by omega)).symm|exact congrArg J.ae (Ih x b (by omega) (by omega) (by omega) (by omega) (cH x hg (by omega))).symm
def Rr :∀ n,bo [lg n]
 | 0=>⟨⟨aD kA,λ _ _ h=>absurd h.1 (a9K _)⟩,U⟩
 | n+1=>by
  have ih:=Rr  n;exact⟨K9 n ⟨ih.1,mI,mJ,U⟩,U⟩
def Gy :aX.Good rQ :=
 ⟨aD kA,λ x b hp=>(Rr  (bH x+1)).1.2 x b (⟨a9o _,hp⟩)⟩
def pM:aX:=⟨zd,[.v (.st .expr)],λ (x:J)=>⟨(some (aA x=true/\ar x<=4000),[⟨(.st .expr),DR x⟩])⟩⟩
def KP(x:J):Nat->aJ:=cj
def EN:aX.Good pM:=by
 refine⟨aD wm,?_⟩;intro (x:J) (hp:aA x=true/\ar x<=4000);refine aY [gZ,kX,kW] [] [] [1,13] ⟨od,mJ,mI,U⟩ wm EC (KP x) ((((bD x)=true->(aU (J.mk (2:Int) (0:Int) []))=(DR x))/\((bD x)=false->(ai x.ah->(((decide (x.ah=(8:Int)))=true->(aU x)=(DR x))/\((decide (x.ah=(8:Int)))=false->(aU (J.mk (8:Int) 0 ([x])))=(DR x))))))) ?_;obtain⟨hg,hn⟩:=hp;refine⟨λ _=>?_,λ _ _=>⟨λ _=>?_,λ _=>?_⟩⟩;all_goals try and_intros
 all_goals try (first|with_reducible rfl|with_reducible assumption)
 all_goals try simp only[J.eta,cC] at *
 all_goals (try simp only[decide_eq_true_eq,decide_eq_false_iff_not,aB,J.eta] at *);first|rfl|trivial|omega|exact lB _ (by omega)|(unfold DR;first|(rw[if_pos (by with_reducible assumption)];done)|(rw[if_neg (by simp_all),if_pos (by with_reducible assumption)];done)|(rw[if_neg (by simp_all),if_neg (by with_reducible assumption)];done))
def lR:aX.Good fh:=DI.plain
def qj(n:Nat):aX:=⟨AK,[.v (.st .expr)],λ (x:J)=>⟨(some (bH x<n/\aA x=true/\ar x<=3000),[⟨(.st .expr),eC x⟩])⟩⟩
def AD:aX:=⟨AK,[.v (.st .expr)],λ (x:J)=>⟨(some (aA x=true/\ar x<=3000),[⟨(.st .expr),eC x⟩])⟩⟩
def Tx(x:J):Nat->aJ:=cj
def Ra(n:Nat)(hE:bo [qj n,rR,rQ,pM,fh]):aX.Good (qj (n+1)):=by
 refine⟨aD qg,?_⟩;intro (x:J) (hp:bH x<n+1/\aA x=true/\ar x<=3000);refine aY [qj n,rR,rQ,pM,fh] [] [] [1] hE qg MA (Tx x) (let v0:=x.ae.getD 0 zE;let v1:=x.ae.getD 1 zE;let v2:=bH v0<n/\aA v0=true/\ar v0<=3000;let v3:=bH v1<n/\aA v1=true/\ar v1<=3000;let v4:=eC v0;((ai x.ah->(((decide (x.ah=(6:Int)))=true->(aB (0:Int) x.ae.length/\(v2/\(aB (1:Int) x.ae.length/\(x.ae.length<=140737488355328->(x.ae.length<=140737488355328->(v3/\((aA v4=true/\aA (eC v1)=true/\ar v4+ar (eC v1)<=7000)/\(aU (Nv v4 (eC v1)))=(eC x)))))))))/\((decide (x.ah=(6:Int)))=false->(((decide (x.ah=(7:Int)))=true->(aB (0:Int) x.ae.length/\(v2/\(aB (1:Int) x.ae.length/\(x.ae.length<=140737488355328->(x.ae.length<=140737488355328->(v3/\((aA v4=true/\aA (eC v1)=true/\ar v4+ar (eC v1)<=4000)/\(aU (jT v4 (eC v1)))=(eC x)))))))))/\((decide (x.ah=(7:Int)))=false->(((decide (x.ah=(8:Int)))=true->(x.ae.length<=140737488355328->(aB (0:Int) x.ae.length/\(v2/\((aA v4=true/\ar v4<=4000)/\(aU (DR v4))=(eC x))))))/\((decide (x.ah=(8:Int)))=false->(cv x<=1048576/\(aU x)=(eC x))))))))))) ?_;obtain⟨hm,hg,hn⟩:=hp;refine λ _=>⟨λ _=>⟨?_,?_,?_,λ _ _=>⟨?_,?_,?_⟩⟩,λ _=>⟨λ _=>⟨?_,?_,?_,λ _ _=>⟨?_,?_,?_⟩⟩,λ _=>⟨λ _ _=>⟨?_,?_,?_,?_⟩,λ _=>⟨?_,?_⟩⟩⟩⟩;all_goals try and_intros
 all_goals try (first|with_reducible rfl|with_reducible assumption)
 all_goals try simp only[J.eta,cC] at *
 all_goals (try simp only[a9J,a9N,a9d,a8Z,aB,J.eta] at *);first|rfl|trivial|omega|exact lB _ (by omega)|(have g:=j9 x hg (.inr (by omega));first|(have:=g.len;omega)|exact g.g0|(have:=g.l0;omega)|(have:=g.nd;omega)|exact (Ck _ g.g0).g|(have:=(Ck _ g.g0).n;have:=g.nd;omega)|(rw[a2r x (by omega) g]<;>rfl))|(have g:=cH x hg (by omega);first|(have:=g.len;omega)|exact g.g0|exact g.g1|(have:=g.l0;omega)|(have:=g.l1;omega)|(have:=g.nd;omega)|exact (Ck _ g.g0).g|exact (Ck _ g.g1).g|(have:=(Ck _ g.g0).n;have:=(Ck _ g.g1).n;have:=g.nd;omega)|(rw[a2p x (by omega) g]<;>rfl)|(rw[a2q x (by omega) g]<;>rfl))|(rw[a2s x (by omega) (by omega) (by omega)]<;>rfl)
def Rv :∀ n,bo [qj n]
 | 0=>⟨⟨aD qg,λ _ h=>absurd h.1 (a9K _)⟩,U⟩
 | n+1=>by
  have ih:=Rv  n;exact⟨Ra n ⟨ih.1,Gz,Gy,EN,lR,U⟩,U⟩
def Bf :aX.Good AD :=
 ⟨aD qg,λ x hp=>(Rv  (bH x+1)).1.2 x (⟨a9o _,hp⟩)⟩
def rP:aX:=⟨By,[.v (.st .expr)],λ (x:J)=>⟨(some (aA x=true/\ar x<=3000),[⟨(.st .expr),No x⟩,⟨.bool,decide (ar x<=800)⟩])⟩⟩
def M3(x:J):Nat->aJ:=cj
def Gw:aX.Good rP:=by
 refine⟨aD yl,?_⟩;intro (x:J) (hp:aA x=true/\ar x<=3000);refine aY [yT,AD] [] [] [1] ⟨EL,Bf,U⟩ yl F4 (M3 x) (let v0:=decide ((800:Int)<((ar x:Int)));((ar x<=1048576/\(ai ((ar x:Int))->((v0=true->(zE=(No x)/\false=(decide (ar x<=800))))/\(v0=false->((aA x=true/\ar x<=3000)/\((aU (eC x))=(No x)/\true=(decide (ar x<=800)))))))))) ?_;obtain⟨hg,hn⟩:=hp;refine⟨?_,λ _=>⟨λ _=>⟨?_,?_⟩,λ _=>⟨?_,?_,?_⟩⟩⟩;all_goals try and_intros
 all_goals try (first|with_reducible rfl|with_reducible assumption)
 all_goals try simp only[J.eta,cC] at *
 all_goals (try simp only[a9d,a8Z,aB,J.eta] at *);first|rfl|trivial|omega|exact Vl x (by omega)|exact a4q x (by omega)|(simp;omega)|exact congrArg J.ah (Vl x (by omega))|exact congrArg J.bl (Vl x (by omega))|exact congrArg J.ae (Vl x (by omega))
def kZ(n:Nat):aX:=⟨sd,[.v (.st .expr), .v (.int .i64), .v (.int .i64)],λ (x:J) (atom:Int) (act:Int)=>⟨(some (bH x<n/\aA x=true/\ar x<=1000/\0<=atom/\atom<=4096),[⟨(.st .expr),cr atom act x⟩,⟨.bool,(spV atom act x).2⟩])⟩⟩
def rO:aX:=⟨sd,[.v (.st .expr), .v (.int .i64), .v (.int .i64)],λ (x:J) (atom:Int) (act:Int)=>⟨(some (aA x=true/\ar x<=1000/\0<=atom/\atom<=4096),[⟨(.st .expr),cr atom act x⟩,⟨.bool,(spV atom act x).2⟩])⟩⟩
def M0(x:J)(atom:Int)(act:Int):Nat->aJ:=cj
abbrev wI(x:J)(atom:Int)(act:Int):Prop:=((!((spV atom act (x.ae.getD 1 zE)).2))=true ->
 (zE=(cr atom act x)/\false=((spV atom act x).2)))
abbrev wJ(x:J)(atom:Int)(act:Int):Prop:=(let v0:=J.mk (6:Int) 0 ([(aU (cr atom act (x.ae.getD 0 zE))),(aU (cr atom act (x.ae.getD 1 zE)))]);((aA v0=true/\ar v0<=3000)/\((aU (No v0))=(cr atom act x)/\(decide (ar v0<=800))=((spV atom act x).2))))
abbrev wK(x:J)(atom:Int)(act:Int):Prop:=((!((spV atom act (x.ae.getD 0 zE)).2))=true ->
 (zE=(cr atom act x)/\false=((spV atom act x).2)))
def K7(n:Nat)(hE:bo [kZ n,kW,kX,jk,rP]):aX.Good (kZ (n+1)):=by
 refine⟨aD ky,?_⟩;intro (x:J) (atom:Int) (act:Int) (hp:bH x<n+1/\aA x=true/\ar x<=1000/\0<=atom/\atom<=4096);refine aY [kZ n,kW,kX,jk,rP] [] [] [3,59,84,112,134] hE ky F2 (M0 x atom act) (let v1:=x.ae.getD 0 zE;let v3:=bH v1<n/\aA v1=true/\ar v1<=1000/\0<=atom/\atom<=4096;let v4:=J.mk (7:Int) 0 ([(aU (cr atom act v1)),x]);let v5:=x.ae.getD 1 zE;let v0:=aU (J.mk (7:Int) 0 ([(aU (cr atom act v1)),v5]));let v2:=J.mk (6:Int) 0 ([v0,(aU (cr atom act v5))]);let v6:=(spV atom act x).2;let v7:=bH v5<n/\aA v5=true/\ar v5<=1000/\0<=atom/\atom<=4096;let v8:=cr atom act x;let v9 := !((spV atom act v1).2);let vb:=(0:Int);let va:=(aU (J.mk (1:Int) vb []))=v8/\true=v6;((ai x.ah->(((decide (x.ah=(4:Int)))=true->(ai x.bl->(((decide (x.bl=act))=true->((aU (J.mk (2:Int) vb []))=v8/\true=v6))/\((decide (x.bl=act))=false->va))))/\((decide (x.ah=(4:Int)))=false->(((decide (x.ah=(6:Int)))=true->(x.ae.length<=140737488355328->(aB vb x.ae.length/\(v3/\(x.ae.length<=140737488355328->(aB (1:Int) x.ae.length/\(v7/\((v9=false->((wI x atom act)/\((!((spV atom act v5).2))=false->(wJ x atom act))))/\(v9=(!false)->((true=true->(zE=v8/\false=v6))/\(true=false->(wJ x atom act))))))))))))/\((decide (x.ah=(6:Int)))=false->(((decide (x.ah=(7:Int)))=true->(x.ae.length<=140737488355328->(aB vb x.ae.length/\(v3/\((wK x atom act)/\(v9=false->(aB (1:Int) x.ae.length/\(x.ae.length<=140737488355328->(x.ae.length<=140737488355328->(aB vb x.ae.length/\((aA v1=true/\0<=atom/\atom<=4096)/\(((!(emV atom v1))=true->((aA v0=true/\ar v0<=3000)/\((aU (No v0))=v8/\(decide (ar v0<=800))=v6)))/\((!(emV atom v1))=false->(x.ae.length<=140737488355328->(aB (1:Int) x.ae.length/\(v7/\((wI x atom act)/\((!((spV atom act v5).2))=false->((aA v2=true/\ar v2<=3000)/\((aU (No v2))=v8/\(decide (ar v2<=800))=v6))))))))))))))))))))/\((decide (x.ah=(7:Int)))=false->(((decide (x.ah=(8:Int)))=true->(x.ae.length<=140737488355328->(aB vb x.ae.length/\(v3/\((wK x atom act)/\(v9=false->((aA v4=true/\ar v4<=3000)/\((aU (No v4))=v8/\(decide (ar v4<=800))=v6))))))))/\((decide (x.ah=(8:Int)))=false->va))))))))))) ?_;obtain⟨hm,hg,hn,h0,h1⟩:=hp;refine λ _=>⟨λ _ _=>⟨λ _=>⟨?_,?_⟩,λ _=>⟨?_,?_⟩⟩,λ _=>⟨λ _ _=>⟨?_,?_,λ _=>⟨?_,?_,λ _=>⟨λ _=>⟨?_,?_⟩,λ _=>⟨?_,?_,?_⟩⟩,λ _=>⟨λ _=>⟨?_,?_⟩,λ _=>⟨?_,?_,?_⟩⟩⟩⟩,λ _=>⟨λ _ _=>⟨?_,?_,λ _=>⟨?_,?_⟩,λ _=>⟨?_,λ _ _=>⟨?_,?_,λ _=>⟨?_,?_,?_⟩,λ _ _=>⟨?_,?_,λ _=>⟨?_,?_⟩,λ _=>⟨?_,?_,?_⟩⟩⟩⟩⟩,λ _=>⟨λ _ _=>⟨?_,?_,λ _=>⟨?_,?_⟩,λ _=>⟨?_,?_,?_⟩⟩,λ _=>⟨?_,?_⟩⟩⟩⟩⟩;all_goals try and_intros
 all_goals try (first|with_reducible rfl|with_reducible assumption)
 all_goals try simp only[J.eta,cC] at *
 all_goals (try simp only[a9J,a9N,a9t,a9E,a9d,a8Z,aB,J.eta] at *);first|rfl|trivial|omega|with_reducible assumption|exact qq.e1 (X2 atom act x hg hn (by omega) (by with_reducible assumption) (by with_reducible assumption))|exact qq.e2 (X2 atom act x hg hn (by omega) (by with_reducible assumption) (by with_reducible assumption))|exact qq.g (X2 atom act x hg hn (by omega) (by with_reducible assumption) (by with_reducible assumption))|exact qq.n (X2 atom act x hg hn (by omega) (by with_reducible assumption) (by with_reducible assumption))|exact qq.e1 (SN atom act x hg hn (by omega) (by with_reducible assumption) (by with_reducible assumption) (by with_reducible assumption))|exact qq.e2 (SN atom act x hg hn (by omega) (by with_reducible assumption) (by with_reducible assumption) (by with_reducible assumption))|exact qq.g (SN atom act x hg hn (by omega) (by with_reducible assumption) (by with_reducible assumption) (by with_reducible assumption))|exact qq.n (SN atom act x hg hn (by omega) (by with_reducible assumption) (by with_reducible assumption) (by with_reducible assumption))|exact qq.e1 (SM atom act x hg hn (by omega) (by with_reducible assumption) (by with_reducible assumption))|exact qq.e2 (SM atom act x hg hn (by omega) (by with_reducible assumption) (by with_reducible assumption))|exact qq.g (SM atom act x hg hn (by omega) (by with_reducible assumption) (by with_reducible assumption))|exact qq.n (SM atom act x hg hn (by omega) (by with_reducible assumption) (by with_reducible assumption))|exact qq.e1 (X3 atom act x hg hn (by omega) (by with_reducible assumption))|exact qq.e2 (X3 atom act x hg hn (by omega) (by with_reducible assumption))|exact qq.g (X3 atom act x hg hn (by omega) (by with_reducible assumption))|exact qq.n (X3 atom act x hg hn (by omega) (by with_reducible assumption))|exact (Cl.of (Hs atom act x (by omega) (by omega))).e1|exact (Cl.of (Hs atom act x (by omega) (by omega))).e2|exact congrArg J.ah (Cl.of (Hs atom act x (by omega) (by omega))).e1|exact congrArg J.bl (Cl.of (Hs atom act x (by omega) (by omega))).e1|exact congrArg J.ae (Cl.of (Hs atom act x (by omega) (by omega))).e1|exact (Cl.of (Hr atom act x (by omega) (by omega))).e1|exact (Cl.of (Hr atom act x (by omega) (by omega))).e2|exact congrArg J.ah (Cl.of (Hr atom act x (by omega) (by omega))).e1|exact congrArg J.bl (Cl.of (Hr atom act x (by omega) (by omega))).e1|exact congrArg J.ae (Cl.of (Hr atom act x (by omega) (by omega))).e1|exact (Cl.of (Qp atom act x (by omega) (by omega) (by omega) (by omega))).e1|exact (Cl.of (Qp atom act x (by omega) (by omega) (by omega) (by omega))).e2|exact congrArg J.ah (Cl.of (Qp atom act x (by omega) (by omega) (by omega) (by omega))).e1|exact congrArg J.bl (Cl.of (Qp atom act x (by omega) (by omega) (by omega) (by omega))).e1|exact congrArg J.ae (Cl.of (Qp atom act x (by omega) (by omega) (by omega) (by omega))).e1|(have g:=cH x hg (by omega);first|(have:=g.len;omega)|exact g.g0|exact g.g1|(have:=g.l0;omega)|(have:=g.l1;omega)|(have:=g.nd;omega)|exact (pe.of (oJ atom act x (by omega) g (.inl (by with_reducible assumption)))).e1|exact (pe.of (oJ atom act x (by omega) g (.inl (by with_reducible assumption)))).e2|exact congrArg J.ah (pe.of (oJ atom act x (by omega) g (.inl (by with_reducible assumption)))).e1|exact congrArg J.bl (pe.of (oJ atom act x (by omega) g (.inl (by with_reducible assumption)))).e1|exact congrArg J.ae (pe.of (oJ atom act x (by omega) g (.inl (by with_reducible assumption)))).e1|exact (pe.of (oJ atom act x (by omega) g (.inr (by with_reducible assumption)))).e1|exact (pe.of (oJ atom act x (by omega) g (.inr (by with_reducible assumption)))).e2|exact congrArg J.ah (pe.of (oJ atom act x (by omega) g (.inr (by with_reducible assumption)))).e1|exact congrArg J.bl (pe.of (oJ atom act x (by omega) g (.inr (by with_reducible assumption)))).e1|exact congrArg J.ae (pe.of (oJ atom act x (by omega) g (.inr (by with_reducible assumption)))).e1|exact (pe.of (Ht atom act x (by omega) g (by with_reducible assumption))).e1|exact (pe.of (Ht atom act x (by omega) g (by with_reducible assumption))).e2|exact congrArg J.ah (pe.of (Ht atom act x (by omega) g (by with_reducible assumption))).e1|exact congrArg J.bl (pe.of (Ht atom act x (by omega) g (by with_reducible assumption))).e1|exact congrArg J.ae (pe.of (Ht atom act x (by omega) g (by with_reducible assumption))).e1|exact (pe.of (Hu atom act x (by omega) g (by with_reducible assumption) (by with_reducible assumption) (by with_reducible assumption))).e1|exact (pe.of (Hu atom act x (by omega) g (by with_reducible assumption) (by with_reducible assumption) (by with_reducible assumption))).e2|exact congrArg J.ah (pe.of (Hu atom act x (by omega) g (by with_reducible assumption) (by with_reducible assumption) (by with_reducible assumption))).e1|exact congrArg J.bl (pe.of (Hu atom act x (by omega) g (by with_reducible assumption) (by with_reducible assumption) (by with_reducible assumption))).e1|exact congrArg J.ae (pe.of (Hu atom act x (by omega) g (by with_reducible assumption) (by with_reducible assumption) (by with_reducible assumption))).e1)|(have g:=j9 x hg (by omega);first|(have:=g.len;omega)|exact g.g0|(have:=g.l0;omega)|(have:=g.nd;omega)|exact (pe.of (Hv atom act x (by omega) g (by with_reducible assumption))).e1|exact (pe.of (Hv atom act x (by omega) g (by with_reducible assumption))).e2|exact congrArg J.ah (pe.of (Hv atom act x (by omega) g (by with_reducible assumption))).e1|exact congrArg J.bl (pe.of (Hv atom act x (by omega) g (by with_reducible assumption))).e1|exact congrArg J.ae (pe.of (Hv atom act x (by omega) g (by with_reducible assumption))).e1)
def Rq :∀ n,bo [kZ n]
 | 0=>⟨⟨aD ky,λ _ _ _ h=>absurd h.1 (a9K _)⟩,U⟩
 | n+1=>by
  have ih:=Rq  n;exact⟨K7 n ⟨ih.1,mI,mJ,mW,Gw,U⟩,U⟩
def uC :aX.Good rO :=
 ⟨aD ky,λ x atom act hp=>(Rq  (bH x+1)).1.2 x atom act (⟨a9o _,hp⟩)⟩
noncomputable def yC(xs:List J)(d:J):Nat:=xs.findIdx λ y=>gu y d
noncomputable def fO(xs:List J)(d:J):Int:=if yC xs d<xs.length then (yC xs d:Int) else -1
def a2O(xs:List J)(d:J):yC xs d<=xs.length:=b2O
def a6w(xs:List J)(d:J)(k:Nat)(hk:k<xs.length)(hle:k<=yC xs d)(h:gu (xs.getD k zE) d=true):(k:Int)=fO xs d:=by
 have e:yC xs d=k:=by
  apply Nat.le_antisymm _ hle;rcases a9O k (yC xs d) with q|q
  .have:=List.not_of_lt_findIdx q;rw[a9h,a9j hk] at h;simp only[b1b] at h;rw[h] at this;cases this
  .exact q
 rw[fO,a9l (by omega),e]
def a6v(xs:List J)(d:J)(k:Nat)(hk:k<xs.length)(hle:k<=yC xs d)(h:gu (xs.getD k zE) d=false):k+1<=yC xs d:=by
 rcases a9O k (yC xs d) with q|q
 .exact q
 .have e:yC xs d=k:=by omega
  have bj:yC xs d<xs.length:=by omega
  have:=b3a (w:=bj);rw[a9h,a9j hk] at h;simp only[b1b] at h;have e2:xs[yC xs d]=xs[k]:=by simp[e]
  have h3:gu xs[yC xs d] d=true:=this;rw[e2,h] at h3;cases h3
def a2P(xs:List J)(d:J)(h:xs.length<=yC xs d) : -1=fO xs d:=by rw[fO,a9c (by omega)]
def a2N(xs:List J)(d:J) : -1<=fO xs d/\fO xs d<xs.length:=by
 unfold fO;split<;>omega
structure jS where
 ls:List J
 rw:List Int
noncomputable def qd(b:Bool)(a c:Int)(x:J)(s:jS):Option jS :=
 if (spV a c x).2=true then
  (if (cr a c x).ah=1 then some ⟨s.ls,s.rw++[-1]⟩ else if 0<=fO s.ls (cr a c x) then some ⟨s.ls,s.rw++[fO s.ls (cr a c x)]⟩
   else if b=true/\s.ls.length=60 then none else some ⟨s.ls++[cr a c x],s.rw++[(s.ls.length:Int)]⟩)
 else none
noncomputable def pd(b:Bool)(a:Int)(x:J):Nat->Int->jS->Option jS
 | 0,_,s=>some s
 | n+1,c,s=>(qd b a c x s).bind λ s'=>pd b a x n (c+1) s'
noncomputable def jc(b:Bool)(n:Nat)(x:J):Nat->Int->List J->List (List Int)->Option (List J×List (List Int))
 | 0,_,ls,rows=>some (ls,rows)
 | m+1,a,ls,rows=>(pd b a x n 0 ⟨ls,[]⟩).bind λ s=>jc b n x m (a+1) s.ls (rows++[s.rw])
noncomputable def BJ(b:Bool)(m n:Nat):Nat->Nat->List J->List (List (List Int))->Option (List J×List (List (List Int)))
 | 0,_,_,_=>none
 | f+1,i,ls,nx=>if i<ls.length then ((jc b n (ls.getD i zE) m 0 ls []).bind λ q=>if q.1.length<=60 then BJ b m n f (i+1) q.1 (nx++[q.2]) else none) else some (ls,nx)
noncomputable def ku(b:Bool)(gg:aF)(e:J):Option (List J×List (List (List Int))):=BJ b (aV gg).toNat gg.au.toNat 61 0 [eC e] []
def a2g{b:Bool}{a c:Int}{x:J}{s s':jS}(h:qd b a c x s=some s'):s.ls.length<=s'.ls.length:=by
 unfold qd at h;split at h
 .split at h
  .cases h;exact a9n _
  .split at h
   .cases h;exact a9n _
   .split at h
    .cases h
    .cases h;simp
 .cases h
def Lk{b:Bool}{a:Int}{x:J}:∀ (n:Nat) {c:Int} {s s':jS},pd b a x n c s=some s'->s.ls.length<=s'.ls.length
 | 0,_,_,_,h=>by cases h;exact a9n _
 | n+1,c,s,s',h=>by
  unfold pd at h;cases hs:qd b a c x s with
  | none=>rw[hs] at h;cases h
  | some t=>rw[hs] at h;exact b0b (a2g hs) (Lk n h)
def Qd{b:Bool}{n:Nat}{x:J}:∀ (m:Nat) {a:Int} {ls:List J} {rows:List (List Int)} {q:List J×List (List Int)},jc b n x m a ls rows=some q->ls.length<=q.1.length
 | 0,_,_,_,_,h=>by cases h;exact a9n _
 | m+1,a,ls,rows,q,h=>by
  unfold jc at h;cases hs:pd b a x n 0 ⟨ls,[]⟩ with
  | none=>rw[hs] at h;cases h
  | some t=>rw[hs] at h;exact b0b (Lk n hs) (Qd m h)
def oa(k:Nat){α:Type}(o:α):Option α:=if k<=60 then some o else none
def NL(a:Int)(x:J):∀ (n:Nat) (c:Int) (s:jS),s.ls.length<=60->pd true a x n c s=(pd false a x n c s).bind λ s'=>oa s'.ls.length s'
 | 0,c,s,h=>by simp[pd,oa,h]
 | n+1,c,s,h=>by
  unfold pd;by_cases h1:(spV a c x).2=true
  .by_cases h2:(cr a c x).ah=1
   .have e:∀ b,qd b a c x s=some ⟨s.ls,s.rw++[-1]⟩:=λ b=>by rw[qd,a9l h1,a9l h2]
    rw[e,e];exact NL a x n (c+1) _ h
   .by_cases h3:0<=fO s.ls (cr a c x)
    .have e:∀ b,qd b a c x s=some ⟨s.ls,s.rw++[fO s.ls (cr a c x)]⟩:=λ b=>by rw[qd,a9l h1,a9c h2,a9l h3]
     rw[e,e];exact NL a x n (c+1) _ h
    .have ef:qd false a c x s=some ⟨s.ls++[cr a c x],s.rw++[(s.ls.length:Int)]⟩:=by rw[qd,a9l h1,a9c h2,a9c h3,a9c (by simp)]
     rw[ef];by_cases h4:s.ls.length=60
     .have et:qd true a c x s=none:=by rw[qd,a9l h1,a9c h2,a9c h3,a9l ⟨rfl,h4⟩]
      rw[et];simp only[b2I,b0L];cases hq:pd false a x n (c+1) ⟨s.ls++[cr a c x],s.rw++[(s.ls.length:Int)]⟩ with
      | none=>rfl
      | some q =>
       have:=Lk n hq;simp only[a9i,a9f,a9v] at this;simp only[b0L,oa];rw[a9c (by omega)]
     .have et:qd true a c x s=some ⟨s.ls++[cr a c x],s.rw++[(s.ls.length:Int)]⟩:=by rw[qd,a9l h1,a9c h2,a9c h3,a9c (by simp[h4])]
      rw[et];exact NL a x n (c+1) _ (by simp;omega)
  .have e:∀ b,qd b a c x s=none:=λ b=>by rw[qd,a9c h1]
   rw[e,e];rfl
def VH(n:Nat)(x:J):∀ (m:Nat) (a:Int) (ls:List J) (rows:List (List Int)),ls.length<=60->jc true n x m a ls rows=(jc false n x m a ls rows).bind λ q=>oa q.1.length q
 | 0,a,ls,rows,h=>by simp[jc,oa,h]
 | m+1,a,ls,rows,h=>by
  unfold jc;rw[NL a x n 0 ⟨ls,[]⟩ h];cases hq:pd false a x n 0 ⟨ls,[]⟩ with
  | none=>rfl
  | some s =>
   simp only[b0L];by_cases hs:s.ls.length<=60
   .rw[oa,a9l hs];exact VH n x m (a+1) s.ls _ hs
   .rw[oa,a9c hs];simp only[b2I];cases hr:jc false n x m (a+1) s.ls (rows++[s.rw]) with
    | none=>rfl
    | some q =>
     have:=Qd m hr;simp only[b0L,oa];rw[a9c (by omega)]
def Yx(m n:Nat):∀ (f i:Nat) (ls:List J) (nx:List (List (List Int))),ls.length<=60->BJ true m n f i ls nx=BJ false m n f i ls nx
 | 0,_,_,_,_=>rfl
 | f+1,i,ls,nx,h=>by
  unfold BJ;by_cases hi:i<ls.length
  .rw[a9l hi,a9l hi,VH n _ m 0 ls [] h];cases hr:jc false n (ls.getD i zE) m 0 ls [] with
   | none=>rfl
   | some q =>
    simp only[b0L,oa];by_cases hq:q.1.length<=60
    .rw[a9l hq];simp only[b0L];rw[a9l hq,a9l hq];exact Yx m n f (i+1) q.1 _ hq
    .rw[a9c hq];simp only[b2I];rw[a9c hq]
  .rw[a9c hi,a9c hi]
def a2h(gg:aF)(e:J):ku true gg e=ku false gg e:=Yx _ _ _ _ _ _ (by simp)
noncomputable def sasL(gg:aF)(e:J):List J:=((ku false gg e).getD ([],[])).1
noncomputable def sasN(gg:aF)(e:J):List (List (List Int)):=((ku false gg e).getD ([],[])).2
noncomputable def sasC(gg:aF)(e:J):Int:=if (ku false gg e).isSome=true then 0 else 3
def pH(ls:List J):Prop:=∀ y∈ls,aA y=true/\ar y<=1000
def pH.get{ls:List J}(h:pH ls){i:Nat}(hi:i<ls.length):aA (ls.getD i zE)=true/\ar (ls.getD i zE)<=1000:=h _ (by
 rw[a9h,a9j hi];exact b0G _)
def pH.snoc{ls:List J}(h:pH ls){d:J}(hd:aA d=true/\ar d<=1000):pH (ls++[d]):=λ y hy=>by
 rcases a8X.1 hy with q|q
 .exact h y q
 .rw[a9w] at q;rw[q];exact hd
def Rg(L:Nat)(r:List Int):Prop:=∀ v∈r,-1<=v/\v<(L:Int)
def FK(n L:Nat)(rows:List (List Int)):Prop:=∀ r∈rows,r.length=n/\Rg L r
def Q9(m n L:Nat)(nx:List (List (List Int))):Prop:=∀ rows∈nx,rows.length=m/\FK n L rows
def Rg.up{L L':Nat}{r:List Int}(h:Rg L r)(hl:L<=L'):Rg L' r:=λ v hv=>⟨(h v hv).1,by have:=(h v hv).2;omega⟩
def FK.up{n L L':Nat}{r:List (List Int)}(h:FK n L r)(hl:L<=L'):FK n L' r:=λ v hv=>⟨(h v hv).1,(h v hv).2.up hl⟩
def Q9.up{m n L L':Nat}{r:List (List (List Int))}(h:Q9 m n L r)(hl:L<=L'):Q9 m n L' r:=λ v hv=>⟨(h v hv).1,(h v hv).2.up hl⟩
def Rg.snoc{L:Nat}{r:List Int}(h:Rg L r){v:Int}(hv : -1<=v/\v<(L:Int)):Rg L (r++[v]):=λ u hu=>by
 rcases a8X.1 hu with q|q
 .exact h u q
 .rw[a9w] at q;rw[q];exact hv
def FK.snoc{n L:Nat}{r:List (List Int)}(h:FK n L r){v:List Int}(h1:v.length=n)(hv:Rg L v):FK n L (r++[v]):=λ u hu=>by
 rcases a8X.1 hu with q|q
 .exact h u q
 .rw[a9w] at q;rw[q];exact⟨h1,hv⟩
def Q9.snoc{m n L:Nat}{r:List (List (List Int))}(h:Q9 m n L r){v:List (List Int)}(h1:v.length=m)(hv:FK n L v):Q9 m n L (r++[v]):=λ u hu=>by
 rcases a8X.1 hu with q|q
 .exact h u q
 .rw[a9w] at q;rw[q];exact⟨h1,hv⟩
structure BO(b:Bool)(gg:aF)(e:J)(i:Nat)(ls:List J)(nx:List (List (List Int))):Prop where
 eq:BJ b (aV gg).toNat gg.au.toNat (61 - i) i ls nx=ku b gg e
 le:i<=ls.length
 oa:ls.length<=60
 vU:nx.length=i
 qD:pH ls
 pos:0<ls.length
 ok:Q9 (aV gg).toNat gg.au.toNat ls.length nx
noncomputable def kO(b:Bool)(gg:aF)(i:Nat)(nx:List (List (List Int)))(q:List J×List (List Int)):Option (List J×List (List (List Int))) :=
 if q.1.length<=60 then BJ b (aV gg).toNat gg.au.toNat (61 - (i+1)) (i+1) q.1 (nx++[q.2]) else none
structure BM(b:Bool)(gg:aF)(e:J)(i:Nat)(nx:List (List (List Int)))(x:J)(a:Nat)(ls:List J)(rows:List (List Int)):Prop where
 eq:(jc b gg.au.toNat x ((aV gg).toNat - a) (a:Int) ls rows).bind (kO b gg i nx)=ku b gg e
 ha:a<=(aV gg).toNat
 GW:rows.length=a
 hi:i<ls.length
 i6:i<60
 vU:nx.length=i
 hx:ls.getD i zE=x
 qD:pH ls
 oa:ls.length<=60+4 * a
 b6:b=true->ls.length<=60
 ok:Q9 (aV gg).toNat gg.au.toNat ls.length nx
 rk:FK gg.au.toNat ls.length rows
structure BI(b:Bool)(gg:aF)(e:J)(i:Nat)(nx:List (List (List Int)))(x:J)(a:Nat)(rows:List (List Int))(c:Nat)(s:jS):Prop where
 eq:((pd b (a:Int) x (gg.au.toNat - c) (c:Int) s).bind λ s'=>jc b gg.au.toNat x ((aV gg).toNat - (a+1)) ((a:Int)+1) s'.ls (rows++[s'.rw])).bind (kO b gg i nx)=ku b gg e
 ha:a<(aV gg).toNat
 hc:c<=gg.au.toNat
 rw:s.rw.length=c
 GW:rows.length=a
 hi:i<s.ls.length
 i6:i<60
 vU:nx.length=i
 hx:s.ls.getD i zE=x
 qD:pH s.ls
 oa:s.ls.length<=60+4 * a+c
 b6:b=true->s.ls.length<=60
 ok:Q9 (aV gg).toNat gg.au.toNat s.ls.length nx
 rk:FK gg.au.toNat s.ls.length rows
 wk:Rg s.ls.length s.rw
def BO.first(b:Bool)(gg:aF)(e:J)(hg:aA e=true)(hn:ar e<=1000):BO b gg e 0 [eC e] [] :=
 ⟨rfl,a9F _,by simp,rfl,λ y hy=>by
  rw[a9w] at hy;have:=Ck e hg;rw[hy];exact⟨this.g,by have:=this.n;omega⟩,by simp,λ _ h=>by cases h⟩
def BO.go{b:Bool}{gg:aF}{e:J}{i:Nat}{ls:List J}{nx:List (List (List Int))}(h:BO b gg e i ls nx)(hi:i<ls.length):BM b gg e i nx (ls.getD i zE) 0 ls []:=by
 have h6:=h.oa;refine⟨?_,a9F _,rfl,hi,by omega,h.vU,rfl,h.qD,by omega,λ _=>h6,h.ok,λ _ h=>by cases h⟩;rw[<-h.eq,show 61 - i=(61 - (i+1))+1 by omega,BJ,a9l hi];rfl
def BO.done{b:Bool}{gg:aF}{e:J}{i:Nat}{ls:List J}{nx:List (List (List Int))}(h:BO b gg e i ls nx)(hi:ls.length<=i):ku b gg e=some (ls,nx):=by
 have h6:=h.oa;have:=h.le;rw[<-h.eq,show 61 - i=(61 - (i+1))+1 by omega,BJ,a9c (by omega)]
def BM.go{b:Bool}{gg:aF}{e:J}{i:Nat}{nx:List (List (List Int))}{x:J}{a:Nat}{ls:List J}{rows:List (List Int)}(h:BM b gg e i nx x a ls rows)(ha:a<(aV gg).toNat):BI b gg e i nx x a rows 0 ⟨ls,[]⟩:=by
 refine⟨?_,ha,Nat.zero_le _,rfl,h.GW,h.hi,h.i6,h.vU,h.hx,h.qD,by have:=h.oa;simpa using this,h.b6,h.ok,h.rk,λ _ h=>by cases h⟩;rw[<-h.eq,show (aV gg).toNat - a=((aV gg).toNat - (a+1))+1 by omega,jc];rfl
def BM.done{b:Bool}{gg:aF}{e:J}{i:Nat}{nx:List (List (List Int))}{x:J}{a:Nat}{ls:List J}{rows:List (List Int)}(h:BM b gg e i nx x a ls rows)(ha:(aV gg).toNat<=a)(h6:ls.length<=60):BO b gg e (i+1) ls (nx++[rows]):=by
 have:=h.ha;have hi:=h.hi;refine⟨?_,hi,h6,by rw[a9i,h.vU];rfl,h.qD,by omega,h.ok.snoc (by rw[h.GW];omega) h.rk⟩;rw[<-h.eq,show (aV gg).toNat - a=0 by omega,jc,b0L,kO,a9l h6]
def BM.over{b:Bool}{gg:aF}{e:J}{i:Nat}{nx:List (List (List Int))}{x:J}{a:Nat}{ls:List J}{rows:List (List Int)}(h:BM b gg e i nx x a ls rows)(ha:(aV gg).toNat<=a)(h6:60<ls.length):ku b gg e=none:=by
 have:=h.ha;rw[<-h.eq,show (aV gg).toNat - a=0 by omega,jc,Option.bind_some,kO,if_neg (by simpa using h6)]
def BI.done{b:Bool}{gg:aF}{e:J}{i:Nat}{nx:List (List (List Int))}{x:J}{a:Nat}{rows:List (List Int)}{c:Nat}{s:jS}(h:BI b gg e i nx x a rows c s)(hs:gg.au.toNat<=4)(hc:gg.au.toNat<=c):BM b gg e i nx x (a+1) s.ls (rows++[s.rw]):=by
 have:=h.hc;refine⟨?_,h.ha,by rw[a9i,h.GW];rfl,h.hi,h.i6,h.vU,h.hx,h.qD,by have:=h.oa;omega,h.b6,h.ok,h.rk.snoc (by rw[h.rw];omega) h.wk⟩;rw[<-h.eq,show gg.au.toNat - c=0 by omega,pd,b0L];rfl
def BI.step{b:Bool}{gg:aF}{e:J}{i:Nat}{nx:List (List (List Int))}{x:J}{a:Nat}{rows:List (List Int)}{c:Nat}{s:jS}(h:BI b gg e i nx x a rows c s)(hc:c<gg.au.toNat) :
  ((qd b (a:Int) (c:Int) x s).bind λ s=>(pd b (a:Int) x (gg.au.toNat - (c+1)) ((c:Int)+1) s).bind λ s'=>jc b gg.au.toNat x ((aV gg).toNat - (a+1)) ((a:Int)+1) s'.ls (rows++[s'.rw])).bind (kO b gg i nx)=ku b gg e:=by
 rw[<-h.eq,show gg.au.toNat - c=(gg.au.toNat - (c+1))+1 by omega,pd];simp only[Option.bind_assoc]
def BI.fail{b:Bool}{gg:aF}{e:J}{i:Nat}{nx:List (List (List Int))}{x:J}{a:Nat}{rows:List (List Int)}{c:Nat}{s:jS}(h:BI b gg e i nx x a rows c s)(hc:c<gg.au.toNat)(hf:qd b (a:Int) (c:Int) x s=none):ku b gg e=none:=by
 rw[<-h.step hc,hf];rfl
def BI.next{b:Bool}{gg:aF}{e:J}{i:Nat}{nx:List (List (List Int))}{x:J}{a:Nat}{rows:List (List Int)}{c:Nat}{s:jS}(h:BI b gg e i nx x a rows c s)(hc:c<gg.au.toNat){s':jS}(hf:qd b (a:Int) (c:Int) x s=some s')
  (hl:s'.ls=s.ls\/∃ d,aA d=true/\ar d<=1000/\s'.ls=s.ls++[d]/\(b=true->s.ls.length<60)) (hr:s'.rw.length=c+1) (hw:Rg s'.ls.length s'.rw):BI b gg e i nx x a rows (c+1) s':=by
 have hi:=h.hi;have hx:=h.hx;have h6:=h.oa;have hb6:=h.b6;have hup:s.ls.length<=s'.ls.length:=by
  rcases hl with e|⟨d,_,_,e,_⟩<;>rw[e]<;>simp
 refine⟨?_,h.ha,hc,hr,h.GW,?_,h.i6,h.vU,?_,?_,?_,?_,h.ok.up hup,h.rk.up hup,hw⟩
 .rw[<-h.step hc,hf];rfl
 .rcases hl with e|⟨d,_,_,e,_⟩
  .rw[e];exact hi
  .rw[e];simp;omega
 .rcases hl with e|⟨d,_,_,e,_⟩
  .rw[e];exact hx
  .rw[e,a9h,b0n hi,<-a9h];exact hx
 .rcases hl with e|⟨d,d1,d2,e,_⟩
  .rw[e];exact h.qD
  .rw[e];exact h.qD.snoc ⟨d1,d2⟩
 .rcases hl with e|⟨d,_,_,e,_⟩
  .rw[e];omega
  .rw[e];simp;omega
 .intro hb;rcases hl with e|⟨d,_,_,e,q⟩
  .rw[e];exact hb6 hb
  .rw[e];have:=q hb;simp;omega
def BI.w0{b:Bool}{gg:aF}{e:J}{i:Nat}{nx:List (List (List Int))}{x:J}{a:Nat}{rows:List (List Int)}{c:Nat}{s:jS}(h:BI b gg e i nx x a rows c s)(hc:c<gg.au.toNat)(h1:(spV (a:Int) (c:Int) x).2=false):ku b gg e=none :=
 h.fail hc (by rw[qd,a9c (by rw[h1];decide)])
def BI.w1{b:Bool}{gg:aF}{e:J}{i:Nat}{nx:List (List (List Int))}{x:J}{a:Nat}{rows:List (List Int)}{c:Nat}{s:jS}(h:BI b gg e i nx x a rows c s)(hc:c<gg.au.toNat)(h1:(spV (a:Int) (c:Int) x).2=true)(h2:(cr (a:Int) (c:Int) x).ah=1):BI b gg e i nx x a rows (c+1) ⟨s.ls,s.rw++[-1]⟩ :=
 h.next hc (by rw[qd,a9l h1,a9l h2]) (.inl rfl) (by rw[a9i,h.rw];rfl) (h.wk.snoc ⟨by omega,by show (-1:Int)<(s.ls.length:Int);omega⟩)
def BI.w2{b:Bool}{gg:aF}{e:J}{i:Nat}{nx:List (List (List Int))}{x:J}{a:Nat}{rows:List (List Int)}{c:Nat}{s:jS}(h:BI b gg e i nx x a rows c s)(hc:c<gg.au.toNat)(h1:(spV (a:Int) (c:Int) x).2=true)(h2:¬ (cr (a:Int) (c:Int) x).ah=1)(h3:0<=fO s.ls (cr (a:Int) (c:Int) x)):BI b gg e i nx x a rows (c+1) ⟨s.ls,s.rw++[fO s.ls (cr (a:Int) (c:Int) x)]⟩ :=
 h.next hc (by rw[qd,a9l h1,a9c h2,a9l h3]) (.inl rfl) (by rw[a9i,h.rw];rfl) (h.wk.snoc (a2N _ _))
def BI.w3{b:Bool}{gg:aF}{e:J}{i:Nat}{nx:List (List (List Int))}{x:J}{a:Nat}{rows:List (List Int)}{c:Nat}{s:jS}(h:BI b gg e i nx x a rows c s)(hc:c<gg.au.toNat)(h1:(spV (a:Int) (c:Int) x).2=true)(h2:¬ (cr (a:Int) (c:Int) x).ah=1)(h3:fO s.ls (cr (a:Int) (c:Int) x)<0)(h4:b=true->¬ s.ls.length=60):BI b gg e i nx x a rows (c+1) ⟨s.ls++[cr (a:Int) (c:Int) x],s.rw++[(s.ls.length:Int)]⟩:=by
 have hg:=h.qD.get h.hi;rw[h.hx] at hg;have q:=diT (a:Int) (c:Int) x hg.1;have hb6:=h.b6;refine h.next hc (by rw[qd,a9l h1,a9c h2,a9c (by omega),a9c λ q=>h4 q.1 q.2]) (.inr ⟨_,q.g h1,by have:=q.n h1;omega,rfl,λ hb=>by have:=h4 hb;have:=hb6 hb;omega⟩) (by rw[a9i,h.rw];rfl) ((h.wk.up (by simp)).snoc ⟨by omega,by simp;omega⟩)
def BI.w4{gg:aF}{e:J}{i:Nat}{nx:List (List (List Int))}{x:J}{a:Nat}{rows:List (List Int)}{c:Nat}{s:jS}(h:BI true gg e i nx x a rows c s)(hc:c<gg.au.toNat)(h1:(spV (a:Int) (c:Int) x).2=true)(h2:¬ (cr (a:Int) (c:Int) x).ah=1)(h3:fO s.ls (cr (a:Int) (c:Int) x)<0)(h4:s.ls.length=60):ku true gg e=none :=
 h.fail hc (by rw[qd,a9l h1,a9c h2,a9c (by omega),a9l ⟨rfl,h4⟩])
def fb{gg:aF}{e:J}{b:Bool}(h:ku b gg e=none):sasL gg e=[]/\sasN gg e=[]/\sasC gg e=3:=by
 have h':ku false gg e=none:=by cases b with
  | false=>exact h
  | true=>rw[<-a2h];exact h
 unfold sasL sasN sasC;rw[h'];exact⟨rfl,rfl,rfl⟩
def qR{gg:aF}{e:J}{b:Bool}{ls:List J}{nx:List (List (List Int))}(h:ku b gg e=some (ls,nx)):sasL gg e=ls/\sasN gg e=nx/\sasC gg e=0:=by
 have h':ku false gg e=some (ls,nx):=by cases b with
  | false=>exact h
  | true=>rw[<-a2h];exact h
 unfold sasL sasN sasC;rw[h'];exact⟨rfl,rfl,rfl⟩
structure Ev where
 i:Nat
 ls:List J
 nx:List (List (List Int))
structure Eu where
 a:Nat
 ls:List J
 rows:List (List Int)
structure Et where
 c:Nat
 s:jS
noncomputable def BP(ls:List J)(d:J):Int:=if d.ah=1 then -1 else if 0<=fO ls d then fO ls d else (ls.length:Int)
noncomputable def oQ(ls:List J)(d:J):List J:=if d.ah=1 then ls else if 0<=fO ls d then ls else ls++[d]
def LI{ls:List J}{d:J}(h:d.ah=1) : -1=BP ls d/\ls=oQ ls d:=by rw[BP,oQ,a9l h,a9l h];exact⟨rfl,rfl⟩
def LJ{ls:List J}{d:J}(h:¬ d.ah=1)(h2:¬ fO ls d<0):fO ls d=BP ls d/\ls=oQ ls d:=by
 rw[BP,oQ,a9c h,a9c h,a9l (by omega),a9l (by omega)];exact⟨rfl,rfl⟩
def LK{ls:List J}{d:J}(h:¬ d.ah=1)(h2:fO ls d<0):(ls.length:Int)=BP ls d/\ls++[d]=oQ ls d:=by
 rw[BP,oQ,a9c h,a9c h,a9c (by omega),a9c (by omega)];exact⟨rfl,rfl⟩
def BI.a1A{b:Bool}{gg:aF}{e:J}{i:Nat}{nx:List (List (List Int))}{x:J}{a:Nat}{rows:List (List Int)}{c:Nat}{s:jS}(h:BI b gg e i nx x a rows c s)(hc:c<gg.au.toNat)(h1:(spV (a:Int) (c:Int) x).2=true)
  (h4:b=true->¬ (cr (a:Int) (c:Int) x).ah=1->fO s.ls (cr (a:Int) (c:Int) x)<0->¬ s.ls.length=60):BI b gg e i nx x a rows (c+1) ⟨oQ s.ls (cr (a:Int) (c:Int) x),s.rw++[BP s.ls (cr (a:Int) (c:Int) x)]⟩:=by
 by_cases h2:(cr (a:Int) (c:Int) x).ah=1
 .have e:=LI (ls:=s.ls) h2;rw[<-e.1,<-e.2];exact h.w1 hc h1 h2
 .by_cases h3:fO s.ls (cr (a:Int) (c:Int) x)<0
  .have e:=LK h2 h3;rw[<-e.1,<-e.2];exact h.w3 hc h1 h2 h3 λ hb=>h4 hb h2 h3
  .have e:=LJ h2 h3;rw[<-e.1,<-e.2];exact h.w2 hc h1 h2 (by omega)
def BI.a5C{gg:aF}{e:J}{i:Nat}{nx:List (List (List Int))}{x:J}{a:Nat}{rows:List (List Int)}{c:Nat}{s:jS}(h:BI false gg e i nx x a rows c s)(hc:c<gg.au.toNat)(h1:(spV (a:Int) (c:Int) (s.ls.getD i zE)).2=true) :
  BI false gg e i nx x a rows (c+1) ⟨oQ s.ls (spV (a:Int) (c:Int) (s.ls.getD i zE)).1,s.rw++[BP s.ls (spV (a:Int) (c:Int) (s.ls.getD i zE)).1]⟩:=by
 rw[h.hx] at h1 ⊢;have:=h.a1A hc h1 nofun;rw[yB h1] at this;exact this
def BI.Kl{b:Bool}{gg:aF}{e:J}{i:Nat}{nx:List (List (List Int))}{x:J}{a:Nat}{rows:List (List Int)}{c:Nat}{s:jS}(h:BI b gg e i nx x a rows c s)(hc:c<gg.au.toNat)(h1:(spV (a:Int) (c:Int) (s.ls.getD i zE)).2=false):ku b gg e=none:=by
 rw[h.hx] at h1;exact h.w0 hc h1
def BI.get{b:Bool}{gg:aF}{e:J}{i:Nat}{nx:List (List (List Int))}{x:J}{a:Nat}{rows:List (List Int)}{c:Nat}{s:jS}(h:BI b gg e i nx x a rows c s):aA (s.ls.getD i zE)=true/\ar (s.ls.getD i zE)<=1000:=h.qD.get h.hi
structure BIl(gg:aF)(i a c:Nat)(nx:List (List (List Int)))(rows:List (List Int))(s:jS):Prop where
 l1:i<s.ls.length
 l2:s.ls.length<=100
 l3:a<8
 l4:c<=4
 l5:s.rw.length<=4
 l6:rows.length<=8
 l7:nx.length<=60
 l8:i<60
def BI.lens{b:Bool}{gg:aF}{e:J}{i:Nat}{nx:List (List (List Int))}{x:J}{a:Nat}{rows:List (List Int)}{c:Nat}{s:jS}(h:BI b gg e i nx x a rows c s)(hg:cG gg=true):BIl gg i a c nx rows s:=by
 rw[dA] at hg;have:=cK gg hg.1;have:=h.oa;have:=h.ha;have:=h.hc;have:=h.rw;have:=h.GW;have:=h.vU;have:=h.hi;have:=h.i6;constructor<;>omega
structure BMl(i a:Nat)(nx:List (List (List Int)))(ls:List J)(rows:List (List Int)):Prop where
 l1:i<ls.length
 l2:ls.length<=100
 l3:a<=8
 l6:rows.length<=8
 l7:nx.length<=60
 l8:i<60
def BM.lens{b:Bool}{gg:aF}{e:J}{i:Nat}{nx:List (List (List Int))}{x:J}{a:Nat}{ls:List J}{rows:List (List Int)}(h:BM b gg e i nx x a ls rows)(hg:cG gg=true):BMl i a nx ls rows:=by
 rw[dA] at hg;have:=cK gg hg.1;have:=h.oa;have:=h.ha;have:=h.GW;have:=h.vU;have:=h.hi;have:=h.i6;constructor<;>omega
structure BOl(i:Nat)(ls:List J)(nx:List (List (List Int))):Prop where
 l1:i<=ls.length
 l2:ls.length<=60
 l3:nx.length<=60
def BO.lens{b:Bool}{gg:aF}{e:J}{i:Nat}{ls:List J}{nx:List (List (List Int))}(h:BO b gg e i ls nx):BOl i ls nx:=by
 have:=h.le;have:=h.oa;have:=h.vU;constructor<;>omega
def Bs:aX:=⟨BE,[.v (.slice (.st .expr)), .r (.st .expr)],λ (xs:List J) (d:J)=>⟨(some (xs.length<=1000),[⟨(.int .i64),fO xs d⟩])⟩⟩
def Nf(xs:List J)(d:J):Nat->aJ:=(eA 0 (.b (Nat) (λ k=>k<=xs.length/\k<=yC xs d) (λ k=>xs.length - k) [] (λ k=>[(5, .aN ⟨(.int .i64),((k:Int):Int)⟩)])) cj)
def GJ:aX.Good Bs:=by
 refine⟨aD yp,?_⟩;intro (xs:List J) (d:J) (hp:xs.length<=1000);refine aY [rU] [] [] [] ⟨mX,U⟩ yp Gf (Nf xs d) (let v0:=(xs.length:Int);(((∃ k1:Nat,((k1<=xs.length/\k1<=yC xs d)/\((xs=xs/\(d=d/\((0:Int)=(k1:Int)/\True)))/\True)))/\(∀ k1:Nat,let v1:=(k1:Int);((k1<=xs.length/\k1<=yC xs d)->(ai v0->(((decide (v1<v0))=true->(aB v1 xs.length/\(((gu (xs.getD k1 zE) d)=true->v1=(fO xs d))/\((gu (xs.getD k1 zE) d)=false->(ai (v1+(1:Int))/\(∃ k2:Nat,((k2<=xs.length/\k2<=yC xs d)/\(xs.length - k2<xs.length - k1/\((xs=xs/\(d=d/\((v1+(1:Int))=(k2:Int)/\True)))/\True)))))))))/\((decide (v1<v0))=false->(-1:Int)=(fO xs d))))))))) ?_;refine⟨⟨0,?_,⟨rfl,rfl,?_,U⟩,U⟩,λ k1 _ _=>⟨λ _=>⟨?_,λ _=>?_,λ _=>⟨?_,k1+1,?_,?_,⟨rfl,rfl,?_,U⟩,U⟩⟩,λ _=>?_⟩⟩;all_goals try and_intros
 all_goals (try simp only[a9d,a8Z,aB,ai] at *);first|omega|with_reducible rfl|with_reducible assumption|exact trivial|exact a6w xs d _ (by omega) (by omega) (by with_reducible assumption)|exact a6v xs d _ (by omega) (by omega) (by with_reducible assumption)|exact a2P xs d (by omega)|exact a2O xs d
def wZ:aX:=⟨xh,[.v (.st .sig), .r (.st .expr)],λ (gg:aF) (e:J)=>⟨(some (cG gg=true/\aA e=true/\ar e<=1000),[⟨(.slice (.st .expr)),sasL gg e⟩,⟨(.slice (.slice (.slice (.int .i64)))),sasN gg e⟩,⟨(.int .i64),sasC gg e⟩])⟩⟩
def I6(gg:aF)(e:J):Nat->aJ:=(eA 0 (.mk (Ev) (λ v=>BO false gg e v.i v.ls v.nx) (λ v=>60 - v.i) [] [0,1,18,19,20,21] (λ v=>[(9, .aN ⟨(.int .i64),((v.i:Int):Int)⟩),(7, .row 20),(8, .row 21)]) [] (λ v=>[(20, .row eP (.st .expr) (v.ls:List J)),(21, .row HE (.slice (.slice (.int .i64))) (v.nx:List (List (List Int))))]) [] [] (λ v=>(eA 2 (.mk (Eu) (λ m=>BM false gg e v.i v.nx (v.ls.getD v.i zE) m.a m.ls m.rows) (λ m=>(aV gg).toNat - m.a) [] [22,23,24,25,28] (λ m=>[(11, .aN ⟨(.int .i64),((m.a:Int):Int)⟩),(10, .row 28),(7, .row 20)]) [21] (λ m=>[(20, .row eP (.st .expr) (m.ls:List J)),(28, .row N2 (.slice (.int .i64)) (m.rows:List (List Int)))]) [] [] (λ m=>(eA 4 (.mk (Et) (λ q=>BI false gg e v.i v.nx (v.ls.getD v.i zE) m.a m.rows q.c q.s) (λ q=>gg.au.toNat - q.c) [] [29,30,31,32,35] (λ q=>[(13, .aN ⟨(.int .i64),((q.c:Int):Int)⟩),(12, .row 35),(7, .row 20)]) [21,28] (λ q=>[(20, .row eP (.st .expr) (q.s.ls:List J)),(35, .row N1 (.int .i64) (q.s.rw:List Int))]) [] [] (λ q=>(eA 100024 (.u (q.c<gg.au.toNat/\(spV (m.a:Int) (q.c:Int) (q.s.ls.getD v.i zE)).2=true) [14,15,16,36,37,38,39,42,43,44,45,46,47,48,49,50,51,52,53] [(17, .aN ⟨(.int .i64),(BP q.s.ls (spV (m.a:Int) (q.c:Int) (q.s.ls.getD v.i zE)).1:Int)⟩),(7, .row 20)] [14,15,21,28,35] [(20, .row eP (.st .expr) (oQ q.s.ls (spV (m.a:Int) (q.c:Int) (q.s.ls.getD v.i zE)).1:List J))] cj) cj))) cj))) cj))) cj)
abbrev sM(v1:Ev)(m2:Eu)(q3:Et):Prop:=(let v0:=q3.s.ls.getD (Int.toNat (v1.i:Int)) zE;let v2:=(spV (m2.a:Int) (q3.c:Int) (aU v0)).1;((v2.ah=v2.ah/\(v2.bl=v2.bl/\(v2.ae=v2.ae/\True)))/\((v0.ah=v0.ah/\(v0.bl=v0.bl/\(v0.ae=v0.ae/\True)))/\(q3.s.rw=q3.s.rw/\(m2.rows=m2.rows/\(v1.nx=v1.nx/\True))))))
def CV:aX.Good wZ:=by
 refine⟨aD tS,?_⟩;intro (gg:aF) (e:J) (hp:cG gg=true/\aA e=true/\ar e<=1000);refine aY [mK,pN,Bt,Bs] [] [] [2] ⟨uD,sJ,GL,GJ,U⟩ tS Cw (I6 gg e) (let v0:=[]=(sasL gg e)/\([]=(sasN gg e)/\(3:Int)=(sasC gg e));let v2:=(1:Int);let v4:=aV gg;let v5:=(0:Int);(((aA e=true/\ar e<=3000)/\((∃ v1:Ev,(BO false gg e v1.i v1.ls v1.nx/\((gg=gg/\(True/\(True/\(v5=(v1.i:Int)/\True))))/\(([(eC e)])=v1.ls/\([]=v1.nx/\True)))))/\(∀ v1:Ev,let v6:=(v1.i:Int);let v7:=Int.toNat v6;let v8:=v1.ls.getD v1.i zE;let v9:=v1.nx=v1.nx/\True;let va:=(v1.ls.length:Int);(BO false gg e v1.i v1.ls v1.nx->(ai va->(((decide (v6<va))=true->((∃ m2:Eu,(BM false gg e v1.i v1.nx v8 m2.a m2.ls m2.rows/\((gg=gg/\(True/\(True/\(v6=v6/\(True/\(v5=(m2.a:Int)/\True))))))/\(v1.ls=m2.ls/\([]=m2.rows/\v9)))))/\(∀ m2:Eu,let vb:=(m2.a:Int);let vc:=decide ((60:Int)<((m2.ls.length:Int)));(BM false gg e v1.i v1.nx v8 m2.a m2.ls m2.rows->((0<=gg.aK/\gg.aK<=3)/\(ai v4->(((decide (vb<v4))=true->((∃ q3:Et,(BI false gg e v1.i v1.nx v8 m2.a m2.rows q3.c q3.s/\((gg=gg/\(True/\(True/\(v6=v6/\(True/\(vb=vb/\(True/\(v5=(q3.c:Int)/\True))))))))/\(m2.ls=q3.s.ls/\([]=q3.s.rw/\(m2.rows=m2.rows/\v9))))))/\(∀ q3:Et,let vg:=(q3.c:Int);let vd:=spV vb vg (q3.s.ls.getD v1.i zE);let vf:=q3.c<gg.au.toNat/\vd.2=true;let vj:=BP q3.s.ls vd.1;let vk:=aU (q3.s.ls.getD v7 zE);let ve:=spV vb vg vk;let vh:=fO q3.s.ls (aU (ve.1));let vl:=oQ q3.s.ls vd.1;let vi:=q3.s.ls=vl/\(sM v1 m2 q3);(BI false gg e v1.i v1.nx v8 m2.a m2.rows q3.c q3.s->(ai gg.au->(((decide (vg<gg.au))=true->(aB v6 q3.s.ls.length/\((aA vk=true/\ar vk<=1000/\0<=vb/\vb<=4096)/\(((!(ve.2))=true->v0)/\((!(ve.2))=false->((ai (ve.1).ah->(((!(decide ((ve.1).ah=v2)))=true->(q3.s.ls.length<=1000/\(ai vh->(((decide (vh<v5))=true->(ai ((q3.s.ls.length:Int))->(bz (q3.s.ls.length+([(aU (ve.1))]).length) 40/\(∃ u4:Unit,(vf/\((gg=gg/\(True/\(True/\(v6=v6/\(True/\(vb=vb/\(True/\(vg=vg/\(((q3.s.ls.length:Int))=vj/\True)))))))))/\((q3.s.ls++([(aU (ve.1))]))=vl/\(sM v1 m2 q3))))))))/\((decide (vh<v5))=false->(∃ u4:Unit,(vf/\((gg=gg/\(True/\(True/\(v6=v6/\(True/\(vb=vb/\(True/\(vg=vg/\(vh=vj/\True)))))))))/\vi))))))))/\((!(decide ((ve.1).ah=v2)))=false->(∃ u4:Unit,(vf/\((gg=gg/\(True/\(True/\(v6=v6/\(True/\(vb=vb/\(True/\(vg=vg/\((-1:Int)=vj/\True)))))))))/\vi))))))/\(∀ u4:Unit,(vf->(bz (q3.s.rw.length+([vj]).length) 8/\(ai (vg+v2)/\(∃ q5:Et,(BI false gg e v1.i v1.nx v8 m2.a m2.rows q5.c q5.s/\(gg.au.toNat - q5.c<gg.au.toNat - q3.c/\((gg=gg/\(True/\(True/\(v6=v6/\(True/\(vb=vb/\(True/\((vg+v2)=(q5.c:Int)/\True))))))))/\(vl=q5.s.ls/\((q3.s.rw++([vj]))=q5.s.rw/\(m2.rows=m2.rows/\v9)))))))))))))))))/\((decide (vg<gg.au))=false->(bz (m2.rows.length+([q3.s.rw]).length) 24/\(ai (vb+v2)/\(∃ m4:Eu,(BM false gg e v1.i v1.nx v8 m4.a m4.ls m4.rows/\(v4.toNat - m4.a<v4.toNat - m2.a/\((gg=gg/\(True/\(True/\(v6=v6/\(True/\((vb+v2)=(m4.a:Int)/\True))))))/\(q3.s.ls=m4.ls/\((m2.rows++([q3.s.rw]))=m4.rows/\v9)))))))))))))))/\((decide (vb<v4))=false->(bz (v1.nx.length+([m2.rows]).length) 24/\(ai ((m2.ls.length:Int))->((vc=true->v0)/\(vc=false->(ai (v6+v2)/\(∃ v3:Ev,(BO false gg e v3.i v3.ls v3.nx/\(60 - v3.i<60 - v1.i/\((gg=gg/\(True/\(True/\((v6+v2)=(v3.i:Int)/\True))))/\(m2.ls=v3.ls/\((v1.nx++([m2.rows]))=v3.nx/\True)))))))))))))))))))/\((decide (v6<va))=false->(v1.ls=(sasL gg e)/\(v1.nx=(sasN gg e)/\v5=(sasC gg e)))))))))))) ?_;obtain⟨hg,he,hn⟩:=hp;have hq:=(dA gg).1 hg;have ha:=cK gg hq.1;refine⟨?_,⟨(Ev.mk 0 [eC e] []),?_,⟨rfl,U,U,?_,U⟩,?_,?_,U⟩,λ v1 _ _=>⟨λ _=>⟨⟨(Eu.mk 0 v1.ls []),?_,⟨rfl,U,U,rfl,U,?_,U⟩,?_,?_,rfl,U⟩,λ m2 _=>⟨?_,λ _=>⟨λ _=>⟨⟨(Et.mk 0 (jS.mk m2.ls [])),?_,⟨rfl,U,U,rfl,U,rfl,U,?_,U⟩,?_,?_,rfl,rfl,U⟩,λ q3 _ _=>⟨λ _=>⟨?_,?_,λ _=>⟨?_,?_,?_⟩,λ _=>⟨λ _=>⟨λ _=>⟨?_,λ _=>⟨λ _ _=>⟨?_,(),?_,⟨rfl,U,U,rfl,U,rfl,U,rfl,?_,U⟩,?_,⟨rfl,rfl,rfl,U⟩,⟨rfl,rfl,rfl,U⟩,rfl,rfl,rfl,U⟩,λ _=>⟨(),?_,⟨rfl,U,U,rfl,U,rfl,U,rfl,?_,U⟩,?_,⟨rfl,rfl,rfl,U⟩,⟨rfl,rfl,rfl,U⟩,rfl,rfl,rfl,U⟩⟩⟩,λ _=>⟨(),?_,⟨rfl,U,U,rfl,U,rfl,U,rfl,?_,U⟩,?_,⟨rfl,rfl,rfl,U⟩,⟨rfl,rfl,rfl,U⟩,rfl,rfl,rfl,U⟩⟩,λ u4 _=>⟨?_,?_,(Et.mk (q3.c+1) (jS.mk (oQ q3.s.ls (spV (m2.a:Int) (q3.c:Int) (q3.s.ls.getD v1.i zE)).1) (q3.s.rw++[BP q3.s.ls (spV (m2.a:Int) (q3.c:Int) (q3.s.ls.getD v1.i zE)).1]))),?_,?_,⟨rfl,U,U,rfl,U,rfl,U,?_,U⟩,?_,?_,rfl,rfl,U⟩⟩⟩,λ _=>⟨?_,?_,(Eu.mk (m2.a+1) q3.s.ls (m2.rows++[q3.s.rw])),?_,?_,⟨rfl,U,U,rfl,U,?_,U⟩,?_,?_,rfl,U⟩⟩⟩,λ _=>⟨?_,λ _=>⟨λ _=>⟨?_,?_,?_⟩,λ _=>⟨?_,(Ev.mk (v1.i+1) m2.ls (v1.nx++[m2.rows])),?_,?_,⟨rfl,U,U,?_,U⟩,?_,?_,U⟩⟩⟩⟩⟩⟩,λ _=>⟨?_,?_,?_⟩⟩⟩;all_goals try and_intros
 all_goals try (first|with_reducible rfl|with_reducible assumption)
 all_goals try simp only[J.eta,cC] at *
 all_goals (try simp only[a9t,a9E,a9d,a8Z,aB,ai,bz,a9Q,a9i,a9f,a9v] at *);first|with_reducible assumption|omega|with_reducible rfl|exact trivial|exact BO.first _ _ _ he hn|exact BO.go (by with_reducible assumption) (by omega)|exact BM.go (by with_reducible assumption) (by omega)|exact BM.done (by with_reducible assumption) (by omega) (by omega)|exact BI.done (by with_reducible assumption) (by omega) (by omega)|(obtain⟨_,_,_,_,_,_,_,_⟩:=(BI.lens (b:=false) (e:=e) (by with_reducible assumption) hg);omega)|(obtain⟨_,_,_,_,_,_⟩:=(BM.lens (b:=false) (e:=e) (by with_reducible assumption) hg);omega)|(obtain⟨_,_,_⟩:=(BO.lens (b:=false) (e:=e) (by with_reducible assumption));omega)|exact (fb (BI.Kl (by with_reducible assumption) (by omega) (by with_reducible assumption))).1.symm|exact (fb (BI.Kl (by with_reducible assumption) (by omega) (by with_reducible assumption))).2.1.symm|exact (fb (BI.Kl (by with_reducible assumption) (by omega) (by with_reducible assumption))).2.2.symm|exact (fb (BM.over (by with_reducible assumption) (by omega) (by omega))).1.symm|exact (fb (BM.over (by with_reducible assumption) (by omega) (by omega))).2.1.symm|exact (fb (BM.over (by with_reducible assumption) (by omega) (by omega))).2.2.symm|exact (qR (BO.done (by with_reducible assumption) (by omega))).1.symm|exact (qR (BO.done (by with_reducible assumption) (by omega))).2.1.symm|exact (qR (BO.done (by with_reducible assumption) (by omega))).2.2.symm|exact (BI.get (by with_reducible assumption)).1|exact (BI.get (by with_reducible assumption)).2|exact BI.a5C (by with_reducible assumption) (by omega) (by with_reducible assumption)|exact (LI (by with_reducible assumption)).1|exact (LI (by with_reducible assumption)).2|exact (LJ (by with_reducible assumption) (by omega)).1|exact (LJ (by with_reducible assumption) (by omega)).2|exact (LK (by with_reducible assumption) (by omega)).1|exact (LK (by with_reducible assumption) (by omega)).2|rfl
noncomputable def CI(x:J)(a:Nat):List Bool:=(List.range a).map λ (i:Nat)=>emV (i:Int) x
noncomputable def nT(gg:aF)(ls:List J):List (List Bool):=ls.map λ x=>CI x (aV gg).toNat
def a5a(x:J)(a:Nat):CI x a++[emV (a:Int) x]=CI x (a+1):=by simp[CI,List.range_succ]
def OD(x:J)(a:Nat):(CI x a).length=a:=by simp[CI]
def a5b(gg:aF)(ls:List J)(k:Nat)(h:k<ls.length):nT gg (ls.take k)++[CI (ls.getD k zE) (aV gg).toNat]=nT gg (ls.take (k+1)):=by
 rw[eu zE ls k h];simp[nT]
def a0A(gg:aF)(ls:List J)(k:Nat)(h:k<=ls.length):(nT gg (ls.take k)).length=k:=by simp[nT];omega
noncomputable def auV(gg:aF)(e:J):aj:=if sasC gg e=0 then aj.mk gg (nT gg (sasL gg e)) (sasN gg e) else aj.mk (aF.mk (0:Int) (0:Int)) [] []
def Sc{b:Bool}{gg:aF}{e:J}(h4s:gg.au.toNat<=4):∀ (f i:Nat) (ls:List J) (nx:List (List (List Int))),f+i=61->BO b gg e i ls nx->∀ q,ku b gg e=some q->∃ j,BO b gg e j q.1 q.2/\q.1.length<=j
 | 0,i,ls,nx,hf,h,q,hq=>by have:=h.le;have:=h.oa;omega
 | f+1,i,ls,nx,hf,h,q,hq=>by
  by_cases hi:i<ls.length
  .have hm:∀ (m a:Nat),m+a=(aV gg).toNat->∀ ti rows,BM b gg e i nx (ls.getD i zE) a ti rows->∃ j,BO b gg e j q.1 q.2/\q.1.length<=j:=by
    intro m;induction m with
    | zero =>
     intro a ha ti rows hB;by_cases h6:ti.length<=60
     .exact Sc h4s f (i+1) ti _ (by omega) (hB.done (by omega) h6) q hq
     .have:=hB.over (by omega) (by omega);rw[this] at hq;cases hq
    | succ m ih =>
     intro a ha ti rows hB;have hc:∀ (n c:Nat),n+c=gg.au.toNat->∀ s,BI b gg e i nx (ls.getD i zE) a rows c s->∃ j,BO b gg e j q.1 q.2/\q.1.length<=j:=by
      intro n;induction n with
      | zero =>
       intro c hc s hI;exact ih (a+1) (by omega) s.ls (rows++[s.rw]) (hI.done h4s (by omega))
      | succ n Xc =>
       intro c hc s hI;cases hs:(spV (a:Int) (c:Int) (ls.getD i zE)).2 with
       | false=>have:=hI.w0 (by omega) hs;rw[this] at hq;cases hq
       | true =>
        by_cases h2:(cr (a:Int) (c:Int) (ls.getD i zE)).ah=1
        .exact Xc (c+1) (by omega) _ (hI.w1 (by omega) hs h2)
        .by_cases h3:fO s.ls (cr (a:Int) (c:Int) (ls.getD i zE))<0
         .by_cases h4:b=true/\s.ls.length=60
          .obtain⟨rfl,h4⟩:=h4;have:=hI.w4 (by omega) hs h2 h3 h4;rw[this] at hq;cases hq
          .exact Xc (c+1) (by omega) _ (hI.w3 (by omega) hs h2 h3 λ hb hl=>h4 ⟨hb,hl⟩)
         .exact Xc (c+1) (by omega) _ (hI.w2 (by omega) hs h2 (by omega))
     exact hc gg.au.toNat 0 rfl _ (hB.go (by omega))
   exact hm _ 0 rfl _ _ (h.go hi)
  .have:=h.done (by omega);rw[this] at hq;cases hq;exact⟨i,h,by show ls.length<=i;omega⟩
structure Z5(gg:aF)(e:J):Prop where
 pos:0<(sasL gg e).length
 oa:(sasL gg e).length<=60
 len:(sasN gg e).length=(sasL gg e).length
 ok:Q9 (aV gg).toNat gg.au.toNat (sasL gg e).length (sasN gg e)
 qD:pH (sasL gg e)
def TX(gg:aF)(e:J)(hg:cG gg=true)(he:aA e=true)(hn:ar e<=1000)(h:sasC gg e=0):Z5 gg e:=by
 rw[dA] at hg;cases hs:ku false gg e with
 | none=>have:=(fb hs).2.2;rw[this] at h;cases h
 | some q =>
  obtain⟨j,hB,hj⟩:=Sc (by omega) 61 0 _ _ rfl (BO.first false gg e he hn) q hs;obtain⟨h1,h2,_⟩:=qR (ls:=q.1) (nx:=q.2) hs;have:=hB.le;exact⟨by rw[h1];exact hB.pos,by rw[h1];exact hB.oa,by rw[h1,h2];have:=hB.vU;omega,by rw[h1,h2];exact hB.ok,by rw[h1];exact hB.qD⟩
def a5L(gg:aF)(e:J):sasC gg e=0\/sasC gg e=3:=by unfold sasC;split<;>simp
def a3B{gg:aF}{e:J}(h:sasC gg e=0):aj.mk gg (nT gg (sasL gg e)) (sasN gg e)=auV gg e:=by rw[auV,a9l h]
def XU{gg:aF}{e:J}(h:¬ sasC gg e=0):aj.mk (aF.mk (0:Int) (0:Int)) [] []=auV gg e:=by rw[auV,a9c h]
structure sZ(gg:aF)(e:J)(k:Nat):Prop where
 ok:Z5 gg e
 c:sasC gg e=0
 le:k<=(sasL gg e).length
def sZ.lens{gg:aF}{e:J}{k:Nat}(h:sZ gg e k):(nT gg ((sasL gg e).take k)).length=k/\k<=(sasL gg e).length/\(sasL gg e).length<=60/\(sasN gg e).length<=60 :=
 ⟨a0A gg _ k h.le,h.le,h.ok.oa,by rw[h.ok.len];exact h.ok.oa⟩
def sZ.get{gg:aF}{e:J}{k:Nat}(h:sZ gg e k)(hk:k<(sasL gg e).length):aA ((sasL gg e).getD k zE)=true:=(h.ok.qD.get hk).1
def sZ.next{gg:aF}{e:J}{k:Nat}(h:sZ gg e k)(hk:k<(sasL gg e).length):sZ gg e (k+1):=⟨h.ok,h.c,hk⟩
def sZ.step{gg:aF}{e:J}{k a:Nat}(_h:sZ gg e k)(hk:k<(sasL gg e).length)(ha:a<=(aV gg).toNat)(ha':(aV gg).toNat<=a):nT gg ((sasL gg e).take k)++[CI ((sasL gg e).getD k zE) a]=nT gg ((sasL gg e).take (k+1)):=by
 rw[show a=(aV gg).toNat by omega];exact a5b gg _ k hk
def sZ.done{gg:aF}{e:J}{k:Nat}(h:sZ gg e k)(hk:(sasL gg e).length<=k):aj.mk gg (nT gg ((sasL gg e).take k)) (sasN gg e)=auV gg e:=by
 rw[a9A hk];exact a3B h.c
noncomputable def aoV(gg:aF)(e:J):aj:=if okE gg e=true then auV gg e else aj.mk (aF.mk (0:Int) (0:Int)) [] []
noncomputable def aoC(gg:aF)(e:J):Int:=if okE gg e=true then sasC gg e else 1
structure OkE(gg:aF)(e:J):Prop where
 s:cG gg=true
 g:aA e=true
 n:ar e<=1000
def xk{gg:aF}{e:J}(h:okE gg e=true):OkE gg e:=by
 unfold okE at h;rw[Bool.and_eq_true] at h;have hE:=(Ve gg e).1 h.2;have hq:=(dA gg).1 h.1;refine⟨h.1,?_,by omega⟩;have h1:=hE.1;rw[AP _ (by omega),AP _ (by omega)] at h1;exact DW _ _ 9 9 (by omega) (by omega) e h1
def HM{gg:aF}{e:J}(h:okE gg e=true):auV gg e=aoV gg e/\sasC gg e=aoC gg e:=by rw[aoV,aoC,a9l h,a9l h];exact⟨rfl,rfl⟩
def N7{gg:aF}{e:J}(h:okE gg e=false):aj.mk (aF.mk (0:Int) (0:Int)) [] []=aoV gg e/\1=aoC gg e:=by rw[aoV,aoC,a9c (by rw[h];decide),a9c (by rw[h];decide)];exact⟨rfl,rfl⟩
def gT(ls:List J)(t:List UInt8):Option Int:=if (ls.findIdx λ y=>decide (bC y=t))<ls.length then some ((ls.findIdx λ y=>decide (bC y=t):Nat):Int) else none
def find_congr{α:Type}{p q:α->Bool}:∀ (l:List α),(∀ x∈l,p x=q x)->l.findIdx p=l.findIdx q
 | [],_=>rfl
 | x::l,h=>by
  rw[b1S,b1S,h x (by simp),find_congr l λ y hy=>h y (by simp[hy])]
def Uf{ls:List J}{d:J}(h:pH ls)(hd:aA d=true):gT ls (bC d)=if 0<=fO ls d then some (fO ls d) else none:=by
 have e:(ls.findIdx λ y=>decide (bC y=bC d))=yC ls d:=find_congr ls λ y hy=>by
  by_cases q:y=d
  .subst q;simp
  .have:¬ bC y=bC d:=λ e=>q (QD (h y hy).1 hd e);rw[b0D this,RI.2 q]
 unfold gT;rw[e];unfold fO;by_cases hl:yC ls d<ls.length
 .rw[a9l hl,a9l hl,a9l (by omega)]
 .rw[a9c hl,a9c hl,a9c (by omega)]
def a5Q(x:J):qO (xZ (List UInt8) Int) (bC x) (0:Int)=gT [x]:=by
 funext t;by_cases h:t=bC x
 .subst h;rw[vz];simp[gT]
 .rw[kk _ _ _ h];have h':¬ bC x=t:=λ e=>h e.symm;simp[xZ,gT,b1S,h']
def a5S{ls:List J}{d:J}(h:pH ls)(hd:aA d=true)(hf:fO ls d<0):qO (gT ls) (bC d) (ls.length:Int)=gT (ls++[d]):=by
 have hn:=Uf h hd;rw[a9c (by omega)] at hn;funext t;by_cases ht:t=bC d
 .subst ht;rw[vz];unfold gT at hn ⊢;have hl:¬ (ls.findIdx λ y=>decide (bC y=bC d))<ls.length:=λ q=>by rw[if_pos q] at hn;cases hn
  have hle:(ls.findIdx λ y=>decide (bC y=bC d))<=ls.length:=b2O;rw[List.findIdx_append,a9c hl];simp
 .rw[kk _ _ _ ht];unfold gT;rw[List.findIdx_append];by_cases hl:(ls.findIdx λ y=>decide (bC y=t))<ls.length
  .rw[a9l hl,a9l hl,a9l (by simp;omega)]
  .have h':¬ bC d=t:=λ e=>ht e.symm;rw[a9c hl,a9c hl];simp[b1S,h'];omega
def a5R{ls:List J}{d:J}(h:pH ls)(hd:aA d=true)(hf:fO ls d<0):qN (gT ls (bC d)) ls.length=(ls++[d]).length:=by
 have hn:=Uf h hd;rw[a9c (by omega)] at hn;rw[hn];simp[qN]
def BI.a5B{gg:aF}{e:J}{i:Nat}{nx:List (List (List Int))}{x:J}{a:Nat}{rows:List (List Int)}{c:Nat}{s:jS}(h:BI true gg e i nx x a rows c s)(hc:c<gg.au.toNat)(h1:(spV (a:Int) (c:Int) (s.ls.getD i zE)).2=true)
  (h4:¬ (cr (a:Int) (c:Int) (s.ls.getD i zE)).ah=1->fO s.ls (cr (a:Int) (c:Int) (s.ls.getD i zE))<0->¬ s.ls.length=60) :
  BI true gg e i nx x a rows (c+1) ⟨oQ s.ls (cr (a:Int) (c:Int) (s.ls.getD i zE)),s.rw++[BP s.ls (cr (a:Int) (c:Int) (s.ls.getD i zE))]⟩:=by
 rw[h.hx] at h1 h4 ⊢;exact h.a1A hc h1 λ _=>h4
def BI.Xp{gg:aF}{e:J}{i:Nat}{nx:List (List (List Int))}{x:J}{a:Nat}{rows:List (List Int)}{c:Nat}{s:jS}(h:BI true gg e i nx x a rows c s)(hc:c<gg.au.toNat)(h1:(spV (a:Int) (c:Int) (s.ls.getD i zE)).2=true)
  (h2:¬ (cr (a:Int) (c:Int) (s.ls.getD i zE)).ah=1) (h3:fO s.ls (cr (a:Int) (c:Int) (s.ls.getD i zE))<0) (h4:s.ls.length=60):ku true gg e=none:=by
 rw[h.hx] at h1 h2 h3;exact h.w4 hc h1 h2 h3 h4
structure tE(a c:Int)(ls:List J)(i:Nat):Prop where
 gs:pH ls
 t:(spV a c (ls.getD i zE)).2=true
 g:aA (cr a c (ls.getD i zE))=true
 n:ar (cr a c (ls.getD i zE))<=800
def BI.dd{b:Bool}{gg:aF}{e:J}{i:Nat}{nx:List (List (List Int))}{x:J}{a:Nat}{rows:List (List Int)}{c:Nat}{s:jS}(h:BI b gg e i nx x a rows c s)(h1:(spV (a:Int) (c:Int) (s.ls.getD i zE)).2=true):tE (a:Int) (c:Int) s.ls i:=by
 have q:=diT (a:Int) (c:Int) _ h.get.1;exact⟨h.qD,h1,q.g h1,q.n h1⟩
def tE.tx{a c:Int}{ls:List J}{i:Nat}(h:tE a c ls i):(bC (cr a c (ls.getD i zE))).length<=1000000:=Ug _ h.g (by have:=h.n;omega)
def tE.yes{a c:Int}{ls:List J}{i:Nat}(h:tE a c ls i)(hs:(gT ls (bC (cr a c (ls.getD i zE)))).isSome=true):(gT ls (bC (cr a c (ls.getD i zE)))).getD (0:Int)=fO ls (cr a c (ls.getD i zE))/\¬ fO ls (cr a c (ls.getD i zE))<0:=by
 rw[Uf h.gs h.g] at hs ⊢;by_cases h3:0<=fO ls (cr a c (ls.getD i zE))
 .rw[a9l h3];exact⟨rfl,by omega⟩
 .rw[a9c h3] at hs;cases hs
def tE.no{a c:Int}{ls:List J}{i:Nat}(h:tE a c ls i)(hs:(gT ls (bC (cr a c (ls.getD i zE)))).isSome=false):fO ls (cr a c (ls.getD i zE))<0:=by
 rw[Uf h.gs h.g] at hs;by_cases h3:0<=fO ls (cr a c (ls.getD i zE))
 .rw[a9l h3] at hs;cases hs
 .omega
structure JM(gg:aF)(a c:Int)(ls:List J)(i:Nat):Prop where
 hc:c<gg.au
 d:tE a c ls i
 k:¬ (cr a c (ls.getD i zE)).ah=1
 f:fO ls (cr a c (ls.getD i zE))<0->¬ ls.length=60
structure JN(gg:aF)(a c:Int)(ls:List J)(i:Nat):Prop where
 hc:c<gg.au
 d:tE a c ls i
 f:¬ (cr a c (ls.getD i zE)).ah=1->fO ls (cr a c (ls.getD i zE))<0->¬ ls.length=60
def JM.n{gg:aF}{a c:Int}{ls:List J}{i:Nat}(h:JM gg a c ls i):JN gg a c ls i:=⟨h.hc,h.d,λ _=>h.f⟩
def JN.go{gg:aF}{e:J}{i:Nat}{nx:List (List (List Int))}{x:J}{a:Nat}{rows:List (List Int)}{c:Nat}{s:jS}(h:BI true gg e i nx x a rows c s)(j:JN gg (a:Int) (c:Int) s.ls i) :
  BI true gg e i nx x a rows (c+1) ⟨oQ s.ls (cr (a:Int) (c:Int) (s.ls.getD i zE)),s.rw++[BP s.ls (cr (a:Int) (c:Int) (s.ls.getD i zE))]⟩:=h.a5B (by have:=j.hc;omega) j.d.t j.f
def a1u{a c:Int}{ls:List J}{i:Nat}(h:(cr a c (ls.getD i zE)).ah=1):gT ls=gT (oQ ls (cr a c (ls.getD i zE)))/\ls.length=(oQ ls (cr a c (ls.getD i zE))).length:=by rw[<-(LI (ls:=ls) h).2];exact⟨rfl,rfl⟩
def a1v{a c:Int}{ls:List J}{i:Nat}(h:¬ (cr a c (ls.getD i zE)).ah=1)(h2:¬ fO ls (cr a c (ls.getD i zE))<0):gT ls=gT (oQ ls (cr a c (ls.getD i zE)))/\ls.length=(oQ ls (cr a c (ls.getD i zE))).length:=by rw[<-(LJ h h2).2];exact⟨rfl,rfl⟩
def a1w{a c:Int}{ls:List J}{i:Nat}(q:tE a c ls i)(h:¬ (cr a c (ls.getD i zE)).ah=1)(h2:fO ls (cr a c (ls.getD i zE))<0):qO (gT ls) (bC (cr a c (ls.getD i zE))) (ls.length:Int)=gT (oQ ls (cr a c (ls.getD i zE)))/\qN (gT ls (bC (cr a c (ls.getD i zE)))) ls.length=(oQ ls (cr a c (ls.getD i zE))).length:=by
 rw[<-(LK h h2).2];exact⟨a5S q.gs q.g h2,a5R q.gs q.g h2⟩
def YE(e:J)(he:aA e=true)(hn:ar e<=1000):aA (eC e)=true/\(bC (eC e)).length<=1000000:=⟨(Ck e he).g,Ug _ (Ck e he).g (by have:=(Ck e he).n;omega)⟩
def pL:aX:=⟨zb,[.v (.st .sig), .v (.st .expr)],λ (gg:aF) (e:J)=>⟨(some (cG gg=true/\aA e=true/\ar e<=1000),[⟨(.slice (.st .expr)),sasL gg e⟩,⟨(.slice (.slice (.slice (.int .i64)))),sasN gg e⟩,⟨(.int .i64),sasC gg e⟩])⟩⟩
def KO(gg:aF)(e:J):Nat->aJ:=(eA 0 (.mk (Ev) (λ v=>BO true gg e v.i v.ls v.nx) (λ v=>60 - v.i) [] [0,1,3,20,21,22,23,24,25,26,27,28,29] (λ v=>[(10, .aN ⟨(.int .i64),((v.i:Int):Int)⟩),(7, .row 22),(8, .mp 23),(9, .row 29)]) [] (λ v=>[(22, .row eP (.st .expr) (v.ls:List J)),(23, .map ⟨.str,(.int .i64),(gT v.ls:List UInt8->Option Int),v.ls.length⟩),(29, .row HE (.slice (.slice (.int .i64))) (v.nx:List (List (List Int))))]) [] [] (λ v=>(eA 2 (.mk (Eu) (λ m=>BM true gg e v.i v.nx (v.ls.getD v.i zE) m.a m.ls m.rows) (λ m=>(aV gg).toNat - m.a) [] [30,31,32,33,36,37] (λ m=>[(39, .aN ⟨(.int .i64),((m.a:Int):Int)⟩),(11, .row 36),(7, .row 22),(8, .mp 23)]) [29] (λ m=>[(22, .row eP (.st .expr) (m.ls:List J)),(23, .map ⟨.str,(.int .i64),(gT m.ls:List UInt8->Option Int),m.ls.length⟩),(36, .row N2 (.slice (.int .i64)) (m.rows:List (List Int)))]) [] [] (λ m=>(eA 4 (.mk (Et) (λ q=>BI true gg e v.i v.nx (v.ls.getD v.i zE) m.a m.rows q.c q.s) (λ q=>gg.au.toNat - q.c) [] [40,41,42,43] (λ q=>[(45, .aN ⟨(.int .i64),((q.c:Int):Int)⟩),(13, .row 42),(7, .row 22),(8, .mp 23)]) [29,36] (λ q=>[(22, .row eP (.st .expr) (q.s.ls:List J)),(23, .map ⟨.str,(.int .i64),(gT q.s.ls:List UInt8->Option Int),q.s.ls.length⟩),(42, .row N1 (.int .i64) (q.s.rw:List Int))]) [] [] (λ q=>(eA 100028 (.u (JM gg (m.a:Int) (q.c:Int) q.s.ls v.i) [14,15,16,17,19,46,47,48,49,50,51,52,53,54,55,56,57,58,59,60,61,62,66,67,68,69,70,71,72,73] [(18, .aN ⟨(.int .i64),(BP q.s.ls (cr (m.a:Int) (q.c:Int) (q.s.ls.getD v.i zE)):Int)⟩),(7, .row 22),(8, .mp 23)] [15,29,36,42] [(22, .row eP (.st .expr) ((oQ q.s.ls (cr (m.a:Int) (q.c:Int) (q.s.ls.getD v.i zE))):List J)),(23, .map ⟨.str,(.int .i64),(gT (oQ q.s.ls (cr (m.a:Int) (q.c:Int) (q.s.ls.getD v.i zE))):List UInt8->Option Int),((oQ q.s.ls (cr (m.a:Int) (q.c:Int) (q.s.ls.getD v.i zE))).length)⟩)] cj) (eA 100029 (.u (JN gg (m.a:Int) (q.c:Int) q.s.ls v.i) [46] [(13, .row 42),(7, .row 22),(8, .mp 23)] [29,36] [(22, .row eP (.st .expr) ((oQ q.s.ls (cr (m.a:Int) (q.c:Int) (q.s.ls.getD v.i zE))):List J)),(23, .map ⟨.str,(.int .i64),(gT (oQ q.s.ls (cr (m.a:Int) (q.c:Int) (q.s.ls.getD v.i zE))):List UInt8->Option Int),((oQ q.s.ls (cr (m.a:Int) (q.c:Int) (q.s.ls.getD v.i zE))).length)⟩),(42, .row N1 (.int .i64) (q.s.rw++[BP q.s.ls (cr (m.a:Int) (q.c:Int) (q.s.ls.getD v.i zE))]:List Int))] cj) cj)))) cj))) cj))) cj)
abbrev G5(gg:aF)(v1:Ev)(m2:Eu)(q3:Et):Prop:=(gg=gg/\(True/\(True/\(True/\((v1.i:Int)=(v1.i:Int)/\(True/\((m2.a:Int)=(m2.a:Int)/\(True/\((aV gg)=(aV gg)/\((m2.a:Int)=(m2.a:Int)/\(gg.au=gg.au/\((q3.c:Int)=(q3.c:Int)/\True))))))))))))
abbrev uR(v1:Ev)(m2:Eu)(q3:Et):Prop:=(let v0:=oQ q3.s.ls (cr (m2.a:Int) (q3.c:Int) (q3.s.ls.getD v1.i zE));((gT q3.s.ls)=(gT v0)/\q3.s.ls.length=(v0.length)))
abbrev uS(v1:Ev)(m2:Eu)(q3:Et):Prop:=(let v0:=cr (m2.a:Int) (q3.c:Int) (q3.s.ls.getD (Int.toNat (v1.i:Int)) zE);((v0.ah=v0.ah/\(v0.bl=v0.bl/\(v0.ae=v0.ae/\True)))/\(q3.s.rw=q3.s.rw/\(m2.rows=m2.rows/\(v1.nx=v1.nx/\True)))))
def sI:aX.Good pL:=by
 refine⟨aD wj,?_⟩;intro (gg:aF) (e:J) (hp:cG gg=true/\aA e=true/\ar e<=1000);refine aY [AD,Dg,jj,rO] [] [] [2,3] ⟨Bf,IA,iT,uC,U⟩ wj EB (KO gg e) (let v0:=aV gg;let v2:=([(eC e)]).getD 0 zE;let v4:=[]=(sasL gg e)/\([]=(sasN gg e)/\(3:Int)=(sasC gg e));let v5:=(0:Int);let v6:=(1:Int);(((aA e=true/\ar e<=3000)/\(aB v5 ([(eC e)]).length/\((aA v2=true/\(bC v2).length<=1000000)/\((bC v2).length<=140737488355328->(0<1000000000/\((∃ v1:Ev,(BO true gg e v1.i v1.ls v1.nx/\((gg=gg/\(True/\(True/\(True/\(v5=(v1.i:Int)/\True)))))/\(([(eC e)])=v1.ls/\(((qO (xZ (List UInt8) Int) (bC v2) v5)=(gT v1.ls)/\(qN (((xZ (List UInt8) Int) (bC v2))) 0)=v1.ls.length)/\([]=v1.nx/\True))))))/\(∀ v1:Ev,let v8:=(v1.i:Int);let v7:=Int.toNat v8;let v9:=v1.nx=v1.nx/\True;let va:=v1.ls.getD v1.i zE;let vb:=(v1.ls.length:Int);(BO true gg e v1.i v1.ls v1.nx->(ai vb->(((decide (v8<vb))=true->((0<=gg.aK/\gg.aK<=3)/\(ai v0->((∃ m2:Eu,(BM true gg e v1.i v1.nx va m2.a m2.ls m2.rows/\((gg=gg/\(True/\(True/\(True/\(v8=v8/\(True/\(v0=v0/\(v5=(m2.a:Int)/\True))))))))/\(v1.ls=m2.ls/\(((gT v1.ls)=(gT m2.ls)/\v1.ls.length=m2.ls.length)/\([]=m2.rows/\v9))))))/\(∀ m2:Eu,let vc:=(m2.a:Int);let vd:=m2.rows=m2.rows/\v9;(BM true gg e v1.i v1.nx va m2.a m2.ls m2.rows->(((decide (vc<v0))=true->(ai gg.au->((∃ q3:Et,(BI true gg e v1.i v1.nx va m2.a m2.rows q3.c q3.s/\((gg=gg/\(True/\(True/\(True/\(v8=v8/\(True/\(vc=vc/\(True/\(v0=v0/\(vc=vc/\(gg.au=gg.au/\(v5=(q3.c:Int)/\True))))))))))))/\(m2.ls=q3.s.ls/\(((gT m2.ls)=(gT q3.s.ls)/\m2.ls.length=q3.s.ls.length)/\([]=q3.s.rw/\vd))))))/\(∀ q3:Et,let vh:=(q3.c:Int);let ve:=cr vc vh (q3.s.ls.getD v1.i zE);let vg:=oQ q3.s.ls ve;let vj:=(q3.s.ls.length:Int);let vk:=v0=v0/\(vc=vc/\(gg.au=gg.au/\(vh=vh/\True)));let vl:=q3.s.ls.getD v7 zE;let vf:=cr vc vh vl;let vm:=q3.s.rw++[BP q3.s.ls ve];let vn:=aU vf;let vi:=((gT q3.s.ls) (bC vn));let vo:=BP q3.s.ls ve;let vp:=G5 gg v1 m2 q3;(BI true gg e v1.i v1.nx va m2.a m2.rows q3.c q3.s->(((decide (vh<gg.au))=true->((aB v8 q3.s.ls.length/\((aA vl=true/\ar vl<=1000/\0<=vc/\vc<=4096)/\(((!((spV vc vh vl).2))=true->v4)/\((!((spV vc vh vl).2))=false->(ai vf.ah->(((decide (vf.ah=v6))=true->(bz (q3.s.rw.length+([(-1:Int)]).length) 8/\(∃ u4:Unit,(JN gg vc vh q3.s.ls v1.i/\(vp/\(q3.s.ls=vg/\((uR v1 m2 q3)/\((q3.s.rw++([(-1:Int)]))=vm/\vd))))))))/\((decide (vf.ah=v6))=false->((aA vn=true/\(bC vn).length<=1000000)/\((bC vn).length<=140737488355328->(ai (Option.getD vi v5)->((((!(Option.isSome vi))=true->(ai vj->(((decide (vj=(60:Int)))=true->v4)/\((decide (vj=(60:Int)))=false->(ai vj->(q3.s.ls.length<1000000000/\(bz (q3.s.ls.length+([vn]).length) 40/\(∃ u4:Unit,(JM gg vc vh q3.s.ls v1.i/\((gg=gg/\(True/\(True/\(True/\(v8=v8/\(True/\(vc=vc/\(True/\(vj=vo/\vk)))))))))/\((q3.s.ls++([vn]))=vg/\(((qO (gT q3.s.ls) (bC vn) vj)=(gT vg)/\(qN vi q3.s.ls.length)=(vg.length))/\(uS v1 m2 q3)))))))))))))/\((!(Option.isSome vi))=false->(∃ u4:Unit,(JM gg vc vh q3.s.ls v1.i/\((gg=gg/\(True/\(True/\(True/\(v8=v8/\(True/\(vc=vc/\(True/\((Option.getD vi v5)=vo/\vk)))))))))/\(q3.s.ls=vg/\((uR v1 m2 q3)/\(uS v1 m2 q3))))))))/\(∀ u4:Unit,(JM gg vc vh q3.s.ls v1.i->(bz (q3.s.rw.length+([vo]).length) 8/\(∃ u5:Unit,(JN gg vc vh q3.s.ls v1.i/\(vp/\(vg=vg/\(((gT vg)=(gT vg)/\(vg.length)=(vg.length))/\((q3.s.rw++([vo]))=vm/\vd))))))))))))))))))))/\(∀ u4:Unit,(JN gg vc vh q3.s.ls v1.i->(ai (vh+v6)/\(∃ q5:Et,(BI true gg e v1.i v1.nx va m2.a m2.rows q5.c q5.s/\(gg.au.toNat - q5.c<gg.au.toNat - q3.c/\((gg=gg/\(True/\(True/\(True/\(v8=v8/\(True/\(vc=vc/\(True/\(v0=v0/\(vc=vc/\(gg.au=gg.au/\((vh+v6)=(q5.c:Int)/\True))))))))))))/\(vg=q5.s.ls/\(((gT vg)=(gT q5.s.ls)/\(vg.length)=q5.s.ls.length)/\(vm=q5.s.rw/\vd))))))))))))/\((decide (vh<gg.au))=false->(bz (m2.rows.length+([q3.s.rw]).length) 24/\(ai (vc+v6)/\(∃ m4:Eu,(BM true gg e v1.i v1.nx va m4.a m4.ls m4.rows/\(v0.toNat - m4.a<v0.toNat - m2.a/\((gg=gg/\(True/\(True/\(True/\(v8=v8/\(True/\(v0=v0/\((vc+v6)=(m4.a:Int)/\True))))))))/\(q3.s.ls=m4.ls/\(((gT q3.s.ls)=(gT m4.ls)/\q3.s.ls.length=m4.ls.length)/\((m2.rows++([q3.s.rw]))=m4.rows/\v9))))))))))))))))/\((decide (vc<v0))=false->(bz (v1.nx.length+([m2.rows]).length) 24/\(ai (v8+v6)/\(∃ v3:Ev,(BO true gg e v3.i v3.ls v3.nx/\(60 - v3.i<60 - v1.i/\((gg=gg/\(True/\(True/\(True/\((v8+v6)=(v3.i:Int)/\True)))))/\(m2.ls=v3.ls/\(((gT m2.ls)=(gT v3.ls)/\m2.ls.length=v3.ls.length)/\((v1.nx++([m2.rows]))=v3.nx/\True)))))))))))))))))/\((decide (v8<vb))=false->(v1.ls=(sasL gg e)/\(v1.nx=(sasN gg e)/\v5=(sasC gg e)))))))))))))))) ?_;obtain⟨hg,he,hn⟩:=hp;have hq:=(dA gg).1 hg;have ha:=cK gg hq.1;refine⟨?_,?_,?_,λ _=>⟨?_,⟨(Ev.mk 0 [eC e] []),?_,⟨rfl,U,U,U,?_,U⟩,?_,⟨?_,?_⟩,?_,U⟩,λ v1 _ _=>⟨λ _=>⟨?_,λ _=>⟨⟨(Eu.mk 0 v1.ls []),?_,⟨rfl,U,U,U,rfl,U,rfl,?_,U⟩,?_,⟨?_,?_⟩,?_,rfl,U⟩,λ m2 _=>⟨λ _ _=>⟨⟨(Et.mk 0 (jS.mk m2.ls [])),?_,⟨rfl,U,U,U,rfl,U,rfl,U,rfl,rfl,rfl,?_,U⟩,?_,⟨?_,?_⟩,?_,rfl,rfl,U⟩,λ q3 _=>⟨λ _=>⟨⟨?_,?_,λ _=>⟨?_,?_,?_⟩,λ _ _=>⟨λ _=>⟨?_,(),?_,⟨rfl,U,U,U,rfl,U,rfl,U,rfl,rfl,rfl,rfl,U⟩,?_,⟨?_,?_⟩,?_,rfl,rfl,U⟩,λ _=>⟨?_,λ _ _=>⟨⟨λ _ _=>⟨λ _=>⟨?_,?_,?_⟩,λ _ _=>⟨?_,?_,(),?_,⟨rfl,U,U,U,rfl,U,rfl,U,?_,rfl,rfl,rfl,rfl,U⟩,?_,⟨?_,?_⟩,⟨rfl,rfl,rfl,U⟩,rfl,rfl,rfl,U⟩⟩,λ _=>⟨(),?_,⟨rfl,U,U,U,rfl,U,rfl,U,?_,rfl,rfl,rfl,rfl,U⟩,?_,⟨?_,?_⟩,⟨rfl,rfl,rfl,U⟩,rfl,rfl,rfl,U⟩⟩,λ u4 _=>⟨?_,(),?_,⟨rfl,U,U,U,rfl,U,rfl,U,rfl,rfl,rfl,rfl,U⟩,rfl,⟨rfl,rfl⟩,?_,rfl,rfl,U⟩⟩⟩⟩⟩,λ u4 _=>⟨?_,(Et.mk (q3.c+1) (jS.mk (oQ q3.s.ls (cr (m2.a:Int) (q3.c:Int) (q3.s.ls.getD v1.i zE))) (q3.s.rw++[BP q3.s.ls (cr (m2.a:Int) (q3.c:Int) (q3.s.ls.getD v1.i zE))]))),?_,?_,⟨rfl,U,U,U,rfl,U,rfl,U,rfl,rfl,rfl,?_,U⟩,?_,⟨?_,?_⟩,?_,rfl,rfl,U⟩⟩,λ _=>⟨?_,?_,(Eu.mk (m2.a+1) q3.s.ls (m2.rows++[q3.s.rw])),?_,?_,⟨rfl,U,U,U,rfl,U,rfl,?_,U⟩,?_,⟨?_,?_⟩,?_,rfl,U⟩⟩⟩,λ _=>⟨?_,?_,(Ev.mk (v1.i+1) m2.ls (v1.nx++[m2.rows])),?_,?_,⟨rfl,U,U,U,?_,U⟩,?_,⟨?_,?_⟩,?_,U⟩⟩⟩⟩,λ _=>⟨?_,?_,?_⟩⟩⟩⟩;all_goals try and_intros
 all_goals try (first|with_reducible rfl|with_reducible assumption)
 all_goals try simp only[J.eta,cC] at *
 all_goals (try simp only[a9t,a9E,a9d,a8Z,aB,ai,bz,a9Q,a9i,a9f,a9v] at *);first|with_reducible assumption|omega|with_reducible rfl|exact trivial|exact BO.first _ _ _ he hn|exact BO.go (by with_reducible assumption) (by omega)|exact BM.go (by with_reducible assumption) (by omega)|exact BM.done (by with_reducible assumption) (by omega) (by omega)|exact BI.done (by with_reducible assumption) (by omega) (by omega)|(obtain⟨_,_,_,_,_,_,_,_⟩:=(BI.lens (b:=true) (e:=e) (by with_reducible assumption) hg);omega)|(obtain⟨_,_,_,_,_,_⟩:=(BM.lens (b:=true) (e:=e) (by with_reducible assumption) hg);omega)|(obtain⟨_,_,_⟩:=(BO.lens (b:=true) (e:=e) (by with_reducible assumption));omega)|exact (fb (BI.Kl (by with_reducible assumption) (by omega) (by with_reducible assumption))).1.symm|exact (fb (BI.Kl (by with_reducible assumption) (by omega) (by with_reducible assumption))).2.1.symm|exact (fb (BI.Kl (by with_reducible assumption) (by omega) (by with_reducible assumption))).2.2.symm|exact (fb (BM.over (by with_reducible assumption) (by omega) (by omega))).1.symm|exact (fb (BM.over (by with_reducible assumption) (by omega) (by omega))).2.1.symm|exact (fb (BM.over (by with_reducible assumption) (by omega) (by omega))).2.2.symm|exact (qR (BO.done (by with_reducible assumption) (by omega))).1.symm|exact (qR (BO.done (by with_reducible assumption) (by omega))).2.1.symm|exact (qR (BO.done (by with_reducible assumption) (by omega))).2.2.symm|exact (BI.get (by with_reducible assumption)).1|exact (BI.get (by with_reducible assumption)).2|exact a5Q _|exact (YE e he hn).1|exact (YE e he hn).2|exact (BI.dd (by with_reducible assumption) (by with_reducible assumption)).g|exact (BI.dd (by with_reducible assumption) (by with_reducible assumption)).tx|exact JM.mk (by omega) (BI.dd (by with_reducible assumption) (by with_reducible assumption)) (by with_reducible assumption) (λ h=>absurd h (tE.yes (BI.dd (by with_reducible assumption) (by with_reducible assumption)) (by with_reducible assumption)).2)|exact JM.mk (by omega) (BI.dd (by with_reducible assumption) (by with_reducible assumption)) (by with_reducible assumption) (λ _=>by omega)|exact JN.mk (by omega) (BI.dd (by with_reducible assumption) (by with_reducible assumption)) (λ h=>absurd (by with_reducible assumption) h)|exact JM.n (by with_reducible assumption)|exact JN.go (by with_reducible assumption) (by with_reducible assumption)|exact (tE.yes (BI.dd (by with_reducible assumption) (by with_reducible assumption)) (by with_reducible assumption)).1.trans (LJ (by with_reducible assumption) (tE.yes (BI.dd (by with_reducible assumption) (by with_reducible assumption)) (by with_reducible assumption)).2).1|exact (LK (by with_reducible assumption) (tE.no (BI.dd (by with_reducible assumption) (by with_reducible assumption)) (by with_reducible assumption))).1|exact (LI (by with_reducible assumption)).2|exact (LJ (by with_reducible assumption) (tE.yes (BI.dd (by with_reducible assumption) (by with_reducible assumption)) (by with_reducible assumption)).2).2|exact (LK (by with_reducible assumption) (tE.no (BI.dd (by with_reducible assumption) (by with_reducible assumption)) (by with_reducible assumption))).2|exact (a1u (by with_reducible assumption)).1|exact (a1v (by with_reducible assumption) (tE.yes (BI.dd (by with_reducible assumption) (by with_reducible assumption)) (by with_reducible assumption)).2).1|exact (a1w (BI.dd (by with_reducible assumption) (by with_reducible assumption)) (by with_reducible assumption) (tE.no (BI.dd (by with_reducible assumption) (by with_reducible assumption)) (by with_reducible assumption))).1|exact (a1u (by with_reducible assumption)).2|exact (a1v (by with_reducible assumption) (tE.yes (BI.dd (by with_reducible assumption) (by with_reducible assumption)) (by with_reducible assumption)).2).2|exact (a1w (BI.dd (by with_reducible assumption) (by with_reducible assumption)) (by with_reducible assumption) (tE.no (BI.dd (by with_reducible assumption) (by with_reducible assumption)) (by with_reducible assumption))).2|exact (fb (BI.Xp (by with_reducible assumption) (by omega) (by with_reducible assumption) (by with_reducible assumption) (tE.no (BI.dd (by with_reducible assumption) (by with_reducible assumption)) (by with_reducible assumption)) (by omega))).1.symm|exact (fb (BI.Xp (by with_reducible assumption) (by omega) (by with_reducible assumption) (by with_reducible assumption) (tE.no (BI.dd (by with_reducible assumption) (by with_reducible assumption)) (by with_reducible assumption)) (by omega))).2.1.symm|exact (fb (BI.Xp (by with_reducible assumption) (by omega) (by with_reducible assumption) (by with_reducible assumption) (tE.no (BI.dd (by with_reducible assumption) (by with_reducible assumption)) (by with_reducible assumption)) (by omega))).2.2.symm|exact BM.done (by with_reducible assumption) (by omega) (BM.b6 (by with_reducible assumption) rfl)|(rw[<-(LI (by with_reducible assumption)).1])|(simp[qN,xZ];done)|exact (LI (by with_reducible assumption)).1|exact (LI (by with_reducible assumption)).2|exact (LJ (by with_reducible assumption) (by omega)).1|exact (LJ (by with_reducible assumption) (by omega)).2|exact (LK (by with_reducible assumption) (by omega)).1|exact (LK (by with_reducible assumption) (by omega)).2|rfl
def sP:aX:=⟨sS,[.v (.st .sig), .v (.st .expr)],λ (gg:aF) (e:J)=>⟨(some (cG gg=true/\aA e=true/\ar e<=1000),[⟨(.st .automaton),auV gg e⟩,⟨(.int .i64),sasC gg e⟩])⟩⟩
def E1(gg:aF)(e:J):Nat->aJ:=(eA 0 (.mk (Nat) (λ k=>sZ gg e k) (λ k=>(sasL gg e).length - k) [] [0,1,3,5,6,7,8,14,15,16,17,18,19,20,21,22,25,26,27] (λ k=>[(30, .aN ⟨(.int .i64),((k:Int):Int)⟩)]) [4] (λ k=>[(9, .box [.aN ⟨(.int .i64),(gg.aK:Int)⟩, .aN ⟨(.int .i64),(gg.au:Int)⟩, .row 3000, .aN ⟨(.slice (.slice (.slice (.int .i64)))),(sasN gg e:List (List (List Int)))⟩]),(3000, .row YL (.slice .bool) (nT gg ((sasL gg e).take k):List (List Bool)))]) [] [] (λ k=>(eA 2 (.a (Nat) (λ a=>a<=(aV gg).toNat) (λ a=>(aV gg).toNat - a) [31,32,33,34,35] (λ a=>[(37, .aN ⟨(.int .i64),((a:Int):Int)⟩),(12, .row 34)]) [4,9,11,3000] (λ a=>[(34, .row Nx .bool (CI ((sasL gg e).getD k zE) a:List Bool))])) cj))) cj)
abbrev oV(gg:aF)(e:J)(k1:Nat):Prop:=(let v0:=(sasL gg e).getD k1 zE;((v0.ah=v0.ah/\(v0.bl=v0.bl/\(v0.ae=v0.ae/\True)))/\((gg.aK=gg.aK/\(gg.au=gg.au/\(True/\((sasN gg e)=(sasN gg e)/\True))))/\((nT gg ((sasL gg e).take k1))=(nT gg ((sasL gg e).take k1))/\(((0:Int)=(0:Int)/\((0:Int)=(0:Int)/\(True/\(True/\True))))/\True)))))
def Ai:aX.Good sP:=by
 refine⟨aD qv,?_⟩;intro (gg:aF) (e:J) (hp:cG gg=true/\aA e=true/\ar e<=1000);refine aY [pL,jj,jk] [] [] [2,3] ⟨sI,iT,mW,U⟩ qv zO (E1 gg e) (let v0:=sasL gg e;let v1:=(v0.length:Int);let v2:=gg.aK=gg.aK/\(gg.au=gg.au/\(True/\((sasN gg e)=(sasN gg e)/\True)));let v4:=aV gg;let v5:=(0:Int);let v3:=(v5=v5/\(v5=v5/\(True/\(True/\True))))/\True;let v6:=sasC gg e;(((cG gg=true/\aA e=true/\ar e<=1000)/\(v0.length<=140737488355328->((sasN gg e).length<=140737488355328->(ai v6->(((!(decide (v6=v5)))=true->((aj.mk (aF.mk v5 v5) [] [])=(auV gg e)/\v6=v6))/\((!(decide (v6=v5)))=false->(ai v1->((∃ k1:Nat,(sZ gg e k1/\((gg=gg/\(True/\(True/\(v0=v0/\(v1=v1/\(v5=(k1:Int)/\True))))))/\(v2/\((nT gg (v0.take k1))=[]/\v3)))))/\(∀ k1:Nat,let v7:=v0.getD k1 zE;let v8:=(k1:Int);let v9:=nT gg (v0.take k1);(sZ gg e k1->(((decide (v8<v1))=true->(aB v8 v0.length/\((0<=gg.aK/\gg.aK<=3)/\(ai v4->((∃ a2:Nat,(a2<=v4.toNat/\((gg=gg/\(True/\(True/\(True/\(True/\(v0=v0/\(v1=v1/\(v8=v8/\(v4=v4/\(v5=(a2:Int)/\True))))))))))/\([]=(CI v7 a2)/\(oV gg e k1)))))/\(∀ a2:Nat,let va:=(a2:Int);(a2<=v4.toNat->(((decide (va<v4))=true->((aA (aU v7)=true/\0<=va/\va<=4096)/\(bz ((CI v7 a2).length+([(emV va (aU v7))]).length) 1/\(ai (va+(1:Int))/\(∃ a3:Nat,(a3<=v4.toNat/\(v4.toNat - a3<v4.toNat - a2/\((gg=gg/\(True/\(True/\(True/\(True/\(v0=v0/\(v1=v1/\(v8=v8/\(v4=v4/\((va+(1:Int))=(a3:Int)/\True))))))))))/\(((CI v7 a2)++([(emV va (aU v7))]))=(CI v7 a3)/\(oV gg e k1))))))))))/\((decide (va<v4))=false->(bz (v9.length+([(CI v7 a2)]).length) 24/\(ai (v8+(1:Int))/\(∃ k3:Nat,(sZ gg e k3/\(v0.length - k3<v0.length - k1/\((gg=gg/\(True/\(True/\(v0=v0/\(v1=v1/\((v8+(1:Int))=(k3:Int)/\True))))))/\(v2/\((v9++([(CI v7 a2)]))=(nT gg (v0.take k3))/\v3)))))))))))))))))/\((decide (v8<v1))=false->((aj.mk (aF.mk gg.aK gg.au) v9 (sasN gg e))=(auV gg e)/\v5=v6))))))))))))))) ?_;obtain⟨hg,he,hn⟩:=hp;have hq:=(dA gg).1 hg;have ha:=cK gg hq.1;refine⟨?_,λ _ _ a2=>⟨λ a3=>⟨?_,rfl⟩,λ a3 _=>⟨⟨0,?_,⟨rfl,U,U,rfl,rfl,?_,U⟩,⟨rfl,rfl,U,rfl,U⟩,?_,⟨rfl,rfl,U,U,U⟩,U⟩,λ k1 _=>⟨λ _=>⟨?_,?_,λ _=>⟨⟨0,?_,⟨rfl,U,U,U,U,rfl,rfl,rfl,rfl,?_,U⟩,?_,⟨rfl,rfl,rfl,U⟩,⟨rfl,rfl,U,rfl,U⟩,rfl,⟨rfl,rfl,U,U,U⟩,U⟩,λ a2 _=>⟨λ _=>⟨?_,?_,?_,a2+1,?_,?_,⟨rfl,U,U,U,U,rfl,rfl,rfl,rfl,?_,U⟩,?_,⟨rfl,rfl,rfl,U⟩,⟨rfl,rfl,U,rfl,U⟩,rfl,⟨rfl,rfl,U,U,U⟩,U⟩,λ _=>⟨?_,?_,k1+1,?_,?_,⟨rfl,U,U,rfl,rfl,?_,U⟩,⟨rfl,rfl,U,rfl,U⟩,?_,⟨rfl,rfl,U,U,U⟩,U⟩⟩⟩⟩,λ _=>⟨?_,?_⟩⟩⟩⟩⟩;all_goals try and_intros
 all_goals try (first|with_reducible rfl|with_reducible assumption)
 all_goals try simp only[J.eta,cC] at *
 all_goals (try simp only[a9t,a9E,a9d,a8Z,aB,ai,bz,a9Q,a9i,a9f,a9v,OD] at *);first|with_reducible assumption|omega|with_reducible rfl|exact trivial|(obtain⟨_,_,_,_⟩:=sZ.lens (by with_reducible assumption);omega)|exact sZ.mk (TX gg e hg he hn (by omega)) (by omega) (a9F _)|exact sZ.get (by with_reducible assumption) (by omega)|exact sZ.next (by with_reducible assumption) (by omega)|exact sZ.step (by with_reducible assumption) (by omega) (by omega) (by omega)|exact a5a _ _|exact XU (by omega)|exact sZ.done (gg:=gg) (by with_reducible assumption) (by omega)|exact congrArg aj.sig (XU (by omega))|exact congrArg aj.sig (sZ.done (gg:=gg) (by with_reducible assumption) (by omega))|exact congrArg aj.accept (XU (by omega))|exact congrArg aj.accept (sZ.done (gg:=gg) (by with_reducible assumption) (by omega))|exact congrArg aj.next (XU (by omega))|exact congrArg aj.next (sZ.done (gg:=gg) (by with_reducible assumption) (by omega))|rfl
def sO:aX:=⟨sR,[.v (.st .sig), .v (.st .expr)],λ (gg:aF) (e:J)=>⟨(none,[⟨(.st .automaton),aoV gg e⟩,⟨(.int .i64),aoC gg e⟩])⟩⟩
def EZ(gg:aF)(e:J):Nat->aJ:=cj
def Ah:aX.Good sO:=by
 refine⟨aD qu,?_⟩;intro (gg:aF) (e:J) _;refine aY [gC,sP] [] [] [2,3] ⟨gw,Ai,U⟩ qu zM (EZ gg e) ((((!(okE gg e))=true->((aj.mk (aF.mk (0:Int) (0:Int)) [] [])=(aoV gg e)/\(1:Int)=(aoC gg e)))/\((!(okE gg e))=false->((cG gg=true/\aA e=true/\ar e<=1000)/\(ai (sasC gg e)->((auV gg e)=(aoV gg e)/\(sasC gg e)=(aoC gg e))))))) ?_;refine⟨λ _=>⟨?_,?_⟩,λ _=>⟨?_,λ _=>⟨?_,?_⟩⟩⟩;all_goals try and_intros
 all_goals (try simp only[a9t,a9E] at *);first|with_reducible assumption|with_reducible rfl|exact trivial|exact (HM (by with_reducible assumption)).1|exact (HM (by with_reducible assumption)).2|exact congrArg aj.sig (HM (by with_reducible assumption)).1|exact congrArg aj.accept (HM (by with_reducible assumption)).1|exact congrArg aj.next (HM (by with_reducible assumption)).1|exact congrArg (λ a=>aF.aK (aj.sig a)) (HM (by with_reducible assumption)).1|exact congrArg (λ a=>aF.au (aj.sig a)) (HM (by with_reducible assumption)).1|exact (N7 (by with_reducible assumption)).1|exact (N7 (by with_reducible assumption)).2|exact congrArg aj.sig (N7 (by with_reducible assumption)).1|exact congrArg aj.accept (N7 (by with_reducible assumption)).1|exact congrArg aj.next (N7 (by with_reducible assumption)).1|exact congrArg (λ a=>aF.aK (aj.sig a)) (N7 (by with_reducible assumption)).1|exact congrArg (λ a=>aF.au (aj.sig a)) (N7 (by with_reducible assumption)).1|exact (xk (by with_reducible assumption)).s|exact (xk (by with_reducible assumption)).g|exact (xk (by with_reducible assumption)).n
def RP{α:Type}{z:α}{xs:List α}{i:Nat}(h:i<xs.length):xs.getD i z∈xs:=by rw[a9h,a9j h];exact b0G _
def Wc(ls:List J)(d:J)(v:Int):Prop:=(v = -1/\d.ah=1)\/∃ j:Nat,v=(j:Int)/\j<ls.length/\ls.getD j zE=d/\¬ d.ah=1
def Js{α:Type}{z:α}{ls ti:List α}(h:ls <+: ti){j:Nat}(hj:j<ls.length):ti.getD j z=ls.getD j z:=by
 obtain⟨r,rfl⟩:=h;simp only[a9h,b0n hj]
def Wc.up{ls ti:List J}{d:J}{v:Int}(h:Wc ls d v)(q:ls <+: ti):Wc ti d v:=by
 rcases h with h|⟨j,h1,h2,h3,h4⟩
 .exact .inl h
 .exact .inr ⟨j,h1,a9g h2 q.length_le,by rw[Js q h2];exact h3,h4⟩
def HH(ls:List J):Prop:=∀ y∈ls,aA y=true
def a0E{ls:List J}{d:J}(h:0<=fO ls d):∃ j:Nat,fO ls d=(j:Int)/\j<ls.length/\ls.getD j zE=d:=by
 unfold fO at h ⊢;split at h
 .rename_i hl;rw[a9l hl];refine⟨_,rfl,hl,?_⟩;have:=b3a (w:=hl);rw[CL] at this;rw[a9h,a9j hl];exact this
 .omega
structure StS(a c:Int)(x:J)(s s':jS):Prop where
 t:(spV a c x).2=true
 p:s.ls <+: s'.ls
 g:HH s.ls->HH s'.ls
 e:∃ v,s'.rw=s.rw++[v]/\Wc s'.ls (spV a c x).1 v
def a5M{b:Bool}{a c:Int}{x:J}(hx:aA x=true){s s':jS}(h:qd b a c x s=some s'):StS a c x s s':=by
 unfold qd at h;split at h
 .rename_i ht;have ed:cr a c x=(spV a c x).1:=by rw[<-yB ht]
  have gd:=(VT a c x hx).g ht;rw[ed] at h;split at h
  .rename_i h1;cases h;exact⟨ht,b1p _,id,_,rfl, .inl ⟨rfl,h1⟩⟩
  .rename_i h1;split at h
   .rename_i h2;cases h;obtain⟨j,q1,q2,q3⟩:=a0E h2;exact⟨ht,b1p _,id,_,rfl, .inr ⟨j,q1,q2,q3,h1⟩⟩
   .split at h
    .cases h
    .cases h;refine⟨ht,b3s _ _,λ g y hy=>?_,_,rfl, .inr ⟨s.ls.length,rfl,by simp,by simp[a9h],h1⟩⟩;rcases a8X.1 hy with q|q
     .exact g y q
     .rw[a9w] at q;rw[q];exact gd
 .cases h
structure Z4(a c:Int)(n:Nat)(x:J)(ls:List J)(row:List Int):Prop where
 len:row.length=n
 t:∀ j,j<n->(spV a (c+(j:Int)) x).2=true
 e:∀ j,j<n->Wc ls (spV a (c+(j:Int)) x).1 (row.getD j 0)
def Z4.up{a c:Int}{n:Nat}{x:J}{ls ti:List J}{row:List Int}(h:Z4 a c n x ls row)(q:ls <+: ti):Z4 a c n x ti row:=⟨h.len,h.t,λ j hj=>(h.e j hj).up q⟩
def Yt{b:Bool}{a:Int}{x:J}(hx:aA x=true):∀ (n:Nat) {c:Int} {s s':jS},pd b a x n c s=some s'->(s.ls <+: s'.ls/\(HH s.ls->HH s'.ls))/\∃ row,s'.rw=s.rw++row/\Z4 a c n x s'.ls row
 | 0,c,s,s',h=>by cases h;exact⟨⟨b1p _,id⟩,[],(a9U _).symm,rfl,λ j hj=>by omega,λ j hj=>by omega⟩
 | n+1,c,s,s',h=>by
  unfold pd at h;cases hs:qd b a c x s with
  | none=>rw[hs] at h;cases h
  | some m =>
   rw[hs] at h;have q:=a5M hx hs;obtain⟨⟨p1,g1⟩,row,e1,r⟩:=Yt hx n h;obtain⟨v,ev,en⟩:=q.e;refine⟨⟨q.p.trans p1,λ g=>g1 (q.g g)⟩,v::row,by rw[e1,ev];simp,by simp[r.len],λ j hj=>?_,λ j hj=>?_⟩
   .cases j with
    | zero=>simpa using q.t
    | succ j=>have:=r.t j (by omega);rw[show c+((j+1:Nat):Int)=c+1+(j:Int) by omega];exact this
   .cases j with
    | zero=>simpa using en.up p1
    | succ j=>have:=r.e j (by omega);rw[show c+((j+1:Nat):Int)=c+1+(j:Int) by omega];simpa using this
structure YK(n:Nat)(x:J)(m:Nat)(a:Int)(ls:List J)(rows:List (List Int)):Prop where
 len:rows.length=m
 r:∀ i,i<m->Z4 (a+(i:Int)) 0 n x ls (rows.getD i [])
def YK.up{n:Nat}{x:J}{m:Nat}{a:Int}{ls ti:List J}{rows:List (List Int)}(h:YK n x m a ls rows)(q:ls <+: ti):YK n x m a ti rows:=⟨h.len,λ i hi=>(h.r i hi).up q⟩
def VG{b:Bool}{n:Nat}{x:J}(hx:aA x=true):∀ (m:Nat) {a:Int} {ls:List J} {rows:List (List Int)} {q:List J×List (List Int)},jc b n x m a ls rows=some q->(ls <+: q.1/\(HH ls->HH q.1))/\∃ R,q.2=rows++R/\YK n x m a q.1 R
 | 0,a,ls,rows,q,h=>by cases h;exact⟨⟨b1p _,id⟩,[],(a9U _).symm,rfl,λ j hj=>by omega⟩
 | m+1,a,ls,rows,q,h=>by
  unfold jc at h;cases hs:pd b a x n 0 ⟨ls,[]⟩ with
  | none=>rw[hs] at h;cases h
  | some s =>
   rw[hs] at h;obtain⟨⟨p1,g1⟩,row,e1,r1⟩:=Yt hx n hs;obtain⟨⟨p2,g2⟩,R,e2,r2⟩:=VG hx m h;rw[a9L] at e1;refine⟨⟨p1.trans p2,λ g=>g2 (g1 g)⟩,row::R,by rw[e2,e1];simp,by simp[r2.len],λ i hi=>?_⟩;cases i with
   | zero=>simpa using r1.up p2
   | succ i=>have:=r2.r i (by omega);rw[show a+((i+1:Nat):Int)=a+1+(i:Int) by omega];simpa using this
structure RuS(m n i:Nat)(ls ti:List J)(nx nx':List (List (List Int))):Prop where
 p:ls <+: ti
 g:HH ti
 len:nx'.length=ti.length
 pn:nx <+: nx'
 r:∀ k,i<=k->k<ti.length->YK n (ti.getD k zE) m 0 ti (nx'.getD k [])
def Yw{b:Bool}{m n:Nat}:∀ (f i:Nat) (ls:List J) (nx:List (List (List Int))) {q:List J×List (List (List Int))},BJ b m n f i ls nx=some q->HH ls->nx.length=i->i<=ls.length->RuS m n i ls q.1 nx q.2
 | 0,_,_,_,_,h=>by cases h
 | f+1,i,ls,nx,q,h=>by
  intro hg hn hi;unfold BJ at h;split at h
  .rename_i hl;cases hs:jc b n (ls.getD i zE) m 0 ls [] with
   | none=>rw[hs] at h;cases h
   | some s =>
    rw[hs] at h;simp only[b0L] at h;split at h
    .have gx:aA (ls.getD i zE)=true:=hg _ (RP hl);obtain⟨⟨p1,g1⟩,R,e1,r1⟩:=VG gx m hs;rw[a9L] at e1;have u:=Yw f (i+1) s.1 (nx++[s.2]) h (g1 hg) (by simp[hn]) (by have:=p1.length_le;omega);refine⟨p1.trans u.p,u.g,u.len,(b3s _ _).trans u.pn,λ k hk eK=>?_⟩;rcases Nat.eq_or_lt_of_le hk with e|e
     .subst e;have l1:=p1.length_le;have hx:q.1.getD i zE=ls.getD i zE:=by rw[Js u.p (by omega),Js p1 hl]
      have hy:q.2.getD i []=s.2:=by
       rw[Js u.pn (by simp;omega),a9h,b0Q (by omega),hn,Nat.sub_self];rfl
      rw[hx,hy,e1];exact r1.up u.p
     .exact u.r k e eK
    .cases h
  .rename_i hl;cases h;exact⟨b1p _,hg,by show nx.length=ls.length;omega,b1p _,λ k hk eK=>by simp only at eK;omega⟩
structure SaS(gg:aF)(e:J):Prop where
 p:[eC e] <+: sasL gg e
 g:HH (sasL gg e)
 len:(sasN gg e).length=(sasL gg e).length
 r:∀ k,k<(sasL gg e).length->YK gg.au.toNat ((sasL gg e).getD k zE) (aV gg).toNat 0 (sasL gg e) ((sasN gg e).getD k [])
def a7x{gg:aF}{e:J}(he:aA e=true)(h:sasC gg e=0):SaS gg e:=by
 unfold sasC at h;split at h
 .rename_i hs;obtain⟨q,hq⟩:=b2E.1 hs;have u:=Yw _ _ _ _ (show BJ false _ _ 61 0 [eC e] []=some q from hq) (λ y hy=>by rw[a9w] at hy;rw[hy];exact (Ck e he).g) rfl (a9F _);have e1:sasL gg e=q.1:=by rw[sasL,hq];rfl
  have e2:sasN gg e=q.2:=by rw[sasN,hq];rfl
  refine⟨by rw[e1];exact u.p,by rw[e1];exact u.g,by rw[e1,e2];exact u.len,λ k hk=>?_⟩;rw[e1] at hk ⊢;rw[e2];exact u.r k (a9F _) hk
 .cases h
def xa:nH:=⟨zj,[[.d (.slice (.int .u8)), .d (.int .i64), .d (.int .u64)]],[.b 0, .v (.st .sig), .v (.int .i64)],[[(.slice (.int .u8)),(.int .i64),(.int .u64)]],λ (gg:aF) (n:Int) (O:List Int) (pos:Int) (az:Int)=>⟨(some ((bU O (Sr.mk pos az) 890000000/\cG gg=true)/\0<=n/\n<=1000),[⟨(.st .expr),(dV O gg.aK gg.au 6 false (Sr.mk pos az) n).e⟩],[[⟨(.slice (.int .u8)),O⟩,⟨(.int .i64),(dV O gg.aK gg.au 6 false (Sr.mk pos az) n).s.pos⟩,⟨(.int .u64),(dV O gg.aK gg.au 6 false (Sr.mk pos az) n).s.az⟩]])⟩⟩
def Jd(gg:aF)(n:Int)(O:List Int)(pos:Int)(az:Int):Nat->aJ:=cj
def DP:nH.Good xa:=by
 refine⟨aD wv,?_⟩;intro (gg:aF) (n:Int) (O:List Int) (pos:Int) (az:Int) (hp:(bU O (Sr.mk pos az) 890000000/\cG gg=true)/\0<=n/\n<=1000);refine qe [] [] [] [qK] [14] [] [] [4] trivial trivial trivial ⟨zx,U⟩ wv EI (Jd gg n O pos az) rfl rfl (let v0:=dV O gg.aK gg.au (6:Int).toNat false (Sr.mk pos az) n;let v1:=dV O gg.aK gg.au 6 false (Sr.mk pos az) n;(((bU O (Sr.mk pos az) (980000000 - 16 * (wG (6:Int).toNat:Int))/\(0<=gg.aK/\gg.aK<=3)/\(0<=gg.au/\gg.au<=4)/\(6:Int)<=10 /\ -1000000+(wG (6:Int).toNat:Int)<=n/\n<=1000000)/\((aU (v0.e))=(v1.e)/\((O=O/\((v0.s.pos)=(v1.s.pos)/\(v0.s.az)=(v1.s.az)))/\True))))) ?_;have hg:=(dA gg).1 hp.1.2;have hw:wG (Int.toNat 6)=127:=rfl;refine⟨?_,⟨?_,⟨⟨rfl,⟨?_,?_⟩⟩,U⟩⟩⟩;all_goals try and_intros
 all_goals try (first|with_reducible rfl|with_reducible assumption)
 all_goals try simp only[J.eta,cC] at *
 all_goals (try simp only[N0,J.eta,a9d,a8Z] at *);first|rfl|trivial|omega|exact hp.1.1.mono (by omega)
def eG(O:List Int):aF:=ME O (Sr.mk 0 0)
def eR(O:List Int):Gn:=dV O (eG O).aK (eG O).au 6 false (Kh O (Sr.mk 0 0)) 10
def eX(O:List Int):J:=(eR O).e
structure EF(O:List Int):Prop where
 g:cG (eG O)=true
 s0:bU O (Sr.mk 0 0) 800000000
 s1:bU O (Kh O (Sr.mk 0 0)) 800000000
 ok:okE (eG O) (eX O)=true
def e_f(O:List Int)(hb:cW O)(hl:O.length<=1000000):EF O:=by
 have q0:bU O (Sr.mk 0 0) 0:=⟨hb,by decide,by decide,hl,by decide,by decide⟩;obtain⟨g,q1⟩:=a4Z O (Sr.mk 0 0) 0 q0;have g:cG (eG O)=true:=g;have hg:=(dA _).1 g;have hx:=Kj O _ _ hg.1 hg.2 6 false (Kh O (Sr.mk 0 0)) _ 10 q1;have hw:wG 6=127:=rfl;refine⟨g,q0.mono (by decide),q1.mono (by decide),?_⟩;rw[okE,g,b1s,Ve,AP _ (by omega),AP _ (by omega)];have n1:=hx.nd;have n2:=hx.dp;exact⟨hx.tr,by show ar (dV _ _ _ _ _ _ _).e<=_;omega,by show bF (dV _ _ _ _ _ _ _).e<=_;omega⟩
def rY:aX:=⟨DA,[.v (.slice (.int .u8))],λ (O:List Int)=>⟨(some (cW O/\O.length<=1000000),[⟨(.st .sig),eG O⟩,⟨(.st .expr),eX O⟩])⟩⟩
def Nq(O:List Int):Nat->aJ:=cj
abbrev I1(O:List Int):Prop:=(let v0:=ME O (Sr.mk (0:Int) (0:Int));(v0.aK=v0.aK/\(v0.au=v0.au/\True)))
def Hd:aX.tK rY:=by
 refine⟨aD Ba,?_⟩;intro (O:List Int) (hp:cW O/\O.length<=1000000);refine p9 [] [] [] [sQ,xa] [13] [] [] [] trivial trivial trivial ⟨AT,DP,U⟩ Ba H0 (Nq O) (let v0:=Sr.mk (0:Int) (0:Int);let v1:=I1 O;let v2:=ME O v0;((bU O v0 900000000/\(v1/\(((7:Nat)=7/\(0:Nat)=0)/\(v1/\(((bU O (Kh O v0) 890000000/\cG v2=true)/\0<=(10:Int)/\(10:Int)<=1000)/\(v1/\(v2=(eG O)/\(aU ((dV O v2.aK v2.au 6 false (Kh O v0) (10:Int)).e))=(eX O)))))))))) ?_;have F:=e_f O hp.1 hp.2;refine⟨?_,⟨⟨rfl,⟨rfl,?_⟩⟩,⟨⟨?_,?_⟩,⟨⟨rfl,⟨rfl,?_⟩⟩,⟨?_,⟨⟨rfl,⟨rfl,?_⟩⟩,⟨?_,?_⟩⟩⟩⟩⟩⟩⟩;all_goals try and_intros
 all_goals try (first|with_reducible rfl|with_reducible assumption)
 all_goals try simp only[J.eta,cC] at *
 all_goals (try simp only[N0,J.eta,a9d,a8Z,a9N,a9J] at *);first|rfl|trivial|omega|exact F.g|exact F.s0.mono (by decide)|exact F.s1.mono (by decide)
end
end Go.Proofs.YtofnjfpeimhifaaGreatDoor

namespace Go.Proofs
open Go.Shelf
def Tryz.TD:Go.Shelf.Ren:=⟨λ|143=>111|219=>127|217=>135|225=>136|224=>137|267=>138|266=>155|314=>156|n=>n,λ|9=>9|3=>3|4=>4|5=>5|46=>134|146=>202|51=>197|n=>n,λ|1=>0|n=>n⟩
def Tryz.a1m:Go.Proofs.Lays.n143 Tryz.prog Tryz.TD:={
 mixed:=by kernel_rfl
 f143:=Tryz.func111.trans (congrArg some (by kernel_rfl))
 f217:=Tryz.func135.trans (congrArg some (by kernel_rfl))
 f219:=Tryz.func127.trans (congrArg some (by kernel_rfl))
 f224:=Tryz.func137.trans (congrArg some (by kernel_rfl))
 f225:=Tryz.func136.trans (congrArg some (by kernel_rfl))
 f266:=Tryz.func155.trans (congrArg some (by kernel_rfl))
 f267:=Tryz.func138.trans (congrArg some (by kernel_rfl))
 f314:=Tryz.func156.trans (congrArg some (by kernel_rfl))
 t3:=Tryz.underlying3
 a3:=Tryz.isAgg3
 z3:=Tryz.sizeOf3
 v3:=Tryz.zeroValue3
 t4:=Tryz.underlying4
 a4:=Tryz.isAgg4
 z4:=Tryz.sizeOf4
 v4:=Tryz.zeroValue4
 t5:=Tryz.underlying5
 a5:=Tryz.isAgg5
 z5:=Tryz.sizeOf5
 v5:=Tryz.zeroValue5
 t9:=Tryz.underlying9
 a9:=Tryz.isAgg9
 z9:=Tryz.sizeOf9
 v9:=Tryz.zeroValue9
 t46:=Tryz.underlying134
 a46:=Tryz.isAgg134
 z46:=Tryz.sizeOf134
 v46:=Tryz.zeroValue134
 t51:=Tryz.underlying197
 a51:=Tryz.isAgg197
 z51:=Tryz.sizeOf197
 v51:=Tryz.zeroValue197
 t146:=Tryz.underlying202
 a146:=Tryz.isAgg202
 z146:=Tryz.sizeOf202
 v146:=Tryz.zeroValue202
 g1:=by kernel_rfl }
open Go.RowKit Go.Lib in
def Tryz.strings_Index_one(s:ByteArray)(c:UInt8)(w:World) :
  Calls Tryz.prog 111 #[.string s, .string ⟨#[c]⟩] w λ e w'=>e = .returned (.int .i64 (Lib.indexByte s.data.toList c))/\w'=w:=Any.strings_Index_one Tryz.a1m s c w
def Tryz.TC:Go.Shelf.Ren:=⟨λ|138=>110|195=>124|218=>126|143=>111|219=>127|217=>135|225=>136|224=>137|267=>138|266=>155|314=>156|n=>n,λ|9=>9|3=>3|4=>4|5=>5|0=>0|46=>134|146=>202|51=>197|n=>n,λ|1=>0|n=>n⟩
def Tryz.a1l:Go.Proofs.Lays.n138 Tryz.prog Tryz.TC:={
 mixed:=by kernel_rfl
 f138:=Tryz.func110.trans (congrArg some (by kernel_rfl))
 f143:=Tryz.func111.trans (congrArg some (by kernel_rfl))
 f195:=Tryz.func124.trans (congrArg some (by kernel_rfl))
 f217:=Tryz.func135.trans (congrArg some (by kernel_rfl))
 f218:=Tryz.func126.trans (congrArg some (by kernel_rfl))
 f219:=Tryz.func127.trans (congrArg some (by kernel_rfl))
 f224:=Tryz.func137.trans (congrArg some (by kernel_rfl))
 f225:=Tryz.func136.trans (congrArg some (by kernel_rfl))
 f266:=Tryz.func155.trans (congrArg some (by kernel_rfl))
 f267:=Tryz.func138.trans (congrArg some (by kernel_rfl))
 f314:=Tryz.func156.trans (congrArg some (by kernel_rfl))
 t0:=Tryz.underlying0
 a0:=Tryz.isAgg0
 z0:=Tryz.sizeOf0
 v0:=Tryz.zeroValue0
 t3:=Tryz.underlying3
 a3:=Tryz.isAgg3
 z3:=Tryz.sizeOf3
 v3:=Tryz.zeroValue3
 t4:=Tryz.underlying4
 a4:=Tryz.isAgg4
 z4:=Tryz.sizeOf4
 v4:=Tryz.zeroValue4
 t5:=Tryz.underlying5
 a5:=Tryz.isAgg5
 z5:=Tryz.sizeOf5
 v5:=Tryz.zeroValue5
 t9:=Tryz.underlying9
 a9:=Tryz.isAgg9
 z9:=Tryz.sizeOf9
 v9:=Tryz.zeroValue9
 t46:=Tryz.underlying134
 a46:=Tryz.isAgg134
 z46:=Tryz.sizeOf134
 v46:=Tryz.zeroValue134
 t51:=Tryz.underlying197
 a51:=Tryz.isAgg197
 z51:=Tryz.sizeOf197
 v51:=Tryz.zeroValue197
 t146:=Tryz.underlying202
 a146:=Tryz.isAgg202
 z146:=Tryz.sizeOf202
 v146:=Tryz.zeroValue202
 g1:=by kernel_rfl }
open Go.RowKit Go.Lib in
def Tryz.strings_Count_one(s:ByteArray)(c:UInt8)(w:World) :
  Calls Tryz.prog 110 #[.string s, .string ⟨#[c]⟩] w λ e w'=>e = .returned (.int .i64 (Lib.countByte s.data.toList c))/\w'=w:=Any.strings_Count_one Tryz.a1l s c w
def Tryz.TF:Go.Shelf.Ren:=⟨λ|221=>81|268=>109|138=>110|143=>111|195=>124|197=>125|218=>126|219=>127|260=>134|217=>135|225=>136|224=>137|267=>138|266=>155|314=>156|n=>n,λ|9=>9|3=>3|31=>80|4=>4|0=>0|105=>173|21=>21|5=>5|46=>134|119=>198|139=>201|138=>200|146=>202|51=>197|n=>n,λ|1=>0|3=>1|4=>2|n=>n⟩
def Tryz.a1o:Go.Proofs.Lays.n221 Tryz.prog Tryz.TF:={
 mixed:=by kernel_rfl
 f138:=Tryz.func110.trans (congrArg some (by kernel_rfl))
 f143:=Tryz.func111.trans (congrArg some (by kernel_rfl))
 f195:=Tryz.func124.trans (congrArg some (by kernel_rfl))
 f197:=Tryz.func125.trans (congrArg some (by kernel_rfl))
 f217:=Tryz.func135.trans (congrArg some (by kernel_rfl))
 f218:=Tryz.func126.trans (congrArg some (by kernel_rfl))
 f219:=Tryz.func127.trans (congrArg some (by kernel_rfl))
 f221:=Tryz.func81.trans (congrArg some (by kernel_rfl))
 f224:=Tryz.func137.trans (congrArg some (by kernel_rfl))
 f225:=Tryz.func136.trans (congrArg some (by kernel_rfl))
 f260:=Tryz.func134.trans (congrArg some (by kernel_rfl))
 f266:=Tryz.func155.trans (congrArg some (by kernel_rfl))
 f267:=Tryz.func138.trans (congrArg some (by kernel_rfl))
 f268:=Tryz.func109.trans (congrArg some (by kernel_rfl))
 f314:=Tryz.func156.trans (congrArg some (by kernel_rfl))
 t0:=Tryz.underlying0
 a0:=Tryz.isAgg0
 z0:=Tryz.sizeOf0
 v0:=Tryz.zeroValue0
 t3:=Tryz.underlying3
 a3:=Tryz.isAgg3
 z3:=Tryz.sizeOf3
 v3:=Tryz.zeroValue3
 t4:=Tryz.underlying4
 a4:=Tryz.isAgg4
 z4:=Tryz.sizeOf4
 v4:=Tryz.zeroValue4
 t5:=Tryz.underlying5
 a5:=Tryz.isAgg5
 z5:=Tryz.sizeOf5
 v5:=Tryz.zeroValue5
 t9:=Tryz.underlying9
 a9:=Tryz.isAgg9
 z9:=Tryz.sizeOf9
 v9:=Tryz.zeroValue9
 t21:=Tryz.underlying21
 a21:=Tryz.isAgg21
 z21:=Tryz.sizeOf21
 v21:=Tryz.zeroValue21
 t31:=Tryz.underlying80
 a31:=Tryz.isAgg80
 z31:=Tryz.sizeOf80
 v31:=Tryz.zeroValue80
 t46:=Tryz.underlying134
 a46:=Tryz.isAgg134
 z46:=Tryz.sizeOf134
 v46:=Tryz.zeroValue134
 t51:=Tryz.underlying197
 a51:=Tryz.isAgg197
 z51:=Tryz.sizeOf197
 v51:=Tryz.zeroValue197
 t105:=Tryz.underlying173
 a105:=Tryz.isAgg173
 z105:=Tryz.sizeOf173
 v105:=Tryz.zeroValue173
 t119:=Tryz.underlying198
 a119:=Tryz.isAgg198
 z119:=Tryz.sizeOf198
 t138:=Tryz.underlying200
 a138:=Tryz.isAgg200
 z138:=Tryz.sizeOf200
 v138:=Tryz.zeroValue200
 t139:=Tryz.underlying201
 a139:=Tryz.isAgg201
 z139:=Tryz.sizeOf201
 v139:=Tryz.zeroValue201
 t146:=Tryz.underlying202
 a146:=Tryz.isAgg202
 z146:=Tryz.sizeOf202
 v146:=Tryz.zeroValue202
 g1:=by kernel_rfl
 g3:=by kernel_rfl
 g4:=by kernel_rfl }
end Go.Proofs

namespace Go.Proofs.YtofnjfpeimhifaaGreatDoor
noncomputable section
open Go.RowKit Go.Proofs
def gp(c:UInt8)(a:List (List UInt8)×List UInt8)(b:UInt8):List (List UInt8)×List UInt8:=bif b == c then (a.1++[a.2],[]) else (a.1,a.2++[b])
def RH(c:UInt8)(l:List UInt8):List (List UInt8)×List UInt8:=l.foldl (gp c) ([],[])
def bO(c:UInt8)(l:List UInt8):List (List UInt8):=(RH c l).1++[(RH c l).2]
def Ke(c:UInt8):∀ (l:List UInt8) (d e:List (List UInt8)) (x:List UInt8),l.foldl (gp c) (d++e,x)=(d++(l.foldl (gp c) (e,x)).1,(l.foldl (gp c) (e,x)).2)
 | [],d,e,x=>rfl
 | b::l,d,e,x=>by
  simp only[b0C,gp];cases b == c
  .simp only[b3c];exact Ke c l d e (x++[b])
  .simp only[cond_true,a9B];exact Ke c l d (e++[x]) []
def Kf(c:UInt8):∀ (l:List UInt8) (d:List (List UInt8)) (x:List UInt8),(∀ b∈l,(b == c)=false)->l.foldl (gp c) (d,x)=(d,x++l)
 | [],d,x,_=>by simp
 | b::l,d,x,h=>by
  simp only[b0C,gp,h b (by simp),b3c];rw[Kf c l d (x++[b]) (λ y hy=>h y (by simp[hy]))];simp
def Gp(c:UInt8)(l:List UInt8)(h:∀ b∈l,(b == c)=false):bO c l=[l]:=by
 unfold bO RH;rw[Kf c l [] [] h];rfl
def tp(c:UInt8)(a r:List UInt8)(h:∀ b∈a,(b == c)=false):bO c (a++c::r)=a::bO c r:=by
 unfold bO RH;rw[List.foldl_append,Kf c a [] [] h,List.foldl_cons];have e:gp c ([],[]++a) c=([a]++[],[]):=by simp[gp]
 rw[e,Ke];simp
def Qq(c:UInt8):∀ (k:Nat) (l:List UInt8),l.count c=k->Lib.splitK [c] 0 k l=bO c l
 | 0,l,h=>by
  rw[Gp c l (λ b hb=>by
   have:=b3t.1 h;cases e:b == c
   .rfl
   .rw[b0O] at e;subst e;exact absurd hb this)]
  rfl
 | k+1,l,h=>by
  have hi:=Lib.index_one l c;rcases b3p (Lib.indexByte l c) 0 with hn|hn
  .have h1:Lib.indexByte l c = -1:=by have:=Lib.indexByte_ge l c;omega
   have h2:=Lib.indexByte_none h1;have hm:c∈l:=List.count_pos_iff.1 (by omega);obtain⟨j,hj,e⟩:=b0K hm;exact absurd (by rw[a9j hj,e]) (h2 j)
  .obtain⟨o,ho⟩:∃ o:Nat,Lib.indexByte l c=o:=⟨(Lib.indexByte l c).toNat,by omega⟩;obtain⟨h1,h2⟩:=Lib.indexByte_some ho;have hol:o<l.length:=(a9p.1 h1).1;have hd:l=l.take o++c::l.drop (o+1):=by
    conv=>lhs;rw[<-b0r o l]
    rw[List.drop_eq_getElem_cons hol];have:l[o]=c:=by simpa [List.getElem?_eq_getElem hol] using h1
    rw[this]
   have ha:∀ b∈l.take o,(b == c)=false:=by
    intro b hb;obtain⟨j,hj,e⟩:=b0K hb;have yK:j<o:=by simp at hj;omega
    have e2:(l.take o)[j]?=some b:=by rw[a9j hj,e]
    have e3:l[j]?=some b:=by rw[b0i,a9l yK] at e2;exact e2
    cases e':b == c
    .rfl
    .rw[b0O] at e';rw[e'] at e3;exact absurd e3 (h2 j yK)
   have a0O:(l.drop (o+1)).count c=k:=by
    have e:=congrArg (List.count c) hd;rw[h,List.count_append,List.count_cons_self] at e;have:(l.take o).count c=0:=b3t.2 (λ hm=>by have:=ha c hm;simp at this);omega
   have hs:Lib.splitK [c] 0 (k+1) l=l.take o::Lib.splitK [c] 0 k (l.drop (o+1)):=by
    rw[Lib.splitK,hi,ho];rw[a9c (by simp)];simp
   rw[hs,Qq c k _ a0O];conv=>rhs;rw[hd]
   rw[tp c _ _ ha]
def yA(c:UInt8)(l:List UInt8):(bO c l).length<=l.length+1:=by
 have key:∀ (l:List UInt8) (d:List (List UInt8)) (x:List UInt8),(l.foldl (gp c) (d,x)).1.length<=d.length+l.length:=by
  intro l;induction l with
  | nil=>intro d x;simp
  | cons b l ih =>
   intro d x;simp only[b0C,gp,a9f];cases b == c
   .have:=ih d (x++[b]);simp only[b3c];omega
   .have:=ih (d++[x]) [];simp only[cond_true,a9i,a9f,a9v] at this ⊢;omega
 have:=key l [] [];simp only[bO,RH,a9i,a9f,a9v] at this ⊢;omega
def bt(n:Int):UInt8:=UInt8.ofNat n.toNat
def kY:aX:=⟨zm,[.v .str, .v .str],λ (s:List UInt8) (p:List UInt8)=>⟨(some (p.length=1/\s.length<=1048576),[⟨(.slice .str),bO (p.getD 0 0) s⟩])⟩⟩
open Go.Lib in
set_option maxRecDepth 100000 in
def Un(s:ByteArray)(c:UInt8)(w:World)(hs:s.size<=1048576):Calls Tryz.prog 47 #[.string s, .string ⟨#[c]⟩] w λ e w' =>
  e = .returned (.slice (some ⟨w.heap.size,0,none⟩) (Lib.splitB ⟨#[c]⟩ 0 (Lib.countB s ⟨#[c]⟩) s).length (Lib.splitB ⟨#[c]⟩ 0 (Lib.countB s ⟨#[c]⟩) s).length) /\
   w'=w.alloc (.cells ((Lib.splitB ⟨#[c]⟩ 0 (Lib.countB s ⟨#[c]⟩) s).map Value.string).toArray 9):=by
 have h1:1<=(⟨#[c]⟩:ByteArray).size:=a9n 1;have hle:=Lib.countB_le ⟨#[c]⟩ h1 s.size s (a9n _);have hlen:=Lib.splitB_all ⟨#[c]⟩ h1 0 _ s rfl;have hI:∀ (x:ByteArray) (cs:Array Value),x.size<=s.size->Calls Tryz.prog 111 #[.string x, .string ⟨#[c]⟩] (w.alloc (.cells cs 9)) λ e w'=>e = .returned (.int .i64 (Lib.indexB x ⟨#[c]⟩))/\w'=w.alloc (.cells cs 9):=λ x cs _=>by
  have e:Lib.indexB x ⟨#[c]⟩=Lib.indexByte x.data.toList c:=Lib.index_one x.data.toList c;rw[e];exact Tryz.strings_Index_one x c _
 have hC:Calls Tryz.prog 110 #[.string s, .string ⟨#[c]⟩] w λ e w'=>e = .returned (.int .i64 (Lib.countB s ⟨#[c]⟩))/\w'=w:=by
  refine (Tryz.strings_Count_one s c w).mono λ e w' ⟨he,hw⟩=>⟨?_,hw⟩;rw[he];show _=Ending.returned (Value.int .i64 ((Lib.count s.data.toList [c]:Nat):Int));rw[Lib.count_one];rfl
 have cc:=Any.strings_genSplit_core Tryz.a1o (by kernel_rfl) s ⟨#[c]⟩ 0 (-1) (Lib.countB s ⟨#[c]⟩+1) w (by omega) h1 (a9F _) hI hC (by decide) (by decide) (by rw[a9l (by decide)];omega);rw[Nat.add_sub_cancel,hlen] at cc;have e2:Lib.cellsOf (Lib.splitB ⟨#[c]⟩ 0 (Lib.countB s ⟨#[c]⟩) s) (Lib.countB s ⟨#[c]⟩+1)=((Lib.splitB ⟨#[c]⟩ 0 (Lib.countB s ⟨#[c]⟩) s).map Value.string).toArray:=by rw[<-hlen];exact Lib.cellsOf_full _
 rw[e2] at cc;rw[hlen];go_enter Tryz.func47,Tryz.ntmps47;go_wp2_with (go_at_call 81;refine cc.mono ?_);rintro e w1 ⟨he,hw⟩;subst he;rw[hw];go_wp2;go_ret;exact⟨rfl,rfl⟩
def Mm{w:World}{S:Nat->Prop}:∀ (L:List ByteArray) (b o:Nat),(∀ j v,(L.map Value.string)[j]?=some v->w.cell? ⟨b,o+j,none⟩=some v)->(∀ x∈L,x.size<=140737488355328) ->
  cF w S (L.map λ x=>D.str x.data.toList) b o
 | [],_,_,_,_=>trivial
 | x::L,b,o,h,hs=>by
  refine⟨⟨[.string x],rfl,⟨x,rfl,rfl,hs x (by simp)⟩,?_⟩,?_⟩
  .intro j v hj;match j,hj with
   | 0,hj=>exact h 0 v (by simpa using hj)
  .refine Mm L b _ (λ j v hj=>?_) (λ y hy=>hs y (by simp[hy]));have:=h (j+1) v (by simpa using hj);rw[show o+(D.str x.data.toList).size+j=o+(j+1) by simp[D.size];omega];exact this
def Oz(c:UInt8):∀ (k:Nat) (l:List UInt8),∀ p∈Lib.splitK [c] 0 k l,p.length<=l.length
 | 0,l,p,h=>by simp[Lib.splitK] at h;rw[h];exact a9n _
 | k+1,l,p,h=>by
  unfold Lib.splitK at h;split at h
  .simp at h;rw[h];exact a9n _
  .rcases a9k.1 h with e|e
   .rw[e];simp;omega
   .have:=Oz c k _ p e;simp at this;omega
def lS:aX.Good kY:=by
 refine⟨aD HO rfl (by decide),?_⟩;intro (s:List UInt8) (p:List UInt8) hp w S bV ⟨hS,_⟩ ha;match bV,ha with
 | [v,u],ha =>
  obtain⟨⟨x,hv,hx,qF⟩,⟨y,hu,hy,hyl⟩,_⟩:=ha;simp only[a9a,a9q] at hv hu;subst hv hu;obtain⟨QZ,hp2⟩:p.length=1/\s.length<=1048576:=hp;obtain⟨c,rfl⟩:∃ c,p=[c]:=List.length_eq_one_iff.1 QZ;have hyc:y=⟨#[c]⟩:=by
   obtain⟨d⟩:=y;have:d.toList=[c]:=hy;congr 1;exact Array.toList_inj.1 this
  subst hyc;have iU:x.size<=1048576:=by
   have:x.data.toList.length=s.length:=congrArg List.length hx;rw[b3y,this];exact hp2
  have a0O:Lib.countB x ⟨#[c]⟩=s.count c:=by
   show Lib.count x.data.toList [c]=_;rw[Lib.count_one];show x.data.toList.count c=_;rw[show x.data.toList=s from hx]
  have WW:(Lib.splitB ⟨#[c]⟩ 0 (Lib.countB x ⟨#[c]⟩) x).map (·.data.toList)=bO c s:=by
   rw[Lib.splitB_data,a0O,show x.data.toList=s from hx];exact Qq c _ s rfl
  have hlen:(bO c s).length=(Lib.splitB ⟨#[c]⟩ 0 (Lib.countB x ⟨#[c]⟩) x).length:=by rw[<-WW];simp
  have uI:=yA c s;have hpc:∀ z∈Lib.splitB ⟨#[c]⟩ 0 (Lib.countB x ⟨#[c]⟩) x,z.size<=140737488355328:=λ z hz=>by
   have hm:z.data.toList∈Lib.splitK [c] 0 (Lib.countB x ⟨#[c]⟩) x.data.toList:=by
    rw[<-show ((⟨#[c]⟩:ByteArray).data.toList)=[c] from rfl,<-Lib.splitB_data];exact a9b.2 ⟨z,hz,rfl⟩
   have:=Oz c _ _ _ hm;have e1:z.size=z.data.toList.length:=b3y z;have e2:x.size=x.data.toList.length:=b3y x;omega
  refine (Un x c w iU).mono ?_;generalize Lib.splitB ⟨#[c]⟩ 0 (Lib.countB x ⟨#[c]⟩) x=L at WW hlen hpc;rintro e w' ⟨rfl,rfl⟩;refine⟨_,λ b=>S b\/b=w.heap.size,_,rfl,rfl,⟨rfl,rfl,rfl,by simp,λ b hb _=>b0a w _ b hb⟩,λ b hb=>⟨λ h=>h.elim id (λ e=>by omega),Or.inl⟩,λ b h=>?_,?_⟩
  .rcases h with h|h
   .have:=hS b h;simp;omega
   .subst h;simp
  .show Rd _ _ (TV.aE ⟨.slice .str,bO c s⟩) [_];have e1:TV.aE ⟨.slice .str,bO c s⟩ = .slice 1 (L.map λ z=>D.str z.data.toList):=by
    show D.slice _ _=_;congr 1;show (bO c s).map _=_;rw[<-WW,b2a];rfl
   rw[e1];refine⟨_,L.length,by rw[List.length_map],by simp,by unfold maxLen;omega,by simp;omega, .inr ⟨w.heap.size,0,rfl, .inr rfl,Mm L _ _ (λ j v hj=>?_) hpc⟩⟩;rw[Lib.cell_of_heap (heap_alloc_new w _)];simpa using hj
def uQ(b:UInt8):Bool:=decide (48<=b.toNat)&&decide (b.toNat<=57)
def ma(s:List UInt8):Int:=s.foldl (λ n b=>n * 10+((b.toNat:Int) - 48)) 0
def dz(m:Int)(s:List UInt8):Bool:=decide (1<=s.length)&&decide ((s.length:Int)<=m) && !(decide (1<s.length)&&decide ((s.getD 0 0).toNat=48))&&bX uQ s
def dr(m:Int)(s:List UInt8):Int:=bif dz m s then ma s else 0
def OA(s:List UInt8)(k:Nat)(h:k<s.length):ma (s.take (k+1))=ma (s.take k) * 10+(((s.getD k 0).toNat:Int) - 48):=by
 rw[eu 0 s k h];simp[ma,b1h]
def UB:∀ (k:Nat) (s:List UInt8),k<=s.length->bX uQ (s.take k)=true->0<=ma (s.take k)/\ma (s.take k)<10 ^ k
 | 0,s,_,_=>by simp[ma]
 | k+1,s,h,ha=>by
  have h1:=de uQ 0 s k (by omega);rw[ha] at h1;have td:=h1.symm;simp only[a9e] at td;obtain⟨h2,h3⟩:=td;have ih:=UB k s (by omega) h2;rw[OA s k (by omega)];simp only[uQ,a9e,a9d] at h3;have:(10:Int) ^ (k+1)=10 ^ k * 10:=by rw[Int.pow_succ]
  omega
def UC(s:List UInt8)(k:Nat)(h:k<=s.length)(h9:s.length<=9)(ha:bX uQ (s.take k)=true):0<=ma (s.take k)/\ma (s.take k)<=1000000000:=by
 have:=UB k s h ha;have h2:(10:Int) ^ k<=10 ^ 9:=by
  have:(10:Nat) ^ k<=10 ^ 9:=Nat.pow_le_pow_right (by decide) (by omega);exact_mod_cast this
 omega
def XY(s:List UInt8)(k:Nat):uQ (s.getD k 0)=(decide (48<=(s.getD k 0).toNat)&&decide ((s.getD k 0).toNat<=57)):=rfl
def a3v:IntKind.u8.min=0:=rfl
def a3u:IntKind.u8.max=255:=rfl
def Xd(n:Int):ca .u8 n↔0<=n/\n<=255:=b0X
def Tr(n:Int):ca .i64 n↔ai n:=b0X
def P0(m:Int)(s:List UInt8):dz m s=(decide (1<=s.length)&&decide ((s.length:Int)<=m) && !(decide (1<s.length)&&decide ((s.getD 0 0).toNat=48))&&bX uQ s):=rfl
def Yq(m:Int)(s:List UInt8)(h:¬ (1<=s.length/\(s.length:Int)<=m/\¬ (1<s.length/\(s.getD 0 0).toNat=48))):dr m s=0/\dz m s=false:=by
 have e:dz m s=false:=by
  cases hb:dz m s with
  | false=>rfl
  | true =>
   rw[P0] at hb;simp only[a9e,a9d,a9t,b1G,a8Z] at hb;exact absurd ⟨hb.1.1.1,hb.1.1.2,λ h=>by rcases hb.1.2 with g|g<;>omega⟩ h
 exact⟨by simp[dr,e],e⟩
structure DH(m:Int)(s:List UInt8)(k:Nat):Prop where
 len:k<=s.length/\s.length<=9
 ok:1<=s.length/\(s.length:Int)<=m/\¬ (1<s.length/\(s.getD 0 0).toNat=48)
 all:bX uQ (s.take k)=true
def Zr(m:Int)(s:List UInt8)(h:1<=s.length/\(s.length:Int)<=m/\¬ (1<s.length/\(s.getD 0 0).toNat=48))(hm:m<=9):DH m s 0 :=
 ⟨⟨by omega,by omega⟩,h,by simp[bX]⟩
def Vu(m:Int)(s:List UInt8)(k:Nat)(h:DH m s k)(hk:k<s.length)(hb:(s.getD k 0).toNat<48\/57<(s.getD k 0).toNat):dr m s=0/\dz m s=false:=by
 have e:bX uQ s=false:=dJ uQ 0 s k hk (by rw[XY,b1G,a8Z,a8Z];omega);have e':dz m s=false:=by rw[P0,e];simp
 exact⟨by simp[dr,e'],e'⟩
def K5(m:Int)(s:List UInt8)(k:Nat)(h:DH m s k)(hk:k<s.length)(h1:48<=(s.getD k 0).toNat)(h2:(s.getD k 0).toNat<=57):DH m s (k+1)/\ma (s.take (k+1))=ma (s.take k) * 10+(((s.getD k 0).toNat:Int) - 48) :=
 ⟨⟨⟨hk,h.len.2⟩,h.ok,by rw[de uQ 0 s k hk,h.all,XY,a9Z h1,a9Z h2];rfl⟩,OA s k hk⟩
def Vv(m:Int)(s:List UInt8)(k:Nat)(h:DH m s k)(hk:s.length<=k):dr m s=ma (s.take k)/\dz m s=true:=by
 have e:s.take k=s:=a9A hk;have ha:=h.all;rw[e] at ha;have e':dz m s=true:=by
  rw[P0,ha];have:=h.ok;simp only[a9e,a9d,a9t,b1G,a8Z];exact⟨⟨⟨this.1,this.2.1⟩,(a9O 1 s.length).elim (λ g => .inr (by omega)) (λ g => .inl (by omega))⟩,U⟩
 exact⟨by rw[e];simp[dr,e'],e'⟩
def a3j(m:Int)(s:List UInt8)(k:Nat)(h:DH m s k):k<=s.length/\0<=ma (s.take k)/\ma (s.take k)<=1000000000 :=
 ⟨h.len.1,UC s k h.len.1 h.len.2 h.all⟩
def uW:aX:=⟨Dw,[.v .str, .v (.int .i64)],λ (s:List UInt8) (m:Int)=>⟨(some (0<=m/\m<=9),[⟨(.int .i64),dr m s⟩,⟨.bool,dz m s⟩])⟩⟩
def Pu(s:List UInt8)(m:Int):Nat->aJ:=(eA 0 (.b (Nat) (λ k=>DH m s k) (λ k=>s.length - k) [1,8,9,10,11,12,13,14,15,16,17,18,19,20,21,22,23,24,25,26,27] (λ k=>[(29, .aN ⟨(.int .i64),((k:Int):Int)⟩),(6, .aN ⟨(.int .i64),(ma (s.take k):Int)⟩)])) cj)
abbrev yP(s:List UInt8)(m:Int)(k1:Nat):Prop:=(let v0:=(((s.getD k1 0).toNat:Int)) - (48:Int);let v1:=(10:Int) * (ma (s.take k1));(ai v1/\(aB (k1:Int) s.length/\(ca .u8 v0/\(ai v0/\(ai (v1+v0)/\(ai ((k1:Int)+(1:Int))/\(∃ k2:Nat,(DH m s k2/\(s.length - k2<s.length - k1/\((s=s/\((v1+v0)=(ma (s.take k2))/\(((s.length:Int))=((s.length:Int))/\(((k1:Int)+(1:Int))=(k2:Int)/\True))))/\True)))))))))))
abbrev kV(s:List UInt8)(m:Int):Prop:=(let v0:=(s.length:Int);let v1:=(0:Int)=(dr m s)/\false=(dz m s);(ai v0 ->
 ((∃ k1:Nat,(DH m s k1/\((s=s/\((0:Int)=(ma (s.take k1))/\(v0=v0/\((0:Int)=(k1:Int)/\True))))/\True)))/\(∀ k1:Nat,let v2:=((s.getD k1 0).toNat:Int);(DH m s k1 ->
 (((decide ((k1:Int)<v0))=true ->
 (aB (k1:Int) s.length/\(((decide (v2<(48:Int)))=false ->
 (aB (k1:Int) s.length/\(((decide ((57:Int)<v2))=true ->
 v1)/\((decide ((57:Int)<v2))=false ->
 (yP s m k1)))))/\((decide (v2<(48:Int)))=(!false) ->
 ((true=true ->
 v1)/\(true=false ->
 (yP s m k1)))))))/\((decide ((k1:Int)<v0))=false ->
 ((ma (s.take k1))=(dr m s)/\true=(dz m s)))))))))
abbrev yQ(s:List UInt8)(m:Int):Prop:=(let v0:=decide ((((s.getD 0 0).toNat:Int))=(48:Int));let v1:=(0:Int)=(dr m s)/\false=(dz m s);let v2:=decide ((1:Int)<((s.length:Int)));(ai ((s.length:Int)) ->
 ((v2=true ->
 (aB (0:Int) s.length/\((v0=true ->
 v1)/\(v0=false ->
 (kV s m)))))/\(v2=(!true) ->
 ((false=true ->
 v1)/\(false=false ->
 (kV s m)))))))
def wA:aX.Good uW:=by
 refine⟨aD A5,?_⟩;intro (s:List UInt8) (m:Int) (hp:0<=m/\m<=9);refine aY [] [] [] [] trivial A5 HW (Pu s m) (let v0:=(s.length:Int);let v1:=(0:Int)=(dr m s)/\false=(dz m s);((ai v0->(((decide (v0<(1:Int)))=false->(ai v0->(((decide (m<v0))=false->(yQ s m))/\((decide (m<v0))=(!false)->((true=true->v1)/\(true=false->(kV s m)))))))/\((decide (v0<(1:Int)))=(!false)->((true=false->(yQ s m))/\(true=(!false)->((true=true->v1)/\(true=false->(kV s m)))))))))) ?_;have f1:ma (s.take 0)=0:=by simp[ma]
 refine λ _=>⟨λ _ _=>⟨λ _ _=>⟨λ _=>⟨?_,λ _=>⟨?_,?_⟩,λ _ _=>⟨⟨0,?_,⟨rfl,?_,rfl,?_,U⟩,U⟩,λ k1 _=>⟨λ _=>⟨?_,λ _=>⟨?_,λ _=>⟨?_,?_⟩,λ _=>⟨?_,?_,?_,?_,?_,?_,k1+1,?_,?_,⟨rfl,?_,rfl,?_,U⟩,U⟩⟩,λ _=>⟨λ _=>⟨?_,?_⟩,λ _=>⟨?_,?_,?_,?_,?_,?_,k1+1,?_,?_,⟨rfl,?_,rfl,?_,U⟩,U⟩⟩⟩,λ _=>⟨?_,?_⟩⟩⟩⟩,λ _=>⟨λ _=>⟨?_,?_⟩,λ _ _=>⟨⟨0,?_,⟨rfl,?_,rfl,?_,U⟩,U⟩,λ k1 _=>⟨λ _=>⟨?_,λ _=>⟨?_,λ _=>⟨?_,?_⟩,λ _=>⟨?_,?_,?_,?_,?_,?_,k1+1,?_,?_,⟨rfl,?_,rfl,?_,U⟩,U⟩⟩,λ _=>⟨λ _=>⟨?_,?_⟩,λ _=>⟨?_,?_,?_,?_,?_,?_,k1+1,?_,?_,⟨rfl,?_,rfl,?_,U⟩,U⟩⟩⟩,λ _=>⟨?_,?_⟩⟩⟩⟩⟩,λ _=>⟨λ _=>⟨?_,?_⟩,λ _ _=>⟨⟨0,?_,⟨rfl,?_,rfl,?_,U⟩,U⟩,λ k1 _=>⟨λ _=>⟨?_,λ _=>⟨?_,λ _=>⟨?_,?_⟩,λ _=>⟨?_,?_,?_,?_,?_,?_,k1+1,?_,?_,⟨rfl,?_,rfl,?_,U⟩,U⟩⟩,λ _=>⟨λ _=>⟨?_,?_⟩,λ _=>⟨?_,?_,?_,?_,?_,?_,k1+1,?_,?_,⟨rfl,?_,rfl,?_,U⟩,U⟩⟩⟩,λ _=>⟨?_,?_⟩⟩⟩⟩⟩,λ _=>⟨λ _ _=>⟨λ _=>⟨?_,λ _=>⟨?_,?_⟩,λ _ _=>⟨⟨0,?_,⟨rfl,?_,rfl,?_,U⟩,U⟩,λ k1 _=>⟨λ _=>⟨?_,λ _=>⟨?_,λ _=>⟨?_,?_⟩,λ _=>⟨?_,?_,?_,?_,?_,?_,k1+1,?_,?_,⟨rfl,?_,rfl,?_,U⟩,U⟩⟩,λ _=>⟨λ _=>⟨?_,?_⟩,λ _=>⟨?_,?_,?_,?_,?_,?_,k1+1,?_,?_,⟨rfl,?_,rfl,?_,U⟩,U⟩⟩⟩,λ _=>⟨?_,?_⟩⟩⟩⟩,λ _=>⟨λ _=>⟨?_,?_⟩,λ _ _=>⟨⟨0,?_,⟨rfl,?_,rfl,?_,U⟩,U⟩,λ k1 _=>⟨λ _=>⟨?_,λ _=>⟨?_,λ _=>⟨?_,?_⟩,λ _=>⟨?_,?_,?_,?_,?_,?_,k1+1,?_,?_,⟨rfl,?_,rfl,?_,U⟩,U⟩⟩,λ _=>⟨λ _=>⟨?_,?_⟩,λ _=>⟨?_,?_,?_,?_,?_,?_,k1+1,?_,?_,⟨rfl,?_,rfl,?_,U⟩,U⟩⟩⟩,λ _=>⟨?_,?_⟩⟩⟩⟩⟩,λ _=>⟨λ _=>⟨?_,?_⟩,λ _ _=>⟨⟨0,?_,⟨rfl,?_,rfl,?_,U⟩,U⟩,λ k1 _=>⟨λ _=>⟨?_,λ _=>⟨?_,λ _=>⟨?_,?_⟩,λ _=>⟨?_,?_,?_,?_,?_,?_,k1+1,?_,?_,⟨rfl,?_,rfl,?_,U⟩,U⟩⟩,λ _=>⟨λ _=>⟨?_,?_⟩,λ _=>⟨?_,?_,?_,?_,?_,?_,k1+1,?_,?_,⟨rfl,?_,rfl,?_,U⟩,U⟩⟩⟩,λ _=>⟨?_,?_⟩⟩⟩⟩⟩⟩;all_goals try and_intros
 all_goals first|rfl|trivial|omega|((try simp only[a9N,a9J,a9d,a8Z,aB,Xd,Tr,ai,a3v,a3u] at *);first|omega|exact (Yq m s (by omega)).1.symm|exact (Yq m s (by omega)).2.symm|exact Zr m s (by omega) (by omega)|(have hq:DH m s k1:=(by with_reducible assumption);have hl:=a3j m s k1 hq;first|omega|exact (Vu m s k1 hq (by omega) (by omega)).1.symm|exact (Vu m s k1 hq (by omega) (by omega)).2.symm|exact (K5 m s k1 hq (by omega) (by omega) (by omega)).1|exact (K5 m s k1 hq (by omega) (by omega) (by omega)).2.symm|(rw[(K5 m s k1 hq (by omega) (by omega) (by omega)).2];omega)|exact (Vv m s k1 hq (by omega)).1.symm|exact (Vv m s k1 hq (by omega)).2.symm))
end
end Go.Proofs.YtofnjfpeimhifaaGreatDoor

namespace Go.Proofs.YtofnjfpeimhifaaGreatDoor
noncomputable section
def jg{α β:Type}(f:α->List β)(xs:List α):List β:=(xs.map f).flatten
def tY{α β:Type}(f:α->List β)(x:α)(xs:List α):jg f (x::xs)=f x++jg f xs:=rfl
def RE{α β:Type}(f:α->List β):jg f []=[]:=rfl
def SH{α β:Type}(f:α->List β)(xs ys:List α):jg f (xs++ys)=jg f xs++jg f ys:=by simp[jg]
def Gl{α β:Type}(f:α->List β)(z:α)(xs:List α)(i:Nat)(h:i<xs.length):jg f (xs.take (i+1))=jg f (xs.take i)++f (xs.getD i z):=by
 rw[eu z xs i h,SH,tY,RE,a9U]
def J9{α β:Type}(f:α->List β)(xs:List α)(i:Nat)(h:xs.length<=i):jg f (xs.take i)=jg f xs:=by rw[a9A h]
def Gm{α β:Type}(f:α->List β)(xs:List α):jg f (xs.take 0)=[]:=rfl
def Eh(c:UInt8)(a b:List UInt8)(h1:∀ x∈a,(x == c)=false)(h2:∀ x∈b,(x == c)=false):∀ x∈a++b,(x == c)=false:=λ x hx=>(a8X.1 hx).elim (h1 x) (h2 x)
def pF{α:Type}(f:α->List UInt8)(M:Nat):∀ xs:List α,(∀ x∈xs,(f x).length<=M)->(jg f xs).length<=M * xs.length
 | [],_=>by simp[jg]
 | x::xs,h=>by
  have h1:=pF f M xs λ y hy=>h y (by simp[hy]);have h2:=h x (by simp);rw[tY,a9i,a9f,Nat.mul_succ];omega
def Ro{α:Type}(p:α->Bool)(xs:List α)(h:bX p xs=true):∀ x∈xs,p x=true:=by
 induction xs with
 | nil=>intro x hx;cases hx
 | cons y ys ih =>
  simp only[bX,a9e] at h;intro x hx;rcases a9k.1 hx with rfl|hx
  .exact h.1
  .exact ih h.2 x hx
def pG{α:Type}(z:α)(xs:List α)(i:Nat)(h:i<xs.length):xs.getD i z∈xs:=by
 rw[a9h,a9j h];exact b0G _
def J0(p:Nat->Bool):∀ n,wa p n=true↔∀ k,k<n->p k=true
 | 0=>⟨λ _ k h=>absurd h (a9K k),λ _=>rfl⟩
 | n+1=>by
  rw[N4,a9e,J0 p n];constructor
  .rintro⟨h1,h2⟩ k hk;rcases a9O k n with h|h
   .exact h1 k h
   .have:k=n:=by omega
    subst this;exact h2
  .intro h;exact⟨λ k hk=>h k (by omega),h n (by omega)⟩
def Vh(n k:Int):Bool:=decide (-1<=k/\k<=n - 1)
def xn(g:aF)(n:Int)(r:List Int):Bool:=decide ((r.length:Int)=g.au)&&bX (Vh n) r
def a4A(g:aF)(n:Int)(ac:List Bool)(nx:List (List Int)):Bool:=decide ((ac.length:Int)=aV g)&&decide ((nx.length:Int)=aV g)&&bX (xn g n) nx
def xp(a:aj)(i:Nat):Bool:=a4A a.sig a.accept.length (a.accept.getD i []) (a.next.getD i [])
def HF(a:aj):Bool:=cG a.sig&&decide (1<=a.accept.length/\a.accept.length<=60)&&decide (a.next.length=a.accept.length)
def aOk(a:aj):Bool:=HF a&&wa (xp a) a.accept.length
def eV(n:Int):List UInt8:=bif decide (n<0) then [46] else eh n
def Cz(n:Int):List UInt8:=58::eV n
def Ll(b:Bool):List UInt8:=bif b then [43] else [45]
def jY(p:Bool×List Int):List UInt8:=Ll p.1++jg Cz p.2
def Ik(p:Bool×List Int):List UInt8:=32::jY p
def tl(p:List Bool×List (List Int)):List UInt8:=[115,116,97,116,101]++jg Ik (p.1.zip p.2)
def IM(g:aF):List UInt8:=[97,117,116,111,109,97,116,111,110,32]++eh g.aK++[32]++eh g.au
def atx(a:aj):List UInt8:=IM a.sig++10::jg (λ p=>tl p++[10]) (a.accept.zip a.next)
def jK(k:Int)(p:List UInt8):Int:=bif decide (p=[46]) then -1 else dr k p
def oS(k:Int)(p:List UInt8):Bool:=decide (p=[46])||dz k p
def ZQ(w:List UInt8):List UInt8:=(bO 58 w).getD 0 []
def jq(w:List UInt8):List (List UInt8):=(bO 58 w).drop 1
def iC(w:List UInt8):Bool:=decide (ZQ w=[43])
def Mn(w:List UInt8):Bool:=iC w||decide (ZQ w=[45])
def oF(k:Int)(w:List UInt8):List Int:=(jq w).map (jK k)
def Qb(k:Int)(w:List UInt8):Bool:=bX (oS k) (jq w)
def DY(k:Int)(w:List UInt8):Bool:=Qb k w&&Mn w
def dS(l:List UInt8):List (List UInt8):=(bO 32 l).drop 1
def lZ(l:List UInt8):List Bool:=(dS l).map iC
def kp(k:Int)(l:List UInt8):List (List Int):=(dS l).map (oF k)
def eZ(k:Int)(l:List UInt8):Bool:=bX (DY k) (dS l)
def a0w:∀ n:Fin 60,dz 2 (eh (n.val:Int))=true/\dr 2 (eh (n.val:Int))=(n.val:Int)/\dz 9 (eh (n.val:Int))=true/\dr 9 (eh (n.val:Int))=(n.val:Int)/\(eh (n.val:Int)).length<=2/\(eh (n.val:Int)).all (λ b => !(b == 10)&&(!(b == 32)&&(!(b == 58) && !(b == 46))))=true:=by decide +kernel
def a0y:∀ n:Fin 10,dz 1 (eh (n.val:Int))=true/\dr 1 (eh (n.val:Int))=(n.val:Int):=by decide +kernel
structure DgF(n:Int):Prop where
 b2:dz 2 (eh n)=true
 v2:dr 2 (eh n)=n
 b9:dz 9 (eh n)=true
 v9:dr 9 (eh n)=n
 len:(eh n).length<=2
 n10:∀ b∈eh n,(b == 10)=false
 n32:∀ b∈eh n,(b == 32)=false
 n58:∀ b∈eh n,(b == 58)=false
 n46:∀ b∈eh n,(b == 46)=false
def uc(n:Int)(h:0<=n/\n<=59):DgF n:=by
 obtain⟨k,rfl⟩:∃ k:Nat,n=k:=⟨n.toNat,by omega⟩;obtain⟨h1,h2,h3,h4,h5,h6⟩:=a0w ⟨k,by omega⟩;have key:∀ b∈eh (k:Int),(b == 10)=false/\(b == 32)=false/\(b == 58)=false/\(b == 46)=false:=λ b hb=>by
  have:=List.all_eq_true.1 h6 b hb;simpa only[Bool.and_eq_true,Bool.not_eq_true'] using this
 exact⟨h1,h2,h3,h4,h5,λ b hb=>(key b hb).1,λ b hb=>(key b hb).2.1,λ b hb=>(key b hb).2.2.1,λ b hb=>(key b hb).2.2.2⟩
def X0(n:Int)(h:0<=n/\n<=9):dz 1 (eh n)=true/\dr 1 (eh n)=n:=by
 obtain⟨k,rfl⟩:∃ k:Nat,n=k:=⟨n.toNat,by omega⟩;exact a0y ⟨k,by omega⟩
def Ka(c:UInt8)(h46:((46:UInt8) == c)=false)(n:Int)(hn : -1<=n/\n<=59)(hd:0<=n->∀ b∈eh n,(b == c)=false):∀ b∈eV n,(b == c)=false:=by
 intro b hb;unfold eV at hb;by_cases h:n<0
 .rw[decide_eq_true h] at hb;have:b=46:=by simpa using hb
  rw[this];exact h46
 .rw[b0D h] at hb;exact hd (by omega) b hb
def qB(n:Int)(hn : -1<=n/\n<=59):(∀ b∈eV n,(b == 10)=false)/\(∀ b∈eV n,(b == 32)=false)/\(∀ b∈eV n,(b == 58)=false)/\(eV n).length<=2 /\
  jK 2 (eV n)=n/\oS 2 (eV n)=true/\jK 9 (eV n)=n/\oS 9 (eV n)=true:=by
 have D:0<=n->DgF n:=λ h=>uc n ⟨h,hn.2⟩;refine⟨Ka 10 (by decide) n hn λ h=>(D h).n10,Ka 32 (by decide) n hn λ h=>(D h).n32,Ka 58 (by decide) n hn λ h=>(D h).n58,?_⟩;by_cases h:n<0
 .have e:n = -1:=by omega
  subst e;exact⟨by decide,by decide,by decide,by decide,by decide⟩
 .have d:=D (by omega);have e:eV n=eh n:=by unfold eV;rw[decide_eq_false h];rfl
  have ne:eh n≠[46]:=λ q=>by
   have:=d.n46 46 (by rw[q];simp);exact absurd this (by decide)
  rw[e];unfold jK oS;rw[decide_eq_false ne];exact⟨d.len,d.v2,by rw[d.b2];rfl,d.v9,by rw[d.b9];rfl⟩
def PW(c a:UInt8)(l:List UInt8)(h1:(a == c)=false)(h2:∀ x∈l,(x == c)=false):∀ x∈a::l,(x == c)=false:=λ x hx=>by
 rcases a9k.1 hx with rfl|hx
 .exact h1
 .exact h2 x hx
def Jk{α:Type}(c:UInt8)(f:α->List UInt8):∀ xs:List α,(∀ x∈xs,∀ b∈f x,(b == c)=false)->∀ b∈jg f xs,(b == c)=false
 | [],_,b,hb=>by cases hb
 | x::xs,h,b,hb=>by
  rw[tY] at hb;exact (a8X.1 hb).elim (h x (by simp) b) (Jk c f xs (λ y hy=>h y (by simp[hy])) b)
def TY(c:UInt8)(h1:((43:UInt8) == c)=false)(h2:((45:UInt8) == c)=false)(b:Bool):∀ x∈Ll b,(x == c)=false:=λ x hx=>by
 cases b
 .have:x=45:=by simpa [Ll] using hx
  rw[this];exact h2
 .have:x=43:=by simpa [Ll] using hx
  rw[this];exact h1
def CC{α:Type}(c:UInt8)(f:α->List UInt8):∀ (xs:List α) (a:List UInt8),(∀ b∈a,(b == c)=false)->(∀ x∈xs,∀ b∈f x,(b == c)=false)->bO c (a++jg (λ x=>c::f x) xs)=a::xs.map f
 | [],a,h,_=>by rw[RE,a9U,Gp c a h];rfl
 | x::xs,a,h,hf=>by
  rw[tY];show bO c (a++c::(f x++jg _ xs))=_;rw[tp c a _ h,CC c f xs (f x) (hf x (by simp)) λ y hy=>hf y (by simp[hy])];rfl
def LW{α:Type}(f:α->List UInt8):∀ (xs:List α) (r:List UInt8),(∀ x∈xs,∀ b∈f x,(b == 10)=false)->bO 10 (jg (λ x=>f x++[10]) xs++r)=xs.map f++bO 10 r
 | [],r,_=>rfl
 | x::xs,r,hf=>by
  rw[tY,a9B,a9B];show bO 10 (f x++10::(jg _ xs++r))=_;rw[tp 10 _ _ (hf x (by simp)),LW f xs r λ y hy=>hf y (by simp[hy])];rfl
def Zv(r:List Int):Prop:=∀ k∈r,-1<=k/\k<=59
def map_id'{α:Type}(f:α->α):∀ xs:List α,(∀ x∈xs,f x=x)->xs.map f=xs
 | [],_=>rfl
 | x::xs,h=>by rw[a9x,h x (by simp),map_id' f xs λ y hy=>h y (by simp[hy])]
def nK{α:Type}(p:α->Bool):∀ xs:List α,(∀ x∈xs,p x=true)->bX p xs=true
 | [],_=>rfl
 | x::xs,h=>by rw[bX,h x (by simp),nK p xs λ y hy=>h y (by simp[hy])];rfl
structure a3y(p:Bool×List Int):Prop where
 cut:bO 58 (jY p)=Ll p.1::p.2.map eV
 n32:∀ b∈jY p,(b == 32)=false
 n10:∀ b∈jY p,(b == 10)=false
 s:iC (jY p)=p.1
 g:Mn (jY p)=true
 v2:oF 2 (jY p)=p.2
 k2:Qb 2 (jY p)=true
 v9:oF 9 (jY p)=p.2
 k9:Qb 9 (jY p)=true
def a5c(p:Bool×List Int)(h:Zv p.2):a3y p:=by
 have c:=CC 58 eV p.2 (Ll p.1) (TY 58 (by decide) (by decide) p.1) λ x hx=>(qB x (h x hx)).2.2.1;have c:bO 58 (jY p)=Ll p.1::p.2.map eV:=c;have e1:ZQ (jY p)=Ll p.1:=by unfold ZQ;rw[c];rfl
 have e2:jq (jY p)=p.2.map eV:=by unfold jq;rw[c];rfl
 have hs:iC (jY p)=p.1:=by unfold iC;rw[e1];cases p.1<;>rfl
 refine⟨c,Eh 32 _ _ (TY 32 (by decide) (by decide) p.1) (Jk 32 _ _ λ x hx=>PW 32 58 _ (by decide) (qB x (h x hx)).2.1),Eh 10 _ _ (TY 10 (by decide) (by decide) p.1) (Jk 10 _ _ λ x hx=>PW 10 58 _ (by decide) (qB x (h x hx)).1),hs,?_,?_,?_,?_,?_⟩
 .unfold Mn;rw[hs,e1];cases p.1<;>rfl
 .unfold oF;rw[e2,List.map_map];exact map_id' _ _ λ x hx=>(qB x (h x hx)).2.2.2.2.1
 .unfold Qb;rw[e2];exact nK _ _ λ y hy=>by obtain⟨x,hx,rfl⟩:=List.mem_map.1 hy;exact (qB x (h x hx)).2.2.2.2.2.1
 .unfold oF;rw[e2,List.map_map];exact map_id' _ _ λ x hx=>(qB x (h x hx)).2.2.2.2.2.2.1
 .unfold Qb;rw[e2];exact nK _ _ λ y hy=>by obtain⟨x,hx,rfl⟩:=List.mem_map.1 hy;exact (qB x (h x hx)).2.2.2.2.2.2.2
structure StF(p:List Bool×List (List Int)):Prop where
 cut:bO 32 (tl p)=[115,116,97,116,101]::(p.1.zip p.2).map jY
 n10:∀ b∈tl p,(b == 10)=false
 a:lZ (tl p)=p.1
 v2:kp 2 (tl p)=p.2
 b2:eZ 2 (tl p)=true
 v9:kp 9 (tl p)=p.2
 b9:eZ 9 (tl p)=true
def zip_fst{α β:Type}:∀ (xs:List α) (ys:List β),xs.length=ys.length->(xs.zip ys).map Prod.fst=xs/\(xs.zip ys).map Prod.snd=ys
 | [],[],_=>⟨rfl,rfl⟩
 | x::xs,y::ys,h=>by
  obtain⟨h1,h2⟩:=zip_fst xs ys (by simpa using h);exact⟨by rw[List.zip_cons_cons,List.map_cons,h1],by rw[List.zip_cons_cons,List.map_cons,h2]⟩
def ki{α β:Type}(f g:α->β):∀ xs:List α,(∀ x∈xs,f x=g x)->xs.map f=xs.map g
 | [],_=>rfl
 | x::xs,h=>by rw[a9x,a9x,h x (by simp),ki f g xs λ y hy=>h y (by simp[hy])]
def a4B(p:List Bool×List (List Int))(hl:p.1.length=p.2.length)(h:∀ r∈p.2,Zv r):StF p:=by
 have hz:∀ q∈p.1.zip p.2,a3y q:=λ q hq=>a5c q (h q.2 (List.of_mem_zip hq).2);have c:bO 32 (tl p)=[115,116,97,116,101]::(p.1.zip p.2).map jY:=CC 32 jY (p.1.zip p.2) [115,116,97,116,101] (by decide) λ q hq=>(hz q hq).n32;have e:dS (tl p)=(p.1.zip p.2).map jY:=by unfold dS;rw[c];rfl
 obtain⟨z1,z2⟩:=zip_fst p.1 p.2 hl;refine⟨c,Eh 10 _ _ (by decide) (Jk 10 _ _ λ q hq=>PW 10 32 _ (by decide) (hz q hq).n10),?_,?_,?_,?_,?_⟩
 .unfold lZ;rw[e,List.map_map];exact (ki (iC ∘ jY) Prod.fst _ λ q hq=>(hz q hq).s).trans z1
 .unfold kp;rw[e,List.map_map];exact (ki (oF 2 ∘ jY) Prod.snd _ λ q hq=>(hz q hq).v2).trans z2
 .unfold eZ;rw[e];exact nK _ _ λ y hy=>by obtain⟨q,hq,rfl⟩:=List.mem_map.1 hy;unfold DY;rw[(hz q hq).k2,(hz q hq).g];rfl
 .unfold kp;rw[e,List.map_map];exact (ki (oF 9 ∘ jY) Prod.snd _ λ q hq=>(hz q hq).v9).trans z2
 .unfold eZ;rw[e];exact nK _ _ λ y hy=>by obtain⟨q,hq,rfl⟩:=List.mem_map.1 hy;unfold DY;rw[(hz q hq).k9,(hz q hq).g];rfl
def gW(t:List UInt8):List (List UInt8):=(bO 10 t).take ((bO 10 t).length - 1)
def Np(t:List UInt8):Bool:=decide ((bO 10 t).getD ((bO 10 t).length - 1) []=[])
def ET(t:List UInt8):List (List UInt8):=bO 32 ((bO 10 t).getD 0 [])
def dD(t:List UInt8):List (List UInt8):=(gW t).drop 1
def aR(h k:Int)(t:List UInt8):aj:=aj.mk (aF.mk (dr h ((ET t).getD 1 [])) (dr h ((ET t).getD 2 []))) ((dD t).map lZ) ((dD t).map (kp k))
def Vr(h:Int)(t:List UInt8):Bool:=dz h ((ET t).getD 1 [])&&dz h ((ET t).getD 2 [])
def stB(l:List UInt8):Bool:=decide ((bO 32 l).getD 0 []=[115,116,97,116,101])&&eZ 9 l
def K6(t:List UInt8):Bool:=Np t&&(decide (1<=(gW t).length/\(gW t).length<=61)&&(decide ((ET t).length=3)&&(bX (eZ 2) (dD t)&&(Vr 1 t&&(aOk (aR 1 2 t)&&decide (atx (aR 1 2 t)=t))))))
def okH(t:List UInt8):Bool:=decide (2<=(bO 10 t).length)&&(Np t&&(decide ((ET t).length=3)&&decide ((ET t).getD 0 []=[97,117,116,111,109,97,116,111,110])))
def okS(t:List UInt8):Bool:=okH t&&(Vr 9 t&&(bX stB (dD t)&&aOk (aR 9 9 t)))
def D4(c:UInt8)(l:List UInt8):1<=(bO c l).length:=by
 unfold bO;simp
structure a7M(t:List UInt8):Prop where
 h2:2<=(bO 10 t).length
 lb:Np t=true
 hw:(ET t).length=3
 h0:(ET t).getD 0 []=[97,117,116,111,109,97,116,111,110]
 nm:Vr 9 t=true
 ls:bX stB (dD t)=true
 ok:aOk (aR 9 9 t)=true
structure AOk(a:aj):Prop where
 sig:cG a.sig=true
 t:0<=a.sig.aK/\a.sig.aK<=3
 c:0<=a.sig.au/\a.sig.au<=4
 n1:1<=a.accept.length
 n2:a.accept.length<=60
 nx:a.next.length=a.accept.length
 st:∀ p∈a.accept.zip a.next,p.1.length=p.2.length/\(p.1.length:Int)=aV a.sig/\∀ r∈p.2,Zv r/\(r.length:Int)=a.sig.au
def Su(a:aj)(h:aOk a=true):AOk a:=by
 simp only[aOk,HF,a9e,a9d] at h;obtain⟨⟨⟨h1,h2⟩,h3⟩,h4⟩:=h;have hs:=(dA a.sig).1 h1;refine⟨h1,hs.1,hs.2,h2.1,h2.2,h3,λ p hp=>?_⟩;obtain⟨i,hi,e⟩:=b0K hp;have gI:i<a.accept.length:=by simp at hi;omega
 have hs:=(J0 _ _).1 h4 i gI;unfold xp a4A at hs;have e1:p.1=a.accept.getD i []:=by rw[<-e];simp[List.getD_eq_getElem?_getD,gI]
 have e2:p.2=a.next.getD i []:=by rw[<-e];simp[a9h,show i<a.next.length by omega]
 rw[<-e1,<-e2] at hs;simp only[Bool.and_eq_true,decide_eq_true_eq] at hs;refine⟨by omega,hs.1.1,λ r hr=>?_⟩;have:=Ro _ _ hs.2 r hr;unfold xn at this;rw[Bool.and_eq_true,decide_eq_true_eq] at this;refine⟨λ k hk=>?_,this.1⟩;have:=of_decide_eq_true (Ro _ _ this.2 k hk);omega
structure RtF(a:aj):Prop where
 c:bO 10 (atx a)=IM a.sig::(a.accept.zip a.next).map tl++[[]]
 w:ET (atx a)=[[97,117,116,111,109,97,116,111,110],eh a.sig.aK,eh a.sig.au]
 b:dD (atx a)=(a.accept.zip a.next).map tl
 l:(gW (atx a)).length=a.accept.length+1
 e:Np (atx a)=true
def a7w(a:aj)(h:aOk a=true):RtF a:=by
 have A:=Su a h;have d1:=uc a.sig.aK ⟨A.t.1,by have:=A.t.2;omega⟩;have d2:=uc a.sig.au ⟨A.c.1,by have:=A.c.2;omega⟩;have h10:∀ b∈IM a.sig,(b == 10)=false:=Eh 10 _ _ (Eh 10 _ _ (Eh 10 _ _ (by decide) d1.n10) (by decide)) d2.n10;have hS:∀ p∈a.accept.zip a.next,StF p:=λ p hp=>a4B p (A.st p hp).1 λ r hr=>((A.st p hp).2.2 r hr).1;have c:bO 10 (atx a)=IM a.sig::(a.accept.zip a.next).map tl++[[]]:=by
  unfold atx;rw[tp 10 _ _ h10];have:=LW tl (a.accept.zip a.next) [] λ p hp=>(hS p hp).n10;rw[List.append_nil] at this;rw[this];rfl
 have hl:(bO 10 (atx a)).length=a.accept.length+2:=by
  rw[c];simp[A.nx]
 have hI:gW (atx a)=IM a.sig::(a.accept.zip a.next).map tl:=by
  unfold gW;rw[hl,c,List.take_append_of_le_length (by simp[A.nx]),List.take_of_length_le (by simp[A.nx])]
 refine⟨c,?_,by unfold dD;rw[hI];rfl,by rw[hI];simp[A.nx],?_⟩
 .unfold ET;rw[c];show bO 32 (IM a.sig)=_;have e:IM a.sig=[97,117,116,111,109,97,116,111,110]++32::(eh a.sig.aK++32::eh a.sig.au):=by simp[IM]
  rw[e,tp 32 _ _ (by decide),tp 32 _ _ d1.n32,Gp 32 _ d2.n32]
 .unfold Np;rw[hl,c];refine decide_eq_true ?_;rw[List.getD_eq_getElem?_getD,List.getElem?_append_right (by simp[A.nx])];simp[A.nx]
def a7v(a:aj)(h:aOk a=true):(aR 1 2 (atx a)=a/\K6 (atx a)=true)/\(aR 9 9 (atx a)=a/\okS (atx a)=true):=by
 have A:=Su a h;obtain⟨c,w,b,l,e⟩:=a7w a h;have d1:=uc a.sig.aK ⟨A.t.1,by have:=A.t.2;omega⟩;have d2:=uc a.sig.au ⟨A.c.1,by have:=A.c.2;omega⟩;have o1:=X0 a.sig.aK ⟨A.t.1,by have:=A.t.2;omega⟩;have o2:=X0 a.sig.au ⟨A.c.1,by have:=A.c.2;omega⟩;have hS:∀ p∈a.accept.zip a.next,StF p:=λ p hp=>a4B p (A.st p hp).1 λ r hr=>((A.st p hp).2.2 r hr).1;obtain⟨z1,z2⟩:=zip_fst a.accept a.next A.nx.symm;have ea:(dD (atx a)).map lZ=a.accept:=by
  rw[b,b2a];exact (ki (lZ ∘ tl) Prod.fst _ λ p hp=>(hS p hp).a).trans z1
 have e2:(dD (atx a)).map (kp 2)=a.next:=by
  rw[b,b2a];exact (ki (kp 2 ∘ tl) Prod.snd _ λ p hp=>(hS p hp).v2).trans z2
 have e9:(dD (atx a)).map (kp 9)=a.next:=by
  rw[b,b2a];exact (ki (kp 9 ∘ tl) Prod.snd _ λ p hp=>(hS p hp).v9).trans z2
 have r1:aR 1 2 (atx a)=a:=by
  unfold aR;rw[ea,e2,w];show aj.mk (aF.mk (dr 1 (eh a.sig.aK)) (dr 1 (eh a.sig.au))) a.accept a.next=a;rw[o1.2,o2.2]
 have r9:aR 9 9 (atx a)=a:=by
  unfold aR;rw[ea,e9,w];show aj.mk (aF.mk (dr 9 (eh a.sig.aK)) (dr 9 (eh a.sig.au))) a.accept a.next=a;rw[d1.v9,d2.v9]
 have l2:bX (eZ 2) (dD (atx a))=true:=nK _ _ λ y hy=>by rw[b] at hy;obtain⟨p,hp,rfl⟩:=a9b.1 hy;exact (hS p hp).b2
 have l9:bX stB (dD (atx a))=true:=nK _ _ λ y hy=>by
  rw[b] at hy;obtain⟨p,hp,rfl⟩:=List.mem_map.1 hy;unfold stB;rw[(hS p hp).b9,(hS p hp).cut];rfl
 have hl:(bO 10 (atx a)).length=a.accept.length+2:=by rw[c];simp[A.nx]
 have m1:Vr 1 (atx a)=true:=by
  unfold Vr;rw[w];show (dz 1 (eh _)&&dz 1 (eh _))=true;rw[o1.1,o2.1];rfl
 have m9:Vr 9 (atx a)=true:=by
  unfold Vr;rw[w];show (dz 9 (eh _)&&dz 9 (eh _))=true;rw[d1.b9,d2.b9];rfl
 refine⟨⟨r1,?_⟩,r9,?_⟩
 .unfold K6;rw[r1,e,l2,m1,h,decide_eq_true (rfl:atx a=atx a),decide_eq_true (show 1<=(gW (atx a)).length/\(gW (atx a)).length<=61 from by have:=A.n2;omega),decide_eq_true (show (ET (atx a)).length=3 from by rw[w];rfl)];rfl
 .unfold okS okH;rw[r9,e,l9,m9,h,decide_eq_true (show 2<=(bO 10 (atx a)).length from by omega),decide_eq_true (show (ET (atx a)).length=3 from by rw[w];rfl),decide_eq_true (show (ET (atx a)).getD 0 []=[97,117,116,111,109,97,116,111,110] from by rw[w];rfl)];rfl
def raV(t:List UInt8):aj:=bif K6 t then aR 1 2 t else aj.mk (aF.mk (0:Int) (0:Int)) [] []
def raC(t:List UInt8):Int:=bif K6 t then 0 else 5
def zt(t:List UInt8):(K6 t=true->raV t=aR 1 2 t/\raC t=0)/\(K6 t=false->raV t=aj.mk (aF.mk (0:Int) (0:Int)) [] []/\raC t=5):=by
 refine⟨λ h=>?_,λ h=>?_⟩<;>· unfold raV raC;rw[h];exact⟨rfl,rfl⟩
end
end Go.Proofs.YtofnjfpeimhifaaGreatDoor

/- VmRds, VmRdx, VmEqn, VmAxi, VmPf2, VmPf3, VmPf4, VmPf5, VmPf6, VmPf7, VmLnx, VmPf8, VmPf9. -/
import Derived.Test.YtmjfpcajohhbeaaGreatDoorVmRdm
import Derived.WalkKit
import Derived.Deep.QuietTactic
import Derived.BigQuiet
import Derived.LoopTactic
import Derived.Deep.RegionWith
set_option linter.all false
set_option maxRecDepth 4000
set_option maxHeartbeats 4000000
namespace Go.Proofs.YtmjfpcajohhbeaaGreatDoor
def b4i:=@cond_false
def b3D:=@List.getElem?_take_of_lt
def b1T:=@Array.getElem?_push
def b2z:=@Array.size_push
def b4g:=@Go.heap_setCell_same
def b3Z:=@Go.heap_setCell_other
noncomputable section
def Uz(c:UInt8):∀ l:List UInt8,fG c l<=l.length
 | []=>b1E _
 | b::l=>by
  have:=Uz c l;unfold fG;split<;>simp<;>omega
def Uw:∀ l:List UInt8,sj l<=l.length
 | []=>b1E _
 | b::l=>by
  have:=Uw l;unfold sj;split<;>simp<;>omega
def wG(t:List UInt8)(a:Nat)(h:¬ bY t a=0):a<t.length:=by
 unfold bY at h;split at h
 .assumption
 .exact absurd rfl h
def FE(t:List UInt8)(a:Nat)(c:Int)(hc:¬ c=0)(h:a<=t.length):bK t a c<=t.length:=by
 unfold bK;split
 .rename_i e;have:=wG t a (by rw[e];exact hc);omega
 .exact h
def a3V(t:List UInt8)(r:RS)(h:r.a<=t.length):(C6 t r).a<=t.length/\(C6 t r).dp=r.dp - 1:=by
 have:=Uz 42 (t.drop r.a);simp only[List.length_drop] at this;unfold C6;split
 .exact⟨h,rfl⟩
 .exact⟨by show r.a+fG 42 (t.drop r.a)<=_;omega,rfl⟩
structure Yi(t:List UInt8)(dp m:Nat)(r:RS):Prop where
 a:r.a<=t.length
 lo:dp<=r.dp
 hi:r.dp<=m
def Jp(inner:Nat->Nat->RS)(t:List UInt8)(a dp:Nat)(bad:Bool)(ha:a<=t.length)(hi:dp+1<=100->bad=false->Yi t (dp+1) 102 (inner a (dp+1))):Yi t dp (max 101 (dp+1)) (fm inner t a dp bad):=by
 unfold fm;split
 .exact⟨ha,b4K _,by show dp+1<=_;omega⟩
 .rename_i h;have hb:bad=false:=by cases bad<;>simp_all
  have g:=hi (by omega) hb;have s:=a3V t _ g.a;have:=g.lo;have:=g.hi;exact⟨s.1,by rw[s.2];omega,by rw[s.2];omega⟩
def V1(inner:Nat->Nat->RS)(t:List UInt8)(x:RS)(k:Int)(a dp:Nat)(bad:Bool)(hd:dp<=100)(ha:a<=t.length)(hx:Yi t dp 101 x)(hb:bad=false->x.dp=dp)(hi:dp+1<=100->∀ a,a<=t.length->Yi t (dp+1) 102 (inner a (dp+1))) :
  Yi t dp 102 (C2 inner t x k a bad):=by
 have:=hx.lo;have:=hx.hi;have hy:=Jp inner t a x.dp bad ha (λ h1 h2=>by rw[hb h2] at h1 ⊢;exact hi h1 a ha);have:=hy.lo;have:=hy.hi;unfold C2;exact⟨FE t _ 41 (by decide) hy.a,by show dp<=(fm inner t a x.dp bad).dp;omega,by show (fm inner t a x.dp bad).dp<=102;omega⟩
def EB(t:List UInt8)(a:Nat)(c:Int)(bad:Bool)(h:bZ t a c bad=false):bad=false:=by
 unfold bZ at h;split at h
 .exact h
 .cases h
def X4(inner:Nat->Nat->RS)(t:List UInt8)(x:RS)(dp:Nat)(hd:dp<=100)(hx:Yi t dp 101 x)(hb:x.bad=false->x.dp=dp)(hi:dp+1<=100->∀ a,a<=t.length->Yi t (dp+1) 102 (inner a (dp+1))) :
  Yi t dp 102 (yb inner t x):=by
 have h1:=FE t x.a 32 (by decide) hx.a;unfold yb;split
 .rename_i e;have h2:=wG t (bK t x.a 32) (by rw[e];decide);exact V1 inner t x 6 _ dp _ hd (FE t _ 32 (by decide) (by omega)) hx (λ h=>hb (EB t _ _ _ (EB t _ _ _ h))) hi
 .exact V1 inner t x 7 _ dp _ hd h1 hx (λ h=>hb (EB t _ _ _ h)) hi
def mi(t:List UInt8)(g a dp:Nat):cR t g a dp=if bY t a=48 then ⟨J.mk 1 0 [],a+1,dp,false⟩ else if bY t a=49 then ⟨J.mk 2 0 [],a+1,dp,false⟩ else
  if bY t a=116\/bY t a=97 then dr t a dp else
  if bY t a=126 then (match g with
   | 0=>⟨zX,a+1,dp+1,true⟩
   | g+1=>⟨J.mk 5 0 [(cR t g (a+1) (dp+1)).e],(cR t g (a+1) (dp+1)).a,(cR t g (a+1) (dp+1)).dp - 1,(cR t g (a+1) (dp+1)).bad⟩) else
  if bY t a=40 then (match g with
   | 0=>yb (λ _ _=>⟨zX,0,0,true⟩) t (fm (λ _ _=>⟨zX,0,0,true⟩) t (a+1) dp false)
   | g+1=>yb (cR t g) t (fm (cR t g) t (a+1) dp false)) else ⟨zX,a,dp,true⟩:=by
 exact cR.eq_def t g a dp
def zU(t:List UInt8):∀ (g a dp:Nat),g+dp=100->a<=t.length->Yi t dp 102 (cR t g a dp)
 | g,a,dp,hg,ha=>by
  have lt:∀ c:Int,¬ c=0->bY t a=c->a+1<=t.length:=λ c hc h=>wG t a (by rw[h];exact hc);rw[mi];split
  .rename_i h;exact⟨lt _ (by decide) h,b1E _,by show dp<=102;omega⟩
  .split
   .rename_i h;exact⟨lt _ (by decide) h,b1E _,by show dp<=102;omega⟩
   .split
    .rename_i h;have h1:a+1<=t.length:=by rcases h with h|h<;>exact lt _ (by decide) h
     have:=Uw (t.drop (a+1));simp only[b1Y] at this;exact⟨by show a+1+sj (t.drop (a+1))<=_;omega,b1E _,by show dp<=102;omega⟩
    .split
     .rename_i h;have h1:=lt _ (by decide) h;cases g with
      | zero=>exact⟨h1,b4K _,by show dp+1<=102;omega⟩
      | succ g =>
       have ih:=zU t g (a+1) (dp+1) (by omega) h1;have:=ih.lo;have:=ih.hi;exact⟨ih.a,by show dp<=(cR t g (a+1) (dp+1)).dp - 1;omega,by show (cR t g (a+1) (dp+1)).dp - 1<=102;omega⟩
     .split
      .rename_i h;have h1:=lt _ (by decide) h;cases g with
       | zero =>
        have hx:=Jp (λ _ _=>⟨zX,0,0,true⟩) t (a+1) dp false h1 (λ h=>by omega);refine X4 _ t _ dp (by omega) ⟨hx.a,hx.lo,by have:=hx.hi;omega⟩ (λ hb=>?_) (λ h=>by omega);exact ((vI (λ _ _=>⟨zX,0,0,true⟩) t (a+1) dp false (λ h=>by omega)).ex hb).1
       | succ g =>
        have hx:=Jp (cR t g) t (a+1) dp false h1 (λ _ _=>zU t g (a+1) (dp+1) (by omega) h1);refine X4 _ t _ dp (by omega) ⟨hx.a,hx.lo,by have:=hx.hi;omega⟩ (λ hb=>?_) (λ _ a' ha'=>zU t g a' (dp+1) (by omega) ha');exact ((vI (cR t g) t (a+1) dp false (λ _=>Fe t g (a+1) (dp+1) (by omega))).ex hb).1
      .exact⟨ha,b1E _,by show dp<=102;omega⟩
def bh(t:List UInt8)(a dp:Int):RS:=cR t (100 - dp).toNat a.toNat dp.toNat
def bO(t:List UInt8)(a dp:Int)(bad:Bool):RS:=fm (cR t (99 - dp).toNat) t a.toNat dp.toNat bad
def sE(t:List UInt8)(r:RS):Nat:=if r.bad=true then 0 else fG 42 (t.drop r.a)
def a5S(t:List UInt8)(r:RS):C6 t r=⟨bp 8 (sE t r) r.e,r.a+sE t r,r.dp - 1,r.bad⟩:=by
 unfold C6 sE;cases r.bad<;>rfl
def OS(t:List UInt8)(a dp:Int)(h0:0<=a)(h1:a<=(t.length:Int))(h2:0<=dp)(h3:dp<=100):((bh t a dp).a:Int)<=(t.length:Int)/\dp<=((bh t a dp).dp:Int)/\((bh t a dp).dp:Int)<=102:=by
 have g:=zU t (100 - dp).toNat a.toNat dp.toNat (by omega) (by omega);have:=g.a;have:=g.lo;have:=g.hi;unfold bh;omega
def TL(t:List UInt8)(a dp:Int)(bad:Bool)(h0:0<=a)(h1:a<=(t.length:Int))(h2:0<=dp):((bO t a dp bad).a:Int)<=(t.length:Int)/\dp<=((bO t a dp bad).dp:Int)/\(((bO t a dp bad).dp:Int)<=101\/((bO t a dp bad).dp:Int)<=dp+1):=by
 have g:=Jp (cR t (99 - dp).toNat) t a.toNat dp.toNat bad (by omega) (λ h _=>zU t (99 - dp).toNat a.toNat (dp.toNat+1) (by omega) (by omega));have:=g.a;have:=g.lo;have:=g.hi;unfold bO;omega
def ZZ(t:List UInt8)(a dp:Int)(bad:Bool)(h0:0<=a)(h2:0<=dp)(h:bad=true\/100<dp+1):(bO t a dp bad).e=zX/\((bO t a dp bad).a:Int)=a/\((bO t a dp bad).dp:Int)=dp+1/\(bO t a dp bad).bad=true:=by
 unfold bO fm;rw[if_pos (by rcases h with h|h;exact .inl h;exact .inr (by omega))];exact⟨rfl,by show ((a.toNat:Nat):Int)=a;omega,by show ((dp.toNat+1:Nat):Int)=dp+1;omega,rfl⟩
def a7Y(t:List UInt8)(a dp:Int)(bad:Bool)(h0:0<=a)(h2:0<=dp)(h:bad=false)(h':¬ 100<dp+1):bO t a dp bad=C6 t (bh t a (dp+1)):=by
 unfold bO fm bh;rw[if_neg (by rw[h];rintro (g|g);cases g;omega),show (100 - (dp+1)).toNat=(99 - dp).toNat by omega,show (dp+1).toNat=dp.toNat+1 by omega]
def a6p(t:List UInt8)(a dp:Int)(bad:Bool)(h0:0<=a)(h1:a<=(t.length:Int))(h2:0<=dp)(h:bad=false)(h':¬ 100<dp+1):(bO t a dp bad).e=bp 8 (sE t (bh t a (dp+1))) (bh t a (dp+1)).e/\((bO t a dp bad).a:Int)=((bh t a (dp+1)).a:Int)+(sE t (bh t a (dp+1)):Int) /\
  ((bO t a dp bad).dp:Int)=((bh t a (dp+1)).dp:Int) - 1/\(bO t a dp bad).bad=(bh t a (dp+1)).bad:=by
 have:=OS t a (dp+1) h0 h1 (by omega) (by omega);rw[a7Y t a dp bad h0 h2 h h',a5S];refine⟨rfl,by simp,?_,rfl⟩;show (((bh t a (dp+1)).dp - 1:Nat):Int)=_;omega
def a8z(t:List UInt8)(a dp:Int)(h0:0<=a)(h1:a<=(t.length:Int))(h2:0<=dp)(h3:dp<=100):((bh t a dp).a:Int)+(sE t (bh t a dp):Int)<=(t.length:Int):=by
 have:=OS t a dp h0 h1 h2 h3;have h:=Uz 42 (t.drop (bh t a dp).a);simp only[List.length_drop] at h;unfold sE;split<;>omega
structure Y7(r:RS)(e:J)(a dp:Int)(bad:Bool):Prop where
 e:r.e=e
 a:(r.a:Int)=a
 dp:(r.dp:Int)=dp
 bad:r.bad=bad
def a9R(t:List UInt8)(a dp:Int)(h0:0<=a)(h2:0<=dp)(h:bY t a.toNat=48):Y7 (bh t a dp) (J.mk 1 0 []) (a+1) dp false:=by
 unfold bh;rw[mi,if_pos h];exact⟨rfl,by show ((a.toNat+1:Nat):Int)=_;omega,by show ((dp.toNat:Nat):Int)=_;omega,rfl⟩
def a9S(t:List UInt8)(a dp:Int)(h0:0<=a)(h2:0<=dp)(h:bY t a.toNat=49):Y7 (bh t a dp) (J.mk 2 0 []) (a+1) dp false:=by
 unfold bh;rw[mi,if_neg (by rw[h];decide),if_pos h];exact⟨rfl,by show ((a.toNat+1:Nat):Int)=_;omega,by show ((dp.toNat:Nat):Int)=_;omega,rfl⟩
def a0k(t:List UInt8)(a dp:Int)(h:bY t a.toNat=116\/bY t a.toNat=97):bh t a dp=dr t a.toNat dp.toNat:=by
 unfold bh;rw[mi,if_neg (by rcases h with h|h<;>rw[h]<;>decide),if_neg (by rcases h with h|h<;>rw[h]<;>decide),if_pos h]
def a6A(t:List UInt8)(a dp:Int)(h0:0<=a)(h1:a+1<=(t.length:Int))(h2:0<=dp)(h3:¬ 100<dp+1)(h:bY t a.toNat=126):Y7 (bh t a dp) (J.mk 5 0 [(bh t (a+1) (dp+1)).e]) ((bh t (a+1) (dp+1)).a:Int) (((bh t (a+1) (dp+1)).dp:Int) - 1) (bh t (a+1) (dp+1)).bad:=by
 have hb:=OS t (a+1) (dp+1) (by omega) (by omega) (by omega) (by omega);have e:bh t a dp=⟨J.mk 5 0 [(bh t (a+1) (dp+1)).e],(bh t (a+1) (dp+1)).a,(bh t (a+1) (dp+1)).dp - 1,(bh t (a+1) (dp+1)).bad⟩:=by
  unfold bh;obtain⟨g,hg⟩:∃ g,(100 - dp).toNat=g+1:=⟨(99 - dp).toNat,by omega⟩;rw[show (100 - (dp+1)).toNat=g by omega,show (a+1).toNat=a.toNat+1 by omega,show (dp+1).toNat=dp.toNat+1 by omega,hg];conv=>lhs;rw[mi]
  rw[b0Y (by rw[h];decide),b0Y (by rw[h];decide),b0Y (by rw[h];decide),b1q h]
 rw[e];exact⟨rfl,rfl,by show (((bh t (a+1) (dp+1)).dp - 1:Nat):Int)=_;omega,rfl⟩
def a5o(t:List UInt8)(a dp:Int)(h0:0<=a)(h2:0<=dp)(h3:100<dp+1)(h:bY t a.toNat=126):Y7 (bh t a dp) zX (a+1) (dp+1) true:=by
 unfold bh;rw[show (100 - dp).toNat=0 by omega,mi,if_neg (by rw[h];decide),if_neg (by rw[h];decide),if_neg (by rw[h];decide),if_pos h];exact⟨rfl,by show ((a.toNat+1:Nat):Int)=_;omega,by show ((dp.toNat+1:Nat):Int)=_;omega,rfl⟩
def a5p(t:List UInt8)(a dp:Int)(h0:0<=a)(h2:0<=dp)(h:¬ bY t a.toNat=48/\¬ bY t a.toNat=49/\¬ bY t a.toNat=116/\¬ bY t a.toNat=97/\¬ bY t a.toNat=126/\¬ bY t a.toNat=40):Y7 (bh t a dp) zX a dp true:=by
 unfold bh;rw[mi,if_neg h.1,if_neg h.2.1,if_neg (by rintro (g|g);exact h.2.2.1 g;exact h.2.2.2.1 g),if_neg h.2.2.2.2.1,if_neg h.2.2.2.2.2];exact⟨rfl,by show ((a.toNat:Nat):Int)=_;omega,by show ((dp.toNat:Nat):Int)=_;omega,rfl⟩
def yE(t:List UInt8)(x:RS)(a:Int)(bad:Bool):RS:=bO t a (x.dp:Int) bad
def X1(inner:Nat->Nat->RS)(t:List UInt8)(x:RS)(k:Int)(a:Nat)(bad:Bool)(hi:fm inner t a x.dp bad=yE t x (a:Int) bad) :
  Y7 (C2 inner t x k a bad) (J.mk k 0 [x.e,(yE t x (a:Int) bad).e]) ((bK t (yE t x (a:Int) bad).a 41:Nat):Int) ((yE t x (a:Int) bad).dp:Int) (bZ t (yE t x (a:Int) bad).a 41 (yE t x (a:Int) bad).bad):=by
 unfold C2;rw[hi];exact⟨rfl,rfl,rfl,rfl⟩
def a5q(t:List UInt8)(a dp:Int)(h0:0<=a)(h1:a+1<=(t.length:Int))(h2:0<=dp)(h3:dp<=100)(h:bY t a.toNat=40)(X:RS)(hX:X=bO t (a+1) dp false) :
  (bY t (bK t X.a 32)=43->Y7 (bh t a dp) (J.mk 6 0 [X.e,(yE t X ((bK t (bK t X.a 32+1) 32:Nat):Int) (bZ t (bK t X.a 32+1) 32 (bZ t X.a 32 X.bad))).e]) ((bK t (yE t X ((bK t (bK t X.a 32+1) 32:Nat):Int) (bZ t (bK t X.a 32+1) 32 (bZ t X.a 32 X.bad))).a 41:Nat):Int)
   ((yE t X ((bK t (bK t X.a 32+1) 32:Nat):Int) (bZ t (bK t X.a 32+1) 32 (bZ t X.a 32 X.bad))).dp:Int) (bZ t (yE t X ((bK t (bK t X.a 32+1) 32:Nat):Int) (bZ t (bK t X.a 32+1) 32 (bZ t X.a 32 X.bad))).a 41 (yE t X ((bK t (bK t X.a 32+1) 32:Nat):Int) (bZ t (bK t X.a 32+1) 32 (bZ t X.a 32 X.bad))).bad)) /\
  (¬ bY t (bK t X.a 32)=43->Y7 (bh t a dp) (J.mk 7 0 [X.e,(yE t X ((bK t X.a 32:Nat):Int) (bZ t X.a 32 X.bad)).e]) ((bK t (yE t X ((bK t X.a 32:Nat):Int) (bZ t X.a 32 X.bad)).a 41:Nat):Int)
   ((yE t X ((bK t X.a 32:Nat):Int) (bZ t X.a 32 X.bad)).dp:Int) (bZ t (yE t X ((bK t X.a 32:Nat):Int) (bZ t X.a 32 X.bad)).a 41 (yE t X ((bK t X.a 32:Nat):Int) (bZ t X.a 32 X.bad)).bad)):=by
 have key:∃ inner:Nat->Nat->RS,bh t a dp=yb inner t X/\∀ (a:Nat) (bad:Bool),(bad=false->X.bad=false)->fm inner t a X.dp bad=yE t X (a:Int) bad:=by
  have hXd:X.bad=false->X.dp=dp.toNat:=by
   intro hb;rw[hX] at hb ⊢;exact ((vI (cR t (99 - dp).toNat) t (a+1).toNat dp.toNat false (λ h=>Fe t _ _ _ (by omega))).ex hb).1
  by_cases hd:dp<100
  .obtain⟨g,hg⟩:∃ g,(100 - dp).toNat=g+1:=⟨(99 - dp).toNat,by omega⟩;refine⟨cR t g,?_,λ a' bad hb=>?_⟩
   .have eX:X=fm (cR t g) t (a.toNat+1) dp.toNat false:=by
     rw[hX,bO,show (99 - dp).toNat=g by omega,show (a+1).toNat=a.toNat+1 by omega]
    unfold bh;rw[hg];conv=>lhs;rw[mi]
    rw[b0Y (by rw[h];decide),b0Y (by rw[h];decide),b0Y (by rw[h];decide),b0Y (by rw[h];decide),b1q h,eX]
   .unfold yE bO;rw[Int.toNat_natCast,Int.toNat_natCast];cases bad with
    | true=>rfl
    | false=>rw[hXd (hb rfl),show (99 - (dp.toNat:Int)).toNat=g by omega]
  .have hz:(100 - dp).toNat=0:=by omega
   refine⟨λ _ _=>⟨zX,0,0,true⟩,?_,λ a' bad hb=>?_⟩
   .have eX:X=fm (λ _ _=>⟨zX,0,0,true⟩) t (a.toNat+1) dp.toNat false:=by
     rw[hX,bO,show (a+1).toNat=a.toNat+1 by omega];unfold fm;rw[if_pos (.inr (by omega)),if_pos (.inr (by omega))]
    unfold bh;rw[hz];conv=>lhs;rw[mi]
    rw[b0Y (by rw[h];decide),b0Y (by rw[h];decide),b0Y (by rw[h];decide),b0Y (by rw[h];decide),b1q h,eX]
   .have hlo:dp.toNat<=X.dp:=by
     have:=TL t (a+1) dp false (by omega) (by omega) h2;rw[<-hX] at this;omega
    unfold yE bO;rw[Int.toNat_natCast,Int.toNat_natCast];unfold fm;rw[if_pos (.inr (by omega)),if_pos (.inr (by omega))]
 obtain⟨inner,k1,k2⟩:=key;rw[k1];unfold yb;refine⟨λ hp=>?_,λ hp=>?_⟩
 .rw[b1q hp];exact X1 inner t X 6 _ _ (k2 _ _ λ hb=>EB t _ _ _ (EB t _ _ _ hb))
 .rw[b0Y hp];exact X1 inner t X 7 _ _ (k2 _ _ λ hb=>EB t _ _ _ hb)
def Ux:∀ (l:List UInt8) (k:Nat),k<=sj l->(k<sj l↔∃ b r,l.drop k=b::r/\iR b=true)
 | [],k,h=>by simp[sj]
 | b::l,k,h=>by
  unfold sj at h ⊢;split at h
  .rename_i e;rw[b1q e];cases k with
   | zero=>exact⟨λ _=>⟨b,l,rfl,e⟩,λ _=>by omega⟩
   | succ k =>
    have:=Ux l k (by omega);rw[b3x,<-this];omega
  .rename_i e;rw[b0Y e];have hk:k=0:=by omega
   subst hk;refine⟨λ h=>by omega,λ ⟨c,r,hr,hc⟩=>?_⟩;simp only[b2S,b0T] at hr;rw[hr.1] at e;exact absurd hc e
def a6I(t:List UInt8)(n k:Nat)(h:k<=sj (t.drop n)):(48<=bY t (n+k)/\bY t (n+k)<=57)↔k<sj (t.drop n):=by
 rw[Ux _ k h,b2u];constructor
 .intro hp;have hl:=wG t (n+k) (by omega);refine⟨t.getD (n+k) 0,t.drop (n+k+1),?_,?_⟩
  .rw[b2x hl,b1f,b1p hl];rfl
  .unfold bY at hp;rw[if_pos hl] at hp;unfold iR;rw[decide_eq_true (by omega),decide_eq_true (by omega)];rfl
 .rintro⟨b,r,h1,h2⟩;rw[jA h1];simp only[iR,b0R,b0N] at h2;omega
def nD(t:List UInt8)(a:Int):Nat:=sj (t.drop (a+1).toNat)
def a8s(t:List UInt8)(a:Int)(k:Nat)(h0:0<=a)(h:k<=nD t a):(48<=bY t (a+1+(k:Int)).toNat/\bY t (a+1+(k:Int)).toNat<=57)↔k<nD t a:=by
 rw[show (a+1+(k:Int)).toNat=(a+1).toNat+k by omega];exact a6I t _ k h
def a8n(t:List UInt8)(a:Int)(h0:0<=a)(h1:a+1<=(t.length:Int)):a+1+(nD t a:Int)<=(t.length:Int):=by
 have:=Uw (t.drop (a+1).toNat);simp only[List.length_drop] at this;unfold nD;omega
def nmE(t:List UInt8)(a:Int):List UInt8:=(t.drop (a+1).toNat).take (nD t a)
def A8(t:List UInt8)(a:Int):Int:=if bY t a.toNat=97 then 4 else 3
def a8p(t:List UInt8)(a:Int)(h:bY t a.toNat=97):A8 t a=4:=b1q h
def a8o(t:List UInt8)(a:Int)(h:¬ bY t a.toNat=97):A8 t a=3:=b0Y h
def VF(t:List UInt8)(a dp:Int)(h0:0<=a)(h2:0<=dp):Y7 (dr t a.toNat dp.toNat) (J.mk (A8 t a) (jz 9 (nmE t a)) []) (a+1+(nD t a:Int)) dp (!mD 9 (nmE t a)):=by
 unfold dr nmE VM nD;rw[show (a+1).toNat=a.toNat+1 by omega];exact⟨rfl,by show ((a.toNat+1+sj (t.drop (a.toNat+1)):Nat):Int)=_;omega,by show ((dp.toNat:Nat):Int)=_;omega,rfl⟩
def TS(t:List UInt8)(a:Int)(k:Nat)(h0:0<=a)(h:k=nD t a):(t.take (Int.toNat (a+1+(k:Int)))).drop (Int.toNat (a+1))=nmE t a:=by
 rw[List.drop_take];unfold nmE;congr 1;omega
def a6P(t:List UInt8)(r:RS)(h:r.bad=true):sE t r=0:=by unfold sE;rw[if_pos h]
def a8y(t:List UInt8)(r:RS)(m:Nat)(h:r.bad=false)(hm:m<=sE t r):bY t ((r.a:Int)+(m:Int)).toNat=42↔m<sE t r:=by
 have e:sE t r=fG 42 (t.drop r.a):=by unfold sE;rw[h];rfl
 rw[e] at hm ⊢;rw[show ((r.a:Int)+(m:Int)).toNat=r.a+m by omega];have key:∀ (l:List UInt8) (k:Nat),k<=fG 42 l->(k<fG 42 l↔∃ r,l.drop k=42::r):=by
  intro l;induction l with
  | nil=>intro k h;simp[fG]
  | cons b l ih =>
   intro k h;unfold fG at h ⊢;split at h
   .rename_i e;rw[b1q e];cases k with
    | zero=>exact⟨λ _=>⟨l,by rw[e];rfl⟩,λ _=>by omega⟩
    | succ k =>
     have:=ih k (by omega);rw[b3x,<-this];omega
   .rename_i e;rw[b0Y e];have hk:k=0:=by omega
    subst hk;refine⟨λ h=>by omega,λ ⟨r,hr⟩=>?_⟩;simp only[b2S,b0T] at hr;exact absurd hr.1 e
 rw[key _ m hm,b2u];constructor
 .intro hp;exact xy t _ 42 (by decide) hp
 .rintro⟨r,hr⟩;exact jA hr
def b0c(t:List UInt8)(a c:Int)(h0:0<=a)(h:bY t a.toNat=c):((bK t a.toNat c:Nat):Int)=a+1/\bZ t a.toNat c false=false:=by
 unfold bK bZ;rw[if_pos h,if_pos h];exact⟨by omega,rfl⟩
def bN:jU:=⟨o5,[[.d .str, .d (.int .i64), .d (.int .i64), .d .bool]],[.b 0],[[.str,(.int .i64),(.int .i64), .bool]],λ (t:List UInt8) (a:Int) (dp:Int) (bad:Bool)=>⟨(some (0<=a/\a<=(t.length:Int)/\t.length<=10000),[⟨(.int .u8),bY t a.toNat⟩],[[⟨.str,t⟩,⟨(.int .i64),a⟩,⟨(.int .i64),dp⟩,⟨.bool,bad⟩]])⟩⟩
def tZ(t:List UInt8)(a:Int)(dp:Int)(bad:Bool):Nat->aM:=λ _ => .none
def Dd(t:List UInt8)(a:Int)(dp:Int)(bad:Bool):ck (cg [] [] [] [] []) (az fC) (tZ t a dp bad) 0 (mH (cg [] [] [] [] []) fC [[.d .str, .d (.int .i64), .d (.int .i64), .d .bool]] λ r ds=>bB r [⟨(.int .u8),bY t a.toNat⟩]/\oN ds [[⟨.str,t⟩,⟨(.int .i64),a⟩,⟨(.int .i64),dp⟩,⟨.bool,bad⟩]]) (dk fC [.box 0] [[.d .str, .d (.int .i64), .d (.int .i64), .d .bool]] [[⟨.str,t⟩,⟨(.int .i64),a⟩,⟨(.int .i64),dp⟩,⟨.bool,bad⟩]]) =
 ((U a ->
 (t.length<=140737488355328 ->
 (U ((t.length:Int)) ->
 (((decide (a<((t.length:Int))))=true ->
 (t.length<=140737488355328 ->
 (U a ->
 (aC a t.length/\((((t.getD (Int.toNat a) 0).toNat:Int))=(bY t a.toNat)/\((t=t/\(a=a/\(dp=dp/\bad=bad)))/\True))))))/\((decide (a<((t.length:Int))))=false ->
 ((0:Int)=(bY t a.toNat)/\((t=t/\(a=a/\(dp=dp/\bad=bad)))/\True)))))))):=by kernel_rfl
def CY(hE:aI [])(hO:dL [])(hM:ed [])(hS:dP []):jU.Good bN:=by
 refine⟨aA tJ rfl (by decide),?_⟩;show ∀ (t:List UInt8) (a:Int) (dp:Int) (bad:Bool),(0<=a/\a<=(t.length:Int)/\t.length<=10000)->vo prog o5 [[.d .str, .d (.int .i64), .d (.int .i64), .d .bool]] [.box 0] [[⟨.str,t⟩,⟨(.int .i64),a⟩,⟨(.int .i64),dp⟩,⟨.bool,bad⟩]] [⟨(.int .u8),bY t a.toNat⟩] [[⟨.str,t⟩,⟨(.int .i64),a⟩,⟨(.int .i64),dp⟩,⟨.bool,bad⟩]];intro t a dp bad hp;refine jL (own:=[]) (wr:=[]) (cl:=[]) (ro:=[]) hE hO hM hS tJ A1 (tZ t a dp bad) rfl rfl ?_;rewrite [Dd t a dp bad];refine λ _ _ _=>⟨λ _ _ _=>⟨?_,?_,⟨rfl,rfl,rfl,rfl⟩,af⟩,λ _=>⟨?_,⟨rfl,rfl,rfl,rfl⟩,af⟩⟩;all_goals try and_intros
 all_goals first|rfl|trivial|omega|(simp only[decide_eq_true_eq,decide_eq_false_iff_not,aC,U] at *;first|omega|grind [bY,bK,bZ])
def fh:jU.Good bN:=CY trivial trivial trivial trivial
def gK:jU:=⟨o6,[[.d .str, .d (.int .i64), .d (.int .i64), .d .bool]],[.b 0, .v (.int .u8)],[[.str,(.int .i64),(.int .i64), .bool]],λ (b:Int) (t:List UInt8) (a:Int) (dp:Int) (bad:Bool)=>⟨(some (0<=a/\a<=(t.length:Int)/\t.length<=10000),[],[[⟨.str,t⟩,⟨(.int .i64),((bK t a.toNat b:Nat):Int)⟩,⟨(.int .i64),dp⟩,⟨.bool,bZ t a.toNat b bad⟩]])⟩⟩
def ua(b:Int)(t:List UInt8)(a:Int)(dp:Int)(bad:Bool):Nat->aM:=λ _ => .none
def De(b:Int)(t:List UInt8)(a:Int)(dp:Int)(bad:Bool):ck (cg [] [] [] [] [] [] [] [bN]) (az fD) (ua b t a dp bad) 0 (mH (cg [] [] [] [] [] [] [] [bN]) fD [[.d .str, .d (.int .i64), .d (.int .i64), .d .bool]] λ r ds=>bB r []/\oN ds [[⟨.str,t⟩,⟨(.int .i64),((bK t a.toNat b:Nat):Int)⟩,⟨(.int .i64),dp⟩,⟨.bool,bZ t a.toNat b bad⟩]]) (dk fD [.box 0, .val ⟨(.int .u8),b⟩] [[.d .str, .d (.int .i64), .d (.int .i64), .d .bool]] [[⟨.str,t⟩,⟨(.int .i64),a⟩,⟨(.int .i64),dp⟩,⟨.bool,bad⟩]]) =
 (((0<=a/\a<=(t.length:Int)/\t.length<=10000)/\(((!(decide ((bY t a.toNat)=b)))=true ->
 (True/\((t=t/\(a=((bK t a.toNat b:Nat):Int)/\(dp=dp/\true=(bZ t a.toNat b bad))))/\True)))/\((!(decide ((bY t a.toNat)=b)))=false ->
 (U a ->
 (U (a+(1:Int))/\(True/\((t=t/\((a+(1:Int))=((bK t a.toNat b:Nat):Int)/\(dp=dp/\bad=(bZ t a.toNat b bad))))/\True)))))))):=by kernel_rfl
def CZ(hE:aI [])(hO:dL [])(hM:ed [])(hS:dP [bN]):jU.Good gK:=by
 refine⟨aA tK rfl (by decide),?_⟩;show ∀ (b:Int) (t:List UInt8) (a:Int) (dp:Int) (bad:Bool),(0<=a/\a<=(t.length:Int)/\t.length<=10000)->vo prog o6 [[.d .str, .d (.int .i64), .d (.int .i64), .d .bool]] [.box 0, .val ⟨(.int .u8),b⟩] [[⟨.str,t⟩,⟨(.int .i64),a⟩,⟨(.int .i64),dp⟩,⟨.bool,bad⟩]] [] [[⟨.str,t⟩,⟨(.int .i64),((bK t a.toNat b:Nat):Int)⟩,⟨(.int .i64),dp⟩,⟨.bool,bZ t a.toNat b bad⟩]];intro b t a dp bad hp;refine jL (own:=[]) (wr:=[]) (cl:=[]) (ro:=[]) hE hO hM hS tK A2 (ua b t a dp bad) rfl rfl ?_;rewrite [De b t a dp bad];obtain⟨h0,h1,h2⟩:=hp;by_cases h:bY t a.toNat=b
 .have e1:((bK t a.toNat b:Nat):Int)=a+1:=by unfold bK;rw[if_pos h];omega
  have e2:bZ t a.toNat b bad=bad:=by unfold bZ;rw[if_pos h]
  simp only[e1,e2,h,b1y,b1s,b0X,b0U,b0W,b0V,b1g,b1h,b1m,b1t,U];repeat' (first|intro _|apply And.intro)
  all_goals first|trivial|omega
 .have e1:((bK t a.toNat b:Nat):Int)=a:=by unfold bK;rw[if_neg h];omega
  have e2:bZ t a.toNat b bad=true:=by unfold bZ;rw[if_neg h]
  simp only[e1,e2,h,b1y,b1s,b0X,b0U,b0W,b0V,b1g,b1h,b1m,b1t,U];repeat' (first|intro _|apply And.intro)
  all_goals first|trivial|omega
def AJ:jU.Good gK:=CZ trivial trivial trivial ⟨fh,af⟩
def gJ:jU:=⟨oZ,[[.d .str, .d (.int .i64), .d (.int .i64), .d .bool]],[.b 0],[[.str,(.int .i64),(.int .i64), .bool]],λ (t:List UInt8) (a:Int) (dp:Int) (bad:Bool)=>⟨(some (0<=a/\a<=(t.length:Int)/\t.length<=10000/\0<=dp/\(bY t a.toNat=116\/bY t a.toNat=97)/\bad=false),[⟨(.st .expr),(dr t a.toNat dp.toNat).e⟩],[[⟨.str,t⟩,⟨(.int .i64),((dr t a.toNat dp.toNat).a:Int)⟩,⟨(.int .i64),dp⟩,⟨.bool,(dr t a.toNat dp.toNat).bad⟩]])⟩⟩
def tX(t:List UInt8)(a:Int)(dp:Int)(bad:Bool):Nat->aM:=(λ zb=>if Nat.beq zb 0 then .mk (Nat) (λ k=>k<=nD t a) (λ k=>nD t a - k) [] [1,7,8,9,10,11,12,13,14,15,16,17,18,19,20,21,22] (λ k=>[(4, .aT ⟨(.int .i64),(a+1:Int)⟩)]) [0,2,4,5,6,23,24,25,26,27,28,29,30,31,32,33,34,35,36,37,38,39,40,41,42,43,44,45,46,47,48,49,50,51,52,53,54,55,56,57,58,59,60,61,62,63,64,65] (λ k=>[(400000, .box [.aT ⟨.str,(t:List UInt8)⟩, .aT ⟨(.int .i64),(a+1+(k:Int):Int)⟩, .aT ⟨(.int .i64),(dp:Int)⟩, .aT ⟨.bool,(bad:Bool)⟩]),(3, .box [.aT ⟨(.int .i64),(A8 t a:Int)⟩, .aT ⟨(.int .i64),((0:Int):Int)⟩, .nil])]) [] [] (λ k=>λ _ => .none) else .none)
def Db(t:List UInt8)(a:Int)(dp:Int)(bad:Bool):ck (cg [mo] [] [] [] [] [] [] [bN]) (az fA) (tX t a dp bad) 0 (mH (cg [mo] [] [] [] [] [] [] [bN]) fA [[.d .str, .d (.int .i64), .d (.int .i64), .d .bool]] λ r ds=>bB r [⟨(.st .expr),(dr t a.toNat dp.toNat).e⟩]/\oN ds [[⟨.str,t⟩,⟨(.int .i64),((dr t a.toNat dp.toNat).a:Int)⟩,⟨(.int .i64),dp⟩,⟨.bool,(dr t a.toNat dp.toNat).bad⟩]]) (dk fA [.box 0] [[.d .str, .d (.int .i64), .d (.int .i64), .d .bool]] [[⟨.str,t⟩,⟨(.int .i64),a⟩,⟨(.int .i64),dp⟩,⟨.bool,bad⟩]]) =
 (((0<=a/\a<=(t.length:Int)/\t.length<=10000)/\(((decide ((bY t a.toNat)=(97:Int)))=true ->
 (U a ->
 (U (a+(1:Int))/\(U (a+(1:Int)) ->
 ((∃ k1:Nat,(k1<=nD t a/\((True/\(True/\(True/\((a+(1:Int))=(a+1)/\True))))/\((t=t/\((a+(1:Int))=(a+1+(k1:Int))/\(dp=dp/\(bad=bad/\True))))/\(((4:Int)=(A8 t a)/\((0:Int)=(0:Int)/\(True/\True)))/\(((0:Int)=(0:Int)/\((0:Int)=(0:Int)/\(True/\True)))/\True))))))/\(∀ k1:Nat,(k1<=nD t a ->
 ((0<=(a+1+(k1:Int))/\(a+1+(k1:Int))<=(t.length:Int)/\t.length<=10000)/\(((decide ((48:Int)<=(bY t (a+1+(k1:Int)).toNat)))=true ->
 ((0<=(a+1+(k1:Int))/\(a+1+(k1:Int))<=(t.length:Int)/\t.length<=10000)/\(((decide ((bY t (a+1+(k1:Int)).toNat)<=(57:Int)))=true ->
 (U (a+1+(k1:Int)) ->
 (U ((a+1+(k1:Int))+(1:Int))/\(∃ k2:Nat,(k2<=nD t a/\(nD t a - k2<nD t a - k1/\((True/\(True/\(True/\((a+1)=(a+1)/\True))))/\((t=t/\(((a+1+(k1:Int))+(1:Int))=(a+1+(k2:Int))/\(dp=dp/\(bad=bad/\True))))/\(((A8 t a)=(A8 t a)/\((0:Int)=(0:Int)/\(True/\True)))/\(((0:Int)=(0:Int)/\((0:Int)=(0:Int)/\(True/\True)))/\True))))))))))/\((decide ((bY t (a+1+(k1:Int)).toNat)<=(57:Int)))=false ->
 (cM (a+1) (a+1+(k1:Int)) t.length/\(t.length<=140737488355328 ->
 (U (a+1+(k1:Int)) ->
 (U (jz 9 ((t.take (Int.toNat (a+1+(k1:Int)))).drop (Int.toNat (a+1)))) ->
 ((bad=false ->
 ((J.mk (A8 t a) (jz 9 ((t.take (Int.toNat (a+1+(k1:Int)))).drop (Int.toNat (a+1)))) [])=((dr t a.toNat dp.toNat).e)/\((t=t/\((a+1+(k1:Int))=((dr t a.toNat dp.toNat).a:Int)/\(dp=dp/\(!(mD 9 ((t.take (Int.toNat (a+1+(k1:Int)))).drop (Int.toNat (a+1)))))=((dr t a.toNat dp.toNat).bad))))/\True)))/\(bad=(!false) ->
 ((J.mk (A8 t a) (jz 9 ((t.take (Int.toNat (a+1+(k1:Int)))).drop (Int.toNat (a+1)))) [])=((dr t a.toNat dp.toNat).e)/\((t=t/\((a+1+(k1:Int))=((dr t a.toNat dp.toNat).a:Int)/\(dp=dp/\true=((dr t a.toNat dp.toNat).bad))))/\True))))))))))))/\((decide ((48:Int)<=(bY t (a+1+(k1:Int)).toNat)))=(!true) ->
 ((false=true ->
 (U (a+1+(k1:Int)) ->
 (U ((a+1+(k1:Int))+(1:Int))/\(∃ k2:Nat,(k2<=nD t a/\(nD t a - k2<nD t a - k1/\((True/\(True/\(True/\((a+1)=(a+1)/\True))))/\((t=t/\(((a+1+(k1:Int))+(1:Int))=(a+1+(k2:Int))/\(dp=dp/\(bad=bad/\True))))/\(((A8 t a)=(A8 t a)/\((0:Int)=(0:Int)/\(True/\True)))/\(((0:Int)=(0:Int)/\((0:Int)=(0:Int)/\(True/\True)))/\True))))))))))/\(false=false ->
 (cM (a+1) (a+1+(k1:Int)) t.length/\(t.length<=140737488355328 ->
 (U (a+1+(k1:Int)) ->
 (U (jz 9 ((t.take (Int.toNat (a+1+(k1:Int)))).drop (Int.toNat (a+1)))) ->
 ((bad=false ->
 ((J.mk (A8 t a) (jz 9 ((t.take (Int.toNat (a+1+(k1:Int)))).drop (Int.toNat (a+1)))) [])=((dr t a.toNat dp.toNat).e)/\((t=t/\((a+1+(k1:Int))=((dr t a.toNat dp.toNat).a:Int)/\(dp=dp/\(!(mD 9 ((t.take (Int.toNat (a+1+(k1:Int)))).drop (Int.toNat (a+1)))))=((dr t a.toNat dp.toNat).bad))))/\True)))/\(bad=(!false) ->
 ((J.mk (A8 t a) (jz 9 ((t.take (Int.toNat (a+1+(k1:Int)))).drop (Int.toNat (a+1)))) [])=((dr t a.toNat dp.toNat).e)/\((t=t/\((a+1+(k1:Int))=((dr t a.toNat dp.toNat).a:Int)/\(dp=dp/\true=((dr t a.toNat dp.toNat).bad))))/\True))))))))))))))))))))/\((decide ((bY t a.toNat)=(97:Int)))=false ->
 (U a ->
 (U (a+(1:Int))/\(U (a+(1:Int)) ->
 ((∃ k1:Nat,(k1<=nD t a/\((True/\(True/\(True/\((a+(1:Int))=(a+1)/\True))))/\((t=t/\((a+(1:Int))=(a+1+(k1:Int))/\(dp=dp/\(bad=bad/\True))))/\(((3:Int)=(A8 t a)/\((0:Int)=(0:Int)/\(True/\True)))/\(((0:Int)=(0:Int)/\((0:Int)=(0:Int)/\(True/\True)))/\True))))))/\(∀ k1:Nat,(k1<=nD t a ->
 ((0<=(a+1+(k1:Int))/\(a+1+(k1:Int))<=(t.length:Int)/\t.length<=10000)/\(((decide ((48:Int)<=(bY t (a+1+(k1:Int)).toNat)))=true ->
 ((0<=(a+1+(k1:Int))/\(a+1+(k1:Int))<=(t.length:Int)/\t.length<=10000)/\(((decide ((bY t (a+1+(k1:Int)).toNat)<=(57:Int)))=true ->
 (U (a+1+(k1:Int)) ->
 (U ((a+1+(k1:Int))+(1:Int))/\(∃ k2:Nat,(k2<=nD t a/\(nD t a - k2<nD t a - k1/\((True/\(True/\(True/\((a+1)=(a+1)/\True))))/\((t=t/\(((a+1+(k1:Int))+(1:Int))=(a+1+(k2:Int))/\(dp=dp/\(bad=bad/\True))))/\(((A8 t a)=(A8 t a)/\((0:Int)=(0:Int)/\(True/\True)))/\(((0:Int)=(0:Int)/\((0:Int)=(0:Int)/\(True/\True)))/\True))))))))))/\((decide ((bY t (a+1+(k1:Int)).toNat)<=(57:Int)))=false ->
 (cM (a+1) (a+1+(k1:Int)) t.length/\(t.length<=140737488355328 ->
 (U (a+1+(k1:Int)) ->
 (U (jz 9 ((t.take (Int.toNat (a+1+(k1:Int)))).drop (Int.toNat (a+1)))) ->
 ((bad=false ->
 ((J.mk (A8 t a) (jz 9 ((t.take (Int.toNat (a+1+(k1:Int)))).drop (Int.toNat (a+1)))) [])=((dr t a.toNat dp.toNat).e)/\((t=t/\((a+1+(k1:Int))=((dr t a.toNat dp.toNat).a:Int)/\(dp=dp/\(!(mD 9 ((t.take (Int.toNat (a+1+(k1:Int)))).drop (Int.toNat (a+1)))))=((dr t a.toNat dp.toNat).bad))))/\True)))/\(bad=(!false) ->
 ((J.mk (A8 t a) (jz 9 ((t.take (Int.toNat (a+1+(k1:Int)))).drop (Int.toNat (a+1)))) [])=((dr t a.toNat dp.toNat).e)/\((t=t/\((a+1+(k1:Int))=((dr t a.toNat dp.toNat).a:Int)/\(dp=dp/\true=((dr t a.toNat dp.toNat).bad))))/\True))))))))))))/\((decide ((48:Int)<=(bY t (a+1+(k1:Int)).toNat)))=(!true) ->
 ((false=true ->
 (U (a+1+(k1:Int)) ->
 (U ((a+1+(k1:Int))+(1:Int))/\(∃ k2:Nat,(k2<=nD t a/\(nD t a - k2<nD t a - k1/\((True/\(True/\(True/\((a+1)=(a+1)/\True))))/\((t=t/\(((a+1+(k1:Int))+(1:Int))=(a+1+(k2:Int))/\(dp=dp/\(bad=bad/\True))))/\(((A8 t a)=(A8 t a)/\((0:Int)=(0:Int)/\(True/\True)))/\(((0:Int)=(0:Int)/\((0:Int)=(0:Int)/\(True/\True)))/\True))))))))))/\(false=false ->
 (cM (a+1) (a+1+(k1:Int)) t.length/\(t.length<=140737488355328 ->
 (U (a+1+(k1:Int)) ->
 (U (jz 9 ((t.take (Int.toNat (a+1+(k1:Int)))).drop (Int.toNat (a+1)))) ->
 ((bad=false ->
 ((J.mk (A8 t a) (jz 9 ((t.take (Int.toNat (a+1+(k1:Int)))).drop (Int.toNat (a+1)))) [])=((dr t a.toNat dp.toNat).e)/\((t=t/\((a+1+(k1:Int))=((dr t a.toNat dp.toNat).a:Int)/\(dp=dp/\(!(mD 9 ((t.take (Int.toNat (a+1+(k1:Int)))).drop (Int.toNat (a+1)))))=((dr t a.toNat dp.toNat).bad))))/\True)))/\(bad=(!false) ->
 ((J.mk (A8 t a) (jz 9 ((t.take (Int.toNat (a+1+(k1:Int)))).drop (Int.toNat (a+1)))) [])=((dr t a.toNat dp.toNat).e)/\((t=t/\((a+1+(k1:Int))=((dr t a.toNat dp.toNat).a:Int)/\(dp=dp/\true=((dr t a.toNat dp.toNat).bad))))/\True))))))))))))))))))))))):=by kernel_rfl
def CW(hE:aI [mo])(hO:dL [])(hM:ed [])(hS:dP [bN]):jU.Good gJ:=by
 refine⟨aA tI rfl (by decide),?_⟩;show ∀ (t:List UInt8) (a:Int) (dp:Int) (bad:Bool),(0<=a/\a<=(t.length:Int)/\t.length<=10000/\0<=dp/\(bY t a.toNat=116\/bY t a.toNat=97)/\bad=false)->vo prog oZ [[.d .str, .d (.int .i64), .d (.int .i64), .d .bool]] [.box 0] [[⟨.str,t⟩,⟨(.int .i64),a⟩,⟨(.int .i64),dp⟩,⟨.bool,bad⟩]] [⟨(.st .expr),(dr t a.toNat dp.toNat).e⟩] [[⟨.str,t⟩,⟨(.int .i64),((dr t a.toNat dp.toNat).a:Int)⟩,⟨(.int .i64),dp⟩,⟨.bool,(dr t a.toNat dp.toNat).bad⟩]];intro t a dp bad hp;refine jL (own:=[]) (wr:=[]) (cl:=[]) (ro:=[]) hE hO hM hS tI AZ (tX t a dp bad) rfl rfl ?_;rewrite [Db t a dp bad];obtain⟨h0,h1,h2,h3,h4,h5⟩:=hp;subst h5;have l0:=wG t a.toNat (by omega);obtain⟨q1,q2,q3,q4⟩:=VF t a dp h0 h3;have z:=λ k h=>a8s t a k h0 h;have b:=a8n t a h0 (by omega);simp only[q1,q2,q4,cM,b1y,b1s,b0X,b0U,b0W,b0V,b1g,b1h,b1m,b1t,b1b,b1N,b1d,U,aU];repeat' (first|intro _|apply And.intro)
 all_goals (try simp only[b0N,b0M] at *)
 all_goals first|exact True.intro|omega|with_reducible rfl|exact⟨0,b2b _,by omega,(a8p t a (by omega)).symm⟩|exact⟨0,b2b _,by omega,(a8o t a (by omega)).symm⟩|(rename_i k1 _ _ _ _;have g:=z k1 (by assumption);first|omega|exact⟨k1+1,by omega,by omega,by omega⟩|rw[TS t a k1 h0 (by omega)])|(rename_i k1 _ _ _ _ _;have g:=z k1 (by assumption);first|omega|exact⟨k1+1,by omega,by omega,by omega⟩|rw[TS t a k1 h0 (by omega)])|(rename_i k1 _ _ _ _ _ _;have g:=z k1 (by assumption);first|omega|exact⟨k1+1,by omega,by omega,by omega⟩|rw[TS t a k1 h0 (by omega)])|(rename_i k1 _ _ _ _ _ _ _;have g:=z k1 (by assumption);first|omega|exact⟨k1+1,by omega,by omega,by omega⟩|rw[TS t a k1 h0 (by omega)])
def AI:jU.Good gJ:=CW ⟨H6,af⟩ trivial trivial ⟨fh,af⟩
def di(n:Nat):jU:=⟨oo,[[.d .str, .d (.int .i64), .d (.int .i64), .d .bool]],[.b 0],[[.str,(.int .i64),(.int .i64), .bool]],λ (t:List UInt8) (a:Int) (dp:Int) (bad:Bool)=>⟨(some (3 * (101 - dp).toNat+2<n/\0<=a/\a<=(t.length:Int)/\t.length<=10000/\0<=dp/\dp<=100/\bad=false),[⟨(.st .expr),(bh t a dp).e⟩],[[⟨.str,t⟩,⟨(.int .i64),((bh t a dp).a:Int)⟩,⟨(.int .i64),((bh t a dp).dp:Int)⟩,⟨.bool,(bh t a dp).bad⟩]])⟩⟩
def gf(n:Nat):jU:=⟨o4,[[.d .str, .d (.int .i64), .d (.int .i64), .d .bool]],[.b 0],[[.str,(.int .i64),(.int .i64), .bool]],λ (t:List UInt8) (a:Int) (dp:Int) (bad:Bool)=>⟨(some (3 * (101 - dp).toNat+1<n/\0<=a/\a<=(t.length:Int)/\t.length<=10000/\0<=dp/\dp<=100/\bad=false/\bY t a.toNat=40),[⟨(.st .expr),(bh t a dp).e⟩],[[⟨.str,t⟩,⟨(.int .i64),((bh t a dp).a:Int)⟩,⟨(.int .i64),((bh t a dp).dp:Int)⟩,⟨.bool,(bh t a dp).bad⟩]])⟩⟩
def gd(n:Nat):jU:=⟨j8,[[.d .str, .d (.int .i64), .d (.int .i64), .d .bool]],[.b 0],[[.str,(.int .i64),(.int .i64), .bool]],λ (t:List UInt8) (a:Int) (dp:Int) (bad:Bool)=>⟨(some (3 * (101 - dp).toNat<n/\0<=a/\a<=(t.length:Int)/\t.length<=10000/\0<=dp/\dp<=1000),[⟨(.st .expr),(bO t a dp bad).e⟩],[[⟨.str,t⟩,⟨(.int .i64),((bO t a dp bad).a:Int)⟩,⟨(.int .i64),((bO t a dp bad).dp:Int)⟩,⟨.bool,(bO t a dp bad).bad⟩]])⟩⟩
def jy:jU:=⟨j8,[[.d .str, .d (.int .i64), .d (.int .i64), .d .bool]],[.b 0],[[.str,(.int .i64),(.int .i64), .bool]],λ (t:List UInt8) (a:Int) (dp:Int) (bad:Bool)=>⟨(some (0<=a/\a<=(t.length:Int)/\t.length<=10000/\0<=dp/\dp<=1000),[⟨(.st .expr),(bO t a dp bad).e⟩],[[⟨.str,t⟩,⟨(.int .i64),((bO t a dp bad).a:Int)⟩,⟨(.int .i64),((bO t a dp bad).dp:Int)⟩,⟨.bool,(bO t a dp bad).bad⟩]])⟩⟩
def sD(t:List UInt8)(a:Int)(dp:Int)(bad:Bool):Nat->aM:=λ _ => .none
def Be(n:Nat)(t:List UInt8)(a:Int)(dp:Int)(bad:Bool):ck (cg [] [] [] [30,57,66,71] [] [] [] [bN,gJ,gf n,di n]) (az eW) (sD t a dp bad) 0 (mH (cg [] [] [] [30,57,66,71] [] [] [] [bN,gJ,gf n,di n]) eW [[.d .str, .d (.int .i64), .d (.int .i64), .d .bool]] λ r ds=>bB r [⟨(.st .expr),(bh t a dp).e⟩]/\oN ds [[⟨.str,t⟩,⟨(.int .i64),((bh t a dp).a:Int)⟩,⟨(.int .i64),((bh t a dp).dp:Int)⟩,⟨.bool,(bh t a dp).bad⟩]]) (dk eW [.box 0] [[.d .str, .d (.int .i64), .d (.int .i64), .d .bool]] [[⟨.str,t⟩,⟨(.int .i64),a⟩,⟨(.int .i64),dp⟩,⟨.bool,bad⟩]]) =
 (((0<=a/\a<=(t.length:Int)/\t.length<=10000)/\(((decide ((bY t a.toNat)=(48:Int)))=true ->
 (U a ->
 (U (a+(1:Int))/\((J.mk (1:Int) (0:Int) [])=((bh t a dp).e)/\((t=t/\((a+(1:Int))=((bh t a dp).a:Int)/\(dp=((bh t a dp).dp:Int)/\bad=((bh t a dp).bad))))/\True)))))/\((decide ((bY t a.toNat)=(48:Int)))=false ->
 (((decide ((bY t a.toNat)=(49:Int)))=true ->
 (U a ->
 (U (a+(1:Int))/\((J.mk (2:Int) (0:Int) [])=((bh t a dp).e)/\((t=t/\((a+(1:Int))=((bh t a dp).a:Int)/\(dp=((bh t a dp).dp:Int)/\bad=((bh t a dp).bad))))/\True)))))/\((decide ((bY t a.toNat)=(49:Int)))=false ->
 (((decide ((bY t a.toNat)=(116:Int)))=true ->
 (((decide ((bY t a.toNat)=(116:Int)))=true ->
 ((0<=a/\a<=(t.length:Int)/\t.length<=10000/\0<=dp/\(bY t a.toNat=116\/bY t a.toNat=97)/\bad=false)/\((ag ((dr t a.toNat dp.toNat).e))=((bh t a dp).e)/\((t=t/\((((dr t a.toNat dp.toNat).a:Int))=((bh t a dp).a:Int)/\(dp=((bh t a dp).dp:Int)/\((dr t a.toNat dp.toNat).bad)=((bh t a dp).bad))))/\True))))/\((decide ((bY t a.toNat)=(116:Int)))=false ->
 (((decide ((bY t a.toNat)=(126:Int)))=true ->
 (U a ->
 (U (a+(1:Int))/\(U dp ->
 (U (dp+(1:Int))/\(U (dp+(1:Int)) ->
 (((decide ((100:Int)<(dp+(1:Int))))=true ->
 (zE=((bh t a dp).e)/\((t=t/\((a+(1:Int))=((bh t a dp).a:Int)/\((dp+(1:Int))=((bh t a dp).dp:Int)/\true=((bh t a dp).bad))))/\True)))/\((decide ((100:Int)<(dp+(1:Int))))=false ->
 ((3 * (101 - (dp+(1:Int))).toNat+2<n/\0<=(a+(1:Int))/\(a+(1:Int))<=(t.length:Int)/\t.length<=10000/\0<=(dp+(1:Int))/\(dp+(1:Int))<=100/\bad=false)/\(U (((bh t (a+(1:Int)) (dp+(1:Int))).dp:Int)) ->
 (U ((((bh t (a+(1:Int)) (dp+(1:Int))).dp:Int)) - (1:Int))/\((J.mk (5:Int) (0:Int) ([(ag ((bh t (a+(1:Int)) (dp+(1:Int))).e))]))=((bh t a dp).e)/\((t=t/\((((bh t (a+(1:Int)) (dp+(1:Int))).a:Int))=((bh t a dp).a:Int)/\(((((bh t (a+(1:Int)) (dp+(1:Int))).dp:Int)) - (1:Int))=((bh t a dp).dp:Int)/\((bh t (a+(1:Int)) (dp+(1:Int))).bad)=((bh t a dp).bad))))/\True)))))))))))))/\((decide ((bY t a.toNat)=(126:Int)))=false ->
 (((decide ((bY t a.toNat)=(40:Int)))=true ->
 ((3 * (101 - dp).toNat+1<n/\0<=a/\a<=(t.length:Int)/\t.length<=10000/\0<=dp/\dp<=100/\bad=false/\bY t a.toNat=40)/\((ag ((bh t a dp).e))=((bh t a dp).e)/\((t=t/\((((bh t a dp).a:Int))=((bh t a dp).a:Int)/\((((bh t a dp).dp:Int))=((bh t a dp).dp:Int)/\((bh t a dp).bad)=((bh t a dp).bad))))/\True))))/\((decide ((bY t a.toNat)=(40:Int)))=false ->
 (zE=((bh t a dp).e)/\((t=t/\(a=((bh t a dp).a:Int)/\(dp=((bh t a dp).dp:Int)/\true=((bh t a dp).bad))))/\True)))))))))/\((decide ((bY t a.toNat)=(116:Int)))=false ->
 (((decide ((bY t a.toNat)=(97:Int)))=true ->
 ((0<=a/\a<=(t.length:Int)/\t.length<=10000/\0<=dp/\(bY t a.toNat=116\/bY t a.toNat=97)/\bad=false)/\((ag ((dr t a.toNat dp.toNat).e))=((bh t a dp).e)/\((t=t/\((((dr t a.toNat dp.toNat).a:Int))=((bh t a dp).a:Int)/\(dp=((bh t a dp).dp:Int)/\((dr t a.toNat dp.toNat).bad)=((bh t a dp).bad))))/\True))))/\((decide ((bY t a.toNat)=(97:Int)))=false ->
 (((decide ((bY t a.toNat)=(126:Int)))=true ->
 (U a ->
 (U (a+(1:Int))/\(U dp ->
 (U (dp+(1:Int))/\(U (dp+(1:Int)) ->
 (((decide ((100:Int)<(dp+(1:Int))))=true ->
 (zE=((bh t a dp).e)/\((t=t/\((a+(1:Int))=((bh t a dp).a:Int)/\((dp+(1:Int))=((bh t a dp).dp:Int)/\true=((bh t a dp).bad))))/\True)))/\((decide ((100:Int)<(dp+(1:Int))))=false ->
 ((3 * (101 - (dp+(1:Int))).toNat+2<n/\0<=(a+(1:Int))/\(a+(1:Int))<=(t.length:Int)/\t.length<=10000/\0<=(dp+(1:Int))/\(dp+(1:Int))<=100/\bad=false)/\(U (((bh t (a+(1:Int)) (dp+(1:Int))).dp:Int)) ->
 (U ((((bh t (a+(1:Int)) (dp+(1:Int))).dp:Int)) - (1:Int))/\((J.mk (5:Int) (0:Int) ([(ag ((bh t (a+(1:Int)) (dp+(1:Int))).e))]))=((bh t a dp).e)/\((t=t/\((((bh t (a+(1:Int)) (dp+(1:Int))).a:Int))=((bh t a dp).a:Int)/\(((((bh t (a+(1:Int)) (dp+(1:Int))).dp:Int)) - (1:Int))=((bh t a dp).dp:Int)/\((bh t (a+(1:Int)) (dp+(1:Int))).bad)=((bh t a dp).bad))))/\True)))))))))))))/\((decide ((bY t a.toNat)=(126:Int)))=false ->
 (((decide ((bY t a.toNat)=(40:Int)))=true ->
 ((3 * (101 - dp).toNat+1<n/\0<=a/\a<=(t.length:Int)/\t.length<=10000/\0<=dp/\dp<=100/\bad=false/\bY t a.toNat=40)/\((ag ((bh t a dp).e))=((bh t a dp).e)/\((t=t/\((((bh t a dp).a:Int))=((bh t a dp).a:Int)/\((((bh t a dp).dp:Int))=((bh t a dp).dp:Int)/\((bh t a dp).bad)=((bh t a dp).bad))))/\True))))/\((decide ((bY t a.toNat)=(40:Int)))=false ->
 (zE=((bh t a dp).e)/\((t=t/\(a=((bh t a dp).a:Int)/\(dp=((bh t a dp).dp:Int)/\true=((bh t a dp).bad))))/\True)))))))))))))))):=by kernel_rfl
def Bb(n:Nat)(hE:aI [])(hO:dL [])(hM:ed [])(hS:dP [bN,gJ,gf n,di n]):jU.Good (di (n+1)):=by
 refine⟨aA mJ rfl (by decide),?_⟩;show ∀ (t:List UInt8) (a:Int) (dp:Int) (bad:Bool),(3 * (101 - dp).toNat+2<n+1/\0<=a/\a<=(t.length:Int)/\t.length<=10000/\0<=dp/\dp<=100/\bad=false)->vo prog oo [[.d .str, .d (.int .i64), .d (.int .i64), .d .bool]] [.box 0] [[⟨.str,t⟩,⟨(.int .i64),a⟩,⟨(.int .i64),dp⟩,⟨.bool,bad⟩]] [⟨(.st .expr),(bh t a dp).e⟩] [[⟨.str,t⟩,⟨(.int .i64),((bh t a dp).a:Int)⟩,⟨(.int .i64),((bh t a dp).dp:Int)⟩,⟨.bool,(bh t a dp).bad⟩]];intro t a dp bad hp;refine jL (own:=[30,57,66,71]) (wr:=[]) (cl:=[]) (ro:=[]) hE hO hM hS mJ zA (sD t a dp bad) rfl rfl ?_;rewrite [Be n t a dp bad];obtain⟨hm,h0,h1,h2,h3,h4,h5⟩:=hp;subst h5;by_cases CB:bY t a.toNat=48
 .have l0:=wG t a.toNat (by rw[CB];decide);obtain⟨q1,q2,q3,q4⟩:=a9R t a dp h0 h3 CB;simp only[b1A CB,(b1a (by omega):decide (bY t a.toNat=(49:Int))=false),(b1a (by omega):decide (bY t a.toNat=(116:Int))=false),(b1a (by omega):decide (bY t a.toNat=(97:Int))=false),(b1a (by omega):decide (bY t a.toNat=(126:Int))=false),(b1a (by omega):decide (bY t a.toNat=(40:Int))=false),q1,q2,q3,q4,b1y,b1s,b0X,b0U,b0W,b0V,b1g,b1h,b1m,b1t,b1b,b1N,b1d,U,aU];repeat' (first|intro _|apply And.intro)
  all_goals first|exact True.intro|omega|with_reducible rfl
 .by_cases E4:bY t a.toNat=49
  .have l0:=wG t a.toNat (by rw[E4];decide);obtain⟨q1,q2,q3,q4⟩:=a9S t a dp h0 h3 E4;simp only[(b1a (by omega):decide (bY t a.toNat=(48:Int))=false),b1A E4,(b1a (by omega):decide (bY t a.toNat=(116:Int))=false),(b1a (by omega):decide (bY t a.toNat=(97:Int))=false),(b1a (by omega):decide (bY t a.toNat=(126:Int))=false),(b1a (by omega):decide (bY t a.toNat=(40:Int))=false),q1,q2,q3,q4,b1y,b1s,b0X,b0U,b0W,b0V,b1g,b1h,b1m,b1t,b1b,b1N,b1d,U,aU];repeat' (first|intro _|apply And.intro)
   all_goals first|exact True.intro|omega|with_reducible rfl
  .by_cases yn:bY t a.toNat=116
   .obtain⟨q1,q2,q3,q4⟩:=VF t a dp h0 h3;simp only[a0k t a dp (.inl yn),(b1a (by omega):decide (bY t a.toNat=(48:Int))=false),(b1a (by omega):decide (bY t a.toNat=(49:Int))=false),b1A yn,(b1a (by omega):decide (bY t a.toNat=(97:Int))=false),(b1a (by omega):decide (bY t a.toNat=(126:Int))=false),(b1a (by omega):decide (bY t a.toNat=(40:Int))=false),q3,b1y,b1s,b0X,b0U,b0W,b0V,b1g,b1h,b1m,b1t,b1b,b1N,b1d,U,aU];repeat' (first|intro _|apply And.intro)
    all_goals first|exact True.intro|omega|with_reducible rfl
   .by_cases Ob:bY t a.toNat=97
    .obtain⟨q1,q2,q3,q4⟩:=VF t a dp h0 h3;simp only[a0k t a dp (.inr Ob),(b1a (by omega):decide (bY t a.toNat=(48:Int))=false),(b1a (by omega):decide (bY t a.toNat=(49:Int))=false),(b1a (by omega):decide (bY t a.toNat=(116:Int))=false),b1A Ob,(b1a (by omega):decide (bY t a.toNat=(126:Int))=false),(b1a (by omega):decide (bY t a.toNat=(40:Int))=false),q3,b1y,b1s,b0X,b0U,b0W,b0V,b1g,b1h,b1m,b1t,b1b,b1N,b1d,U,aU];repeat' (first|intro _|apply And.intro)
     all_goals first|exact True.intro|omega|with_reducible rfl
    .by_cases Xt:bY t a.toNat=126
     .have l0:=wG t a.toNat (by rw[Xt];decide);by_cases hd:100<dp+1
      .obtain⟨q1,q2,q3,q4⟩:=a5o t a dp h0 h3 hd Xt;simp only[hd,(b1a (by omega):decide (bY t a.toNat=(48:Int))=false),(b1a (by omega):decide (bY t a.toNat=(49:Int))=false),(b1a (by omega):decide (bY t a.toNat=(116:Int))=false),(b1a (by omega):decide (bY t a.toNat=(97:Int))=false),b1A Xt,(b1a (by omega):decide (bY t a.toNat=(40:Int))=false),q1,q2,q3,q4,b1y,b1s,b0X,b0U,b0W,b0V,b1g,b1h,b1m,b1t,b1b,b1N,b1d,U,aU];repeat' (first|intro _|apply And.intro)
       all_goals first|exact True.intro|omega|with_reducible rfl
      .obtain⟨q1,q2,q3,q4⟩:=a6A t a dp h0 (by omega) h3 hd Xt;have b1:=OS t (a+1) (dp+1) (by omega) (by omega) (by omega) (by omega);simp only[hd,(b1a (by omega):decide (bY t a.toNat=(48:Int))=false),(b1a (by omega):decide (bY t a.toNat=(49:Int))=false),(b1a (by omega):decide (bY t a.toNat=(116:Int))=false),(b1a (by omega):decide (bY t a.toNat=(97:Int))=false),b1A Xt,(b1a (by omega):decide (bY t a.toNat=(40:Int))=false),q1,q2,q3,q4,b1y,b1s,b0X,b0U,b0W,b0V,b1g,b1h,b1m,b1t,b1b,b1N,b1d,U,aU];repeat' (first|intro _|apply And.intro)
       all_goals first|exact True.intro|omega|with_reducible rfl
     .by_cases UD:bY t a.toNat=40
      .simp only[(b1a (by omega):decide (bY t a.toNat=(48:Int))=false),(b1a (by omega):decide (bY t a.toNat=(49:Int))=false),(b1a (by omega):decide (bY t a.toNat=(116:Int))=false),(b1a (by omega):decide (bY t a.toNat=(97:Int))=false),(b1a (by omega):decide (bY t a.toNat=(126:Int))=false),b1A UD,b1y,b1s,b0X,b0U,b0W,b0V,b1g,b1h,b1m,b1t,b1b,b1N,b1d,U,aU];repeat' (first|intro _|apply And.intro)
       all_goals first|exact True.intro|omega|with_reducible rfl
      .obtain⟨q1,q2,q3,q4⟩:=a5p t a dp h0 h3 ⟨CB,E4,yn,Ob,Xt,UD⟩;simp only[(b1a (by omega):decide (bY t a.toNat=(48:Int))=false),(b1a (by omega):decide (bY t a.toNat=(49:Int))=false),(b1a (by omega):decide (bY t a.toNat=(116:Int))=false),(b1a (by omega):decide (bY t a.toNat=(97:Int))=false),(b1a (by omega):decide (bY t a.toNat=(126:Int))=false),(b1a (by omega):decide (bY t a.toNat=(40:Int))=false),q1,q2,q3,q4,b1y,b1s,b0X,b0U,b0W,b0V,b1g,b1h,b1m,b1t,b1b,b1N,b1d,U,aU];repeat' (first|intro _|apply And.intro)
       all_goals first|exact True.intro|omega|with_reducible rfl
def tY(t:List UInt8)(a:Int)(dp:Int)(bad:Bool):Nat->aM:=λ _ => .none
def Dc(n:Nat)(t:List UInt8)(a:Int)(dp:Int)(bad:Bool):ck (cg [] [] [] [9,27,32] [] [] [] [bN,gK,gd n]) (az fB) (tY t a dp bad) 0 (mH (cg [] [] [] [9,27,32] [] [] [] [bN,gK,gd n]) fB [[.d .str, .d (.int .i64), .d (.int .i64), .d .bool]] λ r ds=>bB r [⟨(.st .expr),(bh t a dp).e⟩]/\oN ds [[⟨.str,t⟩,⟨(.int .i64),((bh t a dp).a:Int)⟩,⟨(.int .i64),((bh t a dp).dp:Int)⟩,⟨.bool,(bh t a dp).bad⟩]]) (dk fB [.box 0] [[.d .str, .d (.int .i64), .d (.int .i64), .d .bool]] [[⟨.str,t⟩,⟨(.int .i64),a⟩,⟨(.int .i64),dp⟩,⟨.bool,bad⟩]]) =
 (((0<=a/\a<=(t.length:Int)/\t.length<=10000)/\((3 * (101 - dp).toNat<n/\0<=(((bK t a.toNat (40:Int):Nat):Int))/\(((bK t a.toNat (40:Int):Nat):Int))<=(t.length:Int)/\t.length<=10000/\0<=dp/\dp<=1000)/\((0<=(((bO t (((bK t a.toNat (40:Int):Nat):Int)) dp (bZ t a.toNat (40:Int) bad)).a:Int))/\(((bO t (((bK t a.toNat (40:Int):Nat):Int)) dp (bZ t a.toNat (40:Int) bad)).a:Int))<=(t.length:Int)/\t.length<=10000)/\((0<=(((bK t (((bO t (((bK t a.toNat (40:Int):Nat):Int)) dp (bZ t a.toNat (40:Int) bad)).a:Int)).toNat (32:Int):Nat):Int))/\(((bK t (((bO t (((bK t a.toNat (40:Int):Nat):Int)) dp (bZ t a.toNat (40:Int) bad)).a:Int)).toNat (32:Int):Nat):Int))<=(t.length:Int)/\t.length<=10000)/\(((decide ((bY t (((bK t (((bO t (((bK t a.toNat (40:Int):Nat):Int)) dp (bZ t a.toNat (40:Int) bad)).a:Int)).toNat (32:Int):Nat):Int)).toNat)=(43:Int)))=true ->
 (U (((bK t (((bO t (((bK t a.toNat (40:Int):Nat):Int)) dp (bZ t a.toNat (40:Int) bad)).a:Int)).toNat (32:Int):Nat):Int)) ->
 (U ((((bK t (((bO t (((bK t a.toNat (40:Int):Nat):Int)) dp (bZ t a.toNat (40:Int) bad)).a:Int)).toNat (32:Int):Nat):Int))+(1:Int))/\((0<=((((bK t (((bO t (((bK t a.toNat (40:Int):Nat):Int)) dp (bZ t a.toNat (40:Int) bad)).a:Int)).toNat (32:Int):Nat):Int))+(1:Int))/\((((bK t (((bO t (((bK t a.toNat (40:Int):Nat):Int)) dp (bZ t a.toNat (40:Int) bad)).a:Int)).toNat (32:Int):Nat):Int))+(1:Int))<=(t.length:Int)/\t.length<=10000)/\((3 * (101 - (((bO t (((bK t a.toNat (40:Int):Nat):Int)) dp (bZ t a.toNat (40:Int) bad)).dp:Int))).toNat<n/\0<=(((bK t ((((bK t (((bO t (((bK t a.toNat (40:Int):Nat):Int)) dp (bZ t a.toNat (40:Int) bad)).a:Int)).toNat (32:Int):Nat):Int))+(1:Int)).toNat (32:Int):Nat):Int))/\(((bK t ((((bK t (((bO t (((bK t a.toNat (40:Int):Nat):Int)) dp (bZ t a.toNat (40:Int) bad)).a:Int)).toNat (32:Int):Nat):Int))+(1:Int)).toNat (32:Int):Nat):Int))<=(t.length:Int)/\t.length<=10000/\0<=(((bO t (((bK t a.toNat (40:Int):Nat):Int)) dp (bZ t a.toNat (40:Int) bad)).dp:Int))/\(((bO t (((bK t a.toNat (40:Int):Nat):Int)) dp (bZ t a.toNat (40:Int) bad)).dp:Int))<=1000)/\((0<=(((bO t (((bK t ((((bK t (((bO t (((bK t a.toNat (40:Int):Nat):Int)) dp (bZ t a.toNat (40:Int) bad)).a:Int)).toNat (32:Int):Nat):Int))+(1:Int)).toNat (32:Int):Nat):Int)) (((bO t (((bK t a.toNat (40:Int):Nat):Int)) dp (bZ t a.toNat (40:Int) bad)).dp:Int)) (bZ t ((((bK t (((bO t (((bK t a.toNat (40:Int):Nat):Int)) dp (bZ t a.toNat (40:Int) bad)).a:Int)).toNat (32:Int):Nat):Int))+(1:Int)).toNat (32:Int) (bZ t (((bO t (((bK t a.toNat (40:Int):Nat):Int)) dp (bZ t a.toNat (40:Int) bad)).a:Int)).toNat (32:Int) ((bO t (((bK t a.toNat (40:Int):Nat):Int)) dp (bZ t a.toNat (40:Int) bad)).bad)))).a:Int))/\(((bO t (((bK t ((((bK t (((bO t (((bK t a.toNat (40:Int):Nat):Int)) dp (bZ t a.toNat (40:Int) bad)).a:Int)).toNat (32:Int):Nat):Int))+(1:Int)).toNat (32:Int):Nat):Int)) (((bO t (((bK t a.toNat (40:Int):Nat):Int)) dp (bZ t a.toNat (40:Int) bad)).dp:Int)) (bZ t ((((bK t (((bO t (((bK t a.toNat (40:Int):Nat):Int)) dp (bZ t a.toNat (40:Int) bad)).a:Int)).toNat (32:Int):Nat):Int))+(1:Int)).toNat (32:Int) (bZ t (((bO t (((bK t a.toNat (40:Int):Nat):Int)) dp (bZ t a.toNat (40:Int) bad)).a:Int)).toNat (32:Int) ((bO t (((bK t a.toNat (40:Int):Nat):Int)) dp (bZ t a.toNat (40:Int) bad)).bad)))).a:Int))<=(t.length:Int)/\t.length<=10000)/\((J.mk (6:Int) (0:Int) ([(ag ((bO t (((bK t a.toNat (40:Int):Nat):Int)) dp (bZ t a.toNat (40:Int) bad)).e)),(ag ((bO t (((bK t ((((bK t (((bO t (((bK t a.toNat (40:Int):Nat):Int)) dp (bZ t a.toNat (40:Int) bad)).a:Int)).toNat (32:Int):Nat):Int))+(1:Int)).toNat (32:Int):Nat):Int)) (((bO t (((bK t a.toNat (40:Int):Nat):Int)) dp (bZ t a.toNat (40:Int) bad)).dp:Int)) (bZ t ((((bK t (((bO t (((bK t a.toNat (40:Int):Nat):Int)) dp (bZ t a.toNat (40:Int) bad)).a:Int)).toNat (32:Int):Nat):Int))+(1:Int)).toNat (32:Int) (bZ t (((bO t (((bK t a.toNat (40:Int):Nat):Int)) dp (bZ t a.toNat (40:Int) bad)).a:Int)).toNat (32:Int) ((bO t (((bK t a.toNat (40:Int):Nat):Int)) dp (bZ t a.toNat (40:Int) bad)).bad)))).e))]))=((bh t a dp).e)/\((t=t/\((((bK t (((bO t (((bK t ((((bK t (((bO t (((bK t a.toNat (40:Int):Nat):Int)) dp (bZ t a.toNat (40:Int) bad)).a:Int)).toNat (32:Int):Nat):Int))+(1:Int)).toNat (32:Int):Nat):Int)) (((bO t (((bK t a.toNat (40:Int):Nat):Int)) dp (bZ t a.toNat (40:Int) bad)).dp:Int)) (bZ t ((((bK t (((bO t (((bK t a.toNat (40:Int):Nat):Int)) dp (bZ t a.toNat (40:Int) bad)).a:Int)).toNat (32:Int):Nat):Int))+(1:Int)).toNat (32:Int) (bZ t (((bO t (((bK t a.toNat (40:Int):Nat):Int)) dp (bZ t a.toNat (40:Int) bad)).a:Int)).toNat (32:Int) ((bO t (((bK t a.toNat (40:Int):Nat):Int)) dp (bZ t a.toNat (40:Int) bad)).bad)))).a:Int)).toNat (41:Int):Nat):Int))=((bh t a dp).a:Int)/\((((bO t (((bK t ((((bK t (((bO t (((bK t a.toNat (40:Int):Nat):Int)) dp (bZ t a.toNat (40:Int) bad)).a:Int)).toNat (32:Int):Nat):Int))+(1:Int)).toNat (32:Int):Nat):Int)) (((bO t (((bK t a.toNat (40:Int):Nat):Int)) dp (bZ t a.toNat (40:Int) bad)).dp:Int)) (bZ t ((((bK t (((bO t (((bK t a.toNat (40:Int):Nat):Int)) dp (bZ t a.toNat (40:Int) bad)).a:Int)).toNat (32:Int):Nat):Int))+(1:Int)).toNat (32:Int) (bZ t (((bO t (((bK t a.toNat (40:Int):Nat):Int)) dp (bZ t a.toNat (40:Int) bad)).a:Int)).toNat (32:Int) ((bO t (((bK t a.toNat (40:Int):Nat):Int)) dp (bZ t a.toNat (40:Int) bad)).bad)))).dp:Int))=((bh t a dp).dp:Int)/\(bZ t (((bO t (((bK t ((((bK t (((bO t (((bK t a.toNat (40:Int):Nat):Int)) dp (bZ t a.toNat (40:Int) bad)).a:Int)).toNat (32:Int):Nat):Int))+(1:Int)).toNat (32:Int):Nat):Int)) (((bO t (((bK t a.toNat (40:Int):Nat):Int)) dp (bZ t a.toNat (40:Int) bad)).dp:Int)) (bZ t ((((bK t (((bO t (((bK t a.toNat (40:Int):Nat):Int)) dp (bZ t a.toNat (40:Int) bad)).a:Int)).toNat (32:Int):Nat):Int))+(1:Int)).toNat (32:Int) (bZ t (((bO t (((bK t a.toNat (40:Int):Nat):Int)) dp (bZ t a.toNat (40:Int) bad)).a:Int)).toNat (32:Int) ((bO t (((bK t a.toNat (40:Int):Nat):Int)) dp (bZ t a.toNat (40:Int) bad)).bad)))).a:Int)).toNat (41:Int) ((bO t (((bK t ((((bK t (((bO t (((bK t a.toNat (40:Int):Nat):Int)) dp (bZ t a.toNat (40:Int) bad)).a:Int)).toNat (32:Int):Nat):Int))+(1:Int)).toNat (32:Int):Nat):Int)) (((bO t (((bK t a.toNat (40:Int):Nat):Int)) dp (bZ t a.toNat (40:Int) bad)).dp:Int)) (bZ t ((((bK t (((bO t (((bK t a.toNat (40:Int):Nat):Int)) dp (bZ t a.toNat (40:Int) bad)).a:Int)).toNat (32:Int):Nat):Int))+(1:Int)).toNat (32:Int) (bZ t (((bO t (((bK t a.toNat (40:Int):Nat):Int)) dp (bZ t a.toNat (40:Int) bad)).a:Int)).toNat (32:Int) ((bO t (((bK t a.toNat (40:Int):Nat):Int)) dp (bZ t a.toNat (40:Int) bad)).bad)))).bad))=((bh t a dp).bad))))/\True))))))))/\((decide ((bY t (((bK t (((bO t (((bK t a.toNat (40:Int):Nat):Int)) dp (bZ t a.toNat (40:Int) bad)).a:Int)).toNat (32:Int):Nat):Int)).toNat)=(43:Int)))=false ->
 ((3 * (101 - (((bO t (((bK t a.toNat (40:Int):Nat):Int)) dp (bZ t a.toNat (40:Int) bad)).dp:Int))).toNat<n/\0<=(((bK t (((bO t (((bK t a.toNat (40:Int):Nat):Int)) dp (bZ t a.toNat (40:Int) bad)).a:Int)).toNat (32:Int):Nat):Int))/\(((bK t (((bO t (((bK t a.toNat (40:Int):Nat):Int)) dp (bZ t a.toNat (40:Int) bad)).a:Int)).toNat (32:Int):Nat):Int))<=(t.length:Int)/\t.length<=10000/\0<=(((bO t (((bK t a.toNat (40:Int):Nat):Int)) dp (bZ t a.toNat (40:Int) bad)).dp:Int))/\(((bO t (((bK t a.toNat (40:Int):Nat):Int)) dp (bZ t a.toNat (40:Int) bad)).dp:Int))<=1000)/\((0<=(((bO t (((bK t (((bO t (((bK t a.toNat (40:Int):Nat):Int)) dp (bZ t a.toNat (40:Int) bad)).a:Int)).toNat (32:Int):Nat):Int)) (((bO t (((bK t a.toNat (40:Int):Nat):Int)) dp (bZ t a.toNat (40:Int) bad)).dp:Int)) (bZ t (((bO t (((bK t a.toNat (40:Int):Nat):Int)) dp (bZ t a.toNat (40:Int) bad)).a:Int)).toNat (32:Int) ((bO t (((bK t a.toNat (40:Int):Nat):Int)) dp (bZ t a.toNat (40:Int) bad)).bad))).a:Int))/\(((bO t (((bK t (((bO t (((bK t a.toNat (40:Int):Nat):Int)) dp (bZ t a.toNat (40:Int) bad)).a:Int)).toNat (32:Int):Nat):Int)) (((bO t (((bK t a.toNat (40:Int):Nat):Int)) dp (bZ t a.toNat (40:Int) bad)).dp:Int)) (bZ t (((bO t (((bK t a.toNat (40:Int):Nat):Int)) dp (bZ t a.toNat (40:Int) bad)).a:Int)).toNat (32:Int) ((bO t (((bK t a.toNat (40:Int):Nat):Int)) dp (bZ t a.toNat (40:Int) bad)).bad))).a:Int))<=(t.length:Int)/\t.length<=10000)/\((J.mk (7:Int) (0:Int) ([(ag ((bO t (((bK t a.toNat (40:Int):Nat):Int)) dp (bZ t a.toNat (40:Int) bad)).e)),(ag ((bO t (((bK t (((bO t (((bK t a.toNat (40:Int):Nat):Int)) dp (bZ t a.toNat (40:Int) bad)).a:Int)).toNat (32:Int):Nat):Int)) (((bO t (((bK t a.toNat (40:Int):Nat):Int)) dp (bZ t a.toNat (40:Int) bad)).dp:Int)) (bZ t (((bO t (((bK t a.toNat (40:Int):Nat):Int)) dp (bZ t a.toNat (40:Int) bad)).a:Int)).toNat (32:Int) ((bO t (((bK t a.toNat (40:Int):Nat):Int)) dp (bZ t a.toNat (40:Int) bad)).bad))).e))]))=((bh t a dp).e)/\((t=t/\((((bK t (((bO t (((bK t (((bO t (((bK t a.toNat (40:Int):Nat):Int)) dp (bZ t a.toNat (40:Int) bad)).a:Int)).toNat (32:Int):Nat):Int)) (((bO t (((bK t a.toNat (40:Int):Nat):Int)) dp (bZ t a.toNat (40:Int) bad)).dp:Int)) (bZ t (((bO t (((bK t a.toNat (40:Int):Nat):Int)) dp (bZ t a.toNat (40:Int) bad)).a:Int)).toNat (32:Int) ((bO t (((bK t a.toNat (40:Int):Nat):Int)) dp (bZ t a.toNat (40:Int) bad)).bad))).a:Int)).toNat (41:Int):Nat):Int))=((bh t a dp).a:Int)/\((((bO t (((bK t (((bO t (((bK t a.toNat (40:Int):Nat):Int)) dp (bZ t a.toNat (40:Int) bad)).a:Int)).toNat (32:Int):Nat):Int)) (((bO t (((bK t a.toNat (40:Int):Nat):Int)) dp (bZ t a.toNat (40:Int) bad)).dp:Int)) (bZ t (((bO t (((bK t a.toNat (40:Int):Nat):Int)) dp (bZ t a.toNat (40:Int) bad)).a:Int)).toNat (32:Int) ((bO t (((bK t a.toNat (40:Int):Nat):Int)) dp (bZ t a.toNat (40:Int) bad)).bad))).dp:Int))=((bh t a dp).dp:Int)/\(bZ t (((bO t (((bK t (((bO t (((bK t a.toNat (40:Int):Nat):Int)) dp (bZ t a.toNat (40:Int) bad)).a:Int)).toNat (32:Int):Nat):Int)) (((bO t (((bK t a.toNat (40:Int):Nat):Int)) dp (bZ t a.toNat (40:Int) bad)).dp:Int)) (bZ t (((bO t (((bK t a.toNat (40:Int):Nat):Int)) dp (bZ t a.toNat (40:Int) bad)).a:Int)).toNat (32:Int) ((bO t (((bK t a.toNat (40:Int):Nat):Int)) dp (bZ t a.toNat (40:Int) bad)).bad))).a:Int)).toNat (41:Int) ((bO t (((bK t (((bO t (((bK t a.toNat (40:Int):Nat):Int)) dp (bZ t a.toNat (40:Int) bad)).a:Int)).toNat (32:Int):Nat):Int)) (((bO t (((bK t a.toNat (40:Int):Nat):Int)) dp (bZ t a.toNat (40:Int) bad)).dp:Int)) (bZ t (((bO t (((bK t a.toNat (40:Int):Nat):Int)) dp (bZ t a.toNat (40:Int) bad)).a:Int)).toNat (32:Int) ((bO t (((bK t a.toNat (40:Int):Nat):Int)) dp (bZ t a.toNat (40:Int) bad)).bad))).bad))=((bh t a dp).bad))))/\True))))))))))):=by kernel_rfl
def CX(n:Nat)(hE:aI [])(hO:dL [])(hM:ed [])(hS:dP [bN,gK,gd n]):jU.Good (gf (n+1)):=by
 refine⟨aA mW rfl (by decide),?_⟩;show ∀ (t:List UInt8) (a:Int) (dp:Int) (bad:Bool),(3 * (101 - dp).toNat+1<n+1/\0<=a/\a<=(t.length:Int)/\t.length<=10000/\0<=dp/\dp<=100/\bad=false/\bY t a.toNat=40)->vo prog o4 [[.d .str, .d (.int .i64), .d (.int .i64), .d .bool]] [.box 0] [[⟨.str,t⟩,⟨(.int .i64),a⟩,⟨(.int .i64),dp⟩,⟨.bool,bad⟩]] [⟨(.st .expr),(bh t a dp).e⟩] [[⟨.str,t⟩,⟨(.int .i64),((bh t a dp).a:Int)⟩,⟨(.int .i64),((bh t a dp).dp:Int)⟩,⟨.bool,(bh t a dp).bad⟩]];intro t a dp bad hp;refine jL (own:=[9,27,32]) (wr:=[]) (cl:=[]) (ro:=[]) hE hO hM hS mW A0 (tY t a dp bad) rfl rfl ?_;rewrite [Dc n t a dp bad];obtain⟨hm,h0,h1,h2,h3,h4,h5,h6⟩:=hp;subst h5;have l0:=wG t a.toNat (by rw[h6];decide);obtain⟨g1,g2⟩:=b0c t a 40 h0 h6;have b1:=TL t (a+1) dp false (by omega) (by omega) h3;obtain⟨p1,p2⟩:=a5q t a dp h0 (by omega) h3 h4 h6 _ rfl;simp only[yE] at p1 p2;simp only[g1,g2,b1d];generalize bO t (a+1) dp false=X at *
 have c1:=FE t X.a 32 (by decide) (by omega);by_cases hs:bY t (bK t X.a 32)=43
 .obtain⟨q1,q2,q3,q4⟩:=p1 hs;have l1:=wG t (bK t X.a 32) (by rw[hs];decide);have e1:(((bK t X.a 32:Nat):Int)+1).toNat=bK t X.a 32+1:=by omega
  have c2:=FE t (bK t X.a 32+1) 32 (by decide) (by omega);have b2:=TL t ((bK t (bK t X.a 32+1) 32:Nat):Int) (X.dp:Int) (bZ t (bK t X.a 32+1) 32 (bZ t X.a 32 X.bad)) (by omega) (by omega) (by omega);simp only[hs,e1,q1,q2,q3,q4,b1y,b1s,b0X,b0U,b0W,b0V,b1g,b1h,b1m,b1t,b1b,b1N,b1d,U,aU];generalize bO t ((bK t (bK t X.a 32+1) 32:Nat):Int) (X.dp:Int) (bZ t (bK t X.a 32+1) 32 (bZ t X.a 32 X.bad))=Y at *
  have c3:=FE t Y.a 41 (by decide) (by omega);repeat' (first|intro _|apply And.intro)
  all_goals first|exact True.intro|omega|with_reducible rfl
 .obtain⟨q1,q2,q3,q4⟩:=p2 hs;have b2:=TL t ((bK t X.a 32:Nat):Int) (X.dp:Int) (bZ t X.a 32 X.bad) (by omega) (by omega) (by omega);simp only[hs,q1,q2,q3,q4,b1y,b1s,b0X,b0U,b0W,b0V,b1g,b1h,b1m,b1t,b1b,b1N,b1d,U,aU];generalize bO t ((bK t X.a 32:Nat):Int) (X.dp:Int) (bZ t X.a 32 X.bad)=Y at *
  have c3:=FE t Y.a 41 (by decide) (by omega);repeat' (first|intro _|apply And.intro)
  all_goals first|exact True.intro|omega|with_reducible rfl
def tW(t:List UInt8)(a:Int)(dp:Int)(bad:Bool):Nat->aM:=(λ zb=>if Nat.beq zb 0 then .mk (Nat) (λ m=>m<=sE t (bh t a (dp+1))) (λ m=>sE t (bh t a (dp+1)) - m) [] [1,4,5,6,7,8,9,10,11,12,13,14,15,16,17,18,19,20,21,22,23,24,25,26,27] (λ m=>[]) [0,2,28,29,30,31,32,33,34,35,36,37,38,39,40,41,42,43,44,45,46,47,48,49,50,51,52,53,54,55] (λ m=>[(400000, .box [.aT ⟨.str,(t:List UInt8)⟩, .aT ⟨(.int .i64),(((bh t a (dp+1)).a:Int)+(m:Int):Int)⟩, .aT ⟨(.int .i64),(((bh t a (dp+1)).dp:Int):Int)⟩, .aT ⟨.bool,((bh t a (dp+1)).bad:Bool)⟩]),(3, .box [.aT ⟨(.int .i64),((bp 8 m (bh t a (dp+1)).e).au:Int)⟩, .aT ⟨(.int .i64),((bp 8 m (bh t a (dp+1)).e).aO:Int)⟩, .aD 7100]),(7100, .aD (.st .expr) ((bp 8 m (bh t a (dp+1)).e).M:List J))]) [] [] (λ m=>λ _ => .none) else .none)
def Da(n:Nat)(t:List UInt8)(a:Int)(dp:Int)(bad:Bool):ck (cg [] [] [] [27,46] [] [] [] [bN,di n]) (az fw) (tW t a dp bad) 0 (mH (cg [] [] [] [27,46] [] [] [] [bN,di n]) fw [[.d .str, .d (.int .i64), .d (.int .i64), .d .bool]] λ r ds=>bB r [⟨(.st .expr),(bO t a dp bad).e⟩]/\oN ds [[⟨.str,t⟩,⟨(.int .i64),((bO t a dp bad).a:Int)⟩,⟨(.int .i64),((bO t a dp bad).dp:Int)⟩,⟨.bool,(bO t a dp bad).bad⟩]]) (dk fw [.box 0] [[.d .str, .d (.int .i64), .d (.int .i64), .d .bool]] [[⟨.str,t⟩,⟨(.int .i64),a⟩,⟨(.int .i64),dp⟩,⟨.bool,bad⟩]]) =
 ((U dp ->
 (U (dp+(1:Int))/\((bad=false ->
 (U (dp+(1:Int)) ->
 (((decide ((100:Int)<(dp+(1:Int))))=true ->
 (zE=((bO t a dp bad).e)/\((t=t/\(a=((bO t a dp bad).a:Int)/\((dp+(1:Int))=((bO t a dp bad).dp:Int)/\true=((bO t a dp bad).bad))))/\True)))/\((decide ((100:Int)<(dp+(1:Int))))=false ->
 ((3 * (101 - (dp+(1:Int))).toNat+2<n/\0<=a/\a<=(t.length:Int)/\t.length<=10000/\0<=(dp+(1:Int))/\(dp+(1:Int))<=100/\bad=false)/\((∃ m1:Nat,(m1<=sE t (bh t a (dp+1))/\((True/\(True/\(True/\True)))/\((t=t/\((((bh t a (dp+(1:Int))).a:Int))=(((bh t a (dp+1)).a:Int)+(m1:Int))/\((((bh t a (dp+(1:Int))).dp:Int))=((bh t a (dp+1)).dp:Int)/\(((bh t a (dp+(1:Int))).bad)=((bh t a (dp+1)).bad)/\True))))/\((((bh t a (dp+(1:Int))).e).au=((bp 8 m1 (bh t a (dp+1)).e).au)/\(((bh t a (dp+(1:Int))).e).aO=((bp 8 m1 (bh t a (dp+1)).e).aO)/\(True/\True)))/\(((bh t a (dp+(1:Int))).e).M=((bp 8 m1 (bh t a (dp+1)).e).M)/\(((0:Int)=(0:Int)/\((0:Int)=(0:Int)/\(True/\True)))/\True)))))))/\(∀ m1:Nat,(m1<=sE t (bh t a (dp+1)) ->
 (((!((bh t a (dp+1)).bad))=true ->
 ((0<=(((bh t a (dp+1)).a:Int)+(m1:Int))/\(((bh t a (dp+1)).a:Int)+(m1:Int))<=(t.length:Int)/\t.length<=10000)/\(((decide ((bY t (((bh t a (dp+1)).a:Int)+(m1:Int)).toNat)=(42:Int)))=true ->
 (U (((bh t a (dp+1)).a:Int)+(m1:Int)) ->
 (U ((((bh t a (dp+1)).a:Int)+(m1:Int))+(1:Int))/\(∃ m2:Nat,(m2<=sE t (bh t a (dp+1))/\(sE t (bh t a (dp+1)) - m2<sE t (bh t a (dp+1)) - m1/\((True/\(True/\(True/\True)))/\((t=t/\(((((bh t a (dp+1)).a:Int)+(m1:Int))+(1:Int))=(((bh t a (dp+1)).a:Int)+(m2:Int))/\(((bh t a (dp+1)).dp:Int)=((bh t a (dp+1)).dp:Int)/\(((bh t a (dp+1)).bad)=((bh t a (dp+1)).bad)/\True))))/\(((8:Int)=((bp 8 m2 (bh t a (dp+1)).e).au)/\((0:Int)=((bp 8 m2 (bh t a (dp+1)).e).aO)/\(True/\True)))/\(([(J.mk ((bp 8 m1 (bh t a (dp+1)).e).au) ((bp 8 m1 (bh t a (dp+1)).e).aO) ((bp 8 m1 (bh t a (dp+1)).e).M))])=((bp 8 m2 (bh t a (dp+1)).e).M)/\(((0:Int)=(0:Int)/\((0:Int)=(0:Int)/\(True/\True)))/\True)))))))))))/\((decide ((bY t (((bh t a (dp+1)).a:Int)+(m1:Int)).toNat)=(42:Int)))=false ->
 (U ((bh t a (dp+1)).dp:Int) ->
 (U (((bh t a (dp+1)).dp:Int) - (1:Int))/\((J.mk ((bp 8 m1 (bh t a (dp+1)).e).au) ((bp 8 m1 (bh t a (dp+1)).e).aO) ((bp 8 m1 (bh t a (dp+1)).e).M))=((bO t a dp bad).e)/\((t=t/\((((bh t a (dp+1)).a:Int)+(m1:Int))=((bO t a dp bad).a:Int)/\((((bh t a (dp+1)).dp:Int) - (1:Int))=((bO t a dp bad).dp:Int)/\((bh t a (dp+1)).bad)=((bO t a dp bad).bad))))/\True))))))))/\((!((bh t a (dp+1)).bad))=(!true) ->
 ((false=true ->
 (U (((bh t a (dp+1)).a:Int)+(m1:Int)) ->
 (U ((((bh t a (dp+1)).a:Int)+(m1:Int))+(1:Int))/\(∃ m2:Nat,(m2<=sE t (bh t a (dp+1))/\(sE t (bh t a (dp+1)) - m2<sE t (bh t a (dp+1)) - m1/\((True/\(True/\(True/\True)))/\((t=t/\(((((bh t a (dp+1)).a:Int)+(m1:Int))+(1:Int))=(((bh t a (dp+1)).a:Int)+(m2:Int))/\(((bh t a (dp+1)).dp:Int)=((bh t a (dp+1)).dp:Int)/\(((bh t a (dp+1)).bad)=((bh t a (dp+1)).bad)/\True))))/\(((8:Int)=((bp 8 m2 (bh t a (dp+1)).e).au)/\((0:Int)=((bp 8 m2 (bh t a (dp+1)).e).aO)/\(True/\True)))/\(([(J.mk ((bp 8 m1 (bh t a (dp+1)).e).au) ((bp 8 m1 (bh t a (dp+1)).e).aO) ((bp 8 m1 (bh t a (dp+1)).e).M))])=((bp 8 m2 (bh t a (dp+1)).e).M)/\(((0:Int)=(0:Int)/\((0:Int)=(0:Int)/\(True/\True)))/\True)))))))))))/\(false=false ->
 (U ((bh t a (dp+1)).dp:Int) ->
 (U (((bh t a (dp+1)).dp:Int) - (1:Int))/\((J.mk ((bp 8 m1 (bh t a (dp+1)).e).au) ((bp 8 m1 (bh t a (dp+1)).e).aO) ((bp 8 m1 (bh t a (dp+1)).e).M))=((bO t a dp bad).e)/\((t=t/\((((bh t a (dp+1)).a:Int)+(m1:Int))=((bO t a dp bad).a:Int)/\((((bh t a (dp+1)).dp:Int) - (1:Int))=((bO t a dp bad).dp:Int)/\((bh t a (dp+1)).bad)=((bO t a dp bad).bad))))/\True))))))))))))))))/\(bad=(!false) ->
 ((true=true ->
 (zE=((bO t a dp bad).e)/\((t=t/\(a=((bO t a dp bad).a:Int)/\((dp+(1:Int))=((bO t a dp bad).dp:Int)/\true=((bO t a dp bad).bad))))/\True)))/\(true=false ->
 ((3 * (101 - (dp+(1:Int))).toNat+2<n/\0<=a/\a<=(t.length:Int)/\t.length<=10000/\0<=(dp+(1:Int))/\(dp+(1:Int))<=100/\bad=false)/\((∃ m1:Nat,(m1<=sE t (bh t a (dp+1))/\((True/\(True/\(True/\True)))/\((t=t/\((((bh t a (dp+(1:Int))).a:Int))=(((bh t a (dp+1)).a:Int)+(m1:Int))/\((((bh t a (dp+(1:Int))).dp:Int))=((bh t a (dp+1)).dp:Int)/\(((bh t a (dp+(1:Int))).bad)=((bh t a (dp+1)).bad)/\True))))/\((((bh t a (dp+(1:Int))).e).au=((bp 8 m1 (bh t a (dp+1)).e).au)/\(((bh t a (dp+(1:Int))).e).aO=((bp 8 m1 (bh t a (dp+1)).e).aO)/\(True/\True)))/\(((bh t a (dp+(1:Int))).e).M=((bp 8 m1 (bh t a (dp+1)).e).M)/\(((0:Int)=(0:Int)/\((0:Int)=(0:Int)/\(True/\True)))/\True)))))))/\(∀ m1:Nat,(m1<=sE t (bh t a (dp+1)) ->
 (((!((bh t a (dp+1)).bad))=true ->
 ((0<=(((bh t a (dp+1)).a:Int)+(m1:Int))/\(((bh t a (dp+1)).a:Int)+(m1:Int))<=(t.length:Int)/\t.length<=10000)/\(((decide ((bY t (((bh t a (dp+1)).a:Int)+(m1:Int)).toNat)=(42:Int)))=true ->
 (U (((bh t a (dp+1)).a:Int)+(m1:Int)) ->
 (U ((((bh t a (dp+1)).a:Int)+(m1:Int))+(1:Int))/\(∃ m2:Nat,(m2<=sE t (bh t a (dp+1))/\(sE t (bh t a (dp+1)) - m2<sE t (bh t a (dp+1)) - m1/\((True/\(True/\(True/\True)))/\((t=t/\(((((bh t a (dp+1)).a:Int)+(m1:Int))+(1:Int))=(((bh t a (dp+1)).a:Int)+(m2:Int))/\(((bh t a (dp+1)).dp:Int)=((bh t a (dp+1)).dp:Int)/\(((bh t a (dp+1)).bad)=((bh t a (dp+1)).bad)/\True))))/\(((8:Int)=((bp 8 m2 (bh t a (dp+1)).e).au)/\((0:Int)=((bp 8 m2 (bh t a (dp+1)).e).aO)/\(True/\True)))/\(([(J.mk ((bp 8 m1 (bh t a (dp+1)).e).au) ((bp 8 m1 (bh t a (dp+1)).e).aO) ((bp 8 m1 (bh t a (dp+1)).e).M))])=((bp 8 m2 (bh t a (dp+1)).e).M)/\(((0:Int)=(0:Int)/\((0:Int)=(0:Int)/\(True/\True)))/\True)))))))))))/\((decide ((bY t (((bh t a (dp+1)).a:Int)+(m1:Int)).toNat)=(42:Int)))=false ->
 (U ((bh t a (dp+1)).dp:Int) ->
 (U (((bh t a (dp+1)).dp:Int) - (1:Int))/\((J.mk ((bp 8 m1 (bh t a (dp+1)).e).au) ((bp 8 m1 (bh t a (dp+1)).e).aO) ((bp 8 m1 (bh t a (dp+1)).e).M))=((bO t a dp bad).e)/\((t=t/\((((bh t a (dp+1)).a:Int)+(m1:Int))=((bO t a dp bad).a:Int)/\((((bh t a (dp+1)).dp:Int) - (1:Int))=((bO t a dp bad).dp:Int)/\((bh t a (dp+1)).bad)=((bO t a dp bad).bad))))/\True))))))))/\((!((bh t a (dp+1)).bad))=(!true) ->
 ((false=true ->
 (U (((bh t a (dp+1)).a:Int)+(m1:Int)) ->
 (U ((((bh t a (dp+1)).a:Int)+(m1:Int))+(1:Int))/\(∃ m2:Nat,(m2<=sE t (bh t a (dp+1))/\(sE t (bh t a (dp+1)) - m2<sE t (bh t a (dp+1)) - m1/\((True/\(True/\(True/\True)))/\((t=t/\(((((bh t a (dp+1)).a:Int)+(m1:Int))+(1:Int))=(((bh t a (dp+1)).a:Int)+(m2:Int))/\(((bh t a (dp+1)).dp:Int)=((bh t a (dp+1)).dp:Int)/\(((bh t a (dp+1)).bad)=((bh t a (dp+1)).bad)/\True))))/\(((8:Int)=((bp 8 m2 (bh t a (dp+1)).e).au)/\((0:Int)=((bp 8 m2 (bh t a (dp+1)).e).aO)/\(True/\True)))/\(([(J.mk ((bp 8 m1 (bh t a (dp+1)).e).au) ((bp 8 m1 (bh t a (dp+1)).e).aO) ((bp 8 m1 (bh t a (dp+1)).e).M))])=((bp 8 m2 (bh t a (dp+1)).e).M)/\(((0:Int)=(0:Int)/\((0:Int)=(0:Int)/\(True/\True)))/\True)))))))))))/\(false=false ->
 (U ((bh t a (dp+1)).dp:Int) ->
 (U (((bh t a (dp+1)).dp:Int) - (1:Int))/\((J.mk ((bp 8 m1 (bh t a (dp+1)).e).au) ((bp 8 m1 (bh t a (dp+1)).e).aO) ((bp 8 m1 (bh t a (dp+1)).e).M))=((bO t a dp bad).e)/\((t=t/\((((bh t a (dp+1)).a:Int)+(m1:Int))=((bO t a dp bad).a:Int)/\((((bh t a (dp+1)).dp:Int) - (1:Int))=((bO t a dp bad).dp:Int)/\((bh t a (dp+1)).bad)=((bO t a dp bad).bad))))/\True))))))))))))))))))):=by kernel_rfl
def CV(n:Nat)(hE:aI [])(hO:dL [])(hM:ed [])(hS:dP [bN,di n]):jU.Good (gd (n+1)):=by
 refine⟨aA jk rfl (by decide),?_⟩;show ∀ (t:List UInt8) (a:Int) (dp:Int) (bad:Bool),(3 * (101 - dp).toNat<n+1/\0<=a/\a<=(t.length:Int)/\t.length<=10000/\0<=dp/\dp<=1000)->vo prog j8 [[.d .str, .d (.int .i64), .d (.int .i64), .d .bool]] [.box 0] [[⟨.str,t⟩,⟨(.int .i64),a⟩,⟨(.int .i64),dp⟩,⟨.bool,bad⟩]] [⟨(.st .expr),(bO t a dp bad).e⟩] [[⟨.str,t⟩,⟨(.int .i64),((bO t a dp bad).a:Int)⟩,⟨(.int .i64),((bO t a dp bad).dp:Int)⟩,⟨.bool,(bO t a dp bad).bad⟩]];intro t a dp bad hp;refine jL (own:=[27,46]) (wr:=[]) (cl:=[]) (ro:=[]) hE hO hM hS jk AY (tW t a dp bad) rfl rfl ?_;rewrite [Da n t a dp bad];obtain⟨hm,h0,h1,h2,h3,h4⟩:=hp;cases bad with
 | true =>
  obtain⟨q1,q2,q3,q4⟩:=ZZ t a dp true h0 h3 (.inl rfl);simp only[q1,q2,q3,q4,b1y,b1s,b0X,b0U,b0W,b0V,b1g,b1h,b1m,b1t,b1b,b1N,b1d,U,aU];repeat' (first|intro _|apply And.intro)
  all_goals first|exact True.intro|omega|with_reducible rfl
 | false =>
  by_cases hd:100<dp+1
  .obtain⟨q1,q2,q3,q4⟩:=ZZ t a dp false h0 h3 (.inr hd);simp only[hd,q1,q2,q3,q4,b1y,b1s,b0X,b0U,b0W,b0V,b1g,b1h,b1m,b1t,b1b,b1N,b1d,U,aU];repeat' (first|intro _|apply And.intro)
   all_goals first|exact True.intro|omega|with_reducible rfl
  .obtain⟨q1,q2,q3,q4⟩:=a6p t a dp false h0 h1 h3 rfl hd;have b1:=OS t a (dp+1) h0 h1 (by omega) (by omega);have b2:=a8z t a (dp+1) h0 h1 (by omega) (by omega);simp only[hd,q1,q2,q3,q4,b1y,b1s,b0X,b0U,b0W,b0V,b1g,b1h,b1m,b1t,b1b,b1N,b1d,U,aU];generalize bh t a (dp+1)=R at *
   cases hB:R.bad with
   | true =>
    have z:=a6P t R hB;simp only[hB,z,b1y,b1s,b0X,b0U,b0W,b0V,b1g,b1h,b1m,b1t,b1b,b1N,b1d,U,aU];repeat' (first|intro _|apply And.intro)
    all_goals first|exact True.intro|omega|with_reducible rfl|exact⟨0,b2b _,by omega,⟨rfl,rfl⟩,rfl⟩|(simp only[J.eta];congr 1;omega)
   | false =>
    have z:=λ m h=>a8y t R m hB h;simp only[hB,b1y,b1s,b0X,b0U,b0W,b0V,b1g,b1h,b1m,b1t,b1b,b1N,b1d,U,aU];repeat' (first|intro _|apply And.intro)
    all_goals (try simp only[b0N,b0M] at *)
    all_goals first|exact True.intro|omega|with_reducible rfl|exact⟨0,b2b _,by omega,⟨rfl,rfl⟩,rfl⟩|(rename_i m1 _ _ _;have g:=z m1 (by assumption);first|omega|(simp only[J.eta];congr 1;omega)|exact⟨m1+1,by omega,by omega,by omega,⟨by rw[fi],by rw[fi]⟩,by rw[fi,J.eta]⟩)
def Xh:∀ n,dP [di n,gf n,gd n]
 | 0=>⟨⟨aA mJ rfl (by decide),λ _ _ _ _ h=>absurd h.1 (b1H _)⟩,⟨aA mW rfl (by decide),λ _ _ _ _ h=>absurd h.1 (b1H _)⟩,⟨aA jk rfl (by decide),λ _ _ _ _ h=>absurd h.1 (b1H _)⟩,af⟩
 | n+1=>by
  have ih:=Xh n;exact⟨Bb n trivial trivial trivial ⟨fh,AI,ih.2.1,ih.1,af⟩,CX n trivial trivial trivial ⟨fh,AJ,ih.2.2.1,af⟩,CV n trivial trivial trivial ⟨fh,ih.1,af⟩,af⟩
def AH:jU.Good jy :=
 ⟨aA jk rfl (by decide),λ t a dp bad hp=>(Xh (3 * (101 - dp).toNat+1)).2.2.1.2 t a dp bad (⟨b1D _,hp⟩)⟩
end
end Go.Proofs.YtmjfpcajohhbeaaGreatDoor

set_option maxRecDepth 4000
set_option maxHeartbeats 4000000
namespace Go.Proofs.YtmjfpcajohhbeaaGreatDoor
noncomputable section
def yX(gg:aX)(t:List UInt8):J:=bif bS gg&&decide (t.length<=4000) then ll gg t else zX
def C3(gg:aX)(t:List UInt8):Int:=bif bS gg then (bif decide (t.length<=4000) then (bif dY gg t then 0 else 5) else 2) else 1
def a4P(t:List UInt8):bO t 0 0 false=AP t:=rfl
def mu:aQ:=⟨vV,[.v (.st .sig), .v .str],λ (gg:aX) (t:List UInt8)=>⟨(some (bS gg=true/\t.length<=8000),[⟨(.st .expr),ll gg t⟩,⟨.bool,dY gg t⟩])⟩⟩
def B8(gg:aX)(t:List UInt8):Nat->aM:=λ _ => .none
def Ni(gg:aX)(t:List UInt8):ck (cg [dc,uK] [] [] [12] [] [] [2] [mB]) (az kt) (B8 gg t) 0 (dN (cg [dc,uK] [] [] [12] [] [] [2] [mB]) kt λ r=>bB r [⟨(.st .expr),ll gg t⟩,⟨.bool,dY gg t⟩]) (fE kt [.val ⟨(.st .sig),gg⟩, .val ⟨.str,t⟩]) =
 (((0<=(0:Int)/\(0:Int)<=(t.length:Int)/\t.length<=10000 /\ -1<=(40:Int)/\(40:Int)<=40)/\(((!((xE t (40:Int) (0:Int)).ok))=false ->
 (U (((xE t (40:Int) (0:Int)).a:Int)) ->
 (U ((t.length:Int)) ->
 (((!(decide ((((xE t (40:Int) (0:Int)).a:Int))=((t.length:Int)))))=false ->
 (((!(cC gg (ag ((xE t (40:Int) (0:Int)).e))))=false ->
 ((eR (ag ((xE t (40:Int) (0:Int)).e))=true/\(cd (ag ((xE t (40:Int) (0:Int)).e))).length<=1000000)/\((cd (ag ((xE t (40:Int) (0:Int)).e))).length<=140737488355328 ->
 (((!decide ((cd (ag ((xE t (40:Int) (0:Int)).e)))=t))=true ->
 (zE=(ll gg t)/\false=(dY gg t)))/\((!decide ((cd (ag ((xE t (40:Int) (0:Int)).e)))=t))=false ->
 ((ag ((xE t (40:Int) (0:Int)).e))=(ll gg t)/\true=(dY gg t)))))))/\((!(cC gg (ag ((xE t (40:Int) (0:Int)).e))))=(!false) ->
 ((true=true ->
 (zE=(ll gg t)/\false=(dY gg t)))/\(true=false ->
 ((ag ((xE t (40:Int) (0:Int)).e))=(ll gg t)/\true=(dY gg t)))))))/\((!(decide ((((xE t (40:Int) (0:Int)).a:Int))=((t.length:Int)))))=(!false) ->
 ((true=false ->
 ((eR (ag ((xE t (40:Int) (0:Int)).e))=true/\(cd (ag ((xE t (40:Int) (0:Int)).e))).length<=1000000)/\((cd (ag ((xE t (40:Int) (0:Int)).e))).length<=140737488355328 ->
 (((!decide ((cd (ag ((xE t (40:Int) (0:Int)).e)))=t))=true ->
 (zE=(ll gg t)/\false=(dY gg t)))/\((!decide ((cd (ag ((xE t (40:Int) (0:Int)).e)))=t))=false ->
 ((ag ((xE t (40:Int) (0:Int)).e))=(ll gg t)/\true=(dY gg t)))))))/\(true=(!false) ->
 ((true=true ->
 (zE=(ll gg t)/\false=(dY gg t)))/\(true=false ->
 ((ag ((xE t (40:Int) (0:Int)).e))=(ll gg t)/\true=(dY gg t)))))))))))/\((!((xE t (40:Int) (0:Int)).ok))=(!false) ->
 ((true=false ->
 (((!(cC gg (ag ((xE t (40:Int) (0:Int)).e))))=false ->
 ((eR (ag ((xE t (40:Int) (0:Int)).e))=true/\(cd (ag ((xE t (40:Int) (0:Int)).e))).length<=1000000)/\((cd (ag ((xE t (40:Int) (0:Int)).e))).length<=140737488355328 ->
 (((!decide ((cd (ag ((xE t (40:Int) (0:Int)).e)))=t))=true ->
 (zE=(ll gg t)/\false=(dY gg t)))/\((!decide ((cd (ag ((xE t (40:Int) (0:Int)).e)))=t))=false ->
 ((ag ((xE t (40:Int) (0:Int)).e))=(ll gg t)/\true=(dY gg t)))))))/\((!(cC gg (ag ((xE t (40:Int) (0:Int)).e))))=(!false) ->
 ((true=true ->
 (zE=(ll gg t)/\false=(dY gg t)))/\(true=false ->
 ((ag ((xE t (40:Int) (0:Int)).e))=(ll gg t)/\true=(dY gg t)))))))/\(true=(!false) ->
 ((true=false ->
 ((eR (ag ((xE t (40:Int) (0:Int)).e))=true/\(cd (ag ((xE t (40:Int) (0:Int)).e))).length<=1000000)/\((cd (ag ((xE t (40:Int) (0:Int)).e))).length<=140737488355328 ->
 (((!decide ((cd (ag ((xE t (40:Int) (0:Int)).e)))=t))=true ->
 (zE=(ll gg t)/\false=(dY gg t)))/\((!decide ((cd (ag ((xE t (40:Int) (0:Int)).e)))=t))=false ->
 ((ag ((xE t (40:Int) (0:Int)).e))=(ll gg t)/\true=(dY gg t)))))))/\(true=(!false) ->
 ((true=true ->
 (zE=(ll gg t)/\false=(dY gg t)))/\(true=false ->
 ((ag ((xE t (40:Int) (0:Int)).e))=(ll gg t)/\true=(dY gg t)))))))))))):=by kernel_rfl
def MQ(hE:aI [dc,uK])(hO:dL [])(hM:ed [])(hS:dP [mB]):aQ.df mu:=by
 refine⟨aA Bm rfl (by decide),?_⟩;show ∀ (gg:aX) (t:List UInt8),(bS gg=true/\t.length<=8000)->fH prog vV [.val ⟨(.st .sig),gg⟩, .val ⟨.str,t⟩] [⟨(.st .expr),ll gg t⟩,⟨.bool,dY gg t⟩];intro gg t hp;refine cV (own:=[12]) (wr:=[]) (cl:=[]) (ro:=[2]) hE hO hM hS Bm JN (B8 gg t) ?_;rewrite [Ni gg t];obtain⟨hg,hl⟩:=hp;have r1:dY gg t=((xE t 40 0).ok&&decide ((xE t 40 0).a=t.length)&&cC gg (xE t 40 0).e&&decide (cd (xE t 40 0).e=t)):=rfl;have r2:ll gg t=bif dY gg t then (xE t 40 0).e else zX:=rfl
 have r3:=Ff gg (xE t 40 0).e hg;rcases b1O (xE t 40 0).ok with h1|h1
 .by_cases h2:(xE t 40 0).a=t.length
  .have d2:decide (((xE t 40 0).a:Int)=(t.length:Int))=true:=b1A (by omega);rcases b1O (cC gg (xE t 40 0).e) with h3|h3
   .obtain⟨g1,g2,g3⟩:=r3 h3;by_cases h4:cd (xE t 40 0).e=t
    .have k1:dY gg t=true:=by rw[r1,h1,b1A h2,h3,b1A h4];rfl
     have k2:ll gg t=(xE t 40 0).e:=by rw[r2,k1];rfl
     simp only[h1,d2,h3,b1A h4,g1,k1,k2,b1y,b1s,b0X,b0U,b0W,b0V,b1g,b1h,b1m,b1t,b1b,b1N,b1d,U,aU];repeat' (first|intro _|apply And.intro)
     all_goals first|exact True.intro|omega|with_reducible rfl
    .have k1:dY gg t=false:=by rw[r1,b1a h4];simp
     have k2:ll gg t=zX:=by rw[r2,k1];rfl
     simp only[h1,d2,h3,b1a h4,g1,k1,k2,b1y,b1s,b0X,b0U,b0W,b0V,b1g,b1h,b1m,b1t,b1b,b1N,b1d,U,aU];repeat' (first|intro _|apply And.intro)
     all_goals first|exact True.intro|omega|with_reducible rfl
   .have k1:dY gg t=false:=by rw[r1,h3];simp
    have k2:ll gg t=zX:=by rw[r2,k1];rfl
    simp only[h1,d2,h3,k1,k2,b1y,b1s,b0X,b0U,b0W,b0V,b1g,b1h,b1m,b1t,b1b,b1N,b1d,U,aU];repeat' (first|intro _|apply And.intro)
    all_goals first|exact True.intro|omega|with_reducible rfl
  .have d2:decide (((xE t 40 0).a:Int)=(t.length:Int))=false:=b1a (by omega);have k1:dY gg t=false:=by rw[r1,b1a h2];simp
   have k2:ll gg t=zX:=by rw[r2,k1];rfl
   simp only[h1,d2,k1,k2,b1y,b1s,b0X,b0U,b0W,b0V,b1g,b1h,b1m,b1t,b1b,b1N,b1d,U,aU];repeat' (first|intro _|apply And.intro)
   all_goals first|exact True.intro|omega|with_reducible rfl
 .have k1:dY gg t=false:=by rw[r1,h1];rfl
  have k2:ll gg t=zX:=by rw[r2,k1];rfl
  simp only[h1,k1,k2,b1y,b1s,b0X,b0U,b0W,b0V,b1g,b1h,b1m,b1t,b1b,b1N,b1d,U,aU];repeat' (first|intro _|apply And.intro)
  all_goals first|exact True.intro|omega|with_reducible rfl
def IN:aQ.df mu:=MQ ⟨mg,Ot,af⟩ trivial trivial ⟨Ez,af⟩
def mz:aQ:=⟨v8,[.v (.st .sig), .v .str],λ (gg:aX) (t:List UInt8)=>⟨(none,[⟨(.st .expr),yX gg t⟩,⟨(.int .i64),C3 gg t⟩])⟩⟩
def Cc(gg:aX)(t:List UInt8):Nat->aM:=λ _ => .none
def Nn(gg:aX)(t:List UInt8):ck (cg [ff,dZ] [] [] [20] [] [] [2] [jy]) (az kE) (Cc gg t) 0 (dN (cg [ff,dZ] [] [] [20] [] [] [2] [jy]) kE λ r=>bB r [⟨(.st .expr),yX gg t⟩,⟨(.int .i64),C3 gg t⟩]) (fE kE [.val ⟨(.st .sig),gg⟩, .val ⟨.str,t⟩]) =
 ((((!(bS gg))=true ->
 (zE=(yX gg t)/\(1:Int)=(C3 gg t)))/\((!(bS gg))=false ->
 (U ((t.length:Int)) ->
 (((decide ((4000:Int)<((t.length:Int))))=true ->
 (zE=(yX gg t)/\(2:Int)=(C3 gg t)))/\((decide ((4000:Int)<((t.length:Int))))=false ->
 ((0<=(0:Int)/\(0:Int)<=(t.length:Int)/\t.length<=10000/\0<=(0:Int)/\(0:Int)<=1000)/\((((bO t (0:Int) (0:Int) false).bad)=false ->
 (U (((bO t (0:Int) (0:Int) false).a:Int)) ->
 (U ((t.length:Int)) ->
 (((!(decide ((((bO t (0:Int) (0:Int) false).a:Int))=((t.length:Int)))))=false ->
 (((!(oz gg (ag ((bO t (0:Int) (0:Int) false).e))))=true ->
 (zE=(yX gg t)/\(5:Int)=(C3 gg t)))/\((!(oz gg (ag ((bO t (0:Int) (0:Int) false).e))))=false ->
 ((ag ((bO t (0:Int) (0:Int) false).e))=(yX gg t)/\(0:Int)=(C3 gg t)))))/\((!(decide ((((bO t (0:Int) (0:Int) false).a:Int))=((t.length:Int)))))=(!false) ->
 ((true=true ->
 (zE=(yX gg t)/\(5:Int)=(C3 gg t)))/\(true=false ->
 ((ag ((bO t (0:Int) (0:Int) false).e))=(yX gg t)/\(0:Int)=(C3 gg t)))))))))/\(((bO t (0:Int) (0:Int) false).bad)=(!false) ->
 ((true=false ->
 (((!(oz gg (ag ((bO t (0:Int) (0:Int) false).e))))=true ->
 (zE=(yX gg t)/\(5:Int)=(C3 gg t)))/\((!(oz gg (ag ((bO t (0:Int) (0:Int) false).e))))=false ->
 ((ag ((bO t (0:Int) (0:Int) false).e))=(yX gg t)/\(0:Int)=(C3 gg t)))))/\(true=(!false) ->
 ((true=true ->
 (zE=(yX gg t)/\(5:Int)=(C3 gg t)))/\(true=false ->
 ((ag ((bO t (0:Int) (0:Int) false).e))=(yX gg t)/\(0:Int)=(C3 gg t))))))))))))))):=by kernel_rfl
def MU(hE:aI [ff,dZ])(hO:dL [])(hM:ed [])(hS:dP [jy]):aQ.df mz:=by
 refine⟨aA Bt rfl (by decide),?_⟩;show ∀ (gg:aX) (t:List UInt8),True->fH prog v8 [.val ⟨(.st .sig),gg⟩, .val ⟨.str,t⟩] [⟨(.st .expr),yX gg t⟩,⟨(.int .i64),C3 gg t⟩];intro gg t _;refine cV (own:=[20]) (wr:=[]) (cl:=[]) (ro:=[2]) hE hO hM hS Bt JV (Cc gg t) ?_;rewrite [Nn gg t];have r1:yX gg t=bif bS gg&&decide (t.length<=4000) then ll gg t else zX:=rfl
 have r2:C3 gg t=bif bS gg then (bif decide (t.length<=4000) then (bif dY gg t then 0 else 5) else 2) else 1:=rfl
 have r3:dY gg t=false->ll gg t=zX:=λ h=>by unfold ll;rw[h];rfl
 rcases b1O (bS gg) with hg|hg
 .by_cases hl:t.length<=4000
  .have d1:decide ((4000:Int)<((t.length:Int)))=false:=decide_eq_false (by omega);have s0:=a5L gg t hg;rw[<-a4P] at s0;obtain⟨s1,s2⟩:=s0;have s3:oz gg (bO t 0 0 false).e=cC gg (bO t 0 0 false).e:=by unfold oz;rw[hg];rfl
   simp only[r1,r2,hg,d1,b1A hl,s3,b4b,b3Y,b1y,b1s,b0X,b0U,b0W,b0V,b1g,b1h,b1m,b1t,b1b,b1N,b1d,U,aU];rcases b1O (bO t 0 0 false).bad with h1|h1
   .have k:dY gg t=false:=by rw[<-s1,h1];rfl
    simp only[h1,k,r3 k,b4i,b1y,b1s,b0X,b0U,b0W,b0V,b1g,b1h,b1m,b1t,b1b,b1N,b1d,U,aU];repeat' (first|intro _|apply And.intro)
    all_goals first|exact True.intro|omega|with_reducible rfl|with_reducible assumption
   .by_cases h2:(bO t 0 0 false).a=t.length
    .have d2:decide (((bO t 0 0 false).a:Int)=(t.length:Int))=true:=b1A (by omega);rcases b1O (cC gg (bO t 0 0 false).e) with h3|h3
     .have k:dY gg t=true:=by rw[<-s1,h1,b1A h2,h3];rfl
      have k2:=s2 k;simp only[h1,d2,h3,k,b3Y,b1y,b1s,b0X,b0U,b0W,b0V,b1g,b1h,b1m,b1t,b1b,b1N,b1d,U,aU];repeat' (first|intro _|apply And.intro)
      all_goals first|exact True.intro|omega|with_reducible rfl|with_reducible assumption
     .have k:dY gg t=false:=by rw[<-s1,h3];simp
      simp only[h1,d2,h3,k,r3 k,b4i,b1y,b1s,b0X,b0U,b0W,b0V,b1g,b1h,b1m,b1t,b1b,b1N,b1d,U,aU];repeat' (first|intro _|apply And.intro)
      all_goals first|exact True.intro|omega|with_reducible rfl|with_reducible assumption
    .have d2:decide (((bO t 0 0 false).a:Int)=(t.length:Int))=false:=b1a (by omega);have k:dY gg t=false:=by rw[<-s1,b1a h2];simp
     simp only[h1,d2,k,r3 k,b4i,b1y,b1s,b0X,b0U,b0W,b0V,b1g,b1h,b1m,b1t,b1b,b1N,b1d,U,aU];repeat' (first|intro _|apply And.intro)
     all_goals first|exact True.intro|omega|with_reducible rfl|with_reducible assumption
  .have d1:decide ((4000:Int)<((t.length:Int)))=true:=b1A (by omega);simp only[r1,r2,hg,d1,b1a hl,b2E,b3Y,b4i,b1y,b1s,b0X,b0U,b0W,b0V,b1g,b1h,b1m,b1t,b1b,b1N,b1d,U,aU];repeat' (first|intro _|apply And.intro)
   all_goals first|exact True.intro|omega|with_reducible rfl|with_reducible assumption
 .simp only[r1,r2,hg,b2v,b4i,b1y,b1s,b0X,b0U,b0W,b0V,b1g,b1h,b1m,b1t,b1b,b1N,b1d,U,aU];repeat' (first|intro _|apply And.intro)
  all_goals first|exact True.intro|omega|with_reducible rfl|with_reducible assumption
def IT:aQ.df mz:=MU ⟨uA,nF,af⟩ trivial trivial ⟨AH,af⟩
end
end Go.Proofs.YtmjfpcajohhbeaaGreatDoor

set_option maxRecDepth 4000
set_option maxHeartbeats 4000000
namespace Go.Proofs.YtmjfpcajohhbeaaGreatDoor
noncomputable section
def eqL(t:List UInt8):List UInt8:=tM t [32,61,32]
def eqR(t:List UInt8):List UInt8:=lC t [32,61,32]
def eqC(t:List UInt8):Bool:=uw t [32,61,32]
def zQ:aH:=aH.mk zE zE
def sG(gg:aX)(t:List UInt8):Bool:=eqC t&&dY gg (eqL t)&&dY gg (eqR t)
def Hi(gg:aX)(t:List UInt8):aH:=bif sG gg t then aH.mk (ll gg (eqL t)) (ll gg (eqR t)) else zQ
def M0(gg:aX)(t:List UInt8):aH:=bif eqC t then aH.mk (yX gg (eqL t)) (yX gg (eqR t)) else zQ
def a3M(gg:aX)(t:List UInt8)(hg:bS gg=true)(h:dY gg t=true):t.length<=1000:=by
 simp only[dY,b0R,b0N] at h;obtain⟨⟨_,h2⟩,h3⟩:=h;have:=Ff gg _ hg h2;have e:=congrArg List.length h3;omega
def Zo(gg:aX)(t:List UInt8)(hg:bS gg=true):(decide (C3 gg t=0)=dY gg t)/\(dY gg t=true->yX gg t=ll gg t):=by
 unfold C3 yX;rw[hg];rcases Bool.eq_false_or_eq_true (dY gg t) with h|h
 .have:=a3M gg t hg h;rw[h,b1A (show t.length<=4000 by omega)];exact⟨rfl,λ _=>rfl⟩
 .rw[h];refine⟨?_,λ q=>by cases q⟩;cases decide (t.length<=4000)<;>rfl
def a6O(gg:aX)(t:List UInt8)(hg:bS gg=true)(h:sG gg t=true):M0 gg t=Hi gg t:=by
 unfold M0 Hi;rw[h];simp only[sG,Bool.and_eq_true] at h;rw[h.1.1,(Zo gg _ hg).2 h.1.2,(Zo gg _ hg).2 h.2]
def X9(gg:aX)(t:List UInt8):sG gg t=(uw t [32,61,32]&&dY gg (tM t [32,61,32])&&dY gg (lC t [32,61,32])) /\
  (sG gg t=true->Hi gg t=aH.mk (ll gg (tM t [32,61,32])) (ll gg (lC t [32,61,32])))/\(sG gg t=false->Hi gg t=aH.mk zE zE):=by
 refine⟨rfl,λ h=>?_,λ h=>?_⟩<;>· unfold Hi;rw[h];rfl
def a1Z(gg:aX)(t:List UInt8):(uw t [32,61,32]=true->wQ t [32,61,32]=tM t [32,61,32]/\M0 gg t=aH.mk (yX gg (tM t [32,61,32])) (yX gg (lC t [32,61,32]))) /\
  (uw t [32,61,32]=false->M0 gg t=aH.mk zE zE):=by
 refine⟨λ h=>⟨?_,?_⟩,λ h=>?_⟩
 .unfold wQ;rw[h];rfl
 .unfold M0 eqC;rw[h];rfl
 .unfold M0 eqC;rw[h];rfl
def iF:aQ:=⟨qL,[.v (.st .sig), .v .str],λ (gg:aX) (t:List UInt8)=>⟨(some (bS gg=true/\t.length<=8000),[⟨(.st .equation),Hi gg t⟩,⟨.bool,sG gg t⟩])⟩⟩
def vB(gg:aX)(t:List UInt8):Nat->aM:=λ _ => .none
abbrev tO(gg:aX)(t:List UInt8):Prop:=(((!(dY gg (lC t ([32,61,32]))))=true ->
 ((aH.mk zE zE)=(Hi gg t)/\false=(sG gg t)))/\((!(dY gg (lC t ([32,61,32]))))=false ->
 ((aH.mk (ag (ll gg (tM t ([32,61,32])))) (ag (ll gg (lC t ([32,61,32])))))=(Hi gg t)/\true=(sG gg t))))
abbrev tP(gg:aX)(t:List UInt8):Prop:=((true=true ->
 ((aH.mk zE zE)=(Hi gg t)/\false=(sG gg t)))/\(true=false ->
 ((aH.mk (ag (ll gg (tM t ([32,61,32])))) (ag (ll gg (lC t ([32,61,32])))))=(Hi gg t)/\true=(sG gg t))))
def FK(gg:aX)(t:List UInt8):ck (cg [uN] [mu] [] [22,28] [] [] [2]) (az gB) (vB gg t) 0 (dN (cg [uN] [mu] [] [22,28] [] [] [2]) gB λ r=>bB r [⟨(.st .equation),Hi gg t⟩,⟨.bool,sG gg t⟩]) (fE gB [.val ⟨(.st .sig),gg⟩, .val ⟨.str,t⟩]) =
 ((t.length<=1048576/\((tM t ([32,61,32])).length<=140737488355328 ->
 ((lC t ([32,61,32])).length<=140737488355328 ->
 ((bS gg=true/\(tM t ([32,61,32])).length<=8000)/\((bS gg=true/\(lC t ([32,61,32])).length<=8000)/\(((!(uw t ([32,61,32])))=false ->
 (((!(dY gg (tM t ([32,61,32]))))=false ->
 (tO gg t))/\((!(dY gg (tM t ([32,61,32]))))=(!false) ->
 (tP gg t))))/\((!(uw t ([32,61,32])))=(!false) ->
 ((true=false ->
 (tO gg t))/\(true=(!false) ->
 (tP gg t))))))))))):=by kernel_rfl
def Fv(hE:aI [uN])(hO:dL [mu])(hM:ed [])(hS:dP []):aQ.df iF:=by
 refine⟨aA vp rfl (by decide),?_⟩;show ∀ (gg:aX) (t:List UInt8),(bS gg=true/\t.length<=8000)->fH prog qL [.val ⟨(.st .sig),gg⟩, .val ⟨.str,t⟩] [⟨(.st .equation),Hi gg t⟩,⟨.bool,sG gg t⟩];intro gg t hp;refine cV (own:=[22,28]) (wr:=[]) (cl:=[]) (ro:=[2]) hE hO hM hS vp Dz (vB gg t) ?_;rewrite [FK gg t];obtain⟨f2,f3,f4⟩:=X9 gg t;have f0:(tM t [32,61,32]).length<=t.length/\(lC t [32,61,32]).length<=t.length:=Xs t _;refine⟨?_,λ _ _=>⟨?_,?_,λ _=>⟨λ _=>⟨λ _=>⟨?_,?_⟩,λ _=>⟨?_,?_⟩⟩,λ _=>⟨λ _=>⟨?_,?_⟩,λ _=>⟨?_,?_⟩⟩⟩,λ _=>⟨λ _=>⟨λ _=>⟨?_,?_⟩,λ _=>⟨?_,?_⟩⟩,λ _=>⟨λ _=>⟨?_,?_⟩,λ _=>⟨?_,?_⟩⟩⟩⟩⟩;all_goals try and_intros
 all_goals try (first|with_reducible rfl|with_reducible assumption)
 all_goals try simp only[J.eta,ae.eta,aH.eta,aU,bM,ct] at *
 all_goals first|rfl|trivial|omega|(simp only[b0N,b0M,b1i,b1B,b0U,b0X,aC,U,b0Z,b1n] at *;first|omega|grind)|grind
def CS:aQ.df iF:=Fv ⟨Oy,af⟩ ⟨IN,af⟩ trivial trivial
def kK:aQ:=⟨x6,[.v (.st .sig), .v .str],λ (gg:aX) (t:List UInt8)=>⟨(some (bS gg=true/\t.length<=8000),[⟨(.st .equation),M0 gg t⟩,⟨.bool,sG gg t⟩])⟩⟩
def Er(gg:aX)(t:List UInt8):Nat->aM:=λ _ => .none
def P6(gg:aX)(t:List UInt8):ck (cg [qJ] [mz] [] [25,31] [] [] [2]) (az lV) (Er gg t) 0 (dN (cg [qJ] [mz] [] [25,31] [] [] [2]) lV λ r=>bB r [⟨(.st .equation),M0 gg t⟩,⟨.bool,sG gg t⟩]) (fE lV [.val ⟨(.st .sig),gg⟩, .val ⟨.str,t⟩]) =
 (((t.length<=1048576/\1<=([32,61,32]).length/\([32,61,32]).length<=100)/\((wQ t ([32,61,32])).length<=140737488355328 ->
 ((lC t ([32,61,32])).length<=140737488355328 ->
 (((!(uw t ([32,61,32])))=true ->
 ((aH.mk zE zE)=(M0 gg t)/\false=(sG gg t)))/\((!(uw t ([32,61,32])))=false ->
 (U (C3 gg (wQ t ([32,61,32]))) ->
 (U (C3 gg (lC t ([32,61,32]))) ->
 (((decide ((C3 gg (wQ t ([32,61,32])))=(0:Int)))=true ->
 ((aH.mk (ag (yX gg (wQ t ([32,61,32])))) (ag (yX gg (lC t ([32,61,32])))))=(M0 gg t)/\(decide ((C3 gg (lC t ([32,61,32])))=(0:Int)))=(sG gg t)))/\((decide ((C3 gg (wQ t ([32,61,32])))=(0:Int)))=(!true) ->
 ((aH.mk (ag (yX gg (wQ t ([32,61,32])))) (ag (yX gg (lC t ([32,61,32])))))=(M0 gg t)/\false=(sG gg t)))))))))))):=by kernel_rfl
def Pn(hE:aI [qJ])(hO:dL [mz])(hM:ed [])(hS:dP []):aQ.df kK:=by
 refine⟨aA Dt rfl (by decide),?_⟩;show ∀ (gg:aX) (t:List UInt8),(bS gg=true/\t.length<=8000)->fH prog x6 [.val ⟨(.st .sig),gg⟩, .val ⟨.str,t⟩] [⟨(.st .equation),M0 gg t⟩,⟨.bool,sG gg t⟩];intro gg t hp;refine cV (own:=[25,31]) (wr:=[]) (cl:=[]) (ro:=[2]) hE hO hM hS Dt LN (Er gg t) ?_;rewrite [P6 gg t];obtain⟨f3,f4⟩:=a1Z gg t;have f5:=(X9 gg t).1;have f1:=(Zo gg (tM t [32,61,32]) hp.1).1;have f2:=(Zo gg (lC t [32,61,32]) hp.1).1;refine⟨?_,λ _ _=>⟨λ _=>⟨?_,?_⟩,λ _ _ _=>⟨λ _=>⟨?_,?_⟩,λ _=>⟨?_,?_⟩⟩⟩⟩;all_goals try and_intros
 all_goals try (first|with_reducible rfl|with_reducible assumption)
 all_goals try simp only[J.eta,ae.eta,aH.eta,aU,bM,ct] at *
 all_goals first|rfl|trivial|omega|(simp only[b0N,b0M,b1i,b1B,b0U,b0X,aC,U,b0Z,b1n] at *;first|omega|grind)|grind
def Kq:aQ.df kK:=Pn ⟨Ov,af⟩ ⟨IT,af⟩ trivial trivial
end
end Go.Proofs.YtmjfpcajohhbeaaGreatDoor

set_option maxRecDepth 4000
set_option maxHeartbeats 4000000
namespace Go.Proofs.YtmjfpcajohhbeaaGreatDoor
noncomputable section
def gP:aX:=aX.mk (3:Int) (4:Int)
def oQ:List (List UInt8):=[[40,97,48,32,43,32,40,97,49,32,43,32,97,50,41,41,32,61,32,40,40,97,48,32,43,32,97,49,41,32,43,32,97,50,41],[40,97,48,32,43,32,97,49,41,32,61,32,40,97,49,32,43,32,97,48,41],[40,97,48,32,43,32,48,41,32,61,32,97,48],[40,97,48,32,43,32,97,48,41,32,61,32,97,48],[40,97,48,32,40,97,49,32,97,50,41,41,32,61,32,40,40,97,48,32,97,49,41,32,97,50,41],[40,49,32,97,48,41,32,61,32,97,48],[40,97,48,32,49,41,32,61,32,97,48],[40,97,48,32,40,97,49,32,43,32,97,50,41,41,32,61,32,40,40,97,48,32,97,49,41,32,43,32,40,97,48,32,97,50,41,41],[40,40,97,48,32,43,32,97,49,41,32,97,50,41,32,61,32,40,40,97,48,32,97,50,41,32,43,32,40,97,49,32,97,50,41,41],[40,48,32,97,48,41,32,61,32,48],[40,97,48,32,48,41,32,61,32,48],[40,49,32,43,32,40,97,48,32,97,48,42,41,41,32,61,32,97,48,42],[40,49,32,43,32,40,97,48,42,32,97,48,41,41,32,61,32,97,48,42],[40,116,48,32,116,48,41,32,61,32,116,48],[40,116,48,32,116,49,41,32,61,32,40,116,49,32,116,48,41],[40,116,48,32,43,32,126,116,48,41,32,61,32,49],[40,116,48,32,126,116,48,41,32,61,32,48],[126,126,116,48,32,61,32,116,48],[126,40,116,48,32,43,32,116,49,41,32,61,32,40,126,116,48,32,126,116,49,41],[126,40,116,48,32,116,49,41,32,61,32,40,126,116,48,32,43,32,126,116,49,41],[126,48,32,61,32,49],[126,49,32,61,32,48],[40,116,48,32,43,32,49,41,32,61,32,49],[40,40,116,48,32,43,32,116,49,41,32,40,116,48,32,43,32,116,50,41,41,32,61,32,40,116,48,32,43,32,40,116,49,32,116,50,41,41]]
def Dx:List aH:=oQ.map (Hi gP)
def si:oQ.length=24:=rfl
def a7M:oQ.all (λ t=>sG gP t&&decide (t.length<=100))=true:=by kernel_rfl
def a1a(i:Nat)(h:i<24):sG gP (oQ.getD i [])=true/\(oQ.getD i []).length<=100/\M0 gP (oQ.getD i [])=Hi gP (oQ.getD i []):=by
 have hm:oQ.getD i []∈oQ:=by
  rw[b1f,b1p (by rw[si];exact h)];exact b2d _
 have:=b1L.1 a7M _ hm;rw[b0R,b0N] at this;exact⟨this.1,this.2,a6O gP _ (by decide) this.1⟩
def NJ(i:Nat):List aH:=(oQ.take i).map (Hi gP)
def a3j(i:Nat)(h:i<24):NJ (i+1)=NJ i++[Hi gP (oQ.getD i [])]:=by
 unfold NJ;rw[fM [] oQ i (by rw[si];exact h)];simp
def a4x(i:Nat)(h:24<=i):NJ i=Dx:=by
 unfold NJ Dx;rw[List.take_of_length_le (by rw[si];exact h)]
def a4y(i:Nat)(h:i<=24):(NJ i).length=i:=by
 unfold NJ;rw[List.length_map,List.length_take,si];omega
def kW:aQ:=⟨tw,[],⟨(none,[⟨(.st .sig),gP⟩])⟩⟩
def Af :Nat->aM:=λ _ => .none
def KC :ck (aZ []) (az iP) (Af ) 0 (bx (aZ []) iP λ r=>bB r [⟨(.st .sig),gP⟩]) (aL iP []) =
 ((aX.mk (3:Int) (4:Int))=gP):=by kernel_rfl
def Ks(hE:aI []):aQ.Good kW:=by
 refine⟨aA yf rfl (by decide),?_⟩;show True->bC prog tw [] (·=[⟨(.st .sig),gP⟩]);intro  _;refine bg (wr:=[]) (cl:=[]) (ro:=[]) hE yf GL (Af ) ?_;rewrite [KC ];refine ?_;all_goals try and_intros
 all_goals first|rfl|trivial|omega|(simp only[b0N,b0M,aC,U,cb,cM,ca,bF] at *;omega)|(simp[aC,U] at *;omega)|grind
def GR:aQ.Good kW:=Ks trivial
def pA:aQ:=⟨ya,[],⟨(none,[⟨(.st .sig),gP⟩])⟩⟩
def Gw :Nat->aM:=λ _ => .none
def RH :ck (aZ []) (az lY) (Gw ) 0 (bx (aZ []) lY λ r=>bB r [⟨(.st .sig),gP⟩]) (aL lY []) =
 ((aX.mk (3:Int) (4:Int))=gP):=by kernel_rfl
def Q9(hE:aI []):aQ.Good pA:=by
 refine⟨aA Dw rfl (by decide),?_⟩;show True->bC prog ya [] (·=[⟨(.st .sig),gP⟩]);intro  _;refine bg (wr:=[]) (cl:=[]) (ro:=[]) hE Dw LQ (Gw ) ?_;rewrite [RH ];refine ?_;all_goals try and_intros
 all_goals first|rfl|trivial|omega|(simp only[b0N,b0M,aC,U,cb,cM,ca,bF] at *;omega)|(simp[aC,U] at *;omega)|grind
def Mk:aQ.Good pA:=Q9 trivial
def dQ:aQ:=⟨pZ,[],⟨(none,[⟨(.slice .str),oQ⟩])⟩⟩
def vz :Nat->aM:=λ _ => .none
def FI :ck (aZ []) (az fT) (vz ) 0 (bx (aZ []) fT λ r=>bB r [⟨(.slice .str),oQ⟩]) (aL fT []) =
 (([([40,97,48,32,43,32,40,97,49,32,43,32,97,50,41,41,32,61,32,40,40,97,48,32,43,32,97,49,41,32,43,32,97,50,41]),([40,97,48,32,43,32,97,49,41,32,61,32,40,97,49,32,43,32,97,48,41]),([40,97,48,32,43,32,48,41,32,61,32,97,48]),([40,97,48,32,43,32,97,48,41,32,61,32,97,48]),([40,97,48,32,40,97,49,32,97,50,41,41,32,61,32,40,40,97,48,32,97,49,41,32,97,50,41]),([40,49,32,97,48,41,32,61,32,97,48]),([40,97,48,32,49,41,32,61,32,97,48]),([40,97,48,32,40,97,49,32,43,32,97,50,41,41,32,61,32,40,40,97,48,32,97,49,41,32,43,32,40,97,48,32,97,50,41,41]),([40,40,97,48,32,43,32,97,49,41,32,97,50,41,32,61,32,40,40,97,48,32,97,50,41,32,43,32,40,97,49,32,97,50,41,41]),([40,48,32,97,48,41,32,61,32,48]),([40,97,48,32,48,41,32,61,32,48]),([40,49,32,43,32,40,97,48,32,97,48,42,41,41,32,61,32,97,48,42]),([40,49,32,43,32,40,97,48,42,32,97,48,41,41,32,61,32,97,48,42]),([40,116,48,32,116,48,41,32,61,32,116,48]),([40,116,48,32,116,49,41,32,61,32,40,116,49,32,116,48,41]),([40,116,48,32,43,32,126,116,48,41,32,61,32,49]),([40,116,48,32,126,116,48,41,32,61,32,48]),([126,126,116,48,32,61,32,116,48]),([126,40,116,48,32,43,32,116,49,41,32,61,32,40,126,116,48,32,126,116,49,41]),([126,40,116,48,32,116,49,41,32,61,32,40,126,116,48,32,43,32,126,116,49,41]),([126,48,32,61,32,49]),([126,49,32,61,32,48]),([40,116,48,32,43,32,49,41,32,61,32,49]),([40,40,116,48,32,43,32,116,49,41,32,40,116,48,32,43,32,116,50,41,41,32,61,32,40,116,48,32,43,32,40,116,49,32,116,50,41,41])])=oQ):=by kernel_rfl
def Ft(hE:aI []):aQ.Good dQ:=by
 refine⟨aA um rfl (by decide),?_⟩;show True->bC prog pZ [] (·=[⟨(.slice .str),oQ⟩]);intro  _;refine bg (wr:=[]) (cl:=[]) (ro:=[]) hE um Cw (vz ) ?_;rewrite [FI ];refine ?_;all_goals try and_intros
 all_goals first|rfl|trivial|omega|(simp only[b0N,b0M,aC,U,cb,cM,ca,bF] at *;omega)|(simp[aC,U] at *;omega)|grind
def sn:aQ.Good dQ:=Ft trivial
def lZ:aQ:=⟨An,[],⟨(none,[⟨(.slice (.st .equation)),Dx⟩])⟩⟩
def Gx :Nat->aM:=(λ zb=>if Nat.beq zb 0 then .mk (Nat) (λ i=>i<=24) (λ i=>24 - i) [7] [2,5,6] (λ i=>[(9, .aT ⟨(.int .i64),((i:Int):Int)⟩),(8, .aT ⟨(.int .i64),((24:Int):Int)⟩),(7, .aT ⟨(.slice .str),(oQ:List (List UInt8))⟩),(1, .aD 2300)]) [] (λ i=>[(2300, .aD (.st .equation) (NJ i:List aH))]) [] [] (λ i=>λ _ => .none) else .none)
def RJ :ck (cg [kW] [iF] [] [6,16,21,22] []) (az mZ) (Gx ) 0 (dN (cg [kW] [iF] [] [6,16,21,22] []) mZ λ r=>bB r [⟨(.slice (.st .equation)),Dx⟩]) (fE mZ []) =
 ((U ((([([40,97,48,32,43,32,40,97,49,32,43,32,97,50,41,41,32,61,32,40,40,97,48,32,43,32,97,49,41,32,43,32,97,50,41]),([40,97,48,32,43,32,97,49,41,32,61,32,40,97,49,32,43,32,97,48,41]),([40,97,48,32,43,32,48,41,32,61,32,97,48]),([40,97,48,32,43,32,97,48,41,32,61,32,97,48]),([40,97,48,32,40,97,49,32,97,50,41,41,32,61,32,40,40,97,48,32,97,49,41,32,97,50,41]),([40,49,32,97,48,41,32,61,32,97,48]),([40,97,48,32,49,41,32,61,32,97,48]),([40,97,48,32,40,97,49,32,43,32,97,50,41,41,32,61,32,40,40,97,48,32,97,49,41,32,43,32,40,97,48,32,97,50,41,41]),([40,40,97,48,32,43,32,97,49,41,32,97,50,41,32,61,32,40,40,97,48,32,97,50,41,32,43,32,40,97,49,32,97,50,41,41]),([40,48,32,97,48,41,32,61,32,48]),([40,97,48,32,48,41,32,61,32,48]),([40,49,32,43,32,40,97,48,32,97,48,42,41,41,32,61,32,97,48,42]),([40,49,32,43,32,40,97,48,42,32,97,48,41,41,32,61,32,97,48,42]),([40,116,48,32,116,48,41,32,61,32,116,48]),([40,116,48,32,116,49,41,32,61,32,40,116,49,32,116,48,41]),([40,116,48,32,43,32,126,116,48,41,32,61,32,49]),([40,116,48,32,126,116,48,41,32,61,32,48]),([126,126,116,48,32,61,32,116,48]),([126,40,116,48,32,43,32,116,49,41,32,61,32,40,126,116,48,32,126,116,49,41]),([126,40,116,48,32,116,49,41,32,61,32,40,126,116,48,32,43,32,126,116,49,41]),([126,48,32,61,32,49]),([126,49,32,61,32,48]),([40,116,48,32,43,32,49,41,32,61,32,49]),([40,40,116,48,32,43,32,116,49,41,32,40,116,48,32,43,32,116,50,41,41,32,61,32,40,116,48,32,43,32,40,116,49,32,116,50,41,41])]).length:Int)) ->
 ((∃ i1:Nat,(i1<=24/\((True/\(True/\(([([40,97,48,32,43,32,40,97,49,32,43,32,97,50,41,41,32,61,32,40,40,97,48,32,43,32,97,49,41,32,43,32,97,50,41]),([40,97,48,32,43,32,97,49,41,32,61,32,40,97,49,32,43,32,97,48,41]),([40,97,48,32,43,32,48,41,32,61,32,97,48]),([40,97,48,32,43,32,97,48,41,32,61,32,97,48]),([40,97,48,32,40,97,49,32,97,50,41,41,32,61,32,40,40,97,48,32,97,49,41,32,97,50,41]),([40,49,32,97,48,41,32,61,32,97,48]),([40,97,48,32,49,41,32,61,32,97,48]),([40,97,48,32,40,97,49,32,43,32,97,50,41,41,32,61,32,40,40,97,48,32,97,49,41,32,43,32,40,97,48,32,97,50,41,41]),([40,40,97,48,32,43,32,97,49,41,32,97,50,41,32,61,32,40,40,97,48,32,97,50,41,32,43,32,40,97,49,32,97,50,41,41]),([40,48,32,97,48,41,32,61,32,48]),([40,97,48,32,48,41,32,61,32,48]),([40,49,32,43,32,40,97,48,32,97,48,42,41,41,32,61,32,97,48,42]),([40,49,32,43,32,40,97,48,42,32,97,48,41,41,32,61,32,97,48,42]),([40,116,48,32,116,48,41,32,61,32,116,48]),([40,116,48,32,116,49,41,32,61,32,40,116,49,32,116,48,41]),([40,116,48,32,43,32,126,116,48,41,32,61,32,49]),([40,116,48,32,126,116,48,41,32,61,32,48]),([126,126,116,48,32,61,32,116,48]),([126,40,116,48,32,43,32,116,49,41,32,61,32,40,126,116,48,32,126,116,49,41]),([126,40,116,48,32,116,49,41,32,61,32,40,126,116,48,32,43,32,126,116,49,41]),([126,48,32,61,32,49]),([126,49,32,61,32,48]),([40,116,48,32,43,32,49,41,32,61,32,49]),([40,40,116,48,32,43,32,116,49,41,32,40,116,48,32,43,32,116,50,41,41,32,61,32,40,116,48,32,43,32,40,116,49,32,116,50,41,41])])=oQ/\(((([([40,97,48,32,43,32,40,97,49,32,43,32,97,50,41,41,32,61,32,40,40,97,48,32,43,32,97,49,41,32,43,32,97,50,41]),([40,97,48,32,43,32,97,49,41,32,61,32,40,97,49,32,43,32,97,48,41]),([40,97,48,32,43,32,48,41,32,61,32,97,48]),([40,97,48,32,43,32,97,48,41,32,61,32,97,48]),([40,97,48,32,40,97,49,32,97,50,41,41,32,61,32,40,40,97,48,32,97,49,41,32,97,50,41]),([40,49,32,97,48,41,32,61,32,97,48]),([40,97,48,32,49,41,32,61,32,97,48]),([40,97,48,32,40,97,49,32,43,32,97,50,41,41,32,61,32,40,40,97,48,32,97,49,41,32,43,32,40,97,48,32,97,50,41,41]),([40,40,97,48,32,43,32,97,49,41,32,97,50,41,32,61,32,40,40,97,48,32,97,50,41,32,43,32,40,97,49,32,97,50,41,41]),([40,48,32,97,48,41,32,61,32,48]),([40,97,48,32,48,41,32,61,32,48]),([40,49,32,43,32,40,97,48,32,97,48,42,41,41,32,61,32,97,48,42]),([40,49,32,43,32,40,97,48,42,32,97,48,41,41,32,61,32,97,48,42]),([40,116,48,32,116,48,41,32,61,32,116,48]),([40,116,48,32,116,49,41,32,61,32,40,116,49,32,116,48,41]),([40,116,48,32,43,32,126,116,48,41,32,61,32,49]),([40,116,48,32,126,116,48,41,32,61,32,48]),([126,126,116,48,32,61,32,116,48]),([126,40,116,48,32,43,32,116,49,41,32,61,32,40,126,116,48,32,126,116,49,41]),([126,40,116,48,32,116,49,41,32,61,32,40,126,116,48,32,43,32,126,116,49,41]),([126,48,32,61,32,49]),([126,49,32,61,32,48]),([40,116,48,32,43,32,49,41,32,61,32,49]),([40,40,116,48,32,43,32,116,49,41,32,40,116,48,32,43,32,116,50,41,41,32,61,32,40,116,48,32,43,32,40,116,49,32,116,50,41,41])]).length:Int))=(24:Int)/\((0:Int)=(i1:Int)/\True)))))/\([]=(NJ i1)/\True))))/\(∀ i1:Nat,(i1<=24 ->
 (((decide ((i1:Int)<(24:Int)))=true ->
 (aC (i1:Int) oQ.length/\((oQ.getD i1 []).length<=140737488355328 ->
 ((bS (gP)=true/\(oQ.getD i1 []).length<=8000)/\(bF ((NJ i1).length+([(b9 (Hi (gP) (oQ.getD i1 [])))]).length) 80/\(U ((i1:Int)+(1:Int))/\(∃ i2:Nat,(i2<=24/\(24 - i2<24 - i1/\((True/\(True/\(oQ=oQ/\((24:Int)=(24:Int)/\(((i1:Int)+(1:Int))=(i2:Int)/\True)))))/\(((NJ i1)++([(b9 (Hi (gP) (oQ.getD i1 [])))]))=(NJ i2)/\True)))))))))))/\((decide ((i1:Int)<(24:Int)))=false ->
 (NJ i1)=Dx))))))):=by kernel_rfl
def Ra(hE:aI [kW])(hO:dL [iF])(hM:ed [])(hS:dP []):aQ.df lZ:=by
 refine⟨aA FU rfl (by decide),?_⟩;show True->fH prog An [] [⟨(.slice (.st .equation)),Dx⟩];intro  _;refine cV (own:=[6,16,21,22]) (wr:=[]) (cl:=[]) (ro:=[]) hE hO hM hS FU NL (Gx ) ?_;rewrite [RJ ];have f0:=si;have f1:bS gP=true:=by decide
 have f2:NJ 0=[]:=rfl;refine λ _=>⟨⟨0,?_,⟨af,af,?_,?_,?_,af⟩,?_,af⟩,λ i1 _=>have HA:=a1a i1;have HB:=a3j i1;have HC:=a4x i1;have Up:=a4y i1;⟨λ _=>⟨?_,λ _=>⟨?_,?_,?_,i1+1,?_,?_,⟨af,af,rfl,rfl,?_,af⟩,?_,af⟩⟩,λ _=>?_⟩⟩;all_goals try and_intros
 all_goals try (first|with_reducible rfl|with_reducible assumption)
 all_goals try simp only[J.eta,ae.eta,aH.eta,aU,bM,ct] at *
 all_goals first|rfl|trivial|omega|(simp only[b0N,b0M,bF,aC,U,b0Z,b1n] at *;first|omega|grind)|grind
def MF:aQ.df lZ:=Ra ⟨GR,af⟩ ⟨CS,af⟩ trivial trivial
end
end Go.Proofs.YtmjfpcajohhbeaaGreatDoor

set_option maxRecDepth 4000
set_option maxHeartbeats 4000000
namespace Go.Proofs.YtmjfpcajohhbeaaGreatDoor
noncomputable section
def ka(gg:aX)(s:O):Bool:=decide (-40<=s.use/\s.use<=23)&&decide ((s.path.length:Int)<=40)&&bE (rM 2) s.path&&decide ((s.ar.length:Int)<=3)&&decide ((s.bo.length:Int)<=4)&&bE (cC gg) s.ar&&bE bu s.ar&&bE (cC gg) s.bo
def qu(gg:aX)(c:ae):Bool:=cC gg c.left&&cC gg c.right&&decide (1<=c.cj/\c.cj<=3)&&decide (0<=c.ref/\c.ref<=39)&&decide (c.steps.length<=60) && !(decide (c.cj=1) && !decide (c.ref=0) || !decide (c.cj=1)&&decide (0<c.steps.length))&&bE (ka gg) c.steps
def jj(p:aB):Bool:=bS p.sig&&decide (p.aq.length<=40)&&bE (qu p.sig) p.aq
abbrev jT:ae:=ae.mk zE zE (0:Int) (0:Int) []
def fj(p:aB)(i:Int):ae:=p.aq.getD i.toNat (ae.mk zE zE (0:Int) (0:Int) [])
def sf(k u:Int):Bool:=decide (0<=u)||decide (-1 - u<k)
def cp(p:aB)(k u:Int):aH:=if 0<=u then Dx.getD u.toNat (aH.mk zE zE) else if -1 - u<k then aH.mk (fj p (-1 - u)).left (fj p (-1 - u)).right else aH.mk zE zE
def ZE(q:aH)(s:O):J:=dC s.ar s.bo (bif s.back then q.right else q.left)
def Ud(q:aH)(s:O):J:=dC s.ar s.bo (bif s.back then q.left else q.right)
def Yo(q:aH)(s:O):Bool:=decide ((bW [q.left,q.right]).1=(s.ar.length:Int))&&decide ((bW [q.left,q.right]).2=(s.bo.length:Int))
def Uc(gg:aX)(q:aH)(s:O):Bool:=cC gg (dC s.ar s.bo q.left)&&cC gg (dC s.ar s.bo q.right)
def iw(p:aB)(k:Int)(e:J)(s:O):Int :=
 bif !(sf k s.use&&fP e s.path) then 2 else bif !Yo (cp p k s.use) s then 2 else bif !Uc p.sig (cp p k s.use) s then 3 else
 bif !bT (dD e s.path) (ZE (cp p k s.use) s) then 6 else sd p.sig e s.path (Ud (cp p k s.use) s)
def jO(p:aB)(k:Int)(e:J)(s:O):J:=if iw p k e s=0 then iL (Ud (cp p k s.use) s) e s.path else J.mk (0:Int) (0:Int) []
def Rl(q:aH):Bool:=decide (q.left.au=6)&&decide ((q.left.M.getD 0 zE).au=6)&&bT (q.left.M.getD 1 zE) q.right
def smQ(q:aH):J:=bif Rl q then (q.left.M.getD 0 zE).M.getD 0 zE else J.mk (0:Int) (0:Int) []
def smX(q:aH):J:=bif Rl q then (q.left.M.getD 0 zE).M.getD 1 zE else J.mk (0:Int) (0:Int) []
def smR(q:aH):J:=bif Rl q then q.right else J.mk (0:Int) (0:Int) []
def inW(r:Int)(q x:J):J:=if r=2 then J.mk 7 0 [J.mk 8 0 [x.M.getD 0 zE],q] else J.mk 7 0 [q,J.mk 8 0 [x.M.getD 1 zE]]
def a7y(r:Int)(x:J):J:=if r=2 then x.M.getD 1 zE else x.M.getD 0 zE
def inF(c f:ae):Bool:=Rl (aH.mk f.left f.right)&&decide ((smX (aH.mk f.left f.right)).au=7)&&bT (a7y c.cj (smX (aH.mk f.left f.right))) f.right &&
 bT c.left (J.mk 6 0 [inW c.cj (smQ (aH.mk f.left f.right)) (smX (aH.mk f.left f.right)),f.right])&&bT c.right f.right
def Zm(p:aB)(k:Int):Nat->J
 | 0=>(fj p k).left
 | i+1=>jO p k (Zm p k i) ((fj p k).steps.getD i (O.mk 0 false [] [] []))
def rnO(p:aB)(k:Int):Nat->Bool
 | 0=>true
 | i+1=>rnO p k i&&decide (iw p k (Zm p k i) ((fj p k).steps.getD i (O.mk 0 false [] [] []))=0)
def Lp(p:aB)(k:Int):Bool:=if (fj p k).cj=1 then rnO p k (fj p k).steps.length&&bT (Zm p k (fj p k).steps.length) (fj p k).right else decide ((fj p k).ref<k)&&inF (fj p k) (fj p (fj p k).ref)
def frN(f:Nat->Bool):Nat->Nat
 | 0=>0
 | n+1=>if frN f n<n then frN f n else if f n then n+1 else n
def UP(f:Nat->Bool):∀ n,Xe f n=true->frN f n=n
 | 0,_=>rfl
 | n+1,h=>by
  rw[Xe,b0R] at h;rw[frN,UP f n h.1,b0Y (by omega),b1q h.2]
def a2C(f:Nat->Bool)(k:Nat)(h:Xe f k=true)(hk:f k=false):∀ n,k<n->frN f n=k
 | 0,hn=>by omega
 | n+1,hn=>by
  rw[frN];rcases b1R k n with g|g
  .rw[a2C f k h hk n g,b1q g]
  .have:k=n:=by omega
   subst this;rw[UP f k h,b0Y (by omega),b0Y (by rw[hk];decide)]
def ckN(p:aB):Nat:=frN (λ k=>Lp p (k:Int)) p.aq.length
def A3(gg:aX)(c:ae):Bool:=cC gg c.left&&cC gg c.right&&decide (1<=c.cj/\c.cj<=3)&&decide (0<=c.ref/\c.ref<=39)&&decide (c.steps.length<=60) && !(decide (c.cj=1) && !decide (c.ref=0) || !decide (c.cj=1)&&decide (0<c.steps.length))
def E1(gg:aX)(c:ae):qu gg c=(A3 gg c&&bE (ka gg) c.steps):=rfl
def clG(gg:aX)(c:ae):Bool:=bE (cC gg) [c.left,c.right]&&(decide (1<=c.cj/\c.cj<=3)&&(decide (0<=c.ref/\c.ref<=39)&&(!decide (60<(c.steps.length:Int))&&(!(decide (c.cj=1) && !decide (c.ref=0)) && !(!decide (c.cj=1)&&decide (0<(c.steps.length:Int)))))))
def a2u(gg:aX)(c:ae):A3 gg c=clG gg c:=by
 unfold A3 clG;rw[show decide (c.steps.length<=60) = !decide (60<(c.steps.length:Int)) by
  by_cases h:c.steps.length<=60
  .rw[b1A h,b1a (by omega)];rfl
  .rw[b1a h,b1A (by omega)];rfl,
  show decide (0<c.steps.length)=decide (0<(c.steps.length:Int)) by
  by_cases h:0<c.steps.length
  .rw[b1A h,b1A (by omega)]
  .rw[b1a h,b1a (by omega)]]
 simp only[bE,b3d,Bool.not_or,b3U]
structure xI(p:aB)(k:Nat):Prop where
 sg:bS p.sig=true
 ln:p.aq.length<=40
 le:k<=p.aq.length
 al:bE (qu p.sig) (p.aq.take k)=true
structure EF(gg:aX)(c:ae):Prop where
 l:cC gg c.left=true
 r:cC gg c.right=true
 u:1<=c.cj/\c.cj<=3
 f:0<=c.ref/\c.ref<=39
def LR{gg:aX}{c:ae}(h:A3 gg c=false):qu gg c=false:=by rw[E1,h];rfl
def a4J{gg:aX}{c:ae}(h:cC gg c.left=false):qu gg c=false:=LR (by unfold A3;rw[h];rfl)
def a4K{gg:aX}{c:ae}(h:cC gg c.right=false):qu gg c=false:=LR (by unfold A3;rw[h];simp)
def a1h{gg:aX}{c:ae}(h:¬ (1<=c.cj/\c.cj<=3)):qu gg c=false:=LR (by unfold A3;rw[decide_eq_false h];simp)
def a1i{gg:aX}{c:ae}(h:¬ (0<=c.ref/\c.ref<=39)):qu gg c=false:=LR (by unfold A3;rw[decide_eq_false h];simp)
def EF.h{gg:aX}{c:ae}(h:EF gg c):A3 gg c=(decide (c.steps.length<=60) && !(decide (c.cj=1) && !decide (c.ref=0) || !decide (c.cj=1)&&decide (0<c.steps.length))):=by
 unfold A3;rw[h.l,h.r,decide_eq_true h.u,decide_eq_true h.f];rfl
def EF.n1{gg:aX}{c:ae}(h:EF gg c)(h1:c.cj=1)(h2:¬ c.ref=0):qu gg c=false:=LR (by rw[h.h,b1A h1,b1a h2];simp)
def EF.n2{gg:aX}{c:ae}(h:EF gg c)(h1:¬ c.cj=1)(h2:0<c.steps.length):qu gg c=false:=LR (by rw[h.h,b1a h1,b1A h2];simp)
def EF.n3{gg:aX}{c:ae}(h:EF gg c)(h1:¬ c.steps.length<=60):qu gg c=false:=LR (by rw[h.h,b1a h1];rfl)
def EF.y1{gg:aX}{c:ae}(h:EF gg c)(h1:c.cj=1)(h2:c.ref=0)(h3:c.steps.length<=60):A3 gg c=true:=by rw[h.h,b1A h1,b1A h2,b1A h3];rfl
def EF.y2{gg:aX}{c:ae}(h:EF gg c)(h1:¬ c.cj=1)(h2:¬ 0<c.steps.length):A3 gg c=true:=by rw[h.h,b1a h1,b1a h2,b1A (show c.steps.length<=60 by omega)];rfl
structure Lv(p:aB)(k:Nat):Prop where
 pp:xI p k
 lt:k<p.aq.length
 a:EF p.sig (p.aq.getD k jT)
 n:(p.aq.getD k jT).steps.length<=60
structure Qb(p:aB)(k:Nat):Prop where
 pp:xI p k
 lt:k<p.aq.length
 hd:A3 p.sig (p.aq.getD k jT)=true
structure Qc(p:aB)(k j:Nat):Prop where
 h:Qb p k
 le:j<=(p.aq.getD k jT).steps.length
 al:bE (ka p.sig) ((p.aq.getD k jT).steps.take j)=true
def xI.zero{p:aB}(h:bS p.sig=true)(h2:¬ 40<(p.aq.length:Int)):xI p 0:=⟨h,by omega,b2b _,by simp[bE]⟩
def xI.end{p:aB}{k:Nat}(h:xI p k)(hk:p.aq.length<=k):jj p=true:=by
 have:=h.al;rw[List.take_of_length_le hk] at this;unfold jj;rw[h.sg,this,decide_eq_true h.ln];rfl
def xI.bad{p:aB}{k:Nat}(h:xI p k)(hk:k<p.aq.length)(hb:qu p.sig (p.aq.getD k jT)=false):jj p=false:=by
 unfold jj;rw[eZ (qu p.sig) jT p.aq k hk hb,Bool.and_false]
def xI.a{p:aB}{k:Nat}(h:xI p k)(hk:k<p.aq.length)(h1:bE (cC p.sig) [(p.aq.getD k jT).left,(p.aq.getD k jT).right]=true)(hu:1<=(p.aq.getD k jT).cj/\(p.aq.getD k jT).cj<=3)(hf:0<=(p.aq.getD k jT).ref/\(p.aq.getD k jT).ref<=39)(hn:(p.aq.getD k jT).steps.length<=60):Lv p k:=by
 simp only[bE,b0R,b1b] at h1;exact⟨h,hk,⟨h1.1,h1.2,hu,hf⟩,hn⟩
def xI.b{p:aB}{k:Nat}(h:xI p k)(hk:k<p.aq.length)(hb:qu p.sig (p.aq.getD k jT)=false):jj p=false:=h.bad hk hb
def xI.b1{p:aB}{k:Nat}(h:xI p k)(hk:k<p.aq.length)(h1:bE (cC p.sig) [(p.aq.getD k jT).left,(p.aq.getD k jT).right]=false):jj p=false:=by
 refine h.b hk ?_;rw[E1,a2u];unfold clG;rw[h1];rfl
def Lv.n1{p:aB}{k:Nat}(h:Lv p k)(h1:(p.aq.getD k jT).cj=1)(h2:¬ (p.aq.getD k jT).ref=0):jj p=false:=h.pp.b h.lt (h.a.n1 h1 h2)
def Lv.n2{p:aB}{k:Nat}(h:Lv p k)(h1:¬ (p.aq.getD k jT).cj=1)(h2:0<(p.aq.getD k jT).steps.length):jj p=false:=h.pp.b h.lt (h.a.n2 h1 h2)
def Lv.y1{p:aB}{k:Nat}(h:Lv p k)(h1:(p.aq.getD k jT).cj=1)(h2:(p.aq.getD k jT).ref=0):Qb p k:=⟨h.pp,h.lt,h.a.y1 h1 h2 h.n⟩
def Lv.y2{p:aB}{k:Nat}(h:Lv p k)(h1:¬ (p.aq.getD k jT).cj=1)(h2:¬ 0<(p.aq.getD k jT).steps.length):Qb p k:=⟨h.pp,h.lt,h.a.y2 h1 h2⟩
def xI.a9U{p:aB}{k:Nat}(h:xI p k)(hk:k<p.aq.length)(hb:A3 p.sig (p.aq.getD k jT)=false):jj p=false:=h.bad hk (by rw[E1,hb];rfl)
def Qb.zero{p:aB}{k:Nat}(h:Qb p k):Qc p k 0:=⟨h,b2b _,by simp[bE]⟩
def Qc.bad{p:aB}{k j:Nat}(h:Qc p k j)(hj:j<(p.aq.getD k jT).steps.length)(hb:ka p.sig ((p.aq.getD k jT).steps.getD j (O.mk (0:Int) false [] [] []))=false):jj p=false :=
 h.h.pp.bad h.h.lt (by rw[E1,eZ (ka p.sig) _ _ j hj hb,b2E])
def Qc.next{p:aB}{k j:Nat}(h:Qc p k j)(hj:j<(p.aq.getD k jT).steps.length)(hb:ka p.sig ((p.aq.getD k jT).steps.getD j (O.mk (0:Int) false [] [] []))=true):Qc p k (j+1) :=
 ⟨h.h,hj,by rw[dU (ka p.sig) (O.mk (0:Int) false [] [] []) _ j hj,h.al,hb];rfl⟩
def Qc.done{p:aB}{k j:Nat}(h:Qc p k j)(hj:(p.aq.getD k jT).steps.length<=j):xI p (k+1):=by
 have h1:=h.al;rw[b1v hj] at h1;exact⟨h.h.pp.sg,h.h.pp.ln,h.h.lt,by rw[dU (qu p.sig) jT _ k h.h.lt,h.h.pp.al,E1,h.h.hd,h1];rfl⟩
def a2Q{p:aB}(h:bS p.sig=false):jj p=false:=by unfold jj;rw[h];rfl
def a2R{p:aB}(h:40<(p.aq.length:Int)):jj p=false:=by unfold jj;rw[decide_eq_false (show ¬ p.aq.length<=40 by omega)];simp
def iC:aQ:=⟨pY,[.v (.slice (.st .expr))],λ (xs:List J)=>⟨(none,[⟨.bool,bE bu xs⟩])⟩⟩
def vy(xs:List J):Nat->aM:=(λ zb=>if Nat.beq zb 0 then .mk (Nat) (λ k=>k<=xs.length/\bE bu (xs.take k)=true) (λ k=>xs.length - k) [] [0,1,3] (λ k=>[(7, .aT ⟨(.int .i64),((k:Int):Int)⟩)]) [2,4,5,6,7,8,9,10,11,12,13,14] (λ k=>[]) [] [] (λ k=>λ _ => .none) else .none)
def FH(xs:List J):ck (aZ [cK]) (az fS) (vy xs) 0 (bx (aZ [cK]) fS λ r=>bB r [⟨.bool,bE bu xs⟩]) (aL fS [.val ⟨(.slice (.st .expr)),xs⟩]) =
 ((U ((xs.length:Int)) ->
 ((∃ k1:Nat,((k1<=xs.length/\bE bu (xs.take k1)=true)/\((xs=xs/\(((xs.length:Int))=((xs.length:Int))/\((0:Int)=(k1:Int)/\True)))/\True)))/\(∀ k1:Nat,((k1<=xs.length/\bE bu (xs.take k1)=true) ->
 (((decide ((k1:Int)<((xs.length:Int))))=true ->
 (aC (k1:Int) xs.length/\(((!(bu (ag (xs.getD k1 zE))))=true ->
 false=(bE bu xs))/\((!(bu (ag (xs.getD k1 zE))))=false ->
 (U ((k1:Int)+(1:Int))/\(∃ k2:Nat,((k2<=xs.length/\bE bu (xs.take k2)=true)/\(xs.length - k2<xs.length - k1/\((xs=xs/\(((xs.length:Int))=((xs.length:Int))/\(((k1:Int)+(1:Int))=(k2:Int)/\True)))/\True)))))))))/\((decide ((k1:Int)<((xs.length:Int))))=false ->
 true=(bE bu xs)))))))):=by kernel_rfl
def Fs(hE:aI [cK]):aQ.Good iC:=by
 refine⟨aA uj rfl (by decide),?_⟩;show ∀ (xs:List J),True->bC prog pY [.val ⟨(.slice (.st .expr)),xs⟩] (·=[⟨.bool,bE bu xs⟩]);intro xs _;refine bg (wr:=[]) (cl:=[]) (ro:=[]) hE uj Cu (vy xs) ?_;rewrite [FH xs];have f1:=all_zero bu xs;refine λ _=>⟨⟨0,?_,⟨rfl,rfl,?_,af⟩,af⟩,λ k1 _=>have HA:=dU bu zE xs k1;have HB:=eZ bu zE xs k1;have HC:=fR bu xs k1;⟨λ _=>⟨?_,λ _=>?_,λ _=>⟨?_,k1+1,?_,?_,⟨rfl,rfl,?_,af⟩,af⟩⟩,λ _=>?_⟩⟩;all_goals try and_intros
 all_goals try (first|with_reducible rfl|with_reducible assumption)
 all_goals try simp only[J.eta,ae.eta,aH.eta,aU,bM,ct] at *
 all_goals first|rfl|trivial|(simp only[b0N,b0M,aC,U] at *;omega)|(simp_all;done)|(simp_all [aC,U];omega)
def CF:aQ.Good iC:=Fs ⟨jX,af⟩
def iY:aQ:=⟨Aq,[.v (.st .sig), .v (.st .proofStep)],λ (gg:aX) (s:O)=>⟨(some (bS gg=true),[⟨.bool,ka gg s⟩])⟩⟩
def Io(gg:aX)(s:O):Nat->aM:=λ _ => .none
abbrev vL(gg:aX)(s:O):Prop:=(s.ar.length<=140737488355328 ->
 (((bE bu s.ar)=true ->
 (s.bo.length<=140737488355328 ->
 (bE (cC gg) s.bo&&bS gg)=(ka gg s)))/\((bE bu s.ar)=(!true) ->
 false=(ka gg s))))
abbrev vM(gg:aX)(s:O):Prop:=((false=true ->
 (s.bo.length<=140737488355328 ->
 (bE (cC gg) s.bo&&bS gg)=(ka gg s)))/\(false=(!true) ->
 false=(ka gg s)))
abbrev DZ(gg:aX)(s:O):Prop:=(s.ar.length<=140737488355328 ->
 (((bE (cC gg) s.ar&&bS gg)=true ->
 (vL gg s))/\((bE (cC gg) s.ar&&bS gg)=(!true) ->
 (vM gg s))))
abbrev vN(gg:aX)(s:O):Prop:=(s.bo.length<=140737488355328 ->
 (U ((s.bo.length:Int)) ->
 (((decide (((s.bo.length:Int))<=(4:Int)))=true ->
 (DZ gg s))/\((decide (((s.bo.length:Int))<=(4:Int)))=(!true) ->
 ((false=true ->
 (vL gg s))/\(false=(!true) ->
 (vM gg s)))))))
abbrev vO(gg:aX)(s:O):Prop:=((false=true ->
 (DZ gg s))/\(false=(!true) ->
 ((false=true ->
 (vL gg s))/\(false=(!true) ->
 (vM gg s)))))
abbrev D0(gg:aX)(s:O):Prop:=(s.ar.length<=140737488355328 ->
 (U ((s.ar.length:Int)) ->
 (((decide (((s.ar.length:Int))<=(3:Int)))=true ->
 (vN gg s))/\((decide (((s.ar.length:Int))<=(3:Int)))=(!true) ->
 (vO gg s)))))
abbrev D1(gg:aX)(s:O):Prop:=(s.path.length<=140737488355328 ->
 ((0<=(2:Int)/\(2:Int)<=4096)/\(((bE (rM (2:Int)) s.path)=true ->
 (D0 gg s))/\((bE (rM (2:Int)) s.path)=(!true) ->
 ((false=true ->
 (vN gg s))/\(false=(!true) ->
 (vO gg s)))))))
abbrev D2(gg:aX)(s:O):Prop:=((false=true ->
 (D0 gg s))/\(false=(!true) ->
 ((false=true ->
 (vN gg s))/\(false=(!true) ->
 (vO gg s)))))
def Tp(gg:aX)(s:O):ck (aZ [cu,pk,fc,iC] [] [] [2,3]) (az nh) (Io gg s) 0 (bx (aZ [cu,pk,fc,iC] [] [] [2,3]) nh λ r=>bB r [⟨.bool,ka gg s⟩]) (aL nh [.val ⟨(.st .sig),gg⟩, .val ⟨(.st .proofStep),s⟩]) =
 ((U s.use ->
 ((((decide ((-40:Int)<=s.use/\s.use<=(23:Int)))=true) ->
 (s.path.length<=140737488355328 ->
 (U ((s.path.length:Int)) ->
 (((decide (((s.path.length:Int))<=(40:Int)))=true ->
 (D1 gg s))/\((decide (((s.path.length:Int))<=(40:Int)))=(!true) ->
 (D2 gg s))))))/\(((decide ((-40:Int)<=s.use/\s.use<=(23:Int)))=(!true)) ->
 ((false=true ->
 (D1 gg s))/\(false=(!true) ->
 (D2 gg s))))))):=by kernel_rfl
def Ta(hE:aI [cu,pk,fc,iC]):aQ.Good iY:=by
 refine⟨aA FY rfl (by decide),?_⟩;show ∀ (gg:aX) (s:O),(bS gg=true)->bC prog Aq [.val ⟨(.st .sig),gg⟩, .val ⟨(.st .proofStep),s⟩] (·=[⟨.bool,ka gg s⟩]);intro gg s hp;refine bg (wr:=[]) (cl:=[]) (ro:=[2,3]) hE FY NP (Io gg s) ?_;rewrite [Tp gg s];refine λ _=>⟨λ _ _ _=>⟨λ _ _=>⟨?_,λ _ _ _=>⟨λ _ _ _=>⟨λ _ _=>⟨λ _ _=>⟨λ _ _=>?_,λ _=>?_⟩,λ _=>⟨λ _ _=>?_,λ _=>?_⟩⟩,λ _=>⟨λ _ _=>⟨λ _ _=>?_,λ _=>?_⟩,λ _=>⟨λ _ _=>?_,λ _=>?_⟩⟩⟩,λ _=>⟨λ _ _=>⟨λ _ _=>⟨λ _ _=>?_,λ _=>?_⟩,λ _=>⟨λ _ _=>?_,λ _=>?_⟩⟩,λ _=>⟨λ _ _=>⟨λ _ _=>?_,λ _=>?_⟩,λ _=>⟨λ _ _=>?_,λ _=>?_⟩⟩⟩⟩,λ _=>⟨λ _ _ _=>⟨λ _ _=>⟨λ _ _=>⟨λ _ _=>?_,λ _=>?_⟩,λ _=>⟨λ _ _=>?_,λ _=>?_⟩⟩,λ _=>⟨λ _ _=>⟨λ _ _=>?_,λ _=>?_⟩,λ _=>⟨λ _ _=>?_,λ _=>?_⟩⟩⟩,λ _=>⟨λ _ _=>⟨λ _ _=>⟨λ _ _=>?_,λ _=>?_⟩,λ _=>⟨λ _ _=>?_,λ _=>?_⟩⟩,λ _=>⟨λ _ _=>⟨λ _ _=>?_,λ _=>?_⟩,λ _=>⟨λ _ _=>?_,λ _=>?_⟩⟩⟩⟩⟩,λ _=>⟨λ _ _ _=>⟨λ _ _ _=>⟨λ _ _=>⟨λ _ _=>⟨λ _ _=>?_,λ _=>?_⟩,λ _=>⟨λ _ _=>?_,λ _=>?_⟩⟩,λ _=>⟨λ _ _=>⟨λ _ _=>?_,λ _=>?_⟩,λ _=>⟨λ _ _=>?_,λ _=>?_⟩⟩⟩,λ _=>⟨λ _ _=>⟨λ _ _=>⟨λ _ _=>?_,λ _=>?_⟩,λ _=>⟨λ _ _=>?_,λ _=>?_⟩⟩,λ _=>⟨λ _ _=>⟨λ _ _=>?_,λ _=>?_⟩,λ _=>⟨λ _ _=>?_,λ _=>?_⟩⟩⟩⟩,λ _=>⟨λ _ _ _=>⟨λ _ _=>⟨λ _ _=>⟨λ _ _=>?_,λ _=>?_⟩,λ _=>⟨λ _ _=>?_,λ _=>?_⟩⟩,λ _=>⟨λ _ _=>⟨λ _ _=>?_,λ _=>?_⟩,λ _=>⟨λ _ _=>?_,λ _=>?_⟩⟩⟩,λ _=>⟨λ _ _=>⟨λ _ _=>⟨λ _ _=>?_,λ _=>?_⟩,λ _=>⟨λ _ _=>?_,λ _=>?_⟩⟩,λ _=>⟨λ _ _=>⟨λ _ _=>?_,λ _=>?_⟩,λ _=>⟨λ _ _=>?_,λ _=>?_⟩⟩⟩⟩⟩⟩,λ _=>⟨λ _ _=>⟨?_,λ _ _ _=>⟨λ _ _ _=>⟨λ _ _=>⟨λ _ _=>⟨λ _ _=>?_,λ _=>?_⟩,λ _=>⟨λ _ _=>?_,λ _=>?_⟩⟩,λ _=>⟨λ _ _=>⟨λ _ _=>?_,λ _=>?_⟩,λ _=>⟨λ _ _=>?_,λ _=>?_⟩⟩⟩,λ _=>⟨λ _ _=>⟨λ _ _=>⟨λ _ _=>?_,λ _=>?_⟩,λ _=>⟨λ _ _=>?_,λ _=>?_⟩⟩,λ _=>⟨λ _ _=>⟨λ _ _=>?_,λ _=>?_⟩,λ _=>⟨λ _ _=>?_,λ _=>?_⟩⟩⟩⟩,λ _=>⟨λ _ _ _=>⟨λ _ _=>⟨λ _ _=>⟨λ _ _=>?_,λ _=>?_⟩,λ _=>⟨λ _ _=>?_,λ _=>?_⟩⟩,λ _=>⟨λ _ _=>⟨λ _ _=>?_,λ _=>?_⟩,λ _=>⟨λ _ _=>?_,λ _=>?_⟩⟩⟩,λ _=>⟨λ _ _=>⟨λ _ _=>⟨λ _ _=>?_,λ _=>?_⟩,λ _=>⟨λ _ _=>?_,λ _=>?_⟩⟩,λ _=>⟨λ _ _=>⟨λ _ _=>?_,λ _=>?_⟩,λ _=>⟨λ _ _=>?_,λ _=>?_⟩⟩⟩⟩⟩,λ _=>⟨λ _ _ _=>⟨λ _ _ _=>⟨λ _ _=>⟨λ _ _=>⟨λ _ _=>?_,λ _=>?_⟩,λ _=>⟨λ _ _=>?_,λ _=>?_⟩⟩,λ _=>⟨λ _ _=>⟨λ _ _=>?_,λ _=>?_⟩,λ _=>⟨λ _ _=>?_,λ _=>?_⟩⟩⟩,λ _=>⟨λ _ _=>⟨λ _ _=>⟨λ _ _=>?_,λ _=>?_⟩,λ _=>⟨λ _ _=>?_,λ _=>?_⟩⟩,λ _=>⟨λ _ _=>⟨λ _ _=>?_,λ _=>?_⟩,λ _=>⟨λ _ _=>?_,λ _=>?_⟩⟩⟩⟩,λ _=>⟨λ _ _ _=>⟨λ _ _=>⟨λ _ _=>⟨λ _ _=>?_,λ _=>?_⟩,λ _=>⟨λ _ _=>?_,λ _=>?_⟩⟩,λ _=>⟨λ _ _=>⟨λ _ _=>?_,λ _=>?_⟩,λ _=>⟨λ _ _=>?_,λ _=>?_⟩⟩⟩,λ _=>⟨λ _ _=>⟨λ _ _=>⟨λ _ _=>?_,λ _=>?_⟩,λ _=>⟨λ _ _=>?_,λ _=>?_⟩⟩,λ _=>⟨λ _ _=>⟨λ _ _=>?_,λ _=>?_⟩,λ _=>⟨λ _ _=>?_,λ _=>?_⟩⟩⟩⟩⟩⟩⟩;all_goals try and_intros
 all_goals first|with_reducible rfl|with_reducible assumption|exact True.intro|(simp only[Bool.true_eq_false,Bool.false_eq_true,Bool.not_true,Bool.not_false] at *;done)|omega|(simp only[hp,Bool.and_true,Bool.not_true,Bool.not_false] at *;unfold ka;simp only[*,Bool.and_true,Bool.true_and,Bool.and_false,Bool.false_and];done)|(simp only[aC,U,bF] at *;omega)
def BB:aQ.Good iY:=Ta ⟨gS,L2,vv,CF,af⟩
def kV:aQ:=⟨tv,[.v (.st .proof)],λ (p:aB)=>⟨(none,[⟨.bool,jj p⟩])⟩⟩
def Ae(p:aB):Nat->aM:=(λ zb=>if Nat.beq zb 0 then .mk (Nat) (λ k=>xI p k) (λ k=>p.aq.length - k) [] [0,3,5,7,8,9,10,11,12,13,14,15,16,17] (λ k=>[(20, .aT ⟨(.int .i64),((k:Int):Int)⟩)]) [1,2,4,6,18,19,20,21,22,23,24,25,26,27,28,29,30,31,32,33,34,35,36,37,38,39,40,41,42,43,44,45,46,47,48,49,50,51,52,53,54,55,56,57,58,59,60,61,62,63,64,65,66,67,68,69,70,71,72,73,74,75,76,77,78,79,80,81,82,83] (λ k=>[]) [] [] (λ k=>(λ zb=>if Nat.beq zb 100008 then .mk (Unit) (λ u=>Lv p k) (λ u=>0) [] [0,3,5,7,8,9,10,11,12,13,14,15,16,17,21,22,23,24,25,26,27,28,29,30,31,32,33,34,35,36,37,38,39,40,41,42,43,44,45,46,47,48,49,50,51] (λ u=>[]) [1,2,4,6,18,19,20,21,22,23,24,25,26,27,28,29,30,31,32,33,34,35,36,37,38,39,40,41,42,43,44,45,46,47,48,49,50,51,52,53,54,55,56,57,58,59,60,61,62,63,64,65,66,67,68,69,70,71,72,73,74,75,76,77,78,79,80,81,82,83] (λ u=>[]) [] [] (λ u=>(λ zb=>if Nat.beq zb 100010 then .mk (Unit) (λ u=>Qb p k) (λ u=>0) [] [0,3,5,7,8,9,10,11,12,13,14,15,16,17,21,22,23,24,25,26,27,28,29,30,31,32,33,34,35,36,37,38,39,40,41,42,43,44,45,46,47,48,49,50,51,52,53,54,55,56,57,58,59,60,61,62,63,64,65,66,67,68,69] (λ u=>[]) [1,2,4,6,18,19,20,21,22,23,24,25,26,27,28,29,30,31,32,33,34,35,36,37,38,39,40,41,42,43,44,45,46,47,48,49,50,51,52,53,54,55,56,57,58,59,60,61,62,63,64,65,66,67,68,69,70,71,72,73,74,75,76,77,78,79,80,81,82,83] (λ u=>[]) [] [] (λ u=>(λ zb=>if Nat.beq zb 2 then .mk (Nat) (λ j=>Qc p k j) (λ j=>(p.aq.getD k (ae.mk zE zE (0:Int) (0:Int) [])).steps.length - j) [] [0,3,5,7,8,9,10,11,12,13,14,15,16,17] (λ j=>[(73, .aT ⟨(.int .i64),((j:Int):Int)⟩)]) [1,2,4,6,18,19,20,21,22,23,24,25,26,27,28,29,30,31,32,33,34,35,36,37,38,39,40,41,42,43,44,45,46,47,48,49,50,51,52,53,54,55,56,57,58,59,60,61,62,63,64,65,66,67,68,69,70,71,72,73,74,75,76,77,78,79,80,81,82,83] (λ j=>[]) [] [] (λ j=>λ _ => .none) else .none)) else .none)) else .none)) else .none)
abbrev qA(p:aB)(k1:Nat):Prop:=(((p.aq.getD k1 (ae.mk zE zE (0:Int) (0:Int) [])).left.au=(p.aq.getD k1 (ae.mk zE zE (0:Int) (0:Int) [])).left.au/\((p.aq.getD k1 (ae.mk zE zE (0:Int) (0:Int) [])).left.aO=(p.aq.getD k1 (ae.mk zE zE (0:Int) (0:Int) [])).left.aO/\((p.aq.getD k1 (ae.mk zE zE (0:Int) (0:Int) [])).left.M=(p.aq.getD k1 (ae.mk zE zE (0:Int) (0:Int) [])).left.M/\((p.aq.getD k1 (ae.mk zE zE (0:Int) (0:Int) [])).right.au=(p.aq.getD k1 (ae.mk zE zE (0:Int) (0:Int) [])).right.au/\((p.aq.getD k1 (ae.mk zE zE (0:Int) (0:Int) [])).right.aO=(p.aq.getD k1 (ae.mk zE zE (0:Int) (0:Int) [])).right.aO/\((p.aq.getD k1 (ae.mk zE zE (0:Int) (0:Int) [])).right.M=(p.aq.getD k1 (ae.mk zE zE (0:Int) (0:Int) [])).right.M/\((p.aq.getD k1 (ae.mk zE zE (0:Int) (0:Int) [])).cj=(p.aq.getD k1 (ae.mk zE zE (0:Int) (0:Int) [])).cj/\((p.aq.getD k1 (ae.mk zE zE (0:Int) (0:Int) [])).ref=(p.aq.getD k1 (ae.mk zE zE (0:Int) (0:Int) [])).ref/\((p.aq.getD k1 (ae.mk zE zE (0:Int) (0:Int) [])).steps=(p.aq.getD k1 (ae.mk zE zE (0:Int) (0:Int) [])).steps/\True)))))))))/\True)
abbrev fb(p:aB)(k1:Nat):Prop:=((p=p/\(True/\(p.aq=p.aq/\(((p.aq.length:Int))=((p.aq.length:Int))/\((k1:Int)=(k1:Int)/\True)))))/\(qA p k1))
abbrev wW(p:aB)(k1:Nat):Prop:=((p.aq.getD k1 (ae.mk zE zE (0:Int) (0:Int) [])).steps.length<=140737488355328 ->
 (U (((p.aq.getD k1 (ae.mk zE zE (0:Int) (0:Int) [])).steps.length:Int)) ->
 (((decide ((60:Int)<(((p.aq.getD k1 (ae.mk zE zE (0:Int) (0:Int) [])).steps.length:Int))))=true ->
 false=(jj p))/\((decide ((60:Int)<(((p.aq.getD k1 (ae.mk zE zE (0:Int) (0:Int) [])).steps.length:Int))))=false ->
 (∃ u2:Unit,(Lv p k1/\(fb p k1)))))))
abbrev wX(p:aB)(k1:Nat):Prop:=(U (p.aq.getD k1 (ae.mk zE zE (0:Int) (0:Int) [])).ref ->
 ((((!(decide ((0:Int)<=(p.aq.getD k1 (ae.mk zE zE (0:Int) (0:Int) [])).ref/\(p.aq.getD k1 (ae.mk zE zE (0:Int) (0:Int) [])).ref<=(39:Int))))=false) ->
 (wW p k1))/\(((!(decide ((0:Int)<=(p.aq.getD k1 (ae.mk zE zE (0:Int) (0:Int) [])).ref/\(p.aq.getD k1 (ae.mk zE zE (0:Int) (0:Int) [])).ref<=(39:Int))))=(!false)) ->
 ((true=true ->
 false=(jj p))/\(true=false ->
 (∃ u2:Unit,(Lv p k1/\(fb p k1))))))))
abbrev wY(p:aB)(k1:Nat):Prop:=((true=false ->
 (wW p k1))/\(true=(!false) ->
 ((true=true ->
 false=(jj p))/\(true=false ->
 (∃ u2:Unit,(Lv p k1/\(fb p k1)))))))
abbrev wZ(p:aB)(k1:Nat):Prop:=(U (p.aq.getD k1 (ae.mk zE zE (0:Int) (0:Int) [])).cj ->
 (((!(decide ((p.aq.getD k1 (ae.mk zE zE (0:Int) (0:Int) [])).cj=(1:Int))))=true ->
 ((p.aq.getD k1 (ae.mk zE zE (0:Int) (0:Int) [])).steps.length<=140737488355328 ->
 (U (((p.aq.getD k1 (ae.mk zE zE (0:Int) (0:Int) [])).steps.length:Int)) ->
 (((decide ((0:Int)<(((p.aq.getD k1 (ae.mk zE zE (0:Int) (0:Int) [])).steps.length:Int))))=true ->
 false=(jj p))/\((decide ((0:Int)<(((p.aq.getD k1 (ae.mk zE zE (0:Int) (0:Int) [])).steps.length:Int))))=false ->
 (∃ u3:Unit,(Qb p k1/\(fb p k1))))))))/\((!(decide ((p.aq.getD k1 (ae.mk zE zE (0:Int) (0:Int) [])).cj=(1:Int))))=(!true) ->
 ((false=true ->
 false=(jj p))/\(false=false ->
 (∃ u3:Unit,(Qb p k1/\(fb p k1))))))))
abbrev xa(p:aB):Prop:=(p.aq.length<=140737488355328 ->
 (U ((p.aq.length:Int)) ->
 ((∃ k1:Nat,(xI p k1/\((p=p/\(p.aq=p.aq/\(((p.aq.length:Int))=((p.aq.length:Int))/\((0:Int)=(k1:Int)/\True))))/\True)))/\(∀ k1:Nat,(xI p k1 ->
 (((decide ((k1:Int)<((p.aq.length:Int))))=true ->
 (aC (k1:Int) p.aq.length/\((((!(bE (cC p.sig) ([(ag (p.aq.getD k1 (ae.mk zE zE (0:Int) (0:Int) [])).left),(ag (p.aq.getD k1 (ae.mk zE zE (0:Int) (0:Int) [])).right)])&&bS p.sig))=false ->
 (U (p.aq.getD k1 (ae.mk zE zE (0:Int) (0:Int) [])).cj ->
 ((((!(decide ((1:Int)<=(p.aq.getD k1 (ae.mk zE zE (0:Int) (0:Int) [])).cj/\(p.aq.getD k1 (ae.mk zE zE (0:Int) (0:Int) [])).cj<=(3:Int))))=false) ->
 (wX p k1))/\(((!(decide ((1:Int)<=(p.aq.getD k1 (ae.mk zE zE (0:Int) (0:Int) [])).cj/\(p.aq.getD k1 (ae.mk zE zE (0:Int) (0:Int) [])).cj<=(3:Int))))=(!false)) ->
 (wY p k1)))))/\((!(bE (cC p.sig) ([(ag (p.aq.getD k1 (ae.mk zE zE (0:Int) (0:Int) [])).left),(ag (p.aq.getD k1 (ae.mk zE zE (0:Int) (0:Int) [])).right)])&&bS p.sig))=(!false) ->
 ((true=false ->
 (wX p k1))/\(true=(!false) ->
 (wY p k1)))))/\(∀ u2:Unit,(Lv p k1 ->
 ((U (p.aq.getD k1 (ae.mk zE zE (0:Int) (0:Int) [])).cj ->
 (((decide ((p.aq.getD k1 (ae.mk zE zE (0:Int) (0:Int) [])).cj=(1:Int)))=true ->
 (U (p.aq.getD k1 (ae.mk zE zE (0:Int) (0:Int) [])).ref ->
 (((!(decide ((p.aq.getD k1 (ae.mk zE zE (0:Int) (0:Int) [])).ref=(0:Int))))=false ->
 (wZ p k1))/\((!(decide ((p.aq.getD k1 (ae.mk zE zE (0:Int) (0:Int) [])).ref=(0:Int))))=(!false) ->
 ((true=true ->
 false=(jj p))/\(true=false ->
 (∃ u3:Unit,(Qb p k1/\(fb p k1)))))))))/\((decide ((p.aq.getD k1 (ae.mk zE zE (0:Int) (0:Int) [])).cj=(1:Int)))=(!true) ->
 ((false=false ->
 (wZ p k1))/\(false=(!false) ->
 ((true=true ->
 false=(jj p))/\(true=false ->
 (∃ u3:Unit,(Qb p k1/\(fb p k1))))))))))/\(∀ u3:Unit,(Qb p k1 ->
 ((p.aq.getD k1 (ae.mk zE zE (0:Int) (0:Int) [])).steps.length<=140737488355328 ->
 (U (((p.aq.getD k1 (ae.mk zE zE (0:Int) (0:Int) [])).steps.length:Int)) ->
 ((∃ j4:Nat,(Qc p k1 j4/\((p=p/\(True/\(p.aq=p.aq/\(((p.aq.length:Int))=((p.aq.length:Int))/\((k1:Int)=(k1:Int)/\(True/\((p.aq.getD k1 (ae.mk zE zE (0:Int) (0:Int) [])).steps=(p.aq.getD k1 (ae.mk zE zE (0:Int) (0:Int) [])).steps/\((((p.aq.getD k1 (ae.mk zE zE (0:Int) (0:Int) [])).steps.length:Int))=(((p.aq.getD k1 (ae.mk zE zE (0:Int) (0:Int) [])).steps.length:Int))/\((0:Int)=(j4:Int)/\True)))))))))/\(qA p k1))))/\(∀ j4:Nat,(Qc p k1 j4 ->
 (((decide ((j4:Int)<(((p.aq.getD k1 (ae.mk zE zE (0:Int) (0:Int) [])).steps.length:Int))))=true ->
 (aC (j4:Int) (p.aq.getD k1 (ae.mk zE zE (0:Int) (0:Int) [])).steps.length/\(bS p.sig=true/\(((!(ka p.sig ((p.aq.getD k1 (ae.mk zE zE (0:Int) (0:Int) [])).steps.getD j4 (O.mk (0:Int) false [] [] []))))=true ->
 false=(jj p))/\((!(ka p.sig ((p.aq.getD k1 (ae.mk zE zE (0:Int) (0:Int) [])).steps.getD j4 (O.mk (0:Int) false [] [] []))))=false ->
 (U ((j4:Int)+(1:Int))/\(∃ j5:Nat,(Qc p k1 j5/\((p.aq.getD k1 (ae.mk zE zE (0:Int) (0:Int) [])).steps.length - j5<(p.aq.getD k1 (ae.mk zE zE (0:Int) (0:Int) [])).steps.length - j4/\((p=p/\(True/\(p.aq=p.aq/\(((p.aq.length:Int))=((p.aq.length:Int))/\((k1:Int)=(k1:Int)/\(True/\((p.aq.getD k1 (ae.mk zE zE (0:Int) (0:Int) [])).steps=(p.aq.getD k1 (ae.mk zE zE (0:Int) (0:Int) [])).steps/\((((p.aq.getD k1 (ae.mk zE zE (0:Int) (0:Int) [])).steps.length:Int))=(((p.aq.getD k1 (ae.mk zE zE (0:Int) (0:Int) [])).steps.length:Int))/\(((j4:Int)+(1:Int))=(j5:Int)/\True)))))))))/\(qA p k1)))))))))))/\((decide ((j4:Int)<(((p.aq.getD k1 (ae.mk zE zE (0:Int) (0:Int) [])).steps.length:Int))))=false ->
 (U ((k1:Int)+(1:Int))/\(∃ k5:Nat,(xI p k5/\(p.aq.length - k5<p.aq.length - k1/\((p=p/\(p.aq=p.aq/\(((p.aq.length:Int))=((p.aq.length:Int))/\(((k1:Int)+(1:Int))=(k5:Int)/\True))))/\True))))))))))))))))))))/\((decide ((k1:Int)<((p.aq.length:Int))))=false ->
 true=(jj p))))))))
def KB(p:aB):ck (aZ [dV,fc,cu,iY] [] [] [1]) (az iO) (Ae p) 0 (bx (aZ [dV,fc,cu,iY] [] [] [1]) iO λ r=>bB r [⟨.bool,jj p⟩]) (aL iO [.val ⟨(.st .proof),p⟩]) =
 ((((!(bS p.sig))=false ->
 (p.aq.length<=140737488355328 ->
 (U ((p.aq.length:Int)) ->
 (((decide ((40:Int)<((p.aq.length:Int))))=true ->
 false=(jj p))/\((decide ((40:Int)<((p.aq.length:Int))))=false ->
 (xa p))))))/\((!(bS p.sig))=(!false) ->
 ((true=true ->
 false=(jj p))/\(true=false ->
 (xa p)))))):=by kernel_rfl
def Kr(hE:aI [dV,fc,cu,iY]):aQ.Good kV:=by
 refine⟨aA ye rfl (by decide),?_⟩;show ∀ (p:aB),True->bC prog tv [.val ⟨(.st .proof),p⟩] (·=[⟨.bool,jj p⟩]);intro p _;refine bg (wr:=[]) (cl:=[]) (ro:=[1]) hE ye GK (Ae p) ?_;rewrite [KB p];refine⟨λ _ _ _=>⟨λ _=>?_,λ _ _ _=>⟨⟨0,?_,⟨rfl,rfl,rfl,?_,af⟩,af⟩,λ k1 _=>⟨λ _=>⟨?_,⟨λ _ _=>⟨λ _ _=>⟨λ _ _ _=>⟨λ _=>?_,λ _=>⟨(),?_,⟨rfl,af,rfl,rfl,rfl,af⟩,⟨rfl,rfl,rfl,rfl,rfl,rfl,rfl,rfl,rfl,af⟩,af⟩⟩,λ _=>⟨λ _=>?_,λ _=>⟨(),?_,⟨rfl,af,rfl,rfl,rfl,af⟩,⟨rfl,rfl,rfl,rfl,rfl,rfl,rfl,rfl,rfl,af⟩,af⟩⟩⟩,λ _=>⟨λ _ _ _=>⟨λ _=>?_,λ _=>⟨(),?_,⟨rfl,af,rfl,rfl,rfl,af⟩,⟨rfl,rfl,rfl,rfl,rfl,rfl,rfl,rfl,rfl,af⟩,af⟩⟩,λ _=>⟨λ _=>?_,λ _=>⟨(),?_,⟨rfl,af,rfl,rfl,rfl,af⟩,⟨rfl,rfl,rfl,rfl,rfl,rfl,rfl,rfl,rfl,af⟩,af⟩⟩⟩⟩,λ _=>⟨λ _ _=>⟨λ _ _ _=>⟨λ _=>?_,λ _=>⟨(),?_,⟨rfl,af,rfl,rfl,rfl,af⟩,⟨rfl,rfl,rfl,rfl,rfl,rfl,rfl,rfl,rfl,af⟩,af⟩⟩,λ _=>⟨λ _=>?_,λ _=>⟨(),?_,⟨rfl,af,rfl,rfl,rfl,af⟩,⟨rfl,rfl,rfl,rfl,rfl,rfl,rfl,rfl,rfl,af⟩,af⟩⟩⟩,λ _=>⟨λ _ _ _=>⟨λ _=>?_,λ _=>⟨(),?_,⟨rfl,af,rfl,rfl,rfl,af⟩,⟨rfl,rfl,rfl,rfl,rfl,rfl,rfl,rfl,rfl,af⟩,af⟩⟩,λ _=>⟨λ _=>?_,λ _=>⟨(),?_,⟨rfl,af,rfl,rfl,rfl,af⟩,⟨rfl,rfl,rfl,rfl,rfl,rfl,rfl,rfl,rfl,af⟩,af⟩⟩⟩⟩⟩,λ u2 _=>⟨λ _=>⟨λ _ _=>⟨λ _ _=>⟨λ _ _ _=>⟨λ _=>?_,λ _=>⟨(),?_,⟨rfl,af,rfl,rfl,rfl,af⟩,⟨rfl,rfl,rfl,rfl,rfl,rfl,rfl,rfl,rfl,af⟩,af⟩⟩,λ _=>⟨λ _=>?_,λ _=>⟨(),?_,⟨rfl,af,rfl,rfl,rfl,af⟩,⟨rfl,rfl,rfl,rfl,rfl,rfl,rfl,rfl,rfl,af⟩,af⟩⟩⟩,λ _=>⟨λ _=>?_,λ _=>⟨(),?_,⟨rfl,af,rfl,rfl,rfl,af⟩,⟨rfl,rfl,rfl,rfl,rfl,rfl,rfl,rfl,rfl,af⟩,af⟩⟩⟩,λ _=>⟨λ _ _=>⟨λ _ _ _=>⟨λ _=>?_,λ _=>⟨(),?_,⟨rfl,af,rfl,rfl,rfl,af⟩,⟨rfl,rfl,rfl,rfl,rfl,rfl,rfl,rfl,rfl,af⟩,af⟩⟩,λ _=>⟨λ _=>?_,λ _=>⟨(),?_,⟨rfl,af,rfl,rfl,rfl,af⟩,⟨rfl,rfl,rfl,rfl,rfl,rfl,rfl,rfl,rfl,af⟩,af⟩⟩⟩,λ _=>⟨λ _=>?_,λ _=>⟨(),?_,⟨rfl,af,rfl,rfl,rfl,af⟩,⟨rfl,rfl,rfl,rfl,rfl,rfl,rfl,rfl,rfl,af⟩,af⟩⟩⟩⟩,λ u3 _ _ _=>⟨⟨0,?_,⟨rfl,af,rfl,rfl,rfl,af,rfl,rfl,?_,af⟩,⟨rfl,rfl,rfl,rfl,rfl,rfl,rfl,rfl,rfl,af⟩,af⟩,λ j4 _=>⟨λ _=>⟨?_,?_,λ _=>?_,λ _=>⟨?_,j4+1,?_,?_,⟨rfl,af,rfl,rfl,rfl,af,rfl,rfl,?_,af⟩,⟨rfl,rfl,rfl,rfl,rfl,rfl,rfl,rfl,rfl,af⟩,af⟩⟩,λ _=>⟨?_,k1+1,?_,?_,⟨rfl,rfl,rfl,?_,af⟩,af⟩⟩⟩⟩⟩,λ _=>?_⟩⟩⟩,λ _=>⟨λ _=>?_,λ _ _ _=>⟨⟨0,?_,⟨rfl,rfl,rfl,?_,af⟩,af⟩,λ k1 _=>⟨λ _=>⟨?_,⟨λ _ _=>⟨λ _ _=>⟨λ _ _ _=>⟨λ _=>?_,λ _=>⟨(),?_,⟨rfl,af,rfl,rfl,rfl,af⟩,⟨rfl,rfl,rfl,rfl,rfl,rfl,rfl,rfl,rfl,af⟩,af⟩⟩,λ _=>⟨λ _=>?_,λ _=>⟨(),?_,⟨rfl,af,rfl,rfl,rfl,af⟩,⟨rfl,rfl,rfl,rfl,rfl,rfl,rfl,rfl,rfl,af⟩,af⟩⟩⟩,λ _=>⟨λ _ _ _=>⟨λ _=>?_,λ _=>⟨(),?_,⟨rfl,af,rfl,rfl,rfl,af⟩,⟨rfl,rfl,rfl,rfl,rfl,rfl,rfl,rfl,rfl,af⟩,af⟩⟩,λ _=>⟨λ _=>?_,λ _=>⟨(),?_,⟨rfl,af,rfl,rfl,rfl,af⟩,⟨rfl,rfl,rfl,rfl,rfl,rfl,rfl,rfl,rfl,af⟩,af⟩⟩⟩⟩,λ _=>⟨λ _ _=>⟨λ _ _ _=>⟨λ _=>?_,λ _=>⟨(),?_,⟨rfl,af,rfl,rfl,rfl,af⟩,⟨rfl,rfl,rfl,rfl,rfl,rfl,rfl,rfl,rfl,af⟩,af⟩⟩,λ _=>⟨λ _=>?_,λ _=>⟨(),?_,⟨rfl,af,rfl,rfl,rfl,af⟩,⟨rfl,rfl,rfl,rfl,rfl,rfl,rfl,rfl,rfl,af⟩,af⟩⟩⟩,λ _=>⟨λ _ _ _=>⟨λ _=>?_,λ _=>⟨(),?_,⟨rfl,af,rfl,rfl,rfl,af⟩,⟨rfl,rfl,rfl,rfl,rfl,rfl,rfl,rfl,rfl,af⟩,af⟩⟩,λ _=>⟨λ _=>?_,λ _=>⟨(),?_,⟨rfl,af,rfl,rfl,rfl,af⟩,⟨rfl,rfl,rfl,rfl,rfl,rfl,rfl,rfl,rfl,af⟩,af⟩⟩⟩⟩⟩,λ u2 _=>⟨λ _=>⟨λ _ _=>⟨λ _ _=>⟨λ _ _ _=>⟨λ _=>?_,λ _=>⟨(),?_,⟨rfl,af,rfl,rfl,rfl,af⟩,⟨rfl,rfl,rfl,rfl,rfl,rfl,rfl,rfl,rfl,af⟩,af⟩⟩,λ _=>⟨λ _=>?_,λ _=>⟨(),?_,⟨rfl,af,rfl,rfl,rfl,af⟩,⟨rfl,rfl,rfl,rfl,rfl,rfl,rfl,rfl,rfl,af⟩,af⟩⟩⟩,λ _=>⟨λ _=>?_,λ _=>⟨(),?_,⟨rfl,af,rfl,rfl,rfl,af⟩,⟨rfl,rfl,rfl,rfl,rfl,rfl,rfl,rfl,rfl,af⟩,af⟩⟩⟩,λ _=>⟨λ _ _=>⟨λ _ _ _=>⟨λ _=>?_,λ _=>⟨(),?_,⟨rfl,af,rfl,rfl,rfl,af⟩,⟨rfl,rfl,rfl,rfl,rfl,rfl,rfl,rfl,rfl,af⟩,af⟩⟩,λ _=>⟨λ _=>?_,λ _=>⟨(),?_,⟨rfl,af,rfl,rfl,rfl,af⟩,⟨rfl,rfl,rfl,rfl,rfl,rfl,rfl,rfl,rfl,af⟩,af⟩⟩⟩,λ _=>⟨λ _=>?_,λ _=>⟨(),?_,⟨rfl,af,rfl,rfl,rfl,af⟩,⟨rfl,rfl,rfl,rfl,rfl,rfl,rfl,rfl,rfl,af⟩,af⟩⟩⟩⟩,λ u3 _ _ _=>⟨⟨0,?_,⟨rfl,af,rfl,rfl,rfl,af,rfl,rfl,?_,af⟩,⟨rfl,rfl,rfl,rfl,rfl,rfl,rfl,rfl,rfl,af⟩,af⟩,λ j4 _=>⟨λ _=>⟨?_,?_,λ _=>?_,λ _=>⟨?_,j4+1,?_,?_,⟨rfl,af,rfl,rfl,rfl,af,rfl,rfl,?_,af⟩,⟨rfl,rfl,rfl,rfl,rfl,rfl,rfl,rfl,rfl,af⟩,af⟩⟩,λ _=>⟨?_,k1+1,?_,?_,⟨rfl,rfl,rfl,?_,af⟩,af⟩⟩⟩⟩⟩,λ _=>?_⟩⟩⟩⟩;all_goals try and_intros
 all_goals try (first|with_reducible rfl|with_reducible assumption)
 all_goals try simp only[J.eta,ae.eta,aH.eta,aU,bM,ct] at *
 all_goals first|with_reducible rfl|with_reducible assumption|exact True.intro|(simp only[Bool.true_eq_false,Bool.false_eq_true,Bool.not_true,Bool.not_false] at *;done)|(have h:xI p k1:=(by with_reducible assumption);have sg:=h.sg;simp only[sg,Bool.and_true,Bool.not_true,Bool.not_false,Bool.not_eq_true',Bool.not_eq_false'] at *;first|exact True.intro|exact (h.b1 (by simp only[decide_eq_true_eq] at *;omega) (by with_reducible assumption)).symm|exact (h.b (by simp only[decide_eq_true_eq] at *;omega) (a1h (by simp only[jT,decide_eq_true_eq,decide_eq_false_iff_not] at *;omega))).symm|exact (h.b (by simp only[decide_eq_true_eq] at *;omega) (a1i (by simp only[jT,decide_eq_true_eq,decide_eq_false_iff_not] at *;omega))).symm|exact h.a (by simp only[decide_eq_true_eq] at *;omega) (by with_reducible assumption) (by simp only[jT,decide_eq_true_eq,decide_eq_false_iff_not] at *;omega) (by simp only[jT,decide_eq_true_eq,decide_eq_false_iff_not] at *;omega) (by simp only[jT,decide_eq_true_eq,decide_eq_false_iff_not] at *;omega)|(refine (h.a9U (by simp only[decide_eq_true_eq] at *;omega) ?_).symm;(rw[a2u];unfold clG;simp only[jT, *,Bool.and_true,Bool.true_and,Bool.and_false,Bool.false_and,Bool.not_true,Bool.not_false];done)))|((try simp only[jT,List.nil_append,J.eta,decide_eq_true_eq,decide_eq_false_iff_not,Bool.not_true,Bool.not_false,Bool.not_eq_true',Bool.not_eq_false',aC,U,bF,List.length_append,List.length_cons,List.length_nil,List.length_map,List.length_take] at *);first|exact True.intro|omega|exact (a2Q (by with_reducible assumption)).symm|exact (a2R (by omega)).symm|exact xI.zero (by with_reducible assumption) (by omega)|exact (xI.end (by with_reducible assumption) (by omega)).symm|exact Qb.zero (by with_reducible assumption)|(have h:xI p k1:=(by with_reducible assumption);have:=h.le;have:=h.ln;omega)|(have h:Lv p k1:=(by with_reducible assumption);have l:=h.lt;first|omega|exact (h.n1 (by simp only[jT];omega) (by simp only[jT];omega)).symm|exact (h.n2 (by simp only[jT];omega) (by simp only[jT];omega)).symm|exact h.y1 (by simp only[jT];omega) (by simp only[jT];omega)|exact h.y2 (by simp only[jT];omega) (by simp only[jT];omega))|(have h:Qb p k1:=(by with_reducible assumption);have:=h.lt;omega)|(have h:Qc p k1 j4:=(by with_reducible assumption);first|exact h.h.pp.sg|exact (h.bad (by simp only[jT];omega) (by with_reducible assumption)).symm|exact h.next (by simp only[jT];omega) (by with_reducible assumption)|exact h.done (by simp only[jT];omega)|(have:=h.le;have:=h.h.lt;omega)))
def GQ:aQ.Good kV:=Kr ⟨rR,vv,gS,BB,af⟩
def XT{gg:aX}{x:J}(hg:bS gg=true)(h:cC gg x=true):br 62 62 x=true:=by
 rw[zV] at h;rw[Wf] at hg;rw[Fz _ (by omega),Fz _ (by omega)] at h;exact Jb _ _ _ _ (by omega) (by omega) x h.1
def Yh{t a:Int}{x:J}(h:br t a x=true):de x.au=(x.M.length:Int):=by
 rw[l5,Bool.and_eq_true] at h;have h1:=h.1;unfold tj at h1;simp only[Bool.and_eq_true,decide_eq_true_eq] at h1;exact h1.1.1
def Rn{t a:Int}{x:J}(h:br t a x=true)(hk:x.au=6\/x.au=7):x.M.length=2:=by
 have:=Yh h;rcases hk with hk|hk<;>rw[hk] at this<;>simp[de] at this<;>omega
def T5{α:Type}(f:α->Bool)(z:α)(xs:List α)(i:Nat)(h:bE f xs=true)(hi:i<xs.length):f (xs.getD i z)=true:=by
 refine y8 f xs h _ ?_;rw[b1f,b1p hi];exact b2d _
structure Cs(p:aB):Prop where
 v:jj p=true
def Cs.sg{p:aB}(h:Cs p):bS p.sig=true:=by
 have:=h.v;simp only[jj,b0R] at this;exact this.1.1
def Cs.ln{p:aB}(h:Cs p):p.aq.length<=40:=by
 have:=h.v;simp only[jj,b0R,b0N] at this;exact this.1.2
def Cs.cl{p:aB}(h:Cs p){i:Int}(h0:0<=i)(hi:i<(p.aq.length:Int)):qu p.sig (fj p i)=true:=by
 have:=h.v;simp only[jj,b0R] at this;exact T5 _ _ _ _ this.2 (by omega)
def Cs.e{p:aB}(h:Cs p){i:Int}(h0:0<=i)(hi:i<(p.aq.length:Int)):cC p.sig (fj p i).left=true/\cC p.sig (fj p i).right=true/\(1<=(fj p i).cj/\(fj p i).cj<=3)/\(0<=(fj p i).ref/\(fj p i).ref<=39)/\(fj p i).steps.length<=60/\bE (ka p.sig) (fj p i).steps=true:=by
 have:=h.cl h0 hi;simp only[qu,b0R,b0N] at this;exact⟨this.1.1.1.1.1.1,this.1.1.1.1.1.2,this.1.1.1.1.2,this.1.1.1.2,this.1.1.2,this.2⟩
def Cs.t{p:aB}(h:Cs p){i:Int}(h0:0<=i)(hi:i<(p.aq.length:Int)):br 62 62 (fj p i).left=true/\br 62 62 (fj p i).right=true:=⟨XT h.sg (h.e h0 hi).1,XT h.sg (h.e h0 hi).2.1⟩
def Uo:Dx.length=24:=by unfold Dx;rw[List.length_map];rfl
def a3k:Dx.all (λ q=>br 62 62 q.left&&br 62 62 q.right)=true:=by kernel_rfl
def Jc{p:aB}{k u:Int}(h:Cs p)(hk:k<=(p.aq.length:Int))(hu:u<=23)(ho:sf k u=true):br 62 62 (cp p k u).left=true/\br 62 62 (cp p k u).right=true:=by
 unfold cp;by_cases h0:0<=u
 .rw[b1q h0];have hm:Dx.getD u.toNat (aH.mk zE zE)∈Dx:=by
   rw[b1f,b1p (by rw[Uo];omega)];exact b2d _
  have:=b1L.1 a3k _ hm;rwa [b0R] at this
 .rw[b0Y h0];simp only[sf,b2y,b0N] at ho;rw[b1q (by omega)];exact h.t (by omega) (by omega)
def a6a{p:aB}{k u:Int}(h:0<=u):cp p k u=Dx.getD u.toNat (aH.mk zE zE)/\sf k u=true:=by
 unfold cp sf;rw[if_pos h,decide_eq_true h];exact⟨rfl,rfl⟩
def a6b{p:aB}{k u:Int}(h:¬ 0<=u)(h2 : -1 - u<k):cp p k u=aH.mk (fj p (-1 - u)).left (fj p (-1 - u)).right/\sf k u=true:=by
 unfold cp sf;rw[if_neg h,if_pos h2,decide_eq_true h2,Bool.or_true];exact⟨rfl,rfl⟩
def a6c{p:aB}{k u:Int}(h:¬ 0<=u)(h2:¬ -1 - u<k):cp p k u=aH.mk zE zE/\sf k u=false:=by
 unfold cp sf;rw[if_neg h,if_neg h2,decide_eq_false h,decide_eq_false h2];exact⟨rfl,rfl⟩
def a3c{q:aH}(h:Rl q=true):smQ q=(q.left.M.getD 0 zE).M.getD 0 zE/\smX q=(q.left.M.getD 0 zE).M.getD 1 zE/\smR q=q.right:=by unfold smQ smX smR;rw[h];exact⟨rfl,rfl,rfl⟩
def a5R{q:aH}(ht:br 62 62 q.left=true)(h:q.left.au=6):q.left.M.length=2/\br 62 62 (q.left.M.getD 0 zE)=true/\((q.left.M.getD 0 zE).au=6->(q.left.M.getD 0 zE).M.length=2/\br 62 62 ((q.left.M.getD 0 zE).M.getD 1 zE)=true):=by
 have h2:=Rn ht (.inl h);have h3:=wv ht 0 (by omega);refine⟨h2,h3,λ hk=>?_⟩;have h4:=Rn h3 (.inl hk);exact⟨h4,wv h3 1 (by omega)⟩
def Om:aQ.Good lZ:=MF.plain
def qI:aQ:=⟨At,[.v (.st .proof), .v (.int .i64), .v (.int .i64)],λ (p:aB) (k:Int) (u:Int)=>⟨(some (u<=23 /\ -40<=u/\0<=k/\k<=(p.aq.length:Int)),[⟨(.st .equation),cp p k u⟩,⟨.bool,sf k u⟩])⟩⟩
def Is(p:aB)(k:Int)(u:Int):Nat->aM:=λ _ => .none
def Tu(p:aB)(k:Int)(u:Int):ck (aZ [lZ] [] [] [3]) (az np) (Is p k u) 0 (bx (aZ [lZ] [] [] [3]) np λ r=>bB r [⟨(.st .equation),cp p k u⟩,⟨.bool,sf k u⟩]) (aL np [.val ⟨(.st .proof),p⟩, .val ⟨(.int .i64),k⟩, .val ⟨(.int .i64),u⟩]) =
 ((((decide ((0:Int)<=u))=true ->
 ((Dx).length<=140737488355328 ->
 (aC u (Dx).length/\((b9 ((Dx).getD (Int.toNat u) (aH.mk zE zE)))=(cp p k u)/\true=(sf k u)))))/\((decide ((0:Int)<=u))=false ->
 (U ((-1:Int) - u)/\(((decide (k<=((-1:Int) - u)))=true ->
 ((aH.mk zE zE)=(cp p k u)/\false=(sf k u)))/\((decide (k<=((-1:Int) - u)))=false ->
 (p.aq.length<=140737488355328 ->
 (U ((-1:Int) - u)/\(aC ((-1:Int) - u) p.aq.length/\((aH.mk (ag (p.aq.getD (Int.toNat ((-1:Int) - u)) (ae.mk zE zE (0:Int) (0:Int) [])).left) (ag (p.aq.getD (Int.toNat ((-1:Int) - u)) (ae.mk zE zE (0:Int) (0:Int) [])).right))=(cp p k u)/\true=(sf k u))))))))))):=by kernel_rfl
def Te(hE:aI [lZ]):aQ.Good qI:=by
 refine⟨aA F1 rfl (by decide),?_⟩;show ∀ (p:aB) (k:Int) (u:Int),(u<=23 /\ -40<=u/\0<=k/\k<=(p.aq.length:Int))->bC prog At [.val ⟨(.st .proof),p⟩, .val ⟨(.int .i64),k⟩, .val ⟨(.int .i64),u⟩] (·=[⟨(.st .equation),cp p k u⟩,⟨.bool,sf k u⟩]);intro p k u hp;refine bg (wr:=[]) (cl:=[]) (ro:=[3]) hE F1 NT (Is p k u) ?_;rewrite [Tu p k u];refine⟨λ _ _=>⟨?_,?_,?_⟩,λ _=>⟨?_,λ _=>⟨?_,?_⟩,λ _ _=>⟨?_,?_,?_,?_⟩⟩⟩;all_goals try and_intros
 all_goals try (first|with_reducible rfl|with_reducible assumption)
 all_goals try simp only[J.eta,ae.eta,aH.eta,aU,bM,ct] at *
 all_goals first|with_reducible rfl|with_reducible assumption|exact True.intro|(simp only[b0W,b0V,b0X,b0U] at *;done)|((try simp only[b1F,J.eta,b0N,b0M,b0X,b0U,b1i,b1B,aC,U,bF,b1l,b0Z,b1n,b1o,b1C] at *);first|exact True.intro|omega|((first|have Q:=a6a (p:=p) (k:=k) (u:=u) (by omega)|have Q:=a6b (p:=p) (k:=k) (u:=u) (by omega) (by omega)|have Q:=a6c (p:=p) (k:=k) (u:=u) (by omega) (by omega));first|exact Q.1|exact Q.2|exact Q.1.symm|exact Q.2.symm)|(have:=Uo;omega))
def Ou:aQ.Good qI:=Te ⟨Om,af⟩
structure No(p:aB)(k:Int)(e:J)(s:O):Prop where
 v:Cs p
 k0:0<=k
 k1:k<=(p.aq.length:Int)
 e:cC p.sig e=true
 s:ka p.sig s=true
def No.u{p:aB}{k:Int}{e:J}{s:O}(h:No p k e s):(-40<=s.use/\s.use<=23)/\s.path.length<=40/\s.ar.length<=3/\s.bo.length<=4/\bE (cC p.sig) s.ar=true/\bE (cC p.sig) s.bo=true:=by
 have:=h.s;simp only[ka,b0R,b0N] at this;have h1:=this.1.1.1.1.1.1.2;have h2:=this.1.1.1.1.2;have h3:=this.1.1.1.2;exact⟨this.1.1.1.1.1.1.1,by omega,by omega,by omega,this.1.1.2,this.2⟩
def No.fl{p:aB}{k:Int}{e:J}{s:O}(h:No p k e s):Np s.ar s.bo :=
 ⟨λ y hy=>Fg p.sig y (y8 _ _ h.u.2.2.2.2.1 y hy),λ y hy=>Fg p.sig y (y8 _ _ h.u.2.2.2.2.2 y hy)⟩
def HX{q:aH}{s:O}(h1:(bW [q.left,q.right]).1=(s.ar.length:Int))(h2:(bW [q.left,q.right]).2=(s.bo.length:Int)):jE s.ar s.bo q.left/\jE s.ar s.bo q.right:=by
 simp only[bW] at h1 h2;exact⟨⟨by omega,by omega⟩,⟨by omega,by omega⟩⟩
def ZF{p:aB}{k:Int}{e:J}{s:O}{c:Int}(h:iw p k e s=c)(hc:c≠0):jO p k e s=J.mk (0:Int) (0:Int) []/\iw p k e s=c:=⟨by unfold jO;rw[if_neg (by rw[h];exact hc)],h⟩
def a2j{p:aB}{k:Int}{e:J}{s:O}(h:sf k s.use=false\/fP e s.path=false):jO p k e s=J.mk (0:Int) (0:Int) []/\iw p k e s=2:=by
 refine ZF ?_ (by decide);unfold iw;rcases h with h|h<;>rw[h]<;>simp
def a2k{p:aB}{k:Int}{e:J}{s:O}(h:Yo (cp p k s.use) s=false):jO p k e s=J.mk (0:Int) (0:Int) []/\iw p k e s=2:=by
 refine ZF ?_ (by decide);unfold iw;rw[h];cases sf k s.use&&fP e s.path<;>rfl
def a4p{q:aH}{s:O}(h:¬ (bW [q.left,q.right]).1=(s.ar.length:Int)):Yo q s=false:=by unfold Yo;rw[decide_eq_false h];rfl
def a4q{q:aH}{s:O}(h:¬ (bW [q.left,q.right]).2=(s.bo.length:Int)):Yo q s=false:=by unfold Yo;rw[decide_eq_false h,Bool.and_false]
structure AW(p:aB)(k:Int)(e:J)(s:O):Prop where
 u:sf k s.use=true
 n:fP e s.path=true
 t:(bW [(cp p k s.use).left,(cp p k s.use).right]).1=(s.ar.length:Int)
 a:(bW [(cp p k s.use).left,(cp p k s.use).right]).2=(s.bo.length:Int)
def AW.c{p:aB}{k:Int}{e:J}{s:O}(h:AW p k e s):iw p k e s=bif !Uc p.sig (cp p k s.use) s then 3 else bif !bT (dD e s.path) (ZE (cp p k s.use) s) then 6 else sd p.sig e s.path (Ud (cp p k s.use) s):=by
 unfold iw;rw[h.u,h.n,show Yo (cp p k s.use) s=true by unfold Yo;rw[decide_eq_true h.t,decide_eq_true h.a];rfl];rfl
def Ju{gg:aX}{x:J}{ts as_:List J}(h:pj gg x ts as_=0):cC gg (dC ts as_ x)=true/\lF gg x ts as_=dC ts as_ x:=by
 cases hb:cC gg (dC ts as_ x) with
 | true=>exact⟨rfl,(Y5 hb).1⟩
 | false=>rw[(a1E hb).2] at h;cases h
def a5s{gg:aX}{x:J}{ts as_:List J}(h:¬ pj gg x ts as_=0):cC gg (dC ts as_ x)=false:=by
 cases hb:cC gg (dC ts as_ x) with
 | true=>exact absurd (Y5 hb).2 h
 | false=>rfl
def AW.c3{p:aB}{k:Int}{e:J}{s:O}(h:AW p k e s)(h2:¬ pj p.sig (cp p k s.use).left s.ar s.bo=0\/¬ pj p.sig (cp p k s.use).right s.ar s.bo=0):jO p k e s=J.mk (0:Int) (0:Int) []/\iw p k e s=3:=by
 refine ZF ?_ (by decide);rw[h.c];unfold Uc;rcases h2 with h2|h2<;>rw[a5s h2]<;>simp
def AW.i{p:aB}{k:Int}{e:J}{s:O}(h1:pj p.sig (cp p k s.use).left s.ar s.bo=0)(h2:pj p.sig (cp p k s.use).right s.ar s.bo=0):Uc p.sig (cp p k s.use) s=true:=by
 unfold Uc;rw[(Ju h1).1,(Ju h2).1];rfl
structure Df(p:aB)(k:Int)(e:J)(s:O)(x y:J):Prop where
 r:AW p k e s
 i:Uc p.sig (cp p k s.use) s=true
 x:x=ZE (cp p k s.use) s
 y:y=Ud (cp p k s.use) s
def AW.s1{p:aB}{k:Int}{e:J}{s:O}(h:AW p k e s)(h1:pj p.sig (cp p k s.use).left s.ar s.bo=0)(h2:pj p.sig (cp p k s.use).right s.ar s.bo=0)(hb:s.back=true):Df p k e s (lF p.sig (cp p k s.use).right s.ar s.bo) (lF p.sig (cp p k s.use).left s.ar s.bo) :=
 ⟨h,AW.i (e:=e) h1 h2,by rw[(Ju h2).2];unfold ZE;rw[hb];rfl,by rw[(Ju h1).2];unfold Ud;rw[hb];rfl⟩
def AW.s0{p:aB}{k:Int}{e:J}{s:O}(h:AW p k e s)(h1:pj p.sig (cp p k s.use).left s.ar s.bo=0)(h2:pj p.sig (cp p k s.use).right s.ar s.bo=0)(hb:s.back=false):Df p k e s (lF p.sig (cp p k s.use).left s.ar s.bo) (lF p.sig (cp p k s.use).right s.ar s.bo) :=
 ⟨h,AW.i (e:=e) h1 h2,by rw[(Ju h1).2];unfold ZE;rw[hb];rfl,by rw[(Ju h2).2];unfold Ud;rw[hb];rfl⟩
def Df.c6{p:aB}{k:Int}{e:J}{s:O}{x y:J}(h:Df p k e s x y)(h2:bT (A7 e s.path) x=false):jO p k e s=J.mk (0:Int) (0:Int) []/\iw p k e s=6:=by
 refine ZF ?_ (by decide);have e1:A7 e s.path=dD e s.path:=by unfold A7;rw[h.r.n];rfl
 rw[h.r.c,h.i,<-h.x,<-e1,h2];rfl
def Df.go{p:aB}{k:Int}{e:J}{s:O}{x y:J}(h:Df p k e s x y)(h2:bT (A7 e s.path) x=true):jO p k e s=yc p.sig e s.path y/\iw p k e s=sd p.sig e s.path y:=by
 have e1:A7 e s.path=dD e s.path:=by unfold A7;rw[h.r.n];rfl
 have c:iw p k e s=sd p.sig e s.path y:=by rw[h.r.c,h.i,<-h.x,<-e1,h2,h.y];rfl
 refine⟨?_,c⟩;unfold jO;rw[c,<-h.y];unfold yc sd;cases fP e s.path<;>cases sb e s.path<;>cases bu y<;>cases cC p.sig (iL y e s.path)<;>rfl
def Df.c4{p:aB}{k:Int}{e:J}{s:O}{x y:J}(h:Df p k e s x y)(h2:bT (A7 e s.path) x=true)(h3:yU e s.path=true)(h4:bu y=false):jO p k e s=J.mk (0:Int) (0:Int) []/\iw p k e s=4:=by
 have g:=h.go h2;have g2:=a1Y (gg:=p.sig) (y:=y) h.r.n h3 h4;rw[g.1,g.2];exact g2
def Df.sz{p:aB}{k:Int}{e:J}{s:O}{x y:J}(h:Df p k e s x y):aw y<=1048576:=by
 have:=h.i;rw[Uc,Bool.and_eq_true] at this;refine Fg p.sig y ?_;rw[h.y];unfold Ud;cases s.back
 .exact this.2
 .exact this.1
def J3:aQ.Good jx:=IM.plain
def ld:aQ:=⟨uU,[.v (.st .proof), .v (.int .i64), .v (.st .expr), .v (.st .proofStep)],λ (p:aB) (k:Int) (e:J) (s:O)=>⟨(some (No p k e s),[⟨(.st .expr),jO p k e s⟩,⟨(.int .i64),iw p k e s⟩])⟩⟩
def Ai(p:aB)(k:Int)(e:J)(s:O):Nat->aM:=λ _ => .none
abbrev xe(p:aB)(k:Int)(e:J)(s:O):Prop:=(s.path.length<=140737488355328 ->
 ((aw e<=1048576/\aw (ag (lF p.sig (ag (cp p k s.use).left) s.ar s.bo))<=1048576/\s.path.length<=1000)/\(U (sd p.sig e s.path (ag (lF p.sig (ag (cp p k s.use).left) s.ar s.bo))) ->
 ((ag (yc p.sig e s.path (ag (lF p.sig (ag (cp p k s.use).left) s.ar s.bo))))=(jO p k e s)/\(sd p.sig e s.path (ag (lF p.sig (ag (cp p k s.use).left) s.ar s.bo)))=(iw p k e s)))))
abbrev xf(p:aB)(k:Int)(e:J)(s:O):Prop:=(s.path.length<=140737488355328 ->
 ((aw e<=1048576/\aw (ag (lF p.sig (ag (cp p k s.use).right) s.ar s.bo))<=1048576/\s.path.length<=1000)/\(U (sd p.sig e s.path (ag (lF p.sig (ag (cp p k s.use).right) s.ar s.bo))) ->
 ((ag (yc p.sig e s.path (ag (lF p.sig (ag (cp p k s.use).right) s.ar s.bo))))=(jO p k e s)/\(sd p.sig e s.path (ag (lF p.sig (ag (cp p k s.use).right) s.ar s.bo)))=(iw p k e s)))))
abbrev xg(p:aB)(k:Int)(e:J)(s:O):Prop:=((s.back=true ->
 (((!(bT (ag (A7 e s.path)) (ag (lF p.sig (ag (cp p k s.use).right) s.ar s.bo))))=true ->
 (zE=(jO p k e s)/\(6:Int)=(iw p k e s)))/\((!(bT (ag (A7 e s.path)) (ag (lF p.sig (ag (cp p k s.use).right) s.ar s.bo))))=false ->
 (((yU e s.path)=true ->
 (((!(bu (ag (lF p.sig (ag (cp p k s.use).left) s.ar s.bo))))=true ->
 (zE=(jO p k e s)/\(4:Int)=(iw p k e s)))/\((!(bu (ag (lF p.sig (ag (cp p k s.use).left) s.ar s.bo))))=false ->
 (xe p k e s))))/\((yU e s.path)=(!true) ->
 ((false=true ->
 (zE=(jO p k e s)/\(4:Int)=(iw p k e s)))/\(false=false ->
 (xe p k e s))))))))/\(s.back=false ->
 (((!(bT (ag (A7 e s.path)) (ag (lF p.sig (ag (cp p k s.use).left) s.ar s.bo))))=true ->
 (zE=(jO p k e s)/\(6:Int)=(iw p k e s)))/\((!(bT (ag (A7 e s.path)) (ag (lF p.sig (ag (cp p k s.use).left) s.ar s.bo))))=false ->
 (((yU e s.path)=true ->
 (((!(bu (ag (lF p.sig (ag (cp p k s.use).right) s.ar s.bo))))=true ->
 (zE=(jO p k e s)/\(4:Int)=(iw p k e s)))/\((!(bu (ag (lF p.sig (ag (cp p k s.use).right) s.ar s.bo))))=false ->
 (xf p k e s))))/\((yU e s.path)=(!true) ->
 ((false=true ->
 (zE=(jO p k e s)/\(4:Int)=(iw p k e s)))/\(false=false ->
 (xf p k e s)))))))))
abbrev xh(p:aB)(k:Int)(e:J)(s:O):Prop:=(s.ar.length<=140737488355328 ->
 (s.bo.length<=140737488355328 ->
 ((jE s.ar s.bo (ag (cp p k s.use).left)/\br 62 62 (ag (cp p k s.use).left)=true/\Np s.ar s.bo/\s.ar.length<=1000/\s.bo.length<=1000)/\(U (pj p.sig (ag (cp p k s.use).left) s.ar s.bo) ->
 (s.ar.length<=140737488355328 ->
 (s.bo.length<=140737488355328 ->
 ((jE s.ar s.bo (ag (cp p k s.use).right)/\br 62 62 (ag (cp p k s.use).right)=true/\Np s.ar s.bo/\s.ar.length<=1000/\s.bo.length<=1000)/\(U (pj p.sig (ag (cp p k s.use).right) s.ar s.bo) ->
 (((!(decide ((pj p.sig (ag (cp p k s.use).left) s.ar s.bo)=(0:Int))))=false ->
 (((!(decide ((pj p.sig (ag (cp p k s.use).right) s.ar s.bo)=(0:Int))))=true ->
 (zE=(jO p k e s)/\(3:Int)=(iw p k e s)))/\((!(decide ((pj p.sig (ag (cp p k s.use).right) s.ar s.bo)=(0:Int))))=false ->
 (xg p k e s))))/\((!(decide ((pj p.sig (ag (cp p k s.use).left) s.ar s.bo)=(0:Int))))=(!false) ->
 ((true=true ->
 (zE=(jO p k e s)/\(3:Int)=(iw p k e s)))/\(true=false ->
 (xg p k e s)))))))))))))
abbrev xi(p:aB)(k:Int)(e:J)(s:O):Prop:=((br 62 62 (b9 (cp p k s.use)).left=true/\br 62 62 (b9 (cp p k s.use)).right=true)/\(U ((bW [(b9 (cp p k s.use)).left,(b9 (cp p k s.use)).right]).1) ->
 (U ((bW [(b9 (cp p k s.use)).left,(b9 (cp p k s.use)).right]).2) ->
 (s.ar.length<=140737488355328 ->
 (U ((s.ar.length:Int)) ->
 (((!(decide (((bW [(b9 (cp p k s.use)).left,(b9 (cp p k s.use)).right]).1)=((s.ar.length:Int)))))=false ->
 (s.bo.length<=140737488355328 ->
 (U ((s.bo.length:Int)) ->
 (((!(decide (((bW [(b9 (cp p k s.use)).left,(b9 (cp p k s.use)).right]).2)=((s.bo.length:Int)))))=true ->
 (zE=(jO p k e s)/\(2:Int)=(iw p k e s)))/\((!(decide (((bW [(b9 (cp p k s.use)).left,(b9 (cp p k s.use)).right]).2)=((s.bo.length:Int)))))=false ->
 (xh p k e s))))))/\((!(decide (((bW [(b9 (cp p k s.use)).left,(b9 (cp p k s.use)).right]).1)=((s.ar.length:Int)))))=(!false) ->
 ((true=true ->
 (zE=(jO p k e s)/\(2:Int)=(iw p k e s)))/\(true=false ->
 (xh p k e s))))))))))
def KH(p:aB)(k:Int)(e:J)(s:O):ck (cg [qI,iZ,qG,jx,ry,cK] [lf] [] [115] [] [] [4,6,7]) (az jq) (Ai p k e s) 0 (dN (cg [qI,iZ,qG,jx,ry,cK] [lf] [] [115] [] [] [4,6,7]) jq λ r=>bB r [⟨(.st .expr),jO p k e s⟩,⟨(.int .i64),iw p k e s⟩]) (fE jq [.val ⟨(.st .proof),p⟩, .val ⟨(.int .i64),k⟩, .val ⟨(.st .expr),e⟩, .val ⟨(.st .proofStep),s⟩]) =
 ((U s.use ->
 ((s.use<=23 /\ -40<=s.use/\0<=k/\k<=(p.aq.length:Int))/\(s.path.length<=140737488355328 ->
 (((!(sf k s.use))=false ->
 (((!(fP e s.path))=true ->
 (zE=(jO p k e s)/\(2:Int)=(iw p k e s)))/\((!(fP e s.path))=false ->
 (xi p k e s))))/\((!(sf k s.use))=(!false) ->
 ((true=true ->
 (zE=(jO p k e s)/\(2:Int)=(iw p k e s)))/\(true=false ->
 (xi p k e s))))))))):=by kernel_rfl
def Kx(hE:aI [qI,iZ,qG,jx,ry,cK])(hO:dL [lf])(hM:ed [])(hS:dP []):aQ.df ld:=by
 refine⟨aA zm rfl (by decide),?_⟩;show ∀ (p:aB) (k:Int) (e:J) (s:O),(No p k e s)->fH prog uU [.val ⟨(.st .proof),p⟩, .val ⟨(.int .i64),k⟩, .val ⟨(.st .expr),e⟩, .val ⟨(.st .proofStep),s⟩] [⟨(.st .expr),jO p k e s⟩,⟨(.int .i64),iw p k e s⟩];intro p k e s hp;refine cV (own:=[115]) (wr:=[]) (cl:=[]) (ro:=[4,6,7]) hE hO hM hS zm HF (Ai p k e s) ?_;rewrite [KH p k e s];refine λ _=>⟨?_,λ _=>⟨λ _=>⟨λ _=>⟨?_,?_⟩,λ _=>⟨?_,λ _ _ _ _=>⟨λ _ _ _=>⟨λ _=>⟨?_,?_⟩,λ _ _ _=>⟨?_,λ _ _ _=>⟨?_,λ _=>⟨λ _=>⟨λ _=>⟨?_,?_⟩,λ _=>⟨λ _=>⟨λ _=>⟨?_,?_⟩,λ _=>⟨λ _=>⟨λ _=>⟨?_,?_⟩,λ _ _=>⟨?_,λ _=>⟨?_,?_⟩⟩⟩,λ _=>⟨λ _=>⟨?_,?_⟩,λ _ _=>⟨?_,λ _=>⟨?_,?_⟩⟩⟩⟩⟩,λ _=>⟨λ _=>⟨?_,?_⟩,λ _=>⟨λ _=>⟨λ _=>⟨?_,?_⟩,λ _ _=>⟨?_,λ _=>⟨?_,?_⟩⟩⟩,λ _=>⟨λ _=>⟨?_,?_⟩,λ _ _=>⟨?_,λ _=>⟨?_,?_⟩⟩⟩⟩⟩⟩⟩,λ _=>⟨λ _=>⟨?_,?_⟩,λ _=>⟨λ _=>⟨λ _=>⟨?_,?_⟩,λ _=>⟨λ _=>⟨λ _=>⟨?_,?_⟩,λ _ _=>⟨?_,λ _=>⟨?_,?_⟩⟩⟩,λ _=>⟨λ _=>⟨?_,?_⟩,λ _ _=>⟨?_,λ _=>⟨?_,?_⟩⟩⟩⟩⟩,λ _=>⟨λ _=>⟨?_,?_⟩,λ _=>⟨λ _=>⟨λ _=>⟨?_,?_⟩,λ _ _=>⟨?_,λ _=>⟨?_,?_⟩⟩⟩,λ _=>⟨λ _=>⟨?_,?_⟩,λ _ _=>⟨?_,λ _=>⟨?_,?_⟩⟩⟩⟩⟩⟩⟩⟩⟩⟩⟩,λ _=>⟨λ _=>⟨?_,?_⟩,λ _ _ _=>⟨?_,λ _ _ _=>⟨?_,λ _=>⟨λ _=>⟨λ _=>⟨?_,?_⟩,λ _=>⟨λ _=>⟨λ _=>⟨?_,?_⟩,λ _=>⟨λ _=>⟨λ _=>⟨?_,?_⟩,λ _ _=>⟨?_,λ _=>⟨?_,?_⟩⟩⟩,λ _=>⟨λ _=>⟨?_,?_⟩,λ _ _=>⟨?_,λ _=>⟨?_,?_⟩⟩⟩⟩⟩,λ _=>⟨λ _=>⟨?_,?_⟩,λ _=>⟨λ _=>⟨λ _=>⟨?_,?_⟩,λ _ _=>⟨?_,λ _=>⟨?_,?_⟩⟩⟩,λ _=>⟨λ _=>⟨?_,?_⟩,λ _ _=>⟨?_,λ _=>⟨?_,?_⟩⟩⟩⟩⟩⟩⟩,λ _=>⟨λ _=>⟨?_,?_⟩,λ _=>⟨λ _=>⟨λ _=>⟨?_,?_⟩,λ _=>⟨λ _=>⟨λ _=>⟨?_,?_⟩,λ _ _=>⟨?_,λ _=>⟨?_,?_⟩⟩⟩,λ _=>⟨λ _=>⟨?_,?_⟩,λ _ _=>⟨?_,λ _=>⟨?_,?_⟩⟩⟩⟩⟩,λ _=>⟨λ _=>⟨?_,?_⟩,λ _=>⟨λ _=>⟨λ _=>⟨?_,?_⟩,λ _ _=>⟨?_,λ _=>⟨?_,?_⟩⟩⟩,λ _=>⟨λ _=>⟨?_,?_⟩,λ _ _=>⟨?_,λ _=>⟨?_,?_⟩⟩⟩⟩⟩⟩⟩⟩⟩⟩⟩⟩⟩⟩,λ _=>⟨λ _=>⟨?_,?_⟩,λ _=>⟨?_,λ _ _ _ _=>⟨λ _ _ _=>⟨λ _=>⟨?_,?_⟩,λ _ _ _=>⟨?_,λ _ _ _=>⟨?_,λ _=>⟨λ _=>⟨λ _=>⟨?_,?_⟩,λ _=>⟨λ _=>⟨λ _=>⟨?_,?_⟩,λ _=>⟨λ _=>⟨λ _=>⟨?_,?_⟩,λ _ _=>⟨?_,λ _=>⟨?_,?_⟩⟩⟩,λ _=>⟨λ _=>⟨?_,?_⟩,λ _ _=>⟨?_,λ _=>⟨?_,?_⟩⟩⟩⟩⟩,λ _=>⟨λ _=>⟨?_,?_⟩,λ _=>⟨λ _=>⟨λ _=>⟨?_,?_⟩,λ _ _=>⟨?_,λ _=>⟨?_,?_⟩⟩⟩,λ _=>⟨λ _=>⟨?_,?_⟩,λ _ _=>⟨?_,λ _=>⟨?_,?_⟩⟩⟩⟩⟩⟩⟩,λ _=>⟨λ _=>⟨?_,?_⟩,λ _=>⟨λ _=>⟨λ _=>⟨?_,?_⟩,λ _=>⟨λ _=>⟨λ _=>⟨?_,?_⟩,λ _ _=>⟨?_,λ _=>⟨?_,?_⟩⟩⟩,λ _=>⟨λ _=>⟨?_,?_⟩,λ _ _=>⟨?_,λ _=>⟨?_,?_⟩⟩⟩⟩⟩,λ _=>⟨λ _=>⟨?_,?_⟩,λ _=>⟨λ _=>⟨λ _=>⟨?_,?_⟩,λ _ _=>⟨?_,λ _=>⟨?_,?_⟩⟩⟩,λ _=>⟨λ _=>⟨?_,?_⟩,λ _ _=>⟨?_,λ _=>⟨?_,?_⟩⟩⟩⟩⟩⟩⟩⟩⟩⟩⟩,λ _=>⟨λ _=>⟨?_,?_⟩,λ _ _ _=>⟨?_,λ _ _ _=>⟨?_,λ _=>⟨λ _=>⟨λ _=>⟨?_,?_⟩,λ _=>⟨λ _=>⟨λ _=>⟨?_,?_⟩,λ _=>⟨λ _=>⟨λ _=>⟨?_,?_⟩,λ _ _=>⟨?_,λ _=>⟨?_,?_⟩⟩⟩,λ _=>⟨λ _=>⟨?_,?_⟩,λ _ _=>⟨?_,λ _=>⟨?_,?_⟩⟩⟩⟩⟩,λ _=>⟨λ _=>⟨?_,?_⟩,λ _=>⟨λ _=>⟨λ _=>⟨?_,?_⟩,λ _ _=>⟨?_,λ _=>⟨?_,?_⟩⟩⟩,λ _=>⟨λ _=>⟨?_,?_⟩,λ _ _=>⟨?_,λ _=>⟨?_,?_⟩⟩⟩⟩⟩⟩⟩,λ _=>⟨λ _=>⟨?_,?_⟩,λ _=>⟨λ _=>⟨λ _=>⟨?_,?_⟩,λ _=>⟨λ _=>⟨λ _=>⟨?_,?_⟩,λ _ _=>⟨?_,λ _=>⟨?_,?_⟩⟩⟩,λ _=>⟨λ _=>⟨?_,?_⟩,λ _ _=>⟨?_,λ _=>⟨?_,?_⟩⟩⟩⟩⟩,λ _=>⟨λ _=>⟨?_,?_⟩,λ _=>⟨λ _=>⟨λ _=>⟨?_,?_⟩,λ _ _=>⟨?_,λ _=>⟨?_,?_⟩⟩⟩,λ _=>⟨λ _=>⟨?_,?_⟩,λ _ _=>⟨?_,λ _=>⟨?_,?_⟩⟩⟩⟩⟩⟩⟩⟩⟩⟩⟩⟩⟩⟩⟩⟩;all_goals try and_intros
 all_goals try (first|with_reducible rfl|with_reducible assumption)
 all_goals try simp only[J.eta,ae.eta,aH.eta,aU,bM,ct] at *
 all_goals first|with_reducible rfl|with_reducible assumption|exact True.intro|(simp only[b0W,b0V,b0X,b0U] at *;done)|((try simp only[b1F,J.eta,b0N,b0M,b0X,b0U,b1i,b1B,aC,U,bF,b1l,b0Z,b1n,b1o,b1C] at *);first|exact True.intro|omega|exact hp.u.1.1|exact hp.u.1.2|exact hp.k0|exact hp.k1|exact hp.fl|(have:=hp.u;omega)|exact Fg _ _ hp.e|exact (Jc hp.v hp.k1 hp.u.1.2 (by with_reducible assumption)).1|exact (Jc hp.v hp.k1 hp.u.1.2 (by with_reducible assumption)).2|((first|have Q:=a2j (p:=p) (k:=k) (e:=e) (s:=s) (.inl (by with_reducible assumption))|have Q:=a2j (p:=p) (k:=k) (e:=e) (s:=s) (.inr (by with_reducible assumption))|have Q:=a2k (p:=p) (k:=k) (e:=e) (s:=s) (a4p (by omega))|have Q:=a2k (p:=p) (k:=k) (e:=e) (s:=s) (a4q (by omega)));first|exact Q.1|exact Q.2|exact Q.1.symm|exact Q.2.symm)|(have A:AW p k e s:=⟨(by with_reducible assumption),(by with_reducible assumption),by omega,by omega⟩;first|exact (HX A.t A.a).1|exact (HX A.t A.a).2|((first|have Q:=(A.c3 (.inl (by with_reducible assumption)))|have Q:=(A.c3 (.inr (by with_reducible assumption))));first|exact Q.1|exact Q.2|exact Q.1.symm|exact Q.2.symm)|(have B:=A.s1 (by with_reducible assumption) (by with_reducible assumption) (by with_reducible assumption);first|exact B.sz|((first|have Q:=(B.c6 (by with_reducible assumption))|have Q:=(B.c4 (by with_reducible assumption) (by with_reducible assumption) (by with_reducible assumption))|have Q:=(B.go (by with_reducible assumption)));first|exact Q.1|exact Q.2|exact Q.1.symm|exact Q.2.symm))|(have B:=A.s0 (by with_reducible assumption) (by with_reducible assumption) (by with_reducible assumption);first|exact B.sz|((first|have Q:=(B.c6 (by with_reducible assumption))|have Q:=(B.c4 (by with_reducible assumption) (by with_reducible assumption) (by with_reducible assumption))|have Q:=(B.go (by with_reducible assumption)));first|exact Q.1|exact Q.2|exact Q.1.symm|exact Q.2.symm)))|exact (HX (by omega) (by omega)).1|exact (HX (by omega) (by omega)).2)
def G7:aQ.df ld:=Kx ⟨Ou,BC,On,J3,J2,jX,af⟩ ⟨G8,af⟩ trivial trivial
end
end Go.Proofs.YtmjfpcajohhbeaaGreatDoor

namespace Go.Proofs.YtmjfpcajohhbeaaGreatDoor
noncomputable section
structure InQ(c f:ae):Prop where
 c1:br 62 62 c.left=true
 f1:br 62 62 f.left=true
 f2:br 62 62 f.right=true
abbrev fQ(f:ae):aH:=aH.mk f.left f.right
def InQ.x{c f:ae}(h:InQ c f)(h2:Rl (aH.mk f.left f.right)=true)(h3:(smX (aH.mk f.left f.right)).au=7):(smX (aH.mk f.left f.right)).M.length=2:=by
 have e:=(a3c h2).2.1;rw[e] at h3 ⊢;unfold Rl at h2;simp only[Bool.and_eq_true,decide_eq_true_eq] at h2;exact Rn ((a5R (q:=fQ f) h.f1 h2.1.1).2.2 h2.1.2).2 (.inr h3)
def ZD{p:aB}{k:Int}{e:J}{s:O}(h:iw p k e s=0):cC p.sig (jO p k e s)=true:=by
 unfold jO;rw[if_pos h];unfold iw at h;cases h1 : !(sf k s.use&&fP e s.path)<;>rw[h1] at h
 .cases h2 : !Yo (cp p k s.use) s<;>rw[h2] at h
  .cases h3 : !Uc p.sig (cp p k s.use) s<;>rw[h3] at h
   .cases h4 : !bT (dD e s.path) (ZE (cp p k s.use) s)<;>rw[h4] at h
    .simp only[cond_false] at h;unfold sd at h;cases h5:fP e s.path<;>rw[h5] at h
     .cases h
     .cases h6:sb e s.path && !bu (Ud (cp p k s.use) s)<;>rw[h6] at h
      .cases h7:cC p.sig (iL (Ud (cp p k s.use) s) e s.path)<;>rw[h7] at h;cases h
      .cases h
    .cases h
   .cases h
  .cases h
 .cases h
structure SF(p:aB)(k:Int):Prop where
 v:Cs p
 k0:0<=k
 k1:k<(p.aq.length:Int)
def SF.b{p:aB}{k:Int}(h:SF p k):cC p.sig (fj p k).left=true/\cC p.sig (fj p k).right=true/\(1<=(fj p k).cj/\(fj p k).cj<=3)/\(0<=(fj p k).ref/\(fj p k).ref<=39)/\(fj p k).steps.length<=60/\bE (ka p.sig) (fj p k).steps=true:=h.v.e h.k0 h.k1
structure WD(p:aB)(k:Int)(j:Nat):Prop where
 h:SF p k
 r:(fj p k).cj=1
 jl:j<=(fj p k).steps.length
 o:rnO p k j=true
 e:cC p.sig (Zm p k j)=true
def SF.i{p:aB}{k:Int}(h:SF p k)(h2:(fj p k).ref<k):InQ (fj p k) (fj p (fj p k).ref)/\0<=(fj p k).ref/\(fj p k).ref<(p.aq.length:Int):=by
 have b:=h.b.2.2.2.1;have:=h.k1;exact⟨⟨(h.v.t h.k0 h.k1).1,(h.v.t (i:=(fj p k).ref) b.1 (by omega)).1,(h.v.t (i:=(fj p k).ref) b.1 (by omega)).2⟩,b.1,by omega⟩
def SF.z{p:aB}{k:Int}(h:SF p k)(h2:(fj p k).cj=1):WD p k 0:=⟨h,h2,b2b _,rfl,h.b.1⟩
def a0F{p:aB}{k:Int}{j:Nat}(h:rnO p k (j+1)=false):∀ n,j<n->rnO p k n=false
 | 0,hn=>by omega
 | n+1,hn=>by
  rcases b1R j n with g|g
  .rw[rnO,a0F h n g];rfl
  .have:j=n:=by omega
   subst this;exact h
def WD.ap{p:aB}{k:Int}{j:Nat}(h:WD p k j)(hj:j<(fj p k).steps.length):No p k (Zm p k j) ((fj p k).steps.getD j (O.mk (0:Int) false [] [] [])) :=
 ⟨h.h.v,h.h.k0,by have:=h.h.k1;omega,h.e,T5 _ _ _ _ h.h.b.2.2.2.2.2 hj⟩
def WD.no{p:aB}{k:Int}{j:Nat}(h:WD p k j)(hj:j<(fj p k).steps.length)(hc:¬ iw p k (Zm p k j) ((fj p k).steps.getD j (O.mk (0:Int) false [] [] []))=0):Lp p k=false:=by
 unfold Lp;rw[if_pos h.r,a0F (j:=j) (by rw[rnO,decide_eq_false hc,Bool.and_false]) _ hj];rfl
def WD.next{p:aB}{k:Int}{j:Nat}(h:WD p k j)(hj:j<(fj p k).steps.length)(hc:iw p k (Zm p k j) ((fj p k).steps.getD j (O.mk (0:Int) false [] [] []))=0):WD p k (j+1) :=
 ⟨h.h,h.r,hj,by rw[rnO,h.o,b1A hc];rfl,by rw[Zm];exact ZD hc⟩
def WD.end{p:aB}{k:Int}{j:Nat}(h:WD p k j)(hj:(fj p k).steps.length<=j):Lp p k=bT (Zm p k j) (fj p k).right:=by
 have:(fj p k).steps.length=j:=by have:=h.jl;omega
 unfold Lp;rw[if_pos h.r,this,h.o];rfl
structure T1(p:aB)(k:Nat):Prop where
 v:Cs p
 kl:k<=p.aq.length
 a:Xe (λ k=>Lp p (k:Int)) k=true
def T1.zero{p:aB}(h:Cs p):T1 p 0:=⟨h,b2b _,rfl⟩
def T1.sh{p:aB}{k:Nat}(h:T1 p k)(hk:k<p.aq.length):SF p (k:Int):=⟨h.v,by omega,by omega⟩
def T1.next{p:aB}{k:Nat}(h:T1 p k)(hk:k<p.aq.length)(hb:Lp p (k:Int)=true):T1 p (k+1):=⟨h.v,hk,by rw[Xe,h.a,hb];rfl⟩
def T1.no{p:aB}{k:Nat}(h:T1 p k)(hk:k<p.aq.length)(hb:Lp p (k:Int)=false):(ckN p:Int)=(k:Int):=by
 unfold ckN;rw[a2C (λ k=>Lp p (k:Int)) k h.a hb _ hk]
def T1.end{p:aB}{k:Nat}(h:T1 p k)(hk:p.aq.length<=k):(ckN p:Int)=(p.aq.length:Int):=by
 have:k=p.aq.length:=by have:=h.kl;omega
 subst this;unfold ckN;rw[UP (λ k=>Lp p (k:Int)) _ h.a]
end
end Go.Proofs.YtmjfpcajohhbeaaGreatDoor

set_option maxRecDepth 4000
set_option maxHeartbeats 4000000
namespace Go.Proofs.YtmjfpcajohhbeaaGreatDoor
noncomputable section
def Ck{gg:aX}(h:bS gg=true)(x:J):oz gg x=cC gg x:=by unfold oz;rw[h];rfl
def a9T(x:Int):decide (0<=x/\x<=1)=rM 2 x:=rfl
def a1G(n m:Int):decide (n<=m) = !decide (m<n):=by
 by_cases h:n<=m
 .rw[b1A h,b1a (by omega)];rfl
 .rw[b1a h,b1A (by omega)];rfl
def stG(s:O):Bool:=decide (-40<=s.use/\s.use<=23)&&(!decide (40<(s.path.length:Int))&&(!decide (3<(s.ar.length:Int)) && !decide (4<(s.bo.length:Int))))
def Zq(gg:aX)(s:O):ka gg s=(stG s&&(bE (rM 2) s.path&&(bE (cC gg) s.ar&&(bE bu s.ar&&bE (cC gg) s.bo)))):=by
 unfold ka stG;rw[a1G (s.path.length:Int) 40,a1G (s.ar.length:Int) 3,a1G (s.bo.length:Int) 4];cases decide (-40<=s.use/\s.use<=23)<;>cases decide (40<(s.path.length:Int))<;>cases decide (3<(s.ar.length:Int))<;>cases decide (4<(s.bo.length:Int))<;>cases bE (rM 2) s.path<;>cases bE (cC gg) s.ar<;>cases bE bu s.ar<;>cases bE (cC gg) s.bo<;>rfl
structure vF{α:Type}(f:α->Bool)(xs:List α)(k:Nat):Prop where
 le:k<=xs.length
 al:bE f (xs.take k)=true
def vF.zero{α:Type}(f:α->Bool)(xs:List α):vF f xs 0:=⟨b2b _,all_zero f xs⟩
def vF.next{α:Type}{f:α->Bool}{xs:List α}{k:Nat}(h:vF f xs k)(z:α)(hk:k<xs.length)(hb:f (xs.getD k z)=true):vF f xs (k+1):=⟨hk,by rw[dU f z xs k hk,h.al,hb];rfl⟩
def vF.bad{α:Type}{f:α->Bool}{xs:List α}{k:Nat}(_:vF f xs k)(z:α)(hk:k<xs.length)(hb:f (xs.getD k z)=false):bE f xs=false:=eZ f z xs k hk hb
def vF.done{α:Type}{f:α->Bool}{xs:List α}{k:Nat}(h:vF f xs k)(hk:xs.length<=k):bE f xs=true:=by
 have:=h.al;rwa [b1v hk] at this
def iD:aQ:=⟨p6,[.v (.slice (.st .expr))],λ (xs:List J)=>⟨(none,[⟨.bool,bE bu xs⟩])⟩⟩
def vA(xs:List J):Nat->aM:=(λ zb=>if Nat.beq zb 0 then .mk (Nat) (λ k=>vF bu xs k) (λ k=>xs.length - k) [] [1] (λ k=>[(3, .aT ⟨(.int .i64),((k:Int):Int)⟩)]) [0,2,3,4,5,6,7,8,9,10,11,12,13,14] (λ k=>[]) [] [] (λ k=>λ _ => .none) else .none)
def FJ(xs:List J):ck (aZ [fe]) (az fU) (vA xs) 0 (bx (aZ [fe]) fU λ r=>bB r [⟨.bool,bE bu xs⟩]) (aL fU [.val ⟨(.slice (.st .expr)),xs⟩]) =
 (((∃ k1:Nat,(vF bu xs k1/\((xs=xs/\((0:Int)=(k1:Int)/\True))/\True)))/\(∀ k1:Nat,(vF bu xs k1 ->
 (U ((xs.length:Int)) ->
 (((decide ((k1:Int)<((xs.length:Int))))=true ->
 (aC (k1:Int) xs.length/\(((!(bu (xs.getD k1 zE)))=true ->
 false=(bE bu xs))/\((!(bu (xs.getD k1 zE)))=false ->
 (U ((k1:Int)+(1:Int))/\(∃ k2:Nat,(vF bu xs k2/\(xs.length - k2<xs.length - k1/\((xs=xs/\(((k1:Int)+(1:Int))=(k2:Int)/\True))/\True)))))))))/\((decide ((k1:Int)<((xs.length:Int))))=false ->
 true=(bE bu xs)))))))):=by kernel_rfl
def Fu(hE:aI [fe]):aQ.Good iD:=by
 refine⟨aA uo rfl (by decide),?_⟩;show ∀ (xs:List J),True->bC prog p6 [.val ⟨(.slice (.st .expr)),xs⟩] (·=[⟨.bool,bE bu xs⟩]);intro xs _;refine bg (wr:=[]) (cl:=[]) (ro:=[]) hE uo Cx (vA xs) ?_;rewrite [FJ xs];refine⟨⟨0,?_,⟨rfl,?_,af⟩,af⟩,λ k1 _ _=>⟨λ _=>⟨?_,λ _=>?_,λ _=>⟨?_,k1+1,?_,?_,⟨rfl,?_,af⟩,af⟩⟩,λ _=>?_⟩⟩;all_goals try and_intros
 all_goals first|with_reducible rfl|with_reducible assumption|exact True.intro|(simp only[b0W,b0V,b0X,b0U] at *;done)|((try simp only[b1F,J.eta,b0N,b0M,b0X,b0U,b1i,b1B,aC,U,bF,b1l,b0Z,b1n,b1o,b1C] at *);  first|with_reducible exact True.intro|omega|exact vF.zero _ _|(have h:vF bu xs k1:=(by with_reducible assumption);first|exact h.bad _ (by omega) (by with_reducible assumption)|exact (h.bad _ (by omega) (by with_reducible assumption)).symm|exact h.done (by omega)|exact (h.done (by omega)).symm|exact h.next _ (by omega) (by with_reducible assumption)|(have:=h.le;omega)))
def CG:aQ.Good iD:=Fu ⟨nC,af⟩
def nR:aQ:=⟨we,[.v (.st .sig), .v (.slice (.st .expr))],λ (gg:aX) (xs:List J)=>⟨(some (bS gg=true),[⟨.bool,bE (cC gg) xs⟩])⟩⟩
def El(gg:aX)(xs:List J):Nat->aM:=(λ zb=>if Nat.beq zb 0 then .mk (Nat) (λ k=>vF (cC gg) xs k) (λ k=>xs.length - k) [] [0,3] (λ k=>[(5, .aT ⟨(.int .i64),((k:Int):Int)⟩)]) [1,2,4,5,6,7,8,9,10,11,12,13,14,15,16,17] (λ k=>[]) [] [] (λ k=>λ _ => .none) else .none)
def P1(gg:aX)(xs:List J):ck (aZ [dZ] [] [] [2]) (az kI) (El gg xs) 0 (bx (aZ [dZ] [] [] [2]) kI λ r=>bB r [⟨.bool,bE (cC gg) xs⟩]) (aL kI [.val ⟨(.st .sig),gg⟩, .val ⟨(.slice (.st .expr)),xs⟩]) =
 (((∃ k1:Nat,(vF (cC gg) xs k1/\((xs=xs/\(gg=gg/\((0:Int)=(k1:Int)/\True)))/\True)))/\(∀ k1:Nat,(vF (cC gg) xs k1 ->
 (U ((xs.length:Int)) ->
 (((decide ((k1:Int)<((xs.length:Int))))=true ->
 (aC (k1:Int) xs.length/\(((!(oz gg (xs.getD k1 zE)))=true ->
 false=(bE (cC gg) xs))/\((!(oz gg (xs.getD k1 zE)))=false ->
 (U ((k1:Int)+(1:Int))/\(∃ k2:Nat,(vF (cC gg) xs k2/\(xs.length - k2<xs.length - k1/\((xs=xs/\(gg=gg/\(((k1:Int)+(1:Int))=(k2:Int)/\True)))/\True)))))))))/\((decide ((k1:Int)<((xs.length:Int))))=false ->
 true=(bE (cC gg) xs)))))))):=by kernel_rfl
def Ph(hE:aI [dZ]):aQ.Good nR:=by
 refine⟨aA Bw rfl (by decide),?_⟩;show ∀ (gg:aX) (xs:List J),(bS gg=true)->bC prog we [.val ⟨(.st .sig),gg⟩, .val ⟨(.slice (.st .expr)),xs⟩] (·=[⟨.bool,bE (cC gg) xs⟩]);intro gg xs hp;refine bg (wr:=[]) (cl:=[]) (ro:=[2]) hE Bw JZ (El gg xs) ?_;rewrite [P1 gg xs];have ok:=Ck hp;refine⟨⟨0,?_,⟨rfl,rfl,?_,af⟩,af⟩,λ k1 _ _=>⟨λ _=>⟨?_,λ _=>?_,λ _=>⟨?_,k1+1,?_,?_,⟨rfl,rfl,?_,af⟩,af⟩⟩,λ _=>?_⟩⟩;all_goals try and_intros
 all_goals first|with_reducible rfl|with_reducible assumption|exact True.intro|(simp only[b0W,b0V,b0X,b0U] at *;done)|((try simp only[b1F,J.eta,b0N,b0M,b0X,b0U,b1i,b1B,aC,U,bF,b1l,b0Z,b1n,b1o,b1C] at *);(try simp only[ok] at *);first|with_reducible exact True.intro|omega|exact vF.zero _ _|(have h:vF (cC gg) xs k1:=(by with_reducible assumption);first|exact h.bad _ (by omega) (by with_reducible assumption)|exact (h.bad _ (by omega) (by with_reducible assumption)).symm|exact h.done (by omega)|exact (h.done (by omega)).symm|exact h.next _ (by omega) (by with_reducible assumption)|(have:=h.le;omega)))
def Ke:aQ.Good nR:=Ph ⟨nF,af⟩
structure Yk(gg:aX)(s:O)(j:Nat):Prop where
 t:vF (rM 2) s.path j
 g:stG s=true
def a8B{gg:aX}{s:O}(h:stG s=false):ka gg s=false:=by rw[Zq,h];rfl
def Yk.bad{gg:aX}{s:O}{j:Nat}(h:Yk gg s j)(hj:j<s.path.length)(hb:rM 2 (s.path.getD j 0)=false):ka gg s=false:=by rw[Zq,h.t.bad 0 hj hb,b2v,b2E]
def Yk.end{gg:aX}{s:O}{j:Nat}(h:Yk gg s j)(hj:s.path.length<=j):ka gg s=(bE (cC gg) s.ar&&(bE bu s.ar&&bE (cC gg) s.bo)):=by rw[Zq,h.g,h.t.done hj];rfl
def iz:aQ:=⟨x7,[.v (.st .sig), .r (.st .proofStep)],λ (gg:aX) (s:O)=>⟨(some (bS gg=true),[⟨.bool,ka gg s⟩])⟩⟩
def Gu(gg:aX)(s:O):Nat->aM:=(λ zb=>if Nat.beq zb 0 then .mk (Nat) (λ j=>Yk gg s j) (λ j=>s.path.length - j) [] [0,3,6,7,8,9,10,11,12,13,14,15,16,17,18,19,20,21,22,23,24,25,26,27,28,29,30,31,32,33,34,35,36,37,38] (λ j=>[(5, .aT ⟨(.int .i64),((j:Int):Int)⟩)]) [1,2,4,5,39,40,41,42,43,44,45,46,47,48,49,50,51,52,53,54,55,56,57,58,59,60,61,62,63,64,65,66,67,68,69,70,71,72,73,74,75,76,77] (λ j=>[]) [] [] (λ j=>λ _ => .none) else .none)
abbrev uI(gg:aX)(s:O):Prop:=((∃ j1:Nat,(Yk gg s j1/\((s=s/\(gg=gg/\((0:Int)=(j1:Int)/\True)))/\True)))/\(∀ j1:Nat,(Yk gg s j1 ->
 (s.path.length<=140737488355328 ->
 (U ((s.path.length:Int)) ->
 (((decide ((j1:Int)<((s.path.length:Int))))=true ->
 (s.path.length<=140737488355328 ->
 (aC (j1:Int) s.path.length/\(U (s.path.getD j1 (0:Int)) ->
 ((((!(decide ((0:Int)<=(s.path.getD j1 (0:Int))/\(s.path.getD j1 (0:Int))<=(1:Int))))=true) ->
 false=(ka gg s))/\(((!(decide ((0:Int)<=(s.path.getD j1 (0:Int))/\(s.path.getD j1 (0:Int))<=(1:Int))))=false) ->
 (U ((j1:Int)+(1:Int))/\(∃ j2:Nat,(Yk gg s j2/\(s.path.length - j2<s.path.length - j1/\((s=s/\(gg=gg/\(((j1:Int)+(1:Int))=(j2:Int)/\True)))/\True)))))))))))/\((decide ((j1:Int)<((s.path.length:Int))))=false ->
 (bS gg=true/\(((bE (cC gg) s.ar)=true ->
 (((bE bu s.ar)=true ->
 (s.ar.length<=140737488355328 ->
 (s.ar.length<=140737488355328 ->
 (s.bo.length<=140737488355328 ->
 (bS gg=true/\(bE (cC gg) s.bo)=(ka gg s))))))/\((bE bu s.ar)=(!true) ->
 (s.ar.length<=140737488355328 ->
 (s.ar.length<=140737488355328 ->
 false=(ka gg s))))))/\((bE (cC gg) s.ar)=(!true) ->
 ((false=true ->
 (s.ar.length<=140737488355328 ->
 (s.bo.length<=140737488355328 ->
 (bS gg=true/\(bE (cC gg) s.bo)=(ka gg s)))))/\(false=(!true) ->
 (s.ar.length<=140737488355328 ->
 false=(ka gg s))))))))))))))
abbrev BP(gg:aX)(s:O):Prop:=(s.bo.length<=140737488355328 ->
 (U ((s.bo.length:Int)) ->
 (((decide ((4:Int)<((s.bo.length:Int))))=true ->
 false=(ka gg s))/\((decide ((4:Int)<((s.bo.length:Int))))=false ->
 (uI gg s)))))
abbrev BQ(gg:aX)(s:O):Prop:=(s.ar.length<=140737488355328 ->
 (U ((s.ar.length:Int)) ->
 (((decide ((3:Int)<((s.ar.length:Int))))=false ->
 (BP gg s))/\((decide ((3:Int)<((s.ar.length:Int))))=(!false) ->
 ((true=true ->
 false=(ka gg s))/\(true=false ->
 (uI gg s)))))))
abbrev BR(gg:aX)(s:O):Prop:=((true=false ->
 (BP gg s))/\(true=(!false) ->
 ((true=true ->
 false=(ka gg s))/\(true=false ->
 (uI gg s)))))
def RF(gg:aX)(s:O):ck (aZ [cQ,dQ,nR,iD] [] [] [2]) (az lW) (Gu gg s) 0 (bx (aZ [cQ,dQ,nR,iD] [] [] [2]) lW λ r=>bB r [⟨.bool,ka gg s⟩]) (aL lW [.val ⟨(.st .sig),gg⟩, .ref ⟨(.st .proofStep),s⟩]) =
 ((U ((((oQ).length:Int)) - (1:Int))/\(U s.use ->
 ((oQ).length<=140737488355328 ->
 (U (((oQ).length:Int)) ->
 ((((!(decide ((-40:Int)<=s.use/\s.use<=((((oQ).length:Int)) - (1:Int)))))=false) ->
 (s.path.length<=140737488355328 ->
 (U ((s.path.length:Int)) ->
 (((decide ((40:Int)<((s.path.length:Int))))=false ->
 (BQ gg s))/\((decide ((40:Int)<((s.path.length:Int))))=(!false) ->
 (BR gg s))))))/\(((!(decide ((-40:Int)<=s.use/\s.use<=((((oQ).length:Int)) - (1:Int)))))=(!false)) ->
 ((true=false ->
 (BQ gg s))/\(true=(!false) ->
 (BR gg s)))))))))):=by kernel_rfl
def Q7(hE:aI [cQ,dQ,nR,iD]):aQ.Good iz:=by
 refine⟨aA Du rfl (by decide),?_⟩;show ∀ (gg:aX) (s:O),(bS gg=true)->bC prog x7 [.val ⟨(.st .sig),gg⟩, .ref ⟨(.st .proofStep),s⟩] (·=[⟨.bool,ka gg s⟩]);intro gg s hp;refine bg (wr:=[]) (cl:=[]) (ro:=[2]) hE Du LO (Gu gg s) ?_;rewrite [RF gg s];have f0:(oQ.length:Int) - 1=23:=by rw[si];rfl
 refine⟨?_,λ _ _ _=>⟨λ _ _ _=>⟨λ _ _ _=>⟨λ _ _ _=>⟨λ _=>?_,λ _=>⟨⟨0,?_,⟨rfl,rfl,?_,af⟩,af⟩,λ j1 _ _ _=>⟨λ _ _=>⟨?_,λ _=>⟨λ _=>?_,λ _=>⟨?_,j1+1,?_,?_,⟨rfl,rfl,?_,af⟩,af⟩⟩⟩,λ _=>⟨?_,λ _=>⟨λ _ _ _ _=>⟨?_,?_⟩,λ _ _ _=>?_⟩,λ _=>⟨λ _ _ _=>⟨?_,?_⟩,λ _ _=>?_⟩⟩⟩⟩⟩,λ _=>⟨λ _=>?_,λ _=>⟨⟨0,?_,⟨rfl,rfl,?_,af⟩,af⟩,λ j1 _ _ _=>⟨λ _ _=>⟨?_,λ _=>⟨λ _=>?_,λ _=>⟨?_,j1+1,?_,?_,⟨rfl,rfl,?_,af⟩,af⟩⟩⟩,λ _=>⟨?_,λ _=>⟨λ _ _ _ _=>⟨?_,?_⟩,λ _ _ _=>?_⟩,λ _=>⟨λ _ _ _=>⟨?_,?_⟩,λ _ _=>?_⟩⟩⟩⟩⟩⟩,λ _=>⟨λ _ _ _=>⟨λ _=>?_,λ _=>⟨⟨0,?_,⟨rfl,rfl,?_,af⟩,af⟩,λ j1 _ _ _=>⟨λ _ _=>⟨?_,λ _=>⟨λ _=>?_,λ _=>⟨?_,j1+1,?_,?_,⟨rfl,rfl,?_,af⟩,af⟩⟩⟩,λ _=>⟨?_,λ _=>⟨λ _ _ _ _=>⟨?_,?_⟩,λ _ _ _=>?_⟩,λ _=>⟨λ _ _ _=>⟨?_,?_⟩,λ _ _=>?_⟩⟩⟩⟩⟩,λ _=>⟨λ _=>?_,λ _=>⟨⟨0,?_,⟨rfl,rfl,?_,af⟩,af⟩,λ j1 _ _ _=>⟨λ _ _=>⟨?_,λ _=>⟨λ _=>?_,λ _=>⟨?_,j1+1,?_,?_,⟨rfl,rfl,?_,af⟩,af⟩⟩⟩,λ _=>⟨?_,λ _=>⟨λ _ _ _ _=>⟨?_,?_⟩,λ _ _ _=>?_⟩,λ _=>⟨λ _ _ _=>⟨?_,?_⟩,λ _ _=>?_⟩⟩⟩⟩⟩⟩⟩,λ _=>⟨λ _ _ _=>⟨λ _ _ _=>⟨λ _=>?_,λ _=>⟨⟨0,?_,⟨rfl,rfl,?_,af⟩,af⟩,λ j1 _ _ _=>⟨λ _ _=>⟨?_,λ _=>⟨λ _=>?_,λ _=>⟨?_,j1+1,?_,?_,⟨rfl,rfl,?_,af⟩,af⟩⟩⟩,λ _=>⟨?_,λ _=>⟨λ _ _ _ _=>⟨?_,?_⟩,λ _ _ _=>?_⟩,λ _=>⟨λ _ _ _=>⟨?_,?_⟩,λ _ _=>?_⟩⟩⟩⟩⟩,λ _=>⟨λ _=>?_,λ _=>⟨⟨0,?_,⟨rfl,rfl,?_,af⟩,af⟩,λ j1 _ _ _=>⟨λ _ _=>⟨?_,λ _=>⟨λ _=>?_,λ _=>⟨?_,j1+1,?_,?_,⟨rfl,rfl,?_,af⟩,af⟩⟩⟩,λ _=>⟨?_,λ _=>⟨λ _ _ _ _=>⟨?_,?_⟩,λ _ _ _=>?_⟩,λ _=>⟨λ _ _ _=>⟨?_,?_⟩,λ _ _=>?_⟩⟩⟩⟩⟩⟩,λ _=>⟨λ _ _ _=>⟨λ _=>?_,λ _=>⟨⟨0,?_,⟨rfl,rfl,?_,af⟩,af⟩,λ j1 _ _ _=>⟨λ _ _=>⟨?_,λ _=>⟨λ _=>?_,λ _=>⟨?_,j1+1,?_,?_,⟨rfl,rfl,?_,af⟩,af⟩⟩⟩,λ _=>⟨?_,λ _=>⟨λ _ _ _ _=>⟨?_,?_⟩,λ _ _ _=>?_⟩,λ _=>⟨λ _ _ _=>⟨?_,?_⟩,λ _ _=>?_⟩⟩⟩⟩⟩,λ _=>⟨λ _=>?_,λ _=>⟨⟨0,?_,⟨rfl,rfl,?_,af⟩,af⟩,λ j1 _ _ _=>⟨λ _ _=>⟨?_,λ _=>⟨λ _=>?_,λ _=>⟨?_,j1+1,?_,?_,⟨rfl,rfl,?_,af⟩,af⟩⟩⟩,λ _=>⟨?_,λ _=>⟨λ _ _ _ _=>⟨?_,?_⟩,λ _ _ _=>?_⟩,λ _=>⟨λ _ _ _=>⟨?_,?_⟩,λ _ _=>?_⟩⟩⟩⟩⟩⟩⟩⟩⟩;all_goals try and_intros
 all_goals first|with_reducible rfl|with_reducible assumption|exact True.intro|(simp only[Bool.true_eq_false,Bool.false_eq_true,Bool.not_true,Bool.not_false] at *;done)|exact hp|(have e:=si;clear f0;simp only[e];done)|(have e:=si;omega)|((try simp only[f0,a9T,Bool.not_true,Bool.not_false,Bool.not_eq_true',Bool.not_eq_false'] at *);first|with_reducible exact True.intro|(refine (a8B ?_).symm;(unfold stG;simp only[*,Bool.and_true,Bool.true_and,Bool.and_false,Bool.false_and,Bool.not_true,Bool.not_false];done))|(refine⟨vF.zero _ _,?_⟩;(unfold stG;simp only[*,Bool.and_true,Bool.true_and,Bool.and_false,Bool.false_and,Bool.not_true,Bool.not_false];done))|(have h:Yk gg s j1:=(by with_reducible assumption);first|exact (h.bad (by simp only[decide_eq_true_eq,decide_eq_false_iff_not] at *;omega) (by with_reducible assumption)).symm|exact⟨h.t.next 0 (by simp only[decide_eq_true_eq,decide_eq_false_iff_not] at *;omega) (by with_reducible assumption),h.g⟩|(rw[h.end (by simp only[decide_eq_true_eq,decide_eq_false_iff_not] at *;omega)];simp only[*,Bool.and_true,Bool.true_and,Bool.and_false,Bool.false_and];done)|(have:=h.t.le;simp only[aC,U,bF,decide_eq_true_eq,decide_eq_false_iff_not] at *;omega))|(simp only[aC,U,bF,decide_eq_true_eq,decide_eq_false_iff_not] at *;omega))
def zK:aQ.Good iz:=Q7 ⟨kJ,sn,Ke,CG,af⟩
end
end Go.Proofs.YtmjfpcajohhbeaaGreatDoor

set_option maxRecDepth 4000
set_option maxHeartbeats 4000000
namespace Go.Proofs.YtmjfpcajohhbeaaGreatDoor
noncomputable section
structure SE(gg:aX)(c:ae)(j:Nat):Prop where
 t:vF (ka gg) c.steps j
 g:A3 gg c=true
def SE.bad{gg:aX}{c:ae}{j:Nat}(h:SE gg c j)(hj:j<c.steps.length)(hb:ka gg (c.steps.getD j (O.mk (0:Int) false [] [] []))=false):qu gg c=false:=by rw[E1,h.t.bad _ hj hb,b2E]
def SE.end{gg:aX}{c:ae}{j:Nat}(h:SE gg c j)(hj:c.steps.length<=j):qu gg c=true:=by rw[E1,h.g,h.t.done hj];rfl
def SE.zero{gg:aX}{c:ae}(g:A3 gg c=true):SE gg c 0:=⟨vF.zero _ _,g⟩
def nQ:aQ:=⟨wb,[.v (.st .sig), .r (.st .claim)],λ (gg:aX) (c:ae)=>⟨(some (bS gg=true),[⟨.bool,qu gg c⟩])⟩⟩
def Ek(gg:aX)(c:ae):Nat->aM:=(λ zb=>if Nat.beq zb 100003 then .mk (Unit) (λ u=>EF gg c) (λ u=>0) [] [0,3,6,7,8,9,10,11,12,13,14,15,16,17,18,19,20,21,22,23,24,25,26,27,28,29,30,31,32,33,34,35] (λ u=>[]) [1,2,4,5,36,37,38,39,40,41,42,43,44,45,46,47,48,49,50,51,52,53,54,55,56,57,58,59,60,61,62,63,64,65,66,67,68,69,70,71,72,73,74,75,76,77,78,79,80,81,82,83,84,85,86,87,88] (λ u=>[]) [] [] (λ u=>(λ zb=>if Nat.beq zb 100005 then .mk (Unit) (λ u=>A3 gg c=true) (λ u=>0) [] [0,3,6,7,8,9,10,11,12,13,14,15,16,17,18,19,20,21,22,23,24,25,26,27,28,29,30,31,32,33,34,35,36,37,38,39,40,41,42,43,44,45,46,47,48,49,50,51,52,53,54,55,56,57,58,59,60,61,62,63,64,65,66,67,68,69,70] (λ u=>[]) [1,2,4,5,71,72,73,74,75,76,77,78,79,80,81,82,83,84,85,86,87,88] (λ u=>[]) [] [] (λ u=>(λ zb=>if Nat.beq zb 0 then .mk (Nat) (λ j=>SE gg c j) (λ j=>c.steps.length - j) [] [0,3,6,7,8,9,10,11,12,13,14,15,16,17,18,19,20,21,22,23,24,25,26,27,28,29,30,31,32,33,34,35,36,37,38,39,40,41,42,43,44,45,46,47,48,49,50,51,52,53,54,55,56,57,58,59,60,61,62,63,64,65,66,67,68,69,70] (λ j=>[(5, .aT ⟨(.int .i64),((j:Int):Int)⟩)]) [1,2,4,5,71,72,73,74,75,76,77,78,79,80,81,82,83,84,85,86,87,88] (λ j=>[]) [] [] (λ j=>λ _ => .none) else .none)) else .none)) else .none)
abbrev z8(gg:aX)(c:ae):Prop:=(U c.ref ->
 ((((!(decide ((0:Int)<=c.ref/\c.ref<=(39:Int))))=true) ->
 false=(qu gg c))/\(((!(decide ((0:Int)<=c.ref/\c.ref<=(39:Int))))=false) ->
 (∃ u1:Unit,(EF gg c/\((c=c/\(gg=gg/\True))/\True))))))
abbrev Aa(gg:aX)(c:ae):Prop:=(U c.cj ->
 ((((!(decide ((1:Int)<=c.cj/\c.cj<=(3:Int))))=false) ->
 (z8 gg c))/\(((!(decide ((1:Int)<=c.cj/\c.cj<=(3:Int))))=(!false)) ->
 ((true=true ->
 false=(qu gg c))/\(true=false ->
 (∃ u1:Unit,(EF gg c/\((c=c/\(gg=gg/\True))/\True))))))))
abbrev Ab(gg:aX)(c:ae):Prop:=((true=false ->
 (z8 gg c))/\(true=(!false) ->
 ((true=true ->
 false=(qu gg c))/\(true=false ->
 (∃ u1:Unit,(EF gg c/\((c=c/\(gg=gg/\True))/\True)))))))
abbrev tn(gg:aX)(c:ae):Prop:=(c.steps.length<=140737488355328 ->
 (U ((c.steps.length:Int)) ->
 (((decide ((60:Int)<((c.steps.length:Int))))=true ->
 false=(qu gg c))/\((decide ((60:Int)<((c.steps.length:Int))))=false ->
 (∃ u2:Unit,(A3 gg c=true/\((c=c/\(gg=gg/\True))/\True)))))))
abbrev Ac(gg:aX)(c:ae):Prop:=(U c.cj ->
 (((!(decide (c.cj=(1:Int))))=true ->
 (c.steps.length<=140737488355328 ->
 (U ((c.steps.length:Int)) ->
 (((decide ((0:Int)<((c.steps.length:Int))))=false ->
 (tn gg c))/\((decide ((0:Int)<((c.steps.length:Int))))=(!false) ->
 ((true=true ->
 false=(qu gg c))/\(true=false ->
 (∃ u2:Unit,(A3 gg c=true/\((c=c/\(gg=gg/\True))/\True))))))))))/\((!(decide (c.cj=(1:Int))))=(!true) ->
 ((false=false ->
 (tn gg c))/\(false=(!false) ->
 ((true=true ->
 false=(qu gg c))/\(true=false ->
 (∃ u2:Unit,(A3 gg c=true/\((c=c/\(gg=gg/\True))/\True))))))))))
abbrev Ad(gg:aX)(c:ae):Prop:=((true=false ->
 (tn gg c))/\(true=(!false) ->
 ((true=true ->
 false=(qu gg c))/\(true=false ->
 (∃ u2:Unit,(A3 gg c=true/\((c=c/\(gg=gg/\True))/\True)))))))
def P0(gg:aX)(c:ae):ck (aZ [dZ,cQ,iz] [] [] [2]) (az kH) (Ek gg c) 0 (bx (aZ [dZ,cQ,iz] [] [] [2]) kH λ r=>bB r [⟨.bool,qu gg c⟩]) (aL kH [.val ⟨(.st .sig),gg⟩, .ref ⟨(.st .claim),c⟩]) =
 (((((!(oz gg c.left))=false ->
 (((!(oz gg c.right))=false ->
 (Aa gg c))/\((!(oz gg c.right))=(!false) ->
 (Ab gg c))))/\((!(oz gg c.left))=(!false) ->
 ((true=false ->
 (Aa gg c))/\(true=(!false) ->
 (Ab gg c)))))/\(∀ u1:Unit,(EF gg c ->
 ((U c.cj ->
 (((decide (c.cj=(1:Int)))=true ->
 (U c.ref ->
 (((!(decide (c.ref=(0:Int))))=false ->
 (Ac gg c))/\((!(decide (c.ref=(0:Int))))=(!false) ->
 (Ad gg c)))))/\((decide (c.cj=(1:Int)))=(!true) ->
 ((false=false ->
 (Ac gg c))/\(false=(!false) ->
 (Ad gg c))))))/\(∀ u2:Unit,(A3 gg c=true ->
 ((∃ j3:Nat,(SE gg c j3/\((c=c/\(gg=gg/\((0:Int)=(j3:Int)/\True)))/\True)))/\(∀ j3:Nat,(SE gg c j3 ->
 (c.steps.length<=140737488355328 ->
 (U ((c.steps.length:Int)) ->
 (((decide ((j3:Int)<((c.steps.length:Int))))=true ->
 (aC (j3:Int) c.steps.length/\(c.steps.length<=140737488355328 ->
 (bS gg=true/\(((!(ka gg (c.steps.getD j3 (O.mk (0:Int) false [] [] []))))=true ->
 false=(qu gg c))/\((!(ka gg (c.steps.getD j3 (O.mk (0:Int) false [] [] []))))=false ->
 (U ((j3:Int)+(1:Int))/\(∃ j4:Nat,(SE gg c j4/\(c.steps.length - j4<c.steps.length - j3/\((c=c/\(gg=gg/\(((j3:Int)+(1:Int))=(j4:Int)/\True)))/\True)))))))))))/\((decide ((j3:Int)<((c.steps.length:Int))))=false ->
 true=(qu gg c))))))))))))))):=by kernel_rfl
def Pg(hE:aI [dZ,cQ,iz]):aQ.Good nQ:=by
 refine⟨aA Bv rfl (by decide),?_⟩;show ∀ (gg:aX) (c:ae),(bS gg=true)->bC prog wb [.val ⟨(.st .sig),gg⟩, .ref ⟨(.st .claim),c⟩] (·=[⟨.bool,qu gg c⟩]);intro gg c hp;refine bg (wr:=[]) (cl:=[]) (ro:=[2]) hE Bv JY (Ek gg c) ?_;rewrite [P0 gg c];have ok:=Ck hp;refine⟨⟨λ _=>⟨λ _ _=>⟨λ _ _=>⟨λ _=>?_,λ _=>⟨(),?_,⟨rfl,rfl,af⟩,af⟩⟩,λ _=>⟨λ _=>?_,λ _=>⟨(),?_,⟨rfl,rfl,af⟩,af⟩⟩⟩,λ _=>⟨λ _ _=>⟨λ _=>?_,λ _=>⟨(),?_,⟨rfl,rfl,af⟩,af⟩⟩,λ _=>⟨λ _=>?_,λ _=>⟨(),?_,⟨rfl,rfl,af⟩,af⟩⟩⟩⟩,λ _=>⟨λ _ _=>⟨λ _ _=>⟨λ _=>?_,λ _=>⟨(),?_,⟨rfl,rfl,af⟩,af⟩⟩,λ _=>⟨λ _=>?_,λ _=>⟨(),?_,⟨rfl,rfl,af⟩,af⟩⟩⟩,λ _=>⟨λ _ _=>⟨λ _=>?_,λ _=>⟨(),?_,⟨rfl,rfl,af⟩,af⟩⟩,λ _=>⟨λ _=>?_,λ _=>⟨(),?_,⟨rfl,rfl,af⟩,af⟩⟩⟩⟩⟩,λ u1 _=>⟨λ _=>⟨λ _ _=>⟨λ _ _=>⟨λ _ _ _=>⟨λ _ _ _=>⟨λ _=>?_,λ _=>⟨(),?_,⟨rfl,rfl,af⟩,af⟩⟩,λ _=>⟨λ _=>?_,λ _=>⟨(),?_,⟨rfl,rfl,af⟩,af⟩⟩⟩,λ _=>⟨λ _ _ _=>⟨λ _=>?_,λ _=>⟨(),?_,⟨rfl,rfl,af⟩,af⟩⟩,λ _=>⟨λ _=>?_,λ _=>⟨(),?_,⟨rfl,rfl,af⟩,af⟩⟩⟩⟩,λ _=>⟨λ _ _ _=>⟨λ _=>?_,λ _=>⟨(),?_,⟨rfl,rfl,af⟩,af⟩⟩,λ _=>⟨λ _=>?_,λ _=>⟨(),?_,⟨rfl,rfl,af⟩,af⟩⟩⟩⟩,λ _=>⟨λ _ _=>⟨λ _ _ _=>⟨λ _ _ _=>⟨λ _=>?_,λ _=>⟨(),?_,⟨rfl,rfl,af⟩,af⟩⟩,λ _=>⟨λ _=>?_,λ _=>⟨(),?_,⟨rfl,rfl,af⟩,af⟩⟩⟩,λ _=>⟨λ _ _ _=>⟨λ _=>?_,λ _=>⟨(),?_,⟨rfl,rfl,af⟩,af⟩⟩,λ _=>⟨λ _=>?_,λ _=>⟨(),?_,⟨rfl,rfl,af⟩,af⟩⟩⟩⟩,λ _=>⟨λ _ _ _=>⟨λ _=>?_,λ _=>⟨(),?_,⟨rfl,rfl,af⟩,af⟩⟩,λ _=>⟨λ _=>?_,λ _=>⟨(),?_,⟨rfl,rfl,af⟩,af⟩⟩⟩⟩⟩,λ u2 _=>⟨⟨0,?_,⟨rfl,rfl,?_,af⟩,af⟩,λ j3 _ _ _=>⟨λ _=>⟨?_,λ _=>⟨?_,λ _=>?_,λ _=>⟨?_,j3+1,?_,?_,⟨rfl,rfl,?_,af⟩,af⟩⟩⟩,λ _=>?_⟩⟩⟩⟩;all_goals try and_intros
 all_goals first|with_reducible rfl|with_reducible assumption|exact True.intro|(simp only[b0W,b0V,b0X,b0U] at *;done)|exact hp|exact Int.ofNat_zero.symm|exact rfl|((try simp only[ok,b0X,b0U,b1i,b1B,b0N,b0M] at *);first|with_reducible exact True.intro|exact a4J (by with_reducible assumption)|exact (a4J (by with_reducible assumption)).symm|exact a4K (by with_reducible assumption)|exact (a4K (by with_reducible assumption)).symm|exact a1h (by with_reducible assumption)|exact (a1h (by with_reducible assumption)).symm|exact a1i (by with_reducible assumption)|exact (a1i (by with_reducible assumption)).symm|exact⟨(by with_reducible assumption),(by with_reducible assumption),(by with_reducible assumption),(by with_reducible assumption)⟩|(have h:EF gg c:=(by with_reducible assumption);first|exact (h.n1 (by omega) (by omega)).symm|exact (h.n2 (by omega) (by omega)).symm|exact (h.n3 (by omega)).symm|exact h.y1 (by omega) (by omega) (by omega)|exact h.y2 (by omega) (by omega))|exact SE.zero (by with_reducible assumption)|(have h:SE gg c j3:=(by with_reducible assumption);first|exact (h.bad (by omega) (by with_reducible assumption)).symm|exact⟨h.t.next _ (by omega) (by with_reducible assumption),h.g⟩|exact (h.end (by omega)).symm|(have:=h.t.le;simp only[aC,U,bF] at *;omega))|(simp only[aC,U,bF] at *;omega))
def Kd:aQ.Good nQ:=Pg ⟨nF,kJ,zK,af⟩
structure Yj(p:aB)(j:Nat):Prop where
 s:bS p.sig=true
 n:p.aq.length<=40
 t:vF (qu p.sig) p.aq j
def Yj.bad{p:aB}{j:Nat}(h:Yj p j)(hj:j<p.aq.length)(hb:qu p.sig (p.aq.getD j (ae.mk zE zE (0:Int) (0:Int) []))=false):jj p=false:=by
 unfold jj;rw[h.t.bad _ hj hb,Bool.and_false]
def Yj.end{p:aB}{j:Nat}(h:Yj p j)(hj:p.aq.length<=j):jj p=true:=by unfold jj;rw[h.s,h.t.done hj,decide_eq_true h.n];rfl
def sx:aQ:=⟨CQ,[.r (.st .proof)],λ (p:aB)=>⟨(none,[⟨.bool,jj p⟩])⟩⟩
def Lc(p:aB):Nat->aM:=(λ zb=>if Nat.beq zb 0 then .mk (Nat) (λ j=>Yj p j) (λ j=>p.aq.length - j) [] [1,4,5,6,7,8,9,10,11,12,13,14,15,16,17] (λ j=>[(3, .aT ⟨(.int .i64),((j:Int):Int)⟩)]) [0,2,3,18,19,20,21,22,23,24,25,26,27,28,29,30,31,32,33,34,35,36,37,38] (λ j=>[]) [] [] (λ j=>λ _ => .none) else .none)
abbrev Gb(p:aB):Prop:=((∃ j1:Nat,(Yj p j1/\((p=p/\((0:Int)=(j1:Int)/\True))/\True)))/\(∀ j1:Nat,(Yj p j1 ->
 (p.aq.length<=140737488355328 ->
 (U ((p.aq.length:Int)) ->
 (((decide ((j1:Int)<((p.aq.length:Int))))=true ->
 (aC (j1:Int) p.aq.length/\(p.aq.length<=140737488355328 ->
 (bS p.sig=true/\(((!(qu p.sig (p.aq.getD j1 (ae.mk zE zE (0:Int) (0:Int) []))))=true ->
 false=(jj p))/\((!(qu p.sig (p.aq.getD j1 (ae.mk zE zE (0:Int) (0:Int) []))))=false ->
 (U ((j1:Int)+(1:Int))/\(∃ j2:Nat,(Yj p j2/\(p.aq.length - j2<p.aq.length - j1/\((p=p/\(((j1:Int)+(1:Int))=(j2:Int)/\True))/\True)))))))))))/\((decide ((j1:Int)<((p.aq.length:Int))))=false ->
 true=(jj p))))))))
def Ww(p:aB):ck (aZ [ff,nQ]) (az pQ) (Lc p) 0 (bx (aZ [ff,nQ]) pQ λ r=>bB r [⟨.bool,jj p⟩]) (aL pQ [.ref ⟨(.st .proof),p⟩]) =
 ((((!(bS p.sig))=false ->
 (p.aq.length<=140737488355328 ->
 (U ((p.aq.length:Int)) ->
 (((decide ((40:Int)<((p.aq.length:Int))))=true ->
 false=(jj p))/\((decide ((40:Int)<((p.aq.length:Int))))=false ->
 (Gb p))))))/\((!(bS p.sig))=(!false) ->
 ((true=true ->
 false=(jj p))/\(true=false ->
 (Gb p)))))):=by kernel_rfl
def VX(hE:aI [ff,nQ]):aQ.Good sx:=by
 refine⟨aA Hz rfl (by decide),?_⟩;show ∀ (p:aB),True->bC prog CQ [.ref ⟨(.st .proof),p⟩] (·=[⟨.bool,jj p⟩]);intro p _;refine bg (wr:=[]) (cl:=[]) (ro:=[]) hE Hz Qj (Lc p) ?_;rewrite [Ww p];refine⟨λ _ _ _=>⟨λ _=>?_,λ _=>⟨⟨0,?_,⟨rfl,?_,af⟩,af⟩,λ j1 _ _ _=>⟨λ _=>⟨?_,λ _=>⟨?_,λ _=>?_,λ _=>⟨?_,j1+1,?_,?_,⟨rfl,?_,af⟩,af⟩⟩⟩,λ _=>?_⟩⟩⟩,λ _=>⟨λ _=>?_,λ _=>⟨⟨0,?_,⟨rfl,?_,af⟩,af⟩,λ j1 _ _ _=>⟨λ _=>⟨?_,λ _=>⟨?_,λ _=>?_,λ _=>⟨?_,j1+1,?_,?_,⟨rfl,?_,af⟩,af⟩⟩⟩,λ _=>?_⟩⟩⟩⟩;all_goals try and_intros
 all_goals first|with_reducible rfl|with_reducible assumption|exact True.intro|(simp only[b0W,b0V,b0X,b0U] at *;done)|((try simp only[b0X,b0U,b1i,b1B,b0N,b0M] at *);first|with_reducible exact True.intro|exact (a2Q (by with_reducible assumption)).symm|exact (a2R (by omega)).symm|exact⟨(by with_reducible assumption),by omega,vF.zero _ _⟩|(have h:Yj p j1:=(by with_reducible assumption);first|exact h.s|exact (h.bad (by omega) (by with_reducible assumption)).symm|exact⟨h.s,h.n,h.t.next _ (by omega) (by with_reducible assumption)⟩|exact (h.end (by omega)).symm|(have:=h.t.le;simp only[aC,U,bF] at *;omega)|(have:=h.t.le;omega))|(simp only[aC,U,bF] at *;omega))
def Qx:aQ.Good sx:=VX ⟨uA,Kd,af⟩
end
end Go.Proofs.YtmjfpcajohhbeaaGreatDoor

set_option maxRecDepth 4000
set_option maxHeartbeats 4000000
namespace Go.Proofs.YtmjfpcajohhbeaaGreatDoor
noncomputable section
def AR(t:Int)(e:J)(i:Nat):Int:=max (max t (if e.au=3 then e.aO+1 else 0)) (bW (e.M.take i)).1
def AQ(a:Int)(e:J)(i:Nat):Int:=max (max a (if e.au=4 then e.aO+1 else 0)) (bW (e.M.take i)).2
def PM{x:J}(h:br 62 62 x=true)(hk:x.au=3\/x.au=4):x.M=[]:=by
 have:=Yh h;rcases hk with hk|hk<;>rw[hk] at this<;>simp[de] at this<;>exact b1X (by omega)
def b0e(t a:Int)(e:J):AR t e 0=max t (max (if e.au=3 then e.aO+1 else 0) 0)/\AQ a e 0=max a (max (if e.au=4 then e.aO+1 else 0) 0):=by
 unfold AR AQ;rw[List.take_zero,bW];dsimp only;omega
def b0g(t a:Int)(e:J)(i:Nat)(hi:i<e.M.length):AR t e (i+1)=max (AR t e i) (cT (e.M.getD i zE)).1/\AQ a e (i+1)=max (AQ a e i) (cT (e.M.getD i zE)).2:=by
 unfold AR AQ;rw[SC e i hi];dsimp only;omega
def b0f(t a:Int)(e:J)(i:Nat)(h:br 62 62 e=true)(hi:e.M.length<=i)(ht:0<=t)(ha:0<=a):AR t e i=max t (cT e).1/\AQ a e i=max a (cT e).2:=by
 unfold AR AQ;have hn:=pV h;by_cases h3:e.au=3
 .have:=hn (.inl h3);rw[if_pos h3,if_neg (show ¬ e.au=4 by omega),PM h (.inl h3),List.take_nil,bW,a5W e h3];dsimp only;omega
 .by_cases h4:e.au=4
  .have:=hn (.inr h4);rw[if_neg h3,if_pos h4,PM h (.inr h4),List.take_nil,bW,a5X e h3 h4];dsimp only;omega
  .have:=Rm e h i;rw[b0Y h3,b0Y h4,<-a2d e h3 h4 i hi];rw[<-a2d e h3 h4 i hi] at this;omega
def a8G(t a:Int)(e:J)(i:Nat)(h:br 62 62 e=true)(ht:0<=t/\t<=1000)(ha:0<=a/\a<=1000):(0<=AR t e i/\AR t e i<=1000)/\0<=AQ a e i/\AQ a e i<=1000:=by
 have h1:=Rm e h i;have hn:=pV h;unfold AR AQ;have:(if e.au=3 then e.aO+1 else 0)<=63:=by
  split
  .rename_i q;have:=hn (.inl q);omega
  .omega
 have:(if e.au=4 then e.aO+1 else 0)<=63:=by
  split
  .rename_i q;have:=hn (.inr q);omega
  .omega
 omega
def oa(n:Nat):jU:=⟨vg,[[.d (.int .i64)],[.d (.int .i64)]],[.r (.st .expr), .b 0, .b 1],[[(.int .i64)],[(.int .i64)]],λ (e:J) (t:Int) (a:Int)=>⟨(some (cA e<n/\br 62 62 e=true/\(0<=t/\t<=1000)/\0<=a/\a<=1000),[],[[⟨(.int .i64),max t (cT e).1⟩],[⟨(.int .i64),max a (cT e).2⟩]])⟩⟩
def s6:jU:=⟨vg,[[.d (.int .i64)],[.d (.int .i64)]],[.r (.st .expr), .b 0, .b 1],[[(.int .i64)],[(.int .i64)]],λ (e:J) (t:Int) (a:Int)=>⟨(some (br 62 62 e=true/\(0<=t/\t<=1000)/\0<=a/\a<=1000),[],[[⟨(.int .i64),max t (cT e).1⟩],[⟨(.int .i64),max a (cT e).2⟩]])⟩⟩
def GD(e:J)(t:Int)(a:Int):Nat->aM:=(λ zb=>if Nat.beq zb 100004 then .mk (Unit) (λ u=>True) (λ u=>0) [] [3,4,5,7,8,9,10,11,12,13,14,15,16,17,18,19,20,21,22,23,24,25,26,27,28,29,30,31,32,33,34,35,36,37,38,56] (λ u=>[]) [0,1,2,6,39,40,41,42,43,44,45,46,47,48,49,50,51,52,53,54,55] (λ u=>[(400000, .box [.aT ⟨(.int .i64),(AR t e 0:Int)⟩]),(400001, .box [.aT ⟨(.int .i64),(AQ a e 0:Int)⟩])]) [] [] (λ u=>(λ zb=>if Nat.beq zb 0 then .mk (Nat) (λ i=>i<=e.M.length) (λ i=>e.M.length - i) [] [3,4,5,7,8,9,10,11,12,13,14,15,16,17,18,19,20,21,22,23,24,25,26,27,28,29,30,31,32,33,34,35,36,37,38,56] (λ i=>[(6, .aT ⟨(.int .i64),((i:Int):Int)⟩)]) [0,1,2,6,39,40,41,42,43,44,45,46,47,48,49,50,51,52,53,54,55] (λ i=>[(400000, .box [.aT ⟨(.int .i64),(AR t e i:Int)⟩]),(400001, .box [.aT ⟨(.int .i64),(AQ a e i:Int)⟩])]) [] [] (λ i=>λ _ => .none) else .none)) else .none)
abbrev B0(n:Nat)(e:J)(t:Int)(a:Int):Prop:=(∀ u1:Unit,(True ->
 ((∃ i2:Nat,(i2<=e.M.length/\((e=e/\(True/\(True/\((0:Int)=(i2:Int)/\True))))/\(((AR t e 0)=(AR t e i2)/\True)/\(((AQ a e 0)=(AQ a e i2)/\True)/\True)))))/\(∀ i2:Nat,(i2<=e.M.length ->
 (e.M.length<=140737488355328 ->
 (U ((e.M.length:Int)) ->
 (((decide ((i2:Int)<((e.M.length:Int))))=true ->
 (e.M.length<=140737488355328 ->
 (aC (i2:Int) e.M.length/\((cA (e.M.getD i2 zE)<n/\br 62 62 (e.M.getD i2 zE)=true/\(0<=(AR t e i2)/\(AR t e i2)<=1000)/\0<=(AQ a e i2)/\(AQ a e i2)<=1000)/\(U ((i2:Int)+(1:Int))/\(∃ i3:Nat,(i3<=e.M.length/\(e.M.length - i3<e.M.length - i2/\((e=e/\(True/\(True/\(((i2:Int)+(1:Int))=(i3:Int)/\True))))/\(((max (AR t e i2) (cT (e.M.getD i2 zE)).1)=(AR t e i3)/\True)/\(((max (AQ a e i2) (cT (e.M.getD i2 zE)).2)=(AQ a e i3)/\True)/\True)))))))))))/\((decide ((i2:Int)<((e.M.length:Int))))=false ->
 (True/\((AR t e i2)=(max t (cT e).1)/\((AQ a e i2)=(max a (cT e).2)/\True))))))))))))
def RQ(n:Nat)(e:J)(t:Int)(a:Int):ck (cg [jd] [] [] [] [] [] [] [oa n]) (az nA) (GD e t a) 0 (mH (cg [jd] [] [] [] [] [] [] [oa n]) nA [[.d (.int .i64)],[.d (.int .i64)]] λ r ds=>bB r []/\oN ds [[⟨(.int .i64),max t (cT e).1⟩],[⟨(.int .i64),max a (cT e).2⟩]]) (dk nA [.ref ⟨(.st .expr),e⟩, .box 0, .box 1] [[.d (.int .i64)],[.d (.int .i64)]] [[⟨(.int .i64),t⟩],[⟨(.int .i64),a⟩]]) =
 ((U e.au ->
 (((decide (e.au=(3:Int)))=true ->
 (U (e.aO+(1:Int))/\(U t ->
 (U e.aO ->
 (U (max t (e.aO+(1:Int))) ->
 ((U e.au ->
 (((decide (e.au=(4:Int)))=true ->
 (U (e.aO+(1:Int))/\(U a ->
 (U e.aO ->
 (U (max a (e.aO+(1:Int))) ->
 (∃ u1:Unit,(True/\((e=e/\(True/\(True/\True)))/\(((max t (e.aO+(1:Int)))=(AR t e 0)/\True)/\(((max a (e.aO+(1:Int)))=(AQ a e 0)/\True)/\True))))))))))/\((decide (e.au=(4:Int)))=false ->
 (∃ u1:Unit,(True/\((e=e/\(True/\(True/\True)))/\(((max t (e.aO+(1:Int)))=(AR t e 0)/\True)/\((a=(AQ a e 0)/\True)/\True))))))))/\(B0 n e t a)))))))/\((decide (e.au=(3:Int)))=false ->
 ((U e.au ->
 (((decide (e.au=(4:Int)))=true ->
 (U (e.aO+(1:Int))/\(U a ->
 (U e.aO ->
 (U (max a (e.aO+(1:Int))) ->
 (∃ u1:Unit,(True/\((e=e/\(True/\(True/\True)))/\((t=(AR t e 0)/\True)/\(((max a (e.aO+(1:Int)))=(AQ a e 0)/\True)/\True))))))))))/\((decide (e.au=(4:Int)))=false ->
 (∃ u1:Unit,(True/\((e=e/\(True/\(True/\True)))/\((t=(AR t e 0)/\True)/\((a=(AQ a e 0)/\True)/\True))))))))/\(B0 n e t a)))))):=by kernel_rfl
def Ri(n:Nat)(hE:aI [jd])(hO:dL [])(hM:ed [])(hS:dP [oa n]):jU.Good (oa (n+1)):=by
 refine⟨aA sP rfl (by decide),?_⟩;show ∀ (e:J) (t:Int) (a:Int),(cA e<n+1/\br 62 62 e=true/\(0<=t/\t<=1000)/\0<=a/\a<=1000)->vo prog vg [[.d (.int .i64)],[.d (.int .i64)]] [.ref ⟨(.st .expr),e⟩, .box 0, .box 1] [[⟨(.int .i64),t⟩],[⟨(.int .i64),a⟩]] [] [[⟨(.int .i64),max t (cT e).1⟩],[⟨(.int .i64),max a (cT e).2⟩]];intro e t a hp;refine jL (own:=[]) (wr:=[]) (cl:=[]) (ro:=[]) hE hO hM hS sP N3 (GD e t a) rfl rfl ?_;rewrite [RQ n e t a];obtain⟨hm,g0,g1,g2⟩:=hp;have f0:=λ i (h:i<e.M.length)=>cx zE e.M i h;have f1:=dX e;have f2:=b0e t a e;have f3:=pV g0;refine λ _=>⟨λ _=>⟨?_,λ _ _ _=>⟨λ _=>⟨λ _=>⟨?_,λ _ _ _=>⟨(),?_,⟨rfl,af,af,af⟩,⟨?_,af⟩,⟨?_,af⟩,af⟩⟩,λ _=>⟨(),?_,⟨rfl,af,af,af⟩,⟨?_,af⟩,⟨?_,af⟩,af⟩⟩,λ u1 _=>⟨⟨0,?_,⟨rfl,af,af,?_,af⟩,⟨?_,af⟩,⟨?_,af⟩,af⟩,λ i2 _ _ _=>⟨λ _ _=>⟨?_,?_,?_,i2+1,?_,?_,⟨rfl,af,af,?_,af⟩,⟨?_,af⟩,⟨?_,af⟩,af⟩,λ _=>⟨af,?_,?_,af⟩⟩⟩⟩⟩,λ _=>⟨λ _=>⟨λ _=>⟨?_,λ _ _ _=>⟨(),?_,⟨rfl,af,af,af⟩,⟨?_,af⟩,⟨?_,af⟩,af⟩⟩,λ _=>⟨(),?_,⟨rfl,af,af,af⟩,⟨?_,af⟩,⟨?_,af⟩,af⟩⟩,λ u1 _=>⟨⟨0,?_,⟨rfl,af,af,?_,af⟩,⟨?_,af⟩,⟨?_,af⟩,af⟩,λ i2 _ _ _=>⟨λ _ _=>⟨?_,?_,?_,i2+1,?_,?_,⟨rfl,af,af,?_,af⟩,⟨?_,af⟩,⟨?_,af⟩,af⟩,λ _=>⟨af,?_,?_,af⟩⟩⟩⟩⟩;all_goals try and_intros
 all_goals first|with_reducible rfl|with_reducible assumption|exact True.intro|(simp only[b0W,b0V,b0X,b0U] at *;done)|((try simp only[b1F,J.eta,b0N,b0M,b0X,b0U,b1i,b1B,aC,U,bF,b1l,b0Z,b1n,b1o,b1C] at *);first|exact True.intro|omega|exact wv g0 _ (by omega)|(have h1:=f0 i2 (by omega);omega)|(have h1:=b0g t a e i2 (by omega);omega)|(have h1:=b0f t a e i2 g0 (by omega) (by omega) (by omega);omega)|(have h1:=a8G t a e i2 g0 (by omega) (by omega);omega)|(rw[f2.1];simp only[*,b2D,b3I];omega)|(rw[f2.2];simp only[*,b2D,b3I];omega)|(have:=f3 (by omega);omega))
def Ub:∀ n,dP [oa n]
 | 0=>⟨⟨aA sP rfl (by decide),λ _ _ _ h=>absurd h.1 (b1H _)⟩,af⟩
 | n+1=>by
  have ih:=Ub n;exact⟨Ri n ⟨BG,af⟩ trivial trivial ⟨ih.1,af⟩,af⟩
def M5:jU.Good s6 :=
 ⟨aA sP rfl (by decide),λ e t a hp=>(Ub (cA e+1)).1.2 e t a (⟨b1D _,hp⟩)⟩
def py:aQ:=⟨xZ,[.r (.st .equation)],λ (q:aH)=>⟨(some (br 62 62 q.left=true/\br 62 62 q.right=true),[⟨(.int .i64),(bW [q.left,q.right]).1⟩,⟨(.int .i64),(bW [q.left,q.right]).2⟩])⟩⟩
def Gt(q:aH):Nat->aM:=λ _ => .none
def RE(q:aH):ck (cg [] [] [] [] [] [] [] [s6]) (az lU) (Gt q) 0 (bx (cg [] [] [] [] [] [] [] [s6]) lU λ r=>bB r [⟨(.int .i64),(bW [q.left,q.right]).1⟩,⟨(.int .i64),(bW [q.left,q.right]).2⟩]) (aL lU [.ref ⟨(.st .equation),q⟩]) =
 (((br 62 62 q.left=true/\(0<=(0:Int)/\(0:Int)<=1000)/\0<=(0:Int)/\(0:Int)<=1000)/\((br 62 62 q.right=true/\(0<=(max (0:Int) (cT q.left).1)/\(max (0:Int) (cT q.left).1)<=1000)/\0<=(max (0:Int) (cT q.left).2)/\(max (0:Int) (cT q.left).2)<=1000)/\(U (max (max (0:Int) (cT q.left).1) (cT q.right).1) ->
 (U (max (max (0:Int) (cT q.left).2) (cT q.right).2) ->
 ((max (max (0:Int) (cT q.left).1) (cT q.right).1)=((bW [q.left,q.right]).1)/\(max (max (0:Int) (cT q.left).2) (cT q.right).2)=((bW [q.left,q.right]).2))))))):=by kernel_rfl
def Q6(hE:aI [])(hO:dL [])(hM:ed [])(hS:dP [s6]):aQ.Good py:=by
 refine⟨aA Ds rfl (by decide),?_⟩;show ∀ (q:aH),(br 62 62 q.left=true/\br 62 62 q.right=true)->bC prog xZ [.ref ⟨(.st .equation),q⟩] (·=[⟨(.int .i64),(bW [q.left,q.right]).1⟩,⟨(.int .i64),(bW [q.left,q.right]).2⟩]);intro q hp;refine Ss (own:=[]) (wr:=[]) (cl:=[]) (ro:=[]) hE hO hM hS Ds LM (Gt q) ?_;rewrite [RE q];refine⟨?_,?_,λ _ _=>⟨?_,?_⟩⟩;all_goals try and_intros
 all_goals first|with_reducible rfl|with_reducible assumption|exact True.intro|(simp only[b0W,b0V,b0X,b0U] at *;done)|exact hp.1|exact hp.2|(have h1:=PH _ hp.1;have h2:=PH _ hp.2;(try simp only[bW]);omega)
def Mh:aQ.Good py:=Q6 trivial trivial trivial ⟨M5,af⟩
def pF:aQ:=⟨Az,[],⟨(none,[⟨(.st .expr),J.mk 2 0 []⟩])⟩⟩
def GB :Nat->aM:=λ _ => .none
def RO :ck (cg [] [] [] [] []) (az nx) (GB ) 0 (dN (cg [] [] [] [] []) nx λ r=>bB r [⟨(.st .expr),J.mk 2 0 []⟩]) (fE nx []) =
 ((J.mk (2:Int) (0:Int) [])=(J.mk 2 0 [])):=by kernel_rfl
def Rg(hE:aI [])(hO:dL [])(hM:ed [])(hS:dP []):aQ.df pF:=by
 refine⟨aA F5 rfl (by decide),?_⟩;show True->fH prog Az [] [⟨(.st .expr),J.mk 2 0 []⟩];intro  _;refine cV (own:=[]) (wr:=[]) (cl:=[]) (ro:=[]) hE hO hM hS F5 N0 (GB ) ?_;rewrite [RO ];refine ?_;all_goals try and_intros
 all_goals first|rfl|trivial|omega|(simp only[b0N,b0M,aC,U,cb,cM,ca,bF] at *;omega)|(simp[aC,U] at *;omega)|grind
def MH:aQ.df pF:=Rg trivial trivial trivial trivial
def nX(n:Nat):aQ:=⟨te,[.r (.st .expr)],λ (x:J)=>⟨(some (cA x<n/\aN x<=1048576),[⟨(.int .i64),(aN x:Int)⟩])⟩⟩
def sW:aQ:=⟨te,[.r (.st .expr)],λ (x:J)=>⟨(some (aN x<=1048576),[⟨(.int .i64),(aN x:Int)⟩])⟩⟩
def Gr(x:J):Nat->aM:=(λ zb=>if Nat.beq zb 0 then .mk (Nat) (λ k=>k<=x.M.length) (λ k=>x.M.length - k) [] [1] (λ k=>[(4, .aT ⟨(.int .i64),((k:Int):Int)⟩),(3, .aT ⟨(.int .i64),((1+aj aN (x.M.take k):Int):Int)⟩)]) [0,2,3,4,5,6,7,8,9,10,11,12,13,14,15,16,17,18,19,20,21,22,23] (λ k=>[]) [] [] (λ k=>λ _ => .none) else .none)
def RC(n:Nat)(x:J):ck (aZ [nX n]) (az lS) (Gr x) 0 (bx (aZ [nX n]) lS λ r=>bB r [⟨(.int .i64),(aN x:Int)⟩]) (aL lS [.ref ⟨(.st .expr),x⟩]) =
 (((∃ k1:Nat,(k1<=x.M.length/\((x=x/\((0:Int)=(0:Int)/\((1:Int)=(1+aj aN (x.M.take k1):Int)/\((0:Int)=(k1:Int)/\True))))/\True)))/\(∀ k1:Nat,(k1<=x.M.length ->
 (x.M.length<=140737488355328 ->
 (U ((x.M.length:Int)) ->
 (((decide ((k1:Int)<((x.M.length:Int))))=true ->
 (x.M.length<=140737488355328 ->
 (aC (k1:Int) x.M.length/\((cA (x.M.getD k1 zE)<n/\aN (x.M.getD k1 zE)<=1048576)/\(U ((aN (x.M.getD k1 zE):Int)) ->
 (U ((1+aj aN (x.M.take k1):Int)+((aN (x.M.getD k1 zE):Int)))/\(U ((k1:Int)+(1:Int))/\(∃ k2:Nat,(k2<=x.M.length/\(x.M.length - k2<x.M.length - k1/\((x=x/\((0:Int)=(0:Int)/\(((1+aj aN (x.M.take k1):Int)+((aN (x.M.getD k1 zE):Int)))=(1+aj aN (x.M.take k2):Int)/\(((k1:Int)+(1:Int))=(k2:Int)/\True))))/\True)))))))))))/\((decide ((k1:Int)<((x.M.length:Int))))=false ->
 (1+aj aN (x.M.take k1):Int)=(aN x:Int))))))))):=by kernel_rfl
def Q4(n:Nat)(hE:aI [nX n]):aQ.Good (nX (n+1)):=by
 refine⟨aA rh rfl (by decide),?_⟩;show ∀ (x:J),(cA x<n+1/\aN x<=1048576)->bC prog te [.ref ⟨(.st .expr),x⟩] (·=[⟨(.int .i64),(aN x:Int)⟩]);intro x hp;refine bg (wr:=[]) (cl:=[]) (ro:=[]) hE rh LK (Gr x) ?_;rewrite [RC n x];rw[AE x] at hp;have f0:=dX x;have f1:=pT aN x.M;refine⟨⟨0,?_,⟨rfl,rfl,?_,?_,af⟩,af⟩,λ k1 _=>have KO:=jB aN zE x.M k1;have yj:=cJ aN x.M k1;have Dy:=cJ aN x.M (k1+1);have NK:=ou aN x.M k1;have Xk:=cx zE x.M k1;λ _ _=>⟨λ _ _=>⟨?_,?_,λ _=>⟨?_,?_,k1+1,?_,?_,⟨rfl,rfl,?_,?_,af⟩,af⟩⟩,λ _=>?_⟩⟩;all_goals try and_intros
 all_goals try rw[AE x]
 all_goals first|rfl|trivial|omega|(simp only[b0N,b0M,aC,U,cb,cM,ca,bF] at *;omega)|(simp[aC,U] at *;omega)|grind
def T7 :∀ n,aI [nX n]
 | 0=>⟨⟨aA rh rfl (by decide),λ _ h=>absurd h.1 (b1H _)⟩,af⟩
 | n+1=>by
  have ih:=T7  n;exact⟨Q4 n ⟨ih.1,af⟩,af⟩
def Mf :aQ.Good sW :=
 ⟨aA rh rfl (by decide),λ x hp=>(T7  (cA x+1)).1.2 x (⟨b1D _,hp⟩)⟩
end
end Go.Proofs.YtmjfpcajohhbeaaGreatDoor

set_option maxRecDepth 4000
set_option maxHeartbeats 4000000
namespace Go.Proofs.YtmjfpcajohhbeaaGreatDoor
noncomputable section
def TU(ts as_:List J)(x:J)(l:Int):fg ts as_ x l=if l - 1<0 then (J.mk (0:Int) (0:Int) [],l - 1) else
   if x.au=3\/x.au=4 then ((if x.au=4 then as_ else ts).getD x.aO.toNat zE,l - 1 - ((aN ((if x.au=4 then as_ else ts).getD x.aO.toNat zE):Int) - 1)) else
   (J.mk x.au x.aO (dR ts as_ x.M (l - 1)).1,(dR ts as_ x.M (l - 1)).2):=by
 cases x with
 | mk k n ks=>rw[fg]
def a2W{ts as_:List J}{x:J}{l:Int}(h:l - 1<0):(fg ts as_ x l).1=J.mk (0:Int) (0:Int) []/\(fg ts as_ x l).2=l - 1:=by rw[TU,b1q h];exact⟨rfl,rfl⟩
def a2T{ts as_:List J}{x:J}{l:Int}(h:¬ l - 1<0)(h3:x.au=3):(fg ts as_ x l).1=ts.getD x.aO.toNat zE/\(fg ts as_ x l).2=l - 1 - ((aN (ts.getD x.aO.toNat zE):Int) - 1):=by
 rw[TU,b0Y h,b1q (.inl h3),b0Y (by omega)];exact⟨rfl,rfl⟩
def a2U{ts as_:List J}{x:J}{l:Int}(h:¬ l - 1<0)(h4:x.au=4):(fg ts as_ x l).1=as_.getD x.aO.toNat zE/\(fg ts as_ x l).2=l - 1 - ((aN (as_.getD x.aO.toNat zE):Int) - 1):=by
 rw[TU,b0Y h,b1q (.inr h4),b1q h4];exact⟨rfl,rfl⟩
def a2V{ts as_:List J}{x:J}{l:Int}(h:¬ l - 1<0)(h3:¬ x.au=3)(h4:¬ x.au=4)(i:Nat)(hi:x.M.length<=i):(fg ts as_ x l).1=J.mk x.au x.aO (dR ts as_ (x.M.take i) (l - 1)).1/\(fg ts as_ x l).2=(dR ts as_ (x.M.take i) (l - 1)).2:=by
 rw[TU,b0Y h,b0Y (by omega),b1v hi];exact⟨rfl,rfl⟩
def X6(ts as_:List J):∀ (xs:List J) (y:J) (l:Int),dR ts as_ (xs++[y]) l=((dR ts as_ xs l).1++[(fg ts as_ y (dR ts as_ xs l).2).1],(fg ts as_ y (dR ts as_ xs l).2).2)
 | [],y,l=>by rw[b1F,dR,dR];rfl
 | x::xs,y,l=>by rw[b1Z,dR,X6 ts as_ xs y,dR];rfl
def JC(ts as_:List J)(x:J)(i:Nat)(l:Int)(hi:i<x.M.length):(dR ts as_ (x.M.take (i+1)) l).1=(dR ts as_ (x.M.take i) l).1++[(fg ts as_ (x.M.getD i zE) (dR ts as_ (x.M.take i) l).2).1] /\
  (dR ts as_ (x.M.take (i+1)) l).2=(fg ts as_ (x.M.getD i zE) (dR ts as_ (x.M.take i) l).2).2:=by
 rw[fM zE x.M i hi,X6];exact⟨rfl,rfl⟩
mutual
def a6K(ts as_:List J):∀ (x:J) (l:Int),l - (aN (dC ts as_ x):Int)<=(fg ts as_ x l).2
 | ⟨k,n,ks⟩,l=>by
  have hp:=Ci (dC ts as_ ⟨k,n,ks⟩);rw[dC] at hp ⊢;rw[fg];by_cases h0:l - 1<0
  .rw[if_pos h0];dsimp only;omega
  .rw[b0Y h0];by_cases h3:k=3
   .subst h3;rw[if_pos (Or.inl rfl:(3:Int)=3\/(3:Int)=4),if_pos rfl,if_neg (show ¬ (3:Int)=4 by decide)];dsimp only;omega
   .by_cases h4:k=4
    .subst h4;rw[if_pos (Or.inr rfl:(4:Int)=3\/(4:Int)=4),if_neg h3,if_pos rfl,if_pos rfl];dsimp only;omega
    .rw[if_neg h3,if_neg h4,if_neg (show ¬ (k=3\/k=4) by omega),aN];have:=Pr ts as_ ks (l - 1);dsimp only;omega
def Pr(ts as_:List J):∀ (xs:List J) (l:Int),l - (dG (oF ts as_ xs):Int)<=(dR ts as_ xs l).2
 | [],l=>by rw[dR,oF,dG];dsimp only;omega
 | x::xs,l=>by
  rw[dR,oF,dG];have h1:=a6K ts as_ x l;have h2:=Pr ts as_ xs (fg ts as_ x l).2;dsimp only;omega
end
def L0(ts as_:List J):∀ (xs:List J) (i:Nat),i<xs.length->dG (oF ts as_ (xs.take i))+aN (dC ts as_ (xs.getD i zE))<=dG (oF ts as_ xs)
 | [],i,h=>by simp at h
 | x::xs,0,h=>by
  rw[b1V,oF,dG,oF,dG];show 0+aN (dC ts as_ x)<=_;omega
 | x::xs,i+1,h=>by
  have:=L0 ts as_ xs i (by simpa using h);rw[List.take_succ_cons,oF,dG,oF,dG];show _+aN (dC ts as_ (xs.getD i zE))<=_;omega
def XC(ts as_:List J)(x:J)(h3:¬ x.au=3)(h4:¬ x.au=4):aN (dC ts as_ x)=1+dG (oF ts as_ x.M):=by
 cases x with
 | mk k n ks=>rw[dC,b0Y h3,b0Y h4,aN]
def a6J{ts as_:List J}{x:J}{l:Int}(h3:¬ x.au=3)(h4:¬ x.au=4)(i:Nat)(hi:i<x.M.length)(h:(aN (dC ts as_ x):Int)<=1000000+l)(hl:l<=1000):(aN (dC ts as_ (x.M.getD i zE)):Int)<=1000000+(dR ts as_ (x.M.take i) (l - 1)).2/\(dR ts as_ (x.M.take i) (l - 1)).2<=1000:=by
 have h1:=L0 ts as_ x.M i hi;have h2:=Pr ts as_ (x.M.take i) (l - 1);have h5:=(JB ts as_ (x.M.take i) (l - 1)).1;rw[XC ts as_ x h3 h4] at h;omega
def a8t{ts as_:List J}{x:J}{l:Int}(h3:¬ x.au=3)(h4:¬ x.au=4)(i:Nat)(h:(aN (dC ts as_ x):Int)<=1000000+l)(hl:l<=1000) : -1000000<=(dR ts as_ (x.M.take i) (l - 1)).2/\(dR ts as_ (x.M.take i) (l - 1)).2<=1000:=by
 have h2:=Pr ts as_ (x.M.take i) (l - 1);have h5:=(JB ts as_ (x.M.take i) (l - 1)).1;have h6:dG (oF ts as_ (x.M.take i))<=dG (oF ts as_ x.M):=by
  rcases b1R i x.M.length with g|g
  .have:=L0 ts as_ x.M i g;omega
  .rw[b1v g];exact b1E _
 rw[XC ts as_ x h3 h4] at h;omega
structure EH(ts as_:List J):Prop where
 t:∀ y∈ts,aN y<=1000
 a:∀ y∈as_,aN y<=1000
def EH.gt{ts as_:List J}(h:EH ts as_){n:Int}(h0:0<=n)(h1:n<(ts.length:Int)):aN (ts.getD n.toNat zE)<=1000/\aw (ts.getD n.toNat zE)<=1048576:=by
 have:=h.t (ts.getD n.toNat zE) (by
  rw[b1f,b1p (by omega)];exact b2d _)
 have:=JE (ts.getD n.toNat zE);omega
def EH.ga{ts as_:List J}(h:EH ts as_){n:Int}(h0:0<=n)(h1:n<(as_.length:Int)):aN (as_.getD n.toNat zE)<=1000/\aw (as_.getD n.toNat zE)<=1048576:=by
 have:=h.a (as_.getD n.toNat zE) (by
  rw[b1f,b1p (by omega)];exact b2d _)
 have:=JE (as_.getD n.toNat zE);omega
def a0C(ts as_:List J):∀ (xs:List J) (l:Int),(dR ts as_ xs l).1.length=xs.length
 | [],l=>by rw[dR]
 | x::xs,l=>by rw[dR,b0Z,b0Z,a0C ts as_ xs]
def a8v(ts as_:List J)(x:J)(l:Int):(dR ts as_ (x.M.take 0) l).1=[]/\(dR ts as_ (x.M.take 0) l).2=l:=by rw[b1V,dR];exact⟨rfl,rfl⟩
def n9(n:Nat):jU:=⟨qQ,[[.d (.int .i64)]],[.r (.st .expr), .v (.slice (.st .expr)), .v (.slice (.st .expr)), .b 0],[[(.int .i64)]],λ (e:J) (ts:List J) (as_:List J) (l:Int)=>⟨(some (cA e<n/\jE ts as_ e/\br 62 62 e=true/\EH ts as_/\(aN (dC ts as_ e):Int)<=1000000+l/\l<=1000),[⟨(.st .expr),(fg ts as_ e l).1⟩],[[⟨(.int .i64),(fg ts as_ e l).2⟩]])⟩⟩
def S4:jU:=⟨qQ,[[.d (.int .i64)]],[.r (.st .expr), .v (.slice (.st .expr)), .v (.slice (.st .expr)), .b 0],[[(.int .i64)]],λ (e:J) (ts:List J) (as_:List J) (l:Int)=>⟨(some (jE ts as_ e/\br 62 62 e=true/\EH ts as_/\(aN (dC ts as_ e):Int)<=1000000+l/\l<=1000),[⟨(.st .expr),(fg ts as_ e l).1⟩],[[⟨(.int .i64),(fg ts as_ e l).2⟩]])⟩⟩
def GC(e:J)(ts:List J)(as_:List J)(l:Int):Nat->aM:=(λ zb=>if Nat.beq zb 0 then .mk (Nat) (λ i=>i<=e.M.length/\¬ e.au=3/\¬ e.au=4/\¬ l - 1<0) (λ i=>e.M.length - i) [] [4,5,6,7,9,12,13,14,15,16,17,18,19,20,21,22,23,24,25,26,27,28,29,30,31,32,33,34,35,36,37,38,39,40,41,42,43,44,45,46,47,48,49,50,51,52,53,54,55,56,57,58,59,60,61,62,63,64,65,66,67,68,69,70,71,72,73,74,75,76,77] (λ i=>[(11, .aT ⟨(.int .i64),((i:Int):Int)⟩)]) [0,1,2,3,8,11,78,79,80,81,82,83,84,85,86,87,88,89,90,91,92,93,94,95,96,97,98,99,100,101,102] (λ i=>[(10, .box [.aT ⟨(.int .i64),(e.au:Int)⟩, .aT ⟨(.int .i64),(e.aO:Int)⟩, .aD 10100]),(10100, .aD (.st .expr) ((dR ts as_ (e.M.take i) (l - 1)).1:List J)),(400000, .box [.aT ⟨(.int .i64),((dR ts as_ (e.M.take i) (l - 1)).2:Int)⟩])]) [] [] (λ i=>λ _ => .none) else .none)
abbrev BY(e:J)(ts:List J)(as_:List J)(l:Int):Prop:=(U e.aO ->
 (U ((as_.length:Int)) ->
 (((decide (((as_.length:Int))<=e.aO))=true ->
 ((ag (J.mk 2 0 []))=((fg ts as_ e l).1)/\((l - (1:Int))=((fg ts as_ e l).2)/\True)))/\((decide (((as_.length:Int))<=e.aO))=false ->
 (aC e.aO as_.length/\(aN (as_.getD (Int.toNat e.aO) zE)<=1048576/\(U (((aN (as_.getD (Int.toNat e.aO) zE):Int)) - (1:Int))/\(U (l - (1:Int)) ->
 (U e.aO ->
 (U ((aN (as_.getD (Int.toNat e.aO) zE):Int)) ->
 (U ((l - (1:Int)) - (((aN (as_.getD (Int.toNat e.aO) zE):Int)) - (1:Int)))/\(U e.aO ->
 (aC e.aO as_.length/\(aw (as_.getD (Int.toNat e.aO) zE)<=1048576/\((ag (as_.getD (Int.toNat e.aO) zE))=((fg ts as_ e l).1)/\(((l - (1:Int)) - (((aN (as_.getD (Int.toNat e.aO) zE):Int)) - (1:Int)))=((fg ts as_ e l).2)/\True))))))))))))))))
abbrev qj(n:Nat)(e:J)(ts:List J)(as_:List J)(l:Int):Prop:=(U e.au ->
 (U e.aO ->
 ((∃ i1:Nat,((i1<=e.M.length/\¬ e.au=3/\¬ e.au=4/\¬ l - 1<0)/\((e=e/\(ts=ts/\(as_=as_/\(True/\(True/\(True/\((0:Int)=(i1:Int)/\True)))))))/\((e.au=e.au/\(e.aO=e.aO/\(True/\True)))/\(((dR ts as_ (e.M.take i1) (l - 1)).1)=[]/\(((l - (1:Int))=((dR ts as_ (e.M.take i1) (l - 1)).2)/\True)/\(((0:Int)=(0:Int)/\((0:Int)=(0:Int)/\(True/\True)))/\True)))))))/\(∀ i1:Nat,((i1<=e.M.length/\¬ e.au=3/\¬ e.au=4/\¬ l - 1<0) ->
 (e.M.length<=140737488355328 ->
 (U ((e.M.length:Int)) ->
 (((decide ((i1:Int)<((e.M.length:Int))))=true ->
 (e.M.length<=140737488355328 ->
 (U (i1:Int) ->
 (aC (i1:Int) e.M.length/\(ts.length<=140737488355328 ->
 (as_.length<=140737488355328 ->
 (((10:Nat)=10/\(2:Nat)=2)/\((10100:Nat)=10100/\(e=e/\(e=e/\(e.M=e.M/\(e.M=e.M/\((i1:Int)=(i1:Int)/\(aC (i1:Int) e.M.length/\((e.M.getD i1 zE)=(e.M.getD i1 zE)/\(ts=ts/\(as_=as_/\(((400000:Nat)=400000/\(0:Nat)=0)/\((cA (e.M.getD i1 zE)<n/\jE ts as_ (e.M.getD i1 zE)/\br 62 62 (e.M.getD i1 zE)=true/\EH ts as_/\(aN (dC ts as_ (e.M.getD i1 zE)):Int)<=1000000+((dR ts as_ (e.M.take i1) (l - 1)).2)/\((dR ts as_ (e.M.take i1) (l - 1)).2)<=1000)/\(((10:Nat)=10/\(2:Nat)=2)/\((10100:Nat)=10100/\(((10:Nat)=10/\(2:Nat)=2)/\((10100:Nat)=10100/\(bF (((dR ts as_ (e.M.take i1) (l - 1)).1).length+([(ag ((fg ts as_ (e.M.getD i1 zE) ((dR ts as_ (e.M.take i1) (l - 1)).2)).1))]).length) 40/\(U ((i1:Int)+(1:Int))/\(∃ i2:Nat,((i2<=e.M.length/\¬ e.au=3/\¬ e.au=4/\¬ l - 1<0)/\(e.M.length - i2<e.M.length - i1/\((e=e/\(ts=ts/\(as_=as_/\(True/\(True/\(True/\(((i1:Int)+(1:Int))=(i2:Int)/\True)))))))/\((e.au=e.au/\(e.aO=e.aO/\(True/\True)))/\((((dR ts as_ (e.M.take i1) (l - 1)).1)++([(ag ((fg ts as_ (e.M.getD i1 zE) ((dR ts as_ (e.M.take i1) (l - 1)).2)).1))]))=((dR ts as_ (e.M.take i2) (l - 1)).1)/\((((fg ts as_ (e.M.getD i1 zE) ((dR ts as_ (e.M.take i1) (l - 1)).2)).2)=((dR ts as_ (e.M.take i2) (l - 1)).2)/\True)/\(((0:Int)=(0:Int)/\((0:Int)=(0:Int)/\(True/\True)))/\True)))))))))))))))))))))))))))))))))/\((decide ((i1:Int)<((e.M.length:Int))))=false ->
 ((J.mk e.au e.aO ((dR ts as_ (e.M.take i1) (l - 1)).1))=((fg ts as_ e l).1)/\(((dR ts as_ (e.M.take i1) (l - 1)).2)=((fg ts as_ e l).2)/\True)))))))))))
abbrev BZ(e:J)(ts:List J)(as_:List J)(l:Int):Prop:=(U e.aO ->
 (U ((ts.length:Int)) ->
 (((decide (((ts.length:Int))<=e.aO))=true ->
 ((ag (J.mk 2 0 []))=((fg ts as_ e l).1)/\((l - (1:Int))=((fg ts as_ e l).2)/\True)))/\((decide (((ts.length:Int))<=e.aO))=false ->
 (aC e.aO ts.length/\(aN (ts.getD (Int.toNat e.aO) zE)<=1048576/\(U (((aN (ts.getD (Int.toNat e.aO) zE):Int)) - (1:Int))/\(U (l - (1:Int)) ->
 (U e.aO ->
 (U ((aN (ts.getD (Int.toNat e.aO) zE):Int)) ->
 (U ((l - (1:Int)) - (((aN (ts.getD (Int.toNat e.aO) zE):Int)) - (1:Int)))/\(U e.aO ->
 (aC e.aO ts.length/\(aw (ts.getD (Int.toNat e.aO) zE)<=1048576/\((ag (ts.getD (Int.toNat e.aO) zE))=((fg ts as_ e l).1)/\(((l - (1:Int)) - (((aN (ts.getD (Int.toNat e.aO) zE):Int)) - (1:Int)))=((fg ts as_ e l).2)/\True))))))))))))))))
def RP(n:Nat)(e:J)(ts:List J)(as_:List J)(l:Int):ck (cg [sW] [s5,pF] [] [48,68,98,99,100] [] [] [] [n9 n]) (az nz) (GC e ts as_ l) 0 (mH (cg [sW] [s5,pF] [] [48,68,98,99,100] [] [] [] [n9 n]) nz [[.d (.int .i64)]] λ r ds=>bB r [⟨(.st .expr),(fg ts as_ e l).1⟩]/\oN ds [[⟨(.int .i64),(fg ts as_ e l).2⟩]]) (dk nz [.ref ⟨(.st .expr),e⟩, .val ⟨(.slice (.st .expr)),ts⟩, .val ⟨(.slice (.st .expr)),as_⟩, .box 0] [[.d (.int .i64)]] [[⟨(.int .i64),l⟩]]) =
 ((U l ->
 (U (l - (1:Int))/\(U (l - (1:Int)) ->
 (((decide ((l - (1:Int))<(0:Int)))=true ->
 (zE=((fg ts as_ e l).1)/\((l - (1:Int))=((fg ts as_ e l).2)/\True)))/\((decide ((l - (1:Int))<(0:Int)))=false ->
 (U e.au ->
 (((decide (e.au=(4:Int)))=true ->
 (U e.au ->
 (((decide (e.au=(3:Int)))=false ->
 (U e.au ->
 (((decide (e.au=(4:Int)))=true ->
 (BY e ts as_ l))/\((decide (e.au=(4:Int)))=false ->
 (qj n e ts as_ l)))))/\((decide (e.au=(3:Int)))=(!false) ->
 ((true=true ->
 (BY e ts as_ l))/\(true=false ->
 (qj n e ts as_ l)))))))/\((decide (e.au=(4:Int)))=false ->
 (U e.au ->
 (((decide (e.au=(3:Int)))=false ->
 (U e.au ->
 (((decide (e.au=(4:Int)))=true ->
 (BZ e ts as_ l))/\((decide (e.au=(4:Int)))=false ->
 (qj n e ts as_ l)))))/\((decide (e.au=(3:Int)))=(!false) ->
 ((true=true ->
 (BZ e ts as_ l))/\(true=false ->
 (qj n e ts as_ l))))))))))))))):=by kernel_rfl
def Rh(n:Nat)(hE:aI [sW])(hO:dL [s5,pF])(hM:ed [])(hS:dP [n9 n]):jU.Good (n9 (n+1)):=by
 refine⟨aA sO rfl (by decide),?_⟩;show ∀ (e:J) (ts:List J) (as_:List J) (l:Int),(cA e<n+1/\jE ts as_ e/\br 62 62 e=true/\EH ts as_/\(aN (dC ts as_ e):Int)<=1000000+l/\l<=1000)->vo prog qQ [[.d (.int .i64)]] [.ref ⟨(.st .expr),e⟩, .val ⟨(.slice (.st .expr)),ts⟩, .val ⟨(.slice (.st .expr)),as_⟩, .box 0] [[⟨(.int .i64),l⟩]] [⟨(.st .expr),(fg ts as_ e l).1⟩] [[⟨(.int .i64),(fg ts as_ e l).2⟩]];intro e ts as_ l hp;refine jL (own:=[48,68,98,99,100]) (wr:=[]) (cl:=[]) (ro:=[]) hE hO hM hS sO N2 (GC e ts as_ l) rfl rfl ?_;rewrite [RP n e ts as_ l];obtain⟨hm,g0,g1,g2,g3,g4⟩:=hp;have f0:=λ i (h:i<e.M.length)=>cx zE e.M i h;have f1:=dX e;have f3:=a8v ts as_ e (l - 1);have f4:=Ci (dC ts as_ e);have f5:=Wp g1;refine λ _=>⟨?_,λ _=>⟨λ _=>⟨?_,?_,af⟩,λ _ _=>⟨λ _ _=>⟨λ _ _=>⟨λ _ _ _=>⟨λ _=>⟨?_,?_,af⟩,λ _=>⟨?_,?_,?_,λ _ _ _=>⟨?_,λ _=>⟨?_,?_,?_,?_,af⟩⟩⟩⟩,λ _ _ _=>⟨⟨0,?_,⟨rfl,rfl,rfl,af,af,af,?_,af⟩,⟨rfl,rfl,af,af⟩,?_,⟨?_,af⟩,⟨rfl,rfl,af,af⟩,af⟩,λ i1 _ _ _=>⟨λ _ _ _=>⟨?_,λ _ _=>⟨⟨?_,?_⟩,?_,rfl,rfl,rfl,rfl,rfl,?_,rfl,rfl,rfl,⟨?_,?_⟩,?_,⟨?_,?_⟩,?_,⟨?_,?_⟩,?_,?_,?_,i1+1,?_,?_,⟨rfl,rfl,rfl,af,af,af,?_,af⟩,⟨rfl,rfl,af,af⟩,?_,⟨?_,af⟩,⟨rfl,rfl,af,af⟩,af⟩⟩,λ _=>⟨?_,?_,af⟩⟩⟩⟩,λ _=>⟨λ _ _ _=>⟨λ _=>⟨?_,?_,af⟩,λ _=>⟨?_,?_,?_,λ _ _ _=>⟨?_,λ _=>⟨?_,?_,?_,?_,af⟩⟩⟩⟩,λ _ _ _=>⟨⟨0,?_,⟨rfl,rfl,rfl,af,af,af,?_,af⟩,⟨rfl,rfl,af,af⟩,?_,⟨?_,af⟩,⟨rfl,rfl,af,af⟩,af⟩,λ i1 _ _ _=>⟨λ _ _ _=>⟨?_,λ _ _=>⟨⟨?_,?_⟩,?_,rfl,rfl,rfl,rfl,rfl,?_,rfl,rfl,rfl,⟨?_,?_⟩,?_,⟨?_,?_⟩,?_,⟨?_,?_⟩,?_,?_,?_,i1+1,?_,?_,⟨rfl,rfl,rfl,af,af,af,?_,af⟩,⟨rfl,rfl,af,af⟩,?_,⟨?_,af⟩,⟨rfl,rfl,af,af⟩,af⟩⟩,λ _=>⟨?_,?_,af⟩⟩⟩⟩⟩,λ _ _=>⟨λ _ _=>⟨λ _ _ _=>⟨λ _=>⟨?_,?_,af⟩,λ _=>⟨?_,?_,?_,λ _ _ _=>⟨?_,λ _=>⟨?_,?_,?_,?_,af⟩⟩⟩⟩,λ _ _ _=>⟨⟨0,?_,⟨rfl,rfl,rfl,af,af,af,?_,af⟩,⟨rfl,rfl,af,af⟩,?_,⟨?_,af⟩,⟨rfl,rfl,af,af⟩,af⟩,λ i1 _ _ _=>⟨λ _ _ _=>⟨?_,λ _ _=>⟨⟨?_,?_⟩,?_,rfl,rfl,rfl,rfl,rfl,?_,rfl,rfl,rfl,⟨?_,?_⟩,?_,⟨?_,?_⟩,?_,⟨?_,?_⟩,?_,?_,?_,i1+1,?_,?_,⟨rfl,rfl,rfl,af,af,af,?_,af⟩,⟨rfl,rfl,af,af⟩,?_,⟨?_,af⟩,⟨rfl,rfl,af,af⟩,af⟩⟩,λ _=>⟨?_,?_,af⟩⟩⟩⟩,λ _=>⟨λ _ _ _=>⟨λ _=>⟨?_,?_,af⟩,λ _=>⟨?_,?_,?_,λ _ _ _=>⟨?_,λ _=>⟨?_,?_,?_,?_,af⟩⟩⟩⟩,λ _ _ _=>⟨⟨0,?_,⟨rfl,rfl,rfl,af,af,af,?_,af⟩,⟨rfl,rfl,af,af⟩,?_,⟨?_,af⟩,⟨rfl,rfl,af,af⟩,af⟩,λ i1 _ _ _=>⟨λ _ _ _=>⟨?_,λ _ _=>⟨⟨?_,?_⟩,?_,rfl,rfl,rfl,rfl,rfl,?_,rfl,rfl,rfl,⟨?_,?_⟩,?_,⟨?_,?_⟩,?_,⟨?_,?_⟩,?_,?_,?_,i1+1,?_,?_,⟨rfl,rfl,rfl,af,af,af,?_,af⟩,⟨rfl,rfl,af,af⟩,?_,⟨?_,af⟩,⟨rfl,rfl,af,af⟩,af⟩⟩,λ _=>⟨?_,?_,af⟩⟩⟩⟩⟩⟩⟩⟩;all_goals try and_intros
 all_goals try (first|with_reducible rfl|with_reducible assumption)
 all_goals try simp only[J.eta,ae.eta,aH.eta,aU,bM,ct] at *
 all_goals first|with_reducible rfl|with_reducible assumption|exact True.intro|(simp only[b0W,b0V,b0X,b0U] at *;done)|((try simp only[b1F,J.eta,b0N,b0M,b0X,b0U,b1i,b1B,aC,U,bF,b1l,b0Z,b1n,b1o,b1C] at *);first|exact True.intro|omega|(have h1:=a0C ts as_ (e.M.take i1) (l - 1);have h2:=b1C (l:=e.M) (i:=i1);omega)|exact f3.1|exact (f3.1).symm|exact f3.2|exact (f3.2).symm|exact (a2W (by omega)).1|exact ((a2W (by omega)).1).symm|exact (a2W (by omega)).2|exact ((a2W (by omega)).2).symm|exact (a2T (by omega) (by omega)).1|exact ((a2T (by omega) (by omega)).1).symm|exact (a2T (by omega) (by omega)).2|exact ((a2T (by omega) (by omega)).2).symm|exact (a2U (by omega) (by omega)).1|exact ((a2U (by omega) (by omega)).1).symm|exact (a2U (by omega) (by omega)).2|exact ((a2U (by omega) (by omega)).2).symm|exact (a2V (by omega) (by omega) (by omega) i1 (by omega)).1|exact ((a2V (by omega) (by omega) (by omega) i1 (by omega)).1).symm|exact (a2V (by omega) (by omega) (by omega) i1 (by omega)).2|exact ((a2V (by omega) (by omega) (by omega) i1 (by omega)).2).symm|exact (JC _ _ _ _ _ (by omega)).1|exact ((JC _ _ _ _ _ (by omega)).1).symm|exact (JC _ _ _ _ _ (by omega)).2|exact ((JC _ _ _ _ _ (by omega)).2).symm|exact wv g1 _ (by omega)|(have h1:=f0 i1 (by omega);omega)|exact Xz g0 (by omega) (by omega) i1 (by omega)|(have h1:=a6J (ts:=ts) (as_:=as_) (l:=l) (by omega) (by omega) i1 (by omega) g3 g4;omega)|(have h1:=a8t (ts:=ts) (as_:=as_) (l:=l) (by omega) (by omega) i1 g3 g4;omega)|(have h1:=pV g1 (.inl (by omega));have h2:=a2A g0 (by omega);have h3:=g2.gt h1.1 h2;omega)|(have h1:=pV g1 (.inr (by omega));have h2:=a2z g0 (by omega);have h3:=g2.ga h1.1 h2;omega))
def Ua:∀ n,dP [n9 n]
 | 0=>⟨⟨aA sO rfl (by decide),λ _ _ _ _ h=>absurd h.1 (b1H _)⟩,af⟩
 | n+1=>by
  have ih:=Ua n;exact⟨Rh n ⟨Mf,af⟩ ⟨AG,MH,af⟩ trivial ⟨ih.1,af⟩,af⟩
def M4:jU.Good S4 :=
 ⟨aA sO rfl (by decide),λ e ts as_ l hp=>(Ua (cA e+1)).1.2 e ts as_ l (⟨b1D _,hp⟩)⟩
def EH.of{gg:aX}{ts as_:List J}(h:bE (cC gg) ts=true)(h2:bE (cC gg) as_=true):EH ts as_ :=
 ⟨λ y hy=>by have:=(zV gg y).1 (y8 _ _ h y hy);omega,λ y hy=>by have:=(zV gg y).1 (y8 _ _ h2 y hy);omega⟩
def EH.zt{ts as_:List J}(h:EH ts as_)(n:Nat):aN (ts.getD n zE)<=1000:=by
 rcases b1R n ts.length with g|g
 .have:=(h.gt (n:=(n:Int)) (by omega) (by omega)).1;simpa using this
 .rw[b1f,b2X g];exact b1r rfl
def EH.za{ts as_:List J}(h:EH ts as_)(n:Nat):aN (as_.getD n zE)<=1000:=by
 rcases b1R n as_.length with g|g
 .have:=(h.ga (n:=(n:Int)) (by omega) (by omega)).1;simpa using this
 .rw[b1f,b2X g];exact b1r rfl
mutual
def Z2{ts as_:List J}(h:EH ts as_):∀ x:J,aN (dC ts as_ x)<=1000 * aN x
 | ⟨k,n,ks⟩=>by
  have hx:=Ci (J.mk k n ks);rw[dC];split
  .have:=h.zt n.toNat;omega
  .split
   .have:=h.za n.toNat;omega
   .have:=XF h ks;rw[aN,aN];omega
def XF{ts as_:List J}(h:EH ts as_):∀ xs:List J,dG (oF ts as_ xs)<=1000 * dG xs
 | []=>by rw[oF];simp[dG]
 | x::xs=>by
  have h1:=Z2 h x;have h2:=XF h xs;rw[oF,dG,dG];omega
end
def EA(e:J)(ts as_:List J):J:=(fg ts as_ e 200).1
def b0b{gg:aX}{e:J}{ts as_:List J}(b:Bool)(h:0<=(fg ts as_ e 200).2)(h2:oz gg (fg ts as_ e 200).1=b)(hg:bS gg=true):cC gg (dC ts as_ e)=b:=by
 rw[Ck hg] at h2;rw[<-(TW gg ts as_ e).1,b1A h,h2];rfl
def b0a{gg:aX}{e:J}{ts as_:List J}(h:¬ 0<=(fg ts as_ e 200).2):cC gg (dC ts as_ e)=false:=by
 rw[<-(TW gg ts as_ e).1,b1a h];rfl
def TY{gg:aX}{e:J}{ts as_:List J}(h:cC gg (dC ts as_ e)=true):EA e ts as_=dC ts as_ e:=by
 refine (TW gg ts as_ e).2 ?_;rw[<-(TW gg ts as_ e).1,b0R,b0N] at h;exact h.1
end
end Go.Proofs.YtmjfpcajohhbeaaGreatDoor

namespace Go.Proofs.YtmjfpcajohhbeaaGreatDoor
noncomputable section
open Go.RowKit
mutual
def Ow.lt{w:World}:∀ (d:D) {cs:List Value} {fp:List Nat},Ow w d cs fp->∀ b∈fp,b<w.heap.size
 | .int _ _,_,_,h=>λ b hb=>by rw[h.2] at hb;cases hb
 | .bool _,_,_,h=>λ b hb=>by rw[h.2] at hb;cases hb
 | .str _,_,_,h=>λ b hb=>by rw[h.2] at hb;cases hb
 | .slice n xs,_,_,h=>λ b hb=>by
  obtain⟨a,cap,h1,h2,h3,h4,h5⟩:=h;rcases h5 with ⟨_,_,rfl⟩|⟨b',f,l,t,rfl,rfl,hh,_,hr⟩
  .cases hb
  .rcases b1e.1 hb with rfl|hb
   .exact (b2e.1 hh).1
   .exact cm.lt xs hr b hb
 | .agg ds,_,_,h=>dE.lt ds h
 | .hole,_,_,h=>λ b hb=>by rw[h.2] at hb;cases hb
 | .ptr,_,_,h=>λ b hb=>by rw[h.2] at hb;cases hb
def dE.lt{w:World}:∀ (ds:List D) {cs:List Value} {fp:List Nat},dE w ds cs fp->∀ b∈fp,b<w.heap.size
 | [],_,_,h=>λ b hb=>by rw[h.2] at hb;cases hb
 | d::ds,_,_,h=>λ b hb=>by
  obtain⟨v,r,f1,f2,_,rfl,h3,h4⟩:=h;rcases b0Q.1 hb with hb|hb
  .exact Ow.lt d h3 b hb
  .exact dE.lt ds h4 b hb
def cm.lt{w:World}:∀ (ds:List D) {l:List Value} {fp:List Nat},cm w ds l fp->∀ b∈fp,b<w.heap.size
 | [],_,_,h=>λ b hb=>by rw[show _=[] from h] at hb;cases hb
 | d::ds,_,_,h=>λ b hb=>by
  obtain⟨c,r,f1,f2,_,rfl,h3,h4⟩:=h;rcases b0Q.1 hb with hb|hb
  .exact Ow.lt d h3 b hb
  .exact cm.lt ds h4 b hb
end
structure Nd(w:World)(b o:Nat)(x:J)(L:List Value)(t:TypeId)(fy:List Nat):Prop where
 h:w.heap[b]?=some (.cells L.toArray t (0,0))
 l:o+3<=L.length
 ow:Ow w x.bc ((L.drop o).take 3) fy
 nb:b∉fy
 nd:fy.Nodup
def Pl(w:World)(lo B:Nat)(x:J):Prop:=∃ cs t fp,w.heap[B]?=some (.cells cs.toArray t (0,0))/\Ow w x.bc cs fp/\∀ q∈fp,lo<=q
structure FP(w:World)(lo B:Nat)(x:J)(ks:List Int)(b o:Nat)(L:List Value)(t:TypeId)(fy:List Nat):Prop where
 nd:Nd w b o (dD x ks) L t fy
 flo:∀ q∈fy,lo<=q
 lb:lo<=b
 put:∀ (w':World) (y:J) (c:List Value) (f:List Nat),(∀ k,k<w.heap.size->k≠b->k∉fy->w'.heap[k]?=w.heap[k]?)->w'.heap[b]?=some (.cells (L.take o++c++L.drop (o+3)).toArray t (0,0))->c.length=3->Ow w' y.bc c f->(∀ q∈f,lo<=q)->Pl w' lo B (iL y x ks)
def a8l(w:World)(lo B:Nat)(x:J)(cs:List Value)(t:TypeId)(fp:List Nat)(h:w.heap[B]?=some (.cells cs.toArray t (0,0)))(ho:Ow w x.bc cs fp)(hb:B∉fp)(hn:fp.Nodup)(hB:lo<=B)(hl:∀ q∈fp,lo<=q):FP w lo B x [] B 0 cs t fp:=by
 have hl6:cs.length=3:=(Ow.length _ ho).trans (by cases x;rfl);refine⟨⟨h,by omega,?_,hb,hn⟩,hl,hB,λ w' y c f hk hh hc hw hf=>⟨c,t,f,?_,hw,hf⟩⟩
 .rw[b2S,b1v (by omega)];exact ho
 .rw[b1V,b1F,List.drop_of_length_le (by omega),b2h] at hh;exact hh
def NG(y:J)(k:Int):∀ (ks:List Int) (x:J),iL (J.mk (dD x ks).au (dD x ks).aO ((dD x ks).M.set k.toNat y)) x ks=iL y x (ks++[k])
 | [],x=>rfl
 | j::ks,x=>by
  simp only[b1Z,iL,dD];rw[NG y k ks]
def Sw(w:World)(z:J)(cs:List Value)(fy:List Nat)(h:Ow w z.bc cs fy):∃ c0 v,cs=c0++[v]/\c0.length=2/\Ow w (.slice 3 (z.M.map J.bc)) [v] fy /\
  ∀ (w':World) (ks:List J) (f:List Nat),Ow w' (.slice 3 (ks.map J.bc)) [v] f->Ow w' (J.mk z.au z.aO ks).bc cs f:=by
 cases z with
 | mk k n ks =>
  simp only[J.bc,J.xF] at h;obtain⟨v0,r0,f0,g0,rfl,rfl,a0,v1,r1,f1,g1,rfl,rfl,a1,v2,r2,f2,g2,rfl,rfl,a2,rfl,rfl⟩:=h;have e0:f0=[]:=a0.2;have e1:f1=[]:=a1.2;subst e0 e1;refine⟨[v0,v1],v2,rfl,rfl,by simpa using a2,λ w' ks' f hw=>?_⟩;simp only[J.bc,J.xF];exact⟨v0,_,[],f,rfl,rfl,(a0.bd _ λ b hb=>(by cases hb)),v1,_,[],f,rfl,rfl,(a1.bd _ λ b hb=>(by cases hb)),v2,[],f,[],rfl,by simp,hw,rfl,rfl⟩
def a3Z(x:J):x.bc.size=3:=by cases x;rfl
def a1H{w:World}{lo B:Nat}{x:J}{ks:List Int}{b o:Nat}{L:List Value}{t:TypeId}{fy:List Nat}(h:FP w lo B x ks b o L t fy) :
  ∃ a cap,w.cell? ⟨b,o+2,none⟩=some (.slice a (dD x ks).M.length cap)/\(dD x ks).M.length<=140737488355328:=by
 obtain⟨c0,v,e1,e2,e4,_⟩:=Sw w _ _ _ h.nd.ow;obtain⟨a,cap,q1,_,_,q4,_⟩:=e4;simp only[b0T,b1b,b1o] at q1 q4;subst q1;refine⟨a,cap,?_,q4⟩;have hl:=h.nd.l;have h5:((L.drop o).take 3)[2]?=some (.slice a (dD x ks).M.length cap):=by rw[e1,b2m (by omega),e2];rfl
 rw[b3D (by omega),b2B] at h5;simp[World.cell?,h.nd.h,h5]
def a1I{w:World}{lo B:Nat}{x:J}{ks:List Int}{b o:Nat}{L:List Value}{t:TypeId}{fy:List Nat}(h:FP w lo B x ks b o L t fy)(k:Int)(hk:0<=k/\k<((dD x ks).M.length:Int)) :
  ∃ bk cap L' t' fy',w.cell? ⟨b,o+2,none⟩=some (.slice (some ⟨bk,0,none⟩) (dD x ks).M.length cap)/\(dD x ks).M.length<=140737488355328/\FP w lo B x (ks++[k]) bk (k.toNat * 3) L' t' fy':=by
 obtain⟨c0,v,e1,e2,e4,e5⟩:=Sw w _ _ _ h.nd.ow;obtain⟨a,cap,q1,q2,q3,q4,q5⟩:=id e4;simp only[b0T,b1b,b1o] at q1 q2 q4;subst q1;have hl:=h.nd.l;have h5:((L.drop o).take 3)[2]?=some (.slice a (dD x ks).M.length cap):=by rw[e1,b2m (by omega),e2];rfl
 rw[b3D (by omega),b2B] at h5;rcases q5 with ⟨q5,_⟩|⟨bk,f,l,t',rfl,rfl,hb,hc,hr⟩
 .have:(dD x ks).M=[]:=b3Q.1 q5;rw[this] at hk;simp at hk;omega
 have Kh:k.toNat<(dD x ks).M.length:=by omega
 have hn6:∀ d∈(dD x ks).M.map J.bc,d.size=3:=λ d hd=>by
  obtain⟨y,_,rfl⟩:=b0S.1 hd;exact a3Z y
 obtain⟨f0,f1,f2,rfl,hlen,hw1,DX⟩:=cm.split _ k.toNat ((dD x ks).M.getD k.toNat zE).bc hr hn6 (by simp[Kh]);have hnk:=h.nd.nd;have hnb:=h.nd.nb;have a5g:=(b1G.1 hnk);have a7s:=b1k.1 a5g.2;have a7t:=b1k.1 a7s.1;refine⟨bk,cap,l,t',f1,?_,q4,⟨hb,hlen,?_,λ q=>a5g.1 (by simp[q]),a7t.2.1⟩,λ q hq=>h.flo q (by simp[hq]),h.flo bk (by simp),λ w' y c f' jF hh E9 hw hlo=>?_⟩
 .simp[World.cell?,h.nd.h,h5]
 .rw[(VJ k ks x).2.1];exact hw1
 .rw[<-NG];have hbk:b≠bk:=λ e=>hnb (by simp[e]);have bX:=λ q hq=>Ow.lt _ h.nd.ow q hq;refine h.put w' _ ((L.drop o).take 3) (bk::(f0++f'++f2)) (λ q h1 h2 h3=>jF q h1 (λ e=>h3 (by simp[e])) λ e=>h3 (by simp[e])) ?_ (by simp;omega) ?_ (λ q hq=>?_)
  .rw[jF b (b2e.1 h.nd.h).1 hbk λ e=>hnb (by simp[e]),h.nd.h];congr 2;have e6:L.drop (o+3)=(L.drop o).drop 3:=by rw[b2u]
   rw[e6,b1P,b2f,b2f]
  .refine e5 w' _ _ ?_;refine⟨_,cap,by rw[b1o,b2k],by rw[b1o,b2k];exact q2,q3,by rw[b1o,b2k];exact q4, .inr ⟨bk,f0++f'++f2,_,t',rfl,rfl,hh,?_,?_⟩⟩
   .simp only[b1l,b1C,b1Y,E9];omega
   .rw[b3M];exact DX w' y.bc c f' (λ q hq=>jF q (bX q (by simp only[b0Q,b1e] at hq ⊢;rcases hq with hq|hq<;>simp[hq])) (λ e=>a5g.1 (by rw[<-e];simp only[b0Q] at hq ⊢;rcases hq with hq|hq<;>simp[hq])) λ e=>by
     rcases b0Q.1 hq with hq|hq
     .exact a7t.2.2 q hq q e rfl
     .exact a7s.2.2 q (by simp[e]) q hq rfl) E9 hw
  .simp only[b0Q,b1e] at hq;rcases hq with rfl|((hq|hq)|hq)
   .exact h.flo q (by simp)
   .exact h.flo q (by simp[hq])
   .exact hlo q hq
   .exact h.flo q (by simp[hq])
end
end Go.Proofs.YtmjfpcajohhbeaaGreatDoor

set_option maxRecDepth 4000
set_option maxHeartbeats 4000000
namespace Go.Proofs.YtmjfpcajohhbeaaGreatDoor
noncomputable section
open Go.RowKit Go.Proofs
def Jm{w:World}{b:Nat}{cs:List Value}{t:TypeId}(h:w.heap[b]?=some (.cells cs.toArray t (0,0))):cG w b 0 cs:=λ j v hj=>by
 simp[World.cell?,h,hj]
def iu{X Y Z:Nat->Prop}{a b c:World}(h:bV X a b)(k:bV Y b c)(hX:∀ i,i<a.heap.size->X i->Z i)(hY:∀ i,i<a.heap.size->Y i->Z i):bV Z a c :=
 ⟨k.os.trans h.os,k.tape.trans h.tape,k.output.trans h.output,b3a h.size k.size,λ i hi hz=>(k.block i (b1c hi h.size) λ q=>hz (hY i hi q)).trans (h.block i hi λ q=>hz (hX i hi q))⟩
def NC(w:World)(o:Obj):bV (λ _=>False) w (w.alloc o)/\(w.alloc o).heap[w.heap.size]?=some o/\(w.alloc o).heap.size=w.heap.size+1:=by
 refine⟨⟨rfl,rfl,rfl,by simp,λ b hb _=>?_⟩,?_,by simp⟩
 .show (w.heap.push o)[b]?=_;rw[b1T,b0Y];omega
 .show (w.heap.push o)[w.heap.size]?=_;rw[b1T,b1q rfl]
def a6R{w W:World}{o1 o2 o3:Obj}(h:((w.alloc o1).alloc o2).alloc o3=W) :
  bV (λ _=>False) w W/\W.heap[w.heap.size]?=some o1/\W.heap[w.heap.size+1]?=some o2/\W.heap[w.heap.size+1+1]?=some o3/\W.heap.size=w.heap.size+3:=by
 subst h;refine⟨⟨rfl,rfl,rfl,by simp;omega,λ b hb _=>?_⟩,?_,?_,?_,by simp⟩
 .show (((w.heap.push o1).push o2).push o3)[b]?=_;rw[b1T,b1T,b1T,b0Y (by simp only[b2z];omega),b0Y (by simp only[b2z];omega),b0Y (by omega)]
 .show (((w.heap.push o1).push o2).push o3)[w.heap.size]?=_;rw[b1T,b1T,b1T,b0Y (by simp only[b2z];omega),b0Y (by simp only[b2z];omega),b1q rfl]
 .show (((w.heap.push o1).push o2).push o3)[w.heap.size+1]?=_;rw[b1T,b1T,b0Y (by simp only[b2z];omega),b1q (by simp only[b2z])]
 .show (((w.heap.push o1).push o2).push o3)[w.heap.size+1+1]?=_;rw[b1T,b1q (by simp only[b2z])]
def a2a{w0 w:World}{S:Nat->Prop}(hS:yI w0 S)(hb:Below w0.heap.size w0 w):yI w S :=
 ⟨λ b h=>b1c (hS.1 b h) hb.size,hS.2.mono (λ _ h=>h) λ b h=>hb.block b (hS.1 b h)⟩
def V6{w0 w:World}{S:Nat->Prop}(hS:yI w0 S)(hb:Below w0.heap.size w0 w){d:D}{cs:List Value}(r:Rd w0 S d cs):Rd w S d cs:=Rd.bd (λ _ h=>h) (λ b h=>hb.block b (hS.1 b h)) _ r
def wP{B:Nat}{w w':World}(h:bV (λ _=>False) w w')(hB:B<=w.heap.size):Below B w w':=⟨h.os,h.tape,h.output,h.size,λ k hk=>h.block k (by omega) id⟩
def HP{w0 w:World}(hb:Below w0.heap.size w0 w){b o:Nat}{cs:List Value}(h:cG w0 b o cs)(h1:b<w0.heap.size):cG w b o cs:=h.bd (hb.block b h1)
def fz0{w:World}{g e j:Nat}{cur:Array Value}(h:w.heap[g]?=some (.cells cur e (0,0))):w.frozen? ⟨g,j,none⟩=false:=by simp[World.frozen?,h]
def Qk{w:World}{b t:Nat}{u0 u1 u2:Value}(h:w.heap[b]?=some (.cells #[u0,u1,u2] t (0,0))):(w.cell? ⟨b,0,none⟩=some u0/\w.cell? ⟨b,1,none⟩=some u1/\w.cell? ⟨b,2,none⟩=some u2)/\w.frozen? ⟨b,0,none⟩=false/\w.frozen? ⟨b,1,none⟩=false/\w.frozen? ⟨b,2,none⟩=false :=
 ⟨⟨by simp[World.cell?,h],by simp[World.cell?,h],by simp[World.cell?,h]⟩,fz0 h,fz0 h,fz0 h⟩
def PA{w:World}{b t:Nat}{u0 u1 u2:Value}(c0 c1 c2:Value)(h:w.heap[b]?=some (.cells #[u0,u1,u2] t (0,0))):(((w.setCell ⟨b,0,none⟩ c0).setCell ⟨b,1,none⟩ c1).setCell ⟨b,2,none⟩ c2).heap[b]?=some (.cells #[c0,c1,c2] t (0,0)) /\
  ∀ k,k≠b->(((w.setCell ⟨b,0,none⟩ c0).setCell ⟨b,1,none⟩ c1).setCell ⟨b,2,none⟩ c2).heap[k]?=w.heap[k]? :=
 ⟨b4g _ _ _ _ _ _ (b4g _ _ _ _ _ _ (b4g _ _ _ _ _ _ h)),λ k hk=>by rw[b3Z _ _ _ _ hk,b3Z _ _ _ _ hk,b3Z _ _ _ _ hk]⟩
def ow3{w:World}{x:J}{c:List Value}{fp:List Nat}(h:Ow w x.bc c fp):∃ a m cap,c=[.int .i64 x.au, .int .i64 x.aO, .slice a m cap]:=by
 cases x with
 | mk k n ks =>
  simp only[J.bc,J.xF] at h;obtain⟨v0,r0,f0,g0,rfl,rfl,a0,v1,r1,f1,g1,rfl,rfl,a1,v2,r2,f2,g2,rfl,rfl,a2,rfl,rfl⟩:=h;have e0:[v0]=[.int .i64 k]:=a0.1.1;have e1:[v1]=[.int .i64 n]:=a1.1.1;obtain⟨a,cap,e2,_⟩:=a2;simp only[b0T,b1b] at e0 e1 e2;subst e0 e1 e2;exact⟨a,_,cap,rfl⟩
def bV.drew{X:Nat->Prop}{w w':World}(h:bV X w w'):bV X w w'.drew:=⟨h.os,h.tape,h.output,h.size,h.block⟩
def Rd.drew{w:World}{S:Nat->Prop}{d:D}{cs:List Value}(h:Rd w S d cs):Rd w.drew S d cs:=Rd.bd (w:=w) (w':=w.drew) (λ _ h=>h) (λ _ _=>rfl) _ h
def a3L{w0 w:World}{S:Nat->Prop}(hS:yI w0 S)(hb:Below w0.heap.size w0 w)(e:J)(ts as_:List J)(l:Int)(hp:jE ts as_ e/\br 62 62 e=true/\EH ts as_/\(aN (dC ts as_ e):Int)<=1000000+l/\l<=1000)(hl : -1000000<=l)
  (b o:Nat) (cs:List Value) (h1:b<w.heap.size) (h2:cG w b o cs) (r:Rd w0 S e.bc cs) (v3 v4:Value) (r3:Rd w0 S (.slice 3 (ts.map J.bc)) [v3]) (r4:Rd w0 S (.slice 3 (as_.map J.bc)) [v4]) (q:Nat) (t:TypeId) (hq:w.heap[q]?=some (.cells #[.int .i64 l] t (0,0))) (hq0:w0.heap.size<=q) (hbq:b≠q) :
  Calls prog qQ #[.pointer (some ⟨b,o,none⟩),v3,v4, .pointer (some ⟨q,0,none⟩)] w λ x w'=>∃ (k' n':Int) (a':Option Addr) (m' c':Nat) (fp:List Nat) (t':TypeId),x = .returned (.agg #[.int .i64 k', .int .i64 n', .slice a' m' c'])/\bV (λ b=>b=q) w w'/\Ow w' (fg ts as_ e l).1.bc [.int .i64 k', .int .i64 n', .slice a' m' c'] fp/\fp.Nodup /\
   (∀ b∈fp,w.heap.size<=b/\b<w'.heap.size)/\w'.heap[q]?=some (.cells #[.int .i64 (fg ts as_ e l).2] t' (0,0)):=by
 have hi:U l:=⟨by show (-9223372036854775808:Int)<=l;omega,by show l<=9223372036854775807;omega⟩;have hnS:¬ S q:=λ h=>by have:=hS.1 q h;omega
 refine (M4.2 e ts as_ l hp w S (λ _=>q) [_,_,_,_] [] (a2a hS hb) ⟨_,t,[],[],rfl,hq,⟨⟨rfl,rfl,rfl,hi⟩,rfl⟩,rfl⟩ b2c (by simp) (λ k hk=>⟨bP hq,hnS⟩) (λ j k hj hk _=>by
   have hj:j<1:=hj;have hk:k<1:=hk;omega)
  ⟨⟨b,o,cs,rfl,h1,(λ h=>by rcases h with h|⟨k,_,h⟩;cases h;exact hbq h),h2,V6 hS hb r⟩,V6 hS hb r3,V6 hS hb r4,rfl,af⟩).mono ?_
 rintro x w' ⟨v,S',fp,Oe,rfl,hk,_,_,_,dj,hB,hn,hf,_⟩;obtain⟨c,rfl,ho⟩:=(show ∃ cs,v = .agg cs.toArray/\Ow w' (fg ts as_ e l).1.bc cs fp from dj);obtain⟨lc,t',f1,f2,e1,WU,hR,e2⟩:=hB;have e2:f2=[]:=e2;match lc,hR with
 | [u],⟨⟨_,_,hu,_⟩,e3⟩ =>
  have hu:[u]=[.int .i64 (fg ts as_ e l).2]:=hu;simp only[b0T,b1b] at hu;subst hu;obtain⟨a,m,cap,rfl⟩:=ow3 ho;refine⟨_,_,_,_,_,fp,t',rfl,⟨hk.os,hk.tape,hk.output,hk.size,λ i hi hq=>hk.block i hi λ h=>?_⟩,ho,(b1k.1 hn).1,λ i hi=>?_,WU⟩
  .rcases h with h|⟨k,_,h⟩
   .cases h
   .exact hq h
  .have:=(hf i (b2R _ hi)).1;rcases this with h|h
   .cases h
   .exact h
def QQ{w0 w:World}{S:Nat->Prop}(hS:yI w0 S)(hb:Below w0.heap.size w0 w)(gg:aX)(g0 g1:Value)(r1:Rd w0 S (aY.sig.bc gg) [g0,g1])(x:J)(b o:Nat)(cs:List Value)(h1:b<w.heap.size)(h2:cG w b o cs)(r:Rd w (λ b=>b<w.heap.size) x.bc cs) :
  Calls prog wD #[.agg #[g0,g1], .pointer (some ⟨b,o,none⟩)] w λ e w'=>e = .returned (.bool (oz gg x))/\bV (λ _=>False) w w':=by
 have hA:yI w λ b=>b<w.heap.size:=⟨λ _ h=>h,hS.2.mono (λ b h=>b1c (hS.1 b h) hb.size) λ b h=>hb.block b (hS.1 b h)⟩;refine (nF.2 gg x trivial w _ [_,_] hA ⟨⟨[g0,g1],rfl,r1.bd (λ b h=>b1c (hS.1 b h) hb.size) λ b h=>hb.block b (hS.1 b h)⟩,⟨b,o,cs,rfl,h1,h2,r⟩,af⟩).mono ?_;rintro e w' ⟨v,S',res,rfl,rfl,qp,_,_,hr⟩;have hr:[v]=[.bool (oz gg x)]:=hr;simp only[b0T,b1b] at hr;subst hr;exact⟨rfl,qp⟩
def E0:Env:=aZ [] [] [] []
def hE0:bU prog E0:=Qs trivial
def ld3{w:World}{g o:Nat}{cs:List Value}(hc:cG w g o cs)(hl:cs.length=3):(Instr.loadAt 38 (.pointer (some ⟨g,o,none⟩))).run prog w = .ok (.agg cs.toArray) w :=
 qT hE0 (T:=38) (τ := .st .expr) rfl hc hl
def Cm{f:Func}{a:Act}{w:World}{b:Nat}{cs:List Value}{t:TypeId}{n:Value}(hf:f.results = #[.cell 8 38, .tmp 9])(h8:a.tmps.getD 8 undef = .pointer (some ⟨b,0,none⟩))(h9:a.tmps.getD 9 undef=n)(hb:w.heap[b]?=some (.cells cs.toArray t (0,0)))(hl:cs.length=3)(hd:a.defers=[])
  {R:Ending->World->Prop} (hR:R (.returned (.tuple #[.agg cs.toArray,n])) w):bodyPost prog f R .ret a w:=by
 refine bodyPost_ret ?_ hd hR;have c9:=ld3 (Jm hb) hl;simp only[Instr.loadAt,Instr.sureAddr,b1u,b1w,b1j] at c9;rw[xB,b2O];simp only[b1u,b4s,hf,b3k,List.mapM_nil,rG,h8,h9,asAddr,b1w,b1j,c9];rfl
def Sa{w w3:World}{q:Nat}{t:TypeId}{u0 u1 u2:Value}(c0 c1 c2:Value)(hk:bV (λ _=>False) w w3)(h:w3.heap[q]?=some (.cells #[u0,u1,u2] t (0,0)))(hq:w.heap.size<=q):bV (λ _=>False) w (((w3.setCell ⟨q,0,none⟩ c0).setCell ⟨q,1,none⟩ c1).setCell ⟨q,2,none⟩ c2) /\
  (((w3.setCell ⟨q,0,none⟩ c0).setCell ⟨q,1,none⟩ c1).setCell ⟨q,2,none⟩ c2).heap.size=w3.heap.size :=
 ⟨⟨hk.os,hk.tape,hk.output,by simpa using hk.size,λ b hb _=>((PA c0 c1 c2 h).2 b (by omega)).trans (hk.block b hb id)⟩,by simp⟩
structure suP(gg:aX)(e:J)(ts as_:List J):Prop where
 s:bS gg=true
 f:jE ts as_ e
 t:br 62 62 e=true
 n:EH ts as_
 d:aN e<=500
set_option maxRecDepth 100000 in
def a3Y(gg:aX)(e:J)(ts as_:List J)(hp:suP gg e ts as_):bC prog AB [.val ⟨.st .sig,gg⟩, .ref ⟨.st .expr,e⟩, .val ⟨.slice (.st .expr),ts⟩, .val ⟨.slice (.st .expr),as_⟩] (·=[⟨.st .expr,EA e ts as_⟩,⟨.bool,cC gg (dC ts as_ e)⟩]):=by
 intro w S dm hS ha;match dm,ha with
 | [v1,v2,v3,v4],ha =>
 obtain⟨⟨c1,rfl,r1⟩,⟨b,o,cs,rfl,hb,hc,r2⟩,r3,r4,_⟩:=ha;have r3:Rd w S (.slice 3 (ts.map J.bc)) [v3]:=r3;have r4:Rd w S (.slice 3 (as_.map J.bc)) [v4]:=r4;obtain⟨g0,g1,rfl⟩:∃ g0 g1,c1=[g0,g1]:=by
  have:=Rd.length _ r1;match c1,this with
  | [g0,g1],_=>exact⟨_,_,rfl⟩
 obtain⟨p0,p1,p2,p3,p4⟩:=hp;have b0t:=Z2 p3 e;generalize YK:(λ (x:Ending) (w':World)=>∃ v S' res,x=Ending.returned v/\res=[(⟨Ty.st aY.expr,EA e ts as_⟩:TV),⟨Ty.bool,cC gg (dC ts as_ e)⟩]/\bV (λ _=>False) w w'/\(∀ b,b<w.heap.size->(S' b↔S b))/\(∀ b,S' b->b<w'.heap.size)/\FR w' S' res v)=Po;go_enter Tryz.func64,Tryz.ntmps64;go_wp2;generalize hW:((w.alloc _).alloc _).alloc _=W;obtain⟨k1,h1,h2,h3,h4⟩:=a6R hW;clear hW;have b1:Below w.heap.size w W:=wP k1 (b1E _);refine (a3L hS b1 e ts as_ 200 ⟨p1,p2,p3,by omega,by omega⟩ (by omega) b o cs (b1c hb k1.size) (HP b1 hc hb) r2 v3 v4 r3 r4 _ _ h3 (by omega) (by omega)).mono ?_;rintro _ w1 ⟨k',n',a',m',c',fp,t',rfl,k2,ho,hn,hf,hq⟩;have e1:=(k2.block _ (bP h1) (by omega)).trans h1;have e2:=(k2.block _ (bP h2) (by omega)).trans h2;have k3:bV (λ _=>False) w w1:=iu k1 k2 (λ _ _ q=>q) λ i hi q=>by omega
 clear h1 h2 h3 k1 k2 b1;go_wp2_with fail;obtain⟨k4,e4,s4⟩:=NC w1 (.cells #[.int .i64 k', .int .i64 n', .slice a' m' c'] 38);have e5:=(k4.block _ (bP e1) id).trans e1;have e6:=(k4.block _ (bP e2) id).trans e2;have e7:=(k4.block _ (bP hq) id).trans hq;have l4:=bP e4;have ho4:=ho.bd _ λ b hb=>k4.block b (hf b hb).2 id;have k5:bV (λ _=>False) w (w1.alloc (.cells #[.int .i64 k', .int .i64 n', .slice a' m' c'] 38)).drew:=(iu k3 (Z:=λ _=>False) k4 (λ _ _ q=>q) λ _ _ q=>q).drew;have f1:∀ b∈fp,w.heap.size<=b/\b<w1.heap.size/\b≠w.heap.size/\b≠w.heap.size+1/\b≠w.heap.size+1+1:=λ b hb=>by have:=hf b hb;omega
 have sz1:=k3.size;have l1:=bP e1;have l2:=bP e2;have l3:=bP hq;clear e1 e2 hq ho k3 hf;generalize hw1:w1.heap.size=q1 at *
 generalize w1.alloc (.cells #[.int .i64 k', .int .i64 n', .slice a' m' c'] 38)=w2 at *
 have e4d:w2.drew.heap[q1]?=some (.cells #[.int .i64 k', .int .i64 n', .slice a' m' c'] 38 (0,0)):=e4;have e5d:w2.drew.heap[w.heap.size]?=some (.cells #[g0,g1] 41 (0,0)):=e5;have e6d:w2.drew.heap[w.heap.size+1]?=some (.cells #[.int .i64 0, .int .i64 0, .slice none 0 0] 38 (0,0)):=e6;have e7d:w2.drew.heap[w.heap.size+1+1]?=some (.cells #[.int .i64 (fg ts as_ e 200).2] t' (0,0)):=e7;obtain⟨⟨z0,z1,z2⟩,_⟩:=Qk e4d;obtain⟨⟨y0,y1,y2⟩,y3,y4,y5⟩:=Qk e6d;have u0:w2.drew.cell? ⟨w.heap.size,0,none⟩=some g0:=by simp[World.cell?,e5d]
 have u1:w2.drew.cell? ⟨w.heap.size,1,none⟩=some g1:=by simp[World.cell?,e5d]
 have x0:w2.drew.cell? ⟨w.heap.size+1+1,0,none⟩=some (.int .i64 (fg ts as_ e 200).2):=by simp[World.cell?,e7d]
 have ro:Rd w2.drew (λ b=>b<w2.drew.heap.size) (fg ts as_ e 200).1.bc [.int .i64 k', .int .i64 n', .slice a' m' c']:=Rd.drew (S:=λ b=>b<w2.heap.size) (ho4.rd _ λ b hb=>by have:=(f1 b hb).2.1;show b<w2.heap.size;omega);have b5:Below w.heap.size w w2.drew:=wP k5 (b1E _);by_cases hl:0<=(fg ts as_ e 200).2
 .have hd:decide ((0:Int)<=(fg ts as_ e 200).2)=true:=b1A hl;have hok:=QQ hS b5 gg g0 g1 r1 (fg ts as_ e 200).1 q1 0 _ (bP e4d) (Jm e4d) ro;go_region_with (first
   | (
     go_at_call 39
     refine hok.mono ?_
     rintro _ w3 ⟨rfl,k6⟩
     have e4e:=(k6.block _ (bP e4d) id).trans e4d
     have e6e:=(k6.block _ (bP e6d) id).trans e6d
     obtain⟨⟨v0,v1,v2⟩,_⟩:=Qk e4e
     obtain⟨⟨t0,t1,t2⟩,t3,t4,t5⟩:=Qk e6e))
  all_goals
   have k7:=iu (Z:=λ _=>False) k5 k6 (λ _ _ q=>q) λ _ _ q=>q
   obtain⟨x9,o9⟩:=PA (.int .i64 k') (.int .i64 n') (.slice a' m' c') e6e
   obtain⟨k8,s8⟩:=Sa (.int .i64 k') (.int .i64 n') (.slice a' m' c') k7 e6e (by omega)
   obtain⟨⟨j0,j1,j2⟩,_⟩:=Qk x9
   have ho5:=ho4.bd (w':=((w3.setCell ⟨w.heap.size+1,0,none⟩ (.int .i64 k')).setCell ⟨w.heap.size+1,1,none⟩ (.int .i64 n')).setCell ⟨w.heap.size+1,2,none⟩ (.slice a' m' c')) _ λ b hb=>(o9 b (f1 b hb).2.2.2.1).trans (k6.block b (by have:=(f1 b hb).2.1;show b<w2.heap.size;omega) id)
   generalize ((w3.setCell ⟨w.heap.size+1,0,none⟩ (.int .i64 k')).setCell ⟨w.heap.size+1,1,none⟩ (.int .i64 n')).setCell ⟨w.heap.size+1,2,none⟩ (.slice a' m' c')=w4 at *
   go_wp2
   refine Cm rfl rfl rfl x9 rfl rfl ?_
   rw[<-YK]
   refine⟨_,λ b=>S b\/(w.heap.size<=b/\b<w4.heap.size),_,rfl,rfl,k8,λ b hb=>⟨λ h=>h.elim id λ h=>absurd h.1 (by omega), .inl⟩,λ b h=>h.elim (λ h=>b1c (hS.1 b h) k8.size) λ h=>h.2,[_,_],rfl,⟨_,rfl,?_⟩,?_,af⟩
   .exact ho5.rd _ λ b hb => .inr ⟨(f1 b hb).1,by have:=(f1 b hb).2.1;have:=k6.size;have:w2.drew.heap.size=w2.heap.size:=rfl;omega⟩
   .exact congrArg (λ x=>[Value.bool x]) (b0b _ hl rfl p0).symm
 .have hd:decide ((0:Int)<=(fg ts as_ e 200).2)=false:=b1a hl;obtain⟨⟨i0,i1,i2⟩,i3,i4,i5⟩:=Qk e6;have k5':bV (λ _=>False) w w2:=⟨k5.os,k5.tape,k5.output,k5.size,k5.block⟩;go_region;all_goals
   have k7:=iu (Z:=λ _=>False) k5' (bV.refl _ _) (λ _ _ q=>q) λ _ _ q=>q
   obtain⟨x9,o9⟩:=PA (.int .i64 k') (.int .i64 n') (.slice a' m' c') e6
   obtain⟨k8,s8⟩:=Sa (.int .i64 k') (.int .i64 n') (.slice a' m' c') k7 e6 (by omega)
   obtain⟨⟨j0,j1,j2⟩,_⟩:=Qk x9
   have ho5:=ho4.bd (w':=((w2.setCell ⟨w.heap.size+1,0,none⟩ (.int .i64 k')).setCell ⟨w.heap.size+1,1,none⟩ (.int .i64 n')).setCell ⟨w.heap.size+1,2,none⟩ (.slice a' m' c')) _ λ b hb=>(o9 b (f1 b hb).2.2.2.1).trans rfl
   generalize ((w2.setCell ⟨w.heap.size+1,0,none⟩ (.int .i64 k')).setCell ⟨w.heap.size+1,1,none⟩ (.int .i64 n')).setCell ⟨w.heap.size+1,2,none⟩ (.slice a' m' c')=w4 at *
   go_wp2
   refine Cm (w:=w4.drew) rfl rfl rfl x9 rfl rfl ?_
   rw[<-YK]
   refine⟨_,λ b=>S b\/(w.heap.size<=b/\b<w4.heap.size),_,rfl,rfl,k8.drew,λ b hb=>⟨λ h=>h.elim id λ h=>absurd h.1 (by omega), .inl⟩,λ b h=>h.elim (λ h=>b1c (hS.1 b h) k8.size) λ h=>h.2,[_,_],rfl,⟨_,rfl,?_⟩,?_,af⟩
   .exact Rd.drew (ho5.rd _ λ b hb => .inr ⟨(f1 b hb).1,by have:=(f1 b hb).2.1;have:w2.drew.heap.size=w2.heap.size:=rfl;omega⟩)
   .exact congrArg (λ x=>[Value.bool x]) (b0a (gg:=gg) (e:=e) (ts:=ts) (as_:=as_) (by omega)).symm
def uM:aQ:=⟨AB,[.v (.st .sig), .r (.st .expr), .v (.slice (.st .expr)), .v (.slice (.st .expr))],λ (gg:aX) (e:J) (ts:List J) (as_:List J)=>⟨(some (suP gg e ts as_),[⟨(.st .expr),EA e ts as_⟩,⟨.bool,cC gg (dC ts as_ e)⟩])⟩⟩
def Ox:aQ.Good uM :=
 ⟨aA SH rfl (by decide),λ gg e ts as_ h=>a3Y gg e ts as_ h⟩
end
end Go.Proofs.YtmjfpcajohhbeaaGreatDoor

namespace Go.Proofs.YtmjfpcajohhbeaaGreatDoor
noncomputable section
end
end Go.Proofs.YtmjfpcajohhbeaaGreatDoor

/- VmRExpr2, VmRdm, VmRds, VmRdx, VmEqn, VmOwnFam, VmAxi, VmPf2. -/
import Derived.Test.YtmjfpcajohhbeaaGreatDoorVmRExpr
set_option linter.all false
namespace Go.Proofs.YtmjfpcajohhbeaaGreatDoor
def b1l:=@List.drop_succ_cons
def a9f:=@decide_true
def a9b:=@decide_false
def a8L:=@not_true_eq_false
def a8M:=@not_false_eq_true
def a8V:=@false_implies
def a9c:=@true_implies
def a9o:=@Bool.eq_false_or_eq_true
def b0f:=@Bool.and_true
def b1D:=@cond_false
noncomputable section
def bQ(t:List UInt8)(a:Nat):Int:=if a<t.length then ((t.getD a 0).toNat:Int) else 0
structure RS where
 e:J
 a:Nat
 dp:Nat
 bad:Bool
def qq:List UInt8->Nat
 | []=>0
 | b::l=>if gH b=true then qq l+1 else 0
def Th(t:List UInt8)(a:Nat):List UInt8:=(t.drop (a+1)).take (qq (t.drop (a+1)))
def cU(t:List UInt8)(a dp:Nat):RS:=⟨J.mk (if bQ t a=97 then 4 else 3) (il 9 (Th t a)) [],a+1+qq (t.drop (a+1)),dp,!kU 9 (Th t a)⟩
def bB(t:List UInt8)(a:Nat)(c:Int):Nat:=if bQ t a=c then a+1 else a
def bR(t:List UInt8)(a:Nat)(c:Int)(bad:Bool):Bool:=if bQ t a=c then bad else true
def Bj(t:List UInt8)(r:RS):RS:=if r.bad=true then ⟨r.e,r.a,r.dp - 1,true⟩ else ⟨aX 8 (jA 42 (t.drop r.a)) r.e,r.a+jA 42 (t.drop r.a),r.dp - 1,false⟩
def en(inner:Nat->Nat->RS)(t:List UInt8)(a dp:Nat)(bad:Bool):RS:=if bad=true\/100<dp+1 then ⟨zX,a,dp+1,true⟩ else Bj t (inner a (dp+1))
def Be(inner:Nat->Nat->RS)(t:List UInt8)(x:RS)(k:Int)(a:Nat)(bad:Bool):RS :=
 ⟨J.mk k 0 [x.e,(en inner t a x.dp bad).e],bB t (en inner t a x.dp bad).a 41,(en inner t a x.dp bad).dp,bR t (en inner t a x.dp bad).a 41 (en inner t a x.dp bad).bad⟩
def wu(inner:Nat->Nat->RS)(t:List UInt8)(x:RS):RS :=
 if bQ t (bB t x.a 32)=43 then Be inner t x 6 (bB t (bB t x.a 32+1) 32) (bR t (bB t x.a 32+1) 32 (bR t x.a 32 x.bad)) else Be inner t x 7 (bB t x.a 32) (bR t x.a 32 x.bad)
def cA(t:List UInt8):Nat->Nat->Nat->RS
 | g,a,dp=>if bQ t a=48 then ⟨J.mk 1 0 [],a+1,dp,false⟩ else if bQ t a=49 then ⟨J.mk 2 0 [],a+1,dp,false⟩ else
  if bQ t a=116\/bQ t a=97 then cU t a dp else
  if bQ t a=126 then (match g with
   | 0=>⟨zX,a+1,dp+1,true⟩
   | g+1=>⟨J.mk 5 0 [(cA t g (a+1) (dp+1)).e],(cA t g (a+1) (dp+1)).a,(cA t g (a+1) (dp+1)).dp - 1,(cA t g (a+1) (dp+1)).bad⟩) else
  if bQ t a=40 then (match g with
   | 0=>wu (λ _ _=>⟨zX,0,0,true⟩) t (en (λ _ _=>⟨zX,0,0,true⟩) t (a+1) dp false)
   | g+1=>wu (cA t g) t (en (cA t g) t (a+1) dp false)) else ⟨zX,a,dp,true⟩
theorem im{t:List UInt8}{a:Nat}{b:UInt8}{r:List UInt8}(h:t.drop a=b::r):bQ t a=(b.toNat:Int):=by
 obtain⟨h1,h2⟩:=J7 h
 unfold bQ;rw[if_pos h1,h2]
theorem vz(t:List UInt8)(a:Nat)(c:UInt8)(hc:c≠0)(h:bQ t a=(c.toNat:Int)):∃ r,t.drop a=c::r:=by
 unfold bQ at h
 split at h
 .rename_i hl
  refine⟨t.drop (a+1),?_⟩
  rw[b0h hl]
  rw[a8H,a8P hl] at h
  have:t[a]=c:=UInt8.toNat_inj.1 (by simpa using Int.ofNat_inj.1 h)
  rw[this]
 .exfalso
  have:c.toNat=0:=by omega
  exact hc (UInt8.toNat_inj.1 this)
theorem WV(t:List UInt8)(a:Nat)(c:UInt8)(hc:c≠0)(bad:Bool)(h:bR t a (c.toNat:Int) bad=false):bad=false/\bB t a (c.toNat:Int)=a+1/\∃ r,t.drop a=c::r:=by
 unfold bR at h
 unfold bB
 split at h
 .rename_i e
  rw[a8O e]
  exact⟨h,rfl,vz t a c hc e⟩
 .cases h
theorem uQ{t:List UInt8}{a:Nat}{c:UInt8}{r:List UInt8}(h:t.drop a=c::r)(bad:Bool):bB t a (c.toNat:Int)=a+1/\bR t a (c.toNat:Int) bad=bad:=by
 unfold bB bR;rw[if_pos (im h),if_pos (im h)];exact⟨rfl,rfl⟩
theorem UR(c:UInt8):∀ l:List UInt8,l=List.replicate (jA c l) c++l.drop (jA c l)
 | []=>rfl
 | b::l=>by
  unfold jA
  split
  .rename_i e
   subst e
   rw[b0o,b1l,a9y,<-UR b l]
  .rfl
structure Lo(t:List UInt8)(a dp:Nat)(r:RS):Prop where
 ex:r.bad=false->r.dp=dp/\∃ W,t.drop a=W++t.drop r.a/\(dT r.e=true->W=bV r.e)
theorem P7:∀ (m:Nat) (e:J),dT (aX 8 m e)=true->dT e=true/\bV (aX 8 m e)=bV e++List.replicate m 42
 | 0,e,h=>⟨h,by simp[aX]⟩
 | m+1,e,h=>by
  rw[eh] at h ⊢
  have hk:=xL _ h 0 (by simp)
  have hx:=(e9 _ h).2.2.2.2.2.2.2 rfl
  obtain⟨h1,h2⟩:=P7 m e hk.1
  refine⟨h1,?_⟩
  rw[hx]
  show bV (aX 8 m e)++[42]=_
  rw[h2,b1d,a9r]
theorem a1r(t:List UInt8)(a dp:Nat)(r:RS)(h:Lo t a (dp+1) r):Lo t a dp (Bj t r):=by
 refine⟨λ hb=>?_⟩
 unfold Bj at hb ⊢
 cases e:r.bad
 .rw[e] at hb
  simp only[a8w,b1q] at hb ⊢
  obtain⟨h0,W,h1,h2⟩:=h.ex e
  refine⟨by omega,W++List.replicate (jA 42 (t.drop r.a)) 42,?_,λ hg=>?_⟩
  .rw[h1,a9r]
   congr 1
   rw[<-a9Y];exact UR 42 _
  .obtain⟨g1,g2⟩:=P7 _ _ hg
   rw[g2,h2 g1]
 .rw[e] at hb;simp at hb
theorem tL(inner:Nat->Nat->RS)(t:List UInt8)(a dp:Nat)(bad:Bool)(h:dp+1<=100->Lo t a (dp+1) (inner a (dp+1))):Lo t a dp (en inner t a dp bad):=by
 unfold en
 split
 .exact⟨λ hb=>by cases hb⟩
 .rename_i hn
  exact a1r t a dp _ (h (by omega))
theorem a0Q(inner:Nat->Nat->RS)(t:List UInt8)(a dp:Nat)(bad:Bool)(h:(en inner t a dp bad).bad=false):bad=false:=by
 unfold en at h
 split at h
 .cases h
 .rename_i hn;cases bad<;>simp_all
theorem Tx(inner:Nat->Nat->RS)(t:List UInt8)(a0 dp:Nat)(x:RS)(k:Int)(sep:List UInt8)(hk:(k=6/\sep=[32,43,32])\/(k=7/\sep=[32]))(a:Nat)(bad:Bool)(hx:Lo t (a0+1) dp x)
  (h0:∃ r,t.drop a0=40::r) (a7i:bad=false->x.bad=false/\t.drop x.a=sep++t.drop a) (hi:dp+1<=100->Lo t a (dp+1) (inner a (dp+1))):Lo t a0 dp (Be inner t x k a bad):=by
 refine⟨λ hb=>?_⟩
 unfold Be at hb ⊢
 simp only at hb ⊢
 obtain⟨h1,h2,r,h3⟩:=WV t _ 41 (by decide) _ hb
 have Oi:=a0Q inner t a x.dp bad h1
 obtain⟨Wt,hx2⟩:=a7i Oi
 obtain⟨wx0,Wx,wx1,wx2⟩:=hx.ex Wt
 rw[wx0] at h1 h2 h3 ⊢
 obtain⟨wy0,Wy,wy1,wy2⟩:=(tL inner t a dp bad hi).ex h1
 obtain⟨r0,SJ⟩:=h0
 have QJ:t.drop (a0+1)=r0:=cu (w:=[40]) SJ
 have h4:t.drop ((en inner t a dp bad).a+1)=r:=cu (w:=[41]) h3
 have e41:bB t (en inner t a dp bad).a 41=(en inner t a dp bad).a+1:=h2
 refine⟨wy0,[40]++(Wx++(sep++(Wy++[41]))),?_,λ hg=>?_⟩
 .rw[e41,SJ,h4,<-QJ,wx1,hx2,wy1,h3];simp
 .have k0:=xL _ hg 0 (by simp)
  have k1:=xL _ hg 1 (by simp)
  rw[wx2 k0.1,wy2 k1.1]
  rcases hk with ⟨rfl,rfl⟩|⟨rfl,rfl⟩
  .exact ((e9 _ hg).2.2.2.2.2.1 rfl).symm
  .exact ((e9 _ hg).2.2.2.2.2.2.1 rfl).symm
theorem Xn(s:List UInt8)(h:kU 9 s=true)(h9:hJ s<=9):zc (hJ s)=s:=by
 have h1:=a1d s h h9
 rw[CI] at h1
 simp only[a8r,a8p] at h1
 match s,h1 with
 | [b],h1 =>
  have hd:gH b=true:=by have:=h1.2;simpa [bq] using this
  simp only[gH,a8r,a8p] at hd
  have hv:hJ [b]=(b.toNat:Int) - 48:=by simp[hJ]
  rw[hv] at h9 ⊢
  unfold zc
  rw[Lib.decDigits_one (by omega)]
  congr 1
  apply UInt8.toNat_inj.1
  rw[b1r];omega
 | [],h1=>simp at h1
 | _::_::_,h1=>simp at h1;omega
theorem a1b(t:List UInt8)(a dp:Nat)(h:bQ t a=116\/bQ t a=97):Lo t a dp (cU t a dp):=by
 refine⟨λ hb=>⟨rfl,?_⟩⟩
 unfold cU at hb ⊢
 simp only[a8X] at hb ⊢
 have zV:∀ c:UInt8,(∃ r,t.drop a=c::r)->t.drop a=(c::Th t a)++t.drop (a+1+qq (t.drop (a+1))):=by
  rintro c ⟨r,hr⟩
  have h1:t.drop (a+1)=r:=cu (w:=[c]) hr
  have e:t.drop (a+1+qq (t.drop (a+1)))=(t.drop (a+1)).drop (qq (t.drop (a+1))):=by rw[a9Y]
  rw[e,hr,h1,a9y]
  unfold Th
  rw[h1,a9K]
 have hv:il 9 (Th t a)=hJ (Th t a):=by unfold il;rw[hb];rfl
 rcases h with h|h
 .refine⟨_,zV 116 (vz t a 116 (by decide) h),λ hg=>?_⟩
  have e:(if bQ t a=97 then (4:Int) else 3)=3:=a8y (by rw[h];decide)
  rw[e,hv] at hg ⊢
  have hn:=(iK _ hg).1 (.inl rfl)
  rw[(e9 _ hg).2.2.1 rfl]
  show _=116::zc (hJ (Th t a))
  rw[Xn _ hb hn.2]
 .refine⟨_,zV 97 (vz t a 97 (by decide) h),λ hg=>?_⟩
  have e:(if bQ t a=97 then (4:Int) else 3)=4:=a8O h
  rw[e,hv] at hg ⊢
  have hn:=(iK _ hg).1 (.inr rfl)
  rw[(e9 _ hg).2.2.2.1 rfl]
  show _=97::zc (hJ (Th t a))
  rw[Xn _ hb hn.2]
theorem Vu(inner:Nat->Nat->RS)(t:List UInt8)(a0 dp:Nat)(x:RS)(hx:Lo t (a0+1) dp x)(h0:∃ r,t.drop a0=40::r)(hi:∀ a,dp+1<=100->Lo t a (dp+1) (inner a (dp+1))):Lo t a0 dp (wu inner t x):=by
 unfold wu
 split
 .rename_i hp
  refine Tx inner t a0 dp x 6 [32,43,32] (.inl ⟨rfl,rfl⟩) _ _ hx h0 (λ hb=>?_) (hi _)
  obtain⟨b1,b2,r1,b3⟩:=WV t _ 32 (by decide) _ hb
  obtain⟨c1,c2,r2,c3⟩:=WV t _ 32 (by decide) _ b1
  have c2':bB t x.a 32=x.a+1:=c2
  rw[c2'] at hp b2 b3 ⊢
  have b2':bB t (x.a+1+1) 32=x.a+1+1+1:=b2
  obtain⟨r3,d3⟩:=vz t (x.a+1) 43 (by decide) hp
  have e1:t.drop (x.a+1)=r2:=cu (w:=[32]) c3
  have e2:t.drop (x.a+1+1)=r3:=cu (w:=[43]) d3
  have e3:t.drop (x.a+1+1+1)=r1:=cu (w:=[32]) b3
  refine⟨c1,?_⟩
  rw[b2',e3,c3,<-e1,d3,<-e2,b3];rfl
 .refine Tx inner t a0 dp x 7 [32] (.inr ⟨rfl,rfl⟩) _ _ hx h0 (λ hb=>?_) (hi _)
  obtain⟨c1,c2,r2,c3⟩:=WV t _ 32 (by decide) _ hb
  have c2':bB t x.a 32=x.a+1:=c2
  have e1:t.drop (x.a+1)=r2:=cu (w:=[32]) c3
  exact⟨c1,by rw[c2',e1,c3];rfl⟩
theorem XW(t:List UInt8)(a dp:Nat)(k:Int)(c:UInt8)(hc:c≠0)(h:bQ t a=(c.toNat:Int))(he:dT (J.mk k 0 [])=true->bV (J.mk k 0 [])=[c]):Lo t a dp ⟨J.mk k 0 [],a+1,dp,false⟩:=by
 obtain⟨r,hr⟩:=vz t a c hc h
 have h1:t.drop (a+1)=r:=cu (w:=[c]) hr
 exact⟨λ _=>⟨rfl,[c],by rw[h1,hr];rfl,λ hg=>(he hg).symm⟩⟩
theorem Du(t:List UInt8):∀ (g a dp:Nat),g+dp=100->Lo t a dp (cA t g a dp)
 | g,a,dp,hgd=>by
  have step:∀ g',g=g'+1->∀ a',Lo t a' (dp+1) (cA t g' a' (dp+1)):=λ g' e a'=>Du t g' a' (dp+1) (by omega)
  unfold cA
  split
  .rename_i h;exact XW t a dp 1 48 (by decide) h (λ hg=>(e9 _ hg).1 rfl)
  .split
   .rename_i h;exact XW t a dp 2 49 (by decide) h (λ hg=>(e9 _ hg).2.1 rfl)
   .split
    .rename_i h;exact a1b t a dp h
    .split
     .rename_i h
      obtain⟨r,hr⟩:=vz t a 126 (by decide) h
      have h1:t.drop (a+1)=r:=cu (w:=[126]) hr
      cases g with
      | zero=>exact⟨λ hb=>by cases hb⟩
      | succ g =>
       refine⟨λ hb=>?_⟩
       obtain⟨e1,W,e2,e3⟩:=(step g rfl (a+1)).ex hb
       refine⟨by show _ - 1=dp;omega,126::W,?_,λ hg=>?_⟩
       .show t.drop a=126::W++t.drop (cA t g (a+1) (dp+1)).a
        rw[hr,<-h1,e2];rfl
       .have hk:=xL _ hg 0 (by simp)
        rw[(e9 _ hg).2.2.2.2.1 rfl]
        show _=126::bV (cA t g (a+1) (dp+1)).e
        rw[e3 hk.1]
     .split
      .rename_i h
       have h0:=vz t a 40 (by decide) h
       cases g with
       | zero =>
        refine Vu _ t a dp _ (tL _ t (a+1) dp false (λ h=>by omega)) h0 (λ a' h=>by omega)
       | succ g=>exact Vu _ t a dp _ (tL _ t (a+1) dp false (λ _=>step g rfl _)) h0 (λ a' _=>step g rfl a')
      .exact⟨λ hb=>by cases hb⟩
 termination_by g=>g
def okR(r:List UInt8):Prop:=∀ b l,r=b::l->b≠42/\gH b=false
def noD(r:List UInt8):Prop:=∀ b l,r=b::l->gH b=false
theorem a0K(b:UInt8)(r:List UInt8)(hb:gH b=true)(hr:noD r):qq (b::r)=1:=by
 unfold qq
 rw[a8O hb]
 cases r with
 | nil=>rfl
 | cons c l=>unfold qq;rw[if_neg (by rw[hr c l rfl];decide)]
theorem X0(t:List UInt8)(a dp:Nat)(c:J)(h:dT c=true)(e:c.ak=3\/c.ak=4)(r:List UInt8)(hr:noD r)(ht:t.drop a=bV c++r):cU t a dp=⟨c,a+(bV c).length,dp,false⟩:=by
 have hn:=(iK c h).1 e
 have hx:=e9 c h
 have hg:zc c.aI=[UInt8.ofNat (48+c.aI.toNat)]:=by unfold zc;rw[Lib.decDigits_one (by omega)]
 have hb:(UInt8.ofNat (48+c.aI.toNat)).toNat=48+c.aI.toNat:=by rw[b1r];omega
 have hd:gH (UInt8.ofNat (48+c.aI.toNat))=true:=by unfold gH;rw[hb,decide_eq_true (by omega),decide_eq_true (by omega)];rfl
 have key:∀ (w:UInt8),bV c=w::zc c.aI->t.drop (a+1)=UInt8.ofNat (48+c.aI.toNat)::r/\bQ t a=(w.toNat:Int)/\(bV c).length=2:=by
  intro w e'
  rw[e',hg] at ht
  exact⟨cu (w:=[w]) ht,im ht,by rw[e',hg];rfl⟩
 have fin:∀ (w:UInt8),bV c=w::zc c.aI->(if bQ t a=97 then (4:Int) else 3)=c.ak->cU t a dp=⟨c,a+(bV c).length,dp,false⟩:=by
  intro w e' ek
  obtain⟨k1,k2,k3⟩:=key w e'
  have hcn:qq (t.drop (a+1))=1:=by rw[k1];exact a0K _ _ hd hr
  have hnm:Th t a=[UInt8.ofNat (48+c.aI.toNat)]:=by unfold Th;rw[hcn,k1];rfl
  have hv:hJ [UInt8.ofNat (48+c.aI.toNat)]=c.aI:=by simp only[hJ,b1m,b1H,hb];omega
  have hN:kU 9 [UInt8.ofNat (48+c.aI.toNat)]=true:=by rw[CI];simp only[a8C,a8N,bq,hd];rfl
  unfold cU
  rw[hcn,hnm,ek,hN,k3]
  have hnv:il 9 [UInt8.ofNat (48+c.aI.toNat)]=c.aI:=by unfold il;rw[hN,hv];rfl
  rw[hnv]
  have hc:=iX c c.ak c.aI [] rfl rfl (rl c h (by omega))
  rw[<-hc];rfl
 rcases e with e|e
 .exact fin 116 (hx.2.2.1 e) (by rw[(key 116 (hx.2.2.1 e)).2.1,e];decide)
 .exact fin 97 (hx.2.2.2.1 e) (by rw[(key 97 (hx.2.2.2.1 e)).2.1,e];decide)
theorem UZ(inner:Nat->Nat->RS)(t:List UInt8)(a dp:Nat)(r:List UInt8)(x c:J)(m n:Nat)(hx:x=aX 8 m (aX 5 n c))
  (htx:bV x=List.replicate n 126++(bV c++List.replicate m 42)) (hdp:dp+1<=100) (hr:okR r) (hd:t.drop a=bV x++r)
  (gG:∀ r',noD r'->t.drop a=List.replicate n 126++bV c++r'->inner a (dp+1)=⟨aX 5 n c,a+(n+(bV c).length),dp+1,false⟩):en inner t a dp false=⟨x,a+(bV x).length,dp,false⟩:=by
 have Za:t.drop a=(List.replicate n 126++bV c)++(List.replicate m 42++r):=by rw[hd,htx];simp
 have k9:noD (List.replicate m 42++r):=by
  intro b l e
  cases m with
  | zero=>exact (hr b l e).2
  | succ m =>
   rw[b0o,a9y] at e
   simp only[a8z] at e
   rw[<-e.1];decide
 have h1:=gG _ k9 Za
 have hd2:=cu Za
 have hl:(List.replicate n 126++bV c).length=n+(bV c).length:=by simp
 rw[hl] at hd2
 have hm:jA 42 (t.drop (a+(n+(bV c).length)))=m:=by rw[hd2];exact LZ 42 r (λ b l e=>(hr b l e).1) m
 unfold en
 rw[a8y (by simp;omega),h1]
 unfold Bj
 simp only[a8w,b1q]
 rw[hm,<-hx]
 have:(bV x).length=n+((bV c).length+m):=by rw[htx];simp
 simp only[RS.mk.injEq,a9l,a8F]
 omega
theorem KL:∀ (N:Nat) (n:Nat) (c:J),cz c+n<N->dT c=true->N7 c.ak->∀ (t:List UInt8) (g a dp:Nat) (r:List UInt8),g+dp=100->dp+n+2 * bJ c<=101->noD r ->
  t.drop a=List.replicate n 126++bV c++r->cA t g a dp=⟨aX 5 n c,a+(n+(bV c).length),dp,false⟩
 | 0,n,c,h,_,_=>by omega
 | N+1,n+1,c,hN,h,hk=>by
  intro t g a dp r hg hd hr ht
  have hdp:=jB c
  obtain⟨g,rfl⟩:∃ g',g=g'+1:=⟨g - 1,by omega⟩
  have Un:t.drop a=126::(List.replicate n 126++bV c++r):=by rw[ht,b0o];rfl
  have h1:t.drop (a+1)=List.replicate n 126++bV c++r:=cu (w:=[126]) Un
  have ih:=KL N n c (by omega) h hk t g (a+1) (dp+1) r (by omega) (by omega) hr h1
  have hp:=im Un
  rw[cA.eq_def];dsimp only;rw[if_neg (by rw[hp];decide),if_neg (by rw[hp];decide),if_neg (by rw[hp];decide),if_pos (by rw[hp];decide)]
  simp only[ih,eh]
  simp only[RS.mk.injEq,a9l,a8F]
  omega
 | N+1,0,c,hN,h,hk=>by
  intro t g a dp r hg hd hr ht
  have ht:t.drop a=bV c++r:=by rw[ht];rfl
  have hf:=iK c h
  have hx:=e9 c h
  have hdp:=jB c
  show cA t g a dp=⟨c,a+(0+(bV c).length),dp,false⟩
  rw[a9Z]
  have Iz:∀ i,i<c.M.length->zO c i->∀ g',g=g'+1->∀ (a:Nat) (r:List UInt8),okR r->t.drop a=bV (c.M.getD i zE)++r ->
    en (cA t g') t a dp false=⟨c.M.getD i zE,a+(bV (c.M.getD i zE)).length,dp,false⟩:=by
   intro i hi hgk g' eg a r hr hda
   obtain⟨m,n,c',e1,e2,e3,e4,e5,e6⟩:=TB _ _ (a9h _) hgk.1
   have hdk:=tV bJ zE c.M i hi
   have hdc:=jB c'
   have hms:cz c'+n<=cz (c.M.getD i zE):=by
    have w:∀ (k:Int) (n:Nat) (e:J),cz (aX k n e)>=cz e+n:=by
     intro k n
     induction n with
     | zero=>intro e;exact a9i _
     | succ n ih =>
      intro e
      have h1:=ih (J.mk k 0 [e])
      have h2:cz [e]<cz (J.mk k 0 [e]):=dV (J.mk k 0 [e])
      have h3:cz e<cz [e]:=cq e [e] 0 (by simp)
      show cz (aX k n (J.mk k 0 [e]))>=_
      omega
    have h1:=w 8 m (aX 5 n c')
    have h2:=w 5 n c'
    rw[<-e1] at h1;omega
   exact UZ (cA t g') t a dp r _ c' m n e1 e6 (by omega) hr hda (λ r' KI E8=>KL N n c' (by have:=hgk.2;omega) e2 e3 t g' a (dp+1) r' (by omega) (by omega) KI E8)
  rcases hk with e|e|e|e|e|e
  .rw[hx.1 e] at ht ⊢
   have hp:=im (show t.drop a=48::r from ht)
   have hc:=iX c 1 0 [] e (oi c h (by omega) (by omega)) (rl c h (by omega))
   rw[cA.eq_def];dsimp only;rw[if_pos (by rw[hp];decide),<-hc];rfl
  .rw[hx.2.1 e] at ht ⊢
   have hp:=im (show t.drop a=49::r from ht)
   have hc:=iX c 2 0 [] e (oi c h (by omega) (by omega)) (rl c h (by omega))
   rw[cA.eq_def];dsimp only;rw[if_neg (by rw[hp];decide),if_pos (by rw[hp];decide),<-hc];rfl
  .have hp:=im (show t.drop a=116::(zc c.aI++r) by rw[ht,hx.2.2.1 e];rfl)
   rw[cA.eq_def];dsimp only;rw[if_neg (by rw[hp];decide),if_neg (by rw[hp];decide),if_pos (by rw[hp];decide)]
   exact X0 t a dp c h (.inl e) r hr ht
  .have hp:=im (show t.drop a=97::(zc c.aI++r) by rw[ht,hx.2.2.2.1 e];rfl)
   rw[cA.eq_def];dsimp only;rw[if_neg (by rw[hp];decide),if_neg (by rw[hp];decide),if_pos (by rw[hp];decide)]
   exact X0 t a dp c h (.inr e) r hr ht
  .obtain⟨hl,k0,k1⟩:=hf.2.2.1 (.inl e)
   have hc:=iX c 6 0 _ e (oi c h (by omega) (by omega)) (HM c hl)
   have hd0:=tV bJ zE c.M 0 (by omega)
   have Za:=jB (c.M.getD 0 zE)
   obtain⟨g,rfl⟩:∃ g',g=g'+1:=⟨g - 1,by omega⟩
   rw[hx.2.2.2.2.2.1 e] at ht ⊢
   have p0:t.drop a=40::(bV (c.M.getD 0 zE)++([32,43,32]++(bV (c.M.getD 1 zE)++([41]++r)))):=by rw[ht];simp
   have p1:t.drop (a+1)=bV (c.M.getD 0 zE)++([32,43,32]++(bV (c.M.getD 1 zE)++([41]++r))):=cu (w:=[40]) p0
   have q1:=Iz 0 (by omega) k0 g rfl (a+1) _ (λ b l g=>by simp at g;rw[<-g.1];decide) p1
   have p2:=cu p1
   have p2a:t.drop (a+1+(bV (c.M.getD 0 zE)).length+1)=43::(32::(bV (c.M.getD 1 zE)++([41]++r))):=cu (w:=[32]) p2
   have p2b:t.drop (a+1+(bV (c.M.getD 0 zE)).length+1+1)=32::(bV (c.M.getD 1 zE)++([41]++r)):=cu (w:=[43]) p2a
   have p3:t.drop (a+1+(bV (c.M.getD 0 zE)).length+1+1+1)=bV (c.M.getD 1 zE)++([41]++r):=cu (w:=[32]) p2b
   have q2:=Iz 1 (by omega) k1 g rfl _ _ (λ b l g=>by simp at g;rw[<-g.1];decide) p3
   have p4:=cu p3
   have hp:=im p0
   rw[cA.eq_def];dsimp only;rw[if_neg (by rw[hp];decide),if_neg (by rw[hp];decide),if_neg (by rw[hp];decide),if_neg (by rw[hp];decide),if_pos (by rw[hp];decide)]
   simp only[q1]
   unfold wu
   have y1:bB t (a+1+(bV (c.M.getD 0 zE)).length) 32=_:=(uQ (c:=32) p2 false).1
   have y2:bR t (a+1+(bV (c.M.getD 0 zE)).length) 32 false=false:=(uQ (c:=32) p2 false).2
   have y3:bB t (a+1+(bV (c.M.getD 0 zE)).length+1+1) 32=_:=(uQ (c:=32) p2b false).1
   have y4:bR t (a+1+(bV (c.M.getD 0 zE)).length+1+1) 32 false=false:=(uQ (c:=32) p2b false).2
   simp only[y1,y2,y3,y4]
   rw[a8O (by rw[im p2a];decide)]
   unfold Be
   simp only[q2]
   have y5:bB t _ 41=_:=(uQ (c:=41) p4 false).1
   have y6:bR t _ 41 false=false:=(uQ (c:=41) p4 false).2
   rw[y5,y6,<-hc]
   simp only[RS.mk.injEq,a9l,a8F,a8K,a8C,a8N];omega
  .obtain⟨hl,k0,k1⟩:=hf.2.2.1 (.inr e)
   have hc:=iX c 7 0 _ e (oi c h (by omega) (by omega)) (HM c hl)
   have hd0:=tV bJ zE c.M 0 (by omega)
   have Za:=jB (c.M.getD 0 zE)
   obtain⟨g,rfl⟩:∃ g',g=g'+1:=⟨g - 1,by omega⟩
   rw[hx.2.2.2.2.2.2.1 e] at ht ⊢
   have p0:t.drop a=40::(bV (c.M.getD 0 zE)++([32]++(bV (c.M.getD 1 zE)++([41]++r)))):=by rw[ht];simp
   have p1:t.drop (a+1)=bV (c.M.getD 0 zE)++([32]++(bV (c.M.getD 1 zE)++([41]++r))):=cu (w:=[40]) p0
   have q1:=Iz 0 (by omega) k0 g rfl (a+1) _ (λ b l g=>by simp at g;rw[<-g.1];decide) p1
   have p2:=cu p1
   have p3:t.drop (a+1+(bV (c.M.getD 0 zE)).length+1)=bV (c.M.getD 1 zE)++([41]++r):=cu (w:=[32]) p2
   have q2:=Iz 1 (by omega) k1 g rfl _ _ (λ b l g=>by simp at g;rw[<-g.1];decide) p3
   have p4:=cu p3
   obtain⟨b1,l1,f1,f2⟩:=Sm _ k1.1
   have hp:=im p0
   rw[cA.eq_def];dsimp only;rw[if_neg (by rw[hp];decide),if_neg (by rw[hp];decide),if_neg (by rw[hp];decide),if_neg (by rw[hp];decide),if_pos (by rw[hp];decide)]
   simp only[q1]
   unfold wu
   have y1:bB t (a+1+(bV (c.M.getD 0 zE)).length) 32=_:=(uQ (c:=32) p2 false).1
   have y2:bR t (a+1+(bV (c.M.getD 0 zE)).length) 32 false=false:=(uQ (c:=32) p2 false).2
   simp only[y1,y2]
   have a7a:¬ bQ t (a+1+(bV (c.M.getD 0 zE)).length+1)=43:=by
    have p3':=p3
    rw[f1] at p3'
    rw[im p3']
    intro hh
    exact f2 (UInt8.toNat_inj.1 (by simpa using Int.ofNat_inj.1 hh))
   rw[a8y a7a]
   unfold Be
   simp only[q2]
   have y5:bB t _ 41=_:=(uQ (c:=41) p4 false).1
   have y6:bR t _ 41 false=false:=(uQ (c:=41) p4 false).2
   rw[y5,y6,<-hc]
   simp only[RS.mk.injEq,a9l,a8F,a8K,a8C,a8N];omega
theorem a0P(x:J)(h:dT x=true)(h40:bJ x<=40):en (cA (bV x) 99) (bV x) 0 0 false=⟨x,(bV x).length,0,false⟩:=by
 obtain⟨m,n,c,e1,e2,e3,e4,e5,e6⟩:=TB _ _ (a9h _) h
 have:=UZ (cA (bV x) 99) (bV x) 0 0 [] x c m n e1 e6 (by omega) (λ b l g=>by cases g) (by simp) (λ r' KI E8=>KL _ n c (a9h _) e2 e3 (bV x) 99 0 (0+1) r' (by omega) (by omega) KI E8)
 simpa using this
theorem Dw(gg:aO)(x:J)(hg:bK gg=true)(h:cg gg x=true):dT x=true/\bJ x<=40/\(bV x).length<=1000:=by
 rw[xT] at h
 rw[TO] at hg
 rw[DL _ (by omega),DL _ (by omega)] at h
 have ht:=Hi _ _ 9 9 (by omega) (by omega) x h.1
 have:=yS (cz x+1) x (a9h _) ht
 exact⟨ht,h.2.2,by have:=h.2.1;omega⟩
def TZ(t:List UInt8):RI:=lD (dM t 41) t 0
def yO(t:List UInt8):RS:=en (cA t 99) t 0 0 false
def dz(gg:aO)(t:List UInt8):Bool:=(TZ t).ok&&decide ((TZ t).a=t.length)&&cg gg (TZ t).e&&decide (bV (TZ t).e=t)
def jK(gg:aO)(t:List UInt8):J:=bif dz gg t then (TZ t).e else zX
theorem a3c(gg:aO)(t:List UInt8)(hg:bK gg=true):(!(yO t).bad&&decide ((yO t).a=t.length)&&cg gg (yO t).e)=dz gg t/\(dz gg t=true->(yO t).e=jK gg t):=by
 have up:dz gg t=true->yO t=⟨(TZ t).e,t.length,0,false⟩:=by
  intro h
  simp only[dz,a8r,a8p] at h
  obtain⟨h1,h2,_⟩:=Dw gg _ hg h.1.2
  have:=a0P _ h1 h2
  rw[h.2] at this
  exact this
 have down:(!(yO t).bad&&decide ((yO t).a=t.length)&&cg gg (yO t).e)=true->dz gg t=true:=by
  intro h
  simp only[a8r,a8p,a8J] at h
  obtain⟨⟨h1,h2⟩,h3⟩:=h
  obtain⟨g1,g2,_⟩:=Dw gg _ hg h3
  obtain⟨_,W,w1,w2⟩:=(tL (cA t 99) t 0 0 false (λ _=>Du t 99 0 1 rfl)).ex h1
  have w1':t=W++t.drop (yO t).a:=w1
  rw[h2,List.drop_length,a9N] at w1'
  have w3:t=bV (yO t).e:=w1'.trans (w2 g1)
  have hi:=a0O _ g1 g2
  rw[<-w3] at hi
  have qd:TZ t=⟨(yO t).e,true,t.length⟩:=hi
  unfold dz
  rw[qd]
  simp only[h3,<-w3,a9f,b0O]
 refine⟨?_,λ h=>?_⟩
 .cases hb:dz gg t
  .cases hc:(!(yO t).bad&&decide ((yO t).a=t.length)&&cg gg (yO t).e)
   .rfl
   .rw[down hc] at hb;cases hb
  .have hu:=up hb
   have h3:=hb
   simp only[dz,a8r] at h3
   rw[hu]
   simp only[h3.1.2,a9f,b0O,a8v]
 .rw[up h]
  unfold jK
  rw[h];rfl
end
end Go.Proofs.YtmjfpcajohhbeaaGreatDoor

set_option maxRecDepth 4000
set_option maxHeartbeats 4000000
namespace Go.Proofs.YtmjfpcajohhbeaaGreatDoor
noncomputable section
theorem a5Y(t:List UInt8)(a:Nat)(s:List UInt8):(decide (s.length<=(t.drop a).length)&&decide ((t.drop a).take s.length=s))=cK t a s:=rfl
theorem TY(t:List UInt8)(a:Nat)(s:List UInt8)(h:cK t a s=true):s.length+a<=t.length\/s=[]:=by
 obtain⟨r,hr⟩:=(Nr t a s).1 h
 have:=congrArg List.length hr
 simp only[a9w,a8K] at this
 cases s with
 | nil=>exact .inr rfl
 | cons b l=>left;simp only[a8C] at this ⊢;omega
def az(t:List UInt8)(a:Int)(p:List UInt8):Int:=bif cK t a.toNat p then a+(p.length:Int) else a
def Dg(t:List UInt8)(a:Int):Int:=bif jP t a.toNat then a+1 else a
def Ib(t:List UInt8)(a:Int):Int:=bif jP t a.toNat then ((t.getD a.toNat 0).toNat:Int) - 48 else 0
theorem a4Z:IntKind.u8.min=0:=rfl
theorem a4Y:IntKind.u8.max=255:=rfl
theorem a5p(b:UInt8):0<=(b.toNat:Int)/\(b.toNat:Int)<=255:=by have:=b.toNat_lt;omega
def dD:iV:=⟨qi,[[.d .str, .d (.int .i64)]],[.b 0, .v .str],[[.str,(.int .i64)]],λ (p:List UInt8) (t:List UInt8) (a:Int)=>⟨(some (0<=a/\a<=(t.length:Int)/\t.length<=10000/\p.length<=10/\1<=p.length),[⟨.bool,cK t a.toNat p⟩],[[⟨.str,t⟩,⟨(.int .i64),az t a p⟩]])⟩⟩
def vx(p:List UInt8)(t:List UInt8)(a:Int):Nat->aH:=λ _ => .none
theorem Fz(p:List UInt8)(t:List UInt8)(a:Int):ck (cY [gU] [] [] [] []) (au fO) (vx p t a) 0 (kV (cY [gU] [] [] [] []) fO [[.d .str, .d (.int .i64)]] λ r ds=>bp r [⟨.bool,cK t a.toNat p⟩]/\ng ds [[⟨.str,t⟩,⟨(.int .i64),az t a p⟩]]) (cR fO [.box 0, .val ⟨.str,p⟩] [[.d .str, .d (.int .i64)]] [[⟨.str,t⟩,⟨(.int .i64),a⟩]]) =
 ((cW a ((t.length:Int)) t.length/\(t.length<=140737488355328 ->
 (O a ->
 (((!(decide (p.length<=((t.take (Int.toNat ((t.length:Int)))).drop (Int.toNat a)).length)&&decide (((t.take (Int.toNat ((t.length:Int)))).drop (Int.toNat a)).take p.length=p)))=true ->
 (false=(cK t a.toNat p)/\((t=t/\a=(az t a p))/\True)))/\((!(decide (p.length<=((t.take (Int.toNat ((t.length:Int)))).drop (Int.toNat a)).length)&&decide (((t.take (Int.toNat ((t.length:Int)))).drop (Int.toNat a)).take p.length=p)))=false ->
 (O a ->
 (O ((p.length:Int)) ->
 (O (a+((p.length:Int)))/\(true=(cK t a.toNat p)/\((t=t/\(a+((p.length:Int)))=(az t a p))/\True))))))))))):=by kernel_rfl
theorem Fo(hE:aG [gU])(hO:fW [])(hM:gZ [])(hS:fX []):iV.Good dD:=by
 refine⟨aA uU rfl (by decide),?_⟩
 show ∀ (p:List UInt8) (t:List UInt8) (a:Int),(0<=a/\a<=(t.length:Int)/\t.length<=10000/\p.length<=10/\1<=p.length)->tu prog qi [[.d .str, .d (.int .i64)]] [.box 0, .val ⟨.str,p⟩] [[⟨.str,t⟩,⟨(.int .i64),a⟩]] [⟨.bool,cK t a.toNat p⟩] [[⟨.str,t⟩,⟨(.int .i64),az t a p⟩]]
 intro p t a hp
 refine iA (own:=[]) (wr:=[]) (cl:=[]) (ro:=[]) hE hO hM hS uU C6 (vx p t a) rfl rfl ?_
 rewrite [Fz p t a]
 obtain⟨h1,h2,h3,h4,h5⟩:=hp
 have f0:az t a p=bif cK t a.toNat p then a+(p.length:Int) else a:=rfl
 refine⟨?_,λ _ _=>⟨λ _=>⟨?_,⟨rfl,?_⟩,trivial⟩,λ _ _ _=>⟨?_,?_,⟨rfl,?_⟩,trivial⟩⟩⟩
 all_goals try and_intros
 all_goals first|rfl|trivial|omega|((try simp only[a8x,a8v,a8J,a8X,a8p,a8q] at *)<;>(try simp only[a8E,b1c,a5Y,aw,cW,O] at *)<;>first|with_reducible rfl|omega|(have h1:=TY _ _ _ (by with_reducible assumption);have h2:p.length<=10:=by omega;omega)|(rw[by with_reducible assumption];done)|(rw[show cK t a.toNat p=_ from by with_reducible assumption];rfl)|simp_all)
theorem so:iV.Good dD:=Fo ⟨Ca,trivial⟩ trivial trivial trivial
def gm:iV:=⟨pf,[[.d .str, .d (.int .i64)]],[.b 0],[[.str,(.int .i64)]],λ (t:List UInt8) (a:Int)=>⟨(some (0<=a/\a<=(t.length:Int)/\t.length<=10000),[⟨(.int .i64),Ib t a⟩,⟨.bool,jP t a.toNat⟩],[[⟨.str,t⟩,⟨(.int .i64),Dg t a⟩]])⟩⟩
def tJ(t:List UInt8)(a:Int):Nat->aH:=λ _ => .none
abbrev rX(t:List UInt8)(a:Int):Prop:=(O a ->
 (O (a+(1:Int))/\(O ((a+(1:Int)) - (1:Int))/\(t.length<=140737488355328 ->
 (O (a+(1:Int)) ->
 (aw ((a+(1:Int)) - (1:Int)) t.length/\(cr .u8 ((((t.getD (Int.toNat ((a+(1:Int)) - (1:Int))) 0).toNat:Int)) - (48:Int))/\(O ((((t.getD (Int.toNat ((a+(1:Int)) - (1:Int))) 0).toNat:Int)) - (48:Int))/\((((((t.getD (Int.toNat ((a+(1:Int)) - (1:Int))) 0).toNat:Int)) - (48:Int))=(Ib t a)/\true=(jP t a.toNat))/\((t=t/\(a+(1:Int))=(Dg t a))/\True))))))))))
abbrev rY(t:List UInt8)(a:Int):Prop:=(t.length<=140737488355328 ->
 (O a ->
 (aw a t.length/\(((decide ((((t.getD (Int.toNat a) 0).toNat:Int))<=(57:Int)))=true ->
 (rX t a))/\((decide ((((t.getD (Int.toNat a) 0).toNat:Int))<=(57:Int)))=false ->
 (((0:Int)=(Ib t a)/\false=(jP t a.toNat))/\((t=t/\a=(Dg t a))/\True)))))))
abbrev rZ(t:List UInt8)(a:Int):Prop:=((false=true ->
 (rX t a))/\(false=false ->
 (((0:Int)=(Ib t a)/\false=(jP t a.toNat))/\((t=t/\a=(Dg t a))/\True))))
theorem DW(t:List UInt8)(a:Int):ck (cY [] [] [] [] []) (au fe) (tJ t a) 0 (kV (cY [] [] [] [] []) fe [[.d .str, .d (.int .i64)]] λ r ds=>bp r [⟨(.int .i64),Ib t a⟩,⟨.bool,jP t a.toNat⟩]/\ng ds [[⟨.str,t⟩,⟨(.int .i64),Dg t a⟩]]) (cR fe [.box 0] [[.d .str, .d (.int .i64)]] [[⟨.str,t⟩,⟨(.int .i64),a⟩]]) =
 ((((decide (a<((t.length:Int))))=true ->
 (aw a t.length/\(((decide ((48:Int)<=(((t.getD (Int.toNat a) 0).toNat:Int))))=true ->
 (O a ->
 (t.length<=140737488355328 ->
 (O ((t.length:Int)) ->
 (t.length<=140737488355328 ->
 (O a ->
 (rY t a)))))))/\((decide ((48:Int)<=(((t.getD (Int.toNat a) 0).toNat:Int))))=(!true) ->
 (O a ->
 (t.length<=140737488355328 ->
 (O ((t.length:Int)) ->
 (t.length<=140737488355328 ->
 (O a ->
 (rZ t a))))))))))/\((decide (a<((t.length:Int))))=(!true) ->
 ((false=true ->
 (O a ->
 (t.length<=140737488355328 ->
 (O ((t.length:Int)) ->
 (rY t a)))))/\(false=(!true) ->
 (O a ->
 (t.length<=140737488355328 ->
 (O ((t.length:Int)) ->
 (rZ t a))))))))):=by kernel_rfl
theorem DK(hE:aG [])(hO:fW [])(hM:gZ [])(hS:fX []):iV.Good gm:=by
 refine⟨aA tw rfl (by decide),?_⟩
 show ∀ (t:List UInt8) (a:Int),(0<=a/\a<=(t.length:Int)/\t.length<=10000)->tu prog pf [[.d .str, .d (.int .i64)]] [.box 0] [[⟨.str,t⟩,⟨(.int .i64),a⟩]] [⟨(.int .i64),Ib t a⟩,⟨.bool,jP t a.toNat⟩] [[⟨.str,t⟩,⟨(.int .i64),Dg t a⟩]]
 intro t a hp
 refine iA (own:=[]) (wr:=[]) (cl:=[]) (ro:=[]) hE hO hM hS tw BS (tJ t a) rfl rfl ?_
 rewrite [DW t a]
 obtain⟨h1,h2,h3⟩:=hp
 have f1:=a5p (t.getD a.toNat 0)
 have f3:Dg t a=bif jP t a.toNat then a+1 else a:=rfl
 have f4:Ib t a=bif jP t a.toNat then ((t.getD a.toNat 0).toNat:Int) - 48 else 0:=rfl
 have f2:jP t a.toNat=(decide (a.toNat<t.length)&&decide (48<=(t.getD a.toNat 0).toNat)&&decide ((t.getD a.toNat 0).toNat<=57)):=rfl
 refine⟨λ _=>⟨?_,λ _ _ _ _ _ _ _ _=>⟨?_,λ _ _=>⟨?_,?_,λ _ _=>⟨?_,?_,?_,⟨?_,?_⟩,⟨rfl,?_⟩,trivial⟩⟩,λ _=>⟨⟨?_,?_⟩,⟨rfl,?_⟩,trivial⟩⟩,λ _ _ _ _ _ _=>⟨λ _ _=>⟨?_,?_,λ _ _=>⟨?_,?_,?_,⟨?_,?_⟩,⟨rfl,?_⟩,trivial⟩⟩,λ _=>⟨⟨?_,?_⟩,⟨rfl,?_⟩,trivial⟩⟩⟩,λ _=>⟨λ _ _ _ _ _ _=>⟨?_,λ _ _=>⟨?_,?_,λ _ _=>⟨?_,?_,?_,⟨?_,?_⟩,⟨rfl,?_⟩,trivial⟩⟩,λ _=>⟨⟨?_,?_⟩,⟨rfl,?_⟩,trivial⟩⟩,λ _ _ _ _=>⟨λ _ _=>⟨?_,?_,λ _ _=>⟨?_,?_,?_,⟨?_,?_⟩,⟨rfl,?_⟩,trivial⟩⟩,λ _=>⟨⟨?_,?_⟩,⟨rfl,?_⟩,trivial⟩⟩⟩⟩
 all_goals try and_intros
 all_goals first|rfl|trivial|omega|(simp only[decide_eq_true_eq,decide_eq_false_iff_not,aw,O,a4Z,a4Y] at *;first|omega|grind [jP])|grind [jP,a4Z,a4Y]
theorem Bh:iV.Good gm:=DK trivial trivial trivial trivial
def nE(t:List UInt8)(a:Int):Nat:=jA 126 (t.drop a.toNat)
def rE(t:List UInt8)(d a:Int):RI:=dM t (d+1).toNat (a.toNat+nE t a)
def mE(t:List UInt8)(d a:Int):Nat:=jA 42 (t.drop (rE t d a).a)
def xE(t:List UInt8)(d a:Int):RI:=lD (dM t (d+1).toNat) t a.toNat
theorem Z0(c:UInt8):∀ l:List UInt8,jA c l<=l.length
 | []=>a9i _
 | b::l=>by
  have:=Z0 c l
  unfold jA
  split<;>simp<;>omega
theorem Hu(c:UInt8)(t:List UInt8)(a:Nat)(h:a<=t.length):a+jA c (t.drop a)<=t.length:=by
 have:=Z0 c (t.drop a)
 simp only[a9w] at this;omega
theorem ny(t:List UInt8)(a:Nat)(c:UInt8)(s:List UInt8)(h:cK t a (c::s)=true):a+(c::s).length<=t.length:=by
 rcases TY t a _ h with g|g
 .omega
 .cases g
theorem UX(core:Nat->RI)(t:List UInt8)(hc:∀ a,a<=t.length->(core a).a<=t.length)(a:Nat)(h:a<=t.length):(lD core t a).a<=t.length:=by
 have h1:=Hu 126 t a h
 have h2:=hc _ h1
 have h3:=Hu 42 t _ h2
 unfold lD
 split
 .exact h1
 .split
  .show (core (a+jA 126 (t.drop a))).a+42<=t.length
   omega
  .exact h3
theorem Vl(k:Int)(t:List UInt8)(a:Nat)(h:a<=t.length):(tU k t a).a<=t.length:=by
 unfold tU
 cases e:jP t a
 .exact h
 .simp only[jP,a8r,a8p] at e
  show a+1<=t.length
  omega
theorem Vr(k:Int)(t:List UInt8)(x y:RI)(h:y.a<=t.length):(tl k t x y).a<=t.length:=by
 unfold tl
 cases e:x.ok&&y.ok&&cK t y.a [41]
 .exact h
 .simp only[a8r] at e
  have:=ny t _ 41 [] e.2
  simpa using this
theorem N6(t:List UInt8):∀ (D a:Nat),a<=t.length->(dM t D a).a<=t.length
 | 0,a,h=>h
 | D+1,a,h=>by
  have hx:∀ a,a<=t.length->(lD (dM t D) t a).a<=t.length:=UX (dM t D) t (N6 t D)
  unfold dM
  split
  .rename_i e;exact ny t a 48 [] e
  .split
   .rename_i e;exact ny t a 49 [] e
   .split
    .rename_i e;exact Vl 3 t _ (ny t a 116 [] e)
    .split
     .rename_i e;exact Vl 4 t _ (ny t a 97 [] e)
     .split
      .exact h
      .rename_i e
       have e':cK t a [40]=true:=by simpa using e
       have h1:=hx _ (ny t a 40 [] e')
       split
       .rename_i e2;exact Vr 6 t _ _ (hx _ (ny t _ 32 [43,32] e2))
       .split
        .rename_i e2;exact Vr 7 t _ _ (hx _ (ny t _ 32 [] e2))
        .exact h1
theorem ZQ(t:List UInt8)(d a:Int)(h0:0<=a)(h:a<=(t.length:Int)):((xE t d a).a:Int)<=(t.length:Int):=by
 have:=UX (dM t (d+1).toNat) t (N6 t _) a.toNat (by omega)
 unfold xE;omega
theorem a0D(t:List UInt8)(a:Int)(p:List UInt8)(h0:0<=a):0<=az t a p:=by
 unfold az;cases cK t a.toNat p<;>simp<;>omega
theorem a0E(t:List UInt8)(a:Int)(p:List UInt8)(h0:0<=a)(h:a<=(t.length:Int)):az t a p<=(t.length:Int):=by
 unfold az
 cases e:cK t a.toNat p
 .exact h
 .rcases TY t _ p e with g|g
  .simp only[b1s];omega
  .subst g;simpa using h
theorem L1(t:List UInt8)(a:Int)(h0:0<=a):0<=Dg t a:=by
 unfold Dg;cases jP t a.toNat<;>simp<;>omega
theorem Rk(t:List UInt8)(a:Int)(h0:0<=a)(h:a<=(t.length:Int)):Dg t a<=(t.length:Int):=by
 unfold Dg
 cases e:jP t a.toNat
 .exact h
 .simp only[jP,a8r,a8p] at e
  simp only[b1s];omega
theorem YR(t:List UInt8)(d a:Int)(h:d<0)(ha:0<=a):(dM t (d+1).toNat a.toNat).e=zX/\(dM t (d+1).toNat a.toNat).ok=false/\((dM t (d+1).toNat a.toNat).a:Int)=a:=by
 rw[show (d+1).toNat=0 by omega]
 exact⟨rfl,rfl,by show ((a.toNat:Nat):Int)=a;omega⟩
theorem B2(t:List UInt8)(d a:Int)(h:¬ d<0)(ha:0<=a):dM t (d+1).toNat a.toNat =
  if cK t a.toNat [48]=true then ⟨J.mk 1 0 [],true,a.toNat+1⟩ else if cK t a.toNat [49]=true then ⟨J.mk 2 0 [],true,a.toNat+1⟩ else
  if cK t a.toNat [116]=true then tU 3 t (a+1).toNat else if cK t a.toNat [97]=true then tU 4 t (a+1).toNat else if cK t a.toNat [40]=false then ⟨zX,false,a.toNat⟩ else
  if cK t (xE t (d - 1) (a+1)).a [32,43,32]=true then tl 6 t (xE t (d - 1) (a+1)) (xE t (d - 1) (((xE t (d - 1) (a+1)).a:Int)+3)) else
  if cK t (xE t (d - 1) (a+1)).a [32]=true then tl 7 t (xE t (d - 1) (a+1)) (xE t (d - 1) (((xE t (d - 1) (a+1)).a:Int)+1)) else
  ⟨zX,false,(xE t (d - 1) (a+1)).a⟩:=by
 obtain⟨D,hD⟩:∃ D:Nat,d=(D:Int):=⟨d.toNat,by omega⟩
 subst hD
 have e1:((D:Int)+1).toNat=D+1:=by omega
 have e2:((D:Int) - 1+1).toNat=D:=by omega
 have e3:(a+1).toNat=a.toNat+1:=by omega
 have e4:∀ n:Nat,((n:Int)+3).toNat=n+3:=λ n=>by omega
 have e5:∀ n:Nat,((n:Int)+1).toNat=n+1:=λ n=>by omega
 unfold xE
 rw[e1,e2,e3]
 simp only[e4,e5]
 rw[dM]
theorem DQ(t:List UInt8)(a:Int)(p:List UInt8)(h:cK t a.toNat p=false):az t a p=a:=by unfold az;rw[h];rfl
theorem xi(t:List UInt8)(a:Int)(c:UInt8)(h:cK t a.toNat [c]=true):az t a [c]=a+1:=by unfold az;rw[h];rfl
theorem a4j(t:List UInt8)(a:Int)(c d e:UInt8)(h:cK t a.toNat [c,d,e]=true):az t a [c,d,e]=a+3:=by unfold az;rw[h];rfl
theorem a0V(k:Int)(t:List UInt8)(a:Int)(h:0<=a):tU k t a.toNat=⟨J.mk k (Ib t a) [],jP t a.toNat,(Dg t a).toNat⟩:=by
 unfold tU Ib Dg
 cases jP t a.toNat
 .rfl
 .simp only[b1s,RI.mk.injEq,a9l];omega
theorem X9(k:Int)(t:List UInt8)(x y:RI):(tl k t x y).e=J.mk k 0 [x.e,y.e]:=by unfold tl;cases x.ok&&y.ok&&cK t y.a [41]<;>rfl
theorem Vs(k:Int)(t:List UInt8)(x y:RI):(tl k t x y).ok=(x.ok&&y.ok&&cK t y.a [41]):=by unfold tl;cases x.ok&&y.ok&&cK t y.a [41]<;>rfl
theorem X8(k:Int)(t:List UInt8)(x y:RI):((tl k t x y).a:Int)=bif x.ok&&y.ok then az t (y.a:Int) [41] else (y.a:Int):=by
 unfold tl az
 rw[a8E]
 cases x.ok<;>cases y.ok<;>cases cK t y.a [41]<;>rfl
theorem XV(k:Int)(t:List UInt8)(a:Int)(h:0<=a):(tU k t (a+1).toNat).e=J.mk k (Ib t (a+1)) []/\(tU k t (a+1).toNat).ok=jP t (a+1).toNat/\((tU k t (a+1).toNat).a:Int)=Dg t (a+1):=by
 rw[a0V k t (a+1) (by omega)]
 have:=L1 t (a+1) (by omega)
 exact⟨rfl,rfl,by show ((Dg t (a+1)).toNat:Int)=_;omega⟩
theorem UQ(c:UInt8):∀ (l:List UInt8) (k:Nat),k<=jA c l->(k<jA c l↔∃ r,l.drop k=c::r)
 | [],k,h=>by simp[jA]
 | b::l,k,h=>by
  unfold jA at h ⊢
  split at h
  .rename_i e
   rw[a8O e]
   cases k with
   | zero=>exact⟨λ _=>⟨l,by rw[e];rfl⟩,λ _=>by omega⟩
   | succ k =>
    have:=UQ c l k (by omega)
    rw[b1l,<-this];omega
  .rename_i e
   rw[a8y e]
   have hk:k=0:=by omega
   subst hk
   refine⟨λ h=>by omega,λ ⟨r,hr⟩=>?_⟩
   simp only[b0C,a8z] at hr
   exact absurd hr.1 e
theorem a0F(t:List UInt8)(n k:Nat)(c:UInt8)(h:k<=jA c (t.drop n)):cK t (n+k) [c]=decide (k<jA c (t.drop n)):=by
 have h1:=UQ c (t.drop n) k h
 rw[a9Y] at h1
 rw[b1A,a8p,h1,Nr]
 exact⟨λ ⟨r,hr⟩=>⟨r,hr⟩,λ ⟨r,hr⟩=>⟨r,hr⟩⟩
theorem a6a(t:List UInt8)(a:Int)(k:Nat)(ha:0<=a)(h:k<=nE t a):cK t (a+(k:Int)).toNat [126]=decide (k<nE t a):=by
 rw[show (a+(k:Int)).toNat=a.toNat+k by omega];exact a0F t a.toNat k 126 h
theorem a5Z(t:List UInt8)(d a:Int)(k:Nat)(h:k<=mE t d a):cK t (((rE t d a).a:Int)+(k:Int)).toNat [42]=decide (k<mE t d a):=by
 rw[show (((rE t d a).a:Int)+(k:Int)).toNat=(rE t d a).a+k by omega];exact a0F t _ k 42 h
theorem a2V(t:List UInt8)(a:Int)(h0:0<=a)(h:a<=(t.length:Int)):a+(nE t a:Int)<=(t.length:Int):=by
 have:=Hu 126 t a.toNat (by omega)
 unfold nE;omega
theorem a5R(t:List UInt8)(d a:Int)(h0:0<=a)(h:a<=(t.length:Int)):((rE t d a).a:Int)+(mE t d a:Int)<=(t.length:Int):=by
 have h1:=a2V t a h0 h
 have h2:=N6 t (d+1).toNat (a.toNat+nE t a) (by omega)
 have h3:=Hu 42 t _ h2
 have:(rE t d a).a+mE t d a<=t.length:=h3
 omega
theorem a3b(t:List UInt8)(d a:Int)(ha:0<=a):dM t (d+1).toNat (a+(nE t a:Int)).toNat=rE t d a:=by
 rw[show (a+(nE t a:Int)).toNat=a.toNat+nE t a by omega];rfl
theorem ZP(t:List UInt8)(d a:Int):xE t d a=if 40<nE t a then ⟨zX,false,a.toNat+nE t a⟩ else if 41<mE t d a then ⟨zX,false,(rE t d a).a+42⟩ else
  ⟨aX 8 (mE t d a) (aX 5 (nE t a) (rE t d a).e),(rE t d a).ok,(rE t d a).a+mE t d a⟩:=rfl
theorem a3u(t:List UInt8)(d a:Int)(ha:0<=a)(h:40<nE t a):(xE t d a).e=zX/\(xE t d a).ok=false/\((xE t d a).a:Int)=a+(nE t a:Int):=by
 rw[ZP,a8O h]
 exact⟨rfl,rfl,by show ((a.toNat+nE t a:Nat):Int)=_;omega⟩
theorem a1z(t:List UInt8)(d a:Int)(h:¬ 40<nE t a)(h2:41<mE t d a):(xE t d a).e=zX/\(xE t d a).ok=false/\((xE t d a).a:Int)=((rE t d a).a:Int)+42:=by
 rw[ZP,a8y h,a8O h2]
 exact⟨rfl,rfl,rfl⟩
theorem a3t(t:List UInt8)(d a:Int)(h:¬ 40<nE t a)(h2:¬ 41<mE t d a):(xE t d a).e=aX 8 (mE t d a) (aX 5 (nE t a) (rE t d a).e)/\(xE t d a).ok=(rE t d a).ok/\((xE t d a).a:Int)=((rE t d a).a:Int)+(mE t d a:Int):=by
 rw[ZP,a8y h,a8y h2]
 exact⟨rfl,rfl,rfl⟩
structure Ww(r:RI)(e:J)(ok:Bool)(a:Int):Prop where
 e:r.e=e
 ok:r.ok=ok
 a:(r.a:Int)=a
def dj(t:List UInt8)(d a:Int):RI:=dM t (d+1).toNat a.toNat
theorem a3C(t:List UInt8)(d a:Int)(h:d<0)(ha:0<=a):Ww (dj t d a) zX false a:=by
 obtain⟨h1,h2,h3⟩:=YR t d a h ha
 exact⟨h1,h2,h3⟩
theorem a6v(t:List UInt8)(d a:Int)(h:¬ d<0)(ha:0<=a)(h1:cK t a.toNat [48]=true):Ww (dj t d a) (J.mk 1 0 []) true (a+1):=by
 unfold dj;rw[B2 t d a h ha,if_pos h1]
 exact⟨rfl,rfl,by show ((a.toNat+1:Nat):Int)=_;omega⟩
theorem a6w(t:List UInt8)(d a:Int)(h:¬ d<0)(ha:0<=a)(h1:cK t a.toNat [48]=false)(h2:cK t a.toNat [49]=true):Ww (dj t d a) (J.mk 2 0 []) true (a+1):=by
 unfold dj;rw[B2 t d a h ha,if_neg (by rw[h1];decide),if_pos h2]
 exact⟨rfl,rfl,by show ((a.toNat+1:Nat):Int)=_;omega⟩
theorem a5r(t:List UInt8)(d a:Int)(h:¬ d<0)(ha:0<=a)(h1:cK t a.toNat [48]=false)(h2:cK t a.toNat [49]=false)(h3:cK t a.toNat [116]=true):Ww (dj t d a) (J.mk 3 (Ib t (a+1)) []) (jP t (a+1).toNat) (Dg t (a+1)):=by
 unfold dj;rw[B2 t d a h ha,if_neg (by rw[h1];decide),if_neg (by rw[h2];decide),if_pos h3]
 obtain⟨g1,g2,g3⟩:=XV 3 t a ha
 exact⟨g1,g2,g3⟩
theorem a6x(t:List UInt8)(d a:Int)(h:¬ d<0)(ha:0<=a)(h1:cK t a.toNat [48]=false)(h2:cK t a.toNat [49]=false)(h3:cK t a.toNat [116]=false)(h4:cK t a.toNat [97]=true):Ww (dj t d a) (J.mk 4 (Ib t (a+1)) []) (jP t (a+1).toNat) (Dg t (a+1)):=by
 unfold dj;rw[B2 t d a h ha,if_neg (by rw[h1];decide),if_neg (by rw[h2];decide),if_neg (by rw[h3];decide),if_pos h4]
 obtain⟨g1,g2,g3⟩:=XV 4 t a ha
 exact⟨g1,g2,g3⟩
theorem a6y(t:List UInt8)(d a:Int)(h:¬ d<0)(ha:0<=a)(h1:cK t a.toNat [48]=false)(h2:cK t a.toNat [49]=false)(h3:cK t a.toNat [116]=false)(h4:cK t a.toNat [97]=false)(h5:cK t a.toNat [40]=false):Ww (dj t d a) zX false a:=by
 unfold dj;rw[B2 t d a h ha,if_neg (by rw[h1];decide),if_neg (by rw[h2];decide),if_neg (by rw[h3];decide),if_neg (by rw[h4];decide),if_pos h5]
 exact⟨rfl,rfl,by show ((a.toNat:Nat):Int)=_;omega⟩
def prP(t:List UInt8)(x y:RI):Int:=bif x.ok&&y.ok then az t (y.a:Int) [41] else (y.a:Int)
theorem Rs(t:List UInt8)(x y:RI)(h:x.ok=false\/y.ok=false):prP t x y=(y.a:Int):=by unfold prP;rcases h with h|h<;>rw[h]<;>simp
theorem a0q(t:List UInt8)(x y:RI)(h:x.ok=true)(h':y.ok=true):prP t x y=az t (y.a:Int) [41]:=by unfold prP;rw[h,h'];rfl
theorem a6u(t:List UInt8)(d a:Int)(h:¬ d<0)(ha:0<=a)(h1:cK t a.toNat [48]=false)(h2:cK t a.toNat [49]=false)(h3:cK t a.toNat [116]=false)(h4:cK t a.toNat [97]=false)(h5:cK t a.toNat [40]=true)(X:RI)(hX:X=xE t (d - 1) (a+1)) :
  (cK t X.a [32,43,32]=true->Ww (dj t d a) (J.mk 6 0 [X.e,(xE t (d - 1) ((X.a:Int)+3)).e]) (X.ok&&(xE t (d - 1) ((X.a:Int)+3)).ok&&cK t (xE t (d - 1) ((X.a:Int)+3)).a [41]) (prP t X (xE t (d - 1) ((X.a:Int)+3)))) /\
  (cK t X.a [32,43,32]=false->cK t X.a [32]=true->Ww (dj t d a) (J.mk 7 0 [X.e,(xE t (d - 1) ((X.a:Int)+1)).e]) (X.ok&&(xE t (d - 1) ((X.a:Int)+1)).ok&&cK t (xE t (d - 1) ((X.a:Int)+1)).a [41]) (prP t X (xE t (d - 1) ((X.a:Int)+1)))) /\
  (cK t X.a [32,43,32]=false->cK t X.a [32]=false->Ww (dj t d a) zX false (X.a:Int)):=by
 unfold dj;rw[B2 t d a h ha,if_neg (by rw[h1];decide),if_neg (by rw[h2];decide),if_neg (by rw[h3];decide),if_neg (by rw[h4];decide),if_neg (by rw[h5];decide),<-hX]
 refine⟨λ e=>?_,λ e e'=>?_,λ e e'=>?_⟩
 .rw[a8O e];exact⟨X9 _ _ _ _,Vs _ _ _ _,X8 _ _ _ _⟩
 .rw[a8y (by rw[e];decide),a8O e'];exact⟨X9 _ _ _ _,Vs _ _ _ _,X8 _ _ _ _⟩
 .rw[a8y (by rw[e];decide),a8y (by rw[e'];decide)];exact⟨rfl,rfl,rfl⟩
def gn(n:Nat):iV:=⟨qh,[[.d .str, .d (.int .i64)]],[.b 0, .v (.int .i64)],[[.str,(.int .i64)]],λ (d:Int) (t:List UInt8) (a:Int)=>⟨(some (2 * (d+1).toNat<n/\0<=a/\a<=(t.length:Int)/\t.length<=10000 /\ -1<=d/\d<=40),[⟨(.st .expr),(dj t d a).e⟩,⟨.bool,(dj t d a).ok⟩],[[⟨.str,t⟩,⟨(.int .i64),((dj t d a).a:Int)⟩]])⟩⟩
def gp(n:Nat):iV:=⟨lu,[[.d .str, .d (.int .i64)]],[.b 0, .v (.int .i64)],[[.str,(.int .i64)]],λ (d:Int) (t:List UInt8) (a:Int)=>⟨(some (2 * (d+1).toNat+1<n/\0<=a/\a<=(t.length:Int)/\t.length<=10000 /\ -1<=d/\d<=40),[⟨(.st .expr),(xE t d a).e⟩,⟨.bool,(xE t d a).ok⟩],[[⟨.str,t⟩,⟨(.int .i64),((xE t d a).a:Int)⟩]])⟩⟩
def kR:iV:=⟨lu,[[.d .str, .d (.int .i64)]],[.b 0, .v (.int .i64)],[[.str,(.int .i64)]],λ (d:Int) (t:List UInt8) (a:Int)=>⟨(some (0<=a/\a<=(t.length:Int)/\t.length<=10000 /\ -1<=d/\d<=40),[⟨(.st .expr),(xE t d a).e⟩,⟨.bool,(xE t d a).ok⟩],[[⟨.str,t⟩,⟨(.int .i64),((xE t d a).a:Int)⟩]])⟩⟩
def vv(d:Int)(t:List UInt8)(a:Int):Nat->aH:=λ _ => .none
theorem Fw(n:Nat)(d:Int)(t:List UInt8)(a:Int):ck (cY [] [qy,iQ] [] [22,26,36,47,57,70,76,77] [] [] [] [dD,gm,gp n]) (au fM) (vv d t a) 0 (kV (cY [] [qy,iQ] [] [22,26,36,47,57,70,76,77] [] [] [] [dD,gm,gp n]) fM [[.d .str, .d (.int .i64)]] λ r ds=>bp r [⟨(.st .expr),(dj t d a).e⟩,⟨.bool,(dj t d a).ok⟩]/\ng ds [[⟨.str,t⟩,⟨(.int .i64),((dj t d a).a:Int)⟩]]) (cR fM [.box 0, .val ⟨(.int .i64),d⟩] [[.d .str, .d (.int .i64)]] [[⟨.str,t⟩,⟨(.int .i64),a⟩]]) =
 ((((decide (d<(0:Int)))=true ->
 ((zE=((dj t d a).e)/\false=((dj t d a).ok))/\((t=t/\a=((dj t d a).a:Int))/\True)))/\((decide (d<(0:Int)))=false ->
 ((0<=a/\a<=(t.length:Int)/\t.length<=10000/\([48]).length<=10/\1<=([48]).length)/\(((cK t a.toNat ([48]))=true ->
 (((ag (J.mk (1:Int) (0:Int) []))=((dj t d a).e)/\true=((dj t d a).ok))/\((t=t/\(az t a ([48]))=((dj t d a).a:Int))/\True)))/\((cK t a.toNat ([48]))=false ->
 ((0<=(az t a ([48]))/\(az t a ([48]))<=(t.length:Int)/\t.length<=10000/\([49]).length<=10/\1<=([49]).length)/\(((cK t (az t a ([48])).toNat ([49]))=true ->
 (((ag (J.mk (2:Int) (0:Int) []))=((dj t d a).e)/\true=((dj t d a).ok))/\((t=t/\(az t (az t a ([48])) ([49]))=((dj t d a).a:Int))/\True)))/\((cK t (az t a ([48])).toNat ([49]))=false ->
 ((0<=(az t (az t a ([48])) ([49]))/\(az t (az t a ([48])) ([49]))<=(t.length:Int)/\t.length<=10000/\([116]).length<=10/\1<=([116]).length)/\(((cK t (az t (az t a ([48])) ([49])).toNat ([116]))=true ->
 ((0<=(az t (az t (az t a ([48])) ([49])) ([116]))/\(az t (az t (az t a ([48])) ([49])) ([116]))<=(t.length:Int)/\t.length<=10000)/\(O (Ib t (az t (az t (az t a ([48])) ([49])) ([116]))) ->
 (((ag (J.mk (3:Int) (Ib t (az t (az t (az t a ([48])) ([49])) ([116]))) []))=((dj t d a).e)/\(jP t (az t (az t (az t a ([48])) ([49])) ([116])).toNat)=((dj t d a).ok))/\((t=t/\(Dg t (az t (az t (az t a ([48])) ([49])) ([116])))=((dj t d a).a:Int))/\True)))))/\((cK t (az t (az t a ([48])) ([49])).toNat ([116]))=false ->
 ((0<=(az t (az t (az t a ([48])) ([49])) ([116]))/\(az t (az t (az t a ([48])) ([49])) ([116]))<=(t.length:Int)/\t.length<=10000/\([97]).length<=10/\1<=([97]).length)/\(((cK t (az t (az t (az t a ([48])) ([49])) ([116])).toNat ([97]))=true ->
 ((0<=(az t (az t (az t (az t a ([48])) ([49])) ([116])) ([97]))/\(az t (az t (az t (az t a ([48])) ([49])) ([116])) ([97]))<=(t.length:Int)/\t.length<=10000)/\(O (Ib t (az t (az t (az t (az t a ([48])) ([49])) ([116])) ([97]))) ->
 (((ag (J.mk (4:Int) (Ib t (az t (az t (az t (az t a ([48])) ([49])) ([116])) ([97]))) []))=((dj t d a).e)/\(jP t (az t (az t (az t (az t a ([48])) ([49])) ([116])) ([97])).toNat)=((dj t d a).ok))/\((t=t/\(Dg t (az t (az t (az t (az t a ([48])) ([49])) ([116])) ([97])))=((dj t d a).a:Int))/\True)))))/\((cK t (az t (az t (az t a ([48])) ([49])) ([116])).toNat ([97]))=false ->
 ((0<=(az t (az t (az t (az t a ([48])) ([49])) ([116])) ([97]))/\(az t (az t (az t (az t a ([48])) ([49])) ([116])) ([97]))<=(t.length:Int)/\t.length<=10000/\([40]).length<=10/\1<=([40]).length)/\(((!(cK t (az t (az t (az t (az t a ([48])) ([49])) ([116])) ([97])).toNat ([40])))=true ->
 ((zE=((dj t d a).e)/\false=((dj t d a).ok))/\((t=t/\(az t (az t (az t (az t (az t a ([48])) ([49])) ([116])) ([97])) ([40]))=((dj t d a).a:Int))/\True)))/\((!(cK t (az t (az t (az t (az t a ([48])) ([49])) ([116])) ([97])).toNat ([40])))=false ->
 (O (d - (1:Int))/\((2 * ((d - (1:Int))+1).toNat+1<n/\0<=(az t (az t (az t (az t (az t a ([48])) ([49])) ([116])) ([97])) ([40]))/\(az t (az t (az t (az t (az t a ([48])) ([49])) ([116])) ([97])) ([40]))<=(t.length:Int)/\t.length<=10000 /\ -1<=(d - (1:Int))/\(d - (1:Int))<=40)/\((0<=(((xE t (d - (1:Int)) (az t (az t (az t (az t (az t a ([48])) ([49])) ([116])) ([97])) ([40]))).a:Int))/\(((xE t (d - (1:Int)) (az t (az t (az t (az t (az t a ([48])) ([49])) ([116])) ([97])) ([40]))).a:Int))<=(t.length:Int)/\t.length<=10000/\([32,43,32]).length<=10/\1<=([32,43,32]).length)/\(((cK t (((xE t (d - (1:Int)) (az t (az t (az t (az t (az t a ([48])) ([49])) ([116])) ([97])) ([40]))).a:Int)).toNat ([32,43,32]))=true ->
 (O (d - (1:Int))/\((2 * ((d - (1:Int))+1).toNat+1<n/\0<=(az t (((xE t (d - (1:Int)) (az t (az t (az t (az t (az t a ([48])) ([49])) ([116])) ([97])) ([40]))).a:Int)) ([32,43,32]))/\(az t (((xE t (d - (1:Int)) (az t (az t (az t (az t (az t a ([48])) ([49])) ([116])) ([97])) ([40]))).a:Int)) ([32,43,32]))<=(t.length:Int)/\t.length<=10000 /\ -1<=(d - (1:Int))/\(d - (1:Int))<=40)/\((((xE t (d - (1:Int)) (az t (az t (az t (az t (az t a ([48])) ([49])) ([116])) ([97])) ([40]))).ok)=true ->
 ((((xE t (d - (1:Int)) (az t (((xE t (d - (1:Int)) (az t (az t (az t (az t (az t a ([48])) ([49])) ([116])) ([97])) ([40]))).a:Int)) ([32,43,32]))).ok)=true ->
 ((0<=(((xE t (d - (1:Int)) (az t (((xE t (d - (1:Int)) (az t (az t (az t (az t (az t a ([48])) ([49])) ([116])) ([97])) ([40]))).a:Int)) ([32,43,32]))).a:Int))/\(((xE t (d - (1:Int)) (az t (((xE t (d - (1:Int)) (az t (az t (az t (az t (az t a ([48])) ([49])) ([116])) ([97])) ([40]))).a:Int)) ([32,43,32]))).a:Int))<=(t.length:Int)/\t.length<=10000/\([41]).length<=10/\1<=([41]).length)/\(((ag (J.mk (6:Int) 0 ([(ag ((xE t (d - (1:Int)) (az t (az t (az t (az t (az t a ([48])) ([49])) ([116])) ([97])) ([40]))).e)),(ag ((xE t (d - (1:Int)) (az t (((xE t (d - (1:Int)) (az t (az t (az t (az t (az t a ([48])) ([49])) ([116])) ([97])) ([40]))).a:Int)) ([32,43,32]))).e))])))=((dj t d a).e)/\(cK t (((xE t (d - (1:Int)) (az t (((xE t (d - (1:Int)) (az t (az t (az t (az t (az t a ([48])) ([49])) ([116])) ([97])) ([40]))).a:Int)) ([32,43,32]))).a:Int)).toNat ([41]))=((dj t d a).ok))/\((t=t/\(az t (((xE t (d - (1:Int)) (az t (((xE t (d - (1:Int)) (az t (az t (az t (az t (az t a ([48])) ([49])) ([116])) ([97])) ([40]))).a:Int)) ([32,43,32]))).a:Int)) ([41]))=((dj t d a).a:Int))/\True))))/\(((xE t (d - (1:Int)) (az t (((xE t (d - (1:Int)) (az t (az t (az t (az t (az t a ([48])) ([49])) ([116])) ([97])) ([40]))).a:Int)) ([32,43,32]))).ok)=(!true) ->
 (((ag (J.mk (6:Int) 0 ([(ag ((xE t (d - (1:Int)) (az t (az t (az t (az t (az t a ([48])) ([49])) ([116])) ([97])) ([40]))).e)),(ag ((xE t (d - (1:Int)) (az t (((xE t (d - (1:Int)) (az t (az t (az t (az t (az t a ([48])) ([49])) ([116])) ([97])) ([40]))).a:Int)) ([32,43,32]))).e))])))=((dj t d a).e)/\false=((dj t d a).ok))/\((t=t/\(((xE t (d - (1:Int)) (az t (((xE t (d - (1:Int)) (az t (az t (az t (az t (az t a ([48])) ([49])) ([116])) ([97])) ([40]))).a:Int)) ([32,43,32]))).a:Int))=((dj t d a).a:Int))/\True)))))/\(((xE t (d - (1:Int)) (az t (az t (az t (az t (az t a ([48])) ([49])) ([116])) ([97])) ([40]))).ok)=(!true) ->
 ((false=true ->
 ((0<=(((xE t (d - (1:Int)) (az t (((xE t (d - (1:Int)) (az t (az t (az t (az t (az t a ([48])) ([49])) ([116])) ([97])) ([40]))).a:Int)) ([32,43,32]))).a:Int))/\(((xE t (d - (1:Int)) (az t (((xE t (d - (1:Int)) (az t (az t (az t (az t (az t a ([48])) ([49])) ([116])) ([97])) ([40]))).a:Int)) ([32,43,32]))).a:Int))<=(t.length:Int)/\t.length<=10000/\([41]).length<=10/\1<=([41]).length)/\(((ag (J.mk (6:Int) 0 ([(ag ((xE t (d - (1:Int)) (az t (az t (az t (az t (az t a ([48])) ([49])) ([116])) ([97])) ([40]))).e)),(ag ((xE t (d - (1:Int)) (az t (((xE t (d - (1:Int)) (az t (az t (az t (az t (az t a ([48])) ([49])) ([116])) ([97])) ([40]))).a:Int)) ([32,43,32]))).e))])))=((dj t d a).e)/\(cK t (((xE t (d - (1:Int)) (az t (((xE t (d - (1:Int)) (az t (az t (az t (az t (az t a ([48])) ([49])) ([116])) ([97])) ([40]))).a:Int)) ([32,43,32]))).a:Int)).toNat ([41]))=((dj t d a).ok))/\((t=t/\(az t (((xE t (d - (1:Int)) (az t (((xE t (d - (1:Int)) (az t (az t (az t (az t (az t a ([48])) ([49])) ([116])) ([97])) ([40]))).a:Int)) ([32,43,32]))).a:Int)) ([41]))=((dj t d a).a:Int))/\True))))/\(false=(!true) ->
 (((ag (J.mk (6:Int) 0 ([(ag ((xE t (d - (1:Int)) (az t (az t (az t (az t (az t a ([48])) ([49])) ([116])) ([97])) ([40]))).e)),(ag ((xE t (d - (1:Int)) (az t (((xE t (d - (1:Int)) (az t (az t (az t (az t (az t a ([48])) ([49])) ([116])) ([97])) ([40]))).a:Int)) ([32,43,32]))).e))])))=((dj t d a).e)/\false=((dj t d a).ok))/\((t=t/\(((xE t (d - (1:Int)) (az t (((xE t (d - (1:Int)) (az t (az t (az t (az t (az t a ([48])) ([49])) ([116])) ([97])) ([40]))).a:Int)) ([32,43,32]))).a:Int))=((dj t d a).a:Int))/\True)))))))))/\((cK t (((xE t (d - (1:Int)) (az t (az t (az t (az t (az t a ([48])) ([49])) ([116])) ([97])) ([40]))).a:Int)).toNat ([32,43,32]))=false ->
 ((0<=(az t (((xE t (d - (1:Int)) (az t (az t (az t (az t (az t a ([48])) ([49])) ([116])) ([97])) ([40]))).a:Int)) ([32,43,32]))/\(az t (((xE t (d - (1:Int)) (az t (az t (az t (az t (az t a ([48])) ([49])) ([116])) ([97])) ([40]))).a:Int)) ([32,43,32]))<=(t.length:Int)/\t.length<=10000/\([32]).length<=10/\1<=([32]).length)/\(((!(cK t (az t (((xE t (d - (1:Int)) (az t (az t (az t (az t (az t a ([48])) ([49])) ([116])) ([97])) ([40]))).a:Int)) ([32,43,32])).toNat ([32])))=true ->
 ((zE=((dj t d a).e)/\false=((dj t d a).ok))/\((t=t/\(az t (az t (((xE t (d - (1:Int)) (az t (az t (az t (az t (az t a ([48])) ([49])) ([116])) ([97])) ([40]))).a:Int)) ([32,43,32])) ([32]))=((dj t d a).a:Int))/\True)))/\((!(cK t (az t (((xE t (d - (1:Int)) (az t (az t (az t (az t (az t a ([48])) ([49])) ([116])) ([97])) ([40]))).a:Int)) ([32,43,32])).toNat ([32])))=false ->
 (O (d - (1:Int))/\((2 * ((d - (1:Int))+1).toNat+1<n/\0<=(az t (az t (((xE t (d - (1:Int)) (az t (az t (az t (az t (az t a ([48])) ([49])) ([116])) ([97])) ([40]))).a:Int)) ([32,43,32])) ([32]))/\(az t (az t (((xE t (d - (1:Int)) (az t (az t (az t (az t (az t a ([48])) ([49])) ([116])) ([97])) ([40]))).a:Int)) ([32,43,32])) ([32]))<=(t.length:Int)/\t.length<=10000 /\ -1<=(d - (1:Int))/\(d - (1:Int))<=40)/\((((xE t (d - (1:Int)) (az t (az t (az t (az t (az t a ([48])) ([49])) ([116])) ([97])) ([40]))).ok)=true ->
 ((((xE t (d - (1:Int)) (az t (az t (((xE t (d - (1:Int)) (az t (az t (az t (az t (az t a ([48])) ([49])) ([116])) ([97])) ([40]))).a:Int)) ([32,43,32])) ([32]))).ok)=true ->
 ((0<=(((xE t (d - (1:Int)) (az t (az t (((xE t (d - (1:Int)) (az t (az t (az t (az t (az t a ([48])) ([49])) ([116])) ([97])) ([40]))).a:Int)) ([32,43,32])) ([32]))).a:Int))/\(((xE t (d - (1:Int)) (az t (az t (((xE t (d - (1:Int)) (az t (az t (az t (az t (az t a ([48])) ([49])) ([116])) ([97])) ([40]))).a:Int)) ([32,43,32])) ([32]))).a:Int))<=(t.length:Int)/\t.length<=10000/\([41]).length<=10/\1<=([41]).length)/\(((ag (J.mk (7:Int) 0 ([(ag ((xE t (d - (1:Int)) (az t (az t (az t (az t (az t a ([48])) ([49])) ([116])) ([97])) ([40]))).e)),(ag ((xE t (d - (1:Int)) (az t (az t (((xE t (d - (1:Int)) (az t (az t (az t (az t (az t a ([48])) ([49])) ([116])) ([97])) ([40]))).a:Int)) ([32,43,32])) ([32]))).e))])))=((dj t d a).e)/\(cK t (((xE t (d - (1:Int)) (az t (az t (((xE t (d - (1:Int)) (az t (az t (az t (az t (az t a ([48])) ([49])) ([116])) ([97])) ([40]))).a:Int)) ([32,43,32])) ([32]))).a:Int)).toNat ([41]))=((dj t d a).ok))/\((t=t/\(az t (((xE t (d - (1:Int)) (az t (az t (((xE t (d - (1:Int)) (az t (az t (az t (az t (az t a ([48])) ([49])) ([116])) ([97])) ([40]))).a:Int)) ([32,43,32])) ([32]))).a:Int)) ([41]))=((dj t d a).a:Int))/\True))))/\(((xE t (d - (1:Int)) (az t (az t (((xE t (d - (1:Int)) (az t (az t (az t (az t (az t a ([48])) ([49])) ([116])) ([97])) ([40]))).a:Int)) ([32,43,32])) ([32]))).ok)=(!true) ->
 (((ag (J.mk (7:Int) 0 ([(ag ((xE t (d - (1:Int)) (az t (az t (az t (az t (az t a ([48])) ([49])) ([116])) ([97])) ([40]))).e)),(ag ((xE t (d - (1:Int)) (az t (az t (((xE t (d - (1:Int)) (az t (az t (az t (az t (az t a ([48])) ([49])) ([116])) ([97])) ([40]))).a:Int)) ([32,43,32])) ([32]))).e))])))=((dj t d a).e)/\false=((dj t d a).ok))/\((t=t/\(((xE t (d - (1:Int)) (az t (az t (((xE t (d - (1:Int)) (az t (az t (az t (az t (az t a ([48])) ([49])) ([116])) ([97])) ([40]))).a:Int)) ([32,43,32])) ([32]))).a:Int))=((dj t d a).a:Int))/\True)))))/\(((xE t (d - (1:Int)) (az t (az t (az t (az t (az t a ([48])) ([49])) ([116])) ([97])) ([40]))).ok)=(!true) ->
 ((false=true ->
 ((0<=(((xE t (d - (1:Int)) (az t (az t (((xE t (d - (1:Int)) (az t (az t (az t (az t (az t a ([48])) ([49])) ([116])) ([97])) ([40]))).a:Int)) ([32,43,32])) ([32]))).a:Int))/\(((xE t (d - (1:Int)) (az t (az t (((xE t (d - (1:Int)) (az t (az t (az t (az t (az t a ([48])) ([49])) ([116])) ([97])) ([40]))).a:Int)) ([32,43,32])) ([32]))).a:Int))<=(t.length:Int)/\t.length<=10000/\([41]).length<=10/\1<=([41]).length)/\(((ag (J.mk (7:Int) 0 ([(ag ((xE t (d - (1:Int)) (az t (az t (az t (az t (az t a ([48])) ([49])) ([116])) ([97])) ([40]))).e)),(ag ((xE t (d - (1:Int)) (az t (az t (((xE t (d - (1:Int)) (az t (az t (az t (az t (az t a ([48])) ([49])) ([116])) ([97])) ([40]))).a:Int)) ([32,43,32])) ([32]))).e))])))=((dj t d a).e)/\(cK t (((xE t (d - (1:Int)) (az t (az t (((xE t (d - (1:Int)) (az t (az t (az t (az t (az t a ([48])) ([49])) ([116])) ([97])) ([40]))).a:Int)) ([32,43,32])) ([32]))).a:Int)).toNat ([41]))=((dj t d a).ok))/\((t=t/\(az t (((xE t (d - (1:Int)) (az t (az t (((xE t (d - (1:Int)) (az t (az t (az t (az t (az t a ([48])) ([49])) ([116])) ([97])) ([40]))).a:Int)) ([32,43,32])) ([32]))).a:Int)) ([41]))=((dj t d a).a:Int))/\True))))/\(false=(!true) ->
 (((ag (J.mk (7:Int) 0 ([(ag ((xE t (d - (1:Int)) (az t (az t (az t (az t (az t a ([48])) ([49])) ([116])) ([97])) ([40]))).e)),(ag ((xE t (d - (1:Int)) (az t (az t (((xE t (d - (1:Int)) (az t (az t (az t (az t (az t a ([48])) ([49])) ([116])) ([97])) ([40]))).a:Int)) ([32,43,32])) ([32]))).e))])))=((dj t d a).e)/\false=((dj t d a).ok))/\((t=t/\(((xE t (d - (1:Int)) (az t (az t (((xE t (d - (1:Int)) (az t (az t (az t (az t (az t a ([48])) ([49])) ([116])) ([97])) ([40]))).a:Int)) ([32,43,32])) ([32]))).a:Int))=((dj t d a).a:Int))/\True)))))))))))))))))))))))))))))))))):=by kernel_rfl
theorem Fl(n:Nat)(hE:aG [])(hO:fW [qy,iQ])(hM:gZ [])(hS:fX [dD,gm,gp n]):iV.Good (gn (n+1)):=by
 refine⟨aA oU rfl (by decide),?_⟩
 show ∀ (d:Int) (t:List UInt8) (a:Int),(2 * (d+1).toNat<n+1/\0<=a/\a<=(t.length:Int)/\t.length<=10000 /\ -1<=d/\d<=40)->tu prog qh [[.d .str, .d (.int .i64)]] [.box 0, .val ⟨(.int .i64),d⟩] [[⟨.str,t⟩,⟨(.int .i64),a⟩]] [⟨(.st .expr),(dj t d a).e⟩,⟨.bool,(dj t d a).ok⟩] [[⟨.str,t⟩,⟨(.int .i64),((dj t d a).a:Int)⟩]]
 intro d t a hp
 refine iA (own:=[22,26,36,47,57,70,76,77]) (wr:=[]) (cl:=[]) (ro:=[]) hE hO hM hS oU C4 (vv d t a) rfl rfl ?_
 rewrite [Fw n d t a]
 obtain⟨hm,h0,h1,h2,h3,h4⟩:=hp
 by_cases hd:d<0
 .obtain⟨q1,q2,q3⟩:=a3C t d a hd h0
  simp only[a8W hd,q1,q2,q3,a9f,a9b,a8x,a8v,a8B,a8w,a8L,a8M,a8V,a9c,a8F,a9l,a8E,O,aP]
  repeat' (first|intro _|apply And.intro)
  all_goals first|exact True.intro|omega|with_reducible rfl|decide
 .have E8:=a8D hd
  rcases a9o (cK t a.toNat [48]) with AQ|AQ
  .have k:=ny t a.toNat 48 [] AQ
   simp only[a8C,a8N] at k
   obtain⟨q1,q2,q3⟩:=a6v t d a hd h0 AQ
   have b1:=L1 t (a+1) (by omega)
   have b2:=Rk t (a+1) (by omega) (by omega)
   simp only[E8,AQ,xi t a 48 AQ,q1,q2,q3,a9f,a9b,a8x,a8v,a8B,a8w,a8L,a8M,a8V,a9c,a8F,a9l,a8E,O,aP]
   repeat' (first|intro _|apply And.intro)
   all_goals first|exact True.intro|omega|with_reducible rfl|decide
  .have f48:=DQ t a [48] AQ
   rcases a9o (cK t a.toNat [49]) with Dh|Dh
   .have k:=ny t a.toNat 49 [] Dh
    simp only[a8C,a8N] at k
    obtain⟨q1,q2,q3⟩:=a6w t d a hd h0 AQ Dh
    have b1:=L1 t (a+1) (by omega)
    have b2:=Rk t (a+1) (by omega) (by omega)
    simp only[E8,AQ,f48,Dh,xi t a 49 Dh,q1,q2,q3,a9f,a9b,a8x,a8v,a8B,a8w,a8L,a8M,a8V,a9c,a8F,a9l,a8E,O,aP]
    repeat' (first|intro _|apply And.intro)
    all_goals first|exact True.intro|omega|with_reducible rfl|decide
   .have f49:=DQ t a [49] Dh
    rcases a9o (cK t a.toNat [116]) with wF|wF
    .have k:=ny t a.toNat 116 [] wF
     simp only[a8C,a8N] at k
     obtain⟨q1,q2,q3⟩:=a5r t d a hd h0 AQ Dh wF
     have b1:=L1 t (a+1) (by omega)
     have b2:=Rk t (a+1) (by omega) (by omega)
     simp only[E8,AQ,f48,Dh,f49,wF,xi t a 116 wF,q1,q2,q3,a9f,a9b,a8x,a8v,a8B,a8w,a8L,a8M,a8V,a9c,a8F,a9l,a8E,O,aP]
     repeat' (first|intro _|apply And.intro)
     all_goals first|exact True.intro|omega|with_reducible rfl|decide
    .have f116:=DQ t a [116] wF
     rcases a9o (cK t a.toNat [97]) with L2|L2
     .have k:=ny t a.toNat 97 [] L2
      simp only[a8C,a8N] at k
      obtain⟨q1,q2,q3⟩:=a6x t d a hd h0 AQ Dh wF L2
      have b1:=L1 t (a+1) (by omega)
      have b2:=Rk t (a+1) (by omega) (by omega)
      simp only[E8,AQ,f48,Dh,f49,wF,f116,L2,xi t a 97 L2,q1,q2,q3,a9f,a9b,a8x,a8v,a8B,a8w,a8L,a8M,a8V,a9c,a8F,a9l,a8E,O,aP]
      repeat' (first|intro _|apply And.intro)
      all_goals first|exact True.intro|omega|with_reducible rfl|decide
     .have f97:=DQ t a [97] L2
      rcases a9o (cK t a.toNat [40]) with Se|Se
      .have k:=ny t a.toNat 40 [] Se
       simp only[a8C,a8N] at k
       have g1:=xi t a 40 Se
       have b1:=ZQ t (d - 1) (a+1) (by omega) (by omega)
       obtain⟨p1,p2,p3⟩:=a6u t d a hd h0 AQ Dh wF L2 Se _ rfl
       simp only[E8,AQ,f48,Dh,f49,wF,f116,L2,f97,Se,g1,a9f,a9b,a8x,a8v,a8B,a8w,a8L,a8M,a8V,a9c,a8F,a9l,a8E,O,aP]
       generalize xE t (d - 1) (a+1)=X at *
       rcases a9o (cK t X.a [32,43,32]) with eS|eS
       .skip
        have k2:=ny t _ 32 [43,32] eS
        simp only[a8C,a8N] at k2
        have g2:=a4j t (X.a:Int) 32 43 32 (by rw[a8E];exact eS)
        obtain⟨q1,q2,q3⟩:=p1 eS
        have b2:=ZQ t (d - 1) ((X.a:Int)+3) (by omega) (by omega)
        simp only[eS,g2,q1,q2,q3,a9f,a9b,a8x,a8v,a8B,a8w,a8L,a8M,a8V,a9c,a8F,a9l,a8E,O,aP]
        generalize xE t (d - 1) ((X.a:Int)+3)=Y at *
        have b3:=a0D t (Y.a:Int) [41] (by omega)
        have b4:=a0E t (Y.a:Int) [41] (by omega) b2
        rcases a9o X.ok with x1|x1
        .rcases a9o Y.ok with y1|y1
         .simp only[x1,y1,a0q t X Y x1 y1,b0f,a9B,b0O,a9f,a9b,a8x,a8v,a8B,a8w,a8L,a8M,a8V,a9c,a8F,a9l,a8E,O,aP]
          repeat' (first|intro _|apply And.intro)
          all_goals first|exact True.intro|omega|with_reducible rfl|decide
         .simp only[x1,y1,Rs t X Y (.inr y1),b0f,a9B,a9P,a9L,a9f,a9b,a8x,a8v,a8B,a8w,a8L,a8M,a8V,a9c,a8F,a9l,a8E,O,aP]
          repeat' (first|intro _|apply And.intro)
          all_goals first|exact True.intro|omega|with_reducible rfl|decide
        .simp only[x1,Rs t X Y (.inl x1),b0f,a9B,a9P,a9L,a9f,a9b,a8x,a8v,a8B,a8w,a8L,a8M,a8V,a9c,a8F,a9l,a8E,O,aP]
         repeat' (first|intro _|apply And.intro)
         all_goals first|exact True.intro|omega|with_reducible rfl|decide
       .have g3:=DQ t (X.a:Int) [32,43,32] (by rw[a8E];exact eS)
        rcases a9o (cK t X.a [32]) with eD|eD
        .skip
         have k2:=ny t _ 32 [] eD
         simp only[a8C,a8N] at k2
         have g2:=xi t (X.a:Int) 32 (by rw[a8E];exact eD)
         obtain⟨q1,q2,q3⟩:=p2 eS eD
         have b2:=ZQ t (d - 1) ((X.a:Int)+1) (by omega) (by omega)
         simp only[eD,eS,g3,g2,q1,q2,q3,a9f,a9b,a8x,a8v,a8B,a8w,a8L,a8M,a8V,a9c,a8F,a9l,a8E,O,aP]
         generalize xE t (d - 1) ((X.a:Int)+1)=Y at *
         have b3:=a0D t (Y.a:Int) [41] (by omega)
         have b4:=a0E t (Y.a:Int) [41] (by omega) b2
         rcases a9o X.ok with x1|x1
         .rcases a9o Y.ok with y1|y1
          .simp only[x1,y1,a0q t X Y x1 y1,b0f,a9B,b0O,a9f,a9b,a8x,a8v,a8B,a8w,a8L,a8M,a8V,a9c,a8F,a9l,a8E,O,aP]
           repeat' (first|intro _|apply And.intro)
           all_goals first|exact True.intro|omega|with_reducible rfl|decide
          .simp only[x1,y1,Rs t X Y (.inr y1),b0f,a9B,a9P,a9L,a9f,a9b,a8x,a8v,a8B,a8w,a8L,a8M,a8V,a9c,a8F,a9l,a8E,O,aP]
           repeat' (first|intro _|apply And.intro)
           all_goals first|exact True.intro|omega|with_reducible rfl|decide
         .simp only[x1,Rs t X Y (.inl x1),b0f,a9B,a9P,a9L,a9f,a9b,a8x,a8v,a8B,a8w,a8L,a8M,a8V,a9c,a8F,a9l,a8E,O,aP]
          repeat' (first|intro _|apply And.intro)
          all_goals first|exact True.intro|omega|with_reducible rfl|decide
        .have g4:=DQ t (X.a:Int) [32] (by rw[a8E];exact eD)
         obtain⟨q1,q2,q3⟩:=p3 eS eD
         simp only[eS,eD,g3,g4,q1,q2,q3,a9f,a9b,a8x,a8v,a8B,a8w,a8L,a8M,a8V,a9c,a8F,a9l,a8E,O,aP]
         repeat' (first|intro _|apply And.intro)
         all_goals first|exact True.intro|omega|with_reducible rfl|decide
      .have f40:=DQ t a [40] Se
       obtain⟨q1,q2,q3⟩:=a6y t d a hd h0 AQ Dh wF L2 Se
       simp only[E8,AQ,f48,Dh,f49,wF,f116,L2,f97,Se,f40,q1,q2,q3,a9f,a9b,a8x,a8v,a8B,a8w,a8L,a8M,a8V,a9c,a8F,a9l,a8E,O,aP]
       repeat' (first|intro _|apply And.intro)
       all_goals first|exact True.intro|omega|with_reducible rfl|decide
def vw(d:Int)(t:List UInt8)(a:Int):Nat->aH:=(λ zb=>if Nat.beq zb 0 then .mk (Nat) (λ k=>k<=nE t a) (λ k=>nE t a - k) [] [2,3] (λ k=>[(6, .aW ⟨(.int .i64),((k:Int):Int)⟩)]) [0,1,4,5,6,7,8,9,10,11,12,13,14,15,16,17,18,19,20,21,22,23,24,25,26,27,28,29,30,31,32,33,34,35,36,37,38,39,40,41] (λ k=>[(400000, .box [.aW ⟨.str,(t:List UInt8)⟩, .aW ⟨(.int .i64),(a+(k:Int):Int)⟩])]) [] [] (λ k=>λ _ => .none) else if Nat.beq zb 2 then .mk (Nat) (λ j=>j<=nE t a/\nE t a<=40) (λ j=>nE t a - j) [] [1,2,3,10,11,12,13,14,15,16,17,18,19,20,21,22] (λ j=>[(6, .aW ⟨(.int .i64),((nE t a:Int) - (j:Int):Int)⟩)]) [0,4,5,6,8,9,23,24,25,26,27,28,29,30,31,32,33,34,35,36,37,38,39,40,41,400000] (λ j=>[(7, .box [.aW ⟨(.int .i64),((aX 5 j (rE t d a).e).ak:Int)⟩, .aW ⟨(.int .i64),((aX 5 j (rE t d a).e).aI:Int)⟩, .aE 7100]),(7100, .aE (.st .expr) ((aX 5 j (rE t d a).e).M:List J))]) [] [] (λ j=>λ _ => .none) else if Nat.beq zb 4 then .mk (Nat) (λ m=>m<=mE t d a/\m<=41/\nE t a<=40) (λ m=>mE t d a - m) [] [1,2,3,6,10,11,12,13,14,15,16,17,18,19,20,21,22,23,24,25,26,27,28,29] (λ m=>[(9, .aW ⟨(.int .i64),((m:Int):Int)⟩)]) [0,4,5,8,9,30,31,32,33,34,35,36,37,38,39,40,41] (λ m=>[(400000, .box [.aW ⟨.str,(t:List UInt8)⟩, .aW ⟨(.int .i64),(((rE t d a).a:Int)+(m:Int):Int)⟩]),(7, .box [.aW ⟨(.int .i64),((aX 8 m (aX 5 (nE t a) (rE t d a).e)).ak:Int)⟩, .aW ⟨(.int .i64),((aX 8 m (aX 5 (nE t a) (rE t d a).e)).aI:Int)⟩, .aE 7200]),(7200, .aE (.st .expr) ((aX 8 m (aX 5 (nE t a) (rE t d a).e)).M:List J))]) [] [] (λ m=>λ _ => .none) else .none)
theorem Fy(n:Nat)(d:Int)(t:List UInt8)(a:Int):ck (cY [] [iQ] [] [20,28,29,38,39] [] [] [] [dD,gn n]) (au fN) (vw d t a) 0 (kV (cY [] [iQ] [] [20,28,29,38,39] [] [] [] [dD,gn n]) fN [[.d .str, .d (.int .i64)]] λ r ds=>bp r [⟨(.st .expr),(xE t d a).e⟩,⟨.bool,(xE t d a).ok⟩]/\ng ds [[⟨.str,t⟩,⟨(.int .i64),((xE t d a).a:Int)⟩]]) (cR fN [.box 0, .val ⟨(.int .i64),d⟩] [[.d .str, .d (.int .i64)]] [[⟨.str,t⟩,⟨(.int .i64),a⟩]]) =
 (((∃ k1:Nat,(k1<=nE t a/\((True/\(d=d/\(True/\(false=false/\((0:Int)=(k1:Int)/\True)))))/\((t=t/\(a=(a+(k1:Int))/\True))/\(((0:Int)=(0:Int)/\((0:Int)=(0:Int)/\(True/\True)))/\True)))))/\(∀ k1:Nat,(k1<=nE t a ->
 ((0<=(a+(k1:Int))/\(a+(k1:Int))<=(t.length:Int)/\t.length<=10000/\([126]).length<=10/\1<=([126]).length)/\(((cK t (a+(k1:Int)).toNat ([126]))=true ->
 (O ((k1:Int)+(1:Int))/\(∃ k2:Nat,(k2<=nE t a/\(nE t a - k2<nE t a - k1/\((True/\(d=d/\(True/\(false=false/\(((k1:Int)+(1:Int))=(k2:Int)/\True)))))/\((t=t/\((az t (a+(k1:Int)) ([126]))=(a+(k2:Int))/\True))/\(((0:Int)=(0:Int)/\((0:Int)=(0:Int)/\(True/\True)))/\True))))))))/\((cK t (a+(k1:Int)).toNat ([126]))=false ->
 (((decide ((40:Int)<(k1:Int)))=true ->
 ((zE=((xE t d a).e)/\false=((xE t d a).ok))/\((t=t/\(az t (a+(k1:Int)) ([126]))=((xE t d a).a:Int))/\True)))/\((decide ((40:Int)<(k1:Int)))=false ->
 ((2 * (d+1).toNat<n/\0<=(az t (a+(k1:Int)) ([126]))/\(az t (a+(k1:Int)) ([126]))<=(t.length:Int)/\t.length<=10000 /\ -1<=d/\d<=40)/\((∃ j2:Nat,((j2<=nE t a/\nE t a<=40)/\((True/\(True/\(false=false/\((k1:Int)=((nE t a:Int) - (j2:Int))/\(True/\(((dj t d (az t (a+(k1:Int)) ([126]))).ok)=((dj t d (az t (a+(k1:Int)) ([126]))).ok)/\True))))))/\((((dj t d (az t (a+(k1:Int)) ([126]))).e).ak=((aX 5 j2 (rE t d a).e).ak)/\(((dj t d (az t (a+(k1:Int)) ([126]))).e).aI=((aX 5 j2 (rE t d a).e).aI)/\(True/\True)))/\(((dj t d (az t (a+(k1:Int)) ([126]))).e).M=((aX 5 j2 (rE t d a).e).M)/\((t=t/\((((dj t d (az t (a+(k1:Int)) ([126]))).a:Int))=(((dj t d (az t (a+(k1:Int)) ([126]))).a:Int))/\True))/\(((0:Int)=(0:Int)/\((0:Int)=(0:Int)/\(True/\True)))/\True)))))))/\(∀ j2:Nat,((j2<=nE t a/\nE t a<=40) ->
 (((decide ((0:Int)<((nE t a:Int) - (j2:Int))))=true ->
 (O (((nE t a:Int) - (j2:Int)) - (1:Int))/\(∃ j3:Nat,((j3<=nE t a/\nE t a<=40)/\(nE t a - j3<nE t a - j2/\((True/\(True/\(false=false/\((((nE t a:Int) - (j2:Int)) - (1:Int))=((nE t a:Int) - (j3:Int))/\(True/\(((dj t d (az t (a+(k1:Int)) ([126]))).ok)=((dj t d (az t (a+(k1:Int)) ([126]))).ok)/\True))))))/\(((J.mk (5:Int) 0 ([(J.mk ((aX 5 j2 (rE t d a).e).ak) ((aX 5 j2 (rE t d a).e).aI) ((aX 5 j2 (rE t d a).e).M))])).ak=((aX 5 j3 (rE t d a).e).ak)/\((J.mk (5:Int) 0 ([(J.mk ((aX 5 j2 (rE t d a).e).ak) ((aX 5 j2 (rE t d a).e).aI) ((aX 5 j2 (rE t d a).e).M))])).aI=((aX 5 j3 (rE t d a).e).aI)/\(True/\True)))/\((J.mk (5:Int) 0 ([(J.mk ((aX 5 j2 (rE t d a).e).ak) ((aX 5 j2 (rE t d a).e).aI) ((aX 5 j2 (rE t d a).e).M))])).M=((aX 5 j3 (rE t d a).e).M)/\((t=t/\((((dj t d (az t (a+(k1:Int)) ([126]))).a:Int))=(((dj t d (az t (a+(k1:Int)) ([126]))).a:Int))/\True))/\(((0:Int)=(0:Int)/\((0:Int)=(0:Int)/\(True/\True)))/\True))))))))))/\((decide ((0:Int)<((nE t a:Int) - (j2:Int))))=false ->
 ((∃ m3:Nat,((m3<=mE t d a/\m3<=41/\nE t a<=40)/\((True/\(True/\(True/\(((dj t d (az t (a+(k1:Int)) ([126]))).ok)=((dj t d (az t (a+(k1:Int)) ([126]))).ok)/\((0:Int)=(m3:Int)/\True)))))/\((t=t/\((((dj t d (az t (a+(k1:Int)) ([126]))).a:Int))=(((rE t d a).a:Int)+(m3:Int))/\True))/\((((aX 5 j2 (rE t d a).e).ak)=((aX 8 m3 (aX 5 (nE t a) (rE t d a).e)).ak)/\(((aX 5 j2 (rE t d a).e).aI)=((aX 8 m3 (aX 5 (nE t a) (rE t d a).e)).aI)/\(True/\True)))/\(((aX 5 j2 (rE t d a).e).M)=((aX 8 m3 (aX 5 (nE t a) (rE t d a).e)).M)/\(((0:Int)=(0:Int)/\((0:Int)=(0:Int)/\(True/\True)))/\True)))))))/\(∀ m3:Nat,((m3<=mE t d a/\m3<=41/\nE t a<=40) ->
 ((0<=(((rE t d a).a:Int)+(m3:Int))/\(((rE t d a).a:Int)+(m3:Int))<=(t.length:Int)/\t.length<=10000/\([42]).length<=10/\1<=([42]).length)/\(((cK t (((rE t d a).a:Int)+(m3:Int)).toNat ([42]))=true ->
 (((decide ((40:Int)<(m3:Int)))=true ->
 ((zE=((xE t d a).e)/\false=((xE t d a).ok))/\((t=t/\(az t (((rE t d a).a:Int)+(m3:Int)) ([42]))=((xE t d a).a:Int))/\True)))/\((decide ((40:Int)<(m3:Int)))=false ->
 (O ((m3:Int)+(1:Int))/\(∃ m4:Nat,((m4<=mE t d a/\m4<=41/\nE t a<=40)/\(mE t d a - m4<mE t d a - m3/\((True/\(True/\(True/\(((dj t d (az t (a+(k1:Int)) ([126]))).ok)=((dj t d (az t (a+(k1:Int)) ([126]))).ok)/\(((m3:Int)+(1:Int))=(m4:Int)/\True)))))/\((t=t/\((az t (((rE t d a).a:Int)+(m3:Int)) ([42]))=(((rE t d a).a:Int)+(m4:Int))/\True))/\(((J.mk (8:Int) 0 ([(J.mk ((aX 8 m3 (aX 5 (nE t a) (rE t d a).e)).ak) ((aX 8 m3 (aX 5 (nE t a) (rE t d a).e)).aI) ((aX 8 m3 (aX 5 (nE t a) (rE t d a).e)).M))])).ak=((aX 8 m4 (aX 5 (nE t a) (rE t d a).e)).ak)/\((J.mk (8:Int) 0 ([(J.mk ((aX 8 m3 (aX 5 (nE t a) (rE t d a).e)).ak) ((aX 8 m3 (aX 5 (nE t a) (rE t d a).e)).aI) ((aX 8 m3 (aX 5 (nE t a) (rE t d a).e)).M))])).aI=((aX 8 m4 (aX 5 (nE t a) (rE t d a).e)).aI)/\(True/\True)))/\((J.mk (8:Int) 0 ([(J.mk ((aX 8 m3 (aX 5 (nE t a) (rE t d a).e)).ak) ((aX 8 m3 (aX 5 (nE t a) (rE t d a).e)).aI) ((aX 8 m3 (aX 5 (nE t a) (rE t d a).e)).M))])).M=((aX 8 m4 (aX 5 (nE t a) (rE t d a).e)).M)/\(((0:Int)=(0:Int)/\((0:Int)=(0:Int)/\(True/\True)))/\True))))))))))))/\((cK t (((rE t d a).a:Int)+(m3:Int)).toNat ([42]))=false ->
 (((J.mk ((aX 8 m3 (aX 5 (nE t a) (rE t d a).e)).ak) ((aX 8 m3 (aX 5 (nE t a) (rE t d a).e)).aI) ((aX 8 m3 (aX 5 (nE t a) (rE t d a).e)).M))=((xE t d a).e)/\((dj t d (az t (a+(k1:Int)) ([126]))).ok)=((xE t d a).ok))/\((t=t/\(az t (((rE t d a).a:Int)+(m3:Int)) ([42]))=((xE t d a).a:Int))/\True))))))))))))))))))))))):=by kernel_rfl
theorem Fm(n:Nat)(hE:aG [])(hO:fW [iQ])(hM:gZ [])(hS:fX [dD,gn n]):iV.Good (gp (n+1)):=by
 refine⟨aA kG rfl (by decide),?_⟩
 show ∀ (d:Int) (t:List UInt8) (a:Int),(2 * (d+1).toNat+1<n+1/\0<=a/\a<=(t.length:Int)/\t.length<=10000 /\ -1<=d/\d<=40)->tu prog lu [[.d .str, .d (.int .i64)]] [.box 0, .val ⟨(.int .i64),d⟩] [[⟨.str,t⟩,⟨(.int .i64),a⟩]] [⟨(.st .expr),(xE t d a).e⟩,⟨.bool,(xE t d a).ok⟩] [[⟨.str,t⟩,⟨(.int .i64),((xE t d a).a:Int)⟩]]
 intro d t a hp
 refine iA (own:=[20,28,29,38,39]) (wr:=[]) (cl:=[]) (ro:=[]) hE hO hM hS kG C5 (vw d t a) rfl rfl ?_
 rewrite [Fy n d t a]
 obtain⟨hm,h0,h1,h2,h3,h4⟩:=hp
 have n1:=a2V t a h0 h1
 have n2:=a5R t d a h0 h1
 have z1:=λ k h=>a6a t a k h0 h
 have z2:=λ k h=>a5Z t d a k h
 have c1:dj t d (a+(nE t a:Int))=rE t d a:=a3b t d a h0
 simp only[a9f,a9b,a8x,a8v,a8B,a8w,a8L,a8M,a8V,a9c,a8F,a9l,a8E,O,aP]
 refine⟨⟨0,a9J _,by omega⟩,λ k1 hk=>⟨?_,λ e1=>?_,λ e1=>?_⟩⟩
 .repeat' (first|intro _|apply And.intro)
  all_goals first|exact True.intro|omega|with_reducible rfl|decide
 .have g:=z1 k1 hk
  rw[e1] at g
  have g':=a9e g.symm
  rw[xi t _ 126 e1]
  exact⟨by omega,k1+1,by omega,by omega,by omega,by omega⟩
 .have g:=z1 k1 hk
  rw[e1] at g
  have g':=b0m g.symm
  have Ol:k1=nE t a:=by omega
  subst Ol
  have f1:=DQ t _ [126] e1
  by_cases hn:40<nE t a
  .obtain⟨x1,x2,x3⟩:=a3u t d a h0 hn
   simp only[f1,(a8W (by omega):decide ((40:Int)<(nE t a:Int))=true),x1,x2,x3,a9f,a9b,a8x,a8v,a8B,a8w,a8L,a8M,a8V,a9c,a8F,a9l,a8E,O,aP]
   repeat' (first|intro _|apply And.intro)
   all_goals first|exact True.intro|omega|with_reducible rfl|decide
  .simp only[f1,c1,(a8D (by omega):decide ((40:Int)<(nE t a:Int))=false),a9f,a9b,a8x,a8v,a8B,a8w,a8L,a8M,a8V,a9c,a8F,a9l,a8E,O,aP]
   refine⟨by omega,⟨0,⟨a9J _,by omega⟩,by omega,⟨rfl,rfl⟩,rfl⟩,λ j2 hj=>⟨λ e2=>?_,λ e2=>?_⟩⟩
   .have e2':=a9e e2
    exact⟨by omega,j2+1,⟨by omega,by omega⟩,by omega,by omega,⟨by rw[eh],by rw[eh]⟩,by rw[eh,J.eta]⟩
   .have e2':=b0m e2
    have hj2:j2=nE t a:=by omega
    subst hj2
    refine⟨⟨0,⟨a9J _,by omega,by omega⟩,rfl,by omega,⟨rfl,rfl⟩,rfl⟩,λ m3 hm3=>⟨⟨by omega,by omega,by omega,by decide,by decide⟩,λ e3=>⟨λ e4=>?_,λ e4=>?_⟩,λ e3=>?_⟩⟩
    .have g3:=z2 m3 hm3.1
     rw[e3] at g3
     have g3':=a9e g3.symm
     have e4':=a9e e4
     obtain⟨x1,x2,x3⟩:=a1z t d a hn (by omega)
     rw[xi t _ 42 e3,x1,x2,x3]
     exact⟨⟨rfl,rfl⟩,by omega⟩
    .have g3:=z2 m3 hm3.1
     rw[e3] at g3
     have g3':=a9e g3.symm
     have e4':=b0m e4
     rw[xi t _ 42 e3]
     exact⟨by omega,m3+1,⟨by omega,by omega,by omega⟩,by omega,by omega,by omega,⟨by rw[eh],by rw[eh]⟩,by rw[eh,J.eta]⟩
    .have g3:=z2 m3 hm3.1
     rw[e3] at g3
     have g3':=b0m g3.symm
     have hm:m3=mE t d a:=by omega
     subst hm
     obtain⟨x1,x2,x3⟩:=a3t t d a hn (by omega)
     rw[DQ t _ _ e3,x1,x2,x3,J.eta]
     exact⟨⟨rfl,rfl⟩,rfl⟩
theorem UK:∀ n,fX [gn n,gp n]
 | 0=>⟨⟨aA oU rfl (by decide),λ _ _ _ h=>absurd h.1 (a9p _)⟩,⟨aA kG rfl (by decide),λ _ _ _ h=>absurd h.1 (a9p _)⟩,trivial⟩
 | n+1=>by
  have ih:=UK n
  exact⟨Fl n trivial ⟨OA,CJ,trivial⟩ trivial ⟨so,Bh,ih.2.1,trivial⟩,Fm n trivial ⟨CJ,trivial⟩ trivial ⟨so,ih.1,trivial⟩,trivial⟩
theorem CM:iV.Good kR :=
 ⟨aA kG rfl (by decide),λ d t a hp=>(UK (2 * (d+1).toNat+1+1)).2.1.2 d t a (⟨a9h _,hp⟩)⟩
end
end Go.Proofs.YtmjfpcajohhbeaaGreatDoor

set_option maxRecDepth 4000
set_option maxHeartbeats 4000000
namespace Go.Proofs.YtmjfpcajohhbeaaGreatDoor
noncomputable section
theorem Sa(c:UInt8):∀ l:List UInt8,jA c l<=l.length
 | []=>a9i _
 | b::l=>by
  have:=Sa c l
  unfold jA
  split<;>simp<;>omega
theorem R8:∀ l:List UInt8,qq l<=l.length
 | []=>a9i _
 | b::l=>by
  have:=R8 l
  unfold qq
  split<;>simp<;>omega
theorem uO(t:List UInt8)(a:Nat)(h:¬ bQ t a=0):a<t.length:=by
 unfold bQ at h
 split at h
 .assumption
 .exact absurd rfl h
theorem DP(t:List UInt8)(a:Nat)(c:Int)(hc:¬ c=0)(h:a<=t.length):bB t a c<=t.length:=by
 unfold bB
 split
 .rename_i e
  have:=uO t a (by rw[e];exact hc)
  omega
 .exact h
theorem a1q(t:List UInt8)(r:RS)(h:r.a<=t.length):(Bj t r).a<=t.length/\(Bj t r).dp=r.dp - 1:=by
 have:=Sa 42 (t.drop r.a)
 simp only[a9w] at this
 unfold Bj
 split
 .exact⟨h,rfl⟩
 .exact⟨by show r.a+jA 42 (t.drop r.a)<=_;omega,rfl⟩
structure VH(t:List UInt8)(dp m:Nat)(r:RS):Prop where
 a:r.a<=t.length
 lo:dp<=r.dp
 hi:r.dp<=m
theorem Hv(inner:Nat->Nat->RS)(t:List UInt8)(a dp:Nat)(bad:Bool)(ha:a<=t.length)(hi:dp+1<=100->bad=false->VH t (dp+1) 102 (inner a (dp+1))):VH t dp (max 101 (dp+1)) (en inner t a dp bad):=by
 unfold en
 split
 .exact⟨ha,b2d _,by show dp+1<=_;omega⟩
 .rename_i h
  have hb:bad=false:=by cases bad<;>simp_all
  have g:=hi (by omega) hb
  have s:=a1q t _ g.a
  have:=g.lo;have:=g.hi
  exact⟨s.1,by rw[s.2];omega,by rw[s.2];omega⟩
theorem Tw(inner:Nat->Nat->RS)(t:List UInt8)(x:RS)(k:Int)(a dp:Nat)(bad:Bool)(hd:dp<=100)(ha:a<=t.length)(hx:VH t dp 101 x)(hb:bad=false->x.dp=dp)(hi:dp+1<=100->∀ a,a<=t.length->VH t (dp+1) 102 (inner a (dp+1))) :
  VH t dp 102 (Be inner t x k a bad):=by
 have:=hx.lo;have:=hx.hi
 have hy:=Hv inner t a x.dp bad ha (λ h1 h2=>by rw[hb h2] at h1 ⊢;exact hi h1 a ha)
 have:=hy.lo;have:=hy.hi
 unfold Be
 exact⟨DP t _ 41 (by decide) hy.a,by show dp<=(en inner t a x.dp bad).dp;omega,by show (en inner t a x.dp bad).dp<=102;omega⟩
theorem CP(t:List UInt8)(a:Nat)(c:Int)(bad:Bool)(h:bR t a c bad=false):bad=false:=by
 unfold bR at h
 split at h
 .exact h
 .cases h
theorem Vt(inner:Nat->Nat->RS)(t:List UInt8)(x:RS)(dp:Nat)(hd:dp<=100)(hx:VH t dp 101 x)(hb:x.bad=false->x.dp=dp)(hi:dp+1<=100->∀ a,a<=t.length->VH t (dp+1) 102 (inner a (dp+1))) :
  VH t dp 102 (wu inner t x):=by
 have h1:=DP t x.a 32 (by decide) hx.a
 unfold wu
 split
 .rename_i e
  have h2:=uO t (bB t x.a 32) (by rw[e];decide)
  exact Tw inner t x 6 _ dp _ hd (DP t _ 32 (by decide) (by omega)) hx (λ h=>hb (CP t _ _ _ (CP t _ _ _ h))) hi
 .exact Tw inner t x 7 _ dp _ hd h1 hx (λ h=>hb (CP t _ _ _ h)) hi
theorem kK(t:List UInt8)(g a dp:Nat):cA t g a dp=if bQ t a=48 then ⟨J.mk 1 0 [],a+1,dp,false⟩ else if bQ t a=49 then ⟨J.mk 2 0 [],a+1,dp,false⟩ else
  if bQ t a=116\/bQ t a=97 then cU t a dp else
  if bQ t a=126 then (match g with
   | 0=>⟨zX,a+1,dp+1,true⟩
   | g+1=>⟨J.mk 5 0 [(cA t g (a+1) (dp+1)).e],(cA t g (a+1) (dp+1)).a,(cA t g (a+1) (dp+1)).dp - 1,(cA t g (a+1) (dp+1)).bad⟩) else
  if bQ t a=40 then (match g with
   | 0=>wu (λ _ _=>⟨zX,0,0,true⟩) t (en (λ _ _=>⟨zX,0,0,true⟩) t (a+1) dp false)
   | g+1=>wu (cA t g) t (en (cA t g) t (a+1) dp false)) else ⟨zX,a,dp,true⟩:=by
 exact cA.eq_def t g a dp
theorem xS(t:List UInt8):∀ (g a dp:Nat),g+dp=100->a<=t.length->VH t dp 102 (cA t g a dp)
 | g,a,dp,hg,ha=>by
  have lt:∀ c:Int,¬ c=0->bQ t a=c->a+1<=t.length:=λ c hc h=>uO t a (by rw[h];exact hc)
  rw[kK]
  split
  .rename_i h;exact⟨lt _ (by decide) h,a9i _,by show dp<=102;omega⟩
  .split
   .rename_i h;exact⟨lt _ (by decide) h,a9i _,by show dp<=102;omega⟩
   .split
    .rename_i h
     have h1:a+1<=t.length:=by rcases h with h|h<;>exact lt _ (by decide) h
     have:=R8 (t.drop (a+1))
     simp only[a9w] at this
     exact⟨by show a+1+qq (t.drop (a+1))<=_;omega,a9i _,by show dp<=102;omega⟩
    .split
     .rename_i h
      have h1:=lt _ (by decide) h
      cases g with
      | zero=>exact⟨h1,b2d _,by show dp+1<=102;omega⟩
      | succ g =>
       have ih:=xS t g (a+1) (dp+1) (by omega) h1
       have:=ih.lo;have:=ih.hi
       exact⟨ih.a,by show dp<=(cA t g (a+1) (dp+1)).dp - 1;omega,by show (cA t g (a+1) (dp+1)).dp - 1<=102;omega⟩
     .split
      .rename_i h
       have h1:=lt _ (by decide) h
       cases g with
       | zero =>
        have hx:=Hv (λ _ _=>⟨zX,0,0,true⟩) t (a+1) dp false h1 (λ h=>by omega)
        refine Vt _ t _ dp (by omega) ⟨hx.a,hx.lo,by have:=hx.hi;omega⟩ (λ hb=>?_) (λ h=>by omega)
        exact ((tL (λ _ _=>⟨zX,0,0,true⟩) t (a+1) dp false (λ h=>by omega)).ex hb).1
       | succ g =>
        have hx:=Hv (cA t g) t (a+1) dp false h1 (λ _ _=>xS t g (a+1) (dp+1) (by omega) h1)
        refine Vt _ t _ dp (by omega) ⟨hx.a,hx.lo,by have:=hx.hi;omega⟩ (λ hb=>?_) (λ _ a' ha'=>xS t g a' (dp+1) (by omega) ha')
        exact ((tL (cA t g) t (a+1) dp false (λ _=>Du t g (a+1) (dp+1) (by omega))).ex hb).1
      .exact⟨ha,a9i _,by show dp<=102;omega⟩
def aV(t:List UInt8)(a dp:Int):RS:=cA t (100 - dp).toNat a.toNat dp.toNat
def bH(t:List UInt8)(a dp:Int)(bad:Bool):RS:=en (cA t (99 - dp).toNat) t a.toNat dp.toNat bad
def sE(t:List UInt8)(r:RS):Nat:=if r.bad=true then 0 else jA 42 (t.drop r.a)
theorem a3l(t:List UInt8)(r:RS):Bj t r=⟨aX 8 (sE t r) r.e,r.a+sE t r,r.dp - 1,r.bad⟩:=by
 unfold Bj sE
 cases r.bad<;>rfl
theorem MB(t:List UInt8)(a dp:Int)(h0:0<=a)(h1:a<=(t.length:Int))(h2:0<=dp)(h3:dp<=100):((aV t a dp).a:Int)<=(t.length:Int)/\dp<=((aV t a dp).dp:Int)/\((aV t a dp).dp:Int)<=102:=by
 have g:=xS t (100 - dp).toNat a.toNat dp.toNat (by omega) (by omega)
 have:=g.a;have:=g.lo;have:=g.hi
 unfold aV;omega
theorem Rl(t:List UInt8)(a dp:Int)(bad:Bool)(h0:0<=a)(h1:a<=(t.length:Int))(h2:0<=dp):((bH t a dp bad).a:Int)<=(t.length:Int)/\dp<=((bH t a dp bad).dp:Int)/\(((bH t a dp bad).dp:Int)<=101\/((bH t a dp bad).dp:Int)<=dp+1):=by
 have g:=Hv (cA t (99 - dp).toNat) t a.toNat dp.toNat bad (by omega) (λ h _=>xS t (99 - dp).toNat a.toNat (dp.toNat+1) (by omega) (by omega))
 have:=g.a;have:=g.lo;have:=g.hi
 unfold bH;omega
theorem Xp(t:List UInt8)(a dp:Int)(bad:Bool)(h0:0<=a)(h2:0<=dp)(h:bad=true\/100<dp+1):(bH t a dp bad).e=zX/\((bH t a dp bad).a:Int)=a/\((bH t a dp bad).dp:Int)=dp+1/\(bH t a dp bad).bad=true:=by
 unfold bH en
 rw[a8O (by rcases h with h|h;exact .inl h;exact .inr (by omega))]
 exact⟨rfl,by show ((a.toNat:Nat):Int)=a;omega,by show ((dp.toNat+1:Nat):Int)=dp+1;omega,rfl⟩
theorem a5s(t:List UInt8)(a dp:Int)(bad:Bool)(h0:0<=a)(h2:0<=dp)(h:bad=false)(h':¬ 100<dp+1):bH t a dp bad=Bj t (aV t a (dp+1)):=by
 unfold bH en aV
 rw[a8y (by rw[h];rintro (g|g);cases g;omega),show (100 - (dp+1)).toNat=(99 - dp).toNat by omega,show (dp+1).toNat=dp.toNat+1 by omega]
theorem a3F(t:List UInt8)(a dp:Int)(bad:Bool)(h0:0<=a)(h1:a<=(t.length:Int))(h2:0<=dp)(h:bad=false)(h':¬ 100<dp+1):(bH t a dp bad).e=aX 8 (sE t (aV t a (dp+1))) (aV t a (dp+1)).e/\((bH t a dp bad).a:Int)=((aV t a (dp+1)).a:Int)+(sE t (aV t a (dp+1)):Int) /\
  ((bH t a dp bad).dp:Int)=((aV t a (dp+1)).dp:Int) - 1/\(bH t a dp bad).bad=(aV t a (dp+1)).bad:=by
 have:=MB t a (dp+1) h0 h1 (by omega) (by omega)
 rw[a5s t a dp bad h0 h2 h h',a3l]
 refine⟨rfl,by simp,?_,rfl⟩
 show (((aV t a (dp+1)).dp - 1:Nat):Int)=_
 omega
theorem a5U(t:List UInt8)(a dp:Int)(h0:0<=a)(h1:a<=(t.length:Int))(h2:0<=dp)(h3:dp<=100):((aV t a dp).a:Int)+(sE t (aV t a dp):Int)<=(t.length:Int):=by
 have:=MB t a dp h0 h1 h2 h3
 have h:=Sa 42 (t.drop (aV t a dp).a)
 simp only[a9w] at h
 unfold sE
 split<;>omega
structure Wz(r:RS)(e:J)(a dp:Int)(bad:Bool):Prop where
 e:r.e=e
 a:(r.a:Int)=a
 dp:(r.dp:Int)=dp
 bad:r.bad=bad
theorem a7m(t:List UInt8)(a dp:Int)(h0:0<=a)(h2:0<=dp)(h:bQ t a.toNat=48):Wz (aV t a dp) (J.mk 1 0 []) (a+1) dp false:=by
 unfold aV;rw[kK,if_pos h]
 exact⟨rfl,by show ((a.toNat+1:Nat):Int)=_;omega,by show ((dp.toNat:Nat):Int)=_;omega,rfl⟩
theorem a7n(t:List UInt8)(a dp:Int)(h0:0<=a)(h2:0<=dp)(h:bQ t a.toNat=49):Wz (aV t a dp) (J.mk 2 0 []) (a+1) dp false:=by
 unfold aV;rw[kK,if_neg (by rw[h];decide),if_pos h]
 exact⟨rfl,by show ((a.toNat+1:Nat):Int)=_;omega,by show ((dp.toNat:Nat):Int)=_;omega,rfl⟩
theorem XR(t:List UInt8)(a dp:Int)(h:bQ t a.toNat=116\/bQ t a.toNat=97):aV t a dp=cU t a.toNat dp.toNat:=by
 unfold aV;rw[kK,if_neg (by rcases h with h|h<;>rw[h]<;>decide),if_neg (by rcases h with h|h<;>rw[h]<;>decide),if_pos h]
theorem a3R(t:List UInt8)(a dp:Int)(h0:0<=a)(h1:a+1<=(t.length:Int))(h2:0<=dp)(h3:¬ 100<dp+1)(h:bQ t a.toNat=126):Wz (aV t a dp) (J.mk 5 0 [(aV t (a+1) (dp+1)).e]) ((aV t (a+1) (dp+1)).a:Int) (((aV t (a+1) (dp+1)).dp:Int) - 1) (aV t (a+1) (dp+1)).bad:=by
 have hb:=MB t (a+1) (dp+1) (by omega) (by omega) (by omega) (by omega)
 have e:aV t a dp=⟨J.mk 5 0 [(aV t (a+1) (dp+1)).e],(aV t (a+1) (dp+1)).a,(aV t (a+1) (dp+1)).dp - 1,(aV t (a+1) (dp+1)).bad⟩:=by
  unfold aV
  obtain⟨g,hg⟩:∃ g,(100 - dp).toNat=g+1:=⟨(99 - dp).toNat,by omega⟩
  rw[show (100 - (dp+1)).toNat=g by omega,show (a+1).toNat=a.toNat+1 by omega,show (dp+1).toNat=dp.toNat+1 by omega,hg]
  conv=>lhs;rw[kK]
  rw[a8y (by rw[h];decide),a8y (by rw[h];decide),a8y (by rw[h];decide),a8O h]
 rw[e]
 exact⟨rfl,rfl,by show (((aV t (a+1) (dp+1)).dp - 1:Nat):Int)=_;omega,rfl⟩
theorem a2G(t:List UInt8)(a dp:Int)(h0:0<=a)(h2:0<=dp)(h3:100<dp+1)(h:bQ t a.toNat=126):Wz (aV t a dp) zX (a+1) (dp+1) true:=by
 unfold aV
 rw[show (100 - dp).toNat=0 by omega,kK,a8y (by rw[h];decide),a8y (by rw[h];decide),a8y (by rw[h];decide),a8O h]
 exact⟨rfl,by show ((a.toNat+1:Nat):Int)=_;omega,by show ((dp.toNat+1:Nat):Int)=_;omega,rfl⟩
theorem a2H(t:List UInt8)(a dp:Int)(h0:0<=a)(h2:0<=dp)(h:¬ bQ t a.toNat=48/\¬ bQ t a.toNat=49/\¬ bQ t a.toNat=116/\¬ bQ t a.toNat=97/\¬ bQ t a.toNat=126/\¬ bQ t a.toNat=40):Wz (aV t a dp) zX a dp true:=by
 unfold aV
 rw[kK,a8y h.1,a8y h.2.1,a8y (by rintro (g|g);exact h.2.2.1 g;exact h.2.2.2.1 g),a8y h.2.2.2.2.1,a8y h.2.2.2.2.2]
 exact⟨rfl,by show ((a.toNat:Nat):Int)=_;omega,by show ((dp.toNat:Nat):Int)=_;omega,rfl⟩
def yE(t:List UInt8)(x:RS)(a:Int)(bad:Bool):RS:=bH t a (x.dp:Int) bad
theorem Vq(inner:Nat->Nat->RS)(t:List UInt8)(x:RS)(k:Int)(a:Nat)(bad:Bool)(hi:en inner t a x.dp bad=yE t x (a:Int) bad) :
  Wz (Be inner t x k a bad) (J.mk k 0 [x.e,(yE t x (a:Int) bad).e]) ((bB t (yE t x (a:Int) bad).a 41:Nat):Int) ((yE t x (a:Int) bad).dp:Int) (bR t (yE t x (a:Int) bad).a 41 (yE t x (a:Int) bad).bad):=by
 unfold Be
 rw[hi]
 exact⟨rfl,rfl,rfl,rfl⟩
theorem a2I(t:List UInt8)(a dp:Int)(h0:0<=a)(h1:a+1<=(t.length:Int))(h2:0<=dp)(h3:dp<=100)(h:bQ t a.toNat=40)(X:RS)(hX:X=bH t (a+1) dp false) :
  (bQ t (bB t X.a 32)=43->Wz (aV t a dp) (J.mk 6 0 [X.e,(yE t X ((bB t (bB t X.a 32+1) 32:Nat):Int) (bR t (bB t X.a 32+1) 32 (bR t X.a 32 X.bad))).e]) ((bB t (yE t X ((bB t (bB t X.a 32+1) 32:Nat):Int) (bR t (bB t X.a 32+1) 32 (bR t X.a 32 X.bad))).a 41:Nat):Int)
   ((yE t X ((bB t (bB t X.a 32+1) 32:Nat):Int) (bR t (bB t X.a 32+1) 32 (bR t X.a 32 X.bad))).dp:Int) (bR t (yE t X ((bB t (bB t X.a 32+1) 32:Nat):Int) (bR t (bB t X.a 32+1) 32 (bR t X.a 32 X.bad))).a 41 (yE t X ((bB t (bB t X.a 32+1) 32:Nat):Int) (bR t (bB t X.a 32+1) 32 (bR t X.a 32 X.bad))).bad)) /\
  (¬ bQ t (bB t X.a 32)=43->Wz (aV t a dp) (J.mk 7 0 [X.e,(yE t X ((bB t X.a 32:Nat):Int) (bR t X.a 32 X.bad)).e]) ((bB t (yE t X ((bB t X.a 32:Nat):Int) (bR t X.a 32 X.bad)).a 41:Nat):Int)
   ((yE t X ((bB t X.a 32:Nat):Int) (bR t X.a 32 X.bad)).dp:Int) (bR t (yE t X ((bB t X.a 32:Nat):Int) (bR t X.a 32 X.bad)).a 41 (yE t X ((bB t X.a 32:Nat):Int) (bR t X.a 32 X.bad)).bad)):=by
 have key:∃ inner:Nat->Nat->RS,aV t a dp=wu inner t X/\∀ (a:Nat) (bad:Bool),(bad=false->X.bad=false)->en inner t a X.dp bad=yE t X (a:Int) bad:=by
  have hXd:X.bad=false->X.dp=dp.toNat:=by
   intro hb
   rw[hX] at hb ⊢
   exact ((tL (cA t (99 - dp).toNat) t (a+1).toNat dp.toNat false (λ h=>Du t _ _ _ (by omega))).ex hb).1
  by_cases hd:dp<100
  .obtain⟨g,hg⟩:∃ g,(100 - dp).toNat=g+1:=⟨(99 - dp).toNat,by omega⟩
   refine⟨cA t g,?_,λ a' bad hb=>?_⟩
   .have eX:X=en (cA t g) t (a.toNat+1) dp.toNat false:=by
     rw[hX,bH,show (99 - dp).toNat=g by omega,show (a+1).toNat=a.toNat+1 by omega]
    unfold aV
    rw[hg]
    conv=>lhs;rw[kK]
    rw[a8y (by rw[h];decide),a8y (by rw[h];decide),a8y (by rw[h];decide),a8y (by rw[h];decide),a8O h,eX]
   .unfold yE bH
    rw[a8E,a8E]
    cases bad with
    | true=>rfl
    | false=>rw[hXd (hb rfl),show (99 - (dp.toNat:Int)).toNat=g by omega]
  .have hz:(100 - dp).toNat=0:=by omega
   refine⟨λ _ _=>⟨zX,0,0,true⟩,?_,λ a' bad hb=>?_⟩
   .have eX:X=en (λ _ _=>⟨zX,0,0,true⟩) t (a.toNat+1) dp.toNat false:=by
     rw[hX,bH,show (a+1).toNat=a.toNat+1 by omega]
     unfold en
     rw[a8O (.inr (by omega)),a8O (.inr (by omega))]
    unfold aV
    rw[hz]
    conv=>lhs;rw[kK]
    rw[a8y (by rw[h];decide),a8y (by rw[h];decide),a8y (by rw[h];decide),a8y (by rw[h];decide),a8O h,eX]
   .have hlo:dp.toNat<=X.dp:=by
     have:=Rl t (a+1) dp false (by omega) (by omega) h2
     rw[<-hX] at this;omega
    unfold yE bH
    rw[a8E,a8E]
    unfold en
    rw[a8O (.inr (by omega)),a8O (.inr (by omega))]
 obtain⟨inner,k1,k2⟩:=key
 rw[k1]
 unfold wu
 refine⟨λ hp=>?_,λ hp=>?_⟩
 .rw[a8O hp]
  exact Vq inner t X 6 _ _ (k2 _ _ λ hb=>CP t _ _ _ (CP t _ _ _ hb))
 .rw[a8y hp]
  exact Vq inner t X 7 _ _ (k2 _ _ λ hb=>CP t _ _ _ hb)
theorem R9:∀ (l:List UInt8) (k:Nat),k<=qq l->(k<qq l↔∃ b r,l.drop k=b::r/\gH b=true)
 | [],k,h=>by simp[qq]
 | b::l,k,h=>by
  unfold qq at h ⊢
  split at h
  .rename_i e
   rw[a8O e]
   cases k with
   | zero=>exact⟨λ _=>⟨b,l,rfl,e⟩,λ _=>by omega⟩
   | succ k =>
    have:=R9 l k (by omega)
    rw[b1l,<-this];omega
  .rename_i e
   rw[a8y e]
   have hk:k=0:=by omega
   subst hk
   refine⟨λ h=>by omega,λ ⟨c,r,hr,hc⟩=>?_⟩
   simp only[b0C,a8z] at hr
   rw[hr.1] at e
   exact absurd hc e
theorem a3Y(t:List UInt8)(n k:Nat)(h:k<=qq (t.drop n)):(48<=bQ t (n+k)/\bQ t (n+k)<=57)↔k<qq (t.drop n):=by
 rw[R9 _ k h,a9Y]
 constructor
 .intro hp
  have hl:=uO t (n+k) (by omega)
  refine⟨t.getD (n+k) 0,t.drop (n+k+1),?_,?_⟩
  .rw[b0h hl,a8H,a8P hl];rfl
  .unfold bQ at hp
   rw[a8O hl] at hp
   unfold gH
   rw[a8W (by omega),a8W (by omega)];rfl
 .rintro⟨b,r,h1,h2⟩
  rw[im h1]
  simp only[gH,a8r,a8p] at h2
  omega
def nD(t:List UInt8)(a:Int):Nat:=qq (t.drop (a+1).toNat)
theorem a5N(t:List UInt8)(a:Int)(k:Nat)(h0:0<=a)(h:k<=nD t a):(48<=bQ t (a+1+(k:Int)).toNat/\bQ t (a+1+(k:Int)).toNat<=57)↔k<nD t a:=by
 rw[show (a+1+(k:Int)).toNat=(a+1).toNat+k by omega]
 exact a3Y t _ k h
theorem a5H(t:List UInt8)(a:Int)(h0:0<=a)(h1:a+1<=(t.length:Int)):a+1+(nD t a:Int)<=(t.length:Int):=by
 have:=R8 (t.drop (a+1).toNat)
 simp only[a9w] at this
 unfold nD;omega
def nmE(t:List UInt8)(a:Int):List UInt8:=(t.drop (a+1).toNat).take (nD t a)
def zg(t:List UInt8)(a:Int):Int:=if bQ t a.toNat=97 then 4 else 3
theorem a5J(t:List UInt8)(a:Int)(h:bQ t a.toNat=97):zg t a=4:=a8O h
theorem a5I(t:List UInt8)(a:Int)(h:¬ bQ t a.toNat=97):zg t a=3:=a8y h
theorem Ta(t:List UInt8)(a dp:Int)(h0:0<=a)(h2:0<=dp):Wz (cU t a.toNat dp.toNat) (J.mk (zg t a) (il 9 (nmE t a)) []) (a+1+(nD t a:Int)) dp (!kU 9 (nmE t a)):=by
 unfold cU nmE Th nD
 rw[show (a+1).toNat=a.toNat+1 by omega]
 exact⟨rfl,by show ((a.toNat+1+qq (t.drop (a.toNat+1)):Nat):Int)=_;omega,by show ((dp.toNat:Nat):Int)=_;omega,rfl⟩
theorem Rr(t:List UInt8)(a:Int)(k:Nat)(h0:0<=a)(h:k=nD t a):(t.take (Int.toNat (a+1+(k:Int)))).drop (Int.toNat (a+1))=nmE t a:=by
 rw[b1G]
 unfold nmE
 congr 1;omega
theorem a4g(t:List UInt8)(r:RS)(h:r.bad=true):sE t r=0:=by unfold sE;rw[if_pos h]
theorem a5T(t:List UInt8)(r:RS)(m:Nat)(h:r.bad=false)(hm:m<=sE t r):bQ t ((r.a:Int)+(m:Int)).toNat=42↔m<sE t r:=by
 have e:sE t r=jA 42 (t.drop r.a):=by unfold sE;rw[h];rfl
 rw[e] at hm ⊢
 rw[show ((r.a:Int)+(m:Int)).toNat=r.a+m by omega]
 have key:∀ (l:List UInt8) (k:Nat),k<=jA 42 l->(k<jA 42 l↔∃ r,l.drop k=42::r):=by
  intro l
  induction l with
  | nil=>intro k h;simp[jA]
  | cons b l ih =>
   intro k h
   unfold jA at h ⊢
   split at h
   .rename_i e
    rw[a8O e]
    cases k with
    | zero=>exact⟨λ _=>⟨l,by rw[e];rfl⟩,λ _=>by omega⟩
    | succ k =>
     have:=ih k (by omega)
     rw[b1l,<-this];omega
   .rename_i e
    rw[a8y e]
    have hk:k=0:=by omega
    subst hk
    refine⟨λ h=>by omega,λ ⟨r,hr⟩=>?_⟩
    simp only[b0C,a8z] at hr
    exact absurd hr.1 e
 rw[key _ m hm,a9Y]
 constructor
 .intro hp;exact vz t _ 42 (by decide) hp
 .rintro⟨r,hr⟩;exact im hr
theorem a7B(t:List UInt8)(a c:Int)(h0:0<=a)(h:bQ t a.toNat=c):((bB t a.toNat c:Nat):Int)=a+1/\bR t a.toNat c false=false:=by
 unfold bB bR;rw[if_pos h,if_pos h]
 exact⟨by omega,rfl⟩
def bG:iV:=⟨nt,[[.d .str, .d (.int .i64), .d (.int .i64), .d .bool]],[.b 0],[[.str,(.int .i64),(.int .i64), .bool]],λ (t:List UInt8) (a:Int) (dp:Int) (bad:Bool)=>⟨(some (0<=a/\a<=(t.length:Int)/\t.length<=10000),[⟨(.int .u8),bQ t a.toNat⟩],[[⟨.str,t⟩,⟨(.int .i64),a⟩,⟨(.int .i64),dp⟩,⟨.bool,bad⟩]])⟩⟩
def sb(t:List UInt8)(a:Int)(dp:Int)(bad:Bool):Nat->aH:=λ _ => .none
theorem Bp(t:List UInt8)(a:Int)(dp:Int)(bad:Bool):ck (cY [] [] [] [] []) (au eu) (sb t a dp bad) 0 (kV (cY [] [] [] [] []) eu [[.d .str, .d (.int .i64), .d (.int .i64), .d .bool]] λ r ds=>bp r [⟨(.int .u8),bQ t a.toNat⟩]/\ng ds [[⟨.str,t⟩,⟨(.int .i64),a⟩,⟨(.int .i64),dp⟩,⟨.bool,bad⟩]]) (cR eu [.box 0] [[.d .str, .d (.int .i64), .d (.int .i64), .d .bool]] [[⟨.str,t⟩,⟨(.int .i64),a⟩,⟨(.int .i64),dp⟩,⟨.bool,bad⟩]]) =
 ((O a ->
 (t.length<=140737488355328 ->
 (O ((t.length:Int)) ->
 (((decide (a<((t.length:Int))))=true ->
 (t.length<=140737488355328 ->
 (O a ->
 (aw a t.length/\((((t.getD (Int.toNat a) 0).toNat:Int))=(bQ t a.toNat)/\((t=t/\(a=a/\(dp=dp/\bad=bad)))/\True))))))/\((decide (a<((t.length:Int))))=false ->
 ((0:Int)=(bQ t a.toNat)/\((t=t/\(a=a/\(dp=dp/\bad=bad)))/\True)))))))):=by kernel_rfl
theorem Bb(hE:aG [])(hO:fW [])(hM:gZ [])(hS:fX []):iV.Good bG:=by
 refine⟨aA rP rfl (by decide),?_⟩
 show ∀ (t:List UInt8) (a:Int) (dp:Int) (bad:Bool),(0<=a/\a<=(t.length:Int)/\t.length<=10000)->tu prog nt [[.d .str, .d (.int .i64), .d (.int .i64), .d .bool]] [.box 0] [[⟨.str,t⟩,⟨(.int .i64),a⟩,⟨(.int .i64),dp⟩,⟨.bool,bad⟩]] [⟨(.int .u8),bQ t a.toNat⟩] [[⟨.str,t⟩,⟨(.int .i64),a⟩,⟨(.int .i64),dp⟩,⟨.bool,bad⟩]]
 intro t a dp bad hp
 refine iA (own:=[]) (wr:=[]) (cl:=[]) (ro:=[]) hE hO hM hS rP y7 (sb t a dp bad) rfl rfl ?_
 rewrite [Bp t a dp bad]
 refine λ _ _ _=>⟨λ _ _ _=>⟨?_,?_,⟨rfl,rfl,rfl,rfl⟩,trivial⟩,λ _=>⟨?_,⟨rfl,rfl,rfl,rfl⟩,trivial⟩⟩
 all_goals try and_intros
 all_goals first|rfl|trivial|omega|(simp only[decide_eq_true_eq,decide_eq_false_iff_not,aw,O] at *;first|omega|grind [bQ,bB,bR])
theorem ef:iV.Good bG:=Bb trivial trivial trivial trivial
def fv:iV:=⟨nu,[[.d .str, .d (.int .i64), .d (.int .i64), .d .bool]],[.b 0, .v (.int .u8)],[[.str,(.int .i64),(.int .i64), .bool]],λ (b:Int) (t:List UInt8) (a:Int) (dp:Int) (bad:Bool)=>⟨(some (0<=a/\a<=(t.length:Int)/\t.length<=10000),[],[[⟨.str,t⟩,⟨(.int .i64),((bB t a.toNat b:Nat):Int)⟩,⟨(.int .i64),dp⟩,⟨.bool,bR t a.toNat b bad⟩]])⟩⟩
def sd(b:Int)(t:List UInt8)(a:Int)(dp:Int)(bad:Bool):Nat->aH:=λ _ => .none
theorem Bq(b:Int)(t:List UInt8)(a:Int)(dp:Int)(bad:Bool):ck (cY [] [] [] [] [] [] [] [bG]) (au ew) (sd b t a dp bad) 0 (kV (cY [] [] [] [] [] [] [] [bG]) ew [[.d .str, .d (.int .i64), .d (.int .i64), .d .bool]] λ r ds=>bp r []/\ng ds [[⟨.str,t⟩,⟨(.int .i64),((bB t a.toNat b:Nat):Int)⟩,⟨(.int .i64),dp⟩,⟨.bool,bR t a.toNat b bad⟩]]) (cR ew [.box 0, .val ⟨(.int .u8),b⟩] [[.d .str, .d (.int .i64), .d (.int .i64), .d .bool]] [[⟨.str,t⟩,⟨(.int .i64),a⟩,⟨(.int .i64),dp⟩,⟨.bool,bad⟩]]) =
 (((0<=a/\a<=(t.length:Int)/\t.length<=10000)/\(((!(decide ((bQ t a.toNat)=b)))=true ->
 (True/\((t=t/\(a=((bB t a.toNat b:Nat):Int)/\(dp=dp/\true=(bR t a.toNat b bad))))/\True)))/\((!(decide ((bQ t a.toNat)=b)))=false ->
 (O a ->
 (O (a+(1:Int))/\(True/\((t=t/\((a+(1:Int))=((bB t a.toNat b:Nat):Int)/\(dp=dp/\bad=(bR t a.toNat b bad))))/\True)))))))):=by kernel_rfl
theorem Bc(hE:aG [])(hO:fW [])(hM:gZ [])(hS:fX [bG]):iV.Good fv:=by
 refine⟨aA rQ rfl (by decide),?_⟩
 show ∀ (b:Int) (t:List UInt8) (a:Int) (dp:Int) (bad:Bool),(0<=a/\a<=(t.length:Int)/\t.length<=10000)->tu prog nu [[.d .str, .d (.int .i64), .d (.int .i64), .d .bool]] [.box 0, .val ⟨(.int .u8),b⟩] [[⟨.str,t⟩,⟨(.int .i64),a⟩,⟨(.int .i64),dp⟩,⟨.bool,bad⟩]] [] [[⟨.str,t⟩,⟨(.int .i64),((bB t a.toNat b:Nat):Int)⟩,⟨(.int .i64),dp⟩,⟨.bool,bR t a.toNat b bad⟩]]
 intro b t a dp bad hp
 refine iA (own:=[]) (wr:=[]) (cl:=[]) (ro:=[]) hE hO hM hS rQ y8 (sd b t a dp bad) rfl rfl ?_
 rewrite [Bq b t a dp bad]
 obtain⟨h0,h1,h2⟩:=hp
 by_cases h:bQ t a.toNat=b
 .have e1:((bB t a.toNat b:Nat):Int)=a+1:=by unfold bB;rw[if_pos h];omega
  have e2:bR t a.toNat b bad=bad:=by unfold bR;rw[if_pos h]
  simp only[e1,e2,h,a9f,a9b,a8x,a8v,a8B,a8w,a8L,a8M,a8V,a9c,O]
  repeat' (first|intro _|apply And.intro)
  all_goals first|trivial|omega
 .have e1:((bB t a.toNat b:Nat):Int)=a:=by unfold bB;rw[if_neg h];omega
  have e2:bR t a.toNat b bad=true:=by unfold bR;rw[if_neg h]
  simp only[e1,e2,h,a9f,a9b,a8x,a8v,a8B,a8w,a8L,a8M,a8V,a9c,O]
  repeat' (first|intro _|apply And.intro)
  all_goals first|trivial|omega
theorem yJ:iV.Good fv:=Bc trivial trivial trivial ⟨ef,trivial⟩
def fu:iV:=⟨nr,[[.d .str, .d (.int .i64), .d (.int .i64), .d .bool]],[.b 0],[[.str,(.int .i64),(.int .i64), .bool]],λ (t:List UInt8) (a:Int) (dp:Int) (bad:Bool)=>⟨(some (0<=a/\a<=(t.length:Int)/\t.length<=10000/\0<=dp/\(bQ t a.toNat=116\/bQ t a.toNat=97)/\bad=false),[⟨(.st .expr),(cU t a.toNat dp.toNat).e⟩],[[⟨.str,t⟩,⟨(.int .i64),((cU t a.toNat dp.toNat).a:Int)⟩,⟨(.int .i64),dp⟩,⟨.bool,(cU t a.toNat dp.toNat).bad⟩]])⟩⟩
def r9(t:List UInt8)(a:Int)(dp:Int)(bad:Bool):Nat->aH:=(λ zb=>if Nat.beq zb 0 then .mk (Nat) (λ k=>k<=nD t a) (λ k=>nD t a - k) [] [1,7,8,9,10,11,12,13,14,15,16,17,18,19,20,21,22] (λ k=>[(4, .aW ⟨(.int .i64),(a+1:Int)⟩)]) [0,2,4,5,6,23,24,25,26,27,28,29,30,31,32,33,34,35,36,37,38,39,40,41,42,43,44,45,46,47,48,49,50,51,52,53,54,55,56,57,58,59,60,61,62,63,64,65] (λ k=>[(400000, .box [.aW ⟨.str,(t:List UInt8)⟩, .aW ⟨(.int .i64),(a+1+(k:Int):Int)⟩, .aW ⟨(.int .i64),(dp:Int)⟩, .aW ⟨.bool,(bad:Bool)⟩]),(3, .box [.aW ⟨(.int .i64),(zg t a:Int)⟩, .aW ⟨(.int .i64),((0:Int):Int)⟩, .nil])]) [] [] (λ k=>λ _ => .none) else .none)
theorem Bn(t:List UInt8)(a:Int)(dp:Int)(bad:Bool):ck (cY [kM] [] [] [] [] [] [] [bG]) (au ep) (r9 t a dp bad) 0 (kV (cY [kM] [] [] [] [] [] [] [bG]) ep [[.d .str, .d (.int .i64), .d (.int .i64), .d .bool]] λ r ds=>bp r [⟨(.st .expr),(cU t a.toNat dp.toNat).e⟩]/\ng ds [[⟨.str,t⟩,⟨(.int .i64),((cU t a.toNat dp.toNat).a:Int)⟩,⟨(.int .i64),dp⟩,⟨.bool,(cU t a.toNat dp.toNat).bad⟩]]) (cR ep [.box 0] [[.d .str, .d (.int .i64), .d (.int .i64), .d .bool]] [[⟨.str,t⟩,⟨(.int .i64),a⟩,⟨(.int .i64),dp⟩,⟨.bool,bad⟩]]) =
 (((0<=a/\a<=(t.length:Int)/\t.length<=10000)/\(((decide ((bQ t a.toNat)=(97:Int)))=true ->
 (O a ->
 (O (a+(1:Int))/\(O (a+(1:Int)) ->
 ((∃ k1:Nat,(k1<=nD t a/\((True/\(True/\(True/\((a+(1:Int))=(a+1)/\True))))/\((t=t/\((a+(1:Int))=(a+1+(k1:Int))/\(dp=dp/\(bad=bad/\True))))/\(((4:Int)=(zg t a)/\((0:Int)=(0:Int)/\(True/\True)))/\(((0:Int)=(0:Int)/\((0:Int)=(0:Int)/\(True/\True)))/\True))))))/\(∀ k1:Nat,(k1<=nD t a ->
 ((0<=(a+1+(k1:Int))/\(a+1+(k1:Int))<=(t.length:Int)/\t.length<=10000)/\(((decide ((48:Int)<=(bQ t (a+1+(k1:Int)).toNat)))=true ->
 ((0<=(a+1+(k1:Int))/\(a+1+(k1:Int))<=(t.length:Int)/\t.length<=10000)/\(((decide ((bQ t (a+1+(k1:Int)).toNat)<=(57:Int)))=true ->
 (O (a+1+(k1:Int)) ->
 (O ((a+1+(k1:Int))+(1:Int))/\(∃ k2:Nat,(k2<=nD t a/\(nD t a - k2<nD t a - k1/\((True/\(True/\(True/\((a+1)=(a+1)/\True))))/\((t=t/\(((a+1+(k1:Int))+(1:Int))=(a+1+(k2:Int))/\(dp=dp/\(bad=bad/\True))))/\(((zg t a)=(zg t a)/\((0:Int)=(0:Int)/\(True/\True)))/\(((0:Int)=(0:Int)/\((0:Int)=(0:Int)/\(True/\True)))/\True))))))))))/\((decide ((bQ t (a+1+(k1:Int)).toNat)<=(57:Int)))=false ->
 (cW (a+1) (a+1+(k1:Int)) t.length/\(t.length<=140737488355328 ->
 (O (a+1+(k1:Int)) ->
 (O (il 9 ((t.take (Int.toNat (a+1+(k1:Int)))).drop (Int.toNat (a+1)))) ->
 ((bad=false ->
 ((J.mk (zg t a) (il 9 ((t.take (Int.toNat (a+1+(k1:Int)))).drop (Int.toNat (a+1)))) [])=((cU t a.toNat dp.toNat).e)/\((t=t/\((a+1+(k1:Int))=((cU t a.toNat dp.toNat).a:Int)/\(dp=dp/\(!(kU 9 ((t.take (Int.toNat (a+1+(k1:Int)))).drop (Int.toNat (a+1)))))=((cU t a.toNat dp.toNat).bad))))/\True)))/\(bad=(!false) ->
 ((J.mk (zg t a) (il 9 ((t.take (Int.toNat (a+1+(k1:Int)))).drop (Int.toNat (a+1)))) [])=((cU t a.toNat dp.toNat).e)/\((t=t/\((a+1+(k1:Int))=((cU t a.toNat dp.toNat).a:Int)/\(dp=dp/\true=((cU t a.toNat dp.toNat).bad))))/\True))))))))))))/\((decide ((48:Int)<=(bQ t (a+1+(k1:Int)).toNat)))=(!true) ->
 ((false=true ->
 (O (a+1+(k1:Int)) ->
 (O ((a+1+(k1:Int))+(1:Int))/\(∃ k2:Nat,(k2<=nD t a/\(nD t a - k2<nD t a - k1/\((True/\(True/\(True/\((a+1)=(a+1)/\True))))/\((t=t/\(((a+1+(k1:Int))+(1:Int))=(a+1+(k2:Int))/\(dp=dp/\(bad=bad/\True))))/\(((zg t a)=(zg t a)/\((0:Int)=(0:Int)/\(True/\True)))/\(((0:Int)=(0:Int)/\((0:Int)=(0:Int)/\(True/\True)))/\True))))))))))/\(false=false ->
 (cW (a+1) (a+1+(k1:Int)) t.length/\(t.length<=140737488355328 ->
 (O (a+1+(k1:Int)) ->
 (O (il 9 ((t.take (Int.toNat (a+1+(k1:Int)))).drop (Int.toNat (a+1)))) ->
 ((bad=false ->
 ((J.mk (zg t a) (il 9 ((t.take (Int.toNat (a+1+(k1:Int)))).drop (Int.toNat (a+1)))) [])=((cU t a.toNat dp.toNat).e)/\((t=t/\((a+1+(k1:Int))=((cU t a.toNat dp.toNat).a:Int)/\(dp=dp/\(!(kU 9 ((t.take (Int.toNat (a+1+(k1:Int)))).drop (Int.toNat (a+1)))))=((cU t a.toNat dp.toNat).bad))))/\True)))/\(bad=(!false) ->
 ((J.mk (zg t a) (il 9 ((t.take (Int.toNat (a+1+(k1:Int)))).drop (Int.toNat (a+1)))) [])=((cU t a.toNat dp.toNat).e)/\((t=t/\((a+1+(k1:Int))=((cU t a.toNat dp.toNat).a:Int)/\(dp=dp/\true=((cU t a.toNat dp.toNat).bad))))/\True))))))))))))))))))))/\((decide ((bQ t a.toNat)=(97:Int)))=false ->
 (O a ->
 (O (a+(1:Int))/\(O (a+(1:Int)) ->
 ((∃ k1:Nat,(k1<=nD t a/\((True/\(True/\(True/\((a+(1:Int))=(a+1)/\True))))/\((t=t/\((a+(1:Int))=(a+1+(k1:Int))/\(dp=dp/\(bad=bad/\True))))/\(((3:Int)=(zg t a)/\((0:Int)=(0:Int)/\(True/\True)))/\(((0:Int)=(0:Int)/\((0:Int)=(0:Int)/\(True/\True)))/\True))))))/\(∀ k1:Nat,(k1<=nD t a ->
 ((0<=(a+1+(k1:Int))/\(a+1+(k1:Int))<=(t.length:Int)/\t.length<=10000)/\(((decide ((48:Int)<=(bQ t (a+1+(k1:Int)).toNat)))=true ->
 ((0<=(a+1+(k1:Int))/\(a+1+(k1:Int))<=(t.length:Int)/\t.length<=10000)/\(((decide ((bQ t (a+1+(k1:Int)).toNat)<=(57:Int)))=true ->
 (O (a+1+(k1:Int)) ->
 (O ((a+1+(k1:Int))+(1:Int))/\(∃ k2:Nat,(k2<=nD t a/\(nD t a - k2<nD t a - k1/\((True/\(True/\(True/\((a+1)=(a+1)/\True))))/\((t=t/\(((a+1+(k1:Int))+(1:Int))=(a+1+(k2:Int))/\(dp=dp/\(bad=bad/\True))))/\(((zg t a)=(zg t a)/\((0:Int)=(0:Int)/\(True/\True)))/\(((0:Int)=(0:Int)/\((0:Int)=(0:Int)/\(True/\True)))/\True))))))))))/\((decide ((bQ t (a+1+(k1:Int)).toNat)<=(57:Int)))=false ->
 (cW (a+1) (a+1+(k1:Int)) t.length/\(t.length<=140737488355328 ->
 (O (a+1+(k1:Int)) ->
 (O (il 9 ((t.take (Int.toNat (a+1+(k1:Int)))).drop (Int.toNat (a+1)))) ->
 ((bad=false ->
 ((J.mk (zg t a) (il 9 ((t.take (Int.toNat (a+1+(k1:Int)))).drop (Int.toNat (a+1)))) [])=((cU t a.toNat dp.toNat).e)/\((t=t/\((a+1+(k1:Int))=((cU t a.toNat dp.toNat).a:Int)/\(dp=dp/\(!(kU 9 ((t.take (Int.toNat (a+1+(k1:Int)))).drop (Int.toNat (a+1)))))=((cU t a.toNat dp.toNat).bad))))/\True)))/\(bad=(!false) ->
 ((J.mk (zg t a) (il 9 ((t.take (Int.toNat (a+1+(k1:Int)))).drop (Int.toNat (a+1)))) [])=((cU t a.toNat dp.toNat).e)/\((t=t/\((a+1+(k1:Int))=((cU t a.toNat dp.toNat).a:Int)/\(dp=dp/\true=((cU t a.toNat dp.toNat).bad))))/\True))))))))))))/\((decide ((48:Int)<=(bQ t (a+1+(k1:Int)).toNat)))=(!true) ->
 ((false=true ->
 (O (a+1+(k1:Int)) ->
 (O ((a+1+(k1:Int))+(1:Int))/\(∃ k2:Nat,(k2<=nD t a/\(nD t a - k2<nD t a - k1/\((True/\(True/\(True/\((a+1)=(a+1)/\True))))/\((t=t/\(((a+1+(k1:Int))+(1:Int))=(a+1+(k2:Int))/\(dp=dp/\(bad=bad/\True))))/\(((zg t a)=(zg t a)/\((0:Int)=(0:Int)/\(True/\True)))/\(((0:Int)=(0:Int)/\((0:Int)=(0:Int)/\(True/\True)))/\True))))))))))/\(false=false ->
 (cW (a+1) (a+1+(k1:Int)) t.length/\(t.length<=140737488355328 ->
 (O (a+1+(k1:Int)) ->
 (O (il 9 ((t.take (Int.toNat (a+1+(k1:Int)))).drop (Int.toNat (a+1)))) ->
 ((bad=false ->
 ((J.mk (zg t a) (il 9 ((t.take (Int.toNat (a+1+(k1:Int)))).drop (Int.toNat (a+1)))) [])=((cU t a.toNat dp.toNat).e)/\((t=t/\((a+1+(k1:Int))=((cU t a.toNat dp.toNat).a:Int)/\(dp=dp/\(!(kU 9 ((t.take (Int.toNat (a+1+(k1:Int)))).drop (Int.toNat (a+1)))))=((cU t a.toNat dp.toNat).bad))))/\True)))/\(bad=(!false) ->
 ((J.mk (zg t a) (il 9 ((t.take (Int.toNat (a+1+(k1:Int)))).drop (Int.toNat (a+1)))) [])=((cU t a.toNat dp.toNat).e)/\((t=t/\((a+1+(k1:Int))=((cU t a.toNat dp.toNat).a:Int)/\(dp=dp/\true=((cU t a.toNat dp.toNat).bad))))/\True))))))))))))))))))))))):=by kernel_rfl
theorem A9(hE:aG [kM])(hO:fW [])(hM:gZ [])(hS:fX [bG]):iV.Good fu:=by
 refine⟨aA rO rfl (by decide),?_⟩
 show ∀ (t:List UInt8) (a:Int) (dp:Int) (bad:Bool),(0<=a/\a<=(t.length:Int)/\t.length<=10000/\0<=dp/\(bQ t a.toNat=116\/bQ t a.toNat=97)/\bad=false)->tu prog nr [[.d .str, .d (.int .i64), .d (.int .i64), .d .bool]] [.box 0] [[⟨.str,t⟩,⟨(.int .i64),a⟩,⟨(.int .i64),dp⟩,⟨.bool,bad⟩]] [⟨(.st .expr),(cU t a.toNat dp.toNat).e⟩] [[⟨.str,t⟩,⟨(.int .i64),((cU t a.toNat dp.toNat).a:Int)⟩,⟨(.int .i64),dp⟩,⟨.bool,(cU t a.toNat dp.toNat).bad⟩]]
 intro t a dp bad hp
 refine iA (own:=[]) (wr:=[]) (cl:=[]) (ro:=[]) hE hO hM hS rO yY (r9 t a dp bad) rfl rfl ?_
 rewrite [Bn t a dp bad]
 obtain⟨h0,h1,h2,h3,h4,h5⟩:=hp
 subst h5
 have l0:=uO t a.toNat (by omega)
 obtain⟨q1,q2,q3,q4⟩:=Ta t a dp h0 h3
 have z:=λ k h=>a5N t a k h0 h
 have b:=a5H t a h0 (by omega)
 simp only[q1,q2,q4,cW,a9f,a9b,a8x,a8v,a8B,a8w,a8L,a8M,a8V,a9c,a8F,a9l,a8E,O,aP]
 repeat' (first|intro _|apply And.intro)
 all_goals (try simp only[a8p,a8q] at *)
 all_goals first|exact True.intro|omega|with_reducible rfl|exact⟨0,a9J _,by omega,(a5J t a (by omega)).symm⟩|exact⟨0,a9J _,by omega,(a5I t a (by omega)).symm⟩|(rename_i k1 _ _ _ _;have g:=z k1 (by assumption);first|omega|exact⟨k1+1,by omega,by omega,by omega⟩|rw[Rr t a k1 h0 (by omega)])|(rename_i k1 _ _ _ _ _;have g:=z k1 (by assumption);first|omega|exact⟨k1+1,by omega,by omega,by omega⟩|rw[Rr t a k1 h0 (by omega)])|(rename_i k1 _ _ _ _ _ _;have g:=z k1 (by assumption);first|omega|exact⟨k1+1,by omega,by omega,by omega⟩|rw[Rr t a k1 h0 (by omega)])|(rename_i k1 _ _ _ _ _ _ _;have g:=z k1 (by assumption);first|omega|exact⟨k1+1,by omega,by omega,by omega⟩|rw[Rr t a k1 h0 (by omega)])
theorem yI:iV.Good fu:=A9 ⟨F9,trivial⟩ trivial trivial ⟨ef,trivial⟩
def cP(n:Nat):iV:=⟨mL,[[.d .str, .d (.int .i64), .d (.int .i64), .d .bool]],[.b 0],[[.str,(.int .i64),(.int .i64), .bool]],λ (t:List UInt8) (a:Int) (dp:Int) (bad:Bool)=>⟨(some (3 * (101 - dp).toNat+2<n/\0<=a/\a<=(t.length:Int)/\t.length<=10000/\0<=dp/\dp<=100/\bad=false),[⟨(.st .expr),(aV t a dp).e⟩],[[⟨.str,t⟩,⟨(.int .i64),((aV t a dp).a:Int)⟩,⟨(.int .i64),((aV t a dp).dp:Int)⟩,⟨.bool,(aV t a dp).bad⟩]])⟩⟩
def eU(n:Nat):iV:=⟨ns,[[.d .str, .d (.int .i64), .d (.int .i64), .d .bool]],[.b 0],[[.str,(.int .i64),(.int .i64), .bool]],λ (t:List UInt8) (a:Int) (dp:Int) (bad:Bool)=>⟨(some (3 * (101 - dp).toNat+1<n/\0<=a/\a<=(t.length:Int)/\t.length<=10000/\0<=dp/\dp<=100/\bad=false/\bQ t a.toNat=40),[⟨(.st .expr),(aV t a dp).e⟩],[[⟨.str,t⟩,⟨(.int .i64),((aV t a dp).a:Int)⟩,⟨(.int .i64),((aV t a dp).dp:Int)⟩,⟨.bool,(aV t a dp).bad⟩]])⟩⟩
def eR(n:Nat):iV:=⟨iO,[[.d .str, .d (.int .i64), .d (.int .i64), .d .bool]],[.b 0],[[.str,(.int .i64),(.int .i64), .bool]],λ (t:List UInt8) (a:Int) (dp:Int) (bad:Bool)=>⟨(some (3 * (101 - dp).toNat<n/\0<=a/\a<=(t.length:Int)/\t.length<=10000/\0<=dp/\dp<=1000),[⟨(.st .expr),(bH t a dp bad).e⟩],[[⟨.str,t⟩,⟨(.int .i64),((bH t a dp bad).a:Int)⟩,⟨(.int .i64),((bH t a dp bad).dp:Int)⟩,⟨.bool,(bH t a dp bad).bad⟩]])⟩⟩
def ij:iV:=⟨iO,[[.d .str, .d (.int .i64), .d (.int .i64), .d .bool]],[.b 0],[[.str,(.int .i64),(.int .i64), .bool]],λ (t:List UInt8) (a:Int) (dp:Int) (bad:Bool)=>⟨(some (0<=a/\a<=(t.length:Int)/\t.length<=10000/\0<=dp/\dp<=1000),[⟨(.st .expr),(bH t a dp bad).e⟩],[[⟨.str,t⟩,⟨(.int .i64),((bH t a dp bad).a:Int)⟩,⟨(.int .i64),((bH t a dp bad).dp:Int)⟩,⟨.bool,(bH t a dp bad).bad⟩]])⟩⟩
def qB(t:List UInt8)(a:Int)(dp:Int)(bad:Bool):Nat->aH:=λ _ => .none
theorem zl(n:Nat)(t:List UInt8)(a:Int)(dp:Int)(bad:Bool):ck (cY [] [] [] [30,57,66,71] [] [] [] [bG,fu,eU n,cP n]) (au dU) (qB t a dp bad) 0 (kV (cY [] [] [] [30,57,66,71] [] [] [] [bG,fu,eU n,cP n]) dU [[.d .str, .d (.int .i64), .d (.int .i64), .d .bool]] λ r ds=>bp r [⟨(.st .expr),(aV t a dp).e⟩]/\ng ds [[⟨.str,t⟩,⟨(.int .i64),((aV t a dp).a:Int)⟩,⟨(.int .i64),((aV t a dp).dp:Int)⟩,⟨.bool,(aV t a dp).bad⟩]]) (cR dU [.box 0] [[.d .str, .d (.int .i64), .d (.int .i64), .d .bool]] [[⟨.str,t⟩,⟨(.int .i64),a⟩,⟨(.int .i64),dp⟩,⟨.bool,bad⟩]]) =
 (((0<=a/\a<=(t.length:Int)/\t.length<=10000)/\(((decide ((bQ t a.toNat)=(48:Int)))=true ->
 (O a ->
 (O (a+(1:Int))/\((J.mk (1:Int) (0:Int) [])=((aV t a dp).e)/\((t=t/\((a+(1:Int))=((aV t a dp).a:Int)/\(dp=((aV t a dp).dp:Int)/\bad=((aV t a dp).bad))))/\True)))))/\((decide ((bQ t a.toNat)=(48:Int)))=false ->
 (((decide ((bQ t a.toNat)=(49:Int)))=true ->
 (O a ->
 (O (a+(1:Int))/\((J.mk (2:Int) (0:Int) [])=((aV t a dp).e)/\((t=t/\((a+(1:Int))=((aV t a dp).a:Int)/\(dp=((aV t a dp).dp:Int)/\bad=((aV t a dp).bad))))/\True)))))/\((decide ((bQ t a.toNat)=(49:Int)))=false ->
 (((decide ((bQ t a.toNat)=(116:Int)))=true ->
 (((decide ((bQ t a.toNat)=(116:Int)))=true ->
 ((0<=a/\a<=(t.length:Int)/\t.length<=10000/\0<=dp/\(bQ t a.toNat=116\/bQ t a.toNat=97)/\bad=false)/\((ag ((cU t a.toNat dp.toNat).e))=((aV t a dp).e)/\((t=t/\((((cU t a.toNat dp.toNat).a:Int))=((aV t a dp).a:Int)/\(dp=((aV t a dp).dp:Int)/\((cU t a.toNat dp.toNat).bad)=((aV t a dp).bad))))/\True))))/\((decide ((bQ t a.toNat)=(116:Int)))=false ->
 (((decide ((bQ t a.toNat)=(126:Int)))=true ->
 (O a ->
 (O (a+(1:Int))/\(O dp ->
 (O (dp+(1:Int))/\(O (dp+(1:Int)) ->
 (((decide ((100:Int)<(dp+(1:Int))))=true ->
 (zE=((aV t a dp).e)/\((t=t/\((a+(1:Int))=((aV t a dp).a:Int)/\((dp+(1:Int))=((aV t a dp).dp:Int)/\true=((aV t a dp).bad))))/\True)))/\((decide ((100:Int)<(dp+(1:Int))))=false ->
 ((3 * (101 - (dp+(1:Int))).toNat+2<n/\0<=(a+(1:Int))/\(a+(1:Int))<=(t.length:Int)/\t.length<=10000/\0<=(dp+(1:Int))/\(dp+(1:Int))<=100/\bad=false)/\(O (((aV t (a+(1:Int)) (dp+(1:Int))).dp:Int)) ->
 (O ((((aV t (a+(1:Int)) (dp+(1:Int))).dp:Int)) - (1:Int))/\((J.mk (5:Int) (0:Int) ([(ag ((aV t (a+(1:Int)) (dp+(1:Int))).e))]))=((aV t a dp).e)/\((t=t/\((((aV t (a+(1:Int)) (dp+(1:Int))).a:Int))=((aV t a dp).a:Int)/\(((((aV t (a+(1:Int)) (dp+(1:Int))).dp:Int)) - (1:Int))=((aV t a dp).dp:Int)/\((aV t (a+(1:Int)) (dp+(1:Int))).bad)=((aV t a dp).bad))))/\True)))))))))))))/\((decide ((bQ t a.toNat)=(126:Int)))=false ->
 (((decide ((bQ t a.toNat)=(40:Int)))=true ->
 ((3 * (101 - dp).toNat+1<n/\0<=a/\a<=(t.length:Int)/\t.length<=10000/\0<=dp/\dp<=100/\bad=false/\bQ t a.toNat=40)/\((ag ((aV t a dp).e))=((aV t a dp).e)/\((t=t/\((((aV t a dp).a:Int))=((aV t a dp).a:Int)/\((((aV t a dp).dp:Int))=((aV t a dp).dp:Int)/\((aV t a dp).bad)=((aV t a dp).bad))))/\True))))/\((decide ((bQ t a.toNat)=(40:Int)))=false ->
 (zE=((aV t a dp).e)/\((t=t/\(a=((aV t a dp).a:Int)/\(dp=((aV t a dp).dp:Int)/\true=((aV t a dp).bad))))/\True)))))))))/\((decide ((bQ t a.toNat)=(116:Int)))=false ->
 (((decide ((bQ t a.toNat)=(97:Int)))=true ->
 ((0<=a/\a<=(t.length:Int)/\t.length<=10000/\0<=dp/\(bQ t a.toNat=116\/bQ t a.toNat=97)/\bad=false)/\((ag ((cU t a.toNat dp.toNat).e))=((aV t a dp).e)/\((t=t/\((((cU t a.toNat dp.toNat).a:Int))=((aV t a dp).a:Int)/\(dp=((aV t a dp).dp:Int)/\((cU t a.toNat dp.toNat).bad)=((aV t a dp).bad))))/\True))))/\((decide ((bQ t a.toNat)=(97:Int)))=false ->
 (((decide ((bQ t a.toNat)=(126:Int)))=true ->
 (O a ->
 (O (a+(1:Int))/\(O dp ->
 (O (dp+(1:Int))/\(O (dp+(1:Int)) ->
 (((decide ((100:Int)<(dp+(1:Int))))=true ->
 (zE=((aV t a dp).e)/\((t=t/\((a+(1:Int))=((aV t a dp).a:Int)/\((dp+(1:Int))=((aV t a dp).dp:Int)/\true=((aV t a dp).bad))))/\True)))/\((decide ((100:Int)<(dp+(1:Int))))=false ->
 ((3 * (101 - (dp+(1:Int))).toNat+2<n/\0<=(a+(1:Int))/\(a+(1:Int))<=(t.length:Int)/\t.length<=10000/\0<=(dp+(1:Int))/\(dp+(1:Int))<=100/\bad=false)/\(O (((aV t (a+(1:Int)) (dp+(1:Int))).dp:Int)) ->
 (O ((((aV t (a+(1:Int)) (dp+(1:Int))).dp:Int)) - (1:Int))/\((J.mk (5:Int) (0:Int) ([(ag ((aV t (a+(1:Int)) (dp+(1:Int))).e))]))=((aV t a dp).e)/\((t=t/\((((aV t (a+(1:Int)) (dp+(1:Int))).a:Int))=((aV t a dp).a:Int)/\(((((aV t (a+(1:Int)) (dp+(1:Int))).dp:Int)) - (1:Int))=((aV t a dp).dp:Int)/\((aV t (a+(1:Int)) (dp+(1:Int))).bad)=((aV t a dp).bad))))/\True)))))))))))))/\((decide ((bQ t a.toNat)=(126:Int)))=false ->
 (((decide ((bQ t a.toNat)=(40:Int)))=true ->
 ((3 * (101 - dp).toNat+1<n/\0<=a/\a<=(t.length:Int)/\t.length<=10000/\0<=dp/\dp<=100/\bad=false/\bQ t a.toNat=40)/\((ag ((aV t a dp).e))=((aV t a dp).e)/\((t=t/\((((aV t a dp).a:Int))=((aV t a dp).a:Int)/\((((aV t a dp).dp:Int))=((aV t a dp).dp:Int)/\((aV t a dp).bad)=((aV t a dp).bad))))/\True))))/\((decide ((bQ t a.toNat)=(40:Int)))=false ->
 (zE=((aV t a dp).e)/\((t=t/\(a=((aV t a dp).a:Int)/\(dp=((aV t a dp).dp:Int)/\true=((aV t a dp).bad))))/\True)))))))))))))))):=by kernel_rfl
theorem zj(n:Nat)(hE:aG [])(hO:fW [])(hM:gZ [])(hS:fX [bG,fu,eU n,cP n]):iV.Good (cP (n+1)):=by
 refine⟨aA kX rfl (by decide),?_⟩
 show ∀ (t:List UInt8) (a:Int) (dp:Int) (bad:Bool),(3 * (101 - dp).toNat+2<n+1/\0<=a/\a<=(t.length:Int)/\t.length<=10000/\0<=dp/\dp<=100/\bad=false)->tu prog mL [[.d .str, .d (.int .i64), .d (.int .i64), .d .bool]] [.box 0] [[⟨.str,t⟩,⟨(.int .i64),a⟩,⟨(.int .i64),dp⟩,⟨.bool,bad⟩]] [⟨(.st .expr),(aV t a dp).e⟩] [[⟨.str,t⟩,⟨(.int .i64),((aV t a dp).a:Int)⟩,⟨(.int .i64),((aV t a dp).dp:Int)⟩,⟨.bool,(aV t a dp).bad⟩]]
 intro t a dp bad hp
 refine iA (own:=[30,57,66,71]) (wr:=[]) (cl:=[]) (ro:=[]) hE hO hM hS kX xD (qB t a dp bad) rfl rfl ?_
 rewrite [zl n t a dp bad]
 obtain⟨hm,h0,h1,h2,h3,h4,h5⟩:=hp
 subst h5
 by_cases AQ:bQ t a.toNat=48
 .have l0:=uO t a.toNat (by rw[AQ];decide)
  obtain⟨q1,q2,q3,q4⟩:=a7m t a dp h0 h3 AQ
  simp only[a8W AQ,(a8D (by omega):decide (bQ t a.toNat=(49:Int))=false),(a8D (by omega):decide (bQ t a.toNat=(116:Int))=false),(a8D (by omega):decide (bQ t a.toNat=(97:Int))=false),(a8D (by omega):decide (bQ t a.toNat=(126:Int))=false),(a8D (by omega):decide (bQ t a.toNat=(40:Int))=false),q1,q2,q3,q4,a9f,a9b,a8x,a8v,a8B,a8w,a8L,a8M,a8V,a9c,a8F,a9l,a8E,O,aP]
  repeat' (first|intro _|apply And.intro)
  all_goals first|exact True.intro|omega|with_reducible rfl
 .by_cases Dh:bQ t a.toNat=49
  .have l0:=uO t a.toNat (by rw[Dh];decide)
   obtain⟨q1,q2,q3,q4⟩:=a7n t a dp h0 h3 Dh
   simp only[(a8D (by omega):decide (bQ t a.toNat=(48:Int))=false),a8W Dh,(a8D (by omega):decide (bQ t a.toNat=(116:Int))=false),(a8D (by omega):decide (bQ t a.toNat=(97:Int))=false),(a8D (by omega):decide (bQ t a.toNat=(126:Int))=false),(a8D (by omega):decide (bQ t a.toNat=(40:Int))=false),q1,q2,q3,q4,a9f,a9b,a8x,a8v,a8B,a8w,a8L,a8M,a8V,a9c,a8F,a9l,a8E,O,aP]
   repeat' (first|intro _|apply And.intro)
   all_goals first|exact True.intro|omega|with_reducible rfl
  .by_cases wF:bQ t a.toNat=116
   .obtain⟨q1,q2,q3,q4⟩:=Ta t a dp h0 h3
    simp only[XR t a dp (.inl wF),(a8D (by omega):decide (bQ t a.toNat=(48:Int))=false),(a8D (by omega):decide (bQ t a.toNat=(49:Int))=false),a8W wF,(a8D (by omega):decide (bQ t a.toNat=(97:Int))=false),(a8D (by omega):decide (bQ t a.toNat=(126:Int))=false),(a8D (by omega):decide (bQ t a.toNat=(40:Int))=false),q3,a9f,a9b,a8x,a8v,a8B,a8w,a8L,a8M,a8V,a9c,a8F,a9l,a8E,O,aP]
    repeat' (first|intro _|apply And.intro)
    all_goals first|exact True.intro|omega|with_reducible rfl
   .by_cases L2:bQ t a.toNat=97
    .obtain⟨q1,q2,q3,q4⟩:=Ta t a dp h0 h3
     simp only[XR t a dp (.inr L2),(a8D (by omega):decide (bQ t a.toNat=(48:Int))=false),(a8D (by omega):decide (bQ t a.toNat=(49:Int))=false),(a8D (by omega):decide (bQ t a.toNat=(116:Int))=false),a8W L2,(a8D (by omega):decide (bQ t a.toNat=(126:Int))=false),(a8D (by omega):decide (bQ t a.toNat=(40:Int))=false),q3,a9f,a9b,a8x,a8v,a8B,a8w,a8L,a8M,a8V,a9c,a8F,a9l,a8E,O,aP]
     repeat' (first|intro _|apply And.intro)
     all_goals first|exact True.intro|omega|with_reducible rfl
    .by_cases UU:bQ t a.toNat=126
     .have l0:=uO t a.toNat (by rw[UU];decide)
      by_cases hd:100<dp+1
      .obtain⟨q1,q2,q3,q4⟩:=a2G t a dp h0 h3 hd UU
       simp only[hd,(a8D (by omega):decide (bQ t a.toNat=(48:Int))=false),(a8D (by omega):decide (bQ t a.toNat=(49:Int))=false),(a8D (by omega):decide (bQ t a.toNat=(116:Int))=false),(a8D (by omega):decide (bQ t a.toNat=(97:Int))=false),a8W UU,(a8D (by omega):decide (bQ t a.toNat=(40:Int))=false),q1,q2,q3,q4,a9f,a9b,a8x,a8v,a8B,a8w,a8L,a8M,a8V,a9c,a8F,a9l,a8E,O,aP]
       repeat' (first|intro _|apply And.intro)
       all_goals first|exact True.intro|omega|with_reducible rfl
      .obtain⟨q1,q2,q3,q4⟩:=a3R t a dp h0 (by omega) h3 hd UU
       have b1:=MB t (a+1) (dp+1) (by omega) (by omega) (by omega) (by omega)
       simp only[hd,(a8D (by omega):decide (bQ t a.toNat=(48:Int))=false),(a8D (by omega):decide (bQ t a.toNat=(49:Int))=false),(a8D (by omega):decide (bQ t a.toNat=(116:Int))=false),(a8D (by omega):decide (bQ t a.toNat=(97:Int))=false),a8W UU,(a8D (by omega):decide (bQ t a.toNat=(40:Int))=false),q1,q2,q3,q4,a9f,a9b,a8x,a8v,a8B,a8w,a8L,a8M,a8V,a9c,a8F,a9l,a8E,O,aP]
       repeat' (first|intro _|apply And.intro)
       all_goals first|exact True.intro|omega|with_reducible rfl
     .by_cases Se:bQ t a.toNat=40
      .simp only[(a8D (by omega):decide (bQ t a.toNat=(48:Int))=false),(a8D (by omega):decide (bQ t a.toNat=(49:Int))=false),(a8D (by omega):decide (bQ t a.toNat=(116:Int))=false),(a8D (by omega):decide (bQ t a.toNat=(97:Int))=false),(a8D (by omega):decide (bQ t a.toNat=(126:Int))=false),a8W Se,a9f,a9b,a8x,a8v,a8B,a8w,a8L,a8M,a8V,a9c,a8F,a9l,a8E,O,aP]
       repeat' (first|intro _|apply And.intro)
       all_goals first|exact True.intro|omega|with_reducible rfl
      .obtain⟨q1,q2,q3,q4⟩:=a2H t a dp h0 h3 ⟨AQ,Dh,wF,L2,UU,Se⟩
       simp only[(a8D (by omega):decide (bQ t a.toNat=(48:Int))=false),(a8D (by omega):decide (bQ t a.toNat=(49:Int))=false),(a8D (by omega):decide (bQ t a.toNat=(116:Int))=false),(a8D (by omega):decide (bQ t a.toNat=(97:Int))=false),(a8D (by omega):decide (bQ t a.toNat=(126:Int))=false),(a8D (by omega):decide (bQ t a.toNat=(40:Int))=false),q1,q2,q3,q4,a9f,a9b,a8x,a8v,a8B,a8w,a8L,a8M,a8V,a9c,a8F,a9l,a8E,O,aP]
       repeat' (first|intro _|apply And.intro)
       all_goals first|exact True.intro|omega|with_reducible rfl
def sa(t:List UInt8)(a:Int)(dp:Int)(bad:Bool):Nat->aH:=λ _ => .none
theorem Bo(n:Nat)(t:List UInt8)(a:Int)(dp:Int)(bad:Bool):ck (cY [] [] [] [9,27,32] [] [] [] [bG,fv,eR n]) (au er) (sa t a dp bad) 0 (kV (cY [] [] [] [9,27,32] [] [] [] [bG,fv,eR n]) er [[.d .str, .d (.int .i64), .d (.int .i64), .d .bool]] λ r ds=>bp r [⟨(.st .expr),(aV t a dp).e⟩]/\ng ds [[⟨.str,t⟩,⟨(.int .i64),((aV t a dp).a:Int)⟩,⟨(.int .i64),((aV t a dp).dp:Int)⟩,⟨.bool,(aV t a dp).bad⟩]]) (cR er [.box 0] [[.d .str, .d (.int .i64), .d (.int .i64), .d .bool]] [[⟨.str,t⟩,⟨(.int .i64),a⟩,⟨(.int .i64),dp⟩,⟨.bool,bad⟩]]) =
 (((0<=a/\a<=(t.length:Int)/\t.length<=10000)/\((3 * (101 - dp).toNat<n/\0<=(((bB t a.toNat (40:Int):Nat):Int))/\(((bB t a.toNat (40:Int):Nat):Int))<=(t.length:Int)/\t.length<=10000/\0<=dp/\dp<=1000)/\((0<=(((bH t (((bB t a.toNat (40:Int):Nat):Int)) dp (bR t a.toNat (40:Int) bad)).a:Int))/\(((bH t (((bB t a.toNat (40:Int):Nat):Int)) dp (bR t a.toNat (40:Int) bad)).a:Int))<=(t.length:Int)/\t.length<=10000)/\((0<=(((bB t (((bH t (((bB t a.toNat (40:Int):Nat):Int)) dp (bR t a.toNat (40:Int) bad)).a:Int)).toNat (32:Int):Nat):Int))/\(((bB t (((bH t (((bB t a.toNat (40:Int):Nat):Int)) dp (bR t a.toNat (40:Int) bad)).a:Int)).toNat (32:Int):Nat):Int))<=(t.length:Int)/\t.length<=10000)/\(((decide ((bQ t (((bB t (((bH t (((bB t a.toNat (40:Int):Nat):Int)) dp (bR t a.toNat (40:Int) bad)).a:Int)).toNat (32:Int):Nat):Int)).toNat)=(43:Int)))=true ->
 (O (((bB t (((bH t (((bB t a.toNat (40:Int):Nat):Int)) dp (bR t a.toNat (40:Int) bad)).a:Int)).toNat (32:Int):Nat):Int)) ->
 (O ((((bB t (((bH t (((bB t a.toNat (40:Int):Nat):Int)) dp (bR t a.toNat (40:Int) bad)).a:Int)).toNat (32:Int):Nat):Int))+(1:Int))/\((0<=((((bB t (((bH t (((bB t a.toNat (40:Int):Nat):Int)) dp (bR t a.toNat (40:Int) bad)).a:Int)).toNat (32:Int):Nat):Int))+(1:Int))/\((((bB t (((bH t (((bB t a.toNat (40:Int):Nat):Int)) dp (bR t a.toNat (40:Int) bad)).a:Int)).toNat (32:Int):Nat):Int))+(1:Int))<=(t.length:Int)/\t.length<=10000)/\((3 * (101 - (((bH t (((bB t a.toNat (40:Int):Nat):Int)) dp (bR t a.toNat (40:Int) bad)).dp:Int))).toNat<n/\0<=(((bB t ((((bB t (((bH t (((bB t a.toNat (40:Int):Nat):Int)) dp (bR t a.toNat (40:Int) bad)).a:Int)).toNat (32:Int):Nat):Int))+(1:Int)).toNat (32:Int):Nat):Int))/\(((bB t ((((bB t (((bH t (((bB t a.toNat (40:Int):Nat):Int)) dp (bR t a.toNat (40:Int) bad)).a:Int)).toNat (32:Int):Nat):Int))+(1:Int)).toNat (32:Int):Nat):Int))<=(t.length:Int)/\t.length<=10000/\0<=(((bH t (((bB t a.toNat (40:Int):Nat):Int)) dp (bR t a.toNat (40:Int) bad)).dp:Int))/\(((bH t (((bB t a.toNat (40:Int):Nat):Int)) dp (bR t a.toNat (40:Int) bad)).dp:Int))<=1000)/\((0<=(((bH t (((bB t ((((bB t (((bH t (((bB t a.toNat (40:Int):Nat):Int)) dp (bR t a.toNat (40:Int) bad)).a:Int)).toNat (32:Int):Nat):Int))+(1:Int)).toNat (32:Int):Nat):Int)) (((bH t (((bB t a.toNat (40:Int):Nat):Int)) dp (bR t a.toNat (40:Int) bad)).dp:Int)) (bR t ((((bB t (((bH t (((bB t a.toNat (40:Int):Nat):Int)) dp (bR t a.toNat (40:Int) bad)).a:Int)).toNat (32:Int):Nat):Int))+(1:Int)).toNat (32:Int) (bR t (((bH t (((bB t a.toNat (40:Int):Nat):Int)) dp (bR t a.toNat (40:Int) bad)).a:Int)).toNat (32:Int) ((bH t (((bB t a.toNat (40:Int):Nat):Int)) dp (bR t a.toNat (40:Int) bad)).bad)))).a:Int))/\(((bH t (((bB t ((((bB t (((bH t (((bB t a.toNat (40:Int):Nat):Int)) dp (bR t a.toNat (40:Int) bad)).a:Int)).toNat (32:Int):Nat):Int))+(1:Int)).toNat (32:Int):Nat):Int)) (((bH t (((bB t a.toNat (40:Int):Nat):Int)) dp (bR t a.toNat (40:Int) bad)).dp:Int)) (bR t ((((bB t (((bH t (((bB t a.toNat (40:Int):Nat):Int)) dp (bR t a.toNat (40:Int) bad)).a:Int)).toNat (32:Int):Nat):Int))+(1:Int)).toNat (32:Int) (bR t (((bH t (((bB t a.toNat (40:Int):Nat):Int)) dp (bR t a.toNat (40:Int) bad)).a:Int)).toNat (32:Int) ((bH t (((bB t a.toNat (40:Int):Nat):Int)) dp (bR t a.toNat (40:Int) bad)).bad)))).a:Int))<=(t.length:Int)/\t.length<=10000)/\((J.mk (6:Int) (0:Int) ([(ag ((bH t (((bB t a.toNat (40:Int):Nat):Int)) dp (bR t a.toNat (40:Int) bad)).e)),(ag ((bH t (((bB t ((((bB t (((bH t (((bB t a.toNat (40:Int):Nat):Int)) dp (bR t a.toNat (40:Int) bad)).a:Int)).toNat (32:Int):Nat):Int))+(1:Int)).toNat (32:Int):Nat):Int)) (((bH t (((bB t a.toNat (40:Int):Nat):Int)) dp (bR t a.toNat (40:Int) bad)).dp:Int)) (bR t ((((bB t (((bH t (((bB t a.toNat (40:Int):Nat):Int)) dp (bR t a.toNat (40:Int) bad)).a:Int)).toNat (32:Int):Nat):Int))+(1:Int)).toNat (32:Int) (bR t (((bH t (((bB t a.toNat (40:Int):Nat):Int)) dp (bR t a.toNat (40:Int) bad)).a:Int)).toNat (32:Int) ((bH t (((bB t a.toNat (40:Int):Nat):Int)) dp (bR t a.toNat (40:Int) bad)).bad)))).e))]))=((aV t a dp).e)/\((t=t/\((((bB t (((bH t (((bB t ((((bB t (((bH t (((bB t a.toNat (40:Int):Nat):Int)) dp (bR t a.toNat (40:Int) bad)).a:Int)).toNat (32:Int):Nat):Int))+(1:Int)).toNat (32:Int):Nat):Int)) (((bH t (((bB t a.toNat (40:Int):Nat):Int)) dp (bR t a.toNat (40:Int) bad)).dp:Int)) (bR t ((((bB t (((bH t (((bB t a.toNat (40:Int):Nat):Int)) dp (bR t a.toNat (40:Int) bad)).a:Int)).toNat (32:Int):Nat):Int))+(1:Int)).toNat (32:Int) (bR t (((bH t (((bB t a.toNat (40:Int):Nat):Int)) dp (bR t a.toNat (40:Int) bad)).a:Int)).toNat (32:Int) ((bH t (((bB t a.toNat (40:Int):Nat):Int)) dp (bR t a.toNat (40:Int) bad)).bad)))).a:Int)).toNat (41:Int):Nat):Int))=((aV t a dp).a:Int)/\((((bH t (((bB t ((((bB t (((bH t (((bB t a.toNat (40:Int):Nat):Int)) dp (bR t a.toNat (40:Int) bad)).a:Int)).toNat (32:Int):Nat):Int))+(1:Int)).toNat (32:Int):Nat):Int)) (((bH t (((bB t a.toNat (40:Int):Nat):Int)) dp (bR t a.toNat (40:Int) bad)).dp:Int)) (bR t ((((bB t (((bH t (((bB t a.toNat (40:Int):Nat):Int)) dp (bR t a.toNat (40:Int) bad)).a:Int)).toNat (32:Int):Nat):Int))+(1:Int)).toNat (32:Int) (bR t (((bH t (((bB t a.toNat (40:Int):Nat):Int)) dp (bR t a.toNat (40:Int) bad)).a:Int)).toNat (32:Int) ((bH t (((bB t a.toNat (40:Int):Nat):Int)) dp (bR t a.toNat (40:Int) bad)).bad)))).dp:Int))=((aV t a dp).dp:Int)/\(bR t (((bH t (((bB t ((((bB t (((bH t (((bB t a.toNat (40:Int):Nat):Int)) dp (bR t a.toNat (40:Int) bad)).a:Int)).toNat (32:Int):Nat):Int))+(1:Int)).toNat (32:Int):Nat):Int)) (((bH t (((bB t a.toNat (40:Int):Nat):Int)) dp (bR t a.toNat (40:Int) bad)).dp:Int)) (bR t ((((bB t (((bH t (((bB t a.toNat (40:Int):Nat):Int)) dp (bR t a.toNat (40:Int) bad)).a:Int)).toNat (32:Int):Nat):Int))+(1:Int)).toNat (32:Int) (bR t (((bH t (((bB t a.toNat (40:Int):Nat):Int)) dp (bR t a.toNat (40:Int) bad)).a:Int)).toNat (32:Int) ((bH t (((bB t a.toNat (40:Int):Nat):Int)) dp (bR t a.toNat (40:Int) bad)).bad)))).a:Int)).toNat (41:Int) ((bH t (((bB t ((((bB t (((bH t (((bB t a.toNat (40:Int):Nat):Int)) dp (bR t a.toNat (40:Int) bad)).a:Int)).toNat (32:Int):Nat):Int))+(1:Int)).toNat (32:Int):Nat):Int)) (((bH t (((bB t a.toNat (40:Int):Nat):Int)) dp (bR t a.toNat (40:Int) bad)).dp:Int)) (bR t ((((bB t (((bH t (((bB t a.toNat (40:Int):Nat):Int)) dp (bR t a.toNat (40:Int) bad)).a:Int)).toNat (32:Int):Nat):Int))+(1:Int)).toNat (32:Int) (bR t (((bH t (((bB t a.toNat (40:Int):Nat):Int)) dp (bR t a.toNat (40:Int) bad)).a:Int)).toNat (32:Int) ((bH t (((bB t a.toNat (40:Int):Nat):Int)) dp (bR t a.toNat (40:Int) bad)).bad)))).bad))=((aV t a dp).bad))))/\True))))))))/\((decide ((bQ t (((bB t (((bH t (((bB t a.toNat (40:Int):Nat):Int)) dp (bR t a.toNat (40:Int) bad)).a:Int)).toNat (32:Int):Nat):Int)).toNat)=(43:Int)))=false ->
 ((3 * (101 - (((bH t (((bB t a.toNat (40:Int):Nat):Int)) dp (bR t a.toNat (40:Int) bad)).dp:Int))).toNat<n/\0<=(((bB t (((bH t (((bB t a.toNat (40:Int):Nat):Int)) dp (bR t a.toNat (40:Int) bad)).a:Int)).toNat (32:Int):Nat):Int))/\(((bB t (((bH t (((bB t a.toNat (40:Int):Nat):Int)) dp (bR t a.toNat (40:Int) bad)).a:Int)).toNat (32:Int):Nat):Int))<=(t.length:Int)/\t.length<=10000/\0<=(((bH t (((bB t a.toNat (40:Int):Nat):Int)) dp (bR t a.toNat (40:Int) bad)).dp:Int))/\(((bH t (((bB t a.toNat (40:Int):Nat):Int)) dp (bR t a.toNat (40:Int) bad)).dp:Int))<=1000)/\((0<=(((bH t (((bB t (((bH t (((bB t a.toNat (40:Int):Nat):Int)) dp (bR t a.toNat (40:Int) bad)).a:Int)).toNat (32:Int):Nat):Int)) (((bH t (((bB t a.toNat (40:Int):Nat):Int)) dp (bR t a.toNat (40:Int) bad)).dp:Int)) (bR t (((bH t (((bB t a.toNat (40:Int):Nat):Int)) dp (bR t a.toNat (40:Int) bad)).a:Int)).toNat (32:Int) ((bH t (((bB t a.toNat (40:Int):Nat):Int)) dp (bR t a.toNat (40:Int) bad)).bad))).a:Int))/\(((bH t (((bB t (((bH t (((bB t a.toNat (40:Int):Nat):Int)) dp (bR t a.toNat (40:Int) bad)).a:Int)).toNat (32:Int):Nat):Int)) (((bH t (((bB t a.toNat (40:Int):Nat):Int)) dp (bR t a.toNat (40:Int) bad)).dp:Int)) (bR t (((bH t (((bB t a.toNat (40:Int):Nat):Int)) dp (bR t a.toNat (40:Int) bad)).a:Int)).toNat (32:Int) ((bH t (((bB t a.toNat (40:Int):Nat):Int)) dp (bR t a.toNat (40:Int) bad)).bad))).a:Int))<=(t.length:Int)/\t.length<=10000)/\((J.mk (7:Int) (0:Int) ([(ag ((bH t (((bB t a.toNat (40:Int):Nat):Int)) dp (bR t a.toNat (40:Int) bad)).e)),(ag ((bH t (((bB t (((bH t (((bB t a.toNat (40:Int):Nat):Int)) dp (bR t a.toNat (40:Int) bad)).a:Int)).toNat (32:Int):Nat):Int)) (((bH t (((bB t a.toNat (40:Int):Nat):Int)) dp (bR t a.toNat (40:Int) bad)).dp:Int)) (bR t (((bH t (((bB t a.toNat (40:Int):Nat):Int)) dp (bR t a.toNat (40:Int) bad)).a:Int)).toNat (32:Int) ((bH t (((bB t a.toNat (40:Int):Nat):Int)) dp (bR t a.toNat (40:Int) bad)).bad))).e))]))=((aV t a dp).e)/\((t=t/\((((bB t (((bH t (((bB t (((bH t (((bB t a.toNat (40:Int):Nat):Int)) dp (bR t a.toNat (40:Int) bad)).a:Int)).toNat (32:Int):Nat):Int)) (((bH t (((bB t a.toNat (40:Int):Nat):Int)) dp (bR t a.toNat (40:Int) bad)).dp:Int)) (bR t (((bH t (((bB t a.toNat (40:Int):Nat):Int)) dp (bR t a.toNat (40:Int) bad)).a:Int)).toNat (32:Int) ((bH t (((bB t a.toNat (40:Int):Nat):Int)) dp (bR t a.toNat (40:Int) bad)).bad))).a:Int)).toNat (41:Int):Nat):Int))=((aV t a dp).a:Int)/\((((bH t (((bB t (((bH t (((bB t a.toNat (40:Int):Nat):Int)) dp (bR t a.toNat (40:Int) bad)).a:Int)).toNat (32:Int):Nat):Int)) (((bH t (((bB t a.toNat (40:Int):Nat):Int)) dp (bR t a.toNat (40:Int) bad)).dp:Int)) (bR t (((bH t (((bB t a.toNat (40:Int):Nat):Int)) dp (bR t a.toNat (40:Int) bad)).a:Int)).toNat (32:Int) ((bH t (((bB t a.toNat (40:Int):Nat):Int)) dp (bR t a.toNat (40:Int) bad)).bad))).dp:Int))=((aV t a dp).dp:Int)/\(bR t (((bH t (((bB t (((bH t (((bB t a.toNat (40:Int):Nat):Int)) dp (bR t a.toNat (40:Int) bad)).a:Int)).toNat (32:Int):Nat):Int)) (((bH t (((bB t a.toNat (40:Int):Nat):Int)) dp (bR t a.toNat (40:Int) bad)).dp:Int)) (bR t (((bH t (((bB t a.toNat (40:Int):Nat):Int)) dp (bR t a.toNat (40:Int) bad)).a:Int)).toNat (32:Int) ((bH t (((bB t a.toNat (40:Int):Nat):Int)) dp (bR t a.toNat (40:Int) bad)).bad))).a:Int)).toNat (41:Int) ((bH t (((bB t (((bH t (((bB t a.toNat (40:Int):Nat):Int)) dp (bR t a.toNat (40:Int) bad)).a:Int)).toNat (32:Int):Nat):Int)) (((bH t (((bB t a.toNat (40:Int):Nat):Int)) dp (bR t a.toNat (40:Int) bad)).dp:Int)) (bR t (((bH t (((bB t a.toNat (40:Int):Nat):Int)) dp (bR t a.toNat (40:Int) bad)).a:Int)).toNat (32:Int) ((bH t (((bB t a.toNat (40:Int):Nat):Int)) dp (bR t a.toNat (40:Int) bad)).bad))).bad))=((aV t a dp).bad))))/\True))))))))))):=by kernel_rfl
theorem Ba(n:Nat)(hE:aG [])(hO:fW [])(hM:gZ [])(hS:fX [bG,fv,eR n]):iV.Good (eU (n+1)):=by
 refine⟨aA lB rfl (by decide),?_⟩
 show ∀ (t:List UInt8) (a:Int) (dp:Int) (bad:Bool),(3 * (101 - dp).toNat+1<n+1/\0<=a/\a<=(t.length:Int)/\t.length<=10000/\0<=dp/\dp<=100/\bad=false/\bQ t a.toNat=40)->tu prog ns [[.d .str, .d (.int .i64), .d (.int .i64), .d .bool]] [.box 0] [[⟨.str,t⟩,⟨(.int .i64),a⟩,⟨(.int .i64),dp⟩,⟨.bool,bad⟩]] [⟨(.st .expr),(aV t a dp).e⟩] [[⟨.str,t⟩,⟨(.int .i64),((aV t a dp).a:Int)⟩,⟨(.int .i64),((aV t a dp).dp:Int)⟩,⟨.bool,(aV t a dp).bad⟩]]
 intro t a dp bad hp
 refine iA (own:=[9,27,32]) (wr:=[]) (cl:=[]) (ro:=[]) hE hO hM hS lB yZ (sa t a dp bad) rfl rfl ?_
 rewrite [Bo n t a dp bad]
 obtain⟨hm,h0,h1,h2,h3,h4,h5,h6⟩:=hp
 subst h5
 have l0:=uO t a.toNat (by rw[h6];decide)
 obtain⟨g1,g2⟩:=a7B t a 40 h0 h6
 have b1:=Rl t (a+1) dp false (by omega) (by omega) h3
 obtain⟨p1,p2⟩:=a2I t a dp h0 (by omega) h3 h4 h6 _ rfl
 simp only[yE] at p1 p2
 simp only[g1,g2,a8E]
 generalize bH t (a+1) dp false=X at *
 have c1:=DP t X.a 32 (by decide) (by omega)
 by_cases hs:bQ t (bB t X.a 32)=43
 .obtain⟨q1,q2,q3,q4⟩:=p1 hs
  have l1:=uO t (bB t X.a 32) (by rw[hs];decide)
  have e1:(((bB t X.a 32:Nat):Int)+1).toNat=bB t X.a 32+1:=by omega
  have c2:=DP t (bB t X.a 32+1) 32 (by decide) (by omega)
  have b2:=Rl t ((bB t (bB t X.a 32+1) 32:Nat):Int) (X.dp:Int) (bR t (bB t X.a 32+1) 32 (bR t X.a 32 X.bad)) (by omega) (by omega) (by omega)
  simp only[hs,e1,q1,q2,q3,q4,a9f,a9b,a8x,a8v,a8B,a8w,a8L,a8M,a8V,a9c,a8F,a9l,a8E,O,aP]
  generalize bH t ((bB t (bB t X.a 32+1) 32:Nat):Int) (X.dp:Int) (bR t (bB t X.a 32+1) 32 (bR t X.a 32 X.bad))=Y at *
  have c3:=DP t Y.a 41 (by decide) (by omega)
  repeat' (first|intro _|apply And.intro)
  all_goals first|exact True.intro|omega|with_reducible rfl
 .obtain⟨q1,q2,q3,q4⟩:=p2 hs
  have b2:=Rl t ((bB t X.a 32:Nat):Int) (X.dp:Int) (bR t X.a 32 X.bad) (by omega) (by omega) (by omega)
  simp only[hs,q1,q2,q3,q4,a9f,a9b,a8x,a8v,a8B,a8w,a8L,a8M,a8V,a9c,a8F,a9l,a8E,O,aP]
  generalize bH t ((bB t X.a 32:Nat):Int) (X.dp:Int) (bR t X.a 32 X.bad)=Y at *
  have c3:=DP t Y.a 41 (by decide) (by omega)
  repeat' (first|intro _|apply And.intro)
  all_goals first|exact True.intro|omega|with_reducible rfl
def r8(t:List UInt8)(a:Int)(dp:Int)(bad:Bool):Nat->aH:=(λ zb=>if Nat.beq zb 0 then .mk (Nat) (λ m=>m<=sE t (aV t a (dp+1))) (λ m=>sE t (aV t a (dp+1)) - m) [] [1,4,5,6,7,8,9,10,11,12,13,14,15,16,17,18,19,20,21,22,23,24,25,26,27] (λ m=>[]) [0,2,28,29,30,31,32,33,34,35,36,37,38,39,40,41,42,43,44,45,46,47,48,49,50,51,52,53,54,55] (λ m=>[(400000, .box [.aW ⟨.str,(t:List UInt8)⟩, .aW ⟨(.int .i64),(((aV t a (dp+1)).a:Int)+(m:Int):Int)⟩, .aW ⟨(.int .i64),(((aV t a (dp+1)).dp:Int):Int)⟩, .aW ⟨.bool,((aV t a (dp+1)).bad:Bool)⟩]),(3, .box [.aW ⟨(.int .i64),((aX 8 m (aV t a (dp+1)).e).ak:Int)⟩, .aW ⟨(.int .i64),((aX 8 m (aV t a (dp+1)).e).aI:Int)⟩, .aE 7100]),(7100, .aE (.st .expr) ((aX 8 m (aV t a (dp+1)).e).M:List J))]) [] [] (λ m=>λ _ => .none) else .none)
theorem Bm(n:Nat)(t:List UInt8)(a:Int)(dp:Int)(bad:Bool):ck (cY [] [] [] [27,46] [] [] [] [bG,cP n]) (au eo) (r8 t a dp bad) 0 (kV (cY [] [] [] [27,46] [] [] [] [bG,cP n]) eo [[.d .str, .d (.int .i64), .d (.int .i64), .d .bool]] λ r ds=>bp r [⟨(.st .expr),(bH t a dp bad).e⟩]/\ng ds [[⟨.str,t⟩,⟨(.int .i64),((bH t a dp bad).a:Int)⟩,⟨(.int .i64),((bH t a dp bad).dp:Int)⟩,⟨.bool,(bH t a dp bad).bad⟩]]) (cR eo [.box 0] [[.d .str, .d (.int .i64), .d (.int .i64), .d .bool]] [[⟨.str,t⟩,⟨(.int .i64),a⟩,⟨(.int .i64),dp⟩,⟨.bool,bad⟩]]) =
 ((O dp ->
 (O (dp+(1:Int))/\((bad=false ->
 (O (dp+(1:Int)) ->
 (((decide ((100:Int)<(dp+(1:Int))))=true ->
 (zE=((bH t a dp bad).e)/\((t=t/\(a=((bH t a dp bad).a:Int)/\((dp+(1:Int))=((bH t a dp bad).dp:Int)/\true=((bH t a dp bad).bad))))/\True)))/\((decide ((100:Int)<(dp+(1:Int))))=false ->
 ((3 * (101 - (dp+(1:Int))).toNat+2<n/\0<=a/\a<=(t.length:Int)/\t.length<=10000/\0<=(dp+(1:Int))/\(dp+(1:Int))<=100/\bad=false)/\((∃ m1:Nat,(m1<=sE t (aV t a (dp+1))/\((True/\(True/\(True/\True)))/\((t=t/\((((aV t a (dp+(1:Int))).a:Int))=(((aV t a (dp+1)).a:Int)+(m1:Int))/\((((aV t a (dp+(1:Int))).dp:Int))=((aV t a (dp+1)).dp:Int)/\(((aV t a (dp+(1:Int))).bad)=((aV t a (dp+1)).bad)/\True))))/\((((aV t a (dp+(1:Int))).e).ak=((aX 8 m1 (aV t a (dp+1)).e).ak)/\(((aV t a (dp+(1:Int))).e).aI=((aX 8 m1 (aV t a (dp+1)).e).aI)/\(True/\True)))/\(((aV t a (dp+(1:Int))).e).M=((aX 8 m1 (aV t a (dp+1)).e).M)/\(((0:Int)=(0:Int)/\((0:Int)=(0:Int)/\(True/\True)))/\True)))))))/\(∀ m1:Nat,(m1<=sE t (aV t a (dp+1)) ->
 (((!((aV t a (dp+1)).bad))=true ->
 ((0<=(((aV t a (dp+1)).a:Int)+(m1:Int))/\(((aV t a (dp+1)).a:Int)+(m1:Int))<=(t.length:Int)/\t.length<=10000)/\(((decide ((bQ t (((aV t a (dp+1)).a:Int)+(m1:Int)).toNat)=(42:Int)))=true ->
 (O (((aV t a (dp+1)).a:Int)+(m1:Int)) ->
 (O ((((aV t a (dp+1)).a:Int)+(m1:Int))+(1:Int))/\(∃ m2:Nat,(m2<=sE t (aV t a (dp+1))/\(sE t (aV t a (dp+1)) - m2<sE t (aV t a (dp+1)) - m1/\((True/\(True/\(True/\True)))/\((t=t/\(((((aV t a (dp+1)).a:Int)+(m1:Int))+(1:Int))=(((aV t a (dp+1)).a:Int)+(m2:Int))/\(((aV t a (dp+1)).dp:Int)=((aV t a (dp+1)).dp:Int)/\(((aV t a (dp+1)).bad)=((aV t a (dp+1)).bad)/\True))))/\(((8:Int)=((aX 8 m2 (aV t a (dp+1)).e).ak)/\((0:Int)=((aX 8 m2 (aV t a (dp+1)).e).aI)/\(True/\True)))/\(([(J.mk ((aX 8 m1 (aV t a (dp+1)).e).ak) ((aX 8 m1 (aV t a (dp+1)).e).aI) ((aX 8 m1 (aV t a (dp+1)).e).M))])=((aX 8 m2 (aV t a (dp+1)).e).M)/\(((0:Int)=(0:Int)/\((0:Int)=(0:Int)/\(True/\True)))/\True)))))))))))/\((decide ((bQ t (((aV t a (dp+1)).a:Int)+(m1:Int)).toNat)=(42:Int)))=false ->
 (O ((aV t a (dp+1)).dp:Int) ->
 (O (((aV t a (dp+1)).dp:Int) - (1:Int))/\((J.mk ((aX 8 m1 (aV t a (dp+1)).e).ak) ((aX 8 m1 (aV t a (dp+1)).e).aI) ((aX 8 m1 (aV t a (dp+1)).e).M))=((bH t a dp bad).e)/\((t=t/\((((aV t a (dp+1)).a:Int)+(m1:Int))=((bH t a dp bad).a:Int)/\((((aV t a (dp+1)).dp:Int) - (1:Int))=((bH t a dp bad).dp:Int)/\((aV t a (dp+1)).bad)=((bH t a dp bad).bad))))/\True))))))))/\((!((aV t a (dp+1)).bad))=(!true) ->
 ((false=true ->
 (O (((aV t a (dp+1)).a:Int)+(m1:Int)) ->
 (O ((((aV t a (dp+1)).a:Int)+(m1:Int))+(1:Int))/\(∃ m2:Nat,(m2<=sE t (aV t a (dp+1))/\(sE t (aV t a (dp+1)) - m2<sE t (aV t a (dp+1)) - m1/\((True/\(True/\(True/\True)))/\((t=t/\(((((aV t a (dp+1)).a:Int)+(m1:Int))+(1:Int))=(((aV t a (dp+1)).a:Int)+(m2:Int))/\(((aV t a (dp+1)).dp:Int)=((aV t a (dp+1)).dp:Int)/\(((aV t a (dp+1)).bad)=((aV t a (dp+1)).bad)/\True))))/\(((8:Int)=((aX 8 m2 (aV t a (dp+1)).e).ak)/\((0:Int)=((aX 8 m2 (aV t a (dp+1)).e).aI)/\(True/\True)))/\(([(J.mk ((aX 8 m1 (aV t a (dp+1)).e).ak) ((aX 8 m1 (aV t a (dp+1)).e).aI) ((aX 8 m1 (aV t a (dp+1)).e).M))])=((aX 8 m2 (aV t a (dp+1)).e).M)/\(((0:Int)=(0:Int)/\((0:Int)=(0:Int)/\(True/\True)))/\True)))))))))))/\(false=false ->
 (O ((aV t a (dp+1)).dp:Int) ->
 (O (((aV t a (dp+1)).dp:Int) - (1:Int))/\((J.mk ((aX 8 m1 (aV t a (dp+1)).e).ak) ((aX 8 m1 (aV t a (dp+1)).e).aI) ((aX 8 m1 (aV t a (dp+1)).e).M))=((bH t a dp bad).e)/\((t=t/\((((aV t a (dp+1)).a:Int)+(m1:Int))=((bH t a dp bad).a:Int)/\((((aV t a (dp+1)).dp:Int) - (1:Int))=((bH t a dp bad).dp:Int)/\((aV t a (dp+1)).bad)=((bH t a dp bad).bad))))/\True))))))))))))))))/\(bad=(!false) ->
 ((true=true ->
 (zE=((bH t a dp bad).e)/\((t=t/\(a=((bH t a dp bad).a:Int)/\((dp+(1:Int))=((bH t a dp bad).dp:Int)/\true=((bH t a dp bad).bad))))/\True)))/\(true=false ->
 ((3 * (101 - (dp+(1:Int))).toNat+2<n/\0<=a/\a<=(t.length:Int)/\t.length<=10000/\0<=(dp+(1:Int))/\(dp+(1:Int))<=100/\bad=false)/\((∃ m1:Nat,(m1<=sE t (aV t a (dp+1))/\((True/\(True/\(True/\True)))/\((t=t/\((((aV t a (dp+(1:Int))).a:Int))=(((aV t a (dp+1)).a:Int)+(m1:Int))/\((((aV t a (dp+(1:Int))).dp:Int))=((aV t a (dp+1)).dp:Int)/\(((aV t a (dp+(1:Int))).bad)=((aV t a (dp+1)).bad)/\True))))/\((((aV t a (dp+(1:Int))).e).ak=((aX 8 m1 (aV t a (dp+1)).e).ak)/\(((aV t a (dp+(1:Int))).e).aI=((aX 8 m1 (aV t a (dp+1)).e).aI)/\(True/\True)))/\(((aV t a (dp+(1:Int))).e).M=((aX 8 m1 (aV t a (dp+1)).e).M)/\(((0:Int)=(0:Int)/\((0:Int)=(0:Int)/\(True/\True)))/\True)))))))/\(∀ m1:Nat,(m1<=sE t (aV t a (dp+1)) ->
 (((!((aV t a (dp+1)).bad))=true ->
 ((0<=(((aV t a (dp+1)).a:Int)+(m1:Int))/\(((aV t a (dp+1)).a:Int)+(m1:Int))<=(t.length:Int)/\t.length<=10000)/\(((decide ((bQ t (((aV t a (dp+1)).a:Int)+(m1:Int)).toNat)=(42:Int)))=true ->
 (O (((aV t a (dp+1)).a:Int)+(m1:Int)) ->
 (O ((((aV t a (dp+1)).a:Int)+(m1:Int))+(1:Int))/\(∃ m2:Nat,(m2<=sE t (aV t a (dp+1))/\(sE t (aV t a (dp+1)) - m2<sE t (aV t a (dp+1)) - m1/\((True/\(True/\(True/\True)))/\((t=t/\(((((aV t a (dp+1)).a:Int)+(m1:Int))+(1:Int))=(((aV t a (dp+1)).a:Int)+(m2:Int))/\(((aV t a (dp+1)).dp:Int)=((aV t a (dp+1)).dp:Int)/\(((aV t a (dp+1)).bad)=((aV t a (dp+1)).bad)/\True))))/\(((8:Int)=((aX 8 m2 (aV t a (dp+1)).e).ak)/\((0:Int)=((aX 8 m2 (aV t a (dp+1)).e).aI)/\(True/\True)))/\(([(J.mk ((aX 8 m1 (aV t a (dp+1)).e).ak) ((aX 8 m1 (aV t a (dp+1)).e).aI) ((aX 8 m1 (aV t a (dp+1)).e).M))])=((aX 8 m2 (aV t a (dp+1)).e).M)/\(((0:Int)=(0:Int)/\((0:Int)=(0:Int)/\(True/\True)))/\True)))))))))))/\((decide ((bQ t (((aV t a (dp+1)).a:Int)+(m1:Int)).toNat)=(42:Int)))=false ->
 (O ((aV t a (dp+1)).dp:Int) ->
 (O (((aV t a (dp+1)).dp:Int) - (1:Int))/\((J.mk ((aX 8 m1 (aV t a (dp+1)).e).ak) ((aX 8 m1 (aV t a (dp+1)).e).aI) ((aX 8 m1 (aV t a (dp+1)).e).M))=((bH t a dp bad).e)/\((t=t/\((((aV t a (dp+1)).a:Int)+(m1:Int))=((bH t a dp bad).a:Int)/\((((aV t a (dp+1)).dp:Int) - (1:Int))=((bH t a dp bad).dp:Int)/\((aV t a (dp+1)).bad)=((bH t a dp bad).bad))))/\True))))))))/\((!((aV t a (dp+1)).bad))=(!true) ->
 ((false=true ->
 (O (((aV t a (dp+1)).a:Int)+(m1:Int)) ->
 (O ((((aV t a (dp+1)).a:Int)+(m1:Int))+(1:Int))/\(∃ m2:Nat,(m2<=sE t (aV t a (dp+1))/\(sE t (aV t a (dp+1)) - m2<sE t (aV t a (dp+1)) - m1/\((True/\(True/\(True/\True)))/\((t=t/\(((((aV t a (dp+1)).a:Int)+(m1:Int))+(1:Int))=(((aV t a (dp+1)).a:Int)+(m2:Int))/\(((aV t a (dp+1)).dp:Int)=((aV t a (dp+1)).dp:Int)/\(((aV t a (dp+1)).bad)=((aV t a (dp+1)).bad)/\True))))/\(((8:Int)=((aX 8 m2 (aV t a (dp+1)).e).ak)/\((0:Int)=((aX 8 m2 (aV t a (dp+1)).e).aI)/\(True/\True)))/\(([(J.mk ((aX 8 m1 (aV t a (dp+1)).e).ak) ((aX 8 m1 (aV t a (dp+1)).e).aI) ((aX 8 m1 (aV t a (dp+1)).e).M))])=((aX 8 m2 (aV t a (dp+1)).e).M)/\(((0:Int)=(0:Int)/\((0:Int)=(0:Int)/\(True/\True)))/\True)))))))))))/\(false=false ->
 (O ((aV t a (dp+1)).dp:Int) ->
 (O (((aV t a (dp+1)).dp:Int) - (1:Int))/\((J.mk ((aX 8 m1 (aV t a (dp+1)).e).ak) ((aX 8 m1 (aV t a (dp+1)).e).aI) ((aX 8 m1 (aV t a (dp+1)).e).M))=((bH t a dp bad).e)/\((t=t/\((((aV t a (dp+1)).a:Int)+(m1:Int))=((bH t a dp bad).a:Int)/\((((aV t a (dp+1)).dp:Int) - (1:Int))=((bH t a dp bad).dp:Int)/\((aV t a (dp+1)).bad)=((bH t a dp bad).bad))))/\True))))))))))))))))))):=by kernel_rfl
theorem A8(n:Nat)(hE:aG [])(hO:fW [])(hM:gZ [])(hS:fX [bG,cP n]):iV.Good (eR (n+1)):=by
 refine⟨aA hH rfl (by decide),?_⟩
 show ∀ (t:List UInt8) (a:Int) (dp:Int) (bad:Bool),(3 * (101 - dp).toNat<n+1/\0<=a/\a<=(t.length:Int)/\t.length<=10000/\0<=dp/\dp<=1000)->tu prog iO [[.d .str, .d (.int .i64), .d (.int .i64), .d .bool]] [.box 0] [[⟨.str,t⟩,⟨(.int .i64),a⟩,⟨(.int .i64),dp⟩,⟨.bool,bad⟩]] [⟨(.st .expr),(bH t a dp bad).e⟩] [[⟨.str,t⟩,⟨(.int .i64),((bH t a dp bad).a:Int)⟩,⟨(.int .i64),((bH t a dp bad).dp:Int)⟩,⟨.bool,(bH t a dp bad).bad⟩]]
 intro t a dp bad hp
 refine iA (own:=[27,46]) (wr:=[]) (cl:=[]) (ro:=[]) hE hO hM hS hH yX (r8 t a dp bad) rfl rfl ?_
 rewrite [Bm n t a dp bad]
 obtain⟨hm,h0,h1,h2,h3,h4⟩:=hp
 cases bad with
 | true =>
  obtain⟨q1,q2,q3,q4⟩:=Xp t a dp true h0 h3 (.inl rfl)
  simp only[q1,q2,q3,q4,a9f,a9b,a8x,a8v,a8B,a8w,a8L,a8M,a8V,a9c,a8F,a9l,a8E,O,aP]
  repeat' (first|intro _|apply And.intro)
  all_goals first|exact True.intro|omega|with_reducible rfl
 | false =>
  by_cases hd:100<dp+1
  .obtain⟨q1,q2,q3,q4⟩:=Xp t a dp false h0 h3 (.inr hd)
   simp only[hd,q1,q2,q3,q4,a9f,a9b,a8x,a8v,a8B,a8w,a8L,a8M,a8V,a9c,a8F,a9l,a8E,O,aP]
   repeat' (first|intro _|apply And.intro)
   all_goals first|exact True.intro|omega|with_reducible rfl
  .obtain⟨q1,q2,q3,q4⟩:=a3F t a dp false h0 h1 h3 rfl hd
   have b1:=MB t a (dp+1) h0 h1 (by omega) (by omega)
   have b2:=a5U t a (dp+1) h0 h1 (by omega) (by omega)
   simp only[hd,q1,q2,q3,q4,a9f,a9b,a8x,a8v,a8B,a8w,a8L,a8M,a8V,a9c,a8F,a9l,a8E,O,aP]
   generalize aV t a (dp+1)=R at *
   cases hB:R.bad with
   | true =>
    have z:=a4g t R hB
    simp only[hB,z,a9f,a9b,a8x,a8v,a8B,a8w,a8L,a8M,a8V,a9c,a8F,a9l,a8E,O,aP]
    repeat' (first|intro _|apply And.intro)
    all_goals first|exact True.intro|omega|with_reducible rfl|exact⟨0,a9J _,by omega,⟨rfl,rfl⟩,rfl⟩|(simp only[J.eta];congr 1;omega)
   | false =>
    have z:=λ m h=>a5T t R m hB h
    simp only[hB,a9f,a9b,a8x,a8v,a8B,a8w,a8L,a8M,a8V,a9c,a8F,a9l,a8E,O,aP]
    repeat' (first|intro _|apply And.intro)
    all_goals (try simp only[a8p,a8q] at *)
    all_goals first|exact True.intro|omega|with_reducible rfl|exact⟨0,a9J _,by omega,⟨rfl,rfl⟩,rfl⟩|(rename_i m1 _ _ _;have g:=z m1 (by assumption);first|omega|(simp only[J.eta];congr 1;omega)|exact⟨m1+1,by omega,by omega,by omega,⟨by rw[eh],by rw[eh]⟩,by rw[eh,J.eta]⟩)
theorem UL:∀ n,fX [cP n,eU n,eR n]
 | 0=>⟨⟨aA kX rfl (by decide),λ _ _ _ _ h=>absurd h.1 (a9p _)⟩,⟨aA lB rfl (by decide),λ _ _ _ _ h=>absurd h.1 (a9p _)⟩,⟨aA hH rfl (by decide),λ _ _ _ _ h=>absurd h.1 (a9p _)⟩,trivial⟩
 | n+1=>by
  have ih:=UL n
  exact⟨zj n trivial trivial trivial ⟨ef,yI,ih.2.1,ih.1,trivial⟩,Ba n trivial trivial trivial ⟨ef,yJ,ih.2.2.1,trivial⟩,A8 n trivial trivial trivial ⟨ef,ih.1,trivial⟩,trivial⟩
theorem yH:iV.Good ij :=
 ⟨aA hH rfl (by decide),λ t a dp bad hp=>(UL (3 * (101 - dp).toNat+1)).2.2.1.2 t a dp bad (⟨a9h _,hp⟩)⟩
end
end Go.Proofs.YtmjfpcajohhbeaaGreatDoor

set_option maxRecDepth 4000
set_option maxHeartbeats 4000000
namespace Go.Proofs.YtmjfpcajohhbeaaGreatDoor
noncomputable section
def xh(gg:aO)(t:List UInt8):J:=bif bK gg&&decide (t.length<=4000) then jK gg t else zX
def Bg(gg:aO)(t:List UInt8):Int:=bif bK gg then (bif decide (t.length<=4000) then (bif dz gg t then 0 else 5) else 2) else 1
theorem a2i(t:List UInt8):bH t 0 0 false=yO t:=rfl
def kP:aJ:=⟨ua,[.v (.st .sig), .v .str],λ (gg:aO) (t:List UInt8)=>⟨(some (bK gg=true/\t.length<=8000),[⟨(.st .expr),jK gg t⟩,⟨.bool,dz gg t⟩])⟩⟩
def As(gg:aO)(t:List UInt8):Nat->aH:=λ _ => .none
theorem Lh(gg:aO)(t:List UInt8):ck (cY [de,sT] [] [] [12] [] [] [2] [kR]) (au jd) (As gg t) 0 (fI (cY [de,sT] [] [] [12] [] [] [2] [kR]) jd λ r=>bp r [⟨(.st .expr),jK gg t⟩,⟨.bool,dz gg t⟩]) (jN jd [.val ⟨(.st .sig),gg⟩, .val ⟨.str,t⟩]) =
 (((0<=(0:Int)/\(0:Int)<=(t.length:Int)/\t.length<=10000 /\ -1<=(40:Int)/\(40:Int)<=40)/\(((!((xE t (40:Int) (0:Int)).ok))=false ->
 (O (((xE t (40:Int) (0:Int)).a:Int)) ->
 (O ((t.length:Int)) ->
 (((!(decide ((((xE t (40:Int) (0:Int)).a:Int))=((t.length:Int)))))=false ->
 (((!(cg gg (ag ((xE t (40:Int) (0:Int)).e))))=false ->
 ((dT (ag ((xE t (40:Int) (0:Int)).e))=true/\(bV (ag ((xE t (40:Int) (0:Int)).e))).length<=1000000)/\((bV (ag ((xE t (40:Int) (0:Int)).e))).length<=140737488355328 ->
 (((!decide ((bV (ag ((xE t (40:Int) (0:Int)).e)))=t))=true ->
 (zE=(jK gg t)/\false=(dz gg t)))/\((!decide ((bV (ag ((xE t (40:Int) (0:Int)).e)))=t))=false ->
 ((ag ((xE t (40:Int) (0:Int)).e))=(jK gg t)/\true=(dz gg t)))))))/\((!(cg gg (ag ((xE t (40:Int) (0:Int)).e))))=(!false) ->
 ((true=true ->
 (zE=(jK gg t)/\false=(dz gg t)))/\(true=false ->
 ((ag ((xE t (40:Int) (0:Int)).e))=(jK gg t)/\true=(dz gg t)))))))/\((!(decide ((((xE t (40:Int) (0:Int)).a:Int))=((t.length:Int)))))=(!false) ->
 ((true=false ->
 ((dT (ag ((xE t (40:Int) (0:Int)).e))=true/\(bV (ag ((xE t (40:Int) (0:Int)).e))).length<=1000000)/\((bV (ag ((xE t (40:Int) (0:Int)).e))).length<=140737488355328 ->
 (((!decide ((bV (ag ((xE t (40:Int) (0:Int)).e)))=t))=true ->
 (zE=(jK gg t)/\false=(dz gg t)))/\((!decide ((bV (ag ((xE t (40:Int) (0:Int)).e)))=t))=false ->
 ((ag ((xE t (40:Int) (0:Int)).e))=(jK gg t)/\true=(dz gg t)))))))/\(true=(!false) ->
 ((true=true ->
 (zE=(jK gg t)/\false=(dz gg t)))/\(true=false ->
 ((ag ((xE t (40:Int) (0:Int)).e))=(jK gg t)/\true=(dz gg t)))))))))))/\((!((xE t (40:Int) (0:Int)).ok))=(!false) ->
 ((true=false ->
 (((!(cg gg (ag ((xE t (40:Int) (0:Int)).e))))=false ->
 ((dT (ag ((xE t (40:Int) (0:Int)).e))=true/\(bV (ag ((xE t (40:Int) (0:Int)).e))).length<=1000000)/\((bV (ag ((xE t (40:Int) (0:Int)).e))).length<=140737488355328 ->
 (((!decide ((bV (ag ((xE t (40:Int) (0:Int)).e)))=t))=true ->
 (zE=(jK gg t)/\false=(dz gg t)))/\((!decide ((bV (ag ((xE t (40:Int) (0:Int)).e)))=t))=false ->
 ((ag ((xE t (40:Int) (0:Int)).e))=(jK gg t)/\true=(dz gg t)))))))/\((!(cg gg (ag ((xE t (40:Int) (0:Int)).e))))=(!false) ->
 ((true=true ->
 (zE=(jK gg t)/\false=(dz gg t)))/\(true=false ->
 ((ag ((xE t (40:Int) (0:Int)).e))=(jK gg t)/\true=(dz gg t)))))))/\(true=(!false) ->
 ((true=false ->
 ((dT (ag ((xE t (40:Int) (0:Int)).e))=true/\(bV (ag ((xE t (40:Int) (0:Int)).e))).length<=1000000)/\((bV (ag ((xE t (40:Int) (0:Int)).e))).length<=140737488355328 ->
 (((!decide ((bV (ag ((xE t (40:Int) (0:Int)).e)))=t))=true ->
 (zE=(jK gg t)/\false=(dz gg t)))/\((!decide ((bV (ag ((xE t (40:Int) (0:Int)).e)))=t))=false ->
 ((ag ((xE t (40:Int) (0:Int)).e))=(jK gg t)/\true=(dz gg t)))))))/\(true=(!false) ->
 ((true=true ->
 (zE=(jK gg t)/\false=(dz gg t)))/\(true=false ->
 ((ag ((xE t (40:Int) (0:Int)).e))=(jK gg t)/\true=(dz gg t)))))))))))):=by kernel_rfl
theorem KY(hE:aG [de,sT])(hO:fW [])(hM:gZ [])(hS:fX [kR]):aJ.eA kP:=by
 refine⟨aA zx rfl (by decide),?_⟩
 show ∀ (gg:aO) (t:List UInt8),(bK gg=true/\t.length<=8000)->iI prog ua [.val ⟨(.st .sig),gg⟩, .val ⟨.str,t⟩] [⟨(.st .expr),jK gg t⟩,⟨.bool,dz gg t⟩]
 intro gg t hp
 refine ec (own:=[12]) (wr:=[]) (cl:=[]) (ro:=[2]) hE hO hM hS zx HV (As gg t) ?_
 rewrite [Lh gg t]
 obtain⟨hg,hl⟩:=hp
 have r1:dz gg t=((xE t 40 0).ok&&decide ((xE t 40 0).a=t.length)&&cg gg (xE t 40 0).e&&decide (bV (xE t 40 0).e=t)):=rfl
 have r2:jK gg t=bif dz gg t then (xE t 40 0).e else zX:=rfl
 have r3:=Dw gg (xE t 40 0).e hg
 rcases a9o (xE t 40 0).ok with h1|h1
 .by_cases h2:(xE t 40 0).a=t.length
  .have d2:decide (((xE t 40 0).a:Int)=(t.length:Int))=true:=a8W (by omega)
   rcases a9o (cg gg (xE t 40 0).e) with h3|h3
   .obtain⟨g1,g2,g3⟩:=r3 h3
    by_cases h4:bV (xE t 40 0).e=t
    .have k1:dz gg t=true:=by rw[r1,h1,a8W h2,h3,a8W h4];rfl
     have k2:jK gg t=(xE t 40 0).e:=by rw[r2,k1];rfl
     simp only[h1,d2,h3,a8W h4,g1,k1,k2,a9f,a9b,a8x,a8v,a8B,a8w,a8L,a8M,a8V,a9c,a8F,a9l,a8E,O,aP]
     repeat' (first|intro _|apply And.intro)
     all_goals first|exact True.intro|omega|with_reducible rfl
    .have k1:dz gg t=false:=by rw[r1,a8D h4];simp
     have k2:jK gg t=zX:=by rw[r2,k1];rfl
     simp only[h1,d2,h3,a8D h4,g1,k1,k2,a9f,a9b,a8x,a8v,a8B,a8w,a8L,a8M,a8V,a9c,a8F,a9l,a8E,O,aP]
     repeat' (first|intro _|apply And.intro)
     all_goals first|exact True.intro|omega|with_reducible rfl
   .have k1:dz gg t=false:=by rw[r1,h3];simp
    have k2:jK gg t=zX:=by rw[r2,k1];rfl
    simp only[h1,d2,h3,k1,k2,a9f,a9b,a8x,a8v,a8B,a8w,a8L,a8M,a8V,a9c,a8F,a9l,a8E,O,aP]
    repeat' (first|intro _|apply And.intro)
    all_goals first|exact True.intro|omega|with_reducible rfl
  .have d2:decide (((xE t 40 0).a:Int)=(t.length:Int))=false:=a8D (by omega)
   have k1:dz gg t=false:=by rw[r1,a8D h2];simp
   have k2:jK gg t=zX:=by rw[r2,k1];rfl
   simp only[h1,d2,k1,k2,a9f,a9b,a8x,a8v,a8B,a8w,a8L,a8M,a8V,a9c,a8F,a9l,a8E,O,aP]
   repeat' (first|intro _|apply And.intro)
   all_goals first|exact True.intro|omega|with_reducible rfl
 .have k1:dz gg t=false:=by rw[r1,h1];rfl
  have k2:jK gg t=zX:=by rw[r2,k1];rfl
  simp only[h1,k1,k2,a9f,a9b,a8x,a8v,a8B,a8w,a8L,a8M,a8V,a9c,a8F,a9l,a8E,O,aP]
  repeat' (first|intro _|apply And.intro)
  all_goals first|exact True.intro|omega|with_reducible rfl
theorem GP:aJ.eA kP:=KY ⟨oL,Mf,trivial⟩ trivial trivial ⟨CM,trivial⟩
def kQ:aJ:=⟨ui,[.v (.st .sig), .v .str],λ (gg:aO) (t:List UInt8)=>⟨(none,[⟨(.st .expr),xh gg t⟩,⟨(.int .i64),Bg gg t⟩])⟩⟩
def Au(gg:aO)(t:List UInt8):Nat->aH:=λ _ => .none
theorem Lj(gg:aO)(t:List UInt8):ck (cY [eb,eQ] [] [] [20] [] [] [2] [ij]) (au jm) (Au gg t) 0 (fI (cY [eb,eQ] [] [] [20] [] [] [2] [ij]) jm λ r=>bp r [⟨(.st .expr),xh gg t⟩,⟨(.int .i64),Bg gg t⟩]) (jN jm [.val ⟨(.st .sig),gg⟩, .val ⟨.str,t⟩]) =
 ((((!(bK gg))=true ->
 (zE=(xh gg t)/\(1:Int)=(Bg gg t)))/\((!(bK gg))=false ->
 (O ((t.length:Int)) ->
 (((decide ((4000:Int)<((t.length:Int))))=true ->
 (zE=(xh gg t)/\(2:Int)=(Bg gg t)))/\((decide ((4000:Int)<((t.length:Int))))=false ->
 ((0<=(0:Int)/\(0:Int)<=(t.length:Int)/\t.length<=10000/\0<=(0:Int)/\(0:Int)<=1000)/\((((bH t (0:Int) (0:Int) false).bad)=false ->
 (O (((bH t (0:Int) (0:Int) false).a:Int)) ->
 (O ((t.length:Int)) ->
 (((!(decide ((((bH t (0:Int) (0:Int) false).a:Int))=((t.length:Int)))))=false ->
 (((!(uu gg (ag ((bH t (0:Int) (0:Int) false).e))))=true ->
 (zE=(xh gg t)/\(5:Int)=(Bg gg t)))/\((!(uu gg (ag ((bH t (0:Int) (0:Int) false).e))))=false ->
 ((ag ((bH t (0:Int) (0:Int) false).e))=(xh gg t)/\(0:Int)=(Bg gg t)))))/\((!(decide ((((bH t (0:Int) (0:Int) false).a:Int))=((t.length:Int)))))=(!false) ->
 ((true=true ->
 (zE=(xh gg t)/\(5:Int)=(Bg gg t)))/\(true=false ->
 ((ag ((bH t (0:Int) (0:Int) false).e))=(xh gg t)/\(0:Int)=(Bg gg t)))))))))/\(((bH t (0:Int) (0:Int) false).bad)=(!false) ->
 ((true=false ->
 (((!(uu gg (ag ((bH t (0:Int) (0:Int) false).e))))=true ->
 (zE=(xh gg t)/\(5:Int)=(Bg gg t)))/\((!(uu gg (ag ((bH t (0:Int) (0:Int) false).e))))=false ->
 ((ag ((bH t (0:Int) (0:Int) false).e))=(xh gg t)/\(0:Int)=(Bg gg t)))))/\(true=(!false) ->
 ((true=true ->
 (zE=(xh gg t)/\(5:Int)=(Bg gg t)))/\(true=false ->
 ((ag ((bH t (0:Int) (0:Int) false).e))=(xh gg t)/\(0:Int)=(Bg gg t))))))))))))))):=by kernel_rfl
theorem K0(hE:aG [eb,eQ])(hO:fW [])(hM:gZ [])(hS:fX [ij]):aJ.eA kQ:=by
 refine⟨aA zG rfl (by decide),?_⟩
 show ∀ (gg:aO) (t:List UInt8),True->iI prog ui [.val ⟨(.st .sig),gg⟩, .val ⟨.str,t⟩] [⟨(.st .expr),xh gg t⟩,⟨(.int .i64),Bg gg t⟩]
 intro gg t _
 refine ec (own:=[20]) (wr:=[]) (cl:=[]) (ro:=[2]) hE hO hM hS zG H4 (Au gg t) ?_
 rewrite [Lj gg t]
 have r1:xh gg t=bif bK gg&&decide (t.length<=4000) then jK gg t else zX:=rfl
 have r2:Bg gg t=bif bK gg then (bif decide (t.length<=4000) then (bif dz gg t then 0 else 5) else 2) else 1:=rfl
 have r3:dz gg t=false->jK gg t=zX:=λ h=>by unfold jK;rw[h];rfl
 rcases a9o (bK gg) with hg|hg
 .by_cases hl:t.length<=4000
  .have d1:decide ((4000:Int)<((t.length:Int)))=false:=a8D (by omega)
   have s0:=a3c gg t hg
   rw[<-a2i] at s0
   obtain⟨s1,s2⟩:=s0
   have s3:uu gg (bH t 0 0 false).e=cg gg (bH t 0 0 false).e:=by unfold uu;rw[hg];rfl
   simp only[r1,r2,hg,d1,a8W hl,s3,b0O,b1s,a9f,a9b,a8x,a8v,a8B,a8w,a8L,a8M,a8V,a9c,a8F,a9l,a8E,O,aP]
   rcases a9o (bH t 0 0 false).bad with h1|h1
   .have k:dz gg t=false:=by rw[<-s1,h1];rfl
    simp only[h1,k,r3 k,b1D,a9f,a9b,a8x,a8v,a8B,a8w,a8L,a8M,a8V,a9c,a8F,a9l,a8E,O,aP]
    repeat' (first|intro _|apply And.intro)
    all_goals first|exact True.intro|omega|with_reducible rfl|with_reducible assumption
   .by_cases h2:(bH t 0 0 false).a=t.length
    .have d2:decide (((bH t 0 0 false).a:Int)=(t.length:Int))=true:=a8W (by omega)
     rcases a9o (cg gg (bH t 0 0 false).e) with h3|h3
     .have k:dz gg t=true:=by rw[<-s1,h1,a8W h2,h3];rfl
      have k2:=s2 k
      simp only[h1,d2,h3,k,b1s,a9f,a9b,a8x,a8v,a8B,a8w,a8L,a8M,a8V,a9c,a8F,a9l,a8E,O,aP]
      repeat' (first|intro _|apply And.intro)
      all_goals first|exact True.intro|omega|with_reducible rfl|with_reducible assumption
     .have k:dz gg t=false:=by rw[<-s1,h3];simp
      simp only[h1,d2,h3,k,r3 k,b1D,a9f,a9b,a8x,a8v,a8B,a8w,a8L,a8M,a8V,a9c,a8F,a9l,a8E,O,aP]
      repeat' (first|intro _|apply And.intro)
      all_goals first|exact True.intro|omega|with_reducible rfl|with_reducible assumption
    .have d2:decide (((bH t 0 0 false).a:Int)=(t.length:Int))=false:=a8D (by omega)
     have k:dz gg t=false:=by rw[<-s1,a8D h2];simp
     simp only[h1,d2,k,r3 k,b1D,a9f,a9b,a8x,a8v,a8B,a8w,a8L,a8M,a8V,a9c,a8F,a9l,a8E,O,aP]
     repeat' (first|intro _|apply And.intro)
     all_goals first|exact True.intro|omega|with_reducible rfl|with_reducible assumption
  .have d1:decide ((4000:Int)<((t.length:Int)))=true:=a8W (by omega)
   simp only[r1,r2,hg,d1,a8D hl,a9P,b1s,b1D,a9f,a9b,a8x,a8v,a8B,a8w,a8L,a8M,a8V,a9c,a8F,a9l,a8E,O,aP]
   repeat' (first|intro _|apply And.intro)
   all_goals first|exact True.intro|omega|with_reducible rfl|with_reducible assumption
 .simp only[r1,r2,hg,a9L,b1D,a9f,a9b,a8x,a8v,a8B,a8w,a8L,a8M,a8V,a9c,a8F,a9l,a8E,O,aP]
  repeat' (first|intro _|apply And.intro)
  all_goals first|exact True.intro|omega|with_reducible rfl|with_reducible assumption
theorem GR:aJ.eA kQ:=K0 ⟨sF,pK,trivial⟩ trivial trivial ⟨yH,trivial⟩
end
end Go.Proofs.YtmjfpcajohhbeaaGreatDoor

set_option maxRecDepth 4000
set_option maxHeartbeats 4000000
namespace Go.Proofs.YtmjfpcajohhbeaaGreatDoor
noncomputable section
def eqL(t:List UInt8):List UInt8:=rR t [32,61,32]
def eqR(t:List UInt8):List UInt8:=jO t [32,61,32]
def eqC(t:List UInt8):Bool:=sD t [32,61,32]
def zQ:aj:=aj.mk zE zE
def qE(gg:aO)(t:List UInt8):Bool:=eqC t&&dz gg (eqL t)&&dz gg (eqR t)
def Fp(gg:aO)(t:List UInt8):aj:=bif qE gg t then aj.mk (jK gg (eqL t)) (jK gg (eqR t)) else zQ
def K5(gg:aO)(t:List UInt8):aj:=bif eqC t then aj.mk (xh gg (eqL t)) (xh gg (eqR t)) else zQ
theorem a1h(gg:aO)(t:List UInt8)(hg:bK gg=true)(h:dz gg t=true):t.length<=1000:=by
 simp only[dz,a8r,a8p] at h
 obtain⟨⟨_,h2⟩,h3⟩:=h
 have:=Dw gg _ hg h2
 have e:=congrArg List.length h3
 omega
theorem WO(gg:aO)(t:List UInt8)(hg:bK gg=true):(decide (Bg gg t=0)=dz gg t)/\(dz gg t=true->xh gg t=jK gg t):=by
 unfold Bg xh
 rw[hg]
 rcases a9o (dz gg t) with h|h
 .have:=a1h gg t hg h
  rw[h,a8W (show t.length<=4000 by omega)]
  exact⟨rfl,λ _=>rfl⟩
 .rw[h]
  refine⟨?_,λ q=>by cases q⟩
  cases decide (t.length<=4000)<;>rfl
theorem a4f(gg:aO)(t:List UInt8)(hg:bK gg=true)(h:qE gg t=true):K5 gg t=Fp gg t:=by
 unfold K5 Fp
 rw[h]
 simp only[qE,a8r] at h
 rw[h.1.1,(WO gg _ hg).2 h.1.2,(WO gg _ hg).2 h.2]
theorem Vy(gg:aO)(t:List UInt8):qE gg t=(sD t [32,61,32]&&dz gg (rR t [32,61,32])&&dz gg (jO t [32,61,32])) /\
  (qE gg t=true->Fp gg t=aj.mk (jK gg (rR t [32,61,32])) (jK gg (jO t [32,61,32])))/\(qE gg t=false->Fp gg t=aj.mk zE zE):=by
 refine⟨rfl,λ h=>?_,λ h=>?_⟩<;>· unfold Fp;rw[h];rfl
theorem ZI(gg:aO)(t:List UInt8):(sD t [32,61,32]=true->uZ t [32,61,32]=rR t [32,61,32]/\K5 gg t=aj.mk (xh gg (rR t [32,61,32])) (xh gg (jO t [32,61,32]))) /\
  (sD t [32,61,32]=false->K5 gg t=aj.mk zE zE):=by
 refine⟨λ h=>⟨?_,?_⟩,λ h=>?_⟩
 .unfold uZ;rw[h];rfl
 .unfold K5 eqC;rw[h];rfl
 .unfold K5 eqC;rw[h];rfl
def gl:aJ:=⟨pe,[.v (.st .sig), .v .str],λ (gg:aO) (t:List UInt8)=>⟨(some (bK gg=true/\t.length<=8000),[⟨(.st .equation),Fp gg t⟩,⟨.bool,qE gg t⟩])⟩⟩
def tI(gg:aO)(t:List UInt8):Nat->aH:=λ _ => .none
abbrev rV(gg:aO)(t:List UInt8):Prop:=(((!(dz gg (jO t ([32,61,32]))))=true ->
 ((aj.mk zE zE)=(Fp gg t)/\false=(qE gg t)))/\((!(dz gg (jO t ([32,61,32]))))=false ->
 ((aj.mk (ag (jK gg (rR t ([32,61,32])))) (ag (jK gg (jO t ([32,61,32])))))=(Fp gg t)/\true=(qE gg t))))
abbrev rW(gg:aO)(t:List UInt8):Prop:=((true=true ->
 ((aj.mk zE zE)=(Fp gg t)/\false=(qE gg t)))/\(true=false ->
 ((aj.mk (ag (jK gg (rR t ([32,61,32])))) (ag (jK gg (jO t ([32,61,32])))))=(Fp gg t)/\true=(qE gg t))))
theorem DV(gg:aO)(t:List UInt8):ck (cY [sZ] [kP] [] [22,28] [] [] [2]) (au fc) (tI gg t) 0 (fI (cY [sZ] [kP] [] [22,28] [] [] [2]) fc λ r=>bp r [⟨(.st .equation),Fp gg t⟩,⟨.bool,qE gg t⟩]) (jN fc [.val ⟨(.st .sig),gg⟩, .val ⟨.str,t⟩]) =
 ((t.length<=1048576/\((rR t ([32,61,32])).length<=140737488355328 ->
 ((jO t ([32,61,32])).length<=140737488355328 ->
 ((bK gg=true/\(rR t ([32,61,32])).length<=8000)/\((bK gg=true/\(jO t ([32,61,32])).length<=8000)/\(((!(sD t ([32,61,32])))=false ->
 (((!(dz gg (rR t ([32,61,32]))))=false ->
 (rV gg t))/\((!(dz gg (rR t ([32,61,32]))))=(!false) ->
 (rW gg t))))/\((!(sD t ([32,61,32])))=(!false) ->
 ((true=false ->
 (rV gg t))/\(true=(!false) ->
 (rW gg t))))))))))):=by kernel_rfl
theorem DJ(hE:aG [sZ])(hO:fW [kP])(hM:gZ [])(hS:fX []):aJ.eA gl:=by
 refine⟨aA tv rfl (by decide),?_⟩
 show ∀ (gg:aO) (t:List UInt8),(bK gg=true/\t.length<=8000)->iI prog pe [.val ⟨(.st .sig),gg⟩, .val ⟨.str,t⟩] [⟨(.st .equation),Fp gg t⟩,⟨.bool,qE gg t⟩]
 intro gg t hp
 refine ec (own:=[22,28]) (wr:=[]) (cl:=[]) (ro:=[2]) hE hO hM hS tv BR (tI gg t) ?_
 rewrite [DV gg t]
 obtain⟨f2,f3,f4⟩:=Vy gg t
 have f0:(rR t [32,61,32]).length<=t.length/\(jO t [32,61,32]).length<=t.length:=UT t _
 refine⟨?_,λ _ _=>⟨?_,?_,λ _=>⟨λ _=>⟨λ _=>⟨?_,?_⟩,λ _=>⟨?_,?_⟩⟩,λ _=>⟨λ _=>⟨?_,?_⟩,λ _=>⟨?_,?_⟩⟩⟩,λ _=>⟨λ _=>⟨λ _=>⟨?_,?_⟩,λ _=>⟨?_,?_⟩⟩,λ _=>⟨λ _=>⟨?_,?_⟩,λ _=>⟨?_,?_⟩⟩⟩⟩⟩
 all_goals try and_intros
 all_goals try (first|with_reducible rfl|with_reducible assumption)
 all_goals try simp only[J.eta,ae.eta,aj.eta,aP,bM,cn] at *
 all_goals first|rfl|trivial|omega|(simp only[a8p,a8q,a8J,a8X,a8v,a8x,aw,O,a8C,a8N] at *;first|omega|grind)|grind
theorem A7:aJ.eA gl:=DJ ⟨Mm,trivial⟩ ⟨GP,trivial⟩ trivial trivial
def jv:aJ:=⟨wj,[.v (.st .sig), .v .str],λ (gg:aO) (t:List UInt8)=>⟨(some (bK gg=true/\t.length<=8000),[⟨(.st .equation),K5 gg t⟩,⟨.bool,qE gg t⟩])⟩⟩
def CG(gg:aO)(t:List UInt8):Nat->aH:=λ _ => .none
theorem NO(gg:aO)(t:List UInt8):ck (cY [pc] [kQ] [] [25,31] [] [] [2]) (au kt) (CG gg t) 0 (fI (cY [pc] [kQ] [] [25,31] [] [] [2]) kt λ r=>bp r [⟨(.st .equation),K5 gg t⟩,⟨.bool,qE gg t⟩]) (jN kt [.val ⟨(.st .sig),gg⟩, .val ⟨.str,t⟩]) =
 (((t.length<=1048576/\1<=([32,61,32]).length/\([32,61,32]).length<=100)/\((uZ t ([32,61,32])).length<=140737488355328 ->
 ((jO t ([32,61,32])).length<=140737488355328 ->
 (((!(sD t ([32,61,32])))=true ->
 ((aj.mk zE zE)=(K5 gg t)/\false=(qE gg t)))/\((!(sD t ([32,61,32])))=false ->
 (O (Bg gg (uZ t ([32,61,32]))) ->
 (O (Bg gg (jO t ([32,61,32]))) ->
 (((decide ((Bg gg (uZ t ([32,61,32])))=(0:Int)))=true ->
 ((aj.mk (ag (xh gg (uZ t ([32,61,32])))) (ag (xh gg (jO t ([32,61,32])))))=(K5 gg t)/\(decide ((Bg gg (jO t ([32,61,32])))=(0:Int)))=(qE gg t)))/\((decide ((Bg gg (uZ t ([32,61,32])))=(0:Int)))=(!true) ->
 ((aj.mk (ag (xh gg (uZ t ([32,61,32])))) (ag (xh gg (jO t ([32,61,32])))))=(K5 gg t)/\false=(qE gg t)))))))))))):=by kernel_rfl
theorem M6(hE:aG [pc])(hO:fW [kQ])(hM:gZ [])(hS:fX []):aJ.eA jv:=by
 refine⟨aA BL rfl (by decide),?_⟩
 show ∀ (gg:aO) (t:List UInt8),(bK gg=true/\t.length<=8000)->iI prog wj [.val ⟨(.st .sig),gg⟩, .val ⟨.str,t⟩] [⟨(.st .equation),K5 gg t⟩,⟨.bool,qE gg t⟩]
 intro gg t hp
 refine ec (own:=[25,31]) (wr:=[]) (cl:=[]) (ro:=[2]) hE hO hM hS BL JZ (CG gg t) ?_
 rewrite [NO gg t]
 obtain⟨f3,f4⟩:=ZI gg t
 have f5:=(Vy gg t).1
 have f1:=(WO gg (rR t [32,61,32]) hp.1).1
 have f2:=(WO gg (jO t [32,61,32]) hp.1).1
 refine⟨?_,λ _ _=>⟨λ _=>⟨?_,?_⟩,λ _ _ _=>⟨λ _=>⟨?_,?_⟩,λ _=>⟨?_,?_⟩⟩⟩⟩
 all_goals try and_intros
 all_goals try (first|with_reducible rfl|with_reducible assumption)
 all_goals try simp only[J.eta,ae.eta,aj.eta,aP,bM,cn] at *
 all_goals first|rfl|trivial|omega|(simp only[a8p,a8q,a8J,a8X,a8v,a8x,aw,O,a8C,a8N] at *;first|omega|grind)|grind
theorem IB:aJ.eA jv:=M6 ⟨Mk,trivial⟩ ⟨GR,trivial⟩ trivial trivial
end
end Go.Proofs.YtmjfpcajohhbeaaGreatDoor

namespace Go.Proofs.YtmjfpcajohhbeaaGreatDoor
noncomputable section
end
end Go.Proofs.YtmjfpcajohhbeaaGreatDoor

set_option maxRecDepth 4000
set_option maxHeartbeats 4000000
namespace Go.Proofs.YtmjfpcajohhbeaaGreatDoor
noncomputable section
def gP:aO:=aO.mk (3:Int) (4:Int)
def nh:List (List UInt8):=[[40,97,48,32,43,32,40,97,49,32,43,32,97,50,41,41,32,61,32,40,40,97,48,32,43,32,97,49,41,32,43,32,97,50,41],[40,97,48,32,43,32,97,49,41,32,61,32,40,97,49,32,43,32,97,48,41],[40,97,48,32,43,32,48,41,32,61,32,97,48],[40,97,48,32,43,32,97,48,41,32,61,32,97,48],[40,97,48,32,40,97,49,32,97,50,41,41,32,61,32,40,40,97,48,32,97,49,41,32,97,50,41],[40,49,32,97,48,41,32,61,32,97,48],[40,97,48,32,49,41,32,61,32,97,48],[40,97,48,32,40,97,49,32,43,32,97,50,41,41,32,61,32,40,40,97,48,32,97,49,41,32,43,32,40,97,48,32,97,50,41,41],[40,40,97,48,32,43,32,97,49,41,32,97,50,41,32,61,32,40,40,97,48,32,97,50,41,32,43,32,40,97,49,32,97,50,41,41],[40,48,32,97,48,41,32,61,32,48],[40,97,48,32,48,41,32,61,32,48],[40,49,32,43,32,40,97,48,32,97,48,42,41,41,32,61,32,97,48,42],[40,49,32,43,32,40,97,48,42,32,97,48,41,41,32,61,32,97,48,42],[40,116,48,32,116,48,41,32,61,32,116,48],[40,116,48,32,116,49,41,32,61,32,40,116,49,32,116,48,41],[40,116,48,32,43,32,126,116,48,41,32,61,32,49],[40,116,48,32,126,116,48,41,32,61,32,48],[126,126,116,48,32,61,32,116,48],[126,40,116,48,32,43,32,116,49,41,32,61,32,40,126,116,48,32,126,116,49,41],[126,40,116,48,32,116,49,41,32,61,32,40,126,116,48,32,43,32,126,116,49,41],[126,48,32,61,32,49],[126,49,32,61,32,48],[40,116,48,32,43,32,49,41,32,61,32,49],[40,40,116,48,32,43,32,116,49,41,32,40,116,48,32,43,32,116,50,41,41,32,61,32,40,116,48,32,43,32,40,116,49,32,116,50,41,41]]
def BQ:List aj:=nh.map (Fp gP)
theorem qp:nh.length=24:=rfl
theorem a5h:nh.all (λ t=>qE gP t&&decide (t.length<=100))=true:=by kernel_rfl
theorem YG(i:Nat)(h:i<24):qE gP (nh.getD i [])=true/\(nh.getD i []).length<=100/\K5 gP (nh.getD i [])=Fp gP (nh.getD i []):=by
 have hm:nh.getD i []∈nh:=by
  rw[a8H,a8P (by rw[qp];exact h)]
  exact a9M _
 have:=a9a.1 a5h _ hm
 rw[a8r,a8p] at this
 exact⟨this.1,this.2,a4f gP _ (by decide) this.1⟩
def Ly(i:Nat):List aj:=(nh.take i).map (Fp gP)
theorem a0H(i:Nat)(h:i<24):Ly (i+1)=Ly i++[Fp gP (nh.getD i [])]:=by
 unfold Ly
 rw[fJ [] nh i (by rw[qp];exact h)]
 simp
theorem a1Q(i:Nat)(h:24<=i):Ly i=BQ:=by
 unfold Ly BQ
 rw[a9d (by rw[qp];exact h)]
theorem a1R(i:Nat)(h:i<=24):(Ly i).length=i:=by
 unfold Ly
 rw[a8R,a8U,qp];omega
def jE:aJ:=⟨rB,[],⟨(none,[⟨(.st .sig),gP⟩])⟩⟩
def yf :Nat->aH:=λ _ => .none
theorem IP :ck (aL []) (au gD) (yf ) 0 (bg (aL []) gD λ r=>bp r [⟨(.st .sig),gP⟩]) (aD gD []) =
 ((aO.mk (3:Int) (4:Int))=gP):=by kernel_rfl
theorem IE(hE:aG []):aJ.Good jE:=by
 refine⟨aA wC rfl (by decide),?_⟩
 show True->bh prog rB [] (·=[⟨(.st .sig),gP⟩])
 intro  _
 refine aM (wr:=[]) (cl:=[]) (ro:=[]) hE wC EY (yf ) ?_
 rewrite [IP ]
 refine ?_
 all_goals try and_intros
 all_goals first|rfl|trivial|omega|(simp only[a8p,a8q,aw,O,cr,cW,cH,br] at *;omega)|(simp[aw,O] at *;omega)|grind
theorem E5:aJ.Good jE:=IE trivial
def nV:aJ:=⟨wq,[],⟨(none,[⟨(.st .sig),gP⟩])⟩⟩
def EH :Nat->aH:=λ _ => .none
theorem PA :ck (aL []) (au ky) (EH ) 0 (bg (aL []) ky λ r=>bp r [⟨(.st .sig),gP⟩]) (aD ky []) =
 ((aO.mk (3:Int) (4:Int))=gP):=by kernel_rfl
theorem O0(hE:aG []):aJ.Good nV:=by
 refine⟨aA BP rfl (by decide),?_⟩
 show True->bh prog wq [] (·=[⟨(.st .sig),gP⟩])
 intro  _
 refine aM (wr:=[]) (cl:=[]) (ro:=[]) hE BP J3 (EH ) ?_
 rewrite [PA ]
 refine ?_
 all_goals try and_intros
 all_goals first|rfl|trivial|omega|(simp only[a8p,a8q,aw,O,cr,cW,cH,br] at *;omega)|(simp[aw,O] at *;omega)|grind
theorem Kz:aJ.Good nV:=O0 trivial
def dt:aJ:=⟨ov,[],⟨(none,[⟨(.slice .str),nh⟩])⟩⟩
def tG :Nat->aH:=λ _ => .none
theorem DT :ck (aL []) (au eK) (tG ) 0 (bg (aL []) eK λ r=>bp r [⟨(.slice .str),nh⟩]) (aD eK []) =
 (([([40,97,48,32,43,32,40,97,49,32,43,32,97,50,41,41,32,61,32,40,40,97,48,32,43,32,97,49,41,32,43,32,97,50,41]),([40,97,48,32,43,32,97,49,41,32,61,32,40,97,49,32,43,32,97,48,41]),([40,97,48,32,43,32,48,41,32,61,32,97,48]),([40,97,48,32,43,32,97,48,41,32,61,32,97,48]),([40,97,48,32,40,97,49,32,97,50,41,41,32,61,32,40,40,97,48,32,97,49,41,32,97,50,41]),([40,49,32,97,48,41,32,61,32,97,48]),([40,97,48,32,49,41,32,61,32,97,48]),([40,97,48,32,40,97,49,32,43,32,97,50,41,41,32,61,32,40,40,97,48,32,97,49,41,32,43,32,40,97,48,32,97,50,41,41]),([40,40,97,48,32,43,32,97,49,41,32,97,50,41,32,61,32,40,40,97,48,32,97,50,41,32,43,32,40,97,49,32,97,50,41,41]),([40,48,32,97,48,41,32,61,32,48]),([40,97,48,32,48,41,32,61,32,48]),([40,49,32,43,32,40,97,48,32,97,48,42,41,41,32,61,32,97,48,42]),([40,49,32,43,32,40,97,48,42,32,97,48,41,41,32,61,32,97,48,42]),([40,116,48,32,116,48,41,32,61,32,116,48]),([40,116,48,32,116,49,41,32,61,32,40,116,49,32,116,48,41]),([40,116,48,32,43,32,126,116,48,41,32,61,32,49]),([40,116,48,32,126,116,48,41,32,61,32,48]),([126,126,116,48,32,61,32,116,48]),([126,40,116,48,32,43,32,116,49,41,32,61,32,40,126,116,48,32,126,116,49,41]),([126,40,116,48,32,116,49,41,32,61,32,40,126,116,48,32,43,32,126,116,49,41]),([126,48,32,61,32,49]),([126,49,32,61,32,48]),([40,116,48,32,43,32,49,41,32,61,32,49]),([40,40,116,48,32,43,32,116,49,41,32,40,116,48,32,43,32,116,50,41,41,32,61,32,40,116,48,32,43,32,40,116,49,32,116,50,41,41])])=nh):=by kernel_rfl
theorem DH(hE:aG []):aJ.Good dt:=by
 refine⟨aA sy rfl (by decide),?_⟩
 show True->bh prog ov [] (·=[⟨(.slice .str),nh⟩])
 intro  _
 refine aM (wr:=[]) (cl:=[]) (ro:=[]) hE sy AN (tG ) ?_
 rewrite [DT ]
 refine ?_
 all_goals try and_intros
 all_goals first|rfl|trivial|omega|(simp only[a8p,a8q,aw,O,cr,cW,cH,br] at *;omega)|(simp[aw,O] at *;omega)|grind
theorem qs:aJ.Good dt:=DH trivial
def kz:aJ:=⟨ym,[],⟨(none,[⟨(.slice (.st .equation)),BQ⟩])⟩⟩
def EI :Nat->aH:=(λ zb=>if Nat.beq zb 0 then .mk (Nat) (λ i=>i<=24) (λ i=>24 - i) [7] [2,5,6] (λ i=>[(9, .aW ⟨(.int .i64),((i:Int):Int)⟩),(8, .aW ⟨(.int .i64),((24:Int):Int)⟩),(7, .aW ⟨(.slice .str),(nh:List (List UInt8))⟩),(1, .aE 2300)]) [] (λ i=>[(2300, .aE (.st .equation) (Ly i:List aj))]) [] [] (λ i=>λ _ => .none) else .none)
theorem PB :ck (cY [jE] [gl] [] [6,16,21,22] []) (au lF) (EI ) 0 (fI (cY [jE] [gl] [] [6,16,21,22] []) lF λ r=>bp r [⟨(.slice (.st .equation)),BQ⟩]) (jN lF []) =
 ((O ((([([40,97,48,32,43,32,40,97,49,32,43,32,97,50,41,41,32,61,32,40,40,97,48,32,43,32,97,49,41,32,43,32,97,50,41]),([40,97,48,32,43,32,97,49,41,32,61,32,40,97,49,32,43,32,97,48,41]),([40,97,48,32,43,32,48,41,32,61,32,97,48]),([40,97,48,32,43,32,97,48,41,32,61,32,97,48]),([40,97,48,32,40,97,49,32,97,50,41,41,32,61,32,40,40,97,48,32,97,49,41,32,97,50,41]),([40,49,32,97,48,41,32,61,32,97,48]),([40,97,48,32,49,41,32,61,32,97,48]),([40,97,48,32,40,97,49,32,43,32,97,50,41,41,32,61,32,40,40,97,48,32,97,49,41,32,43,32,40,97,48,32,97,50,41,41]),([40,40,97,48,32,43,32,97,49,41,32,97,50,41,32,61,32,40,40,97,48,32,97,50,41,32,43,32,40,97,49,32,97,50,41,41]),([40,48,32,97,48,41,32,61,32,48]),([40,97,48,32,48,41,32,61,32,48]),([40,49,32,43,32,40,97,48,32,97,48,42,41,41,32,61,32,97,48,42]),([40,49,32,43,32,40,97,48,42,32,97,48,41,41,32,61,32,97,48,42]),([40,116,48,32,116,48,41,32,61,32,116,48]),([40,116,48,32,116,49,41,32,61,32,40,116,49,32,116,48,41]),([40,116,48,32,43,32,126,116,48,41,32,61,32,49]),([40,116,48,32,126,116,48,41,32,61,32,48]),([126,126,116,48,32,61,32,116,48]),([126,40,116,48,32,43,32,116,49,41,32,61,32,40,126,116,48,32,126,116,49,41]),([126,40,116,48,32,116,49,41,32,61,32,40,126,116,48,32,43,32,126,116,49,41]),([126,48,32,61,32,49]),([126,49,32,61,32,48]),([40,116,48,32,43,32,49,41,32,61,32,49]),([40,40,116,48,32,43,32,116,49,41,32,40,116,48,32,43,32,116,50,41,41,32,61,32,40,116,48,32,43,32,40,116,49,32,116,50,41,41])]).length:Int)) ->
 ((∃ i1:Nat,(i1<=24/\((True/\(True/\(([([40,97,48,32,43,32,40,97,49,32,43,32,97,50,41,41,32,61,32,40,40,97,48,32,43,32,97,49,41,32,43,32,97,50,41]),([40,97,48,32,43,32,97,49,41,32,61,32,40,97,49,32,43,32,97,48,41]),([40,97,48,32,43,32,48,41,32,61,32,97,48]),([40,97,48,32,43,32,97,48,41,32,61,32,97,48]),([40,97,48,32,40,97,49,32,97,50,41,41,32,61,32,40,40,97,48,32,97,49,41,32,97,50,41]),([40,49,32,97,48,41,32,61,32,97,48]),([40,97,48,32,49,41,32,61,32,97,48]),([40,97,48,32,40,97,49,32,43,32,97,50,41,41,32,61,32,40,40,97,48,32,97,49,41,32,43,32,40,97,48,32,97,50,41,41]),([40,40,97,48,32,43,32,97,49,41,32,97,50,41,32,61,32,40,40,97,48,32,97,50,41,32,43,32,40,97,49,32,97,50,41,41]),([40,48,32,97,48,41,32,61,32,48]),([40,97,48,32,48,41,32,61,32,48]),([40,49,32,43,32,40,97,48,32,97,48,42,41,41,32,61,32,97,48,42]),([40,49,32,43,32,40,97,48,42,32,97,48,41,41,32,61,32,97,48,42]),([40,116,48,32,116,48,41,32,61,32,116,48]),([40,116,48,32,116,49,41,32,61,32,40,116,49,32,116,48,41]),([40,116,48,32,43,32,126,116,48,41,32,61,32,49]),([40,116,48,32,126,116,48,41,32,61,32,48]),([126,126,116,48,32,61,32,116,48]),([126,40,116,48,32,43,32,116,49,41,32,61,32,40,126,116,48,32,126,116,49,41]),([126,40,116,48,32,116,49,41,32,61,32,40,126,116,48,32,43,32,126,116,49,41]),([126,48,32,61,32,49]),([126,49,32,61,32,48]),([40,116,48,32,43,32,49,41,32,61,32,49]),([40,40,116,48,32,43,32,116,49,41,32,40,116,48,32,43,32,116,50,41,41,32,61,32,40,116,48,32,43,32,40,116,49,32,116,50,41,41])])=nh/\(((([([40,97,48,32,43,32,40,97,49,32,43,32,97,50,41,41,32,61,32,40,40,97,48,32,43,32,97,49,41,32,43,32,97,50,41]),([40,97,48,32,43,32,97,49,41,32,61,32,40,97,49,32,43,32,97,48,41]),([40,97,48,32,43,32,48,41,32,61,32,97,48]),([40,97,48,32,43,32,97,48,41,32,61,32,97,48]),([40,97,48,32,40,97,49,32,97,50,41,41,32,61,32,40,40,97,48,32,97,49,41,32,97,50,41]),([40,49,32,97,48,41,32,61,32,97,48]),([40,97,48,32,49,41,32,61,32,97,48]),([40,97,48,32,40,97,49,32,43,32,97,50,41,41,32,61,32,40,40,97,48,32,97,49,41,32,43,32,40,97,48,32,97,50,41,41]),([40,40,97,48,32,43,32,97,49,41,32,97,50,41,32,61,32,40,40,97,48,32,97,50,41,32,43,32,40,97,49,32,97,50,41,41]),([40,48,32,97,48,41,32,61,32,48]),([40,97,48,32,48,41,32,61,32,48]),([40,49,32,43,32,40,97,48,32,97,48,42,41,41,32,61,32,97,48,42]),([40,49,32,43,32,40,97,48,42,32,97,48,41,41,32,61,32,97,48,42]),([40,116,48,32,116,48,41,32,61,32,116,48]),([40,116,48,32,116,49,41,32,61,32,40,116,49,32,116,48,41]),([40,116,48,32,43,32,126,116,48,41,32,61,32,49]),([40,116,48,32,126,116,48,41,32,61,32,48]),([126,126,116,48,32,61,32,116,48]),([126,40,116,48,32,43,32,116,49,41,32,61,32,40,126,116,48,32,126,116,49,41]),([126,40,116,48,32,116,49,41,32,61,32,40,126,116,48,32,43,32,126,116,49,41]),([126,48,32,61,32,49]),([126,49,32,61,32,48]),([40,116,48,32,43,32,49,41,32,61,32,49]),([40,40,116,48,32,43,32,116,49,41,32,40,116,48,32,43,32,116,50,41,41,32,61,32,40,116,48,32,43,32,40,116,49,32,116,50,41,41])]).length:Int))=(24:Int)/\((0:Int)=(i1:Int)/\True)))))/\([]=(Ly i1)/\True))))/\(∀ i1:Nat,(i1<=24 ->
 (((decide ((i1:Int)<(24:Int)))=true ->
 (aw (i1:Int) nh.length/\((nh.getD i1 []).length<=140737488355328 ->
 ((bK (gP)=true/\(nh.getD i1 []).length<=8000)/\(br ((Ly i1).length+([(bU (Fp (gP) (nh.getD i1 [])))]).length) 80/\(O ((i1:Int)+(1:Int))/\(∃ i2:Nat,(i2<=24/\(24 - i2<24 - i1/\((True/\(True/\(nh=nh/\((24:Int)=(24:Int)/\(((i1:Int)+(1:Int))=(i2:Int)/\True)))))/\(((Ly i1)++([(bU (Fp (gP) (nh.getD i1 [])))]))=(Ly i2)/\True)))))))))))/\((decide ((i1:Int)<(24:Int)))=false ->
 (Ly i1)=BQ))))))):=by kernel_rfl
theorem O1(hE:aG [jE])(hO:fW [gl])(hM:gZ [])(hS:fX []):aJ.eA kz:=by
 refine⟨aA DZ rfl (by decide),?_⟩
 show True->iI prog ym [] [⟨(.slice (.st .equation)),BQ⟩]
 intro  _
 refine ec (own:=[6,16,21,22]) (wr:=[]) (cl:=[]) (ro:=[]) hE hO hM hS DZ Lz (EI ) ?_
 rewrite [PB ]
 have f0:=qp
 have f1:bK gP=true:=by decide
 have f2:Ly 0=[]:=rfl
 refine λ _=>⟨⟨0,?_,⟨trivial,trivial,?_,?_,?_,trivial⟩,?_,trivial⟩,λ i1 _=>have RZ:=YG i1;have R0:=a0H i1;have R1:=a1Q i1;have ZW:=a1R i1;⟨λ _=>⟨?_,λ _=>⟨?_,?_,?_,i1+1,?_,?_,⟨trivial,trivial,rfl,rfl,?_,trivial⟩,?_,trivial⟩⟩,λ _=>?_⟩⟩
 all_goals try and_intros
 all_goals try (first|with_reducible rfl|with_reducible assumption)
 all_goals try simp only[J.eta,ae.eta,aj.eta,aP,bM,cn] at *
 all_goals first|rfl|trivial|omega|(simp only[a8p,a8q,br,aw,O,a8C,a8N] at *;first|omega|grind)|grind
theorem KR:aJ.eA kz:=O1 ⟨E5,trivial⟩ ⟨A7,trivial⟩ trivial trivial
end
end Go.Proofs.YtmjfpcajohhbeaaGreatDoor

set_option maxRecDepth 4000
set_option maxHeartbeats 4000000
namespace Go.Proofs.YtmjfpcajohhbeaaGreatDoor
noncomputable section
def mQ(gg:aO)(s:ai):Bool:=decide (-40<=s.use/\s.use<=23)&&decide ((s.path.length:Int)<=40)&&bq (pZ 2) s.path&&decide ((s.aq.length:Int)<=3)&&decide ((s.bm.length:Int)<=4)&&bq (cg gg) s.aq&&bq bj s.aq&&bq (cg gg) s.bm
def oW(gg:aO)(c:ae):Bool:=cg gg c.left&&cg gg c.right&&decide (1<=c.bO/\c.bO<=3)&&decide (0<=c.ref/\c.ref<=39)&&decide (c.steps.length<=60) && !(decide (c.bO=1) && !decide (c.ref=0) || !decide (c.bO=1)&&decide (0<c.steps.length))&&bq (mQ gg) c.steps
def gY(p:av):Bool:=bK p.sig&&decide (p.U.length<=40)&&bq (oW p.sig) p.U
abbrev iH:ae:=ae.mk zE zE (0:Int) (0:Int) []
def dv(p:av)(i:Int):ae:=p.U.getD i.toNat (ae.mk zE zE (0:Int) (0:Int) [])
def qo(k u:Int):Bool:=decide (0<=u)||decide (-1 - u<k)
def bZ(p:av)(k u:Int):aj:=if 0<=u then BQ.getD u.toNat (aj.mk zE zE) else if -1 - u<k then aj.mk (dv p (-1 - u)).left (dv p (-1 - u)).right else aj.mk zE zE
def W4(q:aj)(s:ai):J:=c9 s.aq s.bm (bif s.back then q.right else q.left)
def RM(q:aj)(s:ai):J:=c9 s.aq s.bm (bif s.back then q.left else q.right)
def VP(q:aj)(s:ai):Bool:=decide ((bL [q.left,q.right]).1=(s.aq.length:Int))&&decide ((bL [q.left,q.right]).2=(s.bm.length:Int))
def RL(gg:aO)(q:aj)(s:ai):Bool:=cg gg (c9 s.aq s.bm q.left)&&cg gg (c9 s.aq s.bm q.right)
def fY(p:av)(k:Int)(e:J)(s:ai):Int :=
 bif !(qo k s.use&&eH e s.path) then 2 else bif !VP (bZ p k s.use) s then 2 else bif !RL p.sig (bZ p k s.use) s then 3 else
 bif !bw (dd e s.path) (W4 (bZ p k s.use) s) then 6 else qn p.sig e s.path (RM (bZ p k s.use) s)
def iu(p:av)(k:Int)(e:J)(s:ai):J:=if fY p k e s=0 then gv (RM (bZ p k s.use) s) e s.path else J.mk (0:Int) (0:Int) []
def qF(q:aj):Bool:=decide (q.left.ak=6)&&decide ((q.left.M.getD 0 zE).ak=6)&&bw (q.left.M.getD 1 zE) q.right
def IL(q:aj):J:=bif qF q then (q.left.M.getD 0 zE).M.getD 0 zE else J.mk (0:Int) (0:Int) []
def mR(q:aj):J:=bif qF q then (q.left.M.getD 0 zE).M.getD 1 zE else J.mk (0:Int) (0:Int) []
def vB(q:aj):J:=bif qF q then q.right else J.mk (0:Int) (0:Int) []
def inW(r:Int)(q x:J):J:=if r=2 then J.mk 7 0 [J.mk 8 0 [x.M.getD 0 zE],q] else J.mk 7 0 [q,J.mk 8 0 [x.M.getD 1 zE]]
def a0i(r:Int)(x:J):J:=if r=2 then x.M.getD 1 zE else x.M.getD 0 zE
def tO(c f:ae):Bool:=qF (aj.mk f.left f.right)&&decide ((mR (aj.mk f.left f.right)).ak=7)&&bw (a0i c.bO (mR (aj.mk f.left f.right))) f.right &&
 bw c.left (J.mk 6 0 [inW c.bO (IL (aj.mk f.left f.right)) (mR (aj.mk f.left f.right)),f.right])&&bw c.right f.right
def dH(p:av)(k:Int):Nat->J
 | 0=>(dv p k).left
 | i+1=>iu p k (dH p k i) ((dv p k).steps.getD i (ai.mk 0 false [] [] []))
def Yf(p:av)(k:Int):Nat->Bool
 | 0=>true
 | i+1=>Yf p k i&&decide (fY p k (dH p k i) ((dv p k).steps.getD i (ai.mk 0 false [] [] []))=0)
def jT(p:av)(k:Int):Bool:=if (dv p k).bO=1 then Yf p k (dv p k).steps.length&&bw (dH p k (dv p k).steps.length) (dv p k).right else decide ((dv p k).ref<k)&&tO (dv p k) (dv p (dv p k).ref)
def YY(f:Nat->Bool):Nat->Nat
 | 0=>0
 | n+1=>if YY f n<n then YY f n else if f n then n+1 else n
theorem Sq(f:Nat->Bool):∀ n,UI f n=true->YY f n=n
 | 0,_=>rfl
 | n+1,h=>by
  rw[UI,a8r] at h
  rw[YY,Sq f n h.1,a8y (by omega),a8O h.2]
theorem Z7(f:Nat->Bool)(k:Nat)(h:UI f k=true)(hk:f k=false):∀ n,k<n->YY f n=k
 | 0,hn=>by omega
 | n+1,hn=>by
  rw[YY]
  rcases a9t k n with g|g
  .rw[Z7 f k h hk n g,a8O g]
  .have:k=n:=by omega
   subst this
   rw[Sq f k h,a8y (by omega),a8y (by rw[hk];decide)]
def ss(p:av):Nat:=YY (λ k=>jT p (k:Int)) p.U.length
def wU(p:av):Int:=bif gY p then (bif decide ((ss p:Int)<(p.U.length:Int)) then 8 else 0) else 1
def wV(p:av):Int:=bif gY p then (ss p:Int) else 0
def y9(gg:aO)(c:ae):Bool:=cg gg c.left&&cg gg c.right&&decide (1<=c.bO/\c.bO<=3)&&decide (0<=c.ref/\c.ref<=39)&&decide (c.steps.length<=60) && !(decide (c.bO=1) && !decide (c.ref=0) || !decide (c.bO=1)&&decide (0<c.steps.length))
theorem De(gg:aO)(c:ae):oW gg c=(y9 gg c&&bq (mQ gg) c.steps):=rfl
def clG(gg:aO)(c:ae):Bool:=bq (cg gg) [c.left,c.right]&&(decide (1<=c.bO/\c.bO<=3)&&(decide (0<=c.ref/\c.ref<=39)&&(!decide (60<(c.steps.length:Int))&&(!(decide (c.bO=1) && !decide (c.ref=0)) && !(!decide (c.bO=1)&&decide (0<(c.steps.length:Int)))))))
theorem ZZ(gg:aO)(c:ae):y9 gg c=clG gg c:=by
 unfold y9 clG
 rw[show decide (c.steps.length<=60) = !decide (60<(c.steps.length:Int)) by
  by_cases h:c.steps.length<=60
  .rw[a8W h,a8D (by omega)];rfl
  .rw[a8D h,a8W (by omega)];rfl,
  show decide (0<c.steps.length)=decide (0<(c.steps.length:Int)) by
  by_cases h:0<c.steps.length
  .rw[a8W h,a8W (by omega)]
  .rw[a8D h,a8D (by omega)]]
 simp only[bq,b0f,Bool.not_or,b0Y]
structure vH(p:av)(k:Nat):Prop where
 sg:bK p.sig=true
 ln:p.U.length<=40
 le:k<=p.U.length
 al:bq (oW p.sig) (p.U.take k)=true
structure CT(gg:aO)(c:ae):Prop where
 l:cg gg c.left=true
 r:cg gg c.right=true
 u:1<=c.bO/\c.bO<=3
 f:0<=c.ref/\c.ref<=39
theorem J4{gg:aO}{c:ae}(h:y9 gg c=false):oW gg c=false:=by rw[De,h];rfl
theorem a2c{gg:aO}{c:ae}(h:cg gg c.left=false):oW gg c=false:=J4 (by unfold y9;rw[h];rfl)
theorem a2d{gg:aO}{c:ae}(h:cg gg c.right=false):oW gg c=false:=J4 (by unfold y9;rw[h];simp)
theorem YO{gg:aO}{c:ae}(h:¬ (1<=c.bO/\c.bO<=3)):oW gg c=false:=J4 (by unfold y9;rw[decide_eq_false h];simp)
theorem YP{gg:aO}{c:ae}(h:¬ (0<=c.ref/\c.ref<=39)):oW gg c=false:=J4 (by unfold y9;rw[decide_eq_false h];simp)
theorem CT.h{gg:aO}{c:ae}(h:CT gg c):y9 gg c=(decide (c.steps.length<=60) && !(decide (c.bO=1) && !decide (c.ref=0) || !decide (c.bO=1)&&decide (0<c.steps.length))):=by
 unfold y9;rw[h.l,h.r,decide_eq_true h.u,decide_eq_true h.f];rfl
theorem CT.n1{gg:aO}{c:ae}(h:CT gg c)(h1:c.bO=1)(h2:¬ c.ref=0):oW gg c=false:=J4 (by rw[h.h,a8W h1,a8D h2];simp)
theorem CT.n2{gg:aO}{c:ae}(h:CT gg c)(h1:¬ c.bO=1)(h2:0<c.steps.length):oW gg c=false:=J4 (by rw[h.h,a8D h1,a8W h2];simp)
theorem CT.n3{gg:aO}{c:ae}(h:CT gg c)(h1:¬ c.steps.length<=60):oW gg c=false:=J4 (by rw[h.h,a8D h1];rfl)
theorem CT.y1{gg:aO}{c:ae}(h:CT gg c)(h1:c.bO=1)(h2:c.ref=0)(h3:c.steps.length<=60):y9 gg c=true:=by rw[h.h,a8W h1,a8W h2,a8W h3];rfl
theorem CT.y2{gg:aO}{c:ae}(h:CT gg c)(h1:¬ c.bO=1)(h2:¬ 0<c.steps.length):y9 gg c=true:=by rw[h.h,a8D h1,a8D h2,a8W (show c.steps.length<=60 by omega)];rfl
structure JC(p:av)(k:Nat):Prop where
 pp:vH p k
 lt:k<p.U.length
 a:CT p.sig (p.U.getD k iH)
 n:(p.U.getD k iH).steps.length<=60
structure NU(p:av)(k:Nat):Prop where
 pp:vH p k
 lt:k<p.U.length
 hd:y9 p.sig (p.U.getD k iH)=true
structure NV(p:av)(k j:Nat):Prop where
 h:NU p k
 le:j<=(p.U.getD k iH).steps.length
 al:bq (mQ p.sig) ((p.U.getD k iH).steps.take j)=true
theorem vH.zero{p:av}(h:bK p.sig=true)(h2:¬ 40<(p.U.length:Int)):vH p 0:=⟨h,by omega,a9J _,by simp[bq]⟩
theorem vH.end{p:av}{k:Nat}(h:vH p k)(hk:p.U.length<=k):gY p=true:=by
 have:=h.al
 rw[a9d hk] at this
 unfold gY
 rw[h.sg,this,a8W h.ln];rfl
theorem vH.bad{p:av}{k:Nat}(h:vH p k)(hk:k<p.U.length)(hb:oW p.sig (p.U.getD k iH)=false):gY p=false:=by
 unfold gY
 rw[dW (oW p.sig) iH p.U k hk hb,a9P]
theorem vH.a{p:av}{k:Nat}(h:vH p k)(hk:k<p.U.length)(h1:bq (cg p.sig) [(p.U.getD k iH).left,(p.U.getD k iH).right]=true)(hu:1<=(p.U.getD k iH).bO/\(p.U.getD k iH).bO<=3)(hf:0<=(p.U.getD k iH).ref/\(p.U.getD k iH).ref<=39)(hn:(p.U.getD k iH).steps.length<=60):JC p k:=by
 simp only[bq,a8r,a8F] at h1
 exact⟨h,hk,⟨h1.1,h1.2,hu,hf⟩,hn⟩
theorem vH.b{p:av}{k:Nat}(h:vH p k)(hk:k<p.U.length)(hb:oW p.sig (p.U.getD k iH)=false):gY p=false:=h.bad hk hb
theorem vH.b1{p:av}{k:Nat}(h:vH p k)(hk:k<p.U.length)(h1:bq (cg p.sig) [(p.U.getD k iH).left,(p.U.getD k iH).right]=false):gY p=false:=by
 refine h.b hk ?_
 rw[De,ZZ];unfold clG;rw[h1];rfl
theorem JC.n1{p:av}{k:Nat}(h:JC p k)(h1:(p.U.getD k iH).bO=1)(h2:¬ (p.U.getD k iH).ref=0):gY p=false:=h.pp.b h.lt (h.a.n1 h1 h2)
theorem JC.n2{p:av}{k:Nat}(h:JC p k)(h1:¬ (p.U.getD k iH).bO=1)(h2:0<(p.U.getD k iH).steps.length):gY p=false:=h.pp.b h.lt (h.a.n2 h1 h2)
theorem JC.y1{p:av}{k:Nat}(h:JC p k)(h1:(p.U.getD k iH).bO=1)(h2:(p.U.getD k iH).ref=0):NU p k:=⟨h.pp,h.lt,h.a.y1 h1 h2 h.n⟩
theorem JC.y2{p:av}{k:Nat}(h:JC p k)(h1:¬ (p.U.getD k iH).bO=1)(h2:¬ 0<(p.U.getD k iH).steps.length):NU p k:=⟨h.pp,h.lt,h.a.y2 h1 h2⟩
theorem vH.a7r{p:av}{k:Nat}(h:vH p k)(hk:k<p.U.length)(hb:y9 p.sig (p.U.getD k iH)=false):gY p=false:=h.bad hk (by rw[De,hb];rfl)
theorem NU.zero{p:av}{k:Nat}(h:NU p k):NV p k 0:=⟨h,a9J _,by simp[bq]⟩
theorem NV.bad{p:av}{k j:Nat}(h:NV p k j)(hj:j<(p.U.getD k iH).steps.length)(hb:mQ p.sig ((p.U.getD k iH).steps.getD j (ai.mk (0:Int) false [] [] []))=false):gY p=false :=
 h.h.pp.bad h.h.lt (by rw[De,dW (mQ p.sig) _ _ j hj hb,a9P])
theorem NV.next{p:av}{k j:Nat}(h:NV p k j)(hj:j<(p.U.getD k iH).steps.length)(hb:mQ p.sig ((p.U.getD k iH).steps.getD j (ai.mk (0:Int) false [] [] []))=true):NV p k (j+1) :=
 ⟨h.h,hj,by rw[dy (mQ p.sig) (ai.mk (0:Int) false [] [] []) _ j hj,h.al,hb];rfl⟩
theorem NV.done{p:av}{k j:Nat}(h:NV p k j)(hj:(p.U.getD k iH).steps.length<=j):vH p (k+1):=by
 have h1:=h.al
 rw[a9d hj] at h1
 exact⟨h.h.pp.sg,h.h.pp.ln,h.h.lt,by rw[dy (oW p.sig) iH _ k h.h.lt,h.h.pp.al,De,h.h.hd,h1];rfl⟩
theorem a0o{p:av}(h:bK p.sig=false):gY p=false:=by unfold gY;rw[h];rfl
theorem a0p{p:av}(h:40<(p.U.length:Int)):gY p=false:=by unfold gY;rw[decide_eq_false (show ¬ p.U.length<=40 by omega)];simp
def gh:aJ:=⟨ou,[.v (.slice (.st .expr))],λ (xs:List J)=>⟨(none,[⟨.bool,bq bj xs⟩])⟩⟩
def tF(xs:List J):Nat->aH:=(λ zb=>if Nat.beq zb 0 then .mk (Nat) (λ k=>k<=xs.length/\bq bj (xs.take k)=true) (λ k=>xs.length - k) [] [0,1,3] (λ k=>[(7, .aW ⟨(.int .i64),((k:Int):Int)⟩)]) [2,4,5,6,7,8,9,10,11,12,13,14] (λ k=>[]) [] [] (λ k=>λ _ => .none) else .none)
theorem DS(xs:List J):ck (aL [cx]) (au eJ) (tF xs) 0 (bg (aL [cx]) eJ λ r=>bp r [⟨.bool,bq bj xs⟩]) (aD eJ [.val ⟨(.slice (.st .expr)),xs⟩]) =
 ((O ((xs.length:Int)) ->
 ((∃ k1:Nat,((k1<=xs.length/\bq bj (xs.take k1)=true)/\((xs=xs/\(((xs.length:Int))=((xs.length:Int))/\((0:Int)=(k1:Int)/\True)))/\True)))/\(∀ k1:Nat,((k1<=xs.length/\bq bj (xs.take k1)=true) ->
 (((decide ((k1:Int)<((xs.length:Int))))=true ->
 (aw (k1:Int) xs.length/\(((!(bj (ag (xs.getD k1 zE))))=true ->
 false=(bq bj xs))/\((!(bj (ag (xs.getD k1 zE))))=false ->
 (O ((k1:Int)+(1:Int))/\(∃ k2:Nat,((k2<=xs.length/\bq bj (xs.take k2)=true)/\(xs.length - k2<xs.length - k1/\((xs=xs/\(((xs.length:Int))=((xs.length:Int))/\(((k1:Int)+(1:Int))=(k2:Int)/\True)))/\True)))))))))/\((decide ((k1:Int)<((xs.length:Int))))=false ->
 true=(bq bj xs)))))))):=by kernel_rfl
theorem DG(hE:aG [cx]):aJ.Good gh:=by
 refine⟨aA sx rfl (by decide),?_⟩
 show ∀ (xs:List J),True->bh prog ou [.val ⟨(.slice (.st .expr)),xs⟩] (·=[⟨.bool,bq bj xs⟩])
 intro xs _
 refine aM (wr:=[]) (cl:=[]) (ro:=[]) hE sx AM (tF xs) ?_
 rewrite [DS xs]
 have f1:=all_zero bj xs
 refine λ _=>⟨⟨0,?_,⟨rfl,rfl,?_,trivial⟩,trivial⟩,λ k1 _=>have RZ:=dy bj zE xs k1;have R0:=dW bj zE xs k1;have R1:=eI bj xs k1;⟨λ _=>⟨?_,λ _=>?_,λ _=>⟨?_,k1+1,?_,?_,⟨rfl,rfl,?_,trivial⟩,trivial⟩⟩,λ _=>?_⟩⟩
 all_goals try and_intros
 all_goals try (first|with_reducible rfl|with_reducible assumption)
 all_goals try simp only[J.eta,ae.eta,aj.eta,aP,bM,cn] at *
 all_goals first|rfl|trivial|(simp only[a8p,a8q,aw,O] at *;omega)|(simp_all;done)|(simp_all [aw,O];omega)
theorem AU:aJ.Good gh:=DG ⟨iL,trivial⟩
def o7:aJ:=⟨yp,[.v (.st .sig), .v (.st .proofStep)],λ (gg:aO) (s:ai)=>⟨(some (bK gg=true),[⟨.bool,mQ gg s⟩])⟩⟩
def Gq(gg:aO)(s:ai):Nat->aH:=λ _ => .none
abbrev tP(gg:aO)(s:ai):Prop:=(s.aq.length<=140737488355328 ->
 (((bq bj s.aq)=true ->
 (s.bm.length<=140737488355328 ->
 (bq (cg gg) s.bm&&bK gg)=(mQ gg s)))/\((bq bj s.aq)=(!true) ->
 false=(mQ gg s))))
abbrev tQ(gg:aO)(s:ai):Prop:=((false=true ->
 (s.bm.length<=140737488355328 ->
 (bq (cg gg) s.bm&&bK gg)=(mQ gg s)))/\(false=(!true) ->
 false=(mQ gg s)))
abbrev Cg(gg:aO)(s:ai):Prop:=(s.aq.length<=140737488355328 ->
 (((bq (cg gg) s.aq&&bK gg)=true ->
 (tP gg s))/\((bq (cg gg) s.aq&&bK gg)=(!true) ->
 (tQ gg s))))
abbrev tR(gg:aO)(s:ai):Prop:=(s.bm.length<=140737488355328 ->
 (O ((s.bm.length:Int)) ->
 (((decide (((s.bm.length:Int))<=(4:Int)))=true ->
 (Cg gg s))/\((decide (((s.bm.length:Int))<=(4:Int)))=(!true) ->
 ((false=true ->
 (tP gg s))/\(false=(!true) ->
 (tQ gg s)))))))
abbrev tS(gg:aO)(s:ai):Prop:=((false=true ->
 (Cg gg s))/\(false=(!true) ->
 ((false=true ->
 (tP gg s))/\(false=(!true) ->
 (tQ gg s)))))
abbrev Ch(gg:aO)(s:ai):Prop:=(s.aq.length<=140737488355328 ->
 (O ((s.aq.length:Int)) ->
 (((decide (((s.aq.length:Int))<=(3:Int)))=true ->
 (tR gg s))/\((decide (((s.aq.length:Int))<=(3:Int)))=(!true) ->
 (tS gg s)))))
abbrev Ci(gg:aO)(s:ai):Prop:=(s.path.length<=140737488355328 ->
 ((0<=(2:Int)/\(2:Int)<=4096)/\(((bq (pZ (2:Int)) s.path)=true ->
 (Ch gg s))/\((bq (pZ (2:Int)) s.path)=(!true) ->
 ((false=true ->
 (tR gg s))/\(false=(!true) ->
 (tS gg s)))))))
abbrev Cj(gg:aO)(s:ai):Prop:=((false=true ->
 (Ch gg s))/\(false=(!true) ->
 ((false=true ->
 (tR gg s))/\(false=(!true) ->
 (tS gg s)))))
theorem Q3(gg:aO)(s:ai):ck (aL [cp,nG,dZ,gh] [] [] [2,3]) (au lJ) (Gq gg s) 0 (bg (aL [cp,nG,dZ,gh] [] [] [2,3]) lJ λ r=>bp r [⟨.bool,mQ gg s⟩]) (aD lJ [.val ⟨(.st .sig),gg⟩, .val ⟨(.st .proofStep),s⟩]) =
 ((O s.use ->
 ((((decide ((-40:Int)<=s.use/\s.use<=(23:Int)))=true) ->
 (s.path.length<=140737488355328 ->
 (O ((s.path.length:Int)) ->
 (((decide (((s.path.length:Int))<=(40:Int)))=true ->
 (Ci gg s))/\((decide (((s.path.length:Int))<=(40:Int)))=(!true) ->
 (Cj gg s))))))/\(((decide ((-40:Int)<=s.use/\s.use<=(23:Int)))=(!true)) ->
 ((false=true ->
 (Ci gg s))/\(false=(!true) ->
 (Cj gg s))))))):=by kernel_rfl
theorem QP(hE:aG [cp,nG,dZ,gh]):aJ.Good o7:=by
 refine⟨aA D2 rfl (by decide),?_⟩
 show ∀ (gg:aO) (s:ai),(bK gg=true)->bh prog yp [.val ⟨(.st .sig),gg⟩, .val ⟨(.st .proofStep),s⟩] (·=[⟨.bool,mQ gg s⟩])
 intro gg s hp
 refine aM (wr:=[]) (cl:=[]) (ro:=[2,3]) hE D2 LD (Gq gg s) ?_
 rewrite [Q3 gg s]
 refine λ _=>⟨λ _ _ _=>⟨λ _ _=>⟨?_,λ _ _ _=>⟨λ _ _ _=>⟨λ _ _=>⟨λ _ _=>⟨λ _ _=>?_,λ _=>?_⟩,λ _=>⟨λ _ _=>?_,λ _=>?_⟩⟩,λ _=>⟨λ _ _=>⟨λ _ _=>?_,λ _=>?_⟩,λ _=>⟨λ _ _=>?_,λ _=>?_⟩⟩⟩,λ _=>⟨λ _ _=>⟨λ _ _=>⟨λ _ _=>?_,λ _=>?_⟩,λ _=>⟨λ _ _=>?_,λ _=>?_⟩⟩,λ _=>⟨λ _ _=>⟨λ _ _=>?_,λ _=>?_⟩,λ _=>⟨λ _ _=>?_,λ _=>?_⟩⟩⟩⟩,λ _=>⟨λ _ _ _=>⟨λ _ _=>⟨λ _ _=>⟨λ _ _=>?_,λ _=>?_⟩,λ _=>⟨λ _ _=>?_,λ _=>?_⟩⟩,λ _=>⟨λ _ _=>⟨λ _ _=>?_,λ _=>?_⟩,λ _=>⟨λ _ _=>?_,λ _=>?_⟩⟩⟩,λ _=>⟨λ _ _=>⟨λ _ _=>⟨λ _ _=>?_,λ _=>?_⟩,λ _=>⟨λ _ _=>?_,λ _=>?_⟩⟩,λ _=>⟨λ _ _=>⟨λ _ _=>?_,λ _=>?_⟩,λ _=>⟨λ _ _=>?_,λ _=>?_⟩⟩⟩⟩⟩,λ _=>⟨λ _ _ _=>⟨λ _ _ _=>⟨λ _ _=>⟨λ _ _=>⟨λ _ _=>?_,λ _=>?_⟩,λ _=>⟨λ _ _=>?_,λ _=>?_⟩⟩,λ _=>⟨λ _ _=>⟨λ _ _=>?_,λ _=>?_⟩,λ _=>⟨λ _ _=>?_,λ _=>?_⟩⟩⟩,λ _=>⟨λ _ _=>⟨λ _ _=>⟨λ _ _=>?_,λ _=>?_⟩,λ _=>⟨λ _ _=>?_,λ _=>?_⟩⟩,λ _=>⟨λ _ _=>⟨λ _ _=>?_,λ _=>?_⟩,λ _=>⟨λ _ _=>?_,λ _=>?_⟩⟩⟩⟩,λ _=>⟨λ _ _ _=>⟨λ _ _=>⟨λ _ _=>⟨λ _ _=>?_,λ _=>?_⟩,λ _=>⟨λ _ _=>?_,λ _=>?_⟩⟩,λ _=>⟨λ _ _=>⟨λ _ _=>?_,λ _=>?_⟩,λ _=>⟨λ _ _=>?_,λ _=>?_⟩⟩⟩,λ _=>⟨λ _ _=>⟨λ _ _=>⟨λ _ _=>?_,λ _=>?_⟩,λ _=>⟨λ _ _=>?_,λ _=>?_⟩⟩,λ _=>⟨λ _ _=>⟨λ _ _=>?_,λ _=>?_⟩,λ _=>⟨λ _ _=>?_,λ _=>?_⟩⟩⟩⟩⟩⟩,λ _=>⟨λ _ _=>⟨?_,λ _ _ _=>⟨λ _ _ _=>⟨λ _ _=>⟨λ _ _=>⟨λ _ _=>?_,λ _=>?_⟩,λ _=>⟨λ _ _=>?_,λ _=>?_⟩⟩,λ _=>⟨λ _ _=>⟨λ _ _=>?_,λ _=>?_⟩,λ _=>⟨λ _ _=>?_,λ _=>?_⟩⟩⟩,λ _=>⟨λ _ _=>⟨λ _ _=>⟨λ _ _=>?_,λ _=>?_⟩,λ _=>⟨λ _ _=>?_,λ _=>?_⟩⟩,λ _=>⟨λ _ _=>⟨λ _ _=>?_,λ _=>?_⟩,λ _=>⟨λ _ _=>?_,λ _=>?_⟩⟩⟩⟩,λ _=>⟨λ _ _ _=>⟨λ _ _=>⟨λ _ _=>⟨λ _ _=>?_,λ _=>?_⟩,λ _=>⟨λ _ _=>?_,λ _=>?_⟩⟩,λ _=>⟨λ _ _=>⟨λ _ _=>?_,λ _=>?_⟩,λ _=>⟨λ _ _=>?_,λ _=>?_⟩⟩⟩,λ _=>⟨λ _ _=>⟨λ _ _=>⟨λ _ _=>?_,λ _=>?_⟩,λ _=>⟨λ _ _=>?_,λ _=>?_⟩⟩,λ _=>⟨λ _ _=>⟨λ _ _=>?_,λ _=>?_⟩,λ _=>⟨λ _ _=>?_,λ _=>?_⟩⟩⟩⟩⟩,λ _=>⟨λ _ _ _=>⟨λ _ _ _=>⟨λ _ _=>⟨λ _ _=>⟨λ _ _=>?_,λ _=>?_⟩,λ _=>⟨λ _ _=>?_,λ _=>?_⟩⟩,λ _=>⟨λ _ _=>⟨λ _ _=>?_,λ _=>?_⟩,λ _=>⟨λ _ _=>?_,λ _=>?_⟩⟩⟩,λ _=>⟨λ _ _=>⟨λ _ _=>⟨λ _ _=>?_,λ _=>?_⟩,λ _=>⟨λ _ _=>?_,λ _=>?_⟩⟩,λ _=>⟨λ _ _=>⟨λ _ _=>?_,λ _=>?_⟩,λ _=>⟨λ _ _=>?_,λ _=>?_⟩⟩⟩⟩,λ _=>⟨λ _ _ _=>⟨λ _ _=>⟨λ _ _=>⟨λ _ _=>?_,λ _=>?_⟩,λ _=>⟨λ _ _=>?_,λ _=>?_⟩⟩,λ _=>⟨λ _ _=>⟨λ _ _=>?_,λ _=>?_⟩,λ _=>⟨λ _ _=>?_,λ _=>?_⟩⟩⟩,λ _=>⟨λ _ _=>⟨λ _ _=>⟨λ _ _=>?_,λ _=>?_⟩,λ _=>⟨λ _ _=>?_,λ _=>?_⟩⟩,λ _=>⟨λ _ _=>⟨λ _ _=>?_,λ _=>?_⟩,λ _=>⟨λ _ _=>?_,λ _=>?_⟩⟩⟩⟩⟩⟩⟩
 all_goals try and_intros
 all_goals first|with_reducible rfl|with_reducible assumption|exact True.intro|(simp only[Bool.true_eq_false,Bool.false_eq_true,Bool.not_true,Bool.not_false] at *;done)|omega|(simp only[hp,Bool.and_true,Bool.not_true,Bool.not_false] at *;unfold mQ;simp only[*,Bool.and_true,Bool.true_and,Bool.and_false,Bool.false_and];done)|(simp only[aw,O,br] at *;omega)
theorem Mc:aJ.Good o7:=QP ⟨ie,Kd,tC,AU,trivial⟩
def jD:aJ:=⟨rA,[.v (.st .proof)],λ (p:av)=>⟨(none,[⟨.bool,gY p⟩])⟩⟩
def ye(p:av):Nat->aH:=(λ zb=>if Nat.beq zb 0 then .mk (Nat) (λ k=>vH p k) (λ k=>p.U.length - k) [] [0,3,5,7,8,9,10,11,12,13,14,15,16,17] (λ k=>[(20, .aW ⟨(.int .i64),((k:Int):Int)⟩)]) [1,2,4,6,18,19,20,21,22,23,24,25,26,27,28,29,30,31,32,33,34,35,36,37,38,39,40,41,42,43,44,45,46,47,48,49,50,51,52,53,54,55,56,57,58,59,60,61,62,63,64,65,66,67,68,69,70,71,72,73,74,75,76,77,78,79,80,81,82,83] (λ k=>[]) [] [] (λ k=>(λ zb=>if Nat.beq zb 100008 then .mk (Unit) (λ u=>JC p k) (λ u=>0) [] [0,3,5,7,8,9,10,11,12,13,14,15,16,17,21,22,23,24,25,26,27,28,29,30,31,32,33,34,35,36,37,38,39,40,41,42,43,44,45,46,47,48,49,50,51] (λ u=>[]) [1,2,4,6,18,19,20,21,22,23,24,25,26,27,28,29,30,31,32,33,34,35,36,37,38,39,40,41,42,43,44,45,46,47,48,49,50,51,52,53,54,55,56,57,58,59,60,61,62,63,64,65,66,67,68,69,70,71,72,73,74,75,76,77,78,79,80,81,82,83] (λ u=>[]) [] [] (λ u=>(λ zb=>if Nat.beq zb 100010 then .mk (Unit) (λ u=>NU p k) (λ u=>0) [] [0,3,5,7,8,9,10,11,12,13,14,15,16,17,21,22,23,24,25,26,27,28,29,30,31,32,33,34,35,36,37,38,39,40,41,42,43,44,45,46,47,48,49,50,51,52,53,54,55,56,57,58,59,60,61,62,63,64,65,66,67,68,69] (λ u=>[]) [1,2,4,6,18,19,20,21,22,23,24,25,26,27,28,29,30,31,32,33,34,35,36,37,38,39,40,41,42,43,44,45,46,47,48,49,50,51,52,53,54,55,56,57,58,59,60,61,62,63,64,65,66,67,68,69,70,71,72,73,74,75,76,77,78,79,80,81,82,83] (λ u=>[]) [] [] (λ u=>(λ zb=>if Nat.beq zb 2 then .mk (Nat) (λ j=>NV p k j) (λ j=>(p.U.getD k (ae.mk zE zE (0:Int) (0:Int) [])).steps.length - j) [] [0,3,5,7,8,9,10,11,12,13,14,15,16,17] (λ j=>[(73, .aW ⟨(.int .i64),((j:Int):Int)⟩)]) [1,2,4,6,18,19,20,21,22,23,24,25,26,27,28,29,30,31,32,33,34,35,36,37,38,39,40,41,42,43,44,45,46,47,48,49,50,51,52,53,54,55,56,57,58,59,60,61,62,63,64,65,66,67,68,69,70,71,72,73,74,75,76,77,78,79,80,81,82,83] (λ j=>[]) [] [] (λ j=>λ _ => .none) else .none)) else .none)) else .none)) else .none)
abbrev o5(p:av)(k1:Nat):Prop:=(((p.U.getD k1 (ae.mk zE zE (0:Int) (0:Int) [])).left.ak=(p.U.getD k1 (ae.mk zE zE (0:Int) (0:Int) [])).left.ak/\((p.U.getD k1 (ae.mk zE zE (0:Int) (0:Int) [])).left.aI=(p.U.getD k1 (ae.mk zE zE (0:Int) (0:Int) [])).left.aI/\((p.U.getD k1 (ae.mk zE zE (0:Int) (0:Int) [])).left.M=(p.U.getD k1 (ae.mk zE zE (0:Int) (0:Int) [])).left.M/\((p.U.getD k1 (ae.mk zE zE (0:Int) (0:Int) [])).right.ak=(p.U.getD k1 (ae.mk zE zE (0:Int) (0:Int) [])).right.ak/\((p.U.getD k1 (ae.mk zE zE (0:Int) (0:Int) [])).right.aI=(p.U.getD k1 (ae.mk zE zE (0:Int) (0:Int) [])).right.aI/\((p.U.getD k1 (ae.mk zE zE (0:Int) (0:Int) [])).right.M=(p.U.getD k1 (ae.mk zE zE (0:Int) (0:Int) [])).right.M/\((p.U.getD k1 (ae.mk zE zE (0:Int) (0:Int) [])).bO=(p.U.getD k1 (ae.mk zE zE (0:Int) (0:Int) [])).bO/\((p.U.getD k1 (ae.mk zE zE (0:Int) (0:Int) [])).ref=(p.U.getD k1 (ae.mk zE zE (0:Int) (0:Int) [])).ref/\((p.U.getD k1 (ae.mk zE zE (0:Int) (0:Int) [])).steps=(p.U.getD k1 (ae.mk zE zE (0:Int) (0:Int) [])).steps/\True)))))))))/\True)
abbrev dY(p:av)(k1:Nat):Prop:=((p=p/\(True/\(p.U=p.U/\(((p.U.length:Int))=((p.U.length:Int))/\((k1:Int)=(k1:Int)/\True)))))/\(o5 p k1))
abbrev vb(p:av)(k1:Nat):Prop:=((p.U.getD k1 (ae.mk zE zE (0:Int) (0:Int) [])).steps.length<=140737488355328 ->
 (O (((p.U.getD k1 (ae.mk zE zE (0:Int) (0:Int) [])).steps.length:Int)) ->
 (((decide ((60:Int)<(((p.U.getD k1 (ae.mk zE zE (0:Int) (0:Int) [])).steps.length:Int))))=true ->
 false=(gY p))/\((decide ((60:Int)<(((p.U.getD k1 (ae.mk zE zE (0:Int) (0:Int) [])).steps.length:Int))))=false ->
 (∃ u2:Unit,(JC p k1/\(dY p k1)))))))
abbrev vd(p:av)(k1:Nat):Prop:=(O (p.U.getD k1 (ae.mk zE zE (0:Int) (0:Int) [])).ref ->
 ((((!(decide ((0:Int)<=(p.U.getD k1 (ae.mk zE zE (0:Int) (0:Int) [])).ref/\(p.U.getD k1 (ae.mk zE zE (0:Int) (0:Int) [])).ref<=(39:Int))))=false) ->
 (vb p k1))/\(((!(decide ((0:Int)<=(p.U.getD k1 (ae.mk zE zE (0:Int) (0:Int) [])).ref/\(p.U.getD k1 (ae.mk zE zE (0:Int) (0:Int) [])).ref<=(39:Int))))=(!false)) ->
 ((true=true ->
 false=(gY p))/\(true=false ->
 (∃ u2:Unit,(JC p k1/\(dY p k1))))))))
abbrev ve(p:av)(k1:Nat):Prop:=((true=false ->
 (vb p k1))/\(true=(!false) ->
 ((true=true ->
 false=(gY p))/\(true=false ->
 (∃ u2:Unit,(JC p k1/\(dY p k1)))))))
abbrev vf(p:av)(k1:Nat):Prop:=(O (p.U.getD k1 (ae.mk zE zE (0:Int) (0:Int) [])).bO ->
 (((!(decide ((p.U.getD k1 (ae.mk zE zE (0:Int) (0:Int) [])).bO=(1:Int))))=true ->
 ((p.U.getD k1 (ae.mk zE zE (0:Int) (0:Int) [])).steps.length<=140737488355328 ->
 (O (((p.U.getD k1 (ae.mk zE zE (0:Int) (0:Int) [])).steps.length:Int)) ->
 (((decide ((0:Int)<(((p.U.getD k1 (ae.mk zE zE (0:Int) (0:Int) [])).steps.length:Int))))=true ->
 false=(gY p))/\((decide ((0:Int)<(((p.U.getD k1 (ae.mk zE zE (0:Int) (0:Int) [])).steps.length:Int))))=false ->
 (∃ u3:Unit,(NU p k1/\(dY p k1))))))))/\((!(decide ((p.U.getD k1 (ae.mk zE zE (0:Int) (0:Int) [])).bO=(1:Int))))=(!true) ->
 ((false=true ->
 false=(gY p))/\(false=false ->
 (∃ u3:Unit,(NU p k1/\(dY p k1))))))))
abbrev vg(p:av):Prop:=(p.U.length<=140737488355328 ->
 (O ((p.U.length:Int)) ->
 ((∃ k1:Nat,(vH p k1/\((p=p/\(p.U=p.U/\(((p.U.length:Int))=((p.U.length:Int))/\((0:Int)=(k1:Int)/\True))))/\True)))/\(∀ k1:Nat,(vH p k1 ->
 (((decide ((k1:Int)<((p.U.length:Int))))=true ->
 (aw (k1:Int) p.U.length/\((((!(bq (cg p.sig) ([(ag (p.U.getD k1 (ae.mk zE zE (0:Int) (0:Int) [])).left),(ag (p.U.getD k1 (ae.mk zE zE (0:Int) (0:Int) [])).right)])&&bK p.sig))=false ->
 (O (p.U.getD k1 (ae.mk zE zE (0:Int) (0:Int) [])).bO ->
 ((((!(decide ((1:Int)<=(p.U.getD k1 (ae.mk zE zE (0:Int) (0:Int) [])).bO/\(p.U.getD k1 (ae.mk zE zE (0:Int) (0:Int) [])).bO<=(3:Int))))=false) ->
 (vd p k1))/\(((!(decide ((1:Int)<=(p.U.getD k1 (ae.mk zE zE (0:Int) (0:Int) [])).bO/\(p.U.getD k1 (ae.mk zE zE (0:Int) (0:Int) [])).bO<=(3:Int))))=(!false)) ->
 (ve p k1)))))/\((!(bq (cg p.sig) ([(ag (p.U.getD k1 (ae.mk zE zE (0:Int) (0:Int) [])).left),(ag (p.U.getD k1 (ae.mk zE zE (0:Int) (0:Int) [])).right)])&&bK p.sig))=(!false) ->
 ((true=false ->
 (vd p k1))/\(true=(!false) ->
 (ve p k1)))))/\(∀ u2:Unit,(JC p k1 ->
 ((O (p.U.getD k1 (ae.mk zE zE (0:Int) (0:Int) [])).bO ->
 (((decide ((p.U.getD k1 (ae.mk zE zE (0:Int) (0:Int) [])).bO=(1:Int)))=true ->
 (O (p.U.getD k1 (ae.mk zE zE (0:Int) (0:Int) [])).ref ->
 (((!(decide ((p.U.getD k1 (ae.mk zE zE (0:Int) (0:Int) [])).ref=(0:Int))))=false ->
 (vf p k1))/\((!(decide ((p.U.getD k1 (ae.mk zE zE (0:Int) (0:Int) [])).ref=(0:Int))))=(!false) ->
 ((true=true ->
 false=(gY p))/\(true=false ->
 (∃ u3:Unit,(NU p k1/\(dY p k1)))))))))/\((decide ((p.U.getD k1 (ae.mk zE zE (0:Int) (0:Int) [])).bO=(1:Int)))=(!true) ->
 ((false=false ->
 (vf p k1))/\(false=(!false) ->
 ((true=true ->
 false=(gY p))/\(true=false ->
 (∃ u3:Unit,(NU p k1/\(dY p k1))))))))))/\(∀ u3:Unit,(NU p k1 ->
 ((p.U.getD k1 (ae.mk zE zE (0:Int) (0:Int) [])).steps.length<=140737488355328 ->
 (O (((p.U.getD k1 (ae.mk zE zE (0:Int) (0:Int) [])).steps.length:Int)) ->
 ((∃ j4:Nat,(NV p k1 j4/\((p=p/\(True/\(p.U=p.U/\(((p.U.length:Int))=((p.U.length:Int))/\((k1:Int)=(k1:Int)/\(True/\((p.U.getD k1 (ae.mk zE zE (0:Int) (0:Int) [])).steps=(p.U.getD k1 (ae.mk zE zE (0:Int) (0:Int) [])).steps/\((((p.U.getD k1 (ae.mk zE zE (0:Int) (0:Int) [])).steps.length:Int))=(((p.U.getD k1 (ae.mk zE zE (0:Int) (0:Int) [])).steps.length:Int))/\((0:Int)=(j4:Int)/\True)))))))))/\(o5 p k1))))/\(∀ j4:Nat,(NV p k1 j4 ->
 (((decide ((j4:Int)<(((p.U.getD k1 (ae.mk zE zE (0:Int) (0:Int) [])).steps.length:Int))))=true ->
 (aw (j4:Int) (p.U.getD k1 (ae.mk zE zE (0:Int) (0:Int) [])).steps.length/\(bK p.sig=true/\(((!(mQ p.sig ((p.U.getD k1 (ae.mk zE zE (0:Int) (0:Int) [])).steps.getD j4 (ai.mk (0:Int) false [] [] []))))=true ->
 false=(gY p))/\((!(mQ p.sig ((p.U.getD k1 (ae.mk zE zE (0:Int) (0:Int) [])).steps.getD j4 (ai.mk (0:Int) false [] [] []))))=false ->
 (O ((j4:Int)+(1:Int))/\(∃ j5:Nat,(NV p k1 j5/\((p.U.getD k1 (ae.mk zE zE (0:Int) (0:Int) [])).steps.length - j5<(p.U.getD k1 (ae.mk zE zE (0:Int) (0:Int) [])).steps.length - j4/\((p=p/\(True/\(p.U=p.U/\(((p.U.length:Int))=((p.U.length:Int))/\((k1:Int)=(k1:Int)/\(True/\((p.U.getD k1 (ae.mk zE zE (0:Int) (0:Int) [])).steps=(p.U.getD k1 (ae.mk zE zE (0:Int) (0:Int) [])).steps/\((((p.U.getD k1 (ae.mk zE zE (0:Int) (0:Int) [])).steps.length:Int))=(((p.U.getD k1 (ae.mk zE zE (0:Int) (0:Int) [])).steps.length:Int))/\(((j4:Int)+(1:Int))=(j5:Int)/\True)))))))))/\(o5 p k1)))))))))))/\((decide ((j4:Int)<(((p.U.getD k1 (ae.mk zE zE (0:Int) (0:Int) [])).steps.length:Int))))=false ->
 (O ((k1:Int)+(1:Int))/\(∃ k5:Nat,(vH p k5/\(p.U.length - k5<p.U.length - k1/\((p=p/\(p.U=p.U/\(((p.U.length:Int))=((p.U.length:Int))/\(((k1:Int)+(1:Int))=(k5:Int)/\True))))/\True))))))))))))))))))))/\((decide ((k1:Int)<((p.U.length:Int))))=false ->
 true=(gY p))))))))
theorem IN(p:av):ck (aL [ft,dZ,cp,o7] [] [] [1]) (au gC) (ye p) 0 (bg (aL [ft,dZ,cp,o7] [] [] [1]) gC λ r=>bp r [⟨.bool,gY p⟩]) (aD gC [.val ⟨(.st .proof),p⟩]) =
 ((((!(bK p.sig))=false ->
 (p.U.length<=140737488355328 ->
 (O ((p.U.length:Int)) ->
 (((decide ((40:Int)<((p.U.length:Int))))=true ->
 false=(gY p))/\((decide ((40:Int)<((p.U.length:Int))))=false ->
 (vg p))))))/\((!(bK p.sig))=(!false) ->
 ((true=true ->
 false=(gY p))/\(true=false ->
 (vg p)))))):=by kernel_rfl
theorem ID(hE:aG [ft,dZ,cp,o7]):aJ.Good jD:=by
 refine⟨aA wB rfl (by decide),?_⟩
 show ∀ (p:av),True->bh prog rA [.val ⟨(.st .proof),p⟩] (·=[⟨.bool,gY p⟩])
 intro p _
 refine aM (wr:=[]) (cl:=[]) (ro:=[1]) hE wB EX (ye p) ?_
 rewrite [IN p]
 refine⟨λ _ _ _=>⟨λ _=>?_,λ _ _ _=>⟨⟨0,?_,⟨rfl,rfl,rfl,?_,trivial⟩,trivial⟩,λ k1 _=>⟨λ _=>⟨?_,⟨λ _ _=>⟨λ _ _=>⟨λ _ _ _=>⟨λ _=>?_,λ _=>⟨(),?_,⟨rfl,trivial,rfl,rfl,rfl,trivial⟩,⟨rfl,rfl,rfl,rfl,rfl,rfl,rfl,rfl,rfl,trivial⟩,trivial⟩⟩,λ _=>⟨λ _=>?_,λ _=>⟨(),?_,⟨rfl,trivial,rfl,rfl,rfl,trivial⟩,⟨rfl,rfl,rfl,rfl,rfl,rfl,rfl,rfl,rfl,trivial⟩,trivial⟩⟩⟩,λ _=>⟨λ _ _ _=>⟨λ _=>?_,λ _=>⟨(),?_,⟨rfl,trivial,rfl,rfl,rfl,trivial⟩,⟨rfl,rfl,rfl,rfl,rfl,rfl,rfl,rfl,rfl,trivial⟩,trivial⟩⟩,λ _=>⟨λ _=>?_,λ _=>⟨(),?_,⟨rfl,trivial,rfl,rfl,rfl,trivial⟩,⟨rfl,rfl,rfl,rfl,rfl,rfl,rfl,rfl,rfl,trivial⟩,trivial⟩⟩⟩⟩,λ _=>⟨λ _ _=>⟨λ _ _ _=>⟨λ _=>?_,λ _=>⟨(),?_,⟨rfl,trivial,rfl,rfl,rfl,trivial⟩,⟨rfl,rfl,rfl,rfl,rfl,rfl,rfl,rfl,rfl,trivial⟩,trivial⟩⟩,λ _=>⟨λ _=>?_,λ _=>⟨(),?_,⟨rfl,trivial,rfl,rfl,rfl,trivial⟩,⟨rfl,rfl,rfl,rfl,rfl,rfl,rfl,rfl,rfl,trivial⟩,trivial⟩⟩⟩,λ _=>⟨λ _ _ _=>⟨λ _=>?_,λ _=>⟨(),?_,⟨rfl,trivial,rfl,rfl,rfl,trivial⟩,⟨rfl,rfl,rfl,rfl,rfl,rfl,rfl,rfl,rfl,trivial⟩,trivial⟩⟩,λ _=>⟨λ _=>?_,λ _=>⟨(),?_,⟨rfl,trivial,rfl,rfl,rfl,trivial⟩,⟨rfl,rfl,rfl,rfl,rfl,rfl,rfl,rfl,rfl,trivial⟩,trivial⟩⟩⟩⟩⟩,λ u2 _=>⟨λ _=>⟨λ _ _=>⟨λ _ _=>⟨λ _ _ _=>⟨λ _=>?_,λ _=>⟨(),?_,⟨rfl,trivial,rfl,rfl,rfl,trivial⟩,⟨rfl,rfl,rfl,rfl,rfl,rfl,rfl,rfl,rfl,trivial⟩,trivial⟩⟩,λ _=>⟨λ _=>?_,λ _=>⟨(),?_,⟨rfl,trivial,rfl,rfl,rfl,trivial⟩,⟨rfl,rfl,rfl,rfl,rfl,rfl,rfl,rfl,rfl,trivial⟩,trivial⟩⟩⟩,λ _=>⟨λ _=>?_,λ _=>⟨(),?_,⟨rfl,trivial,rfl,rfl,rfl,trivial⟩,⟨rfl,rfl,rfl,rfl,rfl,rfl,rfl,rfl,rfl,trivial⟩,trivial⟩⟩⟩,λ _=>⟨λ _ _=>⟨λ _ _ _=>⟨λ _=>?_,λ _=>⟨(),?_,⟨rfl,trivial,rfl,rfl,rfl,trivial⟩,⟨rfl,rfl,rfl,rfl,rfl,rfl,rfl,rfl,rfl,trivial⟩,trivial⟩⟩,λ _=>⟨λ _=>?_,λ _=>⟨(),?_,⟨rfl,trivial,rfl,rfl,rfl,trivial⟩,⟨rfl,rfl,rfl,rfl,rfl,rfl,rfl,rfl,rfl,trivial⟩,trivial⟩⟩⟩,λ _=>⟨λ _=>?_,λ _=>⟨(),?_,⟨rfl,trivial,rfl,rfl,rfl,trivial⟩,⟨rfl,rfl,rfl,rfl,rfl,rfl,rfl,rfl,rfl,trivial⟩,trivial⟩⟩⟩⟩,λ u3 _ _ _=>⟨⟨0,?_,⟨rfl,trivial,rfl,rfl,rfl,trivial,rfl,rfl,?_,trivial⟩,⟨rfl,rfl,rfl,rfl,rfl,rfl,rfl,rfl,rfl,trivial⟩,trivial⟩,λ j4 _=>⟨λ _=>⟨?_,?_,λ _=>?_,λ _=>⟨?_,j4+1,?_,?_,⟨rfl,trivial,rfl,rfl,rfl,trivial,rfl,rfl,?_,trivial⟩,⟨rfl,rfl,rfl,rfl,rfl,rfl,rfl,rfl,rfl,trivial⟩,trivial⟩⟩,λ _=>⟨?_,k1+1,?_,?_,⟨rfl,rfl,rfl,?_,trivial⟩,trivial⟩⟩⟩⟩⟩,λ _=>?_⟩⟩⟩,λ _=>⟨λ _=>?_,λ _ _ _=>⟨⟨0,?_,⟨rfl,rfl,rfl,?_,trivial⟩,trivial⟩,λ k1 _=>⟨λ _=>⟨?_,⟨λ _ _=>⟨λ _ _=>⟨λ _ _ _=>⟨λ _=>?_,λ _=>⟨(),?_,⟨rfl,trivial,rfl,rfl,rfl,trivial⟩,⟨rfl,rfl,rfl,rfl,rfl,rfl,rfl,rfl,rfl,trivial⟩,trivial⟩⟩,λ _=>⟨λ _=>?_,λ _=>⟨(),?_,⟨rfl,trivial,rfl,rfl,rfl,trivial⟩,⟨rfl,rfl,rfl,rfl,rfl,rfl,rfl,rfl,rfl,trivial⟩,trivial⟩⟩⟩,λ _=>⟨λ _ _ _=>⟨λ _=>?_,λ _=>⟨(),?_,⟨rfl,trivial,rfl,rfl,rfl,trivial⟩,⟨rfl,rfl,rfl,rfl,rfl,rfl,rfl,rfl,rfl,trivial⟩,trivial⟩⟩,λ _=>⟨λ _=>?_,λ _=>⟨(),?_,⟨rfl,trivial,rfl,rfl,rfl,trivial⟩,⟨rfl,rfl,rfl,rfl,rfl,rfl,rfl,rfl,rfl,trivial⟩,trivial⟩⟩⟩⟩,λ _=>⟨λ _ _=>⟨λ _ _ _=>⟨λ _=>?_,λ _=>⟨(),?_,⟨rfl,trivial,rfl,rfl,rfl,trivial⟩,⟨rfl,rfl,rfl,rfl,rfl,rfl,rfl,rfl,rfl,trivial⟩,trivial⟩⟩,λ _=>⟨λ _=>?_,λ _=>⟨(),?_,⟨rfl,trivial,rfl,rfl,rfl,trivial⟩,⟨rfl,rfl,rfl,rfl,rfl,rfl,rfl,rfl,rfl,trivial⟩,trivial⟩⟩⟩,λ _=>⟨λ _ _ _=>⟨λ _=>?_,λ _=>⟨(),?_,⟨rfl,trivial,rfl,rfl,rfl,trivial⟩,⟨rfl,rfl,rfl,rfl,rfl,rfl,rfl,rfl,rfl,trivial⟩,trivial⟩⟩,λ _=>⟨λ _=>?_,λ _=>⟨(),?_,⟨rfl,trivial,rfl,rfl,rfl,trivial⟩,⟨rfl,rfl,rfl,rfl,rfl,rfl,rfl,rfl,rfl,trivial⟩,trivial⟩⟩⟩⟩⟩,λ u2 _=>⟨λ _=>⟨λ _ _=>⟨λ _ _=>⟨λ _ _ _=>⟨λ _=>?_,λ _=>⟨(),?_,⟨rfl,trivial,rfl,rfl,rfl,trivial⟩,⟨rfl,rfl,rfl,rfl,rfl,rfl,rfl,rfl,rfl,trivial⟩,trivial⟩⟩,λ _=>⟨λ _=>?_,λ _=>⟨(),?_,⟨rfl,trivial,rfl,rfl,rfl,trivial⟩,⟨rfl,rfl,rfl,rfl,rfl,rfl,rfl,rfl,rfl,trivial⟩,trivial⟩⟩⟩,λ _=>⟨λ _=>?_,λ _=>⟨(),?_,⟨rfl,trivial,rfl,rfl,rfl,trivial⟩,⟨rfl,rfl,rfl,rfl,rfl,rfl,rfl,rfl,rfl,trivial⟩,trivial⟩⟩⟩,λ _=>⟨λ _ _=>⟨λ _ _ _=>⟨λ _=>?_,λ _=>⟨(),?_,⟨rfl,trivial,rfl,rfl,rfl,trivial⟩,⟨rfl,rfl,rfl,rfl,rfl,rfl,rfl,rfl,rfl,trivial⟩,trivial⟩⟩,λ _=>⟨λ _=>?_,λ _=>⟨(),?_,⟨rfl,trivial,rfl,rfl,rfl,trivial⟩,⟨rfl,rfl,rfl,rfl,rfl,rfl,rfl,rfl,rfl,trivial⟩,trivial⟩⟩⟩,λ _=>⟨λ _=>?_,λ _=>⟨(),?_,⟨rfl,trivial,rfl,rfl,rfl,trivial⟩,⟨rfl,rfl,rfl,rfl,rfl,rfl,rfl,rfl,rfl,trivial⟩,trivial⟩⟩⟩⟩,λ u3 _ _ _=>⟨⟨0,?_,⟨rfl,trivial,rfl,rfl,rfl,trivial,rfl,rfl,?_,trivial⟩,⟨rfl,rfl,rfl,rfl,rfl,rfl,rfl,rfl,rfl,trivial⟩,trivial⟩,λ j4 _=>⟨λ _=>⟨?_,?_,λ _=>?_,λ _=>⟨?_,j4+1,?_,?_,⟨rfl,trivial,rfl,rfl,rfl,trivial,rfl,rfl,?_,trivial⟩,⟨rfl,rfl,rfl,rfl,rfl,rfl,rfl,rfl,rfl,trivial⟩,trivial⟩⟩,λ _=>⟨?_,k1+1,?_,?_,⟨rfl,rfl,rfl,?_,trivial⟩,trivial⟩⟩⟩⟩⟩,λ _=>?_⟩⟩⟩⟩
 all_goals try and_intros
 all_goals try (first|with_reducible rfl|with_reducible assumption)
 all_goals try simp only[J.eta,ae.eta,aj.eta,aP,bM,cn] at *
 all_goals first|with_reducible rfl|with_reducible assumption|exact True.intro|(simp only[Bool.true_eq_false,Bool.false_eq_true,Bool.not_true,Bool.not_false] at *;done)|(have h:vH p k1:=(by with_reducible assumption);have sg:=h.sg;simp only[sg,Bool.and_true,Bool.not_true,Bool.not_false,Bool.not_eq_true',Bool.not_eq_false'] at *;first|exact True.intro|exact (h.b1 (by simp only[decide_eq_true_eq] at *;omega) (by with_reducible assumption)).symm|exact (h.b (by simp only[decide_eq_true_eq] at *;omega) (YO (by simp only[iH,decide_eq_true_eq,decide_eq_false_iff_not] at *;omega))).symm|exact (h.b (by simp only[decide_eq_true_eq] at *;omega) (YP (by simp only[iH,decide_eq_true_eq,decide_eq_false_iff_not] at *;omega))).symm|exact h.a (by simp only[decide_eq_true_eq] at *;omega) (by with_reducible assumption) (by simp only[iH,decide_eq_true_eq,decide_eq_false_iff_not] at *;omega) (by simp only[iH,decide_eq_true_eq,decide_eq_false_iff_not] at *;omega) (by simp only[iH,decide_eq_true_eq,decide_eq_false_iff_not] at *;omega)|(refine (h.a7r (by simp only[decide_eq_true_eq] at *;omega) ?_).symm;(rw[ZZ];unfold clG;simp only[iH, *,Bool.and_true,Bool.true_and,Bool.and_false,Bool.false_and,Bool.not_true,Bool.not_false];done)))|((try simp only[iH,List.nil_append,J.eta,decide_eq_true_eq,decide_eq_false_iff_not,Bool.not_true,Bool.not_false,Bool.not_eq_true',Bool.not_eq_false',aw,O,br,List.length_append,List.length_cons,List.length_nil,List.length_map,List.length_take] at *);first|exact True.intro|omega|exact (a0o (by with_reducible assumption)).symm|exact (a0p (by omega)).symm|exact vH.zero (by with_reducible assumption) (by omega)|exact (vH.end (by with_reducible assumption) (by omega)).symm|exact NU.zero (by with_reducible assumption)|(have h:vH p k1:=(by with_reducible assumption);have:=h.le;have:=h.ln;omega)|(have h:JC p k1:=(by with_reducible assumption);have l:=h.lt;first|omega|exact (h.n1 (by simp only[iH];omega) (by simp only[iH];omega)).symm|exact (h.n2 (by simp only[iH];omega) (by simp only[iH];omega)).symm|exact h.y1 (by simp only[iH];omega) (by simp only[iH];omega)|exact h.y2 (by simp only[iH];omega) (by simp only[iH];omega))|(have h:NU p k1:=(by with_reducible assumption);have:=h.lt;omega)|(have h:NV p k1 j4:=(by with_reducible assumption);first|exact h.h.pp.sg|exact (h.bad (by simp only[iH];omega) (by with_reducible assumption)).symm|exact h.next (by simp only[iH];omega) (by with_reducible assumption)|exact h.done (by simp only[iH];omega)|(have:=h.le;have:=h.h.lt;omega)))
theorem E4:aJ.Good jD:=ID ⟨wH,tC,ie,Mc,trivial⟩
theorem Vk{gg:aO}{x:J}(hg:bK gg=true)(h:cg gg x=true):aZ 62 62 x=true:=by
 rw[xT] at h
 rw[TO] at hg
 rw[DL _ (by omega),DL _ (by omega)] at h
 exact Hi _ _ _ _ (by omega) (by omega) x h.1
theorem VG{t a:Int}{x:J}(h:aZ t a x=true):cN x.ak=(x.M.length:Int):=by
 rw[kB,a8r] at h
 have h1:=h.1
 unfold rr at h1
 simp only[a8r,a8p] at h1
 exact h1.1.1
theorem HL{t a:Int}{x:J}(h:aZ t a x=true)(hk:x.ak=6\/x.ak=7):x.M.length=2:=by
 have:=VG h
 rcases hk with hk|hk<;>rw[hk] at this<;>simp[cN] at this<;>omega
theorem RC{α:Type}(f:α->Bool)(z:α)(xs:List α)(i:Nat)(h:bq f xs=true)(hi:i<xs.length):f (xs.getD i z)=true:=by
 refine xj f xs h _ ?_
 rw[a8H,a8P hi]
 exact a9M _
structure yW(p:av):Prop where
 v:gY p=true
theorem yW.sg{p:av}(h:yW p):bK p.sig=true:=by
 have:=h.v;simp only[gY,a8r] at this;exact this.1.1
theorem yW.ln{p:av}(h:yW p):p.U.length<=40:=by
 have:=h.v;simp only[gY,a8r,a8p] at this;exact this.1.2
theorem yW.cl{p:av}(h:yW p){i:Int}(h0:0<=i)(hi:i<(p.U.length:Int)):oW p.sig (dv p i)=true:=by
 have:=h.v;simp only[gY,a8r] at this
 exact RC _ _ _ _ this.2 (by omega)
theorem yW.e{p:av}(h:yW p){i:Int}(h0:0<=i)(hi:i<(p.U.length:Int)):cg p.sig (dv p i).left=true/\cg p.sig (dv p i).right=true/\(1<=(dv p i).bO/\(dv p i).bO<=3)/\(0<=(dv p i).ref/\(dv p i).ref<=39)/\(dv p i).steps.length<=60/\bq (mQ p.sig) (dv p i).steps=true:=by
 have:=h.cl h0 hi
 simp only[oW,a8r,a8p] at this
 exact⟨this.1.1.1.1.1.1,this.1.1.1.1.1.2,this.1.1.1.1.2,this.1.1.1.2,this.1.1.2,this.2⟩
theorem yW.t{p:av}(h:yW p){i:Int}(h0:0<=i)(hi:i<(p.U.length:Int)):aZ 62 62 (dv p i).left=true/\aZ 62 62 (dv p i).right=true:=⟨Vk h.sg (h.e h0 hi).1,Vk h.sg (h.e h0 hi).2.1⟩
theorem RY:BQ.length=24:=by unfold BQ;rw[List.length_map];rfl
theorem a0I:BQ.all (λ q=>aZ 62 62 q.left&&aZ 62 62 q.right)=true:=by kernel_rfl
theorem Hl{p:av}{k u:Int}(h:yW p)(hk:k<=(p.U.length:Int))(hu:u<=23)(ho:qo k u=true):aZ 62 62 (bZ p k u).left=true/\aZ 62 62 (bZ p k u).right=true:=by
 unfold bZ
 by_cases h0:0<=u
 .rw[a8O h0]
  have hm:BQ.getD u.toNat (aj.mk zE zE)∈BQ:=by
   rw[a8H,a8P (by rw[RY];omega)]
   exact a9M _
  have:=a9a.1 a0I _ hm
  rwa [a8r] at this
 .rw[a8y h0]
  simp only[qo,b0c,a8p] at ho
  rw[a8O (by omega)]
  exact h.t (by omega) (by omega)
theorem T4{p:av}{k u:Int}(h:0<=u):bZ p k u=BQ.getD u.toNat (aj.mk zE zE)/\qo k u=true:=by
 unfold bZ qo;rw[if_pos h,decide_eq_true h];exact⟨rfl,rfl⟩
theorem Hj{p:av}{k u:Int}(h:¬ 0<=u)(h2 : -1 - u<k):bZ p k u=aj.mk (dv p (-1 - u)).left (dv p (-1 - u)).right/\qo k u=true:=by
 unfold bZ qo;rw[if_neg h,if_pos h2,decide_eq_true h2,Bool.or_true];exact⟨rfl,rfl⟩
theorem Hk{p:av}{k u:Int}(h:¬ 0<=u)(h2:¬ -1 - u<k):bZ p k u=aj.mk zE zE/\qo k u=false:=by
 unfold bZ qo;rw[if_neg h,if_neg h2,decide_eq_false h,decide_eq_false h2];exact⟨rfl,rfl⟩
theorem oD{q:aj}(h:qF q=false):IL q=J.mk (0:Int) (0:Int) []/\mR q=J.mk (0:Int) (0:Int) []/\vB q=J.mk (0:Int) (0:Int) []:=by unfold IL mR vB;rw[h];exact⟨rfl,rfl,rfl⟩
theorem uP{q:aj}(h:qF q=true):IL q=(q.left.M.getD 0 zE).M.getD 0 zE/\mR q=(q.left.M.getD 0 zE).M.getD 1 zE/\vB q=q.right:=by unfold IL mR vB;rw[h];exact⟨rfl,rfl,rfl⟩
theorem Hd{q:aj}(h1:q.left.ak=6)(h2:(q.left.M.getD 0 zE).ak=6)(h3:bw (q.left.M.getD 1 zE) q.right=true):qF q=true:=by unfold qF;rw[decide_eq_true h1,decide_eq_true h2,h3];rfl
theorem Ha{q:aj}(h1:¬ q.left.ak=6):qF q=false:=by unfold qF;rw[decide_eq_false h1];rfl
theorem Hb{q:aj}(h1:¬ (q.left.M.getD 0 zE).ak=6):qF q=false:=by unfold qF;rw[decide_eq_false h1,Bool.and_false];rfl
theorem Hc{q:aj}(h1:bw (q.left.M.getD 1 zE) q.right=false):qF q=false:=by unfold qF;rw[h1,Bool.and_false]
theorem TQ{q:aj}(ht:aZ 62 62 q.left=true)(h:q.left.ak=6):q.left.M.length=2/\aZ 62 62 (q.left.M.getD 0 zE)=true/\((q.left.M.getD 0 zE).ak=6->(q.left.M.getD 0 zE).M.length=2/\aZ 62 62 ((q.left.M.getD 0 zE).M.getD 1 zE)=true):=by
 have h2:=HL ht (.inl h)
 have h3:=uE ht 0 (by omega)
 refine⟨h2,h3,λ hk=>?_⟩
 have h4:=HL h3 (.inl hk)
 exact⟨h4,uE h3 1 (by omega)⟩
theorem Ma:aJ.Good kz:=KR.plain
def pb:aJ:=⟨yv,[.v (.st .proof), .v (.int .i64), .v (.int .i64)],λ (p:av) (k:Int) (u:Int)=>⟨(some (u<=23 /\ -40<=u/\0<=k/\k<=(p.U.length:Int)),[⟨(.st .equation),bZ p k u⟩,⟨.bool,qo k u⟩])⟩⟩
def Gu(p:av)(k:Int)(u:Int):Nat->aH:=λ _ => .none
theorem Q7(p:av)(k:Int)(u:Int):ck (aL [kz] [] [] [3]) (au lN) (Gu p k u) 0 (bg (aL [kz] [] [] [3]) lN λ r=>bp r [⟨(.st .equation),bZ p k u⟩,⟨.bool,qo k u⟩]) (aD lN [.val ⟨(.st .proof),p⟩, .val ⟨(.int .i64),k⟩, .val ⟨(.int .i64),u⟩]) =
 ((((decide ((0:Int)<=u))=true ->
 ((BQ).length<=140737488355328 ->
 (aw u (BQ).length/\((bU ((BQ).getD (Int.toNat u) (aj.mk zE zE)))=(bZ p k u)/\true=(qo k u)))))/\((decide ((0:Int)<=u))=false ->
 (O ((-1:Int) - u)/\(((decide (k<=((-1:Int) - u)))=true ->
 ((aj.mk zE zE)=(bZ p k u)/\false=(qo k u)))/\((decide (k<=((-1:Int) - u)))=false ->
 (p.U.length<=140737488355328 ->
 (O ((-1:Int) - u)/\(aw ((-1:Int) - u) p.U.length/\((aj.mk (ag (p.U.getD (Int.toNat ((-1:Int) - u)) (ae.mk zE zE (0:Int) (0:Int) [])).left) (ag (p.U.getD (Int.toNat ((-1:Int) - u)) (ae.mk zE zE (0:Int) (0:Int) [])).right))=(bZ p k u)/\true=(qo k u))))))))))):=by kernel_rfl
theorem QT(hE:aG [kz]):aJ.Good pb:=by
 refine⟨aA D5 rfl (by decide),?_⟩
 show ∀ (p:av) (k:Int) (u:Int),(u<=23 /\ -40<=u/\0<=k/\k<=(p.U.length:Int))->bh prog yv [.val ⟨(.st .proof),p⟩, .val ⟨(.int .i64),k⟩, .val ⟨(.int .i64),u⟩] (·=[⟨(.st .equation),bZ p k u⟩,⟨.bool,qo k u⟩])
 intro p k u hp
 refine aM (wr:=[]) (cl:=[]) (ro:=[3]) hE D5 LI (Gu p k u) ?_
 rewrite [Q7 p k u]
 refine⟨λ _ _=>⟨?_,?_,?_⟩,λ _=>⟨?_,λ _=>⟨?_,?_⟩,λ _ _=>⟨?_,?_,?_,?_⟩⟩⟩
 all_goals try and_intros
 all_goals try (first|with_reducible rfl|with_reducible assumption)
 all_goals try simp only[J.eta,ae.eta,aj.eta,aP,bM,cn] at *
 all_goals first|with_reducible rfl|with_reducible assumption|exact True.intro|(simp only[a8B,a8w,a8x,a8v] at *;done)|((try simp only[a8T,J.eta,a8p,a8q,a8x,a8v,a8J,a8X,aw,O,br,a8K,a8C,a8N,a8R,a8U] at *);first|exact True.intro|omega|exact (T4 (p:=p) (k:=k) (u:=u) (by omega)).1|exact ((T4 (p:=p) (k:=k) (u:=u) (by omega)).1).symm|exact (T4 (p:=p) (k:=k) (u:=u) (by omega)).2|exact ((T4 (p:=p) (k:=k) (u:=u) (by omega)).2).symm|exact (Hj (p:=p) (k:=k) (u:=u) (by omega) (by omega)).1|exact ((Hj (p:=p) (k:=k) (u:=u) (by omega) (by omega)).1).symm|exact (Hj (p:=p) (k:=k) (u:=u) (by omega) (by omega)).2|exact ((Hj (p:=p) (k:=k) (u:=u) (by omega) (by omega)).2).symm|exact (Hk (p:=p) (k:=k) (u:=u) (by omega) (by omega)).1|exact ((Hk (p:=p) (k:=k) (u:=u) (by omega) (by omega)).1).symm|exact (Hk (p:=p) (k:=k) (u:=u) (by omega) (by omega)).2|exact ((Hk (p:=p) (k:=k) (u:=u) (by omega) (by omega)).2).symm|(have:=RY;omega))
theorem Mg:aJ.Good pb:=QT ⟨Ma,trivial⟩
def nI:aJ:=⟨vY,[.v (.st .equation)],λ (q:aj)=>⟨(some (aZ 62 62 q.left=true),[⟨(.st .expr),IL q⟩,⟨(.st .expr),mR q⟩,⟨(.st .expr),vB q⟩,⟨.bool,qF q⟩])⟩⟩
def Em(q:aj):Nat->aH:=λ _ => .none
abbrev sJ(q:aj):Prop:=(zE=(IL q)/\(zE=(mR q)/\(zE=(vB q)/\false=(qF q))))
abbrev sK(q:aj):Prop:=(q.left.M.length<=140737488355328 ->
 (aw (0:Int) q.left.M.length/\((q.left.M.getD 0 zE).M.length<=140737488355328 ->
 (aw (0:Int) (q.left.M.getD 0 zE).M.length/\(q.left.M.length<=140737488355328 ->
 (aw (0:Int) q.left.M.length/\((q.left.M.getD 0 zE).M.length<=140737488355328 ->
 (aw (1:Int) (q.left.M.getD 0 zE).M.length/\(q.left=q.left/\(q.left.M=q.left.M/\(q.left.M=q.left.M/\(aw (0:Int) q.left.M.length/\((q.left.M.getD 0 zE)=(q.left.M.getD 0 zE)/\((q.left.M.getD 0 zE).M=(q.left.M.getD 0 zE).M/\((q.left.M.getD 0 zE).M=(q.left.M.getD 0 zE).M/\(aw (0:Int) (q.left.M.getD 0 zE).M.length/\(((q.left.M.getD 0 zE).M.getD 0 zE)=((q.left.M.getD 0 zE).M.getD 0 zE)/\(((q.left.M.getD 0 zE).M.getD 0 zE)=((q.left.M.getD 0 zE).M.getD 0 zE)/\(q.left=q.left/\(q.left.M=q.left.M/\(q.left.M=q.left.M/\(aw (0:Int) q.left.M.length/\((q.left.M.getD 0 zE)=(q.left.M.getD 0 zE)/\((q.left.M.getD 0 zE).M=(q.left.M.getD 0 zE).M/\((q.left.M.getD 0 zE).M=(q.left.M.getD 0 zE).M/\(aw (1:Int) (q.left.M.getD 0 zE).M.length/\(((q.left.M.getD 0 zE).M.getD 1 zE)=((q.left.M.getD 0 zE).M.getD 1 zE)/\(((q.left.M.getD 0 zE).M.getD 1 zE)=((q.left.M.getD 0 zE).M.getD 1 zE)/\(q.right=q.right/\(q.right=q.right/\(q.left=q.left/\(q.left.M=q.left.M/\(q.left.M=q.left.M/\(aw (0:Int) q.left.M.length/\((q.left.M.getD 0 zE)=(q.left.M.getD 0 zE)/\((q.left.M.getD 0 zE).M=(q.left.M.getD 0 zE).M/\((q.left.M.getD 0 zE).M=(q.left.M.getD 0 zE).M/\(aw (1:Int) (q.left.M.getD 0 zE).M.length/\(((q.left.M.getD 0 zE).M.getD 1 zE)=((q.left.M.getD 0 zE).M.getD 1 zE)/\(((q.left.M.getD 0 zE).M.getD 1 zE)=((q.left.M.getD 0 zE).M.getD 1 zE)/\(q.right=q.right/\(q.right=q.right/\(q.right=q.right/\(q.right=q.right/\((ag ((q.left.M.getD 0 zE).M.getD 0 zE))=(IL q)/\((ag ((q.left.M.getD 0 zE).M.getD 1 zE))=(mR q)/\((ag q.right)=(vB q)/\true=(qF q))))))))))))))))))))))))))))))))))))))))))))))))
abbrev zZ(q:aj):Prop:=(q.left.M.length<=140737488355328 ->
 (((!(bw (q.left.M.getD 1 zE) q.right))=true ->
 (sJ q))/\((!(bw (q.left.M.getD 1 zE) q.right))=false ->
 (sK q))))
theorem Pd(q:aj):ck (aL [cX] [] [] [1]) (au jX) (Em q) 0 (bg (aL [cX] [] [] [1]) jX λ r=>bp r [⟨(.st .expr),IL q⟩,⟨(.st .expr),mR q⟩,⟨(.st .expr),vB q⟩,⟨.bool,qF q⟩]) (aD jX [.val ⟨(.st .equation),q⟩]) =
 ((((!(decide (q.left.ak=(6:Int))))=false ->
 (aw (0:Int) q.left.M.length/\(((!(decide ((q.left.M.getD 0 zE).ak=(6:Int))))=false ->
 (aw (1:Int) q.left.M.length/\(O q.left.ak ->
 (q.left.M.length<=140737488355328 ->
 (O (q.left.M.getD 0 zE).ak ->
 (zZ q))))))/\((!(decide ((q.left.M.getD 0 zE).ak=(6:Int))))=(!false) ->
 (O q.left.ak ->
 (q.left.M.length<=140737488355328 ->
 (O (q.left.M.getD 0 zE).ak ->
 ((true=true ->
 (sJ q))/\(true=false ->
 (sK q))))))))))/\((!(decide (q.left.ak=(6:Int))))=(!false) ->
 ((true=false ->
 (aw (1:Int) q.left.M.length/\(O q.left.ak ->
 (zZ q))))/\(true=(!false) ->
 (O q.left.ak ->
 ((true=true ->
 (sJ q))/\(true=false ->
 (sK q))))))))):=by kernel_rfl
theorem OF(hE:aG [cX]):aJ.Good nI:=by
 refine⟨aA BB rfl (by decide),?_⟩
 show ∀ (q:aj),(aZ 62 62 q.left=true)->bh prog vY [.val ⟨(.st .equation),q⟩] (·=[⟨(.st .expr),IL q⟩,⟨(.st .expr),mR q⟩,⟨(.st .expr),vB q⟩,⟨.bool,qF q⟩])
 intro q hp
 refine aM (wr:=[]) (cl:=[]) (ro:=[1]) hE BB JI (Em q) ?_
 rewrite [Pd q]
 refine⟨λ _=>⟨?_,λ _=>⟨?_,λ _ _ _ _=>⟨λ _=>⟨?_,?_,?_,?_⟩,λ _ _=>⟨?_,λ _=>⟨?_,λ _=>⟨?_,λ _=>⟨?_,rfl,rfl,rfl,?_,rfl,rfl,rfl,?_,rfl,rfl,rfl,rfl,rfl,?_,rfl,rfl,rfl,?_,rfl,rfl,rfl,rfl,rfl,rfl,rfl,?_,rfl,rfl,rfl,?_,rfl,rfl,rfl,rfl,rfl,rfl,?_,?_,?_,?_⟩⟩⟩⟩⟩⟩,λ _ _ _ _=>⟨λ _=>⟨?_,?_,?_,?_⟩,λ _ _=>⟨?_,λ _=>⟨?_,λ _=>⟨?_,λ _=>⟨?_,rfl,rfl,rfl,?_,rfl,rfl,rfl,?_,rfl,rfl,rfl,rfl,rfl,?_,rfl,rfl,rfl,?_,rfl,rfl,rfl,rfl,rfl,rfl,rfl,?_,rfl,rfl,rfl,?_,rfl,rfl,rfl,rfl,rfl,rfl,?_,?_,?_,?_⟩⟩⟩⟩⟩⟩,λ _=>⟨λ _=>⟨?_,λ _ _=>⟨λ _=>⟨?_,?_,?_,?_⟩,λ _ _=>⟨?_,λ _=>⟨?_,λ _=>⟨?_,λ _=>⟨?_,rfl,rfl,rfl,?_,rfl,rfl,rfl,?_,rfl,rfl,rfl,rfl,rfl,?_,rfl,rfl,rfl,?_,rfl,rfl,rfl,rfl,rfl,rfl,rfl,?_,rfl,rfl,rfl,?_,rfl,rfl,rfl,rfl,rfl,rfl,?_,?_,?_,?_⟩⟩⟩⟩⟩⟩,λ _ _=>⟨λ _=>⟨?_,?_,?_,?_⟩,λ _ _=>⟨?_,λ _=>⟨?_,λ _=>⟨?_,λ _=>⟨?_,rfl,rfl,rfl,?_,rfl,rfl,rfl,?_,rfl,rfl,rfl,rfl,rfl,?_,rfl,rfl,rfl,?_,rfl,rfl,rfl,rfl,rfl,rfl,rfl,?_,rfl,rfl,rfl,?_,rfl,rfl,rfl,rfl,rfl,rfl,?_,?_,?_,?_⟩⟩⟩⟩⟩⟩⟩
 all_goals try and_intros
 all_goals try (first|with_reducible rfl|with_reducible assumption)
 all_goals try simp only[J.eta,ae.eta,aj.eta,aP,bM,cn] at *
 all_goals first|with_reducible rfl|with_reducible assumption|exact True.intro|(simp only[a8B,a8w,a8x,a8v] at *;done)|((try simp only[a8T,J.eta,a8p,a8q,a8x,a8v,a8J,a8X,aw,O,br,a8K,a8C,a8N,a8R,a8U] at *);first|exact True.intro|omega|(have h:=TQ hp (by with_reducible assumption);have h2:=h.1;first|omega|(have h3:=(h.2.2 (by with_reducible assumption)).1;omega))|exact (oD (Ha (by with_reducible assumption))).1|exact ((oD (Ha (by with_reducible assumption))).1).symm|exact (oD (Ha (by with_reducible assumption))).2.1|exact ((oD (Ha (by with_reducible assumption))).2.1).symm|exact (oD (Ha (by with_reducible assumption))).2.2|exact ((oD (Ha (by with_reducible assumption))).2.2).symm|exact (id (Ha (by with_reducible assumption)))|exact ((id (Ha (by with_reducible assumption)))).symm|exact (oD (Hb (by with_reducible assumption))).1|exact ((oD (Hb (by with_reducible assumption))).1).symm|exact (oD (Hb (by with_reducible assumption))).2.1|exact ((oD (Hb (by with_reducible assumption))).2.1).symm|exact (oD (Hb (by with_reducible assumption))).2.2|exact ((oD (Hb (by with_reducible assumption))).2.2).symm|exact (id (Hb (by with_reducible assumption)))|exact ((id (Hb (by with_reducible assumption)))).symm|exact (oD (Hc (by with_reducible assumption))).1|exact ((oD (Hc (by with_reducible assumption))).1).symm|exact (oD (Hc (by with_reducible assumption))).2.1|exact ((oD (Hc (by with_reducible assumption))).2.1).symm|exact (oD (Hc (by with_reducible assumption))).2.2|exact ((oD (Hc (by with_reducible assumption))).2.2).symm|exact (id (Hc (by with_reducible assumption)))|exact ((id (Hc (by with_reducible assumption)))).symm|exact (uP (Hd (by with_reducible assumption) (by with_reducible assumption) (by with_reducible assumption))).1|exact ((uP (Hd (by with_reducible assumption) (by with_reducible assumption) (by with_reducible assumption))).1).symm|exact (uP (Hd (by with_reducible assumption) (by with_reducible assumption) (by with_reducible assumption))).2.1|exact ((uP (Hd (by with_reducible assumption) (by with_reducible assumption) (by with_reducible assumption))).2.1).symm|exact (uP (Hd (by with_reducible assumption) (by with_reducible assumption) (by with_reducible assumption))).2.2|exact ((uP (Hd (by with_reducible assumption) (by with_reducible assumption) (by with_reducible assumption))).2.2).symm|exact (id (Hd (by with_reducible assumption) (by with_reducible assumption) (by with_reducible assumption)))|exact ((id (Hd (by with_reducible assumption) (by with_reducible assumption) (by with_reducible assumption)))).symm)
theorem Kf:aJ.Good nI:=OF ⟨lp,trivial⟩
structure NS(p:av)(k:Int)(e:J)(s:ai):Prop where
 v:yW p
 k0:0<=k
 k1:k<=(p.U.length:Int)
 e:cg p.sig e=true
 s:mQ p.sig s=true
theorem NS.u{p:av}{k:Int}{e:J}{s:ai}(h:NS p k e s):(-40<=s.use/\s.use<=23)/\s.path.length<=40/\s.aq.length<=3/\s.bm.length<=4/\bq (cg p.sig) s.aq=true/\bq (cg p.sig) s.bm=true:=by
 have:=h.s
 simp only[mQ,a8r,a8p] at this
 have h1:=this.1.1.1.1.1.1.2
 have h2:=this.1.1.1.1.2
 have h3:=this.1.1.1.2
 exact⟨this.1.1.1.1.1.1.1,by omega,by omega,by omega,this.1.1.2,this.2⟩
theorem NS.fl{p:av}{k:Int}{e:J}{s:ai}(h:NS p k e s):Lk s.aq s.bm :=
 ⟨λ y hy=>Dx p.sig y (xj _ _ h.u.2.2.2.2.1 y hy),λ y hy=>Dx p.sig y (xj _ _ h.u.2.2.2.2.2 y hy)⟩
theorem F3{q:aj}{s:ai}(h1:(bL [q.left,q.right]).1=(s.aq.length:Int))(h2:(bL [q.left,q.right]).2=(s.bm.length:Int)):iv s.aq s.bm q.left/\iv s.aq s.bm q.right:=by
 simp only[bL] at h1 h2
 exact⟨⟨by omega,by omega⟩,⟨by omega,by omega⟩⟩
theorem W5{p:av}{k:Int}{e:J}{s:ai}{c:Int}(h:fY p k e s=c)(hc:c≠0):iu p k e s=J.mk (0:Int) (0:Int) []/\fY p k e s=c:=⟨by unfold iu;rw[if_neg (by rw[h];exact hc)],h⟩
theorem wy{p:av}{k:Int}{e:J}{s:ai}(h:qo k s.use=false\/eH e s.path=false):iu p k e s=J.mk (0:Int) (0:Int) []/\fY p k e s=2:=by
 refine W5 ?_ (by decide)
 unfold fY
 rcases h with h|h<;>rw[h]<;>simp
theorem wz{p:av}{k:Int}{e:J}{s:ai}(h:VP (bZ p k s.use) s=false):iu p k e s=J.mk (0:Int) (0:Int) []/\fY p k e s=2:=by
 refine W5 ?_ (by decide)
 unfold fY
 rw[h];cases qo k s.use&&eH e s.path<;>rfl
theorem FC{q:aj}{s:ai}(h:¬ (bL [q.left,q.right]).1=(s.aq.length:Int)):VP q s=false:=by unfold VP;rw[decide_eq_false h];rfl
theorem FD{q:aj}{s:ai}(h:¬ (bL [q.left,q.right]).2=(s.bm.length:Int)):VP q s=false:=by unfold VP;rw[decide_eq_false h,Bool.and_false]
structure yV(p:av)(k:Int)(e:J)(s:ai):Prop where
 u:qo k s.use=true
 n:eH e s.path=true
 t:(bL [(bZ p k s.use).left,(bZ p k s.use).right]).1=(s.aq.length:Int)
 a:(bL [(bZ p k s.use).left,(bZ p k s.use).right]).2=(s.bm.length:Int)
theorem yV.c{p:av}{k:Int}{e:J}{s:ai}(h:yV p k e s):fY p k e s=bif !RL p.sig (bZ p k s.use) s then 3 else bif !bw (dd e s.path) (W4 (bZ p k s.use) s) then 6 else qn p.sig e s.path (RM (bZ p k s.use) s):=by
 unfold fY
 rw[h.u,h.n,show VP (bZ p k s.use) s=true by unfold VP;rw[decide_eq_true h.t,decide_eq_true h.a];rfl];rfl
theorem Hz{gg:aO}{x:J}{ts as_:List J}(h:nC gg x ts as_=0):cg gg (c9 ts as_ x)=true/\jR gg x ts as_=c9 ts as_ x:=by
 cases hb:cg gg (c9 ts as_ x) with
 | true=>exact⟨rfl,(A2 hb).1⟩
 | false=>rw[(Dv hb).2] at h;cases h
theorem a2K{gg:aO}{x:J}{ts as_:List J}(h:¬ nC gg x ts as_=0):cg gg (c9 ts as_ x)=false:=by
 cases hb:cg gg (c9 ts as_ x) with
 | true=>exact absurd (A2 hb).2 h
 | false=>rfl
theorem yV.c3{p:av}{k:Int}{e:J}{s:ai}(h:yV p k e s)(h2:¬ nC p.sig (bZ p k s.use).left s.aq s.bm=0\/¬ nC p.sig (bZ p k s.use).right s.aq s.bm=0):iu p k e s=J.mk (0:Int) (0:Int) []/\fY p k e s=3:=by
 refine W5 ?_ (by decide)
 rw[h.c]
 unfold RL
 rcases h2 with h2|h2<;>rw[a2K h2]<;>simp
theorem yV.i{p:av}{k:Int}{e:J}{s:ai}(h1:nC p.sig (bZ p k s.use).left s.aq s.bm=0)(h2:nC p.sig (bZ p k s.use).right s.aq s.bm=0):RL p.sig (bZ p k s.use) s=true:=by
 unfold RL
 rw[(Hz h1).1,(Hz h2).1];rfl
structure Br(p:av)(k:Int)(e:J)(s:ai)(x y:J):Prop where
 r:yV p k e s
 i:RL p.sig (bZ p k s.use) s=true
 x:x=W4 (bZ p k s.use) s
 y:y=RM (bZ p k s.use) s
theorem yV.s1{p:av}{k:Int}{e:J}{s:ai}(h:yV p k e s)(h1:nC p.sig (bZ p k s.use).left s.aq s.bm=0)(h2:nC p.sig (bZ p k s.use).right s.aq s.bm=0)(hb:s.back=true):Br p k e s (jR p.sig (bZ p k s.use).right s.aq s.bm) (jR p.sig (bZ p k s.use).left s.aq s.bm) :=
 ⟨h,yV.i (e:=e) h1 h2,by rw[(Hz h2).2];unfold W4;rw[hb];rfl,by rw[(Hz h1).2];unfold RM;rw[hb];rfl⟩
theorem yV.s0{p:av}{k:Int}{e:J}{s:ai}(h:yV p k e s)(h1:nC p.sig (bZ p k s.use).left s.aq s.bm=0)(h2:nC p.sig (bZ p k s.use).right s.aq s.bm=0)(hb:s.back=false):Br p k e s (jR p.sig (bZ p k s.use).left s.aq s.bm) (jR p.sig (bZ p k s.use).right s.aq s.bm) :=
 ⟨h,yV.i (e:=e) h1 h2,by rw[(Hz h1).2];unfold W4;rw[hb];rfl,by rw[(Hz h2).2];unfold RM;rw[hb];rfl⟩
theorem Br.c6{p:av}{k:Int}{e:J}{s:ai}{x y:J}(h:Br p k e s x y)(h2:bw (zf e s.path) x=false):iu p k e s=J.mk (0:Int) (0:Int) []/\fY p k e s=6:=by
 refine W5 ?_ (by decide)
 have e1:zf e s.path=dd e s.path:=by unfold zf;rw[h.r.n];rfl
 rw[h.r.c,h.i,<-h.x,<-e1,h2];rfl
theorem Br.go{p:av}{k:Int}{e:J}{s:ai}{x y:J}(h:Br p k e s x y)(h2:bw (zf e s.path) x=true):iu p k e s=wv p.sig e s.path y/\fY p k e s=qn p.sig e s.path y:=by
 have e1:zf e s.path=dd e s.path:=by unfold zf;rw[h.r.n];rfl
 have c:fY p k e s=qn p.sig e s.path y:=by rw[h.r.c,h.i,<-h.x,<-e1,h2,h.y];rfl
 refine⟨?_,c⟩
 unfold iu
 rw[c,<-h.y]
 unfold wv qn
 cases eH e s.path<;>cases qm e s.path<;>cases bj y<;>cases cg p.sig (gv y e s.path)<;>rfl
theorem Br.c4{p:av}{k:Int}{e:J}{s:ai}{x y:J}(h:Br p k e s x y)(h2:bw (zf e s.path) x=true)(h3:xe e s.path=true)(h4:bj y=false):iu p k e s=J.mk (0:Int) (0:Int) []/\fY p k e s=4:=by
 have g:=h.go h2
 have g2:=O8 (gg:=p.sig) (y:=y) h.r.n h3 h4
 rw[g.1,g.2];exact g2
theorem Br.sz{p:av}{k:Int}{e:J}{s:ai}{x y:J}(h:Br p k e s x y):ar y<=1048576:=by
 have:=h.i
 rw[RL,a8r] at this
 refine Dx p.sig y ?_
 rw[h.y];unfold RM
 cases s.back
 .exact this.2
 .exact this.1
theorem Ig:aJ.Good ig:=GO.plain
def gI:aJ:=⟨s6,[.v (.st .proof), .v (.int .i64), .v (.st .expr), .v (.st .proofStep)],λ (p:av) (k:Int) (e:J) (s:ai)=>⟨(some (NS p k e s),[⟨(.st .expr),iu p k e s⟩,⟨(.int .i64),fY p k e s⟩])⟩⟩
def yi(p:av)(k:Int)(e:J)(s:ai):Nat->aH:=λ _ => .none
abbrev vh(p:av)(k:Int)(e:J)(s:ai):Prop:=(s.path.length<=140737488355328 ->
 ((ar e<=1048576/\ar (ag (jR p.sig (ag (bZ p k s.use).left) s.aq s.bm))<=1048576/\s.path.length<=1000)/\(O (qn p.sig e s.path (ag (jR p.sig (ag (bZ p k s.use).left) s.aq s.bm))) ->
 ((ag (wv p.sig e s.path (ag (jR p.sig (ag (bZ p k s.use).left) s.aq s.bm))))=(iu p k e s)/\(qn p.sig e s.path (ag (jR p.sig (ag (bZ p k s.use).left) s.aq s.bm)))=(fY p k e s)))))
abbrev vi(p:av)(k:Int)(e:J)(s:ai):Prop:=(s.path.length<=140737488355328 ->
 ((ar e<=1048576/\ar (ag (jR p.sig (ag (bZ p k s.use).right) s.aq s.bm))<=1048576/\s.path.length<=1000)/\(O (qn p.sig e s.path (ag (jR p.sig (ag (bZ p k s.use).right) s.aq s.bm))) ->
 ((ag (wv p.sig e s.path (ag (jR p.sig (ag (bZ p k s.use).right) s.aq s.bm))))=(iu p k e s)/\(qn p.sig e s.path (ag (jR p.sig (ag (bZ p k s.use).right) s.aq s.bm)))=(fY p k e s)))))
abbrev vj(p:av)(k:Int)(e:J)(s:ai):Prop:=((s.back=true ->
 (((!(bw (ag (zf e s.path)) (ag (jR p.sig (ag (bZ p k s.use).right) s.aq s.bm))))=true ->
 (zE=(iu p k e s)/\(6:Int)=(fY p k e s)))/\((!(bw (ag (zf e s.path)) (ag (jR p.sig (ag (bZ p k s.use).right) s.aq s.bm))))=false ->
 (((xe e s.path)=true ->
 (((!(bj (ag (jR p.sig (ag (bZ p k s.use).left) s.aq s.bm))))=true ->
 (zE=(iu p k e s)/\(4:Int)=(fY p k e s)))/\((!(bj (ag (jR p.sig (ag (bZ p k s.use).left) s.aq s.bm))))=false ->
 (vh p k e s))))/\((xe e s.path)=(!true) ->
 ((false=true ->
 (zE=(iu p k e s)/\(4:Int)=(fY p k e s)))/\(false=false ->
 (vh p k e s))))))))/\(s.back=false ->
 (((!(bw (ag (zf e s.path)) (ag (jR p.sig (ag (bZ p k s.use).left) s.aq s.bm))))=true ->
 (zE=(iu p k e s)/\(6:Int)=(fY p k e s)))/\((!(bw (ag (zf e s.path)) (ag (jR p.sig (ag (bZ p k s.use).left) s.aq s.bm))))=false ->
 (((xe e s.path)=true ->
 (((!(bj (ag (jR p.sig (ag (bZ p k s.use).right) s.aq s.bm))))=true ->
 (zE=(iu p k e s)/\(4:Int)=(fY p k e s)))/\((!(bj (ag (jR p.sig (ag (bZ p k s.use).right) s.aq s.bm))))=false ->
 (vi p k e s))))/\((xe e s.path)=(!true) ->
 ((false=true ->
 (zE=(iu p k e s)/\(4:Int)=(fY p k e s)))/\(false=false ->
 (vi p k e s)))))))))
abbrev vk(p:av)(k:Int)(e:J)(s:ai):Prop:=(s.aq.length<=140737488355328 ->
 (s.bm.length<=140737488355328 ->
 ((iv s.aq s.bm (ag (bZ p k s.use).left)/\aZ 62 62 (ag (bZ p k s.use).left)=true/\Lk s.aq s.bm/\s.aq.length<=1000/\s.bm.length<=1000)/\(O (nC p.sig (ag (bZ p k s.use).left) s.aq s.bm) ->
 (s.aq.length<=140737488355328 ->
 (s.bm.length<=140737488355328 ->
 ((iv s.aq s.bm (ag (bZ p k s.use).right)/\aZ 62 62 (ag (bZ p k s.use).right)=true/\Lk s.aq s.bm/\s.aq.length<=1000/\s.bm.length<=1000)/\(O (nC p.sig (ag (bZ p k s.use).right) s.aq s.bm) ->
 (((!(decide ((nC p.sig (ag (bZ p k s.use).left) s.aq s.bm)=(0:Int))))=false ->
 (((!(decide ((nC p.sig (ag (bZ p k s.use).right) s.aq s.bm)=(0:Int))))=true ->
 (zE=(iu p k e s)/\(3:Int)=(fY p k e s)))/\((!(decide ((nC p.sig (ag (bZ p k s.use).right) s.aq s.bm)=(0:Int))))=false ->
 (vj p k e s))))/\((!(decide ((nC p.sig (ag (bZ p k s.use).left) s.aq s.bm)=(0:Int))))=(!false) ->
 ((true=true ->
 (zE=(iu p k e s)/\(3:Int)=(fY p k e s)))/\(true=false ->
 (vj p k e s)))))))))))))
abbrev vl(p:av)(k:Int)(e:J)(s:ai):Prop:=((aZ 62 62 (bU (bZ p k s.use)).left=true/\aZ 62 62 (bU (bZ p k s.use)).right=true)/\(O ((bL [(bU (bZ p k s.use)).left,(bU (bZ p k s.use)).right]).1) ->
 (O ((bL [(bU (bZ p k s.use)).left,(bU (bZ p k s.use)).right]).2) ->
 (s.aq.length<=140737488355328 ->
 (O ((s.aq.length:Int)) ->
 (((!(decide (((bL [(bU (bZ p k s.use)).left,(bU (bZ p k s.use)).right]).1)=((s.aq.length:Int)))))=false ->
 (s.bm.length<=140737488355328 ->
 (O ((s.bm.length:Int)) ->
 (((!(decide (((bL [(bU (bZ p k s.use)).left,(bU (bZ p k s.use)).right]).2)=((s.bm.length:Int)))))=true ->
 (zE=(iu p k e s)/\(2:Int)=(fY p k e s)))/\((!(decide (((bL [(bU (bZ p k s.use)).left,(bU (bZ p k s.use)).right]).2)=((s.bm.length:Int)))))=false ->
 (vk p k e s))))))/\((!(decide (((bL [(bU (bZ p k s.use)).left,(bU (bZ p k s.use)).right]).1)=((s.aq.length:Int)))))=(!false) ->
 ((true=true ->
 (zE=(iu p k e s)/\(2:Int)=(fY p k e s)))/\(true=false ->
 (vk p k e s))))))))))
theorem IT(p:av)(k:Int)(e:J)(s:ai):ck (cY [pb,gO,o6,ig,cX,cx] [jG] [] [115] [] [] [4,6,7]) (au hU) (yi p k e s) 0 (fI (cY [pb,gO,o6,ig,cX,cx] [jG] [] [115] [] [] [4,6,7]) hU λ r=>bp r [⟨(.st .expr),iu p k e s⟩,⟨(.int .i64),fY p k e s⟩]) (jN hU [.val ⟨(.st .proof),p⟩, .val ⟨(.int .i64),k⟩, .val ⟨(.st .expr),e⟩, .val ⟨(.st .proofStep),s⟩]) =
 ((O s.use ->
 ((s.use<=23 /\ -40<=s.use/\0<=k/\k<=(p.U.length:Int))/\(s.path.length<=140737488355328 ->
 (((!(qo k s.use))=false ->
 (((!(eH e s.path))=true ->
 (zE=(iu p k e s)/\(2:Int)=(fY p k e s)))/\((!(eH e s.path))=false ->
 (vl p k e s))))/\((!(qo k s.use))=(!false) ->
 ((true=true ->
 (zE=(iu p k e s)/\(2:Int)=(fY p k e s)))/\(true=false ->
 (vl p k e s))))))))):=by kernel_rfl
theorem IH(hE:aG [pb,gO,o6,ig,cX,cx])(hO:fW [jG])(hM:gZ [])(hS:fX []):aJ.eA gI:=by
 refine⟨aA xx rfl (by decide),?_⟩
 show ∀ (p:av) (k:Int) (e:J) (s:ai),(NS p k e s)->iI prog s6 [.val ⟨(.st .proof),p⟩, .val ⟨(.int .i64),k⟩, .val ⟨(.st .expr),e⟩, .val ⟨(.st .proofStep),s⟩] [⟨(.st .expr),iu p k e s⟩,⟨(.int .i64),fY p k e s⟩]
 intro p k e s hp
 refine ec (own:=[115]) (wr:=[]) (cl:=[]) (ro:=[4,6,7]) hE hO hM hS xx FJ (yi p k e s) ?_
 rewrite [IT p k e s]
 refine λ _=>⟨?_,λ _=>⟨λ _=>⟨λ _=>⟨?_,?_⟩,λ _=>⟨?_,λ _ _ _ _=>⟨λ _ _ _=>⟨λ _=>⟨?_,?_⟩,λ _ _ _=>⟨?_,λ _ _ _=>⟨?_,λ _=>⟨λ _=>⟨λ _=>⟨?_,?_⟩,λ _=>⟨λ _=>⟨λ _=>⟨?_,?_⟩,λ _=>⟨λ _=>⟨λ _=>⟨?_,?_⟩,λ _ _=>⟨?_,λ _=>⟨?_,?_⟩⟩⟩,λ _=>⟨λ _=>⟨?_,?_⟩,λ _ _=>⟨?_,λ _=>⟨?_,?_⟩⟩⟩⟩⟩,λ _=>⟨λ _=>⟨?_,?_⟩,λ _=>⟨λ _=>⟨λ _=>⟨?_,?_⟩,λ _ _=>⟨?_,λ _=>⟨?_,?_⟩⟩⟩,λ _=>⟨λ _=>⟨?_,?_⟩,λ _ _=>⟨?_,λ _=>⟨?_,?_⟩⟩⟩⟩⟩⟩⟩,λ _=>⟨λ _=>⟨?_,?_⟩,λ _=>⟨λ _=>⟨λ _=>⟨?_,?_⟩,λ _=>⟨λ _=>⟨λ _=>⟨?_,?_⟩,λ _ _=>⟨?_,λ _=>⟨?_,?_⟩⟩⟩,λ _=>⟨λ _=>⟨?_,?_⟩,λ _ _=>⟨?_,λ _=>⟨?_,?_⟩⟩⟩⟩⟩,λ _=>⟨λ _=>⟨?_,?_⟩,λ _=>⟨λ _=>⟨λ _=>⟨?_,?_⟩,λ _ _=>⟨?_,λ _=>⟨?_,?_⟩⟩⟩,λ _=>⟨λ _=>⟨?_,?_⟩,λ _ _=>⟨?_,λ _=>⟨?_,?_⟩⟩⟩⟩⟩⟩⟩⟩⟩⟩⟩,λ _=>⟨λ _=>⟨?_,?_⟩,λ _ _ _=>⟨?_,λ _ _ _=>⟨?_,λ _=>⟨λ _=>⟨λ _=>⟨?_,?_⟩,λ _=>⟨λ _=>⟨λ _=>⟨?_,?_⟩,λ _=>⟨λ _=>⟨λ _=>⟨?_,?_⟩,λ _ _=>⟨?_,λ _=>⟨?_,?_⟩⟩⟩,λ _=>⟨λ _=>⟨?_,?_⟩,λ _ _=>⟨?_,λ _=>⟨?_,?_⟩⟩⟩⟩⟩,λ _=>⟨λ _=>⟨?_,?_⟩,λ _=>⟨λ _=>⟨λ _=>⟨?_,?_⟩,λ _ _=>⟨?_,λ _=>⟨?_,?_⟩⟩⟩,λ _=>⟨λ _=>⟨?_,?_⟩,λ _ _=>⟨?_,λ _=>⟨?_,?_⟩⟩⟩⟩⟩⟩⟩,λ _=>⟨λ _=>⟨?_,?_⟩,λ _=>⟨λ _=>⟨λ _=>⟨?_,?_⟩,λ _=>⟨λ _=>⟨λ _=>⟨?_,?_⟩,λ _ _=>⟨?_,λ _=>⟨?_,?_⟩⟩⟩,λ _=>⟨λ _=>⟨?_,?_⟩,λ _ _=>⟨?_,λ _=>⟨?_,?_⟩⟩⟩⟩⟩,λ _=>⟨λ _=>⟨?_,?_⟩,λ _=>⟨λ _=>⟨λ _=>⟨?_,?_⟩,λ _ _=>⟨?_,λ _=>⟨?_,?_⟩⟩⟩,λ _=>⟨λ _=>⟨?_,?_⟩,λ _ _=>⟨?_,λ _=>⟨?_,?_⟩⟩⟩⟩⟩⟩⟩⟩⟩⟩⟩⟩⟩⟩,λ _=>⟨λ _=>⟨?_,?_⟩,λ _=>⟨?_,λ _ _ _ _=>⟨λ _ _ _=>⟨λ _=>⟨?_,?_⟩,λ _ _ _=>⟨?_,λ _ _ _=>⟨?_,λ _=>⟨λ _=>⟨λ _=>⟨?_,?_⟩,λ _=>⟨λ _=>⟨λ _=>⟨?_,?_⟩,λ _=>⟨λ _=>⟨λ _=>⟨?_,?_⟩,λ _ _=>⟨?_,λ _=>⟨?_,?_⟩⟩⟩,λ _=>⟨λ _=>⟨?_,?_⟩,λ _ _=>⟨?_,λ _=>⟨?_,?_⟩⟩⟩⟩⟩,λ _=>⟨λ _=>⟨?_,?_⟩,λ _=>⟨λ _=>⟨λ _=>⟨?_,?_⟩,λ _ _=>⟨?_,λ _=>⟨?_,?_⟩⟩⟩,λ _=>⟨λ _=>⟨?_,?_⟩,λ _ _=>⟨?_,λ _=>⟨?_,?_⟩⟩⟩⟩⟩⟩⟩,λ _=>⟨λ _=>⟨?_,?_⟩,λ _=>⟨λ _=>⟨λ _=>⟨?_,?_⟩,λ _=>⟨λ _=>⟨λ _=>⟨?_,?_⟩,λ _ _=>⟨?_,λ _=>⟨?_,?_⟩⟩⟩,λ _=>⟨λ _=>⟨?_,?_⟩,λ _ _=>⟨?_,λ _=>⟨?_,?_⟩⟩⟩⟩⟩,λ _=>⟨λ _=>⟨?_,?_⟩,λ _=>⟨λ _=>⟨λ _=>⟨?_,?_⟩,λ _ _=>⟨?_,λ _=>⟨?_,?_⟩⟩⟩,λ _=>⟨λ _=>⟨?_,?_⟩,λ _ _=>⟨?_,λ _=>⟨?_,?_⟩⟩⟩⟩⟩⟩⟩⟩⟩⟩⟩,λ _=>⟨λ _=>⟨?_,?_⟩,λ _ _ _=>⟨?_,λ _ _ _=>⟨?_,λ _=>⟨λ _=>⟨λ _=>⟨?_,?_⟩,λ _=>⟨λ _=>⟨λ _=>⟨?_,?_⟩,λ _=>⟨λ _=>⟨λ _=>⟨?_,?_⟩,λ _ _=>⟨?_,λ _=>⟨?_,?_⟩⟩⟩,λ _=>⟨λ _=>⟨?_,?_⟩,λ _ _=>⟨?_,λ _=>⟨?_,?_⟩⟩⟩⟩⟩,λ _=>⟨λ _=>⟨?_,?_⟩,λ _=>⟨λ _=>⟨λ _=>⟨?_,?_⟩,λ _ _=>⟨?_,λ _=>⟨?_,?_⟩⟩⟩,λ _=>⟨λ _=>⟨?_,?_⟩,λ _ _=>⟨?_,λ _=>⟨?_,?_⟩⟩⟩⟩⟩⟩⟩,λ _=>⟨λ _=>⟨?_,?_⟩,λ _=>⟨λ _=>⟨λ _=>⟨?_,?_⟩,λ _=>⟨λ _=>⟨λ _=>⟨?_,?_⟩,λ _ _=>⟨?_,λ _=>⟨?_,?_⟩⟩⟩,λ _=>⟨λ _=>⟨?_,?_⟩,λ _ _=>⟨?_,λ _=>⟨?_,?_⟩⟩⟩⟩⟩,λ _=>⟨λ _=>⟨?_,?_⟩,λ _=>⟨λ _=>⟨λ _=>⟨?_,?_⟩,λ _ _=>⟨?_,λ _=>⟨?_,?_⟩⟩⟩,λ _=>⟨λ _=>⟨?_,?_⟩,λ _ _=>⟨?_,λ _=>⟨?_,?_⟩⟩⟩⟩⟩⟩⟩⟩⟩⟩⟩⟩⟩⟩⟩⟩
 all_goals try and_intros
 all_goals try (first|with_reducible rfl|with_reducible assumption)
 all_goals try simp only[J.eta,ae.eta,aj.eta,aP,bM,cn] at *
 all_goals first|with_reducible rfl|with_reducible assumption|exact True.intro|(simp only[a8B,a8w,a8x,a8v] at *;done)|((try simp only[a8T,J.eta,a8p,a8q,a8x,a8v,a8J,a8X,aw,O,br,a8K,a8C,a8N,a8R,a8U] at *);first|exact True.intro|omega|exact hp.u.1.1|exact hp.u.1.2|exact hp.k0|exact hp.k1|exact hp.fl|(have:=hp.u;omega)|exact Dx _ _ hp.e|exact (Hl hp.v hp.k1 hp.u.1.2 (by with_reducible assumption)).1|exact (Hl hp.v hp.k1 hp.u.1.2 (by with_reducible assumption)).2|exact (wy (p:=p) (e:=e) (.inl (by with_reducible assumption))).1|exact (wy (p:=p) (e:=e) (.inl (by with_reducible assumption))).2|exact (wy (p:=p) (e:=e) (.inl (by with_reducible assumption))).1.symm|exact (wy (p:=p) (e:=e) (.inl (by with_reducible assumption))).2.symm|exact (wy (p:=p) (k:=k) (.inr (by with_reducible assumption))).1|exact (wy (p:=p) (k:=k) (.inr (by with_reducible assumption))).2|exact (wy (p:=p) (k:=k) (.inr (by with_reducible assumption))).1.symm|exact (wy (p:=p) (k:=k) (.inr (by with_reducible assumption))).2.symm|exact (wz (e:=e) (FC (by omega))).1|exact (wz (e:=e) (FC (by omega))).2|exact (wz (e:=e) (FC (by omega))).1.symm|exact (wz (e:=e) (FC (by omega))).2.symm|exact (wz (e:=e) (FD (by omega))).1|exact (wz (e:=e) (FD (by omega))).2|exact (wz (e:=e) (FD (by omega))).1.symm|exact (wz (e:=e) (FD (by omega))).2.symm|(have A:yV p k e s:=⟨(by with_reducible assumption),(by with_reducible assumption),by omega,by omega⟩;first|exact (F3 A.t A.a).1|exact (F3 A.t A.a).2|exact (A.c3 (.inl (by with_reducible assumption))).1|exact (A.c3 (.inl (by with_reducible assumption))).2|exact (A.c3 (.inl (by with_reducible assumption))).1.symm|exact (A.c3 (.inl (by with_reducible assumption))).2.symm|exact (A.c3 (.inr (by with_reducible assumption))).1|exact (A.c3 (.inr (by with_reducible assumption))).2|exact (A.c3 (.inr (by with_reducible assumption))).1.symm|exact (A.c3 (.inr (by with_reducible assumption))).2.symm|(have B:=A.s1 (by with_reducible assumption) (by with_reducible assumption) (by with_reducible assumption);first|exact B.sz|exact (B.c6 (by with_reducible assumption)).1|exact (B.c6 (by with_reducible assumption)).2|exact (B.c6 (by with_reducible assumption)).1.symm|exact (B.c6 (by with_reducible assumption)).2.symm|exact (B.c4 (by with_reducible assumption) (by with_reducible assumption) (by with_reducible assumption)).1|exact (B.c4 (by with_reducible assumption) (by with_reducible assumption) (by with_reducible assumption)).2|exact (B.c4 (by with_reducible assumption) (by with_reducible assumption) (by with_reducible assumption)).1.symm|exact (B.c4 (by with_reducible assumption) (by with_reducible assumption) (by with_reducible assumption)).2.symm|exact (B.go (by with_reducible assumption)).1|exact (B.go (by with_reducible assumption)).2|exact (B.go (by with_reducible assumption)).1.symm|exact (B.go (by with_reducible assumption)).2.symm)|(have B:=A.s0 (by with_reducible assumption) (by with_reducible assumption) (by with_reducible assumption);first|exact B.sz|exact (B.c6 (by with_reducible assumption)).1|exact (B.c6 (by with_reducible assumption)).2|exact (B.c6 (by with_reducible assumption)).1.symm|exact (B.c6 (by with_reducible assumption)).2.symm|exact (B.c4 (by with_reducible assumption) (by with_reducible assumption) (by with_reducible assumption)).1|exact (B.c4 (by with_reducible assumption) (by with_reducible assumption) (by with_reducible assumption)).2|exact (B.c4 (by with_reducible assumption) (by with_reducible assumption) (by with_reducible assumption)).1.symm|exact (B.c4 (by with_reducible assumption) (by with_reducible assumption) (by with_reducible assumption)).2.symm|exact (B.go (by with_reducible assumption)).1|exact (B.go (by with_reducible assumption)).2|exact (B.go (by with_reducible assumption)).1.symm|exact (B.go (by with_reducible assumption)).2.symm))|exact (F3 (by omega) (by omega)).1|exact (F3 (by omega) (by omega)).2)
theorem Fe:aJ.eA gI:=IH ⟨Mg,zP,Mb,Ig,lp,iL,trivial⟩ ⟨Ff,trivial⟩ trivial trivial
end
end Go.Proofs.YtmjfpcajohhbeaaGreatDoor

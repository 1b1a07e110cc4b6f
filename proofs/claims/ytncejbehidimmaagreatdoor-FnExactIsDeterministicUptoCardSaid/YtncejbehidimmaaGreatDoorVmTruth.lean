/- VmMix, VmDraw4, VmGuard, VmCode, VmFun, VmOwnFun, VmStFun, VmTab, VmNew, VmUse, VmOpen, VmRow, VmLib, VmSz, VmTo, VmEq, VmExpr, VmExpr2, VmShaped, VmTruth. -/
import Derived.Test.YtncejbehidimmaaGreatDoorVmFrz
import Derived.Deep.LoopGhost
import Derived.Test.YtncejbehidimmaaGreatDoorChecked
import Derived.Test.YtncejbehidimmaaGreatDoorRows
import Derived.WalkKit
import Derived.ProofKit
import Derived.OpenShut
import Derived.JoinedCond
import Derived.Carry
import Derived.ChangeSame
import Derived.Shelf.Vars
set_option linter.all false
set_option maxHeartbeats 4000000
set_option maxRecDepth 100000
namespace Go.Proofs.YtncejbehidimmaaGreatDoor
def b2C:=@List.map_congr_left
def b1c:=@List.not_mem_nil
def b2r:=@or_false
def b1W:=@forall_eq_or_imp
def a9M:=@Array.getElem?_eq_none
def a8S:=@Bool.not_eq_true'
def a8y:=@decide_eq_false_iff_not
def b0l:=@List.mem_filterMap
def b1E:=@List.foldl_nil
def b1Q:=@Nat.blt_eq
def b1F:=@ne_eq
def b0e:=@true_and
def b1X:=@List.filter_cons
def a9z:=@List.mem_filter
def a9U:=@List.mem_of_mem_erase
def b2s:=@List.perm_cons_erase
def b1d:=@List.Sublist.map
def b1H:=@List.erase_sublist
def b0D:=@List.mem_erase_of_ne
def b1Y:=@List.any_eq_true
def b1Z:=@List.perm_middle
def a9r:=@Bool.not_false
def b2w:=@Bool.true_and
def b2D:=@List.filter_sublist
def b2t:=@Bool.or_eq_false_iff
def a9y:=@Bool.not_true
def b2x:=@Bool.false_or
def b2m:=@Go.wp_mono
def b0E:=@Array.mapM_eq_mapM_toList
def b2h:=@Go.Sem.run_map
def b1e:=@Bool.and_eq_true_iff
def b1z:=@List.replicate_succ
def a8X:=@Nat.not_lt_zero
def a8K:=@Nat.lt_succ_self
def a9b:=@Bool.not_eq_false'
theorem tS{α β:Type}{f g:α->β}{l:Array α}(h:∀ x∈l.toList,f x=g x):l.map f=l.map g:=by
 apply b1P;rw[b0i,b0i];exact b2C h
theorem execOp_congr{o:Oper}{ρ VE:Operand->Value}{l:List Operand}(h:Rk o.op=some l)(he:∀ x∈l,ρ x=VE x):execOp ρ o=execOp VE o:=by
 have parts:∀ ps:Array (Nat×Operand),l=ps.toList.map (·.2)->(ps.map λ (i,x)=>(i,ρ x))=ps.map λ (i,x)=>(i,VE x):=λ ps hl=>tS λ x hx=>by
  obtain⟨i,x⟩:=x;simp only;rw[he x (by rw[hl];exact a8w.2 ⟨(i,x),hx,rfl⟩)]
 unfold Rk at h;split at h;case h_21=>cases h
 case h_20 T x l hh m aW =>
  simp only[a8r] at h;subst h;have key:∀ q:Option Operand,(∀ y∈q.toList,ρ y=VE y)->q.map ρ=q.map VE:=λ q hq=>by
   cases q with
   | none=>rfl
   | some y=>rw[b0N,b0N,hq y (by simp)]
  simp only[execOp,aW,he x (by simp),key l (λ y hy=>he y (by simp at hy;simp[hy])),key hh (λ y hy=>he y (by simp at hy;simp[hy])),key m (λ y hy=>he y (by simp at hy;simp[hy]))]
 case h_18 c aW =>
  split at h;case h_3=>cases h
  case h_1 f hc =>
   simp only[a8r] at h;subst h;have ha:c.args.map ρ=c.args.map VE:=tS λ x hx=>he x (by simp[hx]);simp only[execOp,aW,resolve,hc,ha,he f (by simp)]
  case h_2 b hc =>
   simp only[a8r] at h;subst h;have ha:c.args.map ρ=c.args.map VE:=tS λ x hx=>he x hx;simp only[execOp,aW,resolve,hc,ha]
 all_goals
  rename_i aW
  simp only[a8r] at h
  first
   | (have:=parts _ h.symm;simp only[execOp,aW,this];done)
   | (subst h;simp only[execOp,aW];done)
   | (subst h;simp only[execOp,aW,b1v];done)
   | (subst h;simp only[a8G,b1c,b2r,b1W,forall_eq] at he;simp only[execOp,aW,he];done)
   | (subst h;simp only[a8G,b1c,b2r,b1W,forall_eq] at he;simp only[execOp,aW,he.1,he.2];done)
   | (subst h;simp only[a8G,b1c,b2r,b1W,forall_eq] at he;simp only[execOp,aW,he.1,he.2.1,he.2.2];done)
theorem TW{u v:TV}(h:uj u v):u=v:=by
 unfold uj at h;split at h
 .rename_i x hx;have:=TV.aS hx;rw[this,h]
 .exact h.elim
theorem JZ{v u:AV}(h:F6 v u):v=u:=by
 unfold F6 at h;split at h
 .rw[TW h]
 .rw[TW h]
 .rw[h]
 .rw[h]
 .rw[h.1,h.2]
 .rfl
 .rfl
 .exact h.elim
theorem B6{c:Ctx}{G:Gh}{lk:Nat->Option au}{a:Act}{w:World}{o:Oper}{v:AV}{x:Value}(hr:(execOp a.eval o).run c.P w = .ok (.value x) w)(hv:VR c G lk w v x) :
  ∃ x,(execOp a.eval o).run c.P w = .ok (.value x) w/\VR c G lk w v x:=⟨x,hr,hv⟩
theorem Vo{c:Ctx}{G:Gh}{sl:Nat->AV}{n:Nat}{lk:Nat->Option au}{a:Act}{w:World}(hE:bu c.P c.E)(hI:aV c G sl n lk a w){lk':Nat->Option au}(bO:∀ id o,lk' id=some o->lk id=some o){ev:Operand->AV}(cE:∀ x,VR c G lk w (ev x) (a.eval x))
  {o:Oper} {vc:Vc} {v:AV} {ob:Option au} (hq:Fv c.E lk' ev o=some (vc,v,ob)) (dO:vc.ok) (QV:reads o.op=true) :
  ∃ x,(execOp a.eval o).run c.P w = .ok (.value x) w/\VR c G lk w v x:=by
 unfold Fv at hq;split at hq;case h_1 x aW =>
  simp only[a8r,a8u] at hq;obtain⟨rfl,rfl,rfl⟩:=hq;exact B6 (by simp[execOp,aW]) (cE x)
 case h_8 T ad aW =>
  split at hq
  .rename_i τ r hT;split at hq
   .rename_i u hu;simp only[a8r,a8u] at hq;obtain⟨rfl,rfl,rfl⟩:=hq;obtain⟨b,o',cs,h1,h2,h3,h4⟩:=nC hI.aC bO hu (cE ad);refine B6 ?_ h4;simp only[execOp,aW,h1,a8N,ga hE hT h2 h3,a8J,a8O]
   .cases hq
  .cases hq
 case h_9 x aW =>
  have key:∀ u,ev x=u->(∃ b o,a.eval x = .pointer (some ⟨b,o,none⟩))->vc = .none->v=u->ob=none->∃ x,(execOp a.eval o).run c.P w = .ok (.value x) w/\VR c G lk w v x:=by
   rintro u hu ⟨b,o',hx⟩ _ rfl rfl;refine B6 (x:=a.eval x) ?_ (hu ▸ cE x);simp only[execOp,aW,hx,a8O]
  have hx:=cE x;split at hq
  .rename_i u hu;simp only[a8r,a8u] at hq;rw[hu] at hx;obtain⟨b,o',cs,h1,_⟩:=hx;exact key _ hu ⟨b,o',h1⟩ hq.1.symm hq.2.1.symm hq.2.2.symm
  .rename_i id off hu;simp only[a8r,a8u] at hq;rw[hu] at hx;obtain⟨b,_,h1,_⟩:=hx;exact key _ hu ⟨b,off,h1⟩ hq.1.symm hq.2.1.symm hq.2.2.symm
  .rename_i id i off hu;simp only[a8r,a8u] at hq;rw[hu] at hx;obtain⟨b,_,_,_,_,_,_,_,_,h1⟩:=hx;exact key _ hu ⟨b,_,h1⟩ hq.1.symm hq.2.1.symm hq.2.2.symm
  .cases hq
 case h_10 T x i aW =>
  split at hq
  .rename_i s r hT;have hx:=cE x;split at hq
   .rename_i u hu;rw[hu] at hx;split at hq
    .rename_i y hy;have e:=TV.aS hy;subst e;split at hq
     .rename_i f hf;simp only[a8r,a8u] at hq;obtain⟨rfl,rfl,rfl⟩:=hq;obtain⟨b,o',cs,h1,h2,h3,h4⟩:=hx;have bm:i<s.fI.length:=by
       have:=(a8P.1 hf).1;rw[<-aJ.uU s y,a8W];exact this
      refine B6 (x := .pointer (some ⟨b,o'+s.eu i,none⟩)) ?_ ?_
      .simp only[execOp,aW,h1,a8N,iJ hE hT bm,a8J,a8O]
      .refine⟨b,o'+s.eu i,(cs.drop (s.eu i)).take f.τ.size,rfl,h2,h3.part _ _,?_⟩;exact A6 hf h4
     .cases hq
    .cases hq
   .rename_i id off hu;rw[hu] at hx;split at hq
    .rename_i bm;simp only[Option.some.injEq,Prod.mk.injEq] at hq;obtain⟨rfl,rfl,rfl⟩:=hq;have bm:i<s.fI.length:=by simpa [Nat.blt_eq] using bm
     obtain⟨b,h1,h2,h3⟩:=hx;refine B6 (x := .pointer (some ⟨b,off+s.eu i,none⟩)) ?_ ⟨b,h1,rfl,h3⟩;simp only[execOp,aW,h2,a8N,iJ hE hT bm,a8J,a8O]
    .cases hq
   .rename_i id k off hu;rw[hu] at hx;split at hq
    .rename_i bm;simp only[Option.some.injEq,Prod.mk.injEq] at hq;obtain⟨rfl,rfl,rfl⟩:=hq;have bm:i<s.fI.length:=by simpa [Nat.blt_eq] using bm
     obtain⟨b,m,cap,e,τ,xs,h1,h2,h3,h4⟩:=hx;refine B6 (x := .pointer (some ⟨b,k * τ.size+(off+s.eu i),none⟩)) ?_ ⟨b,m,cap,e,τ,xs,h1,h2,h3,rfl⟩;simp only[execOp,aW,h4,a8N,iJ hE hT bm,a8J,a8O,b0z]
    .cases hq
   .cases hq
  .cases hq
 case h_12 T x ix aW =>
  split at hq
  .rename_i τ r hT;split at hq
   .rename_i k i hi;have oI:=cE ix;rw[hi] at oI;obtain⟨oI,_⟩:=oI;simp only[a8x,a8T] at oI;have hx:=cE x;split at hq
    .rename_i u hu;rw[hu] at hx;split at hq
     .rename_i xs jG;have e:=TV.aS jG;subst e;simp only[a8r,a8u] at hq;obtain⟨rfl,rfl,rfl⟩:=hq;obtain⟨h0,h1⟩:=dO;obtain⟨ad,cap,h2,h3,h4,h5⟩:=iq hx;rcases h5 with h5|⟨b,o',h5,h6,h7⟩
      .subst h5;simp only[a8R] at h1;omega
      .subst h5;have bm:i.toNat<xs.length:=by omega
       obtain⟨cs,m1,m2,m3⟩:=cv.at_ (n:=τ.size) _ b o' h7 (by
        intro d hd;obtain⟨y,_,rfl⟩:=a8w.1 hd;exact Ty.cg τ y) i.toNat (τ.aD (xs.getD i.toNat τ.zero)) (by simp[List.getD,bm])
       refine B6 (x := .pointer (some ⟨b,o'+i.toNat * τ.size,none⟩)) ?_ ⟨b,_,cs,rfl, .inl h6,m3,m2⟩;simp only[execOp,aW,h2,oI,a8N,nI hE hT h0 h1,a8J,a8O]
     .cases hq
    .rename_i id hu;rw[hu] at hx;split at hq
     .rename_i e' aO xs hl;split at hq
      .rename_i gQ;have gQ:=a8U gQ;subst gQ;simp only[a8r,a8u] at hq;obtain⟨rfl,rfl,rfl⟩:=hq;obtain⟨h0,h1⟩:=dO;obtain⟨h2,_,_⟩:=hx;have nm:=bO _ _ hl;obtain⟨l,m1,_,_⟩:=hI.aC _ _ nm;have bm:i.toNat<xs.length:=by omega
       rcases m1.2 with ⟨_,hn⟩|⟨g,cap,cur,hv,_⟩
       .omega
       .refine B6 (x := .pointer (some ⟨g,0+i.toNat * aO.size,none⟩)) ?_ ⟨g,_,cap,e',aO,xs,hv,nm,bm,by simp⟩;simp only[execOp,aW,h2,hv,oI,a8N,nI hE hT h0 h1,a8J,a8O]
      .cases hq
     .cases hq
    .cases hq
   .cases hq
  .cases hq
 case h_24=>cases hq
 all_goals
  rename_i aW
  rw[aW] at QV
  cases QV
theorem N2{c:Ctx}{G:Gh}{s:ag}{a:Act}{w:World}(hE:bu c.P c.E)(h:Inv c G s a w){o:Oper}{vc:Vc}{v:AV}(hq:Xt c.E s o=some (vc,v))(dO:vc.ok) :
  ∃ x,(execOp a.eval o).run c.P w = .ok (.value x) w/\VR c G s.af w v x:=by
 unfold Xt at hq;split at hq
 .rename_i hr;split at hq
  .rename_i vc' v' SI;simp only[a8r,a8u] at hq;obtain⟨rfl,rfl⟩:=hq;exact Vo hE h (λ _ _ h=>h) (aR h) SI dO hr
  .cases hq
 .cases hq
theorem J0:∀ {v u:List AV},Mb v u->v=u
 | [],[],_=>rfl
 | a::Z9,b::bs,h=>by rw[JZ h.1,J0 h.2]
 | [],_::_,h=>h.elim
 | _::_,[],h=>h.elim
theorem T8{v u:AV}(h:Qh v u):v=u:=by
 unfold Qh at h;split at h
 .rw[J0 h]
 .exact JZ h
structure kP(D:List Nat)(a b:Act):Prop where
 size:a.tmps.size=b.tmps.size
 da:a.defers=[]
 db:b.defers=[]
 at':∀ t,t∉D->a.tmps.getD t undef=b.tmps.getD t undef
theorem kP.put{D D':List Nat}{a b:Act}(h:kP D a b){d:Option Nat}{x:Value}(hD:∀ t,t∈D->t∉D'->d=some t):kP D' (a.put d x) (b.put d x) where
 size:=by cases d<;>simp[Act.put,h.size]
 da:=by cases d<;>exact h.da
 db:=by cases d<;>exact h.db
 at' t ht:=by
  rw[dI,dI,h.size];by_cases hd:d=some t
  .by_cases hl:t<b.tmps.size
   .rw[a8A ⟨hd,hl⟩,a8A ⟨hd,hl⟩]
   .rw[a8v (λ q=>hl q.2),a8v (λ q=>hl q.2)];have h1:a.tmps.getD t undef=undef:=by rw[a9d,a9M (by rw[h.size];omega)];rfl
    have h2:b.tmps.getD t undef=undef:=by rw[a9d,a9M (by omega)];rfl
    rw[h1,h2]
  .rw[a8v (λ q=>hd q.1),a8v (λ q=>hd q.1)];refine h.at' t λ hm=>hd (hD t hm ht)
theorem kP.exec{D:List Nat}{a b:Act}(h:kP D a b){o:Oper}(hu:eU D o=true):execOp a.eval o=execOp b.eval o:=by
 unfold eU at hu;split at hu
 .rename_i l hl;rw[a9c] at hu;refine execOp_congr hl λ x hx=>?_;have:=hu x hx;cases x with
  | tmp t=>exact h.at' t (by simpa using this)
  | _=>rfl
 .cases hu
theorem kF{D D':List Nat}{o:Oper}(h:eU D o=true)(hs:∀ t∈D',t∈D):eU D' o=true:=by
 unfold eU at h ⊢;split at h
 .rename_i l hl;rw[a9c] at h ⊢;intro x hx;have:=h x hx;cases x with
  | tmp t =>
   simp only[a8S,List.contains_eq_mem,a8y] at this ⊢;exact λ q=>this (hs t q)
  | _=>rfl
 .cases h
section
variable {c:Ctx} {G:Gh} {s:ag} {a:Act} {w w':World}
theorem XO{P:Program}{o:Oper}{b:Act}{N N':Act->World->Prop}{Q:Exit->Act->World->Prop}(he:execOp a.eval o=execOp b.eval o)(hN:∀ x w',N (b.put o.dst x) w'->N' (a.put o.dst x) w')
  (hd:∀ b' w',N b' w'->b'.defers=[]) (h:o.wp P b w N (λ _ _ _=>False)):o.wp P a w N' Q:=by
 unfold Oper.wp at *
 rw[he];generalize (execOp b.eval o).run P w=r at *
 cases r with
 | ok n w' =>
  cases n<;>simp only[Oper.upon] at h ⊢;case value v=>exact hN _ _ h
  case skip=>exact hN _ _ h
  case defer d =>
   have:=hd _ _ h;cases hh:o.dst<;>simp[Act.put,hh] at this
  case enter f args=>exact Calls.mono h (λ e O8 q=>by cases e<;>first|exact hN _ _ q|exact q.elim λ _ q=>q.elim λ _ q=>q.elim|exact q.elim)
  case row r args=>exact Rows.mono h (λ _ _ q=>hN _ _ q)
 | halt x w'=>cases x<;>simp only[Oper.upon] at h ⊢
theorem exists_least{p:Nat->Prop}:∀ n,p n->∃ k,p k/\∀ j,j<k->¬ p j:=by
 intro n;induction n using Nat.strongRecOn with
 | _ n ih =>
  intro h;by_cases hq:∃ j,j<n/\p j
  .obtain⟨j,h1,h2⟩:=hq;exact ih j h1 h2
  .exact⟨n,h,λ j hj hp=>hq ⟨j,hj,hp⟩⟩
theorem kP.eq{a b:Act}(h:kP [] a b):a=b:=by
 obtain⟨ta,da⟩:=a;obtain⟨tb,db⟩:=b;obtain⟨h1,h2,h3,h4⟩:=h;simp only at h1 h2 h3 h4;subst h2 h3;congr 1;apply Array.ext h1;intro i hi hj;have:=h4 i (by simp);simpa [Array.getD_eq_getD_getElem?,Array.getElem?_eq_getElem hi,Array.getElem?_eq_getElem hj] using this
theorem ft{R:List (Nat×Oper)}{t:Nat}:t∈dstsOf R↔∃ r∈R,r.2.dst=some t:=by
 simp[dstsOf,b0l]
theorem Xy(h:Inv c G s a w){d:Nat}{x:Value}(hv:VR c G s.af w (s.aw.getD d .any) x):Inv c G s (a.put (some d) x) w:=by
 have:=aV.put (d:=some d) h hv;unfold Inv;have e:iu s.aw.length s.sl (some d) (s.aw.getD d .any)=s.sl:=by
  funext i;unfold iu;split
  .rename_i hi;obtain⟨h1,_⟩:=hi;simp only[a8r] at h1;subst h1;rfl
  .rfl
 rwa [e] at this
theorem iQ{E:Env}{K:Prop}:∀ {R:List (Nat×Oper)},fD E R s K->(∀ r∈R,∃ d vc,r.2.dst=some d/\Xt E s r.2=some (vc,s.aw.getD d .any)/\Vc.ok vc)/\K
 | [],h=>⟨by simp,h⟩
 | r::rs,h=>by
  simp only[fD] at h;split at h
  .rename_i d vc v hd hr;have h1:=Vc.iv h;obtain⟨k1,k2⟩:=iQ h1.2.2;refine⟨λ q hq=>?_,k2⟩;rcases a8G.1 hq with rfl|hq
   .exact⟨d,vc,hd,by rw[hr,T8 h1.2.1],h1.1⟩
   .exact k1 q hq
  .exact h.elim
theorem Ko(hE:bu c.P c.E){K:ag->Prop}:∀ {R:List (Nat×Oper)} {s:ag} {a:Act},Inv c G s a w->F7 c.E R K s->∃ t b,Inv c G t b w/\kP (dstsOf R) a b/\K t
 | [],s,a,hI,h=>⟨s,a,hI,⟨rfl,hI.defers,hI.defers,λ _ _=>rfl⟩,h⟩
 | r::rs,s,a,hI,h=>by
  simp only[F7] at h;split at h
  .rename_i d vc v hd hr;have h1:=Vc.iv h;obtain⟨x,_,hx⟩:=N2 hE hI hr h1.1;obtain⟨t,b,k1,k2,k3⟩:=Ko hE (Inv.put (d:=some d) hI hx) (Cy hx h1.2);refine⟨t,b,k1,⟨by rw[<-k2.size];simp[Act.put],hI.defers,k2.db,λ i hi=>?_⟩,k3⟩;have dh:d≠i:=λ e=>hi (ft.2 ⟨r,by simp,by rw[hd,e]⟩);rw[<-k2.at' i λ hm=>hi (by
    obtain⟨q,hq,hqd⟩:=ft.1 hm;exact ft.2 ⟨q,by simp[hq],hqd⟩),dI,if_neg (λ q=>dh (by simpa using q.1))]
  .exact h.elim
theorem Rp{E:Env}{o:Oper}{K:ag->Prop}{T:TypeId}{d:Nat}{τ:Ty}{r:Nat×Nat}(aW:o.op = .alloc T)(hd:o.dst=some d)(hT:af E.ty T=some (τ,r)) :
  jc E o K s↔(d<400000/\K (s.lay (some d) (.ptr d 0) (some (.box (zeroCells τ))))):=by
 have h1:iU E s o=[]:=by
  unfold iU;rw[aW];split<;>rfl
 have h2:Qk E s o=none:=by
  unfold Qk;rw[hd,aW];simp only;split<;>rfl
 have h3:Qy E s o=none:=by unfold Qy;rw[aW]
 have h4:Rj E s o=none:=by unfold Rj;rw[aW]
 obtain⟨r1,r2⟩:=r;have h5:Fv E s.af s.eval o=some (.none, .ptr d 0,some (.box (zeroCells τ))):=by
  unfold Fv;rw[aW];simp only[hd,hT]
 unfold jc;have h6:Rw E s o=none:=by unfold Rw;rw[hd,aW]
 have h7:Rh E s o=none:=by unfold Rh;rw[aW]
 simp only[h1,b1E,h6,h2,h3,h4,h7,h5,Vc.and,aW,Ot,hd,pY];cases hb:Nat.blt d 400000 with
 | true=>simp only[b1Q] at hb;simp[hb]
 | false=>simp only[Bool.eq_false_iff,b1F,b1Q] at hb;simp[hb]
structure PE where
 i:Nat
 d:Nat
 x:Value
 b:Nat
 cs:List AV
noncomputable instance:DecidableEq PE:=λ _ _=>Classical.propDecidable _
structure yf(c:Ctx)(G:Gh)(lk:Nat->Option au)(X:List (Nat×Oper))(a:Act)(w:World)(p:PE):Prop where
 ex:∃ o T τ r,(p.i,o)∈X/\o.op = .alloc T/\o.dst=some p.d/\af c.E.ty T=some (τ,r)/\p.cs=zeroCells τ
 val:a.tmps.getD p.d undef=if p.d<a.tmps.size then p.x else undef
 ptr:p.x = .pointer (some ⟨p.b,0,none⟩)
 lt:p.d<400000
 new:∃ l t,w.heap[p.b]?=some (.cells l.toArray t (0,0))/\∀ (c:Ctx) (G:Gh) (lk:Nat->Option au) (w:World),aI (C1 c G lk w) p.cs l
 fr:sw c G lk w p.b
theorem yf.put{lk:Nat->Option au}{X:List (Nat×Oper)}{p:PE}(h:yf c G lk X a w p){d:Option Nat}{x:Value}(hd:d≠some p.d):yf c G lk X (a.put d x) w p :=
 ⟨h.ex,by rw[dI,a8v (λ q=>hd q.1),fB];exact h.val,h.ptr,h.lt,h.new,h.fr⟩
theorem T5(h:Inv c G s a w){p:PE}{X:List (Nat×Oper)}{a2:Act}(hp:yf c G s.af X a2 w p) :
  Inv c ⟨G.S,λ i=>if i=p.d then p.x else G.η i,G.φ⟩ (s.lay (some p.d) (.ptr p.d 0) (some (.box p.cs))) (a.put (some p.d) p.x) w:=by
 obtain⟨l,t,h1,h2⟩:=hp.new;refine Inv.V9 h hp.lt ⟨p.b,l,t,hp.ptr,h1,h2 _ _ _ _⟩ ⟨_,rfl,rfl⟩ λ b hb=>?_;rw[hp.ptr] at hb;simp only[dt,a8r] at hb;subst hb;obtain⟨q1,q2,q3,q4,q5⟩:=hp.fr;exact⟨q1,q2,q3,λ i o' _ ho=>q4 i o' ho,q5⟩
theorem T4{p:PE}{X:List (Nat×Oper)}{a2:Act}(hp:yf c G s.af X a2 w p){b:Nat}(hb:sw c G s.af w b)(dh:b≠p.b) :
  sw c ⟨G.S,λ i=>if i=p.d then p.x else G.η i,G.φ⟩ (s.lay (some p.d) (.ptr p.d 0) (some (.box p.cs))).af w b:=by
 have bO:(s.lay (some p.d) (.ptr p.d 0) (some (.box p.cs))).af=λ i=>if i=p.d then some ((au.box p.cs).kill p.d) else (if i=p.d then none else (s.bM p.d).af i):=by
  funext i;show af ((p.d,(au.box p.cs).kill p.d)::bA p.d (s.bM p.d).aC) i=_;rw[de,dP];rfl
 obtain⟨q1,q2,q3,q4,q5⟩:=hb;rw[bO];refine⟨q1,q2,q3,λ i o ho e=>?_,λ j τ xs hj mj=>?_⟩
 .by_cases hi:i=p.d
  .simp only[a8A hi] at e;rw[hp.ptr] at e;simp only[dt,a8r] at e;exact dh e.symm
  .simp only[a8v hi] at e ho;rw[dF] at ho;simp only[a8Z] at ho;obtain⟨o',cF,_⟩:=ho;exact q4 i o' cF e
 .by_cases hi:j=p.d
  .simp only[a8A hi] at hj;cases hj
  .simp only[a8v hi] at hj;rw[dF] at hj;exact q5 j τ xs (gT hj) mj
theorem Qv(hE:bu c.P c.E)(h:Inv c G s a w){a2:Act}{o:Oper}{T:TypeId}{d i:Nat}{τ:Ty}{r:Nat×Nat}(aW:o.op = .alloc T)(hd:o.dst=some d)(hT:af c.E.ty T=some (τ,r))(E7:d<400000){X:List (Nat×Oper)}(hX:(i,o)∈X) :
  ∃ w' p,p.i=i/\p.d=d/\p.b=w.heap.size/\(execOp a2.eval o).run c.P w = .ok (.value p.x) w'/\Inv c G s a w'/\yf c G s.af X (a2.put (some d) p.x) w' p/\bH (λ _=>False) w w':=by
 obtain⟨r1,r2⟩:=r;obtain⟨inf,z,h1,h2,h3,h4⟩:=(hE.info hT).ex;refine⟨w.alloc (.cells z.cells T),⟨i,d, .pointer (some ⟨w.heap.size,0,none⟩),w.heap.size,zeroCells τ⟩,rfl,rfl,rfl,?_,h.alloc _,?_,fg w _⟩
 .simp[execOp,aW,Instr.alloc,zeroValue,typeInfo,h1,h3,newVar,newRow]
 .refine⟨⟨o,T,τ,_,hX,aW,hd,hT,rfl⟩,?_,rfl,E7,⟨z.cells.toList,T,by simpa using heap_alloc_new w _,λ _ _ _ _=>iR h4⟩,?_⟩
  .simp only[dI,fB,b0e];split
   .rfl
   .rename_i bm;first|rfl|(rw[a9d,a9M (by omega)];rfl)
  .refine⟨.inl h.aE.size,λ q=>by have:=h.dH _ q;simp only at this;omega,by simp,λ j o' hj hb=>by have:=(h.place j o' _ hj hb).2.2;simp only at this;omega,λ j τ xs hj hb=>by have:=(h.aM.pl j τ xs _ hj hb).2.2.1;simp only at this;omega⟩
theorem O2{E:Env}{o:Oper}(h:HM E o=true):reads o.op=true:=by
 unfold HM at h;rw[Bool.and_eq_true] at h;exact h.1
theorem Ae{E:Env}{o:Oper}(h:reads o.op=true):cY E o=false:=by
 unfold cY;generalize B8 E o=q;generalize o.op=op at *
 cases op<;>first|rfl|cases h
theorem DR(bK:List Nat)(x:Nat×Oper):∀ l,(Hj bK x l).Perm (x::l)
 | [] => .refl _
 | y::ys=>by
  unfold Hj;split
  .exact .refl _
  .exact ((DR bK x ys).cons y).trans (.swap x y ys)
theorem ik(E:Env)(bK:List Nat):∀ l,(Fm E bK l).Perm l
 | [] => .refl _
 | x::xs=>by
  unfold Fm;split
  .exact (DR bK x _).trans ((ik E bK xs).cons x)
  .exact (ik E bK xs).cons x
structure XE where
 i:Nat
 d:Nat
 x:Value
 o:Oper
noncomputable instance:DecidableEq XE:=λ _ _=>Classical.propDecidable _
structure Wy(E:Env)(P:Program)(X:List (Nat×Oper))(a:Act)(e:XE):Prop where
 mem:(e.i,e.o)∈X
 dst:e.o.dst=some e.d
 val:a.tmps.getD e.d undef=if e.d<a.tmps.size then e.x else undef
 run:(iD e.o.op=true/\∀ w,(execOp a.eval e.o).run P w = .ok (.value e.x) w)\/((rT e.o.op=true/\B8 E e.o=true)/\∃ p,e.x = .slice p 0 0)
theorem Wy.lz{E:Env}{P:Program}{X:List (Nat×Oper)}{a:Act}{e:XE}(h:Wy E P X a e):cY E e.o=true:=by
 rcases h.run with ⟨q,_⟩|⟨⟨q,q'⟩,_⟩
 .simp[cY,q]
 .simp[cY,q,q']
theorem HB{op:Op}(h:rT op=true):∃ T,op = .buildSlice T 0 #[]:=by
 unfold rT at h;split at h
 .rename_i T len ps;simp only[a8I] at h;have h1:=a8s h.1;have h2:ps = #[]:=b0O (a8s h.2);exact⟨T,by rw[h1,h2]⟩
 .cases h
theorem VB{o:Oper}(h:rT o.op=true)(D:List Nat):eU D o=true:=by
 obtain⟨T,h⟩:=HB h;simp[eU,Rk,h]
theorem Wy.put{E:Env}{P:Program}{X:List (Nat×Oper)}{e:XE}(h:Wy E P X a e)(hda:a.defers=[]){d:Option Nat}{x:Value}(hd:d≠some e.d)(hu:∀ t,d=some t->eU [t] e.o=true):Wy E P X (a.put d x) e :=
 ⟨h.mem,h.dst,by rw[dI,a8v (λ q=>hd q.1),fB];exact h.val,h.run.imp (λ hr=>⟨hr.1,λ w=>by
  cases d with
  | none=>exact hr.2 w
  | some t =>
   have hA:kP [t] (a.put (some t) x) a:=⟨fB a _ x,by rw[ie];exact hda,hda,λ u hu=>by rw[dI,if_neg (λ q=>hu (by simpa using q.1.symm))]⟩;rw[hA.exec (hu t rfl)];exact hr.2 w⟩) id⟩
theorem Qz(h:Inv c G s a w){o:Oper}{t:Operand}{i:Nat}(aW:o.op = .extract t i)(hc:uS s o.op=true):∃ x,∀ w',(execOp a.eval o).run c.P w' = .ok (.value x) w':=by
 rw[aW] at hc;simp only[uS] at hc;split at hc
 .rename_i vs hv;have hx:=aR h t;rw[hv] at hx;obtain⟨l,h1,h2⟩:=hx;have bm:i<l.length:=by rw[<-h2.length];exact a9w hc
  refine⟨l[i],λ w'=>?_⟩;have h3:l[i]?=some l[i]:=a8H bm;simp[execOp,aW,Instr.extract,h1,h3]
 .cases hc
theorem N4{E:Env}{o:Oper}{K:ag->Prop}{t:Operand}{i d:Nat}(aW:o.op = .extract t i)(hd:o.dst=some d)(hr:jc E o K s) :
  ∃ vs v,s.eval t = .fO vs/\vs[i]?=some v/\known v (K (s.put (some d) v)):=by
 have h1:iU E s o=[]:=by
  unfold iU;rw[aW];split<;>rfl
 have h2:Qk E s o=none:=by
  unfold Qk;rw[hd,aW];simp only;split<;>rfl
 have h3:Qy E s o=none:=by unfold Qy;rw[aW]
 have h4:Rj E s o=none:=by unfold Rj;rw[aW]
 have h6:Rw E s o=none:=by unfold Rw;rw[hd,aW]
 have h7:Rh E s o=none:=by unfold Rh;rw[aW]
 unfold jc at hr;split at hr
 .exact hr.elim
 simp only[h1,b1E,h6,h2,h3,h4,h7] at hr;split at hr
 .rename_i vc v ob hq;unfold Fv at hq;rw[aW] at hq;simp only at hq;split at hq
  .rename_i vs hv;split at hq
   .rename_i u hu;simp only[Option.some.injEq,Prod.mk.injEq] at hq;obtain⟨rfl,rfl,rfl⟩:=hq;refine⟨vs,u,hv,hu,?_⟩;simpa [Vc.and,aW,Ot,hd,ag.lay] using hr
   .cases hq
  .cases hq
 .exact hr.elim
theorem QA(h:Inv c G s a w){o:Oper}{t:Operand}{i:Nat}(aW:o.op = .extract t i){vs:List AV}{v:AV}(h1:s.eval t = .fO vs)(h2:vs[i]?=some v){x:Value}(hx:(execOp a.eval o).run c.P w = .ok (.value x) w):VR c G s.af w v x:=by
 have hv:=aR h t;rw[h1] at hv;obtain⟨l,k1,k2⟩:=hv;obtain⟨y,k3,k4⟩:=k2.at_ i v h2;have:(execOp a.eval o).run c.P w = .ok (.value y) w:=by simp[execOp,aW,Instr.extract,k1,k3]
 rw[this] at hx;simp only[Result.ok.injEq,Next.value.injEq,a8T] at hx;subst hx;cases v<;>first|exact k4|exact k4.elim|trivial
theorem Tt{E:Env}{o:Oper}{K:ag->Prop}{d:Nat}(hn:rT o.op=true/\B8 E o=true)(ha:mU E o=true)(hd:o.dst=some d)(hr:jc E o K s) :
  ∃ τ,K (s.put (some d) (.aK ⟨.slice τ,[]⟩)):=by
 obtain⟨hn,eO⟩:=hn;obtain⟨T,aW⟩:=HB hn;unfold mU at ha;simp only[aW,hd,eO] at ha;split at ha
 .rename_i d' τ r UJ hT;simp only[a8r] at UJ;subst UJ;have ha:Nat.blt d 400000=true/\E.ro.contains d=true/\E.own.contains d=false:=by
   have ha:(Nat.blt d 400000&&(E.ro.contains d && !E.own.contains d))=true:=ha;simp only[a8I,a8S] at ha;exact⟨ha.1,ha.2.1,ha.2.2⟩
  obtain⟨h4,hro,dk⟩:=ha;have h1:iU E s o=[]:=by
   unfold iU;simp only[hd,dk,aW];simp
  have h2:Qk E s o=none:=by
   unfold Qk;simp only[hd,dk]
  have h3:Qy E s o=none:=by unfold Qy;rw[aW]
  have h4':Rj E s o=none:=by unfold Rj;rw[aW]
  have h6:Rw E s o=none:=by unfold Rw;rw[hd,aW]
  have h7:Rh E s o=none:=by unfold Rh;rw[aW]
  obtain⟨r1,r2⟩:=r;have h8:Fv E s.af s.eval o=some (.none, .aK ⟨.slice τ,[]⟩,none):=by
   unfold Fv;rw[aW];simp only[hd,hT,hro];rfl
  unfold jc at hr;simp only[h1,List.foldl_nil,h6,h2,h3,h4',h7,h8,Vc.and,aW,Ot,hd,pY,h4] at hr;exact⟨τ,hr⟩
 .simp at ha
theorem Sd(hE:bu c.P c.E)(h:Inv c G s a w){a2:Act}{o:Oper}{d:Nat}(hn:rT o.op=true/\B8 c.E o=true)(ha:mU c.E o=true)(hd:o.dst=some d) :
  ∃ w' x,(execOp a2.eval o).run c.P w = .ok (.value x) w'/\Inv c G s a w'/\(∃ p,x = .slice p 0 0)/\bH (λ _=>False) w w':=by
 obtain⟨hn,eO⟩:=hn;obtain⟨T,aW⟩:=HB hn;unfold mU at ha;simp only[aW,hd,eO] at ha;split at ha
 .rename_i d' τ r UJ hT;obtain⟨r1,r2⟩:=r;obtain⟨k1,_,inf,z,k2,k3,k4,k5,k6⟩:=hE.slice hT;refine⟨w.alloc (.cells #[] r2), .slice (some ⟨w.heap.size,0,none⟩) 0 0,?_,h.alloc _,⟨_,rfl⟩,fg w _⟩;have hz:(Array.range 0).map (λ _=>(default:Value)) = #[]:=by apply b0O;simp
  simp[execOp,aW,Instr.buildSlice,a9g k1,sizeOf,typeInfo,k2,Instr.fill,newRow,hz]
 .simp at ha
theorem jH(E:Env){X:List (Nat×Oper)}{x:Nat×Oper}{t:Nat}(hx:x∈X)(ha:cY E x.2=true)(hd:x.2.dst=some t):t∈pj E X :=
 b0l.2 ⟨x,hx,by simp[ha,hd]⟩
theorem PR{E:Env}{bK:List Nat}{n:Nat}{R:List (Nat×Oper)}{K:ag->Prop}{s:ag}:fT E bK n R [] K s=K s:=by cases n<;>rfl
theorem Fp{E:Env}{bK:List Nat}{n:Nat}{R:List (Nat×Oper)}{x:Nat×Oper}{xs:List (Nat×Oper)}{K:ag->Prop}{s:ag}(h:fT E bK n R (x::xs) K s) :
  ∃ m,Q9 E bK (x::xs) s=true/\(((eU (dstsOf (R.filter λ r => !Nat.testBit (bK.getD x.1 0) r.1)++pj E xs) x.2&&xs.all λ y=>cY E y.2||Nat.testBit (bK.getD y.1 0) x.1)=true /\
    jc E x.2 (λ s'=>fD E (R.filter λ r => !Nat.testBit (bK.getD x.1 0) r.1) s' (fT E bK m (R.filter λ r => !Nat.testBit (bK.getD x.1 0) r.1) xs K s')) s) \/
   (cY E x.2=false/\xk (Ml E bK (x::xs)) (λ y=>match eU (dstsOf (R.filter λ r => !Nat.testBit (bK.getD y.1 0) r.1)++pj E ((x::xs).filter λ z => !Nat.beq z.1 y.1)) y.2 with
      | true=>jc E y.2 (λ s'=>fD E (R.filter λ r => !Nat.testBit (bK.getD y.1 0) r.1) s' (fT E bK m (R.filter λ r => !Nat.testBit (bK.getD y.1 0) r.1) ((x::xs).filter λ z => !Nat.beq z.1 y.1) K s')) s
      | false=>False) (x::xs))):=by
 cases n with
 | zero=>exact h.elim
 | succ n =>
  simp only[fT] at h;refine⟨n,?_⟩;split at h
  .rename_i h1;refine⟨h1,?_⟩;split at h
   .rename_i h2;exact .inl ⟨h2,h⟩
   .split at h
    .exact h.elim
    .rename_i h3;exact .inr ⟨h3,h⟩
  .exact h.elim
theorem NF{E:Env}{bK:List Nat}{n:Nat}{R:List (Nat×Oper)}{x:Nat×Oper}{xs:List (Nat×Oper)}{K:ag->Prop}{s:ag}(hz:cY E x.2=true)(h:fT E bK n R (x::xs) K s) :
  ∃ m,jc E x.2 (λ s'=>fD E (R.filter λ r => !Nat.testBit (bK.getD x.1 0) r.1) s' (fT E bK m (R.filter λ r => !Nat.testBit (bK.getD x.1 0) r.1) xs K s')) s:=by
 obtain⟨m,_,h|h⟩:=Fp h
 .exact⟨m,h.2⟩
 .rw[hz] at h;cases h.1
theorem yp{p:Nat×Oper->Bool}{f:Nat×Oper->Prop}:∀ {l:List (Nat×Oper)},xk p f l->∀ y∈l,p y=true->f y
 | [],_,y,hy,_=>by cases hy
 | x::l,h,y,hy,hp=>by
  unfold xk at h;split at h
  .rcases a8G.1 hy with rfl|hy
   .exact h.1
   .exact yp h.2 y hy hp
  .rename_i h0;rcases a8G.1 hy with rfl|hy
   .rw[hp] at h0;cases h0
   .exact yp h y hy hp
theorem Wa{a b:Nat}:Nat.beq a b=false↔a≠b:=by
 constructor
 .intro h e;subst e;rw[Nat.beq_refl] at h;cases h
 .intro h;cases hb:Nat.beq a b
  .rfl
  .exact absurd (a8s hb) h
theorem ME{x:Nat×Oper}{xs:List (Nat×Oper)}(h:x.1∉xs.map (·.1)):((x::xs).filter λ z => !Nat.beq z.1 x.1)=xs:=by
 rw[b1X,a8v (by simp)];refine List.filter_eq_self.2 λ z hz=>?_;have:z.1≠x.1:=λ e=>h (a8w.2 ⟨z,hz,e⟩);rw[Wa.2 this];rfl
theorem Pw{i:Nat}{o:Oper}:∀ {X:List (Nat×Oper)},(i,o)∈X->(X.map (·.1)).Nodup->(X.filter λ z => !Nat.beq z.1 i).length+1=X.length
 | [],h,_=>by cases h
 | x::xs,h,hn=>by
  simp only[a9a,a8V] at hn;rcases a8G.1 h with e|h
  .subst e;rw[ME (x:=(i,o)) hn.1];rfl
  .have dh:x.1≠i:=λ e=>hn.1 (a8w.2 ⟨_,h,e.symm⟩);rw[b1X,a8A (by rw[Wa.2 dh];rfl),a8F,a8F,Pw h hn.2]
theorem U9{E:Env}{bK:List Nat}{n:Nat}{R X:List (Nat×Oper)}{y:Nat×Oper}{K:ag->Prop}{s:ag}(h:fT E bK n R X K s)(hy:y∈X)(cX:(X.map (·.1)).Nodup)(hc:Ml E bK X y=true)
  (hh:∀ x xs,X=x::xs->cY E x.2=true->Nat.testBit (bK.getD y.1 0) x.1=false) :
  ∃ m,eU (dstsOf (R.filter λ r => !Nat.testBit (bK.getD y.1 0) r.1)++pj E (X.filter λ z => !Nat.beq z.1 y.1)) y.2=true /\
   jc E y.2 (λ s'=>fD E (R.filter λ r => !Nat.testBit (bK.getD y.1 0) r.1) s' (fT E bK m (R.filter λ r => !Nat.testBit (bK.getD y.1 0) r.1) (X.filter λ z => !Nat.beq z.1 y.1) K s')) s:=by
 match X,hy,cX,hc,hh,h with
 | x::xs,hy,cX,hc,hh,h =>
  obtain⟨m,_,h|h⟩:=Fp h
  .obtain⟨h1,h2⟩:=h;simp only[a8I,a9c,a9O] at h1;have e:y=x:=by
    rcases a8G.1 hy with e|hy
    .exact e
    .simp only[Ml,a8I,a8S,a9c,a9O] at hc;rcases h1.2 y hy with q|q
     .rw[hc.1] at q;cases q
     .rcases hc.2 x (by simp) with k|k
      .rw[hh x xs rfl k] at q;cases q
      .rw[k] at q;cases q
   subst e;simp only[a9a,a8V] at cX;rw[ME cX.1];exact⟨m,h1.1,h2⟩
  .have:=yp h.2 y hy hc;split at this
   .rename_i hu;exact⟨m,hu,this⟩
   .exact this.elim
theorem Tb(
          hE:bu c.P c.E) {ops:Array Oper} {hi:Nat} {Seg:List (Nat×Oper)} (dq:backward ops.toList=true) (hhi:hi<=ops.size)
  (ni:∀ j o,hi<=j->ops.toList[j]?=some o->∀ k,k<hi->Nat.testBit ((bE ops.toList []).getD j 0) k=true)
  (a1F:∀ x∈Seg,x.2.guard=none) (LH:∀ x∈Seg,mU c.E x.2=true) (Y3:∀ x∈Seg,iD x.2.op=true->eU (dstsOf (Seg.filter λ y => !Nat.testBit ((bE ops.toList []).getD x.1 0) y.1)++pj c.E Seg) x.2=true) (YZ:∀ x∈Seg,∀ y∈Seg,∀ t,x.2.dst=some t->y.2.dst=some t->x.1=y.1) {K:ag->Prop} {Q':Exit->Act->World->Prop}
  (MU:∀ (fuel:Nat) (G:Gh) (s:ag) (a:Act) (w:World) (listed:Array Bool),ops.size=hi+fuel->listed.size=ops.size->(∀ k,k<ops.size->(listed.getD k false=true↔k<hi))->Inv c G s a w->K s->wpAny c.P .any ops Q' fuel listed a w) :
  ∀ (N fuel:Nat) (Rc X:List (Nat×Oper)) (R:List Nat) (PL:List PE) (SL:List XE) (G:Gh) (t:ag) (a b:Act) (w:World) (listed:Array Bool),fuel+X.length<=N->fuel+PL.length+SL.length=R.length+X.length+(ops.size - hi)->listed.size=ops.size ->
   (∀ i∈R,i<hi/\∃ o,ops.toList[i]?=some o/\(i,o)∈Rc/\(i,o)∈Seg/\kA c.E (bE ops.toList []) Seg (i,o)=true/\eU (dstsOf (Seg.filter λ y => !Nat.testBit ((bE ops.toList []).getD i 0) y.1)) o=true)->(∀ x∈X,x.1<hi/\ops.toList[x.1]?=some x.2/\x∈Seg)->R.Nodup->(X.map (·.1)).Nodup->(∀ i∈R,∀ x∈X,i≠x.1) ->
   (PL.map PE.i++SL.map XE.i).Nodup->(PL.map PE.b).Nodup->(∀ p∈PL,yf c G t.af X a w p)->(∀ e∈SL,Wy c.E c.P X a e) ->
   (∀ k,k<ops.size->(listed.getD k false=true↔k<hi/\k∉R/\((∀ x∈X,x.1≠k)\/k∈PL.map PE.i++SL.map XE.i)))->(∀ k,k<ops.size->listed.getD k false=true->∀ o,ops.toList[k]?=some o->∀ e∈o.after.toList,Region.binds .any e=true->listed.getD e.on false=true) ->
   Inv c G t b w->kP (R.filterMap (bU ops.toList)++(PL.map PE.d++SL.map XE.d)) a b->(∀ i∈R,∀ o,ops.toList[i]?=some o->∃ d vc,o.dst=some d/\Xt c.E t o=some (vc,t.aw.getD d .any)/\Vc.ok vc) ->
   ∀ n,fT c.E (bE ops.toList []) n Rc X K t->wpAny c.P .any ops Q' fuel listed a w:=by
 intro N;induction N with
 | zero =>
  intro fuel Rc X R PL SL G t a b w listed hN hf bW hR hX IH G6 GY KJ QG ka kY hl Ar hI hA hs nn hK;have h2:X=[]:=a9s (by omega);subst h2;have h3:PL=[]:=by
   cases PL with
   | nil=>rfl
   | cons p PL=>obtain⟨o,T,τ,r,hm,_⟩:=(ka p (by simp)).ex;cases hm
  subst h3;have h4:SL=[]:=by
   cases SL with
   | nil=>rfl
   | cons p SL=>have hm:=(kY p (by simp)).mem;cases hm
  subst h4;have h1:R=[]:=List.eq_nil_of_length_eq_zero (by simp at hf;omega);subst h1;have G7:a=b:=kP.eq (by simpa using hA);subst G7;exact MU fuel G t a w listed (by simp at hf;omega) bW (λ k hk=>by rw[hl k hk];simp) hI (by rw[PR] at hK;exact hK)
 | succ N ih =>
  intro fuel Rc X R PL SL G t a b w listed hN hf bW hR hX IH G6 GY KJ QG ka kY hl Ar hI hA hs nn hK;by_cases E8:R=[]/\X=[]
  .obtain⟨rfl,rfl⟩:=E8;have h3:PL=[]:=by
    cases PL with
    | nil=>rfl
    | cons p PL=>obtain⟨o,T,τ,r,hm,_⟩:=(ka p (by simp)).ex;cases hm
   subst h3;have h4:SL=[]:=by
    cases SL with
    | nil=>rfl
    | cons p SL=>have hm:=(kY p (by simp)).mem;cases hm
   subst h4;have G7:a=b:=kP.eq (by simpa using hA);subst G7;exact MU fuel G t a w listed (by simp at hf;omega) bW (λ k hk=>by rw[hl k hk];simp) hI (by rw[PR] at hK;exact hK)
  have UE:∀ i o,i<ops.size->ops.toList[i]?=some o->listed.getD i false=true->∀ k,Nat.testBit ((bE ops.toList []).getD i 0) k=true->listed.getD k false=true/\k<ops.size:=λ i o hi ho hli k hk =>
   AG (l:=ops.toList) (D:=λ k=>listed.getD k false=true/\k<ops.size) (λ k hk o' cF e he hb=>⟨Ar k hk.2 hk.1 o' cF e he hb,by
    have:=bJ dq k o' cF e he hb;have:=hk.2;omega⟩) i o ho (λ e he hb=>⟨Ar i hi hli o ho e he hb,by
    have:=bJ dq i o ho e he hb;omega⟩) k hk
  by_cases LG:∃ x0 xs p,X=x0::xs/\p∈PL/\p.i=x0.1
  .obtain⟨x0,xs,p,rfl,hp,W2⟩:=LG;obtain⟨o,T,τ,r,hm,aW,Fe,hT,iY⟩:=(ka p hp).ex;have W9:x0=(p.i,o):=by
    have h1:=(hX x0 (by simp)).2.1;have h2:=(hX _ hm).2.1;rw[<-W2,h2] at h1;simp only[a8r] at h1;rw[h1,W2]
   subst W9;obtain⟨mm,hK⟩:=NF (by simp[cY,lq,aW]) hK;rw[Rp aW Fe hT,<-iY] at hK;obtain⟨k1,k2⟩:=iQ hK.2;have MO:=hX _ hm;have Zf:listed.getD p.i false=true:=(hl p.i (by have:=MO.1;simp only at this;omega)).2 ⟨MO.1,λ q=>GY _ q _ hm rfl, .inr (a8t.2 (.inl (a8w.2 ⟨p,hp,rfl⟩)))⟩;have ep:∀ j∈R,∃ o',ops.toList[j]?=some o'/\(j,o')∈Rc.filter λ r => !Nat.testBit ((bE ops.toList []).getD p.i 0) r.1:=λ j hj=>by
    obtain⟨q1,o',q2,q3,_,_⟩:=hR j hj;refine⟨o',q2,a9z.2 ⟨q3,?_⟩⟩;simp only[a8S];cases hb:Nat.testBit ((bE ops.toList []).getD p.i 0) j with
    | false=>rfl
    | true=>exact absurd hj ((hl j (by omega)).1 (UE p.i o (by have:=MO.1;simp only at this;omega) MO.2.1 Zf j hb).1).2.1
   have Zi:∀ q∈PL.erase p,q∈PL/\q.i≠p.i/\q.b≠p.b:=λ q hq=>by
    have V2:=a9U hq;have IN:=b2s hp;have n1:=(IN.map PE.i).nodup_iff.1 (a8M.1 KJ).1;have n2:=(IN.map PE.b).nodup_iff.1 QG;simp only[a9a,a8V] at n1 n2;exact⟨V2,λ e=>n1.1 (a8w.2 ⟨q,hq,e⟩),λ e=>n2.1 (a8w.2 ⟨q,hq,e⟩)⟩
   have a4p:(PL.erase p).length+1=PL.length:=by
    have:=b0n hp;have:=b0q hp;omega
   simp only[a9a,a8V] at G6;refine ih fuel _ xs R (PL.erase p) SL _ _ a (b.put (some p.d) p.x) w listed (by simp at hN;omega) (by simp at hf;omega) bW (λ j hj=>?_) (λ y hy=>hX y (by simp[hy])) IH G6.2 (λ j hj y hy=>GY j hj y (by simp[hy])) ?_ ?_ (λ q hq=>?_) (λ e he=>?_) (λ k hk=>?_) Ar (T5 hI (ka p hp)) ?_ (λ j hj o' cF=>?_) _ k2
   .obtain⟨q1,o',q2,q3,q4,q7⟩:=hR j hj;obtain⟨o2,q5,q6⟩:=ep j hj;have e:o'=o2:=by rw[q2] at q5;simpa using q5
    subst e;exact⟨q1,o',q2,q6,q4,q7⟩
   .exact KJ.sublist ((b1d _ b1H).append (List.Sublist.refl _))
   .exact QG.sublist (b1d _ b1H)
   .obtain⟨Av,tE,hq3⟩:=Zi q hq;obtain⟨o2,T2,iS,r2,m1,m2,m3,m4,m5⟩:=(ka q Av).ex;refine⟨⟨o2,T2,iS,r2,?_,m2,m3,m4,m5⟩,(ka q Av).val,(ka q Av).ptr,(ka q Av).lt,(ka q Av).new,T4 (ka p hp) (ka q Av).fr hq3⟩;rcases a8G.1 m1 with e|m1
    .simp only[a8u] at e;exact absurd e.1 tE
    .exact m1
   .have h3:=kY e he;refine⟨?_,h3.dst,h3.val,h3.run⟩;rcases a8G.1 h3.mem with q|q
    .simp only[a8u] at q;rcases h3.run with ⟨q',_⟩|⟨⟨q',_⟩,_⟩<;>(rw[q.2,aW] at q';cases q')
    .exact q
   .rw[hl k hk];constructor
    .rintro⟨q1,q2,q3⟩;refine⟨q1,q2,?_⟩;by_cases jv:k=p.i
     .subst jv;exact .inl λ y hy e=>G6.1 (a8w.2 ⟨y,hy,e⟩)
     .rcases q3 with q3|q3
      .exact .inl λ y hy=>q3 y (by simp[hy])
      .rcases a8t.1 q3 with q3|q3
       .obtain⟨q,hq,rfl⟩:=a8w.1 q3;exact .inr (a8t.2 (.inl (a8w.2 ⟨q,(b0D (λ e=>jv (by rw[e]))).2 hq,rfl⟩)))
       .exact .inr (a8t.2 (.inr q3))
    .rintro⟨q1,q2,q3⟩;refine⟨q1,q2,?_⟩;by_cases jv:k=p.i
     .subst jv;exact .inr (a8t.2 (.inl (a8w.2 ⟨p,hp,rfl⟩)))
     .rcases q3 with q3|q3
      .refine .inl λ y hy=>?_;rcases a8G.1 hy with rfl|hy
       .exact λ e=>jv e.symm
       .exact q3 y hy
      .rcases a8t.1 q3 with q3|q3
       .obtain⟨q,hq,rfl⟩:=a8w.1 q3;exact .inr (a8t.2 (.inl (a8w.2 ⟨q,a9U hq,rfl⟩)))
       .exact .inr (a8t.2 (.inr q3))
   .refine⟨by rw[fB];exact hA.size,hA.da,by rw[ie];exact hA.db,λ u hu=>?_⟩;by_cases U1:u=p.d
    .subst U1;rw[(ka p hp).val,dI,<-hA.size];by_cases bm:p.d<a.tmps.size
     .rw[a8A bm,a8A ⟨rfl,bm⟩]
     .rw[a8v bm,a8v (λ q=>bm q.2),a9d,a9M (by rw[<-hA.size];omega)];rfl
    .rw[dI,if_neg (λ q=>U1 (by simpa using q.1.symm))];refine hA.at' u λ hm=>hu ?_;rcases List.mem_append.1 hm with hm|hm
     .exact a8t.2 (.inl hm)
     .rcases a8t.1 hm with hm|hm
      .obtain⟨q,hq,rfl⟩:=a8w.1 hm;exact a8t.2 (.inr (a8t.2 (.inl (a8w.2 ⟨q,(b0D (λ e=>U1 (by rw[e]))).2 hq,rfl⟩))))
      .exact a8t.2 (.inr (a8t.2 (.inr hm)))
   .obtain⟨o2,q5,q6⟩:=ep j hj;rw[q5] at cF;simp only[a8r] at cF;subst cF;exact k1 (j,o2) q6
  by_cases G8:∃ x0 xs e,X=x0::xs/\e∈SL/\e.i=x0.1
  .obtain⟨x0,xs,e,rfl,he,hei⟩:=G8;have QF:=kY e he;have W9:x0=(e.i,e.o):=by
    have h1:=(hX x0 (by simp)).2.1;have h2:=(hX _ QF.mem).2.1;rw[<-hei,h2] at h1;simp only[a8r] at h1;rw[h1,hei]
   subst W9;obtain⟨mm,hK⟩:=NF QF.lz hK;have MO:=hX _ QF.mem;have Zf:listed.getD e.i false=true:=(hl e.i (by have:=MO.1;simp only at this;omega)).2 ⟨MO.1,λ q=>GY _ q _ QF.mem rfl, .inr (a8t.2 (.inr (a8w.2 ⟨e,he,rfl⟩)))⟩;have YT:=UE e.i e.o (by have:=MO.1;simp only at this;omega) MO.2.1 Zf;have ep:∀ j∈R,∃ o',ops.toList[j]?=some o'/\(j,o')∈Rc.filter λ r => !Nat.testBit ((bE ops.toList []).getD e.i 0) r.1:=λ j hj=>by
    obtain⟨q1,o',q2,q3,_,_⟩:=hR j hj;refine⟨o',q2,a9z.2 ⟨q3,?_⟩⟩;simp only[a8S];cases hb:Nat.testBit ((bE ops.toList []).getD e.i 0) j with
    | false=>rfl
    | true=>exact absurd hj ((hl j (by omega)).1 (YT j hb).1).2.1
   have hDu:∀ u,u∈R.filterMap (bU ops.toList)++(PL.map PE.d++SL.map XE.d)->u∈dstsOf (Seg.filter λ y => !Nat.testBit ((bE ops.toList []).getD e.i 0) y.1)++pj c.E Seg:=λ u hu=>by
    rcases a8t.1 hu with hu|hu
    .obtain⟨j,hj,As⟩:=List.mem_filterMap.1 hu;obtain⟨q1,o',q2,_,q3,_⟩:=hR j hj;refine List.mem_append.2 (.inl (ft.2 ⟨(j,o'),List.mem_filter.2 ⟨q3,?_⟩,by simpa [bU,q2] using As⟩));simp only[Bool.not_eq_true'];cases hb:Nat.testBit ((bE ops.toList []).getD e.i 0) j with
     | false=>rfl
     | true=>exact absurd hj ((hl j (by omega)).1 (YT j hb).1).2.1
    .rcases a8t.1 hu with hu|hu
     .obtain⟨p,hp,rfl⟩:=a8w.1 hu;obtain⟨o2,T,τ,r,hm,M1,Fe,_⟩:=(ka p hp).ex;exact a8t.2 (.inr (jH c.E (hX _ hm).2.2 (by simp[cY,lq,M1]) Fe))
     .obtain⟨q,hq,rfl⟩:=a8w.1 hu;exact a8t.2 (.inr (jH c.E (hX _ (kY q hq).mem).2.2 (kY q hq).lz (kY q hq).dst))
   obtain⟨v,M6,hK⟩:∃ v,VR c G t.af w v e.x/\fD c.E (Rc.filter λ r => !Nat.testBit ((bE ops.toList []).getD e.i 0) r.1) (t.put (some e.d) v) (fT c.E (bE ops.toList []) mm (Rc.filter λ r => !Nat.testBit ((bE ops.toList []).getD e.i 0) r.1) xs K (t.put (some e.d) v)):=by
    rcases QF.run with ⟨hx,hr⟩|⟨hx,p,hp⟩
    .obtain⟨tt,ix,aW⟩:∃ tt ix,e.o.op = .extract tt ix:=by
      have:=hx;unfold iD at this;split at this
      .exact⟨_,_,by assumption⟩
      .cases this
     obtain⟨vs,v,hv1,hv2,hK⟩:=N4 aW QF.dst hK;have cz:=hr w;rw[hA.exec (kF (Y3 _ MO.2.2 hx) hDu)] at cz;have M6:=QA hI aW hv1 hv2 cz;exact⟨v,M6,Cy M6 hK⟩
    .obtain⟨τ,hK⟩:=Tt hx (LH _ MO.2.2) QF.dst hK;refine⟨_,?_,hK⟩;rw[hp];exact⟨p,0,rfl,a8C _,by simp[maxLen],by simp, .inl rfl⟩
   obtain⟨k1,k2⟩:=iQ hK;have Zi:∀ q∈SL.erase e,q∈SL/\q.i≠e.i:=λ q hq=>by
    have V2:=a9U hq;have IN:=b2s he;have n1:=(IN.map XE.i).nodup_iff.1 (a8M.1 KJ).2.1;simp only[a9a,a8V] at n1;exact⟨V2,λ q'=>n1.1 (a8w.2 ⟨q,hq,q'⟩)⟩
   have a4p:(SL.erase e).length+1=SL.length:=by
    have:=b0n he;have:=b0q he;omega
   simp only[a9a,a8V] at G6;refine ih fuel _ xs R PL (SL.erase e) _ _ a (b.put (some e.d) e.x) w listed (by simp at hN;omega) (by simp at hf;omega) bW (λ j hj=>?_) (λ y hy=>hX y (by simp[hy])) IH G6.2 (λ j hj y hy=>GY j hj y (by simp[hy])) ?_ QG (λ q hq=>?_) (λ q hq=>?_) (λ k hk=>?_) Ar (Inv.put (d:=some e.d) hI M6) ?_ (λ j hj o' cF=>?_) _ k2
   .obtain⟨q1,o',q2,q3,q4,q7⟩:=hR j hj;obtain⟨o2,q5,q6⟩:=ep j hj;have e:o'=o2:=by rw[q2] at q5;simpa using q5
    subst e;exact⟨q1,o',q2,q6,q4,q7⟩
   .exact KJ.sublist ((List.Sublist.refl _).append (b1d _ b1H))
   .obtain⟨o2,T2,iS,r2,m1,m2,m3,m4,m5⟩:=(ka q hq).ex;refine⟨⟨o2,T2,iS,r2,?_,m2,m3,m4,m5⟩,(ka q hq).val,(ka q hq).ptr,(ka q hq).lt,(ka q hq).new,(ka q hq).fr⟩;rcases a8G.1 m1 with e'|m1
    .simp only[a8u] at e';rcases QF.run with ⟨q',_⟩|⟨⟨q',_⟩,_⟩<;>(rw[<-e'.2,m2] at q';cases q')
    .exact m1
   .obtain⟨Av,tE⟩:=Zi q hq;have h3:=kY q Av;refine⟨?_,h3.dst,h3.val,h3.run⟩;rcases a8G.1 h3.mem with e'|e'
    .simp only[a8u] at e';exact absurd e'.1 tE
    .exact e'
   .rw[hl k hk];constructor
    .rintro⟨q1,q2,q3⟩;refine⟨q1,q2,?_⟩;by_cases jv:k=e.i
     .subst jv;exact .inl λ y hy e=>G6.1 (a8w.2 ⟨y,hy,e⟩)
     .rcases q3 with q3|q3
      .exact .inl λ y hy=>q3 y (by simp[hy])
      .rcases a8t.1 q3 with q3|q3
       .exact .inr (a8t.2 (.inl q3))
       .obtain⟨q,hq,rfl⟩:=a8w.1 q3;exact .inr (a8t.2 (.inr (a8w.2 ⟨q,(b0D (λ e=>jv (by rw[e]))).2 hq,rfl⟩)))
    .rintro⟨q1,q2,q3⟩;refine⟨q1,q2,?_⟩;by_cases jv:k=e.i
     .subst jv;exact .inr (a8t.2 (.inr (a8w.2 ⟨e,he,rfl⟩)))
     .rcases q3 with q3|q3
      .refine .inl λ y hy=>?_;rcases a8G.1 hy with rfl|hy
       .exact λ e=>jv e.symm
       .exact q3 y hy
      .rcases a8t.1 q3 with q3|q3
       .exact .inr (a8t.2 (.inl q3))
       .obtain⟨q,hq,rfl⟩:=a8w.1 q3;exact .inr (a8t.2 (.inr (a8w.2 ⟨q,a9U hq,rfl⟩)))
   .refine⟨by rw[fB];exact hA.size,hA.da,by rw[ie];exact hA.db,λ u hu=>?_⟩;by_cases U1:u=e.d
    .subst U1;rw[QF.val,dI,<-hA.size];by_cases bm:e.d<a.tmps.size
     .rw[a8A bm,a8A ⟨rfl,bm⟩]
     .rw[a8v bm,a8v (λ q=>bm q.2),a9d,a9M (by rw[<-hA.size];omega)];rfl
    .rw[dI,if_neg (λ q=>U1 (by simpa using q.1.symm))];refine hA.at' u λ hm=>hu ?_;rcases List.mem_append.1 hm with hm|hm
     .exact a8t.2 (.inl hm)
     .rcases a8t.1 hm with hm|hm
      .exact a8t.2 (.inr (a8t.2 (.inl hm)))
      .obtain⟨q,hq,rfl⟩:=a8w.1 hm;exact a8t.2 (.inr (a8t.2 (.inr (a8w.2 ⟨q,(b0D (λ e=>U1 (by rw[e]))).2 hq,rfl⟩))))
   .obtain⟨o2,q5,q6⟩:=ep j hj;rw[q5] at cF;simp only[a8r] at cF;subst cF;exact k1 (j,o2) q6
  have YP:∀ p∈PL,∃ x∈X,x.1=p.i:=λ p hp=>by
   obtain⟨o,T,τ,r,hm,_⟩:=(ka p hp).ex;exact⟨_,hm,rfl⟩
  have Sp:∀ p∈SL,∃ x∈X,x.1=p.i:=λ p hp=>⟨_,(kY p hp).mem,rfl⟩;have hun:∃ k,k<hi/\¬ (listed.getD k false=true):=by
   rcases R with _|⟨i,R⟩
   .rcases X with _|⟨x,X⟩
    .exact absurd ⟨rfl,rfl⟩ E8
    .have:=(hX x (by simp)).1;refine⟨x.1,this,λ hh=>((hl x.1 (by omega)).1 hh).2.2.elim (λ q=>q x (by simp) rfl) λ q=>?_⟩;rcases a8t.1 q with q|q
     .obtain⟨p,hp,e⟩:=a8w.1 q;exact LG ⟨x,X,p,rfl,hp,e⟩
     .obtain⟨p,hp,e⟩:=a8w.1 q;exact G8 ⟨x,X,p,rfl,hp,e⟩
   .have:=(hR i (by simp)).1;exact⟨i,this,λ hh=>((hl i (by omega)).1 hh).2.1 (by simp)⟩
  have Hf:PL.length+SL.length<R.length+X.length:=by
   rcases R with _|⟨i,R⟩
   .rcases X with _|⟨x,X⟩
    .exact absurd ⟨rfl,rfl⟩ E8
    .have zA:(PL.map PE.i++SL.map XE.i) ⊆ X.map (·.1):=λ k hk=>by
      rcases a8t.1 hk with hk|hk
      .obtain⟨p,hp,rfl⟩:=a8w.1 hk;obtain⟨y,hy,e⟩:=YP p hp;rcases a8G.1 hy with rfl|hy
       .exact absurd ⟨_,_,p,rfl,hp,e.symm⟩ LG
       .exact a8w.2 ⟨y,hy,e⟩
      .obtain⟨p,hp,rfl⟩:=a8w.1 hk;obtain⟨y,hy,e⟩:=Sp p hp;rcases a8G.1 hy with rfl|hy
       .exact absurd ⟨_,_,p,rfl,hp,e.symm⟩ G8
       .exact a8w.2 ⟨y,hy,e⟩
     have:=b0P KJ zA;simp at this ⊢;omega
   .have zA:(PL.map PE.i++SL.map XE.i) ⊆ X.map (·.1):=λ k hk=>by
     rcases a8t.1 hk with hk|hk
     .obtain⟨p,hp,rfl⟩:=a8w.1 hk;obtain⟨y,hy,e⟩:=YP p hp;exact a8w.2 ⟨y,hy,e⟩
     .obtain⟨p,hp,rfl⟩:=a8w.1 hk;obtain⟨y,hy,e⟩:=Sp p hp;exact a8w.2 ⟨y,hy,e⟩
    have:=b0P KJ zA;simp at this ⊢;omega
  obtain⟨fuel,rfl⟩:∃ f,fuel=f+1:=⟨fuel - 1,by omega⟩;obtain⟨k1,rR⟩:=hun;obtain⟨k0,⟨V0,pK⟩,SF⟩:=exists_least (p:=λ k=>k<hi/\¬ (listed.getD k false=true)) k1 rR;have SB:ops[k0]?=some (ops[k0]'(by omega)):=a9n (by omega);constructor
  .intro gO;have:k0∈Region.ready .any ops listed:=(mem_ready bW).2 ⟨_,SB,by
    cases hb:listed.getD k0 false with
    | false=>rfl
    | true=>exact absurd hb pK,λ e he hb=>by
    have bm:=bJ dq k0 ops[k0] (by simp) e he hb;exact b1j λ hh=>SF e.on bm ⟨by omega,hh⟩⟩
   rw[gO] at this;cases this
  .intro i mn;obtain⟨o,bV,h1,h2⟩:=(mem_ready bW).1 mn;have DQ:=(Array.getElem?_eq_some_iff.1 bV).1;have dM:ops.toList[i]?=some o:=by simpa using bV
   have zy:=AG (l:=ops.toList) (D:=λ k=>listed.getD k false=true/\k<ops.size) (λ k hk o' cF e he hb=>⟨Ar k hk.2 hk.1 o' cF e he hb,by
    have:=bJ dq k o' cF e he hb;have:=hk.2;omega⟩) i o dM (λ e he hb=>⟨h2 e he hb,by
    have:=bJ dq i o dM e he hb;omega⟩)
   have pJ:i<hi:=by
    rcases a8Q i hi with h|h
    .exact h
    .exact absurd (zy k0 (ni i o h dM k0 V0)).1 pK
   have zz:∀ k,(listed.setIfInBounds i true).getD k false=true↔listed.getD k false=true\/k=i:=λ k=>pL (by omega);have Sw:∀ k,k<ops.size->(listed.setIfInBounds i true).getD k false=true->∀ o,ops.toList[k]?=some o->∀ e∈o.after.toList,Region.binds .any e=true->(listed.setIfInBounds i true).getD e.on false=true:=by
    intro k hk IM o' cF e he hb;rw[zz] at IM ⊢;rcases IM with IM|rfl
    .exact .inl (Ar k hk IM o' cF e he hb)
    .rw[dM] at cF;simp only[a8r] at cF;subst cF;exact .inl (h2 e he hb)
   have Zk:¬ (listed.getD i false=true):=by rw[h1];simp
   have V4:=Zk;rw[hl i DQ] at V4;have hXi:i∉R->∃ x∈X,x.1=i:=λ Fa=>b1j λ hh=>V4 ⟨pJ,Fa, .inl λ x hx e=>hh ⟨x,hx,e⟩⟩;have PF:∀ p∈PL,p.i≠i:=λ p hp e=>by
    obtain⟨x,hx,hxe⟩:=YP p hp;exact V4 ⟨pJ,λ q=>GY i q x hx (by rw[hxe,e]), .inr (a8t.2 (.inl (a8w.2 ⟨p,hp,e⟩)))⟩
   have PG:∀ p∈SL,p.i≠i:=λ p hp e=>by
    obtain⟨x,hx,hxe⟩:=Sp p hp;exact V4 ⟨pJ,λ q=>GY i q x hx (by rw[hxe,e]), .inr (a8t.2 (.inr (a8w.2 ⟨p,hp,e⟩)))⟩
   have GZ:(i,o)∈Seg:=by
    by_cases Fa:i∈R
    .obtain⟨_,o',cF,_,hm,_⟩:=hR i Fa;rw[dM] at cF;simp only[a8r] at cF;subst cF;exact hm
    .obtain⟨x,hx,Dr⟩:=hXi Fa;have:=(hX x hx).2.1;rw[Dr,dM] at this;simp only[a8r] at this;have e:x=(i,o):=by rw[<-Dr,this]
     rw[<-e];exact (hX x hx).2.2
   have hg:o.guard=none:=a1F _ GZ;have YO:∀ p∈PL,o.dst≠some p.d:=λ p hp e=>by
    obtain⟨o2,T,τ,r,hm,aW,Fe,_⟩:=(ka p hp).ex;have hsg:=(hX _ hm).2.2;exact PF p hp (YZ _ hsg _ GZ p.d Fe e)
   have YQ:∀ p∈SL,o.dst≠some p.d:=λ p hp e=>PG p hp (YZ _ (hX _ (kY p hp).mem).2.2 _ GZ p.d (kY p hp).dst e);have YR:∀ p∈SL,∀ t,o.dst=some t->eU [t] p.o=true:=λ p hp t ht=>by
    have hm:=hX _ (kY p hp).mem;have Zf:listed.getD p.i false=true:=(hl p.i (by have:=hm.1;simp only at this;omega)).2 ⟨hm.1,λ q=>GY _ q _ (kY p hp).mem rfl, .inr (a8t.2 (.inr (a8w.2 ⟨p,hp,rfl⟩)))⟩;rcases (kY p hp).run with ⟨hex,_⟩|⟨yK,_⟩;rotate_left
    .exact VB yK.1 _
    refine kF (Y3 _ hm.2.2 hex) λ u hu=>?_;simp only[a8L] at hu;subst hu;refine a8t.2 (.inl (ft.2 ⟨_,a9z.2 ⟨GZ,?_⟩,ht⟩));simp only[a8S];cases hb:Nat.testBit ((bE ops.toList []).getD p.i 0) i with
    | false=>rfl
    | true=>exact absurd (UE p.i p.o (by have:=hm.1;simp only at this;omega) hm.2.1 Zf i hb).1 Zk
   have hw:Region.wanted o (yielded ops a.tmps)=true:=by simp[Region.wanted,hg]
   unfold wpOp;simp only[bV];rw[if_pos hw];refine .inl ?_;by_cases Fa:i∈R
   ·
    obtain⟨_,o',cF,V2,_,eO,hu⟩:=hR i Fa;rw[dM] at cF;simp only[a8r] at cF;subst cF;obtain⟨d,vc,hd,hr,dO⟩:=hs i Fa o dM;obtain⟨x,hx,hvx⟩:=N2 hE hI hr dO;have hu:eU (R.filterMap (bU ops.toList)++(PL.map PE.d++SL.map XE.d)) o=true:=kF hu λ t ht=>by
     rcases a8t.1 ht with ht|ht
     .obtain⟨j,hj,As⟩:=List.mem_filterMap.1 ht;obtain⟨q1,o',q2,_,q3,_⟩:=hR j hj;refine ft.2 ⟨(j,o'),List.mem_filter.2 ⟨q3,?_⟩,by simpa [bU,q2] using As⟩;simp only[Bool.not_eq_true'];cases hb:Nat.testBit ((bE ops.toList []).getD i 0) j with
      | false=>rfl
      | true=>exact absurd hj ((hl j (by omega)).1 (zy j hb).1).2.1
     .obtain⟨zi,zo,hm,SE,Fe⟩:∃ zi zo,(zi,zo)∈X/\cY c.E zo=true/\zo.dst=some t:=by
       rcases a8t.1 ht with ht|ht
       .obtain⟨p,hp,rfl⟩:=a8w.1 ht;obtain⟨o2,T,τ,r,hm,aW,Fe,_⟩:=(ka p hp).ex;exact⟨_,o2,hm,by simp[cY,lq,aW],Fe⟩
       .obtain⟨p,hp,rfl⟩:=a8w.1 ht;exact⟨_,p.o,(kY p hp).mem,(kY p hp).lz,(kY p hp).dst⟩
      have hsg:=(hX _ hm).2.2;by_cases hb:Nat.testBit ((bE ops.toList []).getD i 0) zi=true
      .simp only[kA,a8I,a9c,a9O,a8S] at eO;rcases eO.2 _ hsg with q|q
       .rw[Ae (O2 q)] at SE;cases SE
       .rw[hb] at q;cases q
      .exact ft.2 ⟨_,List.mem_filter.2 ⟨hsg,by simpa using hb⟩,Fe⟩
    unfold Oper.wp;rw[hA.exec hu,hx];show wpAny c.P .any ops Q' fuel _ (a.put o.dst x) w;have OH:(R.erase i).length+1=R.length:=by
     have:=b0n Fa;have:=b0q Fa;omega
    have zA:∀ t,t∈(R.erase i).filterMap (bU ops.toList)->t∈R.filterMap (bU ops.toList):=λ t ht=>by
     obtain⟨q,hq,hqd⟩:=b0l.1 ht;exact b0l.2 ⟨q,a9U hq,hqd⟩
    refine ih fuel Rc X (R.erase i) PL SL G t (a.put o.dst x) (b.put o.dst x) w _ (by omega) (by omega) (by rw[a9P];exact bW) (λ j hj=>?_) hX (IH.erase i) G6 (λ j hj=>GY j (a9U hj)) KJ QG (λ p hp=>(ka p hp).put (YO p hp)) (λ e he=>(kY e he).put hA.da (YQ e he) (YR e he)) (λ k hk=>?_) Sw (by rw[hd];exact Xy hI hvx) (hA.put λ q hq SI=>?_) (λ j hj=>hs j (a9U hj)) _ hK
    .exact hR j (a9U hj)
    .rw[zz,hl k hk,IH.mem_erase_iff];constructor
     .rintro (⟨q1,q2,q3⟩|rfl)
      .exact⟨q1,λ q=>q2 q.2,q3⟩
      .exact⟨pJ,λ q=>q.1 rfl, .inl λ x hx=>(GY _ Fa x hx).symm⟩
     .rintro⟨q1,q2,q3⟩;by_cases Fc:k=i
      .exact .inr Fc
      .exact .inl ⟨q1,λ q=>q2 ⟨Fc,q⟩,q3⟩
    .rcases a8t.1 hq with hq|hq
     .obtain⟨j,hj,As⟩:=b0l.1 hq;by_cases qD:j=i
      .subst qD;rw[<-As];simp[bU,dM]
      .exact absurd (a8t.2 (.inl (b0l.2 ⟨j,IH.mem_erase_iff.2 ⟨qD,hj⟩,As⟩))) SI
     .exact absurd (a8t.2 (.inr hq)) SI
   .obtain⟨x,hx,Dr⟩:=hXi Fa;have hxo:x=(i,o):=by
     have:=(hX x hx).2.1;rw[Dr,dM] at this;simp only[a8r] at this;rw[<-Dr,this]
    subst hxo;have hZ:∀ b,(∃ p∈PL,p.b=b)->sw c G t.af w b:=λ b ⟨p,hp,e⟩=>e ▸ (ka p hp).fr;by_cases WU:lq o.op=true
    ·
     have KM:=LH _ GZ;obtain⟨T,aW⟩:∃ T,o.op = .alloc T:=by
      unfold lq at WU;split at WU
      .exact⟨_,by assumption⟩
      .cases WU
     unfold mU at KM;simp only[aW,Bool.and_eq_true,Option.isSome_iff_exists] at KM;obtain⟨⟨d,hd⟩,E7,⟨⟨τ,r⟩,hT⟩⟩:=KM;simp only[hd,pY,Nat.blt_eq] at E7;obtain⟨w',p,W2,hpd,hpb,cz,rP,hpo,jv⟩:=Qv hE hI (a2:=a) aW hd hT E7 hx;unfold Oper.wp;rw[cz];show wpAny c.P .any ops Q' fuel _ (a.put o.dst p.x) w';rw[hd];refine ih fuel Rc X R (p::PL) SL G t (a.put (some d) p.x) b w' _ (by omega) (by simp;omega) (by rw[Array.size_setIfInBounds];exact bW) hR hX IH G6 GY ?_ ?_ (λ q hq=>?_) (λ e he=>(kY e he).put hA.da (by rw[<-hd];exact YQ e he) (by rw[<-hd];exact YR e he)) (λ k hk=>?_) Sw rP ?_ hs _ hK
     .simp only[a9a,a9i,a8V];refine⟨λ hm=>?_,KJ⟩;rcases a8t.1 hm with hm|hm
      .obtain⟨q,hq,e⟩:=a8w.1 hm;exact PF q hq (by rw[e,W2])
      .obtain⟨q,hq,e⟩:=a8w.1 hm;exact PG q hq (by rw[e,W2])
     .simp only[a9a,a8V];refine⟨λ hm=>?_,QG⟩;obtain⟨q,hq,e⟩:=a8w.1 hm;have:=(ka q hq).fr.2.2.1;rw[e,hpb] at this;exact b1h _ this
     .rcases a8G.1 hq with rfl|hq
      .exact hpo
      .have h3:=(ka q hq).put (d:=some d) (x:=p.x) (by rw[<-hd];exact YO q hq);have bm:=h3.fr.2.2.1;refine⟨h3.ex,h3.val,h3.ptr,h3.lt,?_,h3.fr.grow jv.size⟩;obtain⟨l,ty,q1,q2⟩:=h3.new;exact⟨l,ty,by rw[jv.block q.b bm (λ h=>h)];exact q1,q2⟩
     .rw[zz,hl k hk,a9a,a9i,a8G,W2];constructor
      .rintro (⟨q1,q2,q3⟩|rfl)
       .exact⟨q1,q2,q3.imp id .inr⟩
       .exact⟨pJ,Fa, .inr (.inl rfl)⟩
      .rintro⟨q1,q2,q3⟩;by_cases Fc:k=i
       .exact .inr Fc
       .exact .inl ⟨q1,q2,q3.imp id λ q=>q.resolve_left Fc⟩
     .refine⟨by rw[fB];exact hA.size,by rw[ie];exact hA.da,hA.db,λ u hu=>?_⟩;simp only[List.map_cons,List.cons_append,List.mem_append,List.mem_cons,hpd] at hu;rw[dI,if_neg (λ q=>hu (.inr (.inl (by simpa using q.1.symm))))];exact hA.at' u λ hm=>hu ((List.mem_append.1 hm).imp id λ q => .inr (List.mem_append.1 q))
    by_cases hex:iD o.op=true
    ·
     obtain⟨tt,ix,aW⟩:∃ tt ix,o.op = .extract tt ix:=by
      have:=hex;unfold iD at this;split at this
      .exact⟨_,_,by assumption⟩
      .cases this
     have a6l:uS t o.op=true:=by
      obtain⟨x0,xs,rfl⟩:∃ x0 xs,X=x0::xs:=by
       cases X with
       | nil=>cases hx
       | cons x0 xs=>exact⟨x0,xs,rfl⟩
      obtain⟨_,h3,_⟩:=Fp hK;unfold Q9 at h3;rw[List.all_eq_true] at h3;have h4:=h3 _ hx;rw[Bool.or_eq_true] at h4;rcases h4 with h4|h4
      .exact h4
      .rw[b1Y] at h4;obtain⟨y,hy,h4⟩:=h4;rw[a8I,a8S] at h4;have h5:=(zy y.1 h4.2).1;have h6:=(hX y hy).1;rcases ((hl y.1 (by omega)).1 h5).2.2 with h7|h7
       .exact absurd rfl (h7 y hy)
       .have hyl:cY c.E y.2=true:=by
         have e0:=(hX y hy).2.1;rcases a8t.1 h7 with h7|h7
         .obtain⟨p,hp,e⟩:=a8w.1 h7;obtain⟨o2,T,τ,r,hm,M1,Fe,_⟩:=(ka p hp).ex;have e1:=(hX _ hm).2.1;simp only at e1;rw[e,e0] at e1;simp only[a8r] at e1;rw[e1];simp[cY,lq,M1]
         .obtain⟨p,hp,e⟩:=a8w.1 h7;have e1:=(hX _ (kY p hp).mem).2.1;simp only at e1;rw[e,e0] at e1;simp only[a8r] at e1;rw[e1];simp[(kY p hp).lz]
        rw[hyl] at h4;exact absurd h4.1 (by simp)
     obtain⟨x,cz⟩:=Qz hI aW a6l;have KM:=Y3 _ GZ hex;obtain⟨d,hd⟩:∃ d,o.dst=some d:=by
      have:=LH _ GZ;simp only[mU,aW,Option.isSome_iff_exists] at this;exact this
     have hDu:∀ u,u∈R.filterMap (bU ops.toList)++(PL.map PE.d++SL.map XE.d)->u∈dstsOf (Seg.filter λ y => !Nat.testBit ((bE ops.toList []).getD i 0) y.1)++pj c.E Seg:=λ u hu=>by
      rcases a8t.1 hu with hu|hu
      .obtain⟨j,hj,As⟩:=List.mem_filterMap.1 hu;obtain⟨q1,o',q2,_,q3,_⟩:=hR j hj;refine List.mem_append.2 (.inl (ft.2 ⟨(j,o'),List.mem_filter.2 ⟨q3,?_⟩,by simpa [bU,q2] using As⟩));simp only[Bool.not_eq_true'];cases hb:Nat.testBit ((bE ops.toList []).getD i 0) j with
       | false=>rfl
       | true=>exact absurd hj ((hl j (by omega)).1 (zy j hb).1).2.1
      .rcases a8t.1 hu with hu|hu
       .obtain⟨p,hp,rfl⟩:=a8w.1 hu;obtain⟨o2,T,τ,r,hm,M1,Fe,_⟩:=(ka p hp).ex;exact a8t.2 (.inr (jH c.E (hX _ hm).2.2 (by simp[cY,lq,M1]) Fe))
       .obtain⟨q,hq,rfl⟩:=a8w.1 hu;exact a8t.2 (.inr (jH c.E (hX _ (kY q hq).mem).2.2 (kY q hq).lz (kY q hq).dst))
     have Zq:∀ w',(execOp a.eval o).run c.P w' = .ok (.value x) w':=λ w'=>by
      rw[hA.exec (kF KM hDu)];exact cz w'
     have a4q:eU [d] o=true:=kF KM λ u hu=>by
      simp only[a8L] at hu;subst hu;exact a8t.2 (.inr (jH c.E GZ (by simp[cY,hex]) hd))
     unfold Oper.wp;rw[Zq w];show wpAny c.P .any ops Q' fuel _ (a.put o.dst x) w;rw[hd];refine ih fuel Rc X R PL (⟨i,d,x,o⟩::SL) G t (a.put (some d) x) b w _ (by omega) (by simp;omega) (by rw[Array.size_setIfInBounds];exact bW) hR hX IH G6 GY ?_ QG (λ q hq=>(ka q hq).put (by rw[<-hd];exact YO q hq)) (λ e he=>?_) (λ k hk=>?_) Sw hI ?_ hs _ hK
     .rw[a9a];refine (b1Z.nodup_iff).2 (a8V.2 ⟨λ hm=>?_,KJ⟩);rcases a8t.1 hm with hm|hm
      .obtain⟨q,hq,e⟩:=a8w.1 hm;exact PF q hq e
      .obtain⟨q,hq,e⟩:=a8w.1 hm;exact PG q hq e
     .rcases a8G.1 he with rfl|he
      .refine⟨hx,hd,?_, .inl ⟨hex,λ w'=>?_⟩⟩
       .simp only[dI,fB,b0e];split
        .rfl
        .rename_i bm;first|rfl|(rw[a9d,a9M (by omega)];rfl)
       .have YK:kP [d] (a.put (some d) x) a:=⟨fB a _ x,by rw[ie];exact hA.da,hA.da,λ u hu=>by rw[dI,if_neg (λ q=>hu (by simpa using q.1.symm))]⟩;show (execOp (a.put (some d) x).eval o).run c.P w'=_;rw[YK.exec a4q];exact Zq w'
      .exact (kY e he).put hA.da (by rw[<-hd];exact YQ e he) (by rw[<-hd];exact YR e he)
     .rw[zz,hl k hk,a9a];constructor
      .rintro (⟨q1,q2,q3⟩|rfl)
       .refine⟨q1,q2,q3.imp (λ q=>q) λ q=>?_⟩;rcases a8t.1 q with q|q
        .exact a8t.2 (.inl q)
        .exact a8t.2 (.inr (a9p _ q))
       .exact⟨pJ,Fa, .inr (a8t.2 (.inr (b0u ..)))⟩
      .rintro⟨q1,q2,q3⟩;by_cases Fc:k=i
       .exact .inr Fc
       .refine .inl ⟨q1,q2,q3.imp (λ q=>q) λ q=>?_⟩;rcases a8t.1 q with q|q
        .exact a8t.2 (.inl q)
        .exact a8t.2 (.inr ((a8G.1 q).resolve_left Fc))
     .refine⟨by rw[fB];exact hA.size,by rw[ie];exact hA.da,hA.db,λ u hu=>?_⟩;simp only[List.map_cons,List.mem_append,List.mem_cons] at hu;rw[dI,if_neg (λ q=>hu (.inr (.inr (.inl (by simpa using q.1.symm)))))];exact hA.at' u λ hm=>hu ((List.mem_append.1 hm).imp (λ q=>q) λ q=>(List.mem_append.1 q).imp (λ q=>q) .inr)
    by_cases yK:rT o.op=true/\B8 c.E o=true
    ·
     have KM:=LH _ GZ;obtain⟨d,hd⟩:∃ d,o.dst=some d:=by
      obtain⟨T,aW⟩:=HB yK.1;unfold mU at KM;rw[aW,yK.2] at KM;cases hd:o.dst with
      | some d=>exact⟨d,rfl⟩
      | none=>rw[hd] at KM;simp at KM
     obtain⟨w',x,cz,rP,QZ,jv⟩:=Sd hE hI (a2:=a) yK KM hd;unfold Oper.wp;rw[cz];show wpAny c.P .any ops Q' fuel _ (a.put o.dst x) w';rw[hd];refine ih fuel Rc X R PL (⟨i,d,x,o⟩::SL) G t (a.put (some d) x) b w' _ (by omega) (by simp;omega) (by rw[Array.size_setIfInBounds];exact bW) hR hX IH G6 GY ?_ QG (λ q hq=>?_) (λ e he=>?_) (λ k hk=>?_) Sw rP ?_ hs _ hK
     .rw[a9a];refine (b1Z.nodup_iff).2 (a8V.2 ⟨λ hm=>?_,KJ⟩);rcases a8t.1 hm with hm|hm
      .obtain⟨q,hq,e⟩:=a8w.1 hm;exact PF q hq e
      .obtain⟨q,hq,e⟩:=a8w.1 hm;exact PG q hq e
     .have h3:=(ka q hq).put (d:=some d) (x:=x) (by rw[<-hd];exact YO q hq);have bm:=h3.fr.2.2.1;refine⟨h3.ex,h3.val,h3.ptr,h3.lt,?_,h3.fr.grow jv.size⟩;obtain⟨l,ty,q1,q2⟩:=h3.new;exact⟨l,ty,by rw[jv.block q.b bm (λ h=>h)];exact q1,q2⟩
     .rcases a8G.1 he with rfl|he
      .refine⟨hx,hd,?_, .inr ⟨yK,QZ⟩⟩;simp only[dI,fB,b0e];split
       .rfl
       .rename_i bm;first|rfl|(rw[a9d,a9M (by omega)];rfl)
      .exact (kY e he).put hA.da (by rw[<-hd];exact YQ e he) (by rw[<-hd];exact YR e he)
     .rw[zz,hl k hk,a9a];constructor
      .rintro (⟨q1,q2,q3⟩|rfl)
       .refine⟨q1,q2,q3.imp (λ q=>q) λ q=>?_⟩;rcases a8t.1 q with q|q
        .exact a8t.2 (.inl q)
        .exact a8t.2 (.inr (a9p _ q))
       .exact⟨pJ,Fa, .inr (a8t.2 (.inr (b0u ..)))⟩
      .rintro⟨q1,q2,q3⟩;by_cases Fc:k=i
       .exact .inr Fc
       .refine .inl ⟨q1,q2,q3.imp (λ q=>q) λ q=>?_⟩;rcases a8t.1 q with q|q
        .exact a8t.2 (.inl q)
        .exact a8t.2 (.inr ((a8G.1 q).resolve_left Fc))
     .refine⟨by rw[fB];exact hA.size,by rw[ie];exact hA.da,hA.db,λ u hu=>?_⟩;simp only[List.map_cons,List.mem_append,List.mem_cons] at hu;rw[dI,if_neg (λ q=>hu (.inr (.inr (.inl (by simpa using q.1.symm)))))];exact hA.at' u λ hm=>hu ((List.mem_append.1 hm).imp (λ q=>q) λ q=>(List.mem_append.1 q).imp (λ q=>q) .inr)
    ·
     have a6B:cY c.E o=false:=by
      simp only[cY,Bool.or_eq_false_iff];exact⟨by simpa using WU,by simpa using hex,by
       cases q1:rT o.op
       .rfl
       .cases q2:B8 c.E o
        .rfl
        .exact absurd ⟨q1,q2⟩ yK⟩
     have SE:∀ z∈X,Nat.testBit ((bE ops.toList []).getD i 0) z.1=true->cY c.E z.2=true/\z.1∈PL.map PE.i++SL.map XE.i:=λ z hz hb=>by
      have h3:=(zy z.1 hb).1;have h4:=(hX z hz).1;rcases ((hl z.1 (by omega)).1 h3).2.2 with h5|h5
      .exact absurd rfl (h5 z hz)
      .refine⟨?_,h5⟩;have e0:=(hX z hz).2.1;rcases a8t.1 h5 with h7|h7
       .obtain⟨p,hp,e⟩:=a8w.1 h7;obtain⟨o2,T,τ,r,hm,M1,Fe,_⟩:=(ka p hp).ex;have e1:=(hX _ hm).2.1;simp only at e1;rw[e,e0] at e1;simp only[a8r] at e1;rw[e1];simp[cY,lq,M1]
       .obtain⟨p,hp,e⟩:=a8w.1 h7;have e1:=(hX _ (kY p hp).mem).2.1;simp only at e1;rw[e,e0] at e1;simp only[a8r] at e1;rw[e1];exact (kY p hp).lz
     obtain⟨mm,hu0,hK⟩:=U9 (y:=(i,o)) hK hx G6 (by
      simp only[Ml,a6B,a9r,b2w,a9c,a9O,a8S];intro z hz;cases hb:Nat.testBit ((bE ops.toList []).getD i 0) z.1 with
      | false=>exact .inr rfl
      | true=>exact .inl (SE z hz hb).1) (λ x0 xs e hz=>by
      cases hb:Nat.testBit ((bE ops.toList []).getD i 0) x0.1 with
      | false=>rfl
      | true =>
       rcases a8t.1 (SE x0 (by rw[e];simp) hb).2 with h5|h5
       .obtain⟨p,hp,e'⟩:=a8w.1 h5;exact absurd ⟨x0,xs,p,e,hp,e'⟩ LG
       .obtain⟨p,hp,e'⟩:=a8w.1 h5;exact absurd ⟨x0,xs,p,e,hp,e'⟩ G8)
     have Zv:∀ z,z∈X->z.1≠i->z∈X.filter λ z => !Nat.beq z.1 i:=λ z hz dh=>List.mem_filter.2 ⟨hz,by rw[Wa.2 dh];rfl⟩;have V8:∀ z,z∈(X.filter λ z => !Nat.beq z.1 i)->z∈X/\z.1≠i:=λ z hz=>⟨(List.mem_filter.1 hz).1,Wa.1 (by simpa using (List.mem_filter.1 hz).2)⟩;have ns:(X.filter λ z => !Nat.beq z.1 i).length+1=X.length:=Pw hx G6;generalize jG:(X.filter λ z => !Nat.beq z.1 i)=xs at *
     have hxn:(xs.map (·.1)).Nodup:=by rw[<-jG];exact G6.sublist (b1d _ b2D)
     .simp only at hu0 hK;have ep:∀ j∈R,∃ o',ops.toList[j]?=some o'/\(j,o')∈Rc.filter λ r => !Nat.testBit ((bE ops.toList []).getD i 0) r.1:=λ j hj=>by
       obtain⟨q1,o',q2,q3,_,_⟩:=hR j hj;refine⟨o',q2,a9z.2 ⟨q3,?_⟩⟩;simp only[a8S];cases hb:Nat.testBit ((bE ops.toList []).getD i 0) j with
       | false=>rfl
       | true=>exact absurd hj ((hl j (by omega)).1 (zy j hb).1).2.1
      have hu:eU (R.filterMap (bU ops.toList)++(PL.map PE.d++SL.map XE.d)) o=true:=kF hu0 λ t ht=>by
       rcases a8t.1 ht with ht|ht
       .obtain⟨j,hj,As⟩:=List.mem_filterMap.1 ht;obtain⟨o',q2,q3⟩:=ep j hj;exact List.mem_append.2 (.inl (ft.2 ⟨(j,o'),q3,by simpa [bU,q2] using As⟩))
       .rcases a8t.1 ht with ht|ht
        .obtain⟨p,hp,rfl⟩:=a8w.1 ht;obtain⟨o2,T,τ,r,hm,aW,Fe,_⟩:=(ka p hp).ex;exact a8t.2 (.inr (jH c.E (Zv _ hm (PF p hp)) (by simp[cY,lq,aW]) Fe))
        .obtain⟨p,hp,rfl⟩:=a8w.1 ht;exact a8t.2 (.inr (jH c.E (Zv _ (kY p hp).mem (PG p hp)) ((kY p hp).lz) (kY p hp).dst))
      have hIz:=hI.fz hZ;refine XO (hA.exec hu) ?_ ?_ (HP (c:=c.fz w G.S λ b=>∃ p∈PL,p.b=b) hE hIz hK (Q:=λ _ _ _=>False))
      .rintro x w' ⟨G',s',a6b,hsr⟩;obtain⟨rP,iA⟩:=hI.a7j hZ a6b;obtain⟨k1,k2⟩:=iQ hsr;refine ih fuel _ xs R PL SL G' s' (a.put o.dst x) (b.put o.dst x) w' _ (by omega) (by omega) (by rw[a9P];exact bW) (λ j hj=>?_) (λ y hy=>hX y (V8 y hy).1) IH hxn (λ j hj y hy=>GY j hj y (V8 y hy).1) KJ QG (λ p hp=>?_) (λ e he=>?_) (λ k hk=>?_) Sw rP (hA.put λ q hq SI=>absurd hq SI) (λ j hj o' cF=>?_) _ k2
       .obtain⟨q1,o',q2,q3,q4,q7⟩:=hR j hj;obtain⟨o2,q5,q6⟩:=ep j hj;have e:o'=o2:=by rw[q2] at q5;simpa using q5
        subst e;exact⟨q1,o',q2,q6,q4,q7⟩
       .have h3:=(ka p hp).put (d:=o.dst) (x:=x) (YO p hp);obtain⟨e1,e2⟩:=iA p.b ⟨p,hp,rfl⟩;refine⟨?_,h3.val,h3.ptr,h3.lt,?_,e2⟩
        .obtain⟨o2,T,τ,r,hm,m2,m3,m4,m5⟩:=h3.ex;exact⟨o2,T,τ,r,Zv _ hm (PF p hp),m2,m3,m4,m5⟩
        .obtain⟨l,ty,q1,q2⟩:=h3.new;exact⟨l,ty,by rw[e1];exact q1,q2⟩
       .have h3:=(kY e he).put (x:=x) hA.da (YQ e he) (YR e he);exact⟨Zv _ h3.mem (PG e he),h3.dst,h3.val,h3.run⟩
       .rw[zz,hl k hk];constructor
        .rintro (⟨q1,q2,q3⟩|rfl)
         .exact⟨q1,q2,q3.imp (λ q y hy=>q y (V8 y hy).1) λ q=>q⟩
         .exact⟨pJ,Fa, .inl λ y hy e=>(V8 y hy).2 e⟩
        .rintro⟨q1,q2,q3⟩;by_cases Fc:k=i
         .exact .inr Fc
         .refine .inl ⟨q1,q2,q3.imp (λ q y hy=>?_) λ q=>q⟩;by_cases e:y.1=i
          .rw[e];exact b2J Fc
          .exact q y (Zv y hy e)
       .obtain⟨o2,q5,q6⟩:=ep j hj;rw[q5] at cF;simp only[a8r] at cF;subst cF;exact k1 (j,o2) q6
      .rintro b' w' ⟨G',s',rP,_⟩;exact rP.defers
end
theorem u6{bK:List Nat}{p:Nat}(h:Nb bK p=true){j k:Nat}(hj:p<=j)(hl:j<bK.length)(hk:k<p):Nat.testBit (bK.getD j 0) k=true:=by
 unfold Nb at h;rw[List.all_eq_true] at h;have hm:bK[j]∈bK.drop p:=by
  rw[List.mem_iff_getElem?];refine⟨j - p,?_⟩;rw[b0t,show p+(j - p)=j by omega,a8H hl]
 have h1:=Nat.eq_of_beq_eq_true (h _ hm);rw[List.getD_eq_getElem?_getD,List.getElem?_eq_getElem hl,Option.getD_some];have h2:Nat.testBit (bK[j] % 2 ^ p) k=true:=by rw[h1,Nat.testBit_two_pow_sub_one];simpa using hk
 rw[Nat.testBit_mod_two_pow] at h2;simp only[a8I] at h2;exact h2.2
theorem P0{l:List Oper}{es:List Ig}{lo m bits:Nat}{s0:ag}{π π':List Nat}(nj:∀ j k t,lo<=j->j<m->lo<=k->k<m->bU l j=some t->bU l k=some t->j=k)
  (U3:∀ k∈π,lo<=k/\k<m) (M8:∀ k∈π',lo<=k/\k<m) (hn:π.Nodup) (rS:π'.Nodup) (ha:∀ k,lo<=k->k<m->Nat.testBit bits k=true->k∈π/\k∈π') (t:Nat) (hh:hidden l m bits t=false) :
  (du l es s0 π).sl t=(du l es s0 π').sl t/\(du l es s0 π).af t=(du l es s0 π').af t:=by
 by_cases hex:∃ k,lo<=k/\k<m/\bU l k=some t
 .obtain⟨k,bO,hk,hd⟩:=hex;have hb:Nat.testBit bits k=true:=by
   have:=hh;unfold hidden at this;rw[List.any_eq_false] at this;have:=this k (by simpa using hk);simp only[hd] at this;simp only[Nat.beq_refl] at this;simpa using this
  obtain⟨h1,h2⟩:=ha k bO hk hb;obtain⟨e1,e2⟩:=ug l es t k hd π s0 h1 hn (λ j hj dh As=>dh (nj j k t (U3 j hj).1 (U3 j hj).2 bO hk As hd));obtain⟨e3,e4⟩:=ug l es t k hd π' s0 h2 rS (λ j hj dh As=>dh (nj j k t (M8 j hj).1 (M8 j hj).2 bO hk As hd));exact⟨e1.trans e3.symm,e2.trans e4.symm⟩
 .have gP:∀ k,lo<=k->k<m->bU l k≠some t:=λ k hl hk hd=>hex ⟨k,hl,hk,hd⟩;obtain⟨e1,e2⟩:=fv l es t π s0 (λ k hk=>gP k (U3 k hk).1 (U3 k hk).2);obtain⟨e3,e4⟩:=fv l es t π' s0 (λ k hk=>gP k (M8 k hk).1 (M8 k hk).2);exact⟨e1.trans e3.symm,e2.trans e4.symm⟩
def ey(lo i:Nat):List Nat:=List.range' lo (i - lo)
theorem x8{lo i k:Nat}:k∈ey lo i↔lo<=k/\k<i:=by
 unfold ey;rw[List.mem_range'_1];omega
theorem Fz(lo i:Nat):(ey lo i).Nodup:=List.nodup_range'
theorem XA{lo i:Nat}(h:lo<=i):ey lo (i+1)=ey lo i++[i]:=by
 unfold ey;rw[show i+1 - lo=(i - lo)+1 by omega,List.range'_1_concat,show lo+(i - lo)=i by omega]
theorem Ou{E:Env}{l:List Oper}{m lo:Nat}{bK:List Nat}{s0:ag}:∀ (r:List Oper) (i:Nat) (es wy:List Ig) (s s':ag),Trace E l m bK i r es s s'->(∀ j o,r[j]?=some o->l[i+j]?=some o)->wy.length=i->lo<=i ->
  s=du l (wy++es) s0 (ey lo i) ->
  (∀ j o,r[j]?=some o->LS E l m (bK.getD (i+j) 0) (du l (wy++es) s0 (ey lo (i+j))) o ((wy++es).getD (i+j) ⟨false, .any,none⟩))/\s'=du l (wy++es) s0 (ey lo (i+r.length))
 | [],i,[],wy,s,s',h,_,_,_,hs=>by
  have h:s=s':=h;subst h;exact⟨by simp,by simpa using hs⟩
 | o::r,i,e::es,wy,s,s',h,hl,h0,hlo,hs=>by
  obtain⟨h1,h2⟩:=h;have ho:l[i]?=some o:=hl 0 o rfl;have Kd:(wy++e::es).getD i ⟨false, .any,none⟩=e:=by simp[a8D,<-h0]
  have bQ:s.gR o.dst e.v e.ob=du l ((wy++[e])++es) s0 (ey lo (i+1)):=by
   rw[a8Y,XA hlo,sn,b0Z,Kd,<-hs];simp[bU,ho]
  have ih:=Ou r (i+1) es (wy++[e]) _ s' h2 (λ j p hj=>by
   have:=hl (j+1) p (by simpa using hj);rwa [show i+(j+1)=i+1+j by omega] at this) (by simp[h0]) (by omega) bQ
  rw[a8Y,b0Z] at ih;refine⟨λ j p hj=>?_,by rw[ih.2];congr 2;simp;omega⟩;cases j with
  | zero =>
   simp at hj;subst hj;rw[b0m,Kd,<-hs];exact h1
  | succ j =>
   have:=ih.1 j p (by simpa using hj);rwa [show i+1+j=i+(j+1) by omega] at this
 | [],_,_::_,_,_,_,h,_,_,_,_=>h.elim
 | _::_,_,[],_,_,_,h,_,_,_,_=>h.elim
theorem NN:∀ (l π:List Nat),l.Nodup->(∀ k∈l,k∈π)->l.length<=π.length
 | [],_,_,_=>by simp
 | x::l,π,hn,h=>by
  have rS:=a8V.1 hn;have hx:=h x (by simp);have h1:=NN l (π.erase x) rS.2 (λ k hk=>by
   have dh:k≠x:=λ e=>by subst e;exact rS.1 hk
   exact (b0D dh).2 (h k (by simp[hk])))
  have h3:=b0n hx;have:0<π.length:=b0q hx;simp only[a8F];omega
theorem NM{lo m:Nat}(π:List Nat)(hn:π.Nodup)(h:∀ k∈π,lo<=k/\k<m):π.length<=m - lo:=by
 have h1:(List.range lo++π).Nodup:=by
  rw[a8M];refine⟨b1V,hn,λ x hx y hy e=>?_⟩;simp at hx;have:=(h y hy).1;omega
 have h2:=sj (max lo m) (List.range lo++π) h1 (λ k hk=>by
  rcases a8t.1 hk with hk|hk
  .simp at hk;omega
  .have:=(h k hk).2;omega)
 rw[a8E,List.length_range] at h2;cases π with
 | nil=>simp
 | cons k r =>
  have:=h k (by simp);omega
section
variable {c:Ctx} {G:Gh} {s:ag} {a:Act} {w w':World}
theorem Z6(hE:bu c.P c.E){ops:Array Oper}{j:Nat}(dq:backward ops.toList=true)(hj:j<ops.size)(hcut:∀ i,j<i->i<ops.size->Nat.testBit ((bE ops.toList []).getD i 0) j=true)
  {P:ag->Prop} {Q':Exit->Act->World->Prop} {fuel:Nat} {kn:List (Nat×Bool)} {listed:Array Bool} (bW:listed.size=ops.size) (hl:∀ k,k<ops.size->(listed.getD k false=true↔k<j))
  (hI:Inv c G s a w) (hr:ei c.E ops [ops[j]] kn P s)
  (tC:∀ G s a w (listed:Array Bool),listed.size=ops.size->(∀ k,k<ops.size->(listed.getD k false=true↔k<j+1))->Inv c G s a w->P s->wpAny c.P .any ops Q' fuel listed a w):wpAny c.P .any ops Q' (fuel+1) listed a w:=by
 have ho:ops[j]?=some ops[j]:=a9n hj;constructor
 .intro gO;have:j∈Region.ready .any ops listed:=(mem_ready bW).2 ⟨_,ho,by
   cases hb:listed.getD j false with
   | false=>rfl
   | true=>have:=(hl j hj).1 hb;omega,λ e he hb=>by
   have:=bJ dq j ops[j] (by simp) e he hb;exact (hl e.on (by omega)).2 this⟩
  rw[gO] at this;cases this
 .intro i hi;obtain⟨o,bV,h1,h2⟩:=(mem_ready bW).1 hi;have DQ:=(a9H.1 bV).1;have E9:j<=i:=by
   rcases a8Q i j with h|h
   .have:=(hl i DQ).2 h;rw[h1] at this;cases this
   .exact h
  have nQ:i=j:=by
   rcases a8Q j i with h|h
   .have ep:=AG (l:=ops.toList) (D:=λ k=>k<j) (λ k hk o' cF e he hb=>by
     have:=bJ dq k o' cF e he hb;omega) i o (by simpa using bV) (λ e he hb=>by
      have bm:=bJ dq i o (by simpa using bV) e he hb;exact (hl e.on (by omega)).1 (h2 e he hb)) j (hcut i h DQ)
    omega
   .omega
  subst nQ;have zz:∀ k,k<ops.size->((listed.setIfInBounds i true).getD k false=true↔k<i+1):=λ k hk=>by
   rw[pL (by omega),hl k hk];omega
  unfold wpOp;simp only[ho];have tF:=yj hE hI hr;split at tF
  .rename_i hw;rw[a8A hw];exact .inl (a9S (λ a' w' ⟨G',s',mw,h1,h2⟩=>tC G' s' a' w' _ (by rw[a9P];exact bW) zz h1 h2) (tF Q'))
  .rename_i hw;rw[a8v hw];obtain⟨G',s',mw,h1,h2⟩:=tF;exact tC G' s' _ w _ (by rw[a9P];exact bW) zz h1 h2
theorem X8(hE:bu c.P c.E){ops:Array Oper}{lo m:Nat}{es:List Ig}{s0:ag}(dq:backward ops.toList=true)(hm:m<=ops.size)
  (ni:∀ j o,m<=j->ops.toList[j]?=some o->∀ k,k<m->Nat.testBit ((bE ops.toList []).getD j 0) k=true)
  (a6z:∀ j o,lo<=j->ops.toList[j]?=some o->∀ k,k<lo->Nat.testBit ((bE ops.toList []).getD j 0) k=true)
  (nj:∀ j k t,lo<=j->j<m->k<m->bU ops.toList j=some t->bU ops.toList k=some t->j=k)
  (Y2:∀ i o,lo<=i->i<m->ops.toList[i]?=some o->LS c.E ops.toList m ((bE ops.toList []).getD i 0) (du ops.toList es s0 (ey lo i)) o (es.getD i ⟨false, .any,none⟩))
  (E7:∀ i o,lo<=i->i<m->ops.toList[i]?=some o->pY o.dst=true) (oJ:∀ i o t,lo<=i->i<m->ops.toList[i]?=some o->sP o.op=true->o.dst=some t->s0.af t=none)
  {Q':Exit->Act->World->Prop}
  (MU:∀ (fuel:Nat) (G:Gh) (a:Act) (w:World) (listed:Array Bool),ops.size=m+fuel->listed.size=ops.size->(∀ k,k<ops.size->(listed.getD k false=true↔k<m))->Inv c G (du ops.toList es s0 (ey lo m)) a w->wpAny c.P .any ops Q' fuel listed a w) :
  ∀ (fuel:Nat) (π:List Nat) (G:Gh) (a:Act) (w:World) (listed:Array Bool),ops.size=lo+π.length+fuel->π.Nodup->(∀ k∈π,lo<=k/\k<m)->listed.size=ops.size->(∀ k,k<ops.size->(listed.getD k false=true↔k<lo\/k∈π)) ->
   (∀ k∈π,∀ o,ops.toList[k]?=some o->∀ e∈o.after.toList,Region.binds .any e=true->e.on<lo\/e.on∈π)->lo<=m->Inv c G (du ops.toList es s0 π) a w->wpAny c.P .any ops Q' fuel listed a w:=by
 have Y1:∀ j k t,lo<=j->j<m->lo<=k->k<m->bU ops.toList j=some t->bU ops.toList k=some t->j=k:=λ j k t h1 h2 _ h4=>nj j k t h1 h2 h4;have fin:∀ (fuel:Nat) (π:List Nat) (G:Gh) (a:Act) (w:World) (listed:Array Bool),ops.size=lo+π.length+fuel->π.Nodup->(∀ k∈π,lo<=k/\k<m)->listed.size=ops.size->(∀ k,k<ops.size->(listed.getD k false=true↔k<lo\/k∈π)) ->
   lo<=m->(∀ k,lo<=k->k<m->k∈π)->Inv c G (du ops.toList es s0 π) a w->wpAny c.P .any ops Q' fuel listed a w:=by
  intro fuel π G a w listed hf hn bm bW hl QT jF hI;have hlen:=NM π hn bm;have E9:m - lo<=π.length:=by
   have h2:(ey lo m).length<=π.length:=NN (ey lo m) π (Fz lo m) λ k hk=>jF k (x8.1 hk).1 (x8.1 hk).2;simpa [ey] using h2
  have heq:∀ t,(du ops.toList es s0 π).sl t=(du ops.toList es s0 (ey lo m)).sl t/\(du ops.toList es s0 π).af t=(du ops.toList es s0 (ey lo m)).af t:=λ t =>
   P0 (bits:=2 ^ m - 1) Y1 bm (λ k hk=>x8.1 hk) hn (Fz lo m) (λ k bO hk _=>⟨jF k bO hk,x8.2 ⟨bO,hk⟩⟩) t (by
    unfold hidden;rw[List.any_eq_false];intro k hk;simp only[List.mem_range] at hk;split
    .split
     .simp[b1a,hk]
     .simp
    .simp)
  refine MU fuel G a w listed (by omega) bW (λ k hk=>?_) ?_
  .rw[hl k hk];constructor
   .rintro (h|h)
    .omega
    .exact (bm k h).2
   .intro h;rcases a8Q k lo with h'|h'
    .exact .inl h'
    .exact .inr (jF k h' h)
  .unfold Inv at hI ⊢;rw[Ht] at hI ⊢;rw[<-funext λ t=>(heq t).1,<-funext λ t=>(heq t).2];exact hI
 intro fuel;induction fuel with
 | zero =>
  intro π G a w listed hf hn bm bW hl tB QT hI;refine fin 0 π G a w listed hf hn bm bW hl QT (λ k bO hk=>?_) hI;cases hb:decide (k∈π) with
  | true=>exact a8U hb
  | false =>
   have:=NM (lo:=lo) (m:=m) (k::π) (a8V.2 ⟨b1k hb,hn⟩) (λ j hj=>by
    rcases a8G.1 hj with rfl|hj
    .exact⟨bO,hk⟩
    .exact bm j hj)
   simp at this;omega
 | succ fuel ih =>
  intro π G a w listed hf hn bm bW hl tB QT hI;by_cases jF:∀ k,lo<=k->k<m->k∈π
  .exact fin (fuel+1) π G a w listed hf hn bm bW hl QT jF hI
  ·
   have hex:∃ k,lo<=k/\k<m/\k∉π/\∀ j,lo<=j->j<k->j∈π:=by
    have:∀ n,(∃ k,k<n/\lo<=k/\k<m/\k∉π)->∃ k,lo<=k/\k<m/\k∉π/\∀ j,lo<=j->j<k->j∈π:=by
     intro n;induction n with
     | zero=>rintro⟨k,hk,_⟩;omega
     | succ n U5 =>
      rintro⟨k,hk,IM,hkm,jv⟩;by_cases hs:∃ k,k<n/\lo<=k/\k<m/\k∉π
      .exact U5 hs
      .refine⟨k,IM,hkm,jv,λ j Za hj=>?_⟩;cases hb:decide (j∈π) with
       | true=>exact a8U hb
       | false=>exact absurd ⟨j,by omega,Za,by omega,b1k hb⟩ hs
    refine this m ?_;obtain⟨k,hk⟩:=b0C.1 jF;have h2:=b0A.1 hk;have h3:=b0A.1 h2.2;exact⟨k,h3.1,h2.1,h3.1,h3.2⟩
   obtain⟨k0,a8k,V0,pK,SF⟩:=hex;have SB:ops[k0]?=some (ops[k0]'(by omega)):=a9n (by omega);constructor
   .intro gO;have:k0∈Region.ready .any ops listed:=(mem_ready bW).2 ⟨_,SB,by
     cases hb:listed.getD k0 false with
     | false=>rfl
     | true =>
      rcases (hl k0 (by omega)).1 hb with h|h
      .omega
      .exact absurd h pK,λ e he hb=>by
     have Kf:=bJ dq k0 ops[k0] (by simp) e he hb;refine (hl e.on (by omega)).2 ?_;rcases a8Q e.on lo with h|h
     .exact .inl h
     .exact .inr (SF e.on h Kf)⟩
    rw[gO] at this;cases this
   .intro i hi;obtain⟨o,bV,h1,h2⟩:=(mem_ready bW).1 hi;have DQ:=(Array.getElem?_eq_some_iff.1 bV).1;have dM:ops.toList[i]?=some o:=by simpa using bV
    have yK:¬ (i<lo\/i∈π):=λ hh=>by
     have:=(hl i DQ).2 hh;rw[h1] at this;cases this
    have rQ:i∉π:=λ h=>yK (.inr h);have hil:lo<=i:=by
     rcases a8Q i lo with h|h
     .exact absurd (.inl h) yK
     .exact h
    have MT:∀ e∈o.after.toList,Region.binds .any e=true->e.on<lo\/e.on∈π:=λ e he hb=>by
     have Kf:=bJ dq i o dM e he hb;exact (hl e.on (by omega)).1 (h2 e he hb)
    have zy:=AG (l:=ops.toList) (D:=λ k=>k<lo\/k∈π) (λ k hk o' cF e he hb=>by
     rcases hk with hk|hk
     .have:=bJ dq k o' cF e he hb;exact .inl (by omega)
     .exact tB k hk o' cF e he hb) i o dM MT
    have pJ:i<m:=by
     rcases a8Q i m with h|h
     .exact h
     .rcases zy k0 (ni i o h dM k0 V0) with h|h
      .omega
      .exact absurd h pK
    have G9:=AG (l:=ops.toList) (D:=λ k=>k<i) (λ k hk o' cF e he hb=>by
     have:=bJ dq k o' cF e he hb;omega) i o dM (λ e he hb=>bJ dq i o dM e he hb)
    have Fg:=λ t hh=>P0 (l:=ops.toList) (es:=es) (s0:=s0) (lo:=lo) (m:=m) (bits:=(bE ops.toList []).getD i 0) (π:=π) (π':=ey lo i) Y1 bm (λ k hk=>by have:=x8.1 hk;omega) hn (Fz lo i)
     (λ k bO hk hb=>⟨by
      rcases zy k hb with h|h
      .omega
      .exact h,x8.2 ⟨bO,G9 k hb⟩⟩) t hh
    obtain⟨hg,cz,UW⟩:=Y2 i o hil pJ dM;have cE:OD ops.toList m ((bE ops.toList []).getD i 0) (du ops.toList es s0 (ey lo i))=OD ops.toList m ((bE ops.toList []).getD i 0) (du ops.toList es s0 π):=by
     funext x;cases x with
     | tmp t =>
      simp only[OD];split
      .rfl
      .rename_i hh;exact ((Fg t hh).1).symm
     | _=>rfl
    have bO:Ln ops.toList m ((bE ops.toList []).getD i 0) (du ops.toList es s0 (ey lo i))=Ln ops.toList m ((bE ops.toList []).getD i 0) (du ops.toList es s0 π):=by
     funext t;simp only[Ln];split
     .rfl
     .rename_i hh;exact ((Fg t hh).2).symm
    have hg':eZ ops.toList ((bE ops.toList []).getD i 0) (du ops.toList es s0 π) o (es.getD i ⟨false, .any,none⟩).DA:=by
     unfold eZ at hg ⊢;split
     .rename_i rS;simpa [rS] using hg
     .rename_i g want rS;simp only[rS] at hg;obtain⟨t,b,q1,q2,q3,q4⟩:=hg;refine⟨t,b,q1,q2,?_,q4⟩;have hgm:g<m:=Nat.lt_trans (G9 g q2) pJ;have hh:hidden ops.toList m ((bE ops.toList []).getD i 0) t=false:=by
       unfold hidden;rw[List.any_eq_false];intro k hk;simp only[List.mem_range] at hk;split
       .rename_i d hd;split
        .rename_i Bm;have Bm:=a8s Bm;subst Bm;rcases a8Q k lo with IM|IM
         .rw[a6z i o hil dM k IM];simp
         .have:=nj k g d IM hk hgm hd q1;subst this;rw[q2];simp
        .simp
       .simp
      exact ((Fg t hh).1).trans q3
    have hw:=DP (ops:=ops) rfl hI hg';have tC:∀ (G':Gh) (a':Act) (w':World),Inv c G' (du ops.toList es s0 (π++[i])) a' w'->wpAny c.P .any ops Q' fuel (listed.setIfInBounds i true) a' w':=by
     intro G' a' w' rP;refine ih (π++[i]) G' a' w' _ (by simp;omega) ?_ ?_ (by rw[a9P];exact bW) ?_ ?_ QT rP
     .rw[a8M];exact⟨hn,by simp,λ x hx y hy=>by simp at hy;subst hy;exact λ e=>rQ (e ▸ hx)⟩
     .intro k hk;rcases a8t.1 hk with hk|hk
      .exact bm k hk
      .simp at hk;omega
     .intro k hk;rw[pL (by omega),hl k hk];simp[or_assoc]
     .intro k hk o' cF e he hb;rcases a8t.1 hk with hk|hk
      .exact (tB k hk o' cF e he hb).imp id (a9Y _)
      .simp at hk;subst hk;rw[dM] at cF;simp only[a8r] at cF;subst cF;exact (MT e he hb).imp id (a9Y _)
    have QO:bU ops.toList i=o.dst:=by simp[bU,dM]
    unfold wpOp;simp only[bV];cases Hg:(es.getD i ⟨false, .any,none⟩).DA with
    | true =>
     rw[Hg] at hw;rw[a8A hw];obtain⟨vc,hq,dO⟩:=cz Hg;rw[cE,bO] at hq;refine .inl (a9S ?_ (Fw hE hI (lk':=Ln ops.toList m ((bE ops.toList []).getD i 0) (du ops.toList es s0 π)) ?_ ?_ hq dO))
     .intro a' w' hd;obtain⟨G',nm⟩:=Kj hI (E7 i o hil pJ dM) (λ t ob Bm Au=>by
       rw[Au] at hq;have QN:=HK hq;have h0:=oJ i o t hil pJ dM QN Bm;have xA:=(fv ops.toList es t π s0 (λ k hk hkd=>by
        have:=nj k i t (bm k hk).1 (bm k hk).2 pJ hkd (by rw[QO];exact Bm);subst this;exact rQ hk)).2
       rw[xA,h0]) hd
      refine tC G' a' w' ?_;rw[sn,QO];exact nm
     .intro id ob aL;unfold Ln at aL;split at aL
      .cases aL
      .exact aL
     .intro x;cases x with
      | tmp t =>
       simp only[OD];split
       .trivial
       .exact aR hI (.tmp t)
      | const v=>exact aR hI (.const v)
      | global g=>exact aR hI (.global g)
      | func f=>exact aR hI (.func f)
    | false =>
     rw[Hg] at hw;rw[hw];obtain⟨hv,Au⟩:=UW Hg;refine tC G _ w ?_;rw[sn,QO,hv,Au,Jc];exact Inv.put (v := .dG) hI rfl
theorem Cf{α:Type}{l:List α}{lo hi j:Nat}{o:α}(h:((l.take hi).drop lo)[j]?=some o):l[lo+j]?=some o/\lo+j<hi:=by
 rw[b0t,a9L] at h;split at h
 .rename_i bm;exact⟨h,bm⟩
 .cases h
theorem gL{α:Type}{l:List α}{lo hi i:Nat}{o:α}(h:l[i]?=some o)(h1:lo<=i)(h2:i<hi):((l.take hi).drop lo)[i - lo]?=some o:=by
 rw[b0t,a9L,show lo+(i - lo)=i by omega,a8A h2,h]
theorem pX:∀ {l:List (Option Nat)},sR l=true->∀ (i j t:Nat),l[i]?=some (some t)->l[j]?=some (some t)->i=j
 | [],_,i,j,t,h,_=>by simp at h
 | none::r,h,i,j,t,hi,hj=>by
  cases i with
  | zero=>simp at hi
  | succ i =>
   cases j with
   | zero=>simp at hj
   | succ j=>rw[pX (l:=r) h i j t (by simpa using hi) (by simpa using hj)]
 | some d::r,h,i,j,t,hi,hj=>by
  simp only[sR] at h;split at h
  .cases h
  .rename_i Su;rw[b1o] at Su;have no:∀ k:Nat,r[k]?=some (some d)->False:=λ k hk=>by
    have:=Su _ (a9h hk);simp at this
   cases i with
   | zero =>
    simp at hi;subst hi;cases j with
    | zero=>rfl
    | succ j=>exact (no j (by simpa using hj)).elim
   | succ i =>
    cases j with
    | zero =>
     simp at hj;subst hj;exact (no i (by simpa using hi)).elim
    | succ j=>rw[pX (l:=r) h i j t (by simpa using hi) (by simpa using hj)]
theorem DO{l:List Oper}{lo hi:Nat}(h:Bc l lo hi=true):∀ j k t,lo<=j->j<hi->k<hi->bU l j=some t->bU l k=some t->j=k:=by
 unfold Bc at h;rw[Bool.and_eq_true,Bool.and_eq_true] at h;obtain⟨⟨_,h1⟩,h2⟩:=h;have hd:=pX h1;have get:∀ j t,bU l j=some t->∃ o,l[j]?=some o/\o.dst=some t:=by
  intro j t h;unfold bU at h;simp only[Option.bind_eq_some_iff] at h;exact h
 intro j k t hj hjh hkh Hd WY;obtain⟨o,ho,SG⟩:=get j t Hd;obtain⟨o',cF,a2Z⟩:=get k t WY;have g1:=gL ho hj hjh;rcases a8Q k lo with hk|hk
 .rw[a9c] at h2;have hm:o'∈l.take lo:=a9h (by rw[a9L,a8A hk];exact cF);have:=h2 o' hm;rw[a2Z] at this;simp only[a8S] at this;rw[b1o] at this;have:=this o (a9h g1);rw[SG] at this;simp at this
 .have g2:=gL cF hk hkh;have:=hd (j - lo) (k - lo) t (by rw[a9R,g1];simp[SG]) (by rw[a9R,g2];simp[a2Z]);omega
theorem Sk{l:List Oper}{lo hi:Nat}(h:Bc l lo hi=true){i:Nat}{o:Oper}(h1:lo<=i)(h2:i<hi)(ho:l[i]?=some o):pY o.dst=true:=by
 unfold Bc at h;rw[Bool.and_eq_true,Bool.and_eq_true] at h;exact List.all_eq_true.1 h.1.1 o (List.mem_of_getElem? (gL ho h1 h2))
theorem BG{i:Nat}{o:Oper}:∀ {l:List Oper} {lo:Nat},(i,o)∈jt lo l↔∃ j,i=lo+j/\l[j]?=some o
 | [],lo=>by simp[jt]
 | x::l,lo=>by
  simp only[jt,a8G,a8u,BG (l:=l)];constructor
  .rintro (⟨rfl,rfl⟩|⟨j,rfl,h⟩)
   .exact⟨0,rfl,rfl⟩
   .exact⟨j+1,by omega,by simpa using h⟩
  .rintro⟨j,rfl,h⟩;cases j with
   | zero=>simp at h;exact .inl ⟨rfl,h.symm⟩
   | succ j=>exact .inr ⟨j,by omega,by simpa using h⟩
theorem D8:∀ (l:List Oper) (lo:Nat),((jt lo l).map (·.1)).Nodup
 | [],lo=>a9x
 | x::l,lo=>by
  simp only[jt,a9a,a8V];refine⟨λ h=>?_,D8 l (lo+1)⟩;obtain⟨⟨i,o⟩,h1,h2⟩:=a8w.1 h;obtain⟨j,h3,_⟩:=BG.1 h1;simp only at h2;omega
theorem kP.mono{D D':List Nat}{a b:Act}(h:kP D a b)(hs:∀ t∈D,t∈D'):kP D' a b:=⟨h.size,h.da,h.db,λ t ht=>h.at' t λ q=>ht (hs t q)⟩
theorem Ks:∀ (l:List Oper) (lo:Nat),(jt lo l).length=l.length
 | [],lo=>rfl
 | x::l,lo=>by simp[jt,Ks l]
theorem GD{α:Type}(p:α->Bool):∀ l:List α,(l.filter p).length+(l.filter λ x => !p x).length=l.length
 | []=>rfl
 | x::l=>by
  have:=GD p l;cases h:p x<;>simp[b1X,h]<;>omega
theorem Tz(hE:bu c.P c.E){ops:Array Oper}(dq:backward ops.toList=true){Q:ag->Prop}{Q':Exit->Act->World->Prop}(hQ:∀ G s a w,Inv c G s a w->Q s->Q' .normal a w) :
  ∀ (VN:List Nat) (lo:Nat) (kn:List (Nat×Bool)) (fuel:Nat) (G:Gh) (s:ag) (a:Act) (w:World) (listed:Array Bool),ops.size=lo+fuel->listed.size=ops.size->(∀ k,k<ops.size->(listed.getD k false=true↔k<lo))->Inv c G s a w ->
   sJ c.E ops ops.toList (bE ops.toList []) VN lo kn Q s->wpAny c.P .any ops Q' fuel listed a w:=by
 obtain⟨r,YS,Ss,_⟩:=uH ops.toList [];have MR:(bE ops.toList []).length=ops.size:=by rw[YS];simpa using Ss
 intro VN;induction VN with
 | nil =>
  intro lo kn fuel G s a w listed hf bW hl hI hr;simp only[sJ] at hr;split at hr
  .rename_i hb;have hb:=Nat.eq_of_beq_eq_true hb;have hlo:lo=ops.size:=by simpa using hb
   have h0:fuel=0:=by omega
   subst h0;refine⟨?_,hQ _ _ _ _ hI hr⟩;apply b0Q.2;intro i hi;obtain⟨o,ho,h1,_⟩:=(mem_ready bW).1 hi;have bm:=(a9H.1 ho).1;have:=(hl i bm).2 (by omega);rw[h1] at this;cases this
  .exact hr.elim
 | cons hi VN ih =>
  intro lo kn fuel G s a w listed hf bW hl hI hr;simp only[sJ] at hr;split at hr;case h_2=>exact hr.elim
  case h_1 hc =>
  simp only[a8I,b1Q,Nat.ble_eq,a9k] at hc;obtain⟨MS,hc0,hc2,hc3⟩:=hc;split at hr
  .rename_i hb;have hb:=a8s hb;subst hb;have bm:lo<ops.size:=by omega
   obtain⟨fuel,rfl⟩:∃ f,fuel=f+1:=⟨fuel - 1,by omega⟩;have tD:(ops.toList.take (lo+1)).drop lo=[ops[lo]]:=by
    rw[List.drop_take,show lo+1 - lo=1 by omega,List.drop_eq_getElem_cons (by simpa using bm)];simp
   rw[tD] at hr;refine Z6 hE dq bm (λ i h1 h2=>u6 MS (by omega) (by omega) (by omega)) bW hl hI hr ?_;intro G s a w listed bW hl hI hp;exact ih (lo+1) kn fuel G s a w listed (by omega) bW hl hI hp
  .split at hr;case h_3=>exact hr.elim
   case h_1 Dq WU =>
    unfold VK at hr;split at hr;case h_2=>exact hr.elim
    case h_1 ij =>
    have rC:∀ i o,(i,o)∈jt lo ((ops.toList.take hi).drop lo)↔lo<=i/\i<hi/\ops.toList[i]?=some o:=λ i o=>by
     rw[BG];constructor
     .rintro⟨j,rfl,h⟩;obtain⟨h1,h2⟩:=Cf h;exact⟨by omega,h2,h1⟩
     .rintro⟨h1,h2,h3⟩;exact⟨i - lo,by omega,gL h3 h1 h2⟩
    have cX:=D8 ((ops.toList.take hi).drop lo) lo;have Aw:(jt lo ((ops.toList.take hi).drop lo)).length=hi - lo:=by rw[Ks];simp;omega
    have uX:∀ x∈jt lo ((ops.toList.take hi).drop lo),∀ y∈jt lo ((ops.toList.take hi).drop lo),∀ t,x.2.dst=some t->y.2.dst=some t->x.1=y.1:=λ x hx y hy t hxt hyt=>by
     have h1:=(rC x.1 x.2).1 hx;have h2:=(rC y.1 y.2).1 hy;exact DO Dq x.1 y.1 t h1.1 h1.2.1 h2.2.1 (by simp[bU,h1.2.2,hxt]) (by simp[bU,h2.2.2,hyt])
    generalize jt lo ((ops.toList.take hi).drop lo)=ey at *
    simp only[ZX,a8I,a9c] at ij;obtain⟨t,b,q1,q2,q3⟩:=Ko hE hI hr;obtain⟨q4,q5⟩:=iQ q3;have Zr:∀ p:Nat×Oper->Bool,((ey.filter p).map (·.1)).Nodup:=λ p=>cX.sublist (b1d _ b2D);have a4r:∀ x∈ey,∀ y∈ey,x.1=y.1->x=y:=λ x hx y hy e=>by
     obtain⟨x1,x2⟩:=x;obtain⟨y1,y2⟩:=y;simp only at e;subst e;have h1:=((rC _ _).1 hx).2.2;rw[((rC _ _).1 hy).2.2] at h1;simp only[a8r] at h1;rw[h1]
    refine Tb hE (hi:=hi) (Seg:=ey) dq hc3 ?_ (λ x hx=>by simpa using (ij.1 x hx).1) (λ x hx=>(ij.1 x hx).2) ?_ uX (λ fuel G s a w listed hf bW hl hI hp=>ih hi kn fuel G s a w listed (by omega) bW hl hI hp) (fuel+(Fm c.E (bE ops.toList []) (ey.filter λ r => !kA c.E (bE ops.toList []) ey r)).length) fuel (ey.filter (kA c.E (bE ops.toList []) ey)) (Fm c.E (bE ops.toList []) (ey.filter λ r => !kA c.E (bE ops.toList []) ey r))
     ((ey.filter (kA c.E (bE ops.toList []) ey)).map (·.1)) [] [] G t a b w listed (a8C _) ?_ bW ?_ ?_ (Zr _) ((((ik _ _ _).map (·.1)).nodup_iff).2 (Zr _)) ?_ a9x a9x (λ p hp=>by cases hp) (λ p hp=>by cases hp) ?_ ?_ ?_ ?_ ?_ ey.length ?_
    .intro j o hj ho k hk;have:=(List.getElem?_eq_some_iff.1 ho).1;exact u6 MS hj (by rw[MR];simpa using this) hk
    .intro x hx he;have:=ij.2 x hx;simpa [he] using this
    .rw[a8W,(ik _ _ _).length_eq,GD,Aw,a8R,a8R];omega
    .intro i mn;obtain⟨⟨i',o⟩,h1,rfl⟩:=a8w.1 mn;obtain⟨h2,h3⟩:=a9z.1 h1;have h4:=(rC _ _).1 h2;refine⟨h4.2.1,o,h4.2.2,h1,h2,?_⟩;have:=ij.2 _ h2;rw[h3] at this;have dh:iD o.op=false:=by
      have:=Ae (E:=c.E) (o:=o) (by simp only[kA,HM,a8I] at h3;exact h3.1.1);simp only[cY,b2t] at this;exact this.2.1
     exact⟨h3,by simpa [dh] using this⟩
    .intro x hx;have hx:=(ik _ _ _).mem_iff.1 hx;have h2:=(a9z.1 hx).1;have h4:=(rC _ _).1 h2;exact⟨h4.2.1,h4.2.2,h2⟩
    .intro i mn x hx e;have hx:=(ik _ _ _).mem_iff.1 hx;obtain⟨y,h1,rfl⟩:=a8w.1 mn;obtain⟨h2,h3⟩:=a9z.1 h1;obtain⟨h4,h5⟩:=a9z.1 hx;have:=a4r _ h2 _ h4 e;subst this;rw[h3] at h5;cases h5
    .intro k hk;rw[hl k hk];constructor
     .intro h;refine⟨by omega,λ hm=>?_, .inl λ x hx e=>?_⟩
      .obtain⟨y,h1,rfl⟩:=a8w.1 hm;have:=((rC _ _).1 (a9z.1 h1).1).1;omega
      .have:=((rC _ _).1 (a9z.1 ((ik _ _ _).mem_iff.1 hx)).1).1;omega
     .rintro⟨h1,h2,h3⟩;have h3:=h3.resolve_right (by simp);rcases a8Q k lo with h|h
      .exact h
      .have hm:(k,ops[k])∈ey:=(rC _ _).2 ⟨h,h1,by simp⟩;cases hr:kA c.E (bE ops.toList []) ey (k,ops[k]) with
       | true=>exact absurd (a8w.2 ⟨_,a9z.2 ⟨hm,hr⟩,rfl⟩) h2
       | false=>exact absurd rfl (h3 _ ((ik _ _ _).mem_iff.2 (a9z.2 ⟨hm,by simp[hr]⟩)))
    .intro k hk IM o ho e he hb;have h1:=bJ dq k o ho e he hb;have h2:=(hl k hk).1 IM;exact (hl e.on (by omega)).2 (by omega)
    .exact q1
    .refine q2.mono λ d hd=>?_;obtain⟨r,h1,h2⟩:=ft.1 hd;have h4:=(rC _ _).1 (a9z.1 h1).1;exact a8t.2 (.inl (b0l.2 ⟨r.1,a8w.2 ⟨r,h1,rfl⟩,by simp[bU,h4.2.2,h2]⟩))
    .intro i mn o ho;obtain⟨⟨i',o'⟩,h1,rfl⟩:=a8w.1 mn;have h4:=((rC _ _).1 (a9z.1 h1).1).2.2;simp only at ho;rw[h4] at ho;simp only[a8r] at ho;subst ho;exact q4 _ h1
    .exact q5
   case h_2 Dq WU =>
   have nj:=DO Dq;obtain⟨es,mw,s',nR,hq⟩:=pg hr;have hlen:((ops.toList.take hi).drop lo).length=hi - lo:=by simp;omega
   obtain⟨ht1,Zt⟩:=Ou (lo:=lo) (s0:=((ops.toList.take hi).drop lo).foldl ag.fresh s) ((ops.toList.take hi).drop lo) lo es (List.replicate lo ⟨false, .any,none⟩) _ s' nR (λ j o ho=>(Cf ho).1) (by simp) (Nat.le_refl _) (by simp[ey,du]);rw[hlen,show lo+(hi - lo)=hi by omega] at Zt;subst Zt;have YL:Inv c G (((ops.toList.take hi).drop lo).foldl ag.fresh s) a w:=yD _ hI;refine X8 hE (lo:=lo) (m:=hi) (es:=List.replicate lo ⟨false, .any,none⟩++es) (s0:=((ops.toList.take hi).drop lo).foldl ag.fresh s) dq hc3 ?_ ?_ nj ?_ (λ i o h1 h2 ho=>Sk Dq h1 h2 ho) ?_ ?_ fuel [] G a w listed (by simp;omega) (by simp) (by simp) bW (by simpa using hl) (by simp) (by omega) YL
   .intro j o hj ho k hk;have:=(List.getElem?_eq_some_iff.1 ho).1;exact u6 MS hj (by rw[MR];simpa using this) hk
   .intro j o hj ho k hk;have:=(List.getElem?_eq_some_iff.1 ho).1;exact u6 hc0 hj (by rw[MR];simpa using this) hk
   .intro i o h1 h2 ho;have:=ht1 (i - lo) o (gL ho h1 h2);rwa [show lo+(i - lo)=i by omega] at this
   .intro i o t h1 h2 ho QN Bm;exact (wF ((ops.toList.take hi).drop lo) s t).2 o (a9h (gL ho h1 h2)) QN Bm
   .intro fuel G a w listed hf bW hl hI;exact ih hi mw fuel G _ a w listed (by omega) bW hl hI (Nc hI hq)
theorem KB(hE:bu c.P c.E)(ij:c.P.follows .mixedOrders=true){id:Nat}{ops:Array Oper}{Q:ag->Prop}{Q':Exit->Act->World->Prop}(hQ:∀ G s a w,Inv c G s a w->Q s->Q' .normal a w)
  (h:Inv c G s a w) (hd:Io c.E ops Q s):(Code.region id ops true).wp c.P Q' a w:=by
 unfold Io at hd;simp only at hd;split at hd
 .exact Me hE ij hQ h hd
 .split at hd;case h_2=>exact hd.elim
  case h_1 dq =>
  refine wp_region_any ij ?_;exact Tz hE dq hQ _ 0 [] ops.size G s a _ _ (by simp) (by simp) (by intro k hk;simp[hk]) (aV.drew h) hd
end
def Mc{c:Ctx}{G:Gh}{s:ag}{a:Act}{w:World}(hE:bu c.P c.E)(ij:c.P.follows .mixedOrders=true){id:Nat}{ops:Array Oper}{Q:ag->Prop}{Q':Exit->Act->World->Prop}(hQ:∀ G s a w,Inv c G s a w->Q s->Q' .normal a w)
  (h:Inv c G s a w) (hd:R0 c.E ops Q s):(Code.region id ops true).wp c.P Q' a w:=KB hE ij hQ h hd
theorem iK{u v:TV}(h:uj u v):u=v:=by
 unfold uj at h;split at h
 .rename_i x hx;have:=TV.aS hx;rw[this,h]
 .exact h.elim
theorem yV:∀ {l:List Nat},nodupB l=true->l.Nodup
 | [],_=>a9x
 | a::r,h=>by
  simp only[nodupB] at h;split at h
  .cases h
  .rename_i hc;exact List.nodup_cons.2 ⟨by simpa using hc,yV h⟩
theorem wK{α:Type}(f:α->Nat):∀ {l:List α},(l.map f).Nodup->∀ x∈l,∀ y∈l,f x=f y->x=y
 | [],_,x,hx,_,_,_=>by simp at hx
 | a::r,h,x,hx,y,hy,he=>by
  simp only[a9a,a8V] at h;rcases a8G.1 hx with QY|QY
  .rcases a8G.1 hy with OO|OO
   .rw[QY,OO]
   .exact absurd (a8w.2 ⟨y,OO,by rw[<-he,QY]⟩) h.1
  .rcases a8G.1 hy with OO|OO
   .exact absurd (a8w.2 ⟨x,QY,by rw[he,OO]⟩) h.1
   .exact wK f h.2 x QY y OO he
section
variable {c:Ctx} {G:Gh} {s t:ag} {a:Act} {w w':World}
def fi(G:Gh)(s t:ag)(ρ:List (Nat×Nat))(id:Nat):Value:=match s.af (cV ρ id) with
 | some _=>G.η (cV ρ id)
 | none=>match cS (t.af id) with
  | true => .tuple [.slice none 0 0].toArray
  | false => .slice none 0 0
def o8(G:Gh)(s:ag)(ρ:List (Nat×Nat))(id:Nat):List Nat:=match s.af (cV ρ id) with
 | some _=>G.φ (cV ρ id)
 | none=>[]
theorem lK{ρ:List (Nat×Nat)}{x:Value}{u v:AV}(h:AV.rn ρ s t u v)(hu:C1 c G s.af w u x):C1 c ⟨G.S,fi G s t ρ,o8 G s ρ⟩ t.af w v x:=by
 unfold AV.rn at h;split at h
 .trivial
 .split at h
  .have:=iK h;subst this;exact hu
  .split at h
   .subst h;exact⟨rfl,LB (c:=c) (G:=G) (lk:=s.af) (τ := .slice _) (v := .nil) rfl (show C1 c G s.af w .nil x from hu)⟩
   .exact h.elim
  .exact h.elim
 .split at h
  .exact hu
  .exact h.elim
 .split at h
  .have:=iK h;subst this;exact hu
  .exact h.elim
 .split at h
  .split at h
   .rename_i hb;simp only[a8I] at hb;have h1:=a8s hb.1.1;have h2:=a8s hb.1.2;subst h1 h2;obtain⟨b,k1,k2,k3⟩:=hu;refine⟨b,?_,k2,hb.2⟩;simp only[fi];match hl:s.af (cV ρ _),k3 with
    | some o,_=>exact k1
   .exact h.elim
  .exact h.elim
 .split at h
  .split at h
   .rename_i hb;simp only[a8I] at hb;have h1:=a8s hb.1;subst h1;obtain⟨k1,k2,k3⟩:=hu;refine⟨?_,hb.2,k3⟩;simp only[fi];match hl:s.af (cV ρ _),k2 with
    | some o,_=>exact k1
   .exact h.elim
  .split at h
   .rename_i hr hn;refine⟨?_,hr,none,0,0,hu⟩;simp only[fi,hn,pw hr];exact hu
   .exact h.elim
  .exact h.elim
 .split at h
  .split at h
   .rename_i hb;simp only[a8I] at hb;have h1:=a8s hb.1;subst h1;obtain⟨k1,l,k2,k3⟩:=hu;refine⟨hb.2,l,?_,k3⟩;simp only[fi];match hl:s.af (cV ρ _),k1 with
    | some o,_=>exact k2
   .exact h.elim
  .split at h
   .rename_i hr hn;have hu:x = .slice none 0 0:=hu;refine⟨hr,[],?_,none,0,0,hu⟩;simp only[fi,hn,hr];rw[hu]
   .exact h.elim
  .exact h.elim
 .split at h
  .split at h
   .rename_i hb;have h1:=a8s hb;subst h1;exact hu
   .exact h.elim
  .exact h.elim
 .split at h
  .split at h
   .rename_i hb;simp only[a8I] at hb;have h1:=a8s hb.1;subst h1;obtain⟨k1,k2,k3⟩:=hu;refine⟨?_,hb.2,k3⟩;simp only[fi];match hl:s.af (cV ρ _),k2 with
    | some o,_=>exact k1
   .exact h.elim
  .exact h.elim
 .exact h.elim
theorem A7{ρ:List (Nat×Nat)}:∀ {us vs:List AV} {l:List Value},DN ρ s t us vs->aI (C1 c G s.af w) us l->aI (C1 c ⟨G.S,fi G s t ρ,o8 G s ρ⟩ t.af w) vs l
 | [],[],[],_,_=>trivial
 | u::us,v::vs,x::l,h,hu=>by
  simp only[DN] at h;split at h
  .exact⟨ae,A7 h hu.2⟩
  .exact⟨lK h.1 hu.1,A7 h.2 hu.2⟩
 | [],_::_,_,h,_=>h.elim
 | _::_,[],_,h,_=>h.elim
 | [],[],_::_,_,h=>h.elim
 | _::_,_::_,[],_,h=>h.elim
theorem YE{ρ:List (Nat×Nat)}{x:Value}{u v:AV}(h:AV.a2G ρ s t u v)(hu:CR c G s.af w u x):CR c ⟨G.S,fi G s t ρ,o8 G s ρ⟩ t.af w v x:=by
 rcases hu.inv with ⟨z,rfl,h1⟩|⟨cs,l,rfl,rfl,h1⟩|h1
 .cases v with
  | any=>trivial
  | aK z' =>
   have:=iK (show uj z z' from h);subst this;exact hu
  | _=>exact (show False from h).elim
 .cases v with
  | any=>trivial
  | agg vs=>exact⟨l,rfl,A7 (show DN ρ s t cs vs from h) h1⟩
  | _=>exact (show False from h).elim
 .cases u with
  | agg cs=>exact (show False from h1).elim
  | _=>exact (lK (show AV.rn ρ s t _ v by cases v<;>exact h) h1).TT
theorem MF{ρ:List (Nat×Nat)}:∀ {us vs:List AV} {l:List Value},Si ρ s t us vs->aI (CR c G s.af w) us l->aI (CR c ⟨G.S,fi G s t ρ,o8 G s ρ⟩ t.af w) vs l
 | [],[],[],_,_=>trivial
 | u::us,v::vs,x::l,h,hu=>by
  simp only[Si] at h;split at h
  .exact⟨ae,MF h hu.2⟩
  .exact⟨YE h.1 hu.1,MF h.2 hu.2⟩
 | [],_::_,_,h,_=>h.elim
 | _::_,[],_,h,_=>h.elim
 | [],[],_::_,_,h=>h.elim
 | _::_,_::_,[],_,h=>h.elim
theorem Ur{u v:FV}(h:VX u v):u=v:=by
 unfold VX at h;split at h
 .rename_i F hF;have:=FV.aS hF;rw[this,h]
 .exact h.elim
theorem a1x{ρ:List (Nat×Nat)}{x:Value}{u v:AV}(h:AV.fit ρ s t u v)(hu:VR c G s.af w u x):VR c ⟨G.S,fi G s t ρ,o8 G s ρ⟩ t.af w v x:=by
 cases u with
 | agg us =>
  obtain⟨l,h1,h2⟩:=hu;cases v with
  | any=>trivial
  | agg vs=>exact⟨l,h1,A7 (show DN ρ s t us vs from h) h2⟩
  | aK z =>
   obtain⟨τ,q⟩:=z;simp only[AV.fit] at h;split at h
   .rename_i y hy;have hr:dv w G.S ⟨τ,y⟩ x:=F5 (c:=c) (G:=G) (lk:=s.af) (w:=w) (x:=x) hy ⟨l,h1,h2⟩;have h':y=q:=h;show dv w G.S ⟨τ,q⟩ x;rw[<-h'];exact hr
   .exact h.elim
  | _=>exact (show False from h).elim
 | fO us =>
  cases v with
  | any=>trivial
  | _=>exact (show False from h).elim
 | aK z =>
  cases v with
  | any=>trivial
  | aK z' =>
   have:=iK (show uj z z' from h);subst this;exact hu
  | _=>exact (show False from h).elim
 | cM f us =>
  obtain⟨l,h1,h2⟩:=hu;cases v with
  | any=>trivial
  | cM g vs =>
   simp only[AV.fit] at h;split at h
   .rename_i hb;have hb:=a8s hb;subst hb;exact⟨l,h1,MF h h2⟩
   .exact h.elim
  | _=>exact (show False from h).elim
 | fV z =>
  cases v with
  | any=>trivial
  | fV z' =>
   have:=Ur (show VX z z' from h);subst this;exact hu
  | _=>exact (show False from h).elim
 | any=>cases v<;>first|trivial|exact (show False from h).elim
 | dG=>cases v<;>first|trivial|exact (show False from h).elim
 | nil=>exact (lK (u := .nil) (show AV.rn ρ s t .nil v by cases v<;>exact h) (show C1 c G s.af w .nil x from hu)).eS
 | cO z=>exact (lK (u := .cO z) (show AV.rn ρ s t (.cO z) v by cases v<;>exact h) (show C1 c G s.af w (.cO z) x from hu)).eS
 | ptr i o=>exact (lK (u := .ptr i o) (show AV.rn ρ s t (.ptr i o) v by cases v<;>exact h) (show C1 c G s.af w (.ptr i o) x from hu)).eS
 | row i=>exact (lK (u := .row i) (show AV.rn ρ s t (.row i) v by cases v<;>exact h) (show C1 c G s.af w (.row i) x from hu)).eS
 | dN i k o=>exact (lK (u := .dN i k o) (show AV.rn ρ s t (.dN i k o) v by cases v<;>exact h) (show C1 c G s.af w (.dN i k o) x from hu)).eS
 | fn f=>exact (lK (u := .fn f) (show AV.rn ρ s t (.fn f) v by cases v<;>exact h) (show C1 c G s.af w (.fn f) x from hu)).eS
 | mp i=>exact (lK (u := .mp i) (show AV.rn ρ s t (.mp i) v by cases v<;>exact h) (show C1 c G s.af w (.mp i) x from hu)).eS
 | aA i=>exact (lK (u := .aA i) (show AV.rn ρ s t (.aA i) v by cases v<;>exact h) (show C1 c G s.af w (.aA i) x from hu)).eS
 | sub i k o z=>exact (lK (u := .sub i k o z) (show AV.rn ρ s t (.sub i k o z) v by cases v<;>exact h) (show C1 c G s.af w (.sub i k o z) x from hu)).eS
 | dW i k o z=>exact (lK (u := .dW i k o z) (show AV.rn ρ s t (.dW i k o z) v by cases v<;>exact h) (show C1 c G s.af w (.dW i k o z) x from hu)).eS
theorem yB{ρ:List (Nat×Nat)}:∀ {us vs:List AV},xo ρ s t us vs->us.length=vs.length/\∀ i,vs.getD i .any = .any\/AV.fit ρ s t (us.getD i .any) (vs.getD i .any)
 | [],[],_=>⟨rfl,λ i => .inl (by simp)⟩
 | u::us,v::vs,h=>by
  simp only[xo] at h;split at h
  .obtain⟨h1,h2⟩:=yB h;refine⟨by simp[h1],λ i=>?_⟩;cases i with
   | zero=>exact .inl rfl
   | succ i=>simpa using h2 i
  .obtain⟨h1,h2⟩:=yB h.2;refine⟨by simp[h1],λ i=>?_⟩;cases i with
   | zero=>exact .inr h.1
   | succ i=>simpa using h2 i
 | [],_::_,h=>h.elim
 | _::_,[],h=>h.elim
def X6(aO:Ty)(ys:List aO.den)(τ:Ty)(xs:List τ.den):Prop:=∀ (w:World) (η:Value) (fp:List Nat),gG w η aO ys fp->gG w η τ xs fp
theorem RJ{aO:Ty}{ys:List aO.den}{τ:Ty}{xs:List τ.den}(h:RI aO ys τ xs):X6 aO ys τ xs:=by
 unfold RI at h;split at h
 .rename_i h1 h2;have h1:=a8U h1;have h2:=a8U h2;subst h1 h2;have h:=iK h;rw[TV.T7] at h;cases h;intro w η fp hT;obtain⟨v,l,a,cap,q1,q2,q3,q4,q5,q6⟩:=hT;have e1:(List.map toO ys).length=ys.length:=a8W _;have e2:((show List J from ys).map toO).map (Ty.aD (.st .oExpr))=ys.map (Ty.aD (.st .expr)):=by
   rw[List.map_map];refine b2C λ x _=>?_;show aJ.aD .oExpr (toO x)=aJ.aD .expr x;rw[aJ.bT,aJ.bT];rfl
  refine⟨v,l,a,cap,q1,by rw[q2];exact congrArg (Value.slice a · cap) e1.symm,by exact e1 ▸ q3,q4,by exact e1 ▸ q5,?_⟩;rcases q6 with ⟨rfl,q7,q8⟩|⟨b,f,t,q7,q8,q9,q10,q11⟩
  .exact .inl ⟨rfl,q7,q8⟩
  .exact .inr ⟨b,f,t,q7,q8,q9,q10,e2 ▸ q11⟩
 .have h:=iK h;cases h;exact λ _ _ _ h=>h
def a1i(ρ:List (Nat×Nat))(s t:ag)(id:Nat):au->Prop
 | .box bs=>∃ Z9,s.af (cV ρ id)=some (.box Z9)/\DN ρ s t Z9 bs
 | .row e τ xs=>s.af (cV ρ id)=some (.row e τ xs)\/(s.af (cV ρ id)=none/\xs=[])
 | .aA τ xs=>(∃ aO ys,s.af (cV ρ id)=some (.aA aO ys)/\X6 aO ys τ xs)\/(s.af (cV ρ id)=none/\xs=[])
 | .map m=>s.af (cV ρ id)=some (.map m)
theorem Ta{a b:MV}(h:U8 a b):a=b:=by
 unfold U8 at h;split at h
 .rename_i f n hf;rw[MV.aS hf];simp only;rw[h.1,h.2]
 .exact h.elim
theorem jA{ρ:List (Nat×Nat)}:∀ {l:List (Nat×au)},iM ρ s t l->∀ id o,(id,o)∈l->a1i ρ s t id o
 | [],_,id,o,h=>by simp at h
 | (k, .box bs)::r,h,id,o,hm=>by
  simp only[iM] at h;split at h
  .rename_i Z9 ha;rcases a8G.1 hm with e|hm
   .simp only[a8u] at e;obtain⟨rfl,rfl⟩:=e;exact⟨Z9,ha,h.1⟩
   .exact jA h.2 id o hm
  .exact h.elim
 | (k, .row e τ xs)::r,h,id,o,hm=>by
  simp only[iM] at h;split at h
  .rename_i e' aO ys ha;split at h
   .rename_i he;have he:=a8s he;subst he;rcases a8G.1 hm with e1|hm
    .simp only[a8u] at e1;obtain⟨rfl,rfl⟩:=e1;have:=iK h.1;cases this;exact .inl ha
    .exact jA h.2 id o hm
   .exact h.elim
  .rename_i ha;rcases a8G.1 hm with e1|hm
   .simp only[a8u] at e1;obtain⟨rfl,rfl⟩:=e1;exact .inr ⟨ha,h.1⟩
   .exact jA h.2 id o hm
  .exact h.elim
 | (k, .aA τ xs)::r,h,id,o,hm=>by
  simp only[iM] at h;split at h
  .rename_i aO ys ha;rcases a8G.1 hm with e1|hm
   .simp only[a8u] at e1;obtain⟨rfl,rfl⟩:=e1;exact .inl ⟨aO,ys,ha,RJ h.1⟩
   .exact jA h.2 id o hm
  .rename_i ha;rcases a8G.1 hm with e1|hm
   .simp only[a8u] at e1;obtain⟨rfl,rfl⟩:=e1;exact .inr ⟨ha,h.1⟩
   .exact jA h.2 id o hm
  .exact h.elim
 | (k, .map m)::r,h,id,o,hm=>by
  simp only[iM] at h;split at h
  .rename_i m' ha;rcases a8G.1 hm with e1|hm
   .simp only[a8u] at e1;obtain⟨rfl,rfl⟩:=e1;rw[Ta h.1] at ha;exact ha
   .exact jA h.2 id o hm
  .exact h.elim
theorem Ba{ρ:List (Nat×Nat)}(h:Inv c G s a w)(hf:Fits ρ s t):∃ G',Inv c G' t a w:=by
 unfold Fits at hf;split at hf;case h_2=>exact hf.elim
 case h_1 hb =>
  rw[a8I] at hb;obtain⟨hb,YV⟩:=hb;rw[a8I] at hb;obtain⟨hb,yH⟩:=hb;simp only[a8I] at hb;obtain⟨hs,ho⟩:=hf;obtain⟨hlen,UX⟩:=yB hs;have jl:=jA ho;have eP:∀ id b,dt (fi G s t ρ id)=some b->∃ o,s.af (cV ρ id)=some o/\dt (G.η (cV ρ id))=some b:=by
   intro id b hb;unfold fi at hb;split at hb
   .rename_i o ho;exact⟨o,ho,hb⟩
   .split at hb<;>cases hb
  refine⟨⟨G.S,fi G s t ρ,o8 G s ρ⟩,?_⟩;exact {
   defers:=h.defers
   size:=h.size.trans hlen
   aE:=h.aE,jN:=h.jN,ew:=h.ew,sX:=h.sX,dH:=h.dH
   aw:=λ i=>by
    rcases UX i with e|e
    .rw[show t.sl i = .any from e];trivial
    .exact a1x e (h.aw i)
   aC:=λ id o aL=>by
    have hof:=jl id o (fP aL);cases o with
    | box bs =>
     obtain⟨Z9,h1,h2⟩:=hof;obtain⟨b,l,ty,k1,k2,k3⟩:=h.aC _ _ h1;refine⟨b,l,ty,?_,k2,A7 h2 k3⟩;simp only[fi,h1];exact k1
    | row e τ xs =>
     rcases hof with h1|⟨h1,rfl⟩
     .obtain⟨l,k1,k2,k3⟩:=h.aC _ _ h1;refine⟨l,?_,k2,k3⟩;simp only[fi,h1];exact k1
     .refine⟨[],?_,rfl,by simp⟩;simp only[fi,h1,pw (show isRow (t.af id)=true by rw[aL];rfl)];exact World.ownsRow_nil w 0 e τ.size
    | aA τ xs=>trivial
    | map m =>
     have h1:s.af (cV ρ id)=some (.map m):=hof;obtain⟨b,es,clock,k1,k2⟩:=h.aC _ _ h1;refine⟨b,es,clock,?_,k2⟩;simp only[fi,h1];exact k1
   place:=λ id o b aL fW=>by
    obtain⟨o',h1,h2⟩:=eP id b fW;exact h.place _ _ b h1 h2
   apart:=λ id di o o' b aL Bp fW a6j=>by
    obtain⟨p,h1,h2⟩:=eP id b fW;obtain⟨p',h3,h4⟩:=eP di b a6j;have:=h.apart _ _ _ _ b h1 h3 h2 h4;have Ke:=wK (λ p:Nat×au=>cV ρ p.1) (yV hb.2) (id,o) (fP aL) (di,o') (fP Bp) this;exact congrArg Prod.fst Ke
   aM:=by
    have M9:∀ id b,b∈o8 G s ρ id->(∃ o,s.af (cV ρ id)=some o)/\b∈G.φ (cV ρ id):=λ id b cq=>by
     unfold o8 at cq;split at cq
     .rename_i o ho;exact⟨⟨o,ho⟩,cq⟩
     .simp at cq
    have nR:∀ id τ xs,t.af id=some (.aA τ xs)->(∃ aO ys,s.af (cV ρ id)=some (.aA aO ys)/\X6 aO ys τ xs)\/(s.af (cV ρ id)=none/\xs=[]):=λ id τ xs aL=>jl id _ (fP aL);have ep:∀ id τ xs b,t.af id=some (.aA τ xs)->b∈o8 G s ρ id->∃ aO ys,s.af (cV ρ id)=some (.aA aO ys)/\b∈G.φ (cV ρ id):=λ id τ xs b aL cq=>by
     obtain⟨⟨o,ho⟩,h2⟩:=M9 id b cq;rcases nR id τ xs aL with ⟨aO,ys,h1,_⟩|⟨h1,_⟩
     .exact⟨aO,ys,h1,h2⟩
     .rw[h1] at ho;cases ho
    exact {
     tr:=λ id τ xs aL=>by
      rcases nR id τ xs aL with ⟨aO,ys,h1,hle⟩|⟨h1,rfl⟩
      .simp only[fi,o8,h1];exact hle _ _ _ (h.aM.tr _ _ _ h1)
      .simp only[fi,o8,h1,show cS (t.af id)=true by rw[aL];rfl];exact⟨_,[],none,0,rfl,rfl,by simp,by simp[maxLen],by simp, .inl ⟨rfl,⟨rfl,rfl⟩,rfl⟩⟩
     nd:=λ id τ xs aL=>by
      rcases nR id τ xs aL with ⟨aO,ys,h1,_⟩|⟨h1,_⟩
      .simp only[o8,h1];exact h.aM.nd _ _ _ h1
      .simp only[o8,h1];exact a9x
     pl:=λ id τ xs b aL cq=>by
      obtain⟨_,_,h1,h2⟩:=ep id τ xs b aL cq;obtain⟨q1,q2,q3,q4⟩:=h.aM.pl _ _ _ b h1 h2;refine⟨q1,q2,q3,λ i o hi tA=>?_⟩;obtain⟨o',k1,k2⟩:=eP i b tA;exact q4 _ o' k1 k2
     ap:=λ id di τ aO xs cI b aL Bp wI Bj=>by
      obtain⟨_,_,h1,h2⟩:=ep id τ xs b aL wI;obtain⟨_,_,h3,h4⟩:=ep di aO cI b Bp Bj;have:=h.aM.ap _ _ _ _ _ _ b h1 h3 h2 h4;have Ke:=wK (λ p:Nat×au=>cV ρ p.1) (yV hb.2) (id, .aA τ xs) (fP aL) (di, .aA aO cI) (fP Bp) this;exact congrArg Prod.fst Ke }
   root:=λ id v hr ht=>by
    have hrg:=h.fN id v hr;match hl:t.af id,ht with
    | some (.aA τ xs),_ =>
     have hq:=a9c.1 yH _ (fP hl);simp only[a9O,a8I,b1Q,Nat.ble_eq] at hq;rcases hq with hq|hq|⟨Av,tE⟩
     .omega
     .omega
     .have Av:=Nat.eq_of_beq_eq_true Av;obtain⟨l,h2⟩:=h.root id v hr tE;refine⟨l,?_⟩;show fi G s t ρ id=_;unfold fi;rw[Av];match hs:s.af id,tE with
      | some (.aA ..),_=>exact h2
   fN:=h.fN
   dy:=λ id v hr ht=>by
    have hrg:=h.eM id v hr;match hl:t.af id,ht with
    | some (.box cs),_ =>
     have hq:=a9c.1 YV _ (fP hl);simp only[gm,a9y,b2x,a9O,a8I,b1Q] at hq;rcases hq with hq|⟨Av,tE⟩
     .omega
     .have Av:=Nat.eq_of_beq_eq_true Av;have h2:=h.dy id v hr tE;show fi G s t ρ id=_;unfold fi;rw[Av];match hs:s.af id,tE with
      | some (.box ..),_=>exact h2
   eM:=h.eM }
theorem gd(hE:bu c.P c.E)(ij:c.P.follows .mixedOrders=true):∀ (bj:Code) (Λ:Nat->aG) (cur:Nat) (Q:Exit->ag->Prop) (G:Gh) (s:ag) (a:Act) (w:World),
  Inv c G s a w->xg c.E bj Λ cur Q s->bj.wp c.P (λ e a w=>∃ G s,Inv c G s a w/\Q e s) a w
 | .skip,Λ,cur,Q,G,s,a,w,h,hr=>wp_skip ⟨G,s,h,hr⟩
 | .region id ops draw,Λ,cur,Q,G,s,a,w,h,hr=>by
  cases draw with
  | true=>exact Mc hE ij (Q:=Q .normal) (λ G s a w hI hq=>⟨G,s,hI,hq⟩) h hr
  | false =>
   refine wp_region ?_;have:=wu hE (ops:=ops) (Q:=Q .normal) (Q':=λ e a w=>∃ G s,Inv c G s a w/\Q e s) (λ G s a w hI hq=>⟨G,s,hI,hq⟩) ops.toList 0 [] G s a w (by simp) h hr;rw[List.range_eq_range'];simpa using this
 | .seq x y,Λ,cur,Q,G,s,a,w,h,hr=>by
  simp only[xg] at hr;split at hr;case h_2 ι P μ fz dead ins aE os PW ren sub hL =>
   obtain⟨hx,hy⟩:=hr;refine wp_seq (b2m (gd hE ij x Λ cur _ G s a w h hx) ?_);rintro e a' w' ⟨G',s',hI,hq⟩;cases e with
   | normal =>
    obtain⟨j,hPj,hF⟩:=hq;obtain⟨G3,h3⟩:=hI.Bb fz;obtain⟨G4,h4⟩:=Ba h3 hF.ex.choose_spec;exact gd hE ij y (sub j) cur Q G4 _ a' w' h4 (hy j hPj)
   | _=>exact⟨G',s',hI,hq⟩
  refine wp_seq (b2m (gd hE ij x Λ cur _ G s a w h hr) ?_);rintro e a' w' ⟨G',s',hI,hq⟩;cases e with
  | normal=>exact gd hE ij y Λ cur Q G' s' a' w' hI hq
  | _=>exact⟨G',s',hI,hq⟩
 | .cond x p q,Λ,cur,Q,G,s,a,w,h,hr=>by
  simp only[xg] at hr;split at hr
  .rename_i t ht;have hx:=aR h x;rw[ht] at hx;have hx:[a.eval x]=[.bool t]:=hx;simp only[a8x,a8T] at hx;refine wp_cond hx ?_;cases t with
   | true=>exact gd hE ij p Λ cur Q G s a w h (hr.1 rfl)
   | false=>exact gd hE ij q Λ cur Q G s a w h (hr.2 rfl)
  .exact hr.elim
 | .block id x,Λ,cur,Q,G,s,a,w,h,hr=>by
  refine wp_block (b2m (gd hE ij x Λ id _ G s a w h hr) ?_);rintro e a' w' ⟨G',s',hI,hq⟩;cases e with
  | exit i =>
   simp only at hq;simp only[Exit.inBlock];split at hq
   .rename_i hi;rw[a8A (a8s hi)];exact⟨G',s',hI,hq⟩
   .rename_i hi;have:i≠id:=λ e=>by subst e;simp at hi
    rw[a8v this];exact⟨G',s',hI,hq⟩
  | _=>exact⟨G',s',hI,hq⟩
 | .loop x,Λ,cur,Q,G,s,a,w,h,hr=>by
  simp only[xg] at hr;split at hr
  .exact hr.elim
  .rename_i ι P μ fz dead ins aE os PW ren sub hL;obtain⟨⟨i0,hP0,hF0⟩,a1I⟩:=hr;obtain⟨G1,h1⟩:=h.Bb fz;obtain⟨G2,h2⟩:=Ba h1 hF0.ex.choose_spec;refine wp_loop_ghost (λ n a w=>∃ i G,P i/\μ i=n/\Inv c G (oH s (dead++Code.yi x) (ins i) aE (os i)) a w) (μ i0) ⟨i0,G2,hP0,rfl,h2⟩ ?_;rintro n a' w' ⟨i,G',hP,rfl,hI⟩;refine b2m (gd hE ij x (sub i) cur _ G' _ a' w' hI (a1I i hP)) ?_;rintro e a'' O8 ⟨G'',s'',a2J,hq⟩;cases e with
   | normal =>
    obtain⟨j,hPj,bm,hF⟩:=hq;obtain⟨G3,h3⟩:=a2J.Bb fz;obtain⟨G4,h4⟩:=Ba h3 hF.ex.choose_spec;exact⟨μ j,bm,j,G4,hPj,rfl,h4⟩
   | _=>exact⟨G'',s'',a2J,hq⟩
 | .exit id,Λ,cur,Q,G,s,a,w,h,hr=>wp_exit ⟨G,s,h,hr⟩
 | .ret,Λ,cur,Q,G,s,a,w,h,hr=>wp_ret ⟨G,s,h,hr⟩
 | .label l,Λ,cur,Q,G,s,a,w,h,hr=>wp_label ⟨G,s,h,hr⟩
 | .rangeFunc ..,_,_,_,_,_,_,_,_,hr=>hr.elim
 | .scope ..,_,_,_,_,_,_,_,_,hr=>hr.elim
 | .goto ..,_,_,_,_,_,_,_,_,hr=>hr.elim
 | .refuse ..,_,_,_,_,_,_,_,_,hr=>hr.elim
end
theorem aI.replicate{α β:Type}{R:α->β->Prop}{a:α}{b:β}(G7:R a b):∀ n:Nat,aI R (List.replicate n a) (List.replicate n b)
 | 0=>trivial
 | n+1=>⟨G7,aI.replicate G7 n⟩
theorem aI.F4{α β:Type}{R:α->β->Prop}{Z9:List α}{bs:List β}(h:aI R Z9 bs){a:α}{b:β}(G7:R a b)(n:Nat):aI R (Z9++List.replicate n a) (bs++List.replicate n b) :=
 h.append (aI.replicate G7 n)
theorem aI.getD{α β:Type}{R:α->β->Prop}{d:α}{e:β}(YY:R d e):∀ {Z9:List α} {bs:List β},aI R Z9 bs->∀ i:Nat,R (Z9.getD i d) (bs.getD i e)
 | [],[],_,i=>by simpa using YY
 | a::Z9,b::bs,h,0=>h.1
 | a::Z9,b::bs,h,i+1=>by simpa using aI.getD YY h.2 i
 | [],_::_,h,_=>h.elim
 | _::_,[],h,_=>h.elim
section
variable {P:Program} {E:Env}
def XR(P:Program)(w:World)(S:Nat->Prop):Arg->Value->Prop
 | .own _,_=>True
 | .box _,_=>True
 | a,x=>uD P w S a x
theorem Kt{w:World}{S X:Nat->Prop}(hS:iX w S)(hX:∀ b,X b->b<w.heap.size/\¬ S b){fn:Func}{args:List Arg}{cC:List Value}(ha:aI (XR P w S) args cC)(Kg:(∀ b,¬ X b)\/∀ a∈args,a.FC=true) :
  Inv ⟨P,E,w,X,S,λ _=>none,λ _=>False,λ _=>none⟩ ⟨S,λ _=>undef,λ _=>[]⟩ (dr fn args) { tmps:=cC.toArray++Array.replicate (fn.ntmps - cC.toArray.size) undef,defers:=[] } w:=by
 have hlen:=ha.length;have UX:∀ v x,v∈args->XR P w S v x->VR ⟨P,E,w,X,S,λ _=>none,λ _=>False,λ _=>none⟩ ⟨S,λ _=>undef,λ _=>[]⟩ (dr fn args).af w (Qe v) x:=by
  intro v x hm h;cases v with
  | val v=>exact h
  | ref v =>
   obtain⟨b,o,cs,h1,h2,h3,h4⟩:=h;exact⟨b,o,cs,h1, .inr ⟨h2,Kg.elim (λ q=>⟨q b,λ z=>z⟩) λ q=>absurd (q _ hm) (by simp[Arg.FC])⟩,h3,h4⟩
  | fn f=>exact h
  | cM v =>
   obtain⟨f,eb,l,h1,h2,h3⟩:=h;refine⟨f,eb,l,h1,h2,h3.imp λ u y _ hy=>?_⟩;cases u with
   | val v=>exact hy
   | ref v =>
    obtain⟨b,o,cs,k1,k2,k3,k4⟩:=hy;exact⟨b,o,cs,k1, .inr ⟨k2,Kg.elim (λ q=>⟨q b,λ z=>z⟩) λ q=>absurd (q _ hm) (by simp[Arg.FC])⟩,k3,k4⟩
   | fn f=>exact hy
   | cM v=>exact hy.elim
   | own v=>exact hy.elim
   | box k=>exact hy.elim
  | own v=>trivial
  | box k=>trivial
 exact {
  defers:=rfl
  size:=by simp[dr,hlen]
  aE:=bH.refl _ _
  jN:=⟨λ b h=>(hX b h).1,λ g hg=>⟨(hS.2 g hg).1,λ q=>(hX g q).2 (hS.2 g hg).1,hS.1 g (hS.2 g hg).1,(hS.2 g hg).2⟩⟩
  ew:=λ b _ _=>b0G
  sX:=λ b hs=>hs
  dH:=hS.1
  aw:=λ i=>by
   have h1:aI (λ v x=>VR ⟨P,E,w,X,S,λ _=>none,λ _=>False,λ _=>none⟩ ⟨S,λ _=>undef,λ _=>[]⟩ (dr fn args).af w v x) (args.map Qe) cC:=aI.dR _ (ha.imp λ v x hm h=>UX v x hm h);have h2:=aI.getD (d:=AV.any) (e:=undef) (show VR ⟨P,E,w,X,S,λ _=>none,λ _=>False,λ _=>none⟩ ⟨S,λ _=>undef,λ _=>[]⟩ (dr fn args).af w .any undef from trivial) (h1.F4 (a:=AV.any) (b:=undef) (show VR ⟨P,E,w,X,S,λ _=>none,λ _=>False,λ _=>none⟩ ⟨S,λ _=>undef,λ _=>[]⟩ (dr fn args).af w .any undef from trivial) (fn.ntmps - args.length)) i;have e1:(dr fn args).sl i=(args.map Qe++List.replicate (fn.ntmps - args.length) AV.any).getD i AV.any:=rfl;have e2:(cC.toArray++Array.replicate (fn.ntmps - cC.toArray.size) undef).getD i undef=(cC++List.replicate (fn.ntmps - args.length) undef).getD i undef:=by
    rw[a9d,a8D,<-Array.getElem?_toList];simp[hlen]
   rw[e1,e2];exact h2
  aC:=λ id o h=>by cases h
  place:=λ id o b h=>by cases h
  apart:=λ id di o o' b h=>by cases h
  aM:=⟨(λ id τ xs h=>by cases h),(λ id τ xs h=>by cases h),(λ id τ xs b h=>by cases h),(λ id di τ aO xs cI b h=>by cases h)⟩
  root:=λ id v h=>by cases h
  fN:=λ id v h=>by cases h
  dy:=λ id v h=>by cases h
  eM:=λ id v h=>by cases h }
theorem Vu{w:World}{S:Nat->Prop}(hS:iX w S){fn:Func}{args:List Arg}{cC:List Value}(ha:aI (uD P w S) args cC) :
  Inv ⟨P,E,w,λ _=>False,S,λ _=>none,λ _=>False,λ _=>none⟩ ⟨S,λ _=>undef,λ _=>[]⟩ (dr fn args) { tmps:=cC.toArray++Array.replicate (fn.ntmps - cC.toArray.size) undef,defers:=[] } w :=
 Kt hS (λ _ h=>h.elim) (ha.imp λ v x _ h=>by
  cases v with
  | own v=>trivial
  | box k=>exact h.elim
  | _=>exact h) (.inl λ _ h=>h)
def kB(tmps:Array Value):ResultVar->Sem Value
 | .tmp t=>pure (tmps.getD t undef)
 | .cell a t=>do loadVar t (<-asAddr (tmps.getD a undef))
theorem wb(fn:Func)(tmps:Array Value):results fn tmps=(do
  let vs <-fn.results.mapM (kB tmps)
  pure (if h:vs.size=1 then vs[0] else .tuple vs)):=by
 unfold results;congr 1
theorem HO(hE:bu P E){c:Ctx}(hcP:c.P=P)(hcE:c.E=E){G:Gh}{s:ag}{a:Act}{w:World}(h:Inv c G s a w):∀ {rs:List ResultVar} {Ts:List TypeId} {vs:List TV},Jy E s rs Ts=some vs ->
  ∃ xs,(rs.mapM (kB a.tmps)).run P w = .ok xs w/\aI (dv w (SX G s.af)) vs xs
 | [],[],vs,hr=>by
  simp only[Jy,a8r] at hr;subst hr;exact⟨[],by simp,ae⟩
 | r::rs,T::Ts,vs,hr=>by
  simp only[Jy] at hr;split at hr
  .rename_i τ q hT;split at hr
   .rename_i x hx;split at hr
    .rename_i l hl;simp only[a8r] at hr;subst hr;obtain⟨xs,h1,h2⟩:=HO hE hcP hcE h hl;cases r with
     | tmp t =>
      refine⟨a.tmps.getD t undef::xs,by simp[b0H,kB,h1],uI h.aM h.aC (BU λ _ _ h=>h) hx (aR h (.tmp t)),h2⟩
     | cell p t =>
      simp only at hx;split at hx
      .rename_i hb;have hb:=Nat.eq_of_beq_eq_true hb;subst hb;unfold deref at hx;split at hx
       .rename_i u hu;obtain⟨b,o,cs,k1,k2,k3,k4⟩:=nC h.aC (BU λ _ _ h=>h) hu (aR h (.tmp p));have cz:=ga hE hT k2 k3;have k1':a.tmps.getD p undef = .pointer (some ⟨b,o,none⟩):=k1;refine⟨Dy τ cs::xs,?_,uI h.aM h.aC (BU λ _ _ h=>h) hx k4,h2⟩;simp only[Instr.loadAt,Instr.sureAddr,a8N,a8O,a8J] at cz;simp only[b0H,kB,k1',asAddr,a8N,a8O,a8J,cz,h1]
       .cases hx
      .cases hx
    .cases hr
   .cases hr
  .cases hr
 | [],_::_,_,hr=>by cases hr
 | _::_,[],_,hr=>by cases hr
theorem a0g{w:World}{S:Nat->Prop}:∀ {vs:List TV} {xs:List Value},aI (dv w S) vs xs->DB w S vs (if h:xs.toArray.size=1 then xs.toArray[0] else .tuple xs.toArray)
 | [],[],_=>⟨[],by simp,ae⟩
 | [v],[x],h=>by simpa [DB] using h.1
 | v::u::r,x::y::z,h=>⟨x::y::z,by simp,h⟩
 | [],_::_,h=>h.elim
 | _::_,[],h=>h.elim
 | [_],_::_::_,h=>h.2.elim
 | _::_::_,[_],h=>h.2.elim
theorem Pz(hE:bu P E)(ij:P.follows .mixedOrders=true){f:FuncId}{fn:Func}{bj:Code}(hf:P.funcs[f]?=some fn)(hb:fn.body=some bj)(Λ:Nat->aG){args:List Arg}{post:List TV->Prop}
  (h:xg E bj Λ 0 (tj E fn post) (dr fn args)):fF P f args post:=by
 intro w S cC hS ha;refine calls_of_wp hf hb ?_;have hinv:=Vu (P:=P) (E:=E) (fn:=fn) hS ha;refine b2m (gd (c:=⟨P,E,w,λ _=>False,S,λ _=>none,λ _=>False,λ _=>none⟩) hE ij bj Λ 0 _ _ _ _ w hinv h) ?_;have fin:∀ (e:Exit) (a:Act) (w':World),(e = .normal\/e = .ret)->(∃ G s,Inv ⟨P,E,w,λ _=>False,S,λ _=>none,λ _=>False,λ _=>none⟩ G s a w'/\tj E fn post e s) ->
   a.defers=[]/\∃ v,(results fn a.tmps).run P w' = .ok v w'/\∃ x S' res,Ending.returned v = .returned x/\post res/\bH (λ _=>False) w w'/\(∀ b,b<w.heap.size->(S' b↔S b))/\(∀ b,S' b->b<w'.heap.size)/\DB w' S' res x:=by
  rintro e a w' he ⟨G,s,hI,hp⟩;have US:∃ vs,Jy E s fn.results.toList fn.resultTypes.toList=some vs/\post vs:=by
   rcases he with rfl|rfl <;>
   .simp only[tj] at hp;split at hp
    .rename_i vs Br;exact⟨vs,Br,hp⟩
    .exact hp.elim
  obtain⟨vs,Br,UT⟩:=US;obtain⟨xs,h1,h2⟩:=HO hE (c:=⟨P,E,w,λ _=>False,S,λ _=>none,λ _=>False,λ _=>none⟩) rfl rfl hI Br;refine⟨hI.defers,(if h:xs.toArray.size=1 then xs.toArray[0] else .tuple xs.toArray),?_,_,SX G s.af,vs,rfl,UT,hI.aE,λ b hb=>?_,λ b hb=>?_,a0g h2⟩
  .rw[wb,b0E];simp only[a8N,b2h,h1];rfl
  .constructor
   .rintro (hs|⟨id,e',τ,ys,aL,fW⟩|⟨id,τ,ys,aL,fW⟩)
    .exact (hI.ew b hb (λ q=>q)).1 hs
    .rcases (hI.place id _ b aL fW).1 with E9|hx
     .have:w.heap.size<=b:=E9;omega
     .exact hx.elim
    .rcases (hI.aM.pl id _ _ b aL fW).1 with E9|hx
     .have:w.heap.size<=b:=E9;omega
     .exact hx.elim
   .exact λ hs => .inl ((hI.ew b hb (λ q=>q)).2 hs)
  .rcases hb with hs|⟨id,e',τ,ys,aL,fW⟩|⟨id,τ,ys,aL,fW⟩
   .exact hI.dH b hs
   .exact (hI.place id _ b aL fW).2.2
   .exact (hI.aM.pl id _ _ b aL fW).2.2.1
 intro e a w' hq;cases e with
 | normal=>exact fin .normal a w' (.inl rfl) hq
 | ret=>exact fin .ret a w' (.inr rfl) hq
 | exit i=>obtain⟨_,_,_,hp⟩:=hq;exact hp.elim
 | goto l=>obtain⟨_,_,_,hp⟩:=hq;exact hp.elim
 | panic ch=>obtain⟨_,_,_,hp⟩:=hq;exact hp.elim
 | outgrown=>obtain⟨_,_,_,hp⟩:=hq;exact hp.elim
end
def yb(E:Env)(s:ag):List ResultVar->List TypeId->Option (List TV×List Nat)
 | [],[]=>some ([],[])
 | r::rs,T::Ts=>match af E.ty T with
  | some (
      τ,_)=>match (match r with
    | .tmp t=>FI s.af τ (s.eval (.tmp t))
    | .cell p t=>match Nat.beq t T with
     | true=>match pn s.af τ (s.eval (.tmp p)) with
      | some u=>FI s.af τ u
      | none=>none
     | false=>none) with
   | some (x,i)=>match yb E s rs Ts with
    | some (l,j)=>some (⟨τ,x⟩::l,i++j)
    | none=>none
   | none=>none
  | none=>none
 | _,_=>none
def B4(E:Env)(fn:Func)(post:List TV->Prop)(e:Exit)(s:ag):Prop :=
 match e with
 | .ret | .normal=>match yb E s fn.results.toList fn.resultTypes.toList with
  | some (vs,ids)=>match nodupB ids with
   | true=>post vs
   | false=>False
  | none=>False
 | _=>False
section
variable {P:Program} {E:Env}
theorem H5{c:Ctx}(hE:bu c.P c.E)(hcP:c.P=P)(hcE:c.E=E){G:Gh}{s:ag}{a:Act}{w:World}(h:Inv c G s a w):∀ {rs:List ResultVar} {Ts:List TypeId} {vs:List TV} {ids:List Nat},yb E s rs Ts=some (vs,ids)->ids.Nodup ->
  ∃ xs fp,(rs.mapM (kB a.tmps)).run P w = .ok xs w/\FP w vs xs fp/\fp.Nodup/\∀ b∈fp,uq G s.af ids b
 | [],[],vs,ids,hr,_=>by
  simp only[yb,a8r,a8u] at hr;obtain⟨rfl,rfl⟩:=hr;exact⟨[],[],by simp,rfl,a9x,by simp⟩
 | r::rs,T::Ts,vs,ids,hr,cX=>by
  simp only[yb] at hr;split at hr;case h_2=>cases hr
  case h_1 τ q hT =>
  split at hr;case h_2=>cases hr
  case h_1 x i hx =>
  split at hr;case h_2=>cases hr
  case h_1 l j hl =>
  simp only[a8r,a8u] at hr;obtain⟨rfl,rfl⟩:=hr;rw[a8M] at cX;obtain⟨n1,n2,n3⟩:=cX;obtain⟨xs,fp,h1,h2,h3,h4⟩:=H5 hE hcP hcE h hl n2;cases r with
  | cell p t =>
   simp only at hx;split at hx;case h_2=>cases hx
   case h_1 hb =>
   have hb:=a8s hb;subst hb;split at hx;case h_2=>cases hx
   case h_1 u hu =>
   obtain⟨b,o,cs,q1,q2,q3,q4⟩:=nC h.aC (λ _ _ h=>h) hu (aR h (.tmp p));subst hcP hcE;have cz:=ga hE hT q2 q3;have q1':a.tmps.getD p undef = .pointer (some ⟨b,o,none⟩):=q1;obtain⟨f1,k1,k2,k3⟩:=pR h hx q4 n1;refine⟨Dy τ cs::xs,f1++fp,?_,⟨f1,fp,rfl,k1,h2⟩,dQ k2 h3 λ b hb cq=>h.iB (k3 b hb) (h4 b cq) (λ x hx y hy=>n3 x hx y hy),λ b hb=>?_⟩
   .simp only[Instr.loadAt,Instr.sureAddr,a8N,a8O,a8J] at cz;simp only[b0H,kB,q1',asAddr,a8N,a8O,a8J,cz,h1]
   .rcases a8t.1 hb with hb|hb
    .exact (k3 b hb).mono λ k hk=>by simp[hk]
    .exact (h4 b hb).mono λ k hk=>by simp[hk]
  | tmp t =>
   obtain⟨f1,k1,k2,k3⟩:=pR h hx (aR h (.tmp t)) n1;refine⟨a.tmps.getD t undef::xs,f1++fp,by simp[b0H,kB,h1],⟨f1,fp,rfl,k1,h2⟩,dQ k2 h3 λ b hb cq=>h.iB (k3 b hb) (h4 b cq) (λ x hx y hy=>n3 x hx y hy),λ b hb=>?_⟩;rcases a8t.1 hb with hb|hb
   .exact (k3 b hb).mono λ k hk=>by simp[hk]
   .exact (h4 b hb).mono λ k hk=>by simp[hk]
 | [],_::_,_,_,hr,_=>by cases hr
 | _::_,[],_,_,hr,_=>by cases hr
theorem Xn{w:World}:∀ {vs:List TV} {xs:List Value} {fp:List Nat},FP w vs xs fp->AF w vs (if h:xs.toArray.size=1 then xs.toArray[0] else .tuple xs.toArray) fp
 | [],[],fp,h=>⟨[],by simp,h⟩
 | [v],[x],fp,h=>by
  obtain⟨f1,f2,rfl,h1,h2⟩:=h;have h2:f2=[]:=h2;subst h2;simpa [AF] using h1
 | v::u::r,x::y::z,fp,h=>⟨x::y::z,by simp,h⟩
 | [],_::_,_,h=>h.elim
 | _::_,[],_,h=>h.elim
 | [_],_::_::_,_,h=>by obtain⟨_,_,_,_,h⟩:=h;exact h.elim
 | _::_::_,[_],_,h=>by obtain⟨_,_,_,_,h⟩:=h;exact h.elim
theorem nG:∀ {us:List TV} {id:Nat} {p:Nat×au},p∈bR id us->id<=p.1/\p.1<id+us.length
 | [],id,p,h=>by cases h
 | u::us,id,p,h=>by
  rcases a8t.1 h with h|h
  .have:=Kn h;simp only[a8F];omega
  .have:=nG h;simp only[a8F];omega
theorem B3:∀ {us:List TV} {id:Nat},((bR id us).map (·.1)).Nodup
 | [],id=>a9x
 | u::us,id=>by
  simp only[bR,a9F];refine dQ ?_ B3 λ x hx mo=>?_
  .obtain⟨τ,y⟩:=u;cases τ<;>simp[eR]
  .obtain⟨p,hp,rfl⟩:=a8w.1 hx;obtain⟨q,hq,e⟩:=a8w.1 mo;have h1:=Kn hp;have h2:=nG hq;omega
theorem WC(v:TV):v.cells.length<=100:=by
 obtain⟨τ,y⟩:=v;cases τ with
 | st s =>
  show (s.cells y).length<=100;rw[aJ.gf];exact Ty.size_le (.st s)
 | _=>exact Nat.succ_le_of_lt (Nat.zero_lt_of_lt (by decide:0<100))
theorem wS{c:Ctx}{a:Act}{w:World}{S:Nat->Prop}(hR:∀ j,c.R j=none):∀ {Z9:List Arg} {xs:List Value} {fp:List Nat} {p:Nat} {G:Gh} {s:ag},Inv c G s a w->pT P w S Z9 xs fp->fp.Nodup->Fr c G s.af w fp ->
  (∀ i x,xs[i]?=some x->a.tmps.getD (p+i) undef=x)->p+Z9.length<=s.aw.length->(∀ id o,s.af id=some o->id<1000000+100 * p)->∃ G',Inv c G' (pd p Z9 s) a w
 | [],xs,fp,p,G,s,h,_,_,_,_,_,_=>⟨G,h⟩
 | b::Z9,[],fp,p,G,s,h,hA,_,_,_,_,_=>hA.elim
 | b::Z9,x::xs,fp,p,G,s,h,hA,cX,hF,hx,hlen,aL=>by
  obtain⟨f1,f2,rfl,hb,hA⟩:=hA;rw[a8M] at cX;obtain⟨n1,n2,n3⟩:=cX;simp only[a8F] at hlen;have mo:∀ i y,xs[i]?=some y->a.tmps.getD (p+1+i) undef=y:=λ i y hi=>by
   have:=hx (i+1) y (by simpa using hi);rwa [show p+(i+1)=p+1+i by omega] at this
  have other:f1=[]->pd p (b::Z9) s=pd (p+1) Z9 s->∃ G',Inv c G' (pd p (b::Z9) s) a w:=λ hf e=>by
   subst hf;rw[e];exact wS hR h hA n2 (λ q hq=>hF q (by simp[hq])) mo (by omega) λ id o ho=>by have:=aL id o ho;omega
  cases b with
  | own v =>
   have hO:Ah w v x f1:=hb;obtain⟨G1,lk1,l1,i1,e1,t1,Ut⟩:=aV.Qc (id:=1000000+100 * p) h hO n1 (λ q hq=>hF q (by simp[hq]))
    (λ q hq=>by
     cases tE:s.af q.1 with
     | none=>rfl
     | some o=>have h1:=aL _ o tE;have h2:=nG hq;omega) B3 (λ j _=>hR j)
   have bO:ag.af { aw:=s.aw.set p (gE (1000000+100 * p) v),aC:=bR (1000000+100 * p) v.cells++s.aC }=lk1:=by
    funext i;rw[l1 i];exact oQ _ _ i
   have hI:Inv c G1 { aw:=s.aw.set p (gE (1000000+100 * p) v),aC:=bR (1000000+100 * p) v.cells++s.aC } a w:=by
    unfold Inv;rw[bO,show ag.sl { aw:=s.aw.set p (gE (1000000+100 * p) v),aC:=bR (1000000+100 * p) v.cells++s.aC }=iu s.aw.length s.sl (some p) (gE (1000000+100 * p) v) from nJ s.aw p _ _,
     show ({ aw:=s.aw.set p (gE (1000000+100 * p) v),aC:=bR (1000000+100 * p) v.cells++s.aC }:ag).aw.length=s.aw.length from by simp]
    exact { i1 with
     aw:=λ i=>by
      unfold iu;split
      .rename_i hi;obtain⟨e,_⟩:=hi;simp only[a8r] at e;subst e;rw[show a.tmps.getD p undef=x from hx 0 x rfl];exact t1.eS
      .exact i1.aw i }
   obtain⟨G2,h2⟩:=wS hR hI hA n2 (by
    rw[bO];exact Ut f2 (λ q hq=>hF q (by simp[hq])) λ q hq SI=>n3 q SI q hq rfl) mo (by simp;omega) (λ id o ho=>by
     rw[bO,l1 id] at ho;unfold fZ at ho;split at ho
     .rename_i o' cF;have h1:=nG (fP cF);have h2:=WC v;simp only at h1;omega
     .have:=aL id o ho;omega)
   exact⟨G2,h2⟩
  | val v=>exact other hb.1 rfl
  | ref v=>exact other hb.1 rfl
  | fn v=>exact other hb.1 rfl
  | cM v=>exact other hb.1 rfl
  | box k=>exact other hb.1 rfl
theorem pT.uG{w:World}{S:Nat->Prop}:∀ {Z9:List Arg} {xs:List Value} {fp:List Nat},pT P w S Z9 xs fp->aI (XR P w S) Z9 xs
 | [],[],_,_=>trivial
 | a::Z9,x::xs,_,h=>by
  obtain⟨f1,f2,_,h1,h2⟩:=h;refine⟨?_,pT.uG h2⟩;cases a with
  | own v=>trivial
  | box k=>exact h1.2.elim
  | _=>exact h1.2
 | [],_::_,_,h=>h.elim
 | _::_,[],_,h=>h.elim
theorem TL{w:World}{S:Nat->Prop}(hS:iX w S){fn:Func}{args:List Arg}{cC:List Value}{fa:List Nat}(ha:pT P w S args cC fa)(Kg:fa=[]\/∀ a∈args,a.FC=true)(cX:fa.Nodup)(Sz:∀ b∈fa,b<w.heap.size/\¬ S b) :
  ∃ G,Inv ⟨P,E,w,λ b=>b∈fa,S,λ _=>none,λ _=>False,λ _=>none⟩ G (LQ fn args) { tmps:=cC.toArray++Array.replicate (fn.ntmps - cC.toArray.size) undef,defers:=[] } w:=by
 have h0:=Kt (P:=P) (E:=E) (fn:=fn) hS (X:=λ b=>b∈fa) Sz ha.uG (Kg.imp_left λ e b hb=>by rw[e] at hb;cases hb);have hlen:=ha.uG.length;refine wS (S:=S) (λ _=>rfl) h0 ha cX (λ b hb=>⟨.inr hb,(Sz b hb).2,(Sz b hb).1,λ i o h=>(by cases h),λ j τ xs h=>by cases h⟩) (λ i x hi=>?_) (by simp[dr]<;>omega) (λ id o h=>by cases h);rw[Nat.zero_add,Array.getD_eq_getD_getElem?,Array.getElem?_append_left (by simpa using (List.getElem?_eq_some_iff.1 hi).1)];simp[hi]
theorem OE(hE:bu P E)(ij:P.follows .mixedOrders=true){f:FuncId}{fn:Func}{bj:Code}(hf:P.funcs[f]?=some fn)(hb:fn.body=some bj)(Λ:Nat->aG){args:List Arg}{res:List TV}{post:List TV->Prop}(UT:∀ vs,post vs->vs=res)
  (h:xg E bj Λ 0 (B4 E fn post) (LQ fn args)):sC P f args res:=by
 intro w S cC fa hS ha Kg qB Sz;refine calls_of_wp hf hb ?_;obtain⟨G0,hinv⟩:=TL (P:=P) (E:=E) (fn:=fn) hS ha Kg qB Sz;refine b2m (gd (c:=⟨P,E,w,λ b=>b∈fa,S,λ _=>none,λ _=>False,λ _=>none⟩) hE ij bj Λ 0 _ _ _ _ w hinv h) ?_;have fin:∀ (e:Exit) (a:Act) (w':World),(e = .normal\/e = .ret)->(∃ G s,Inv ⟨P,E,w,λ b=>b∈fa,S,λ _=>none,λ _=>False,λ _=>none⟩ G s a w'/\B4 E fn post e s) ->
   a.defers=[]/\∃ v,(results fn a.tmps).run P w' = .ok v w'/\∃ x fp,Ending.returned v = .returned x/\bH (λ b=>b∈fa) w w'/\AF w' res x fp/\fp.Nodup/\∀ b∈fp,b∈fa\/(w.heap.size<=b/\b<w'.heap.size):=by
  rintro e a w' he ⟨G,s,hI,hp⟩;have US:∃ vs ids,yb E s fn.results.toList fn.resultTypes.toList=some (vs,ids)/\ids.Nodup/\vs=res:=by
   rcases he with rfl|rfl <;>
   .simp only[B4] at hp;split at hp
    .rename_i vs ids Br;split at hp
     .rename_i hn;exact⟨vs,ids,Br,cZ hn,UT vs hp⟩
     .exact hp.elim
    .exact hp.elim
  obtain⟨vs,ids,Br,hn,rfl⟩:=US;obtain⟨xs,fp,h1,h2,h3,h4⟩:=H5 (P:=P) (E:=E) (c:=⟨P,E,w,λ b=>b∈fa,S,λ _=>none,λ _=>False,λ _=>none⟩) hE rfl rfl hI Br hn;refine⟨hI.defers,(if h:xs.toArray.size=1 then xs.toArray[0] else .tuple xs.toArray),?_,_,fp,rfl,hI.aE,Xn h2,h3,λ b hb=>?_⟩
  .rw[wb,b0E];simp only[a8N,b2h,h1];rfl
  .obtain⟨id,hi,hq⟩:=h4 b hb;rcases hq with ⟨τ,ys,q1,q2⟩|⟨e',τ,ys,q1,q2⟩
   .obtain⟨p1,_,p3,_⟩:=hI.aM.pl id τ ys b q1 q2;exact p1.elim (λ q => .inr ⟨q,p3⟩) .inl
   .obtain⟨p1,_,p3⟩:=hI.place id _ b q1 q2;exact p1.elim (λ q => .inr ⟨q,p3⟩) .inl
 intro e a w' hq;cases e with
 | normal=>exact fin .normal a w' (.inl rfl) hq
 | ret=>exact fin .ret a w' (.inr rfl) hq
 | exit i=>obtain⟨_,_,_,hp⟩:=hq;exact hp.elim
 | goto l=>obtain⟨_,_,_,hp⟩:=hq;exact hp.elim
 | panic ch=>obtain⟨_,_,_,hp⟩:=hq;exact hp.elim
 | outgrown=>obtain⟨_,_,_,hp⟩:=hq;exact hp.elim
end
section
variable {P:Program} {E:Env}
theorem jd.congr{w:World}{S:Nat->Prop}{B B':Nat->Nat}{N:Nat}(hB:∀ j,j<N->B j=B' j):∀ {ks:List CK} {ds:List TV} {l:List Value} {fp:List Nat},(∀ j,CK.p j∈ks->j<N)->jd w S B ks ds l fp->jd w S B' ks ds l fp:=by
 intro ks;induction ks with
 | nil=>intro ds l fp _ h;cases ds<;>cases l<;>exact h
 | cons k0 ks ih =>
  intro ds l fp hp h;cases l with
  | nil=>cases k0<;>cases ds<;>cases h
  | cons x l =>
   cases k0 with
   | d τ =>
    cases ds with
    | nil=>cases h
    | cons v ds=>exact⟨h.1,ih (λ j hj=>hp j (by simp[hj])) h.2⟩
   | o τ =>
    cases ds with
    | nil=>cases h
    | cons v ds =>
     obtain⟨f1,f2,e,h1,h2⟩:=h;exact⟨f1,f2,e,h1,ih (λ j hj=>hp j (by simp[hj])) h2⟩
   | p j =>
    have h:x = .pointer (some ⟨B j,0,none⟩)/\jd w S B ks ds l fp:=by cases ds<;>exact h
    have r:=ih (λ j hj=>hp j (by simp[hj])) h.2;have e:x = .pointer (some ⟨B' j,0,none⟩):=by rw[h.1,hB j (hp j (by simp))]
    cases ds<;>exact⟨e,r⟩
theorem fQ.congr{w:World}{S:Nat->Prop}{B B':Nat->Nat}{N:Nat}(hB:∀ j,j<N->B j=B' j):∀ {sh:List (List CK)} {k:Nat} {cw:List (List TV)} {fa:List Nat},k+sh.length<=N->(∀ ks∈sh,∀ j,CK.p j∈ks->j<N)->fQ w S B k sh cw fa->fQ w S B' k sh cw fa
 | [],k,cw,fa,_,_,h=>by cases cw<;>exact h
 | ks::sh,k,[],fa,_,_,h=>h.elim
 | ks::sh,k,ds::cw,fa,hk,hp,h=>by
  obtain⟨l,t,f1,f2,e,h1,h2,h3⟩:=h;simp only[a8F] at hk;exact⟨l,t,f1,f2,e,by rw[<-hB k (by omega)];exact h1,h2.congr hB (hp ks (by simp)),fQ.congr hB (by omega) (λ ks' fe=>hp ks' (by simp[fe])) h3⟩
theorem fQ.len{w:World}{S:Nat->Prop}{B:Nat->Nat}:∀ {sh:List (List CK)} {k:Nat} {cw:List (List TV)} {fa:List Nat},fQ w S B k sh cw fa->sh.length=cw.length
 | [],_,[],_,_=>rfl
 | [],_,_::_,_,h=>h.elim
 | _::_,_,[],_,h=>h.elim
 | ks::sh,k,ds::cw,fa,h=>by
  obtain⟨l,t,f1,f2,e,h1,h2,h3⟩:=h;simp[fQ.len h3]
end
def zb:List (Nat×Ty×Nat×Nat) :=
 [(2,(.int .i64),0,0),
  (3,(.int .i64),0,0),
  (4, .bool,0,0),
  (5,(.int .u8),0,0),
  (9, .str,0,0),
  (12,(.int .u64),0,0),
  (23,(.st .sig),0,0),
  (24,(.slice (.st .expr)),40,26),
  (26,(.st .expr),0,0),
  (31,(.st .sig),0,0),
  (33,(.slice (.st .expr)),40,36),
  (36,(.st .expr),0,0),
  (56,(.slice (.slice .bool)),24,69),
  (57,(.slice (.slice (.slice (.int .i64)))),24,67),
  (59,(.st .automaton),0,0),
  (67,(.slice (.slice (.int .i64))),24,68),
  (68,(.slice (.int .i64)),8,2),
  (69,(.slice .bool),1,4),
  (82,(.st .word),0,0),
  (118,(.slice (.int .u8)),1,5),
  (132,(.int .u64),0,0),
  (152,(.slice .str),16,9),
  (172,(.int .u64),0,0)]
def LL:List (Nat×Ty) :=
 [(44,(.st .expr)),(63,(.st .automaton)),(129,(.slice (.st .expr))),(150,(.int .u8)),(182,(.int .i64))]
def Hy:List (Nat×Ty×Ty):=[(88,(.int .i64),(.int .i64)),(116, .str,(.int .i64)),(134, .str, .bool)]
def LD:List Nat:=[23,31]
abbrev eK:Nat:=2
abbrev yg:Nat:=4
abbrev JG:Nat:=23
abbrev FR:Nat:=26
abbrev eH:Nat:=36
abbrev mT:Nat:=67
abbrev sD:Nat:=68
abbrev Cm:Nat:=69
noncomputable abbrev prog:Program:=Tryz.prog
def CM(E:Env):((zb.all λ r=>py prog { E with ty:=zb,Rm:=LL,Jg:=Hy,cmp:=LD } r.1 r.2.1 r.2.2.1 r.2.2.2)&&Hy.all λ r=>NA prog { E with ty:=zb,Rm:=LL,Jg:=Hy,cmp:=LD } r.1 r.2.1 r.2.2)=true:=by kernel_rfl
def B5:prog.follows .mixedOrders=true:=Checked.mixed Tryz.checked
def bl(f:Func):Code:=match f.body with
 | some c=>c
 | none => .skip
abbrev eE:Nat:=4
noncomputable abbrev eC:Func:=Tryz.f4
def gA:prog.funcs[eE]?=some eC:=Tryz.func4
def mQ:eC.body=some (bl eC):=by kernel_rfl
abbrev zX:Nat:=5
noncomputable abbrev qg:Func:=Tryz.f5
def od:prog.funcs[zX]?=some qg:=Tryz.func5
def Et:qg.body=some (bl qg):=by kernel_rfl
abbrev tV:Nat:=6
noncomputable abbrev sY:Func:=Tryz.f6
def lG:prog.funcs[tV]?=some sY:=Tryz.func6
def Gd:sY.body=some (bl sY):=by kernel_rfl
abbrev D1:Nat:=8
noncomputable abbrev wB:Func:=Tryz.f8
def AK:prog.funcs[D1]?=some wB:=Tryz.func8
def Ir:wB.body=some (bl wB):=by kernel_rfl
abbrev zY:Nat:=9
noncomputable abbrev qh:Func:=Tryz.f9
def oe:prog.funcs[zY]?=some qh:=Tryz.func9
def Eu:qh.body=some (bl qh):=by kernel_rfl
abbrev tW:Nat:=10
noncomputable abbrev sZ:Func:=Tryz.f10
def lH:prog.funcs[tW]?=some sZ:=Tryz.func10
def Ge:sZ.body=some (bl sZ):=by kernel_rfl
abbrev zW:Nat:=12
noncomputable abbrev qf:Func:=Tryz.f12
def oa:prog.funcs[zW]?=some qf:=Tryz.func12
def Es:qf.body=some (bl qf):=by kernel_rfl
abbrev tU:Nat:=13
noncomputable abbrev sW:Func:=Tryz.f13
def lF:prog.funcs[tU]?=some sW:=Tryz.func13
def Gc:sW.body=some (bl sW):=by kernel_rfl
abbrev mM:Nat:=14
noncomputable abbrev gK:Func:=Tryz.f14
def lp:prog.funcs[mM]?=some gK:=Tryz.func14
def sM:gK.body=some (bl gK):=by kernel_rfl
abbrev mL:Nat:=15
noncomputable abbrev gJ:Func:=Tryz.f15
def ll:prog.funcs[mL]?=some gJ:=Tryz.func15
def sL:gJ.body=some (bl gJ):=by kernel_rfl
abbrev D3:Nat:=16
noncomputable abbrev wD:Func:=Tryz.f16
def AM:prog.funcs[D3]?=some wD:=Tryz.func16
def It:wD.body=some (bl wD):=by kernel_rfl
abbrev rh:Nat:=17
noncomputable abbrev qA:Func:=Tryz.f17
def xf:prog.funcs[rh]?=some qA:=Tryz.func17
def EJ:qA.body=some (bl qA):=by kernel_rfl
abbrev ra:Nat:=18
noncomputable abbrev qw:Func:=Tryz.f18
def xd:prog.funcs[ra]?=some qw:=Tryz.func18
def EF:qw.body=some (bl qw):=by kernel_rfl
abbrev nE:Nat:=19
noncomputable abbrev te:Func:=Tryz.f19
def lI:prog.funcs[nE]?=some te:=Tryz.func19
def Gg:te.body=some (bl te):=by kernel_rfl
abbrev HA:Nat:=24
noncomputable abbrev yA:Func:=Tryz.f24
def DF:prog.funcs[HA]?=some yA:=Tryz.func24
def KF:yA.body=some (bl yA):=by kernel_rfl
abbrev BJ:Nat:=26
noncomputable abbrev sS:Func:=Tryz.f26
def zg:prog.funcs[BJ]?=some sS:=Tryz.func26
def F8:sS.body=some (bl sS):=by kernel_rfl
abbrev BS:Nat:=28
noncomputable abbrev ti:Func:=Tryz.f28
def zt:prog.funcs[BS]?=some ti:=Tryz.func28
def Gl:ti.body=some (bl ti):=by kernel_rfl
abbrev xY:Nat:=29
noncomputable abbrev oC:Func:=Tryz.f29
def uQ:prog.funcs[xY]?=some oC:=Tryz.func29
def Dd:oC.body=some (bl oC):=by kernel_rfl
abbrev vX:Nat:=30
noncomputable abbrev nf:Func:=Tryz.f30
def sI:prog.funcs[vX]?=some nf:=Tryz.func30
def AP:nf.body=some (bl nf):=by kernel_rfl
abbrev rL:Nat:=31
noncomputable abbrev kV:Func:=Tryz.f31
def pC:prog.funcs[rL]?=some kV:=Tryz.func31
def ym:kV.body=some (bl kV):=by kernel_rfl
abbrev D0:Nat:=32
noncomputable abbrev wz:Func:=Tryz.f32
def AJ:prog.funcs[D0]?=some wz:=Tryz.func32
def Ip:wz.body=some (bl wz):=by kernel_rfl
abbrev BQ:Nat:=33
noncomputable abbrev tf:Func:=Tryz.f33
def zp:prog.funcs[BQ]?=some tf:=Tryz.func33
def Gi:tf.body=some (bl tf):=by kernel_rfl
abbrev qW:Nat:=34
noncomputable abbrev qj:Func:=Tryz.f34
def jT:prog.funcs[qW]?=some qj:=Tryz.func34
def Ew:qj.body=some (bl qj):=by kernel_rfl
abbrev oV:Nat:=35
noncomputable abbrev ou:Func:=Tryz.f35
def jh:prog.funcs[oV]?=some ou:=Tryz.func35
def C8:ou.body=some (bl ou):=by kernel_rfl
abbrev qY:Nat:=36
noncomputable abbrev qq:Func:=Tryz.f36
def jX:prog.funcs[qY]?=some qq:=Tryz.func36
def EA:qq.body=some (bl qq):=by kernel_rfl
abbrev rf:Nat:=37
noncomputable abbrev qz:Func:=Tryz.f37
def j0:prog.funcs[rf]?=some qz:=Tryz.func37
def EI:qz.body=some (bl qz):=by kernel_rfl
abbrev xR:Nat:=40
noncomputable abbrev oi:Func:=Tryz.f40
def uJ:prog.funcs[xR]?=some oi:=Tryz.func40
def C3:oi.body=some (bl oi):=by kernel_rfl
abbrev Hz:Nat:=41
noncomputable abbrev yy:Func:=Tryz.f41
def DE:prog.funcs[Hz]?=some yy:=Tryz.func41
def KD:yy.body=some (bl yy):=by kernel_rfl
abbrev yS:Nat:=42
noncomputable abbrev yz:Func:=Tryz.f42
def pf:prog.funcs[yS]?=some yz:=Tryz.func42
def KE:yz.body=some (bl yz):=by kernel_rfl
abbrev tT:Nat:=43
noncomputable abbrev sU:Func:=Tryz.f43
def lE:prog.funcs[tT]?=some sU:=Tryz.func43
def Ga:sU.body=some (bl sU):=by kernel_rfl
abbrev Ab:Nat:=46
noncomputable abbrev qv:Func:=Tryz.f46
def xc:prog.funcs[Ab]?=some qv:=Tryz.func46
def EE:qv.body=some (bl qv):=by kernel_rfl
abbrev tX:Nat:=47
noncomputable abbrev ma:Func:=Tryz.f47
def rl:prog.funcs[tX]?=some ma:=Tryz.func47
def Ak:ma.body=some (bl ma):=by kernel_rfl
abbrev xW:Nat:=48
noncomputable abbrev oz:Func:=Tryz.f48
def uO:prog.funcs[xW]?=some oz:=Tryz.func48
def Da:oz.body=some (bl oz):=by kernel_rfl
abbrev xX:Nat:=49
noncomputable abbrev oB:Func:=Tryz.f49
def uP:prog.funcs[xX]?=some oB:=Tryz.func49
def Dc:oB.body=some (bl oB):=by kernel_rfl
abbrev vV:Nat:=50
noncomputable abbrev na:Func:=Tryz.f50
def sG:prog.funcs[vV]?=some na:=Tryz.func50
def AN:na.body=some (bl na):=by kernel_rfl
abbrev rM:Nat:=51
noncomputable abbrev kX:Func:=Tryz.f51
def pD:prog.funcs[rM]?=some kX:=Tryz.func51
def yo:kX.body=some (bl kX):=by kernel_rfl
abbrev zT:Nat:=52
noncomputable abbrev p9:Func:=Tryz.f52
def wX:prog.funcs[zT]?=some p9:=Tryz.func52
def Em:p9.body=some (bl p9):=by kernel_rfl
abbrev zS:Nat:=53
noncomputable abbrev pZ:Func:=Tryz.f53
def wW:prog.funcs[zS]?=some pZ:=Tryz.func53
def El:pZ.body=some (bl pZ):=by kernel_rfl
abbrev dS:Nat:=54
noncomputable abbrev A5:Func:=Tryz.f54
def Aj:prog.funcs[dS]?=some A5:=Tryz.func54
abbrev D2:Nat:=55
noncomputable abbrev wC:Func:=Tryz.f55
def AL:prog.funcs[D2]?=some wC:=Tryz.func55
def Is:wC.body=some (bl wC):=by kernel_rfl
abbrev BP:Nat:=56
noncomputable abbrev td:Func:=Tryz.f56
def zm:prog.funcs[BP]?=some td:=Tryz.func56
def Gf:td.body=some (bl td):=by kernel_rfl
abbrev z7:Nat:=57
noncomputable abbrev qi:Func:=Tryz.f57
def wZ:prog.funcs[z7]?=some qi:=Tryz.func57
def Ev:qi.body=some (bl qi):=by kernel_rfl
abbrev jI:Nat:=58
noncomputable abbrev jz:Func:=Tryz.f58
def fG:prog.funcs[jI]?=some jz:=Tryz.func58
def xh:jz.body=some (bl jz):=by kernel_rfl
abbrev ua:Nat:=59
noncomputable abbrev MC:Func:=Tryz.f59
def KA:prog.funcs[ua]?=some MC:=Tryz.func59
abbrev tY:Nat:=60
noncomputable abbrev tg:Func:=Tryz.f60
def lJ:prog.funcs[tY]?=some tg:=Tryz.func60
def Gj:tg.body=some (bl tg):=by kernel_rfl
abbrev Ac:Nat:=61
noncomputable abbrev qx:Func:=Tryz.f61
def xe:prog.funcs[Ac]?=some qx:=Tryz.func61
def EG:qx.body=some (bl qx):=by kernel_rfl
abbrev xU:Nat:=63
noncomputable abbrev ot:Func:=Tryz.f63
def uM:prog.funcs[xU]?=some ot:=Tryz.func63
def C7:ot.body=some (bl ot):=by kernel_rfl
abbrev BN:Nat:=65
noncomputable abbrev sV:Func:=Tryz.f65
def zj:prog.funcs[BN]?=some sV:=Tryz.func65
def Gb:sV.body=some (bl sV):=by kernel_rfl
abbrev zV:Nat:=66
noncomputable abbrev KH:Func:=Tryz.f66
def Il:prog.funcs[zV]?=some KH:=Tryz.func66
abbrev qV:Nat:=67
noncomputable abbrev qe:Func:=Tryz.f67
def jS:prog.funcs[qV]?=some qe:=Tryz.func67
def Er:qe.body=some (bl qe):=by kernel_rfl
abbrev xT:Nat:=68
noncomputable abbrev oq:Func:=Tryz.f68
def uL:prog.funcs[xT]?=some oq:=Tryz.func68
def C6:oq.body=some (bl oq):=by kernel_rfl
abbrev oU:Nat:=69
noncomputable abbrev oj:Func:=Tryz.f69
def jg:prog.funcs[oU]?=some oj:=Tryz.func69
def C4:oj.body=some (bl oj):=by kernel_rfl
abbrev BK:Nat:=70
noncomputable abbrev sT:Func:=Tryz.f70
def zh:prog.funcs[BK]?=some sT:=Tryz.func70
def F9:sT.body=some (bl sT):=by kernel_rfl
abbrev lf:Nat:=71
noncomputable abbrev kW:Func:=Tryz.f71
def fS:prog.funcs[lf]?=some kW:=Tryz.func71
def yn:kW.body=some (bl kW):=by kernel_rfl
abbrev vW:Nat:=75
noncomputable abbrev nc:Func:=Tryz.f75
def sH:prog.funcs[vW]?=some nc:=Tryz.func75
def AO:nc.body=some (bl nc):=by kernel_rfl
abbrev oW:Nat:=76
noncomputable abbrev oA:Func:=Tryz.f76
def ji:prog.funcs[oW]?=some oA:=Tryz.func76
def Db:oA.body=some (bl oA):=by kernel_rfl
abbrev Aa:Nat:=77
noncomputable abbrev qu:Func:=Tryz.f77
def xb:prog.funcs[Aa]?=some qu:=Tryz.func77
def ED:qu.body=some (bl qu):=by kernel_rfl
abbrev xZ:Nat:=78
noncomputable abbrev oD:Func:=Tryz.f78
def uR:prog.funcs[xZ]?=some oD:=Tryz.func78
def De:oD.body=some (bl oD):=by kernel_rfl
abbrev xS:Nat:=79
noncomputable abbrev om:Func:=Tryz.f79
def uK:prog.funcs[xS]?=some om:=Tryz.func79
def C5:om.body=some (bl om):=by kernel_rfl
abbrev qU:Nat:=80
noncomputable abbrev qc:Func:=Tryz.f80
def jR:prog.funcs[qU]?=some qc:=Tryz.func80
def Eo:qc.body=some (bl qc):=by kernel_rfl
abbrev nD:Nat:=81
noncomputable abbrev GA:Func:=Tryz.f81
def Ej:prog.funcs[nD]?=some GA:=Tryz.func81
abbrev BR:Nat:=87
noncomputable abbrev th:Func:=Tryz.f87
def zq:prog.funcs[BR]?=some th:=Tryz.func87
def Gk:th.body=some (bl th):=by kernel_rfl
abbrev BL:Nat:=90
noncomputable abbrev MB:Func:=Tryz.f90
def Kz:prog.funcs[BL]?=some MB:=Tryz.func90
abbrev rb:Nat:=95
noncomputable abbrev qy:Func:=Tryz.f95
def jZ:prog.funcs[rb]?=some qy:=Tryz.func95
def EH:qy.body=some (bl qy):=by kernel_rfl
abbrev z8:Nat:=96
noncomputable abbrev qt:Func:=Tryz.f96
def xa:prog.funcs[z8]?=some qt:=Tryz.func96
def EC:qt.body=some (bl qt):=by kernel_rfl
abbrev qZ:Nat:=97
noncomputable abbrev qs:Func:=Tryz.f97
def jY:prog.funcs[qZ]?=some qs:=Tryz.func97
def EB:qs.body=some (bl qs):=by kernel_rfl
abbrev xV:Nat:=98
noncomputable abbrev ow:Func:=Tryz.f98
def uN:prog.funcs[xV]?=some ow:=Tryz.func98
def C9:ow.body=some (bl ow):=by kernel_rfl
abbrev qT:Nat:=99
noncomputable abbrev qa:Func:=Tryz.f99
def jQ:prog.funcs[qT]?=some qa:=Tryz.func99
def En:qa.body=some (bl qa):=by kernel_rfl
abbrev wO:Nat:=100
noncomputable abbrev wA:Func:=Tryz.f100
def mV:prog.funcs[wO]?=some wA:=Tryz.func100
def Iq:wA.body=some (bl wA):=by kernel_rfl
abbrev lW:Nat:=103
noncomputable abbrev ql:Func:=Tryz.f103
def jU:prog.funcs[lW]?=some ql:=Tryz.func103
def Ex:ql.body=some (bl ql):=by kernel_rfl
abbrev lX:Nat:=104
noncomputable abbrev qp:Func:=Tryz.f104
def jW:prog.funcs[lX]?=some qp:=Tryz.func104
def Ez:qp.body=some (bl qp):=by kernel_rfl
abbrev qX:Nat:=109
noncomputable abbrev qo:Func:=Tryz.f109
def jV:prog.funcs[qX]?=some qo:=Tryz.func109
def Ey:qo.body=some (bl qo):=by kernel_rfl
abbrev tZ:Nat:=110
noncomputable abbrev mc:Func:=Tryz.f110
def rm:prog.funcs[tZ]?=some mc:=Tryz.func110
def Al:mc.body=some (bl mc):=by kernel_rfl
abbrev zU:Nat:=111
noncomputable abbrev qd:Func:=Tryz.f111
def wY:prog.funcs[zU]?=some qd:=Tryz.func111
def Ep:qd.body=some (bl qd):=by kernel_rfl
abbrev zZ:Nat:=114
noncomputable abbrev KI:Func:=Tryz.f114
def Im:prog.funcs[zZ]?=some KI:=Tryz.func114
abbrev oT:Nat:=126
noncomputable abbrev oh:Func:=Tryz.f126
def jf:prog.funcs[oT]?=some oh:=Tryz.func126
def C2:oh.body=some (bl oh):=by kernel_rfl
def Rf:Nat->List Arg->Option (Vc×VG):=λ _ _=>none
def NJ:∀ f args pre cells,Rf f args=some (pre,cells)->pre.ok->kI prog f/\X3 prog f args cells:=λ _ _ _ _ h=>by cases h
abbrev bo{α:Type}[SizeOf α](x:α):Nat:=SizeOf.sizeOf x
def bX{α:Type}[SizeOf α](d:α):∀ (xs:List α) (i:Nat),i<xs.length->bo (xs.getD i d)<bo xs
 | [],i,h=>by simp at h
 | x::xs,0,h=>by simp[bo];omega
 | x::xs,i+1,h=>by
  have:=bX d xs i (by simpa using h);simp[bo] at this ⊢;omega
def dZ(e:J):bo e.U<bo e:=by
 cases e;simp[bo];omega
inductive PK where
 | v (τ:Ty)
 | r (τ:Ty)
 | f
 | c (ps:List Ty) (r:Ty)
 | o (τ:Ty)
 | b (k:Nat)
@[reducible] def KT:List PK->Type 1
 | []=>ULift (Vc×List TV)
 | .v τ::l=>τ.den->KT l
 | .r τ::l=>τ.den->KT l
 | .f::l=>FuncId->KT l
 | .c ps r::l=>FN ps r->KT l
 | .o τ::l=>τ.den->KT l
 | .b _::l=>KT l
def cQ:(l:List PK)->KT l->List Arg->Option (Vc×List TV)
 | [],x,[]=>some x.down
 | .v τ::l,g, .val a::zs=>match a.Z9 τ with
  | some x=>cQ l (g x) zs
  | none=>none
 | .r τ::l,g, .ref a::zs=>match a.Z9 τ with
  | some x=>cQ l (g x) zs
  | none=>none
 | .f::l,g, .fn a::zs=>cQ l (g a) zs
 | .c ps r::l,g, .cM a::zs=>match a.Z9 ps r with
  | some x=>cQ l (g x) zs
  | none=>none
 | .o τ::l,g, .own a::zs=>match a.Z9 τ with
  | some x=>cQ l (g x) zs
  | none=>none
 | _,_,_=>none
def RQ(P:Program)(f:FuncId):(l:List PK)->KT l->List Arg->Prop
 | [],x,acc=>x.down.1.ok->fF P f acc (·=x.down.2)
 | .v τ::l,g,acc=>∀ x,RQ P f l (g x) (acc++[.val ⟨τ,x⟩])
 | .r τ::l,g,acc=>∀ x,RQ P f l (g x) (acc++[.ref ⟨τ,x⟩])
 | .f::l,g,acc=>∀ x,RQ P f l (g x) (acc++[.fn x])
 | .c ps r::l,g,acc=>∀ x,RQ P f l (g x) (acc++[.cM ⟨ps,r,x⟩])
 | .o τ::l,g,acc=>∀ x,RQ P f l (g x) (acc++[.own ⟨τ,x⟩])
 | .b _::_,_,_=>True
def oZ{P:Program}{f:FuncId}:∀ (l:List PK) (g:KT l) (acc zs:List Arg) (pre:Vc) (res:List TV),RQ P f l g acc->cQ l g zs=some (pre,res)->pre.ok->fF P f (acc++zs) (·=res)
 | [],g,acc,zs,pre,res,h,e,hp=>by
  cases zs with
  | nil =>
   simp only[cQ,a8r] at e;have h':g.down.1.ok->fF P f acc (·=g.down.2):=h;rw[e] at h';rw[a9B];exact h' hp
  | cons a zs=>simp[cQ] at e
 | .v τ::l,g,acc,zs,pre,res,h,e,hp=>by
  cases zs with
  | nil=>simp[cQ] at e
  | cons a zs =>
   cases a with
   | val a =>
    rw[cQ] at e;split at e
    .rename_i x hx;have:=oZ l (g x) (acc++[.val ⟨τ,x⟩]) zs pre res (h x) e hp;rw[TV.aS hx];simpa using this
    .cases e
   | ref a=>simp[cQ] at e
   | cM a=>simp[cQ] at e
   | own a=>simp[cQ] at e
   | fn a=>simp[cQ] at e
   | box a=>simp[cQ] at e
 | .r τ::l,g,acc,zs,pre,res,h,e,hp=>by
  cases zs with
  | nil=>simp[cQ] at e
  | cons a zs =>
   cases a with
   | ref a =>
    rw[cQ] at e;split at e
    .rename_i x hx;have:=oZ l (g x) (acc++[.ref ⟨τ,x⟩]) zs pre res (h x) e hp;rw[TV.aS hx];simpa using this
    .cases e
   | val a=>simp[cQ] at e
   | cM a=>simp[cQ] at e
   | own a=>simp[cQ] at e
   | fn a=>simp[cQ] at e
   | box a=>simp[cQ] at e
 | .f::l,g,acc,zs,pre,res,h,e,hp=>by
  cases zs with
  | nil=>simp[cQ] at e
  | cons a zs =>
   cases a with
   | fn a =>
    rw[cQ] at e;have:=oZ l (g a) (acc++[.fn a]) zs pre res (h a) e hp;simpa using this
   | val a=>simp[cQ] at e
   | cM a=>simp[cQ] at e
   | own a=>simp[cQ] at e
   | ref a=>simp[cQ] at e
   | box a=>simp[cQ] at e
 | .c ps r::l,g,acc,zs,pre,res,h,e,hp=>by
  cases zs with
  | nil=>simp[cQ] at e
  | cons a zs =>
   cases a with
   | cM a =>
    rw[cQ] at e;split at e
    .rename_i x hx;have:=oZ l (g x) (acc++[.cM ⟨ps,r,x⟩]) zs pre res (h x) e hp;rw[FV.aS hx];simpa using this
    .cases e
   | val a=>simp[cQ] at e
   | ref a=>simp[cQ] at e
   | fn a=>simp[cQ] at e
   | own a=>simp[cQ] at e
   | box a=>simp[cQ] at e
 | .o τ::l,g,acc,zs,pre,res,h,e,hp=>by
  cases zs with
  | nil=>simp[cQ] at e
  | cons a zs =>
   cases a with
   | own a =>
    rw[cQ] at e;split at e
    .rename_i x hx;have:=oZ l (g x) (acc++[.own ⟨τ,x⟩]) zs pre res (h x) e hp;rw[TV.aS hx];simpa using this
    .cases e
   | val a=>simp[cQ] at e
   | ref a=>simp[cQ] at e
   | fn a=>simp[cQ] at e
   | cM a=>simp[cQ] at e
   | box a=>simp[cQ] at e
 | .b k::l,g,acc,zs,pre,res,h,e,hp=>by
  cases zs<;>simp[cQ] at e
structure aQ where
 n:Nat
 l:List PK
 g:KT l
def aQ.Good(c:aQ):Prop:=kI prog c.n/\RQ prog c.n c.l c.g []
def AU:List aQ->Nat->List Arg->Option (Vc×List TV)
 | [],_,_=>none
 | c::r,f,zs=>match Nat.beq c.n f with
  | true=>cQ c.l c.g zs
  | false=>AU r f zs
def PK.own:PK->Bool
 | .o _=>true
 | _=>false
def a3s:List aQ->Nat->List Bool
 | [],_=>[]
 | c::r,f=>match Nat.beq c.n f with
  | true=>match c.l.any PK.own with
   | true=>c.l.map PK.own
   | false=>[]
  | false=>a3s r f
def A4(l:List aQ)(wr:List Nat:=[])(cl:List (Nat×zd):=[])(ro:List Nat:=[]):Env:=Env.mk zb LL (AU l) wr [] (λ _ _=>none) (λ _=>none) (af cl) ro (λ _=>[]) (λ _=>none) (λ _ _ _=>none) Hy Rf LD
def bf:List aQ->Prop
 | []=>True
 | c::r=>c.Good/\bf r
def Ix:∀ (l:List aQ),bf l->∀ f args pre res,AU l f args=some (pre,res)->pre.ok->kI prog f/\fF prog f args (·=res)
 | [],_,f,args,pre,res,e,_=>by cases e
 | c::r,h,f,args,pre,res,e,hp=>by
  rw[AU] at e;split at e
  .rename_i hb;have hb:=a8s hb;subst hb;exact⟨h.1.1,oZ c.l c.g [] args pre res h.1.2 e hp⟩
  .exact Ix r h.2 f args pre res e hp
def BF{α:Type}:∀ (l:List (Nat×α)) (n:Nat) (v:α),af l n=some v->(n,v)∈l
 | [],n,v,h=>by cases h
 | (k,u)::r,n,v,h=>by
  rw[af] at h;split at h
  .rename_i hb;cases h;rw[a8s hb];exact b0u ..
  .exact a9p _ (BF r n v h)
def Cr{l:List aQ}{wr:List Nat}{cl:List (Nat×zd)}{ro:List Nat}(h:bf l):bu prog (A4 l wr cl ro) where
 ty T τ b e ht:=by
  have h1:=a9c.mp (b1e.1 (CM (A4 l wr cl ro))).1 _ (BF _ _ _ ht);exact h1
 Jg T κ ε ht:=by
  have h1:=a9c.mp (b1e.1 (CM (A4 l wr cl ro))).2 _ (BF _ _ _ ht);exact h1
 Rm _ _ _:=trivial
 Iw:=Ix l h
 HD _ _ _ _ h:=by cases h
 mark _ _ h:=by cases h
 NI:=NJ
 PZ _ _ _ _ _ _ _ h:=by cases h
def aB {f:FuncId} {fn:Func} (h:prog.funcs[f]?=some fn) (hb:fn.body.isNone=false:=by rfl) (hn:(fn.name == "runtime.NumGoroutine")=false:=by decide):kI prog f:=⟨fn,h,hb,hn⟩
def sa:∀ {l m:List TV},AH l m->l=m
 | [],[],_=>rfl
 | [v],[u],h=>by rw[iK h]
 | v::v'::vs,[u],h=>by
  have:=sa (l:=v'::vs) (m:=[]) h.2;cases this
 | [v],u::u'::us,h=>by
  have:=sa (l:=[]) (m:=u'::us) h.2;cases this
 | v::v'::vs,u::u'::us,h=>by rw[iK h.1,sa (l:=v'::vs) (m:=u'::us) h.2]
 | [],u::us,h=>by cases h
 | v::vs,[],h=>by
  cases vs<;>cases h
def fF.mono{P:Program}{f:FuncId}{args:List Arg}{p q:List TV->Prop}(h:fF P f args p)(W4:∀ r,p r->q r):fF P f args q:=by
 intro w S cC hS ha;refine (h w S cC hS ha).mono λ e w'=>?_;rintro⟨x,S',res,h1,h2,h3⟩;exact⟨x,S',res,h1,W4 _ h2,h3⟩
def Vg{f:FuncId}{fn:Func}{bj:Code}{l:List aQ}{wr:List Nat}{cl:List (Nat×zd)}{ro:List Nat}(hl:bf l)(hf:prog.funcs[f]?=some fn)(hb:fn.body=some bj)(Λ:Nat->aG){args:List Arg}{res:List TV}
  (h:xg (A4 l wr cl ro) bj Λ 0 (tj (A4 l wr cl ro) fn λ r=>AH r res) (dr fn args)):fF prog f args (·=res) :=
 (Pz (Cr hl) B5 hf hb Λ h).mono λ _=>sa
def sB(P:Program)(f:FuncId):(l:List PK)->KT l->List Arg->Prop
 | [],x,acc=>x.down.1.ok->sC P f acc x.down.2
 | .v τ::l,g,acc=>∀ x,sB P f l (g x) (acc++[.val ⟨τ,x⟩])
 | .r τ::l,g,acc=>∀ x,sB P f l (g x) (acc++[.ref ⟨τ,x⟩])
 | .f::l,g,acc=>∀ x,sB P f l (g x) (acc++[.fn x])
 | .c ps r::l,g,acc=>∀ x,sB P f l (g x) (acc++[.cM ⟨ps,r,x⟩])
 | .o τ::l,g,acc=>∀ x,sB P f l (g x) (acc++[.own ⟨τ,x⟩])
 | .b _::_,_,_=>True
def mN{P:Program}{f:FuncId}:∀ (l:List PK) (g:KT l) (acc zs:List Arg) (pre:Vc) (res:List TV),sB P f l g acc->cQ l g zs=some (pre,res)->pre.ok->sC P f (acc++zs) res
 | [],g,acc,zs,pre,res,h,e,hp=>by
  cases zs with
  | nil =>
   simp only[cQ,a8r] at e;have h':g.down.1.ok->sC P f acc g.down.2:=h;rw[e] at h';rw[a9B];exact h' hp
  | cons a zs=>simp[cQ] at e
 | .v τ::l,g,acc,zs,pre,res,h,e,hp=>by
  cases zs with
  | nil=>simp[cQ] at e
  | cons a zs =>
   cases a with
   | val a =>
    rw[cQ] at e;split at e
    .rename_i x hx;have:=mN l (g x) (acc++[.val ⟨τ,x⟩]) zs pre res (h x) e hp;rw[TV.aS hx];simpa using this
    .cases e
   | ref a=>simp[cQ] at e
   | cM a=>simp[cQ] at e
   | own a=>simp[cQ] at e
   | fn a=>simp[cQ] at e
   | box a=>simp[cQ] at e
 | .r τ::l,g,acc,zs,pre,res,h,e,hp=>by
  cases zs with
  | nil=>simp[cQ] at e
  | cons a zs =>
   cases a with
   | ref a =>
    rw[cQ] at e;split at e
    .rename_i x hx;have:=mN l (g x) (acc++[.ref ⟨τ,x⟩]) zs pre res (h x) e hp;rw[TV.aS hx];simpa using this
    .cases e
   | val a=>simp[cQ] at e
   | cM a=>simp[cQ] at e
   | own a=>simp[cQ] at e
   | fn a=>simp[cQ] at e
   | box a=>simp[cQ] at e
 | .f::l,g,acc,zs,pre,res,h,e,hp=>by
  cases zs with
  | nil=>simp[cQ] at e
  | cons a zs =>
   cases a with
   | fn a =>
    rw[cQ] at e;have:=mN l (g a) (acc++[.fn a]) zs pre res (h a) e hp;simpa using this
   | val a=>simp[cQ] at e
   | cM a=>simp[cQ] at e
   | own a=>simp[cQ] at e
   | ref a=>simp[cQ] at e
   | box a=>simp[cQ] at e
 | .c ps r::l,g,acc,zs,pre,res,h,e,hp=>by
  cases zs with
  | nil=>simp[cQ] at e
  | cons a zs =>
   cases a with
   | cM a =>
    rw[cQ] at e;split at e
    .rename_i x hx;have:=mN l (g x) (acc++[.cM ⟨ps,r,x⟩]) zs pre res (h x) e hp;rw[FV.aS hx];simpa using this
    .cases e
   | val a=>simp[cQ] at e
   | ref a=>simp[cQ] at e
   | fn a=>simp[cQ] at e
   | own a=>simp[cQ] at e
   | box a=>simp[cQ] at e
 | .o τ::l,g,acc,zs,pre,res,h,e,hp=>by
  cases zs with
  | nil=>simp[cQ] at e
  | cons a zs =>
   cases a with
   | own a =>
    rw[cQ] at e;split at e
    .rename_i x hx;have:=mN l (g x) (acc++[.own ⟨τ,x⟩]) zs pre res (h x) e hp;rw[TV.aS hx];simpa using this
    .cases e
   | val a=>simp[cQ] at e
   | ref a=>simp[cQ] at e
   | fn a=>simp[cQ] at e
   | cM a=>simp[cQ] at e
   | box a=>simp[cQ] at e
 | .b k::l,g,acc,zs,pre,res,h,e,hp=>by
  cases zs<;>simp[cQ] at e
def aQ.wq(c:aQ):Prop:=kI prog c.n/\sB prog c.n c.l c.g []
def Ah.Xr{w:World}{S:Nat->Prop}{v:TV}{x:Value}{fp:List Nat}(h:Ah w v x fp)(hb:∀ b∈fp,S b):dv w S v x:=by
 obtain⟨τ,y⟩:=v;cases τ with
 | st s =>
  obtain⟨cs,h1,h2⟩:=h;exact⟨cs,h1,h2.rd _ hb⟩
 | _=>exact Ow.rd _ h hb
def FP.Xr{w:World}{S:Nat->Prop}:∀ {vs:List TV} {xs:List Value} {fp:List Nat},FP w vs xs fp->(∀ b∈fp,S b)->aI (dv w S) vs xs
 | [],[],_,_,_=>trivial
 | v::vs,x::xs,fp,h,hb=>by
  obtain⟨f1,f2,rfl,h1,h2⟩:=h;exact⟨h1.Xr λ b cq=>hb b (a9Y _ cq),FP.Xr h2 λ b cq=>hb b (List.mem_append_right _ cq)⟩
 | [],_::_,_,h,_=>h.elim
 | _::_,[],_,h,_=>h.elim
def sC.plain{P:Program}{f:FuncId}{args:List Arg}{res:List TV}(h:sC P f args res):fF P f args (·=res):=by
 intro w S cC hS ha;refine (h w S cC [] hS (pT.NR ha) (.inl rfl) a9x (λ b hb=>by cases hb)).mono ?_;rintro e w' ⟨x,fp,rfl,hk,hr,_,nP⟩;have hn:∀ b∈fp,w.heap.size<=b/\b<w'.heap.size:=λ b hb=>(nP b hb).elim (λ q=>by cases q) id;refine⟨x,λ b=>S b\/b∈fp,res,rfl,rfl,⟨hk.os,hk.tape,hk.output,hk.size,λ b hb _=>hk.block b hb λ q=>by cases q⟩,λ b hb=>⟨λ q=>q.elim id λ q=>absurd (hn b q).1 (by omega), .inl⟩,λ b q=>q.elim (λ q=>a8B (hS.1 b q) hk.size) λ q=>(hn b q).2,?_⟩;match res,hr with
 | [v],hr=>exact Ah.Xr (v:=v) hr λ b hb => .inr hb
 | [],hr =>
  obtain⟨l,h1,h2⟩:=hr;exact⟨l,h1,h2.Xr λ b hb => .inr hb⟩
 | v::u::vs,hr =>
  obtain⟨l,h1,h2⟩:=hr;exact⟨l,h1,h2.Xr λ b hb => .inr hb⟩
def sB.plain{P:Program}{f:FuncId}:∀ (l:List PK) (g:KT l) (acc:List Arg),sB P f l g acc->RQ P f l g acc
 | [],_,_,h=>λ hp=>(h hp).plain
 | .v _::l,g,_,h=>λ x=>sB.plain l (g x) _ (h x)
 | .r _::l,g,_,h=>λ x=>sB.plain l (g x) _ (h x)
 | .f::l,g,_,h=>λ x=>sB.plain l (g x) _ (h x)
 | .c _ _::l,g,_,h=>λ x=>sB.plain l (g x) _ (h x)
 | .o _::l,g,_,h=>λ x=>sB.plain l (g x) _ (h x)
 | .b _::_,_,_,_=>trivial
def aQ.wq.plain{k:aQ}(h:k.wq):k.Good:=⟨h.1,sB.plain k.l k.g [] h.2⟩
def AB:List aQ->Prop
 | []=>True
 | c::r=>c.wq/\AB r
def NQ:∀ (l:List aQ),AB l->∀ f args pre res,AU l f args=some (pre,res)->pre.ok->kI prog f/\sC prog f args res
 | [],_,f,args,pre,res,e,_=>by cases e
 | c::r,h,f,args,pre,res,e,hp=>by
  rw[AU] at e;split at e
  .rename_i hb;have hb:=a8s hb;subst hb;exact⟨h.1.1,mN c.l c.g [] args pre res h.1.2 e hp⟩
  .exact NQ r h.2 f args pre res e hp
structure MK where
 n:Nat
 m:RS
def MK.Good(c:MK):Prop:=kI prog c.n/\Qa prog c.n c.m
def FJ:List MK->Prop
 | []=>True
 | c::r=>c.Good/\FJ r
def LJ:List MK->Nat->Option RS
 | [],_=>none
 | c::r,f=>match Nat.beq c.n f with
  | true=>some c.m
  | false=>LJ r f
def NB:∀ (l:List MK),FJ l->∀ f m,LJ l f=some m->kI prog f/\Qa prog f m
 | [],_,f,m,e=>by cases e
 | c::r,h,f,m,e=>by
  rw[LJ] at e;split at e
  .rename_i hb;have hb:=a8s hb;subst hb;cases e;exact h.1
  .exact NB r h.2 f m e
@[reducible] def X0:List Ty->Type 1->Type 1
 | [],R=>R
 | t::ts,R=>t.den->X0 ts R
@[reducible] def T1:List (List Ty)->Type 1
 | []=>ULift (Vc×List TV×List (List TV))
 | ts::D=>X0 ts (T1 D)
@[reducible] def OB:List PK->List (List Ty)->Type 1
 | [],D=>T1 D
 | .v τ::l,D=>τ.den->OB l D
 | .r τ::l,D=>τ.den->OB l D
 | .f::l,D=>FuncId->OB l D
 | .b _::l,D=>OB l D
 | .c ps r::l,D=>FN ps r->OB l D
 | .o _::l,D=>OB l D
def kC:(ts:List Ty)->(R:Type 1)->X0 ts R->List TV->Option R
 | [],_,r,[]=>some r
 | t::ts,R,g,v::vs=>match v.Z9 t with
  | some x=>kC ts R (g x) vs
  | none=>none
 | _,_,_,_=>none
def kD:(D:List (List Ty))->T1 D->List (List TV)->Option (Vc×List TV×List (List TV))
 | [],r,[]=>some r.down
 | ts::D,g,vs::cw=>match kC ts (T1 D) g vs with
  | some h=>kD D h cw
  | none=>none
 | _,_,_=>none
def kS:(l:List PK)->(D:List (List Ty))->OB l D->List Arg->List (List TV)->Option (Vc×List TV×List (List TV))
 | [],D,g,[],cw=>kD D g cw
 | .v τ::l,D,g, .val a::zs,cw=>match a.Z9 τ with
  | some x=>kS l D (g x) zs cw
  | none=>none
 | .r τ::l,D,g, .ref a::zs,cw=>match a.Z9 τ with
  | some x=>kS l D (g x) zs cw
  | none=>none
 | .f::l,D,g, .fn a::zs,cw=>kS l D (g a) zs cw
 | .c ps r::l,D,g, .cM a::zs,cw=>match a.Z9 ps r with
  | some F=>kS l D (g F) zs cw
  | none=>none
 | .b k::l,D,g, .box j::zs,cw=>match Nat.beq k j with
  | true=>kS l D g zs cw
  | false=>none
 | _,_,_,_,_=>none
def XY:(ts:List Ty)->(R:Type 1)->(R->List TV->Prop)->X0 ts R->List TV->Prop
 | [],_,p,r,acc=>p r acc
 | t::ts,R,p,g,acc=>∀ x,XY ts R p (g x) (acc++[⟨t,x⟩])
def XZ(q:List (List TV)->Vc×List TV×List (List TV)->Prop):(D:List (List Ty))->T1 D->List (List TV)->Prop
 | [],r,acc=>q acc r.down
 | ts::D,g,acc=>XY ts (T1 D) (λ h vs=>XZ q D h (acc++[vs])) g []
def LY(P:Program)(f:FuncId)(sh:List (List CK)):(l:List PK)->(D:List (List Ty))->OB l D->List Arg->Prop
 | [],D,g,acc=>XZ (λ cw r=>r.1.ok->Pb P f sh acc cw r.2.1 r.2.2) D g []
 | .v τ::l,D,g,acc=>∀ x,LY P f sh l D (g x) (acc++[.val ⟨τ,x⟩])
 | .r τ::l,D,g,acc=>∀ x,LY P f sh l D (g x) (acc++[.ref ⟨τ,x⟩])
 | .f::l,D,g,acc=>∀ x,LY P f sh l D (g x) (acc++[.fn x])
 | .b k::l,D,g,acc=>LY P f sh l D g (acc++[.box k])
 | .c ps r::l,D,g,acc=>∀ x,LY P f sh l D (g x) (acc++[.cM ⟨ps,r,x⟩])
 | .o _::_,_,_,_=>True
def ZA:∀ (ts:List Ty) (R:Type 1) (p:R->List TV->Prop) (g:X0 ts R) (acc vs:List TV) (r:R),XY ts R p g acc->kC ts R g vs=some r->p r (acc++vs)
 | [],R,p,g,acc,vs,r,h,e=>by
  cases vs with
  | nil =>
   simp only[kC,a8r] at e;subst e;rw[a9B];exact h
  | cons v vs=>simp[kC] at e
 | t::ts,R,p,g,acc,vs,r,h,e=>by
  cases vs with
  | nil=>simp[kC] at e
  | cons v vs =>
   rw[kC] at e;split at e
   .rename_i x hx;have:=ZA ts R p (g x) (acc++[⟨t,x⟩]) vs r (h x) e;rw[TV.aS hx];simpa using this
   .cases e
def ZB(q:List (List TV)->Vc×List TV×List (List TV)->Prop):∀ (D:List (List Ty)) (g:T1 D) (acc cw:List (List TV)) (r:Vc×List TV×List (List TV)),XZ q D g acc->kD D g cw=some r->q (acc++cw) r
 | [],g,acc,cw,r,h,e=>by
  cases cw with
  | nil =>
   simp only[kD,a8r] at e;subst e;rw[a9B];exact h
  | cons v vs=>simp[kD] at e
 | ts::D,g,acc,cw,r,h,e=>by
  cases cw with
  | nil=>simp[kD] at e
  | cons vs cw =>
   rw[kD] at e;split at e
   .rename_i k hk;have h1:=ZA ts _ _ g [] vs k h hk;have:=ZB q D k (acc++[vs]) cw r (by simpa using h1) e;simpa using this
   .cases e
def IZ{P:Program}{f:FuncId}{sh:List (List CK)}:∀ (l:List PK) (D:List (List Ty)) (g:OB l D) (acc zs:List Arg) (cw:List (List TV)) (pre:Vc) (res:List TV) (ej:List (List TV)),LY P f sh l D g acc->kS l D g zs cw=some (pre,res,ej)->pre.ok->Pb P f sh (acc++zs) cw res ej
 | [],D,g,acc,zs,cw,pre,res,ej,h,e,hp=>by
  cases zs with
  | nil =>
   have:=ZB _ D g [] cw _ h e;simpa using this hp
  | cons z zs=>simp[kS] at e
 | .v τ::l,D,g,acc,zs,cw,pre,res,ej,h,e,hp=>by
  cases zs with
  | nil=>simp[kS] at e
  | cons a zs =>
   cases a with
   | val a =>
    rw[kS] at e;split at e
    .rename_i x hx;have:=IZ l D (g x) (acc++[.val ⟨τ,x⟩]) zs cw pre res ej (h x) e hp;rw[TV.aS hx];simpa using this
    .cases e
   | _=>simp[kS] at e
 | .r τ::l,D,g,acc,zs,cw,pre,res,ej,h,e,hp=>by
  cases zs with
  | nil=>simp[kS] at e
  | cons a zs =>
   cases a with
   | ref a =>
    rw[kS] at e;split at e
    .rename_i x hx;have:=IZ l D (g x) (acc++[.ref ⟨τ,x⟩]) zs cw pre res ej (h x) e hp;rw[TV.aS hx];simpa using this
    .cases e
   | _=>simp[kS] at e
 | .f::l,D,g,acc,zs,cw,pre,res,ej,h,e,hp=>by
  cases zs with
  | nil=>simp[kS] at e
  | cons a zs =>
   cases a with
   | fn a =>
    rw[kS] at e;have:=IZ l D (g a) (acc++[.fn a]) zs cw pre res ej (h a) e hp;simpa using this
   | _=>simp[kS] at e
 | .b k::l,D,g,acc,zs,cw,pre,res,ej,h,e,hp=>by
  cases zs with
  | nil=>simp[kS] at e
  | cons a zs =>
   cases a with
   | box j =>
    rw[kS] at e;split at e
    .rename_i hb;have hb:=Nat.eq_of_beq_eq_true hb;subst hb;have:=IZ l D g (acc++[.box k]) zs cw pre res ej h e hp;simpa using this
    .cases e
   | _=>simp[kS] at e
 | .c ps r::l,D,g,acc,zs,cw,pre,res,ej,h,e,hp=>by
  cases zs with
  | nil=>simp[kS] at e
  | cons a zs =>
   cases a with
   | cM a =>
    rw[kS] at e;split at e
    .rename_i F hF;have:=IZ l D (g F) (acc++[.cM ⟨ps,r,F⟩]) zs cw pre res ej (h F) e hp;rw[FV.aS hF];simpa using this
    .cases e
   | _=>simp[kS] at e
 | .o _::l,D,g,acc,zs,cw,pre,res,ej,h,e,hp=>by cases zs<;>simp[kS] at e
structure Ky where
 n:Nat
 sh:List (List CK)
 l:List PK
 D:List (List Ty)
 g:OB l D
def Ky.Good(c:Ky):Prop:=kI prog c.n/\LY prog c.n c.sh c.l c.D c.g []
def FK:List Ky->Prop
 | []=>True
 | c::r=>c.Good/\FK r
def a0c:List PK->List (Option Nat)
 | []=>[]
 | .b k::l=>some k::a0c l
 | _::l=>none::a0c l
def Wl:List Ky->Nat->Option SK
 | [],_=>none
 | c::r,f=>match Nat.beq c.n f with
  | true=>some ⟨a0c c.l,c.sh⟩
  | false=>Wl r f
def LN:List Ky->Nat->List Arg->List (List TV)->Option (Vc×List TV×List (List TV))
 | [],_,_,_=>none
 | c::r,f,zs,cw=>match Nat.beq c.n f with
  | true=>kS c.l c.D c.g zs cw
  | false=>LN r f zs cw
def Ob:∀ (l:List Ky),FK l->∀ f sk args cw pre res ej,Wl l f=some sk->LN l f args cw=some (pre,res,ej)->pre.ok->kI prog f/\Pb prog f sk.sh args cw res ej
 | [],_,f,sk,args,cw,pre,res,ej,h,_,_=>by cases h
 | c::r,h,f,sk,args,cw,pre,res,ej,hs,e,hp=>by
  rw[Wl] at hs;rw[LN] at e;split at e
  .rename_i hb;rw[hb] at hs;have hb:=Nat.eq_of_beq_eq_true hb;subst hb;simp only[Option.some.injEq] at hs;subst hs;exact⟨h.1.1,by simpa using IZ c.l c.D c.g [] args cw pre res ej h.1.2 e hp⟩
  .rename_i hb;rw[hb] at hs;exact Ob r h.2 f sk args cw pre res ej hs e hp
def A3(l:List aQ)(ol:List aQ)(ml:List MK)(own wr:List Nat)(cl:List (Nat×zd):=[])(ro:List Nat:=[])(sl:List Ky:=[]):Env:=Env.mk zb LL (AU l) wr own (AU ol) (LJ ml) (af cl) ro (a3s ol) (Wl sl) (LN sl) Hy Rf LD
def Se{l ol:List aQ}{ml:List MK}{own wr:List Nat}{cl:List (Nat×zd)}{ro:List Nat}{sl:List Ky}(h:bf l)(ho:AB ol)(hm:FJ ml)(hs:FK sl):bu prog (A3 l ol ml own wr cl ro sl) where
 ty T τ b e ht:=by
  have h1:=a9c.mp (b1e.1 (CM (A3 l ol ml own wr cl ro sl))).1 _ (BF _ _ _ ht);exact h1
 Jg T κ ε ht:=by
  have h1:=a9c.mp (b1e.1 (CM (A3 l ol ml own wr cl ro sl))).2 _ (BF _ _ _ ht);exact h1
 Rm _ _ _:=trivial
 Iw:=Ix l h
 HD:=NQ ol ho
 mark:=NB ml hm
 NI:=NJ
 PZ:=Ob sl hs
def Tg{f:FuncId}{fn:Func}{bj:Code}{l ol:List aQ}{ml:List MK}{own wr:List Nat}{cl:List (Nat×zd)}{ro:List Nat}{sl:List Ky}(hl:bf l)(ho:AB ol)(hm:FJ ml)(hs:FK sl)(hf:prog.funcs[f]?=some fn)(hb:fn.body=some bj)(Λ:Nat->aG){args:List Arg}{res:List TV}
  (h:xg (A3 l ol ml own wr cl ro sl) bj Λ 0 (tj (A3 l ol ml own wr cl ro sl) fn λ r=>AH r res) (dr fn args)):fF prog f args (·=res) :=
 (Pz (Se hl ho hm hs) B5 hf hb Λ h).mono λ _=>sa
def Tj{f:FuncId}{fn:Func}{bj:Code}{l ol:List aQ}{ml:List MK}{own wr:List Nat}{cl:List (Nat×zd)}{ro:List Nat}{sl:List Ky}(hl:bf l)(ho:AB ol)(hm:FJ ml)(hs:FK sl)(hf:prog.funcs[f]?=some fn)(hb:fn.body=some bj)(Λ:Nat->aG){args:List Arg}{res:List TV}
  (h:xg (A3 l ol ml own wr cl ro sl) bj Λ 0 (B4 (A3 l ol ml own wr cl ro sl) fn λ r=>AH r res) (LQ fn args)):sC prog f args res :=
 OE (Se hl ho hm hs) B5 hf hb Λ (λ _=>sa) h
def aP{f:FuncId}{fn:Func}{bj:Code}(l:List aQ)(wr:List Nat)(cl:List (Nat×zd))(ro:List Nat)(hl:bf l)(hf:prog.funcs[f]?=some fn)(hb:fn.body=some bj)(Λ:Nat->aG){args:List Arg}{res:List TV}(V:Prop)(h:V)
  (e:xg (A4 l wr cl ro) bj Λ 0 (tj (A4 l wr cl ro) fn λ r=>AH r res) (dr fn args)=V:=by kernel_rfl):fF prog f args (·=res) :=
 Vg hl hf hb Λ (Eq.mpr e h)
def Vh{f:FuncId}{fn:Func}{bj:Code}(l ol:List aQ)(ml:List MK)(sl:List Ky)(own wr:List Nat)(cl:List (Nat×zd))(ro:List Nat)(hl:bf l)(ho:AB ol)(hm:FJ ml)(hs:FK sl)(hf:prog.funcs[f]?=some fn)(hb:fn.body=some bj)(Λ:Nat->aG){args:List Arg}{res:List TV}(V:Prop)(h:V)
  (e:xg (A3 l ol ml own wr cl ro sl) bj Λ 0 (tj (A3 l ol ml own wr cl ro sl) fn λ r=>AH r res) (dr fn args)=V:=by kernel_rfl):fF prog f args (·=res) :=
 Tg hl ho hm hs hf hb Λ (Eq.mpr e h)
def yZ{f:FuncId}{fn:Func}{bj:Code}(l ol:List aQ)(ml:List MK)(sl:List Ky)(own wr:List Nat)(cl:List (Nat×zd))(ro:List Nat)(hl:bf l)(ho:AB ol)(hm:FJ ml)(hs:FK sl)(hf:prog.funcs[f]?=some fn)(hb:fn.body=some bj)(Λ:Nat->aG){args:List Arg}{res:List TV}(V:Prop)(h:V)
  (e:xg (A3 l ol ml own wr cl ro sl) bj Λ 0 (B4 (A3 l ol ml own wr cl ro sl) fn λ r=>AH r res) (LQ fn args)=V:=by kernel_rfl):sC prog f args res :=
 Tj hl ho hm hs hf hb Λ (Eq.mpr e h)
open Go.ChangeShapes Go.WideShapes Go.ChangeAt Go.RowKit
theorem cR.append{w:World}{S:Nat->Prop}:∀ (ds es:List D) {l m:List Value},cR w S ds l->cR w S es m->cR w S (ds++es) (l++m)
 | [],_,_,_,h,k=>by rw[show _=[] from h];simpa using k
 | d::ds,es,_,m,h,k=>by
  obtain⟨c,r,rfl,h2,h3⟩:=h;exact⟨c,r++m,by simp,h2,cR.append ds es h3 k⟩
theorem Xs{w:World}{S:Nat->Prop}(t:Ty)(y:t.den){cs:List Value}(h:Rd w S (t.aD y) cs):cR w S ((TV.cells ⟨t,y⟩).map TV.aD) cs:=by
 have one:∀ d:D,d.leaf=true->Rd w S d cs->cR w S [d] cs:=by
  intro d hd h;obtain⟨v,rfl,_⟩:=Rd.qQ hd h;exact⟨v,[],rfl,h,rfl⟩
 cases t with
 | st s =>
  have h':Rd w S (s.aD y) cs:=h;rw[aJ.bT] at h';exact h'
 | int k=>exact one _ rfl h
 | bool=>exact one _ rfl h
 | str=>exact one _ rfl h
 | slice t=>exact one _ rfl h
 | mv t=>exact one _ (Jh _ _ _) h
 | ptr=>exact one _ rfl h
theorem MD{w:World}{S:Nat->Prop}:∀ (ts:List Ty) (cs:List Value),cs.length=(ts.map Ty.size).sum ->
  (∀ i t,ts[i]?=some t->∃ y:t.den,Rd w S (t.aD y) ((cs.drop ((ts.take i).map Ty.size).sum).take t.size)) ->
  ∃ fl:List TV,fl.map TV.τ=ts/\cR w S ((fl.flatMap TV.cells).map TV.aD) cs
 | [],cs,h,_=>⟨[],rfl,by
   have:cs=[]:=by simpa using h
   subst this;exact rfl⟩
 | t::ts,cs,h,k=>by
  obtain⟨y,hy⟩:=k 0 t rfl;simp only[b0F,b0s,List.sum_nil,b1C] at hy;simp only[a9a,List.sum_cons] at h;obtain⟨fl,h1,h2⟩:=MD ts (cs.drop t.size) (by simp;omega) (λ i u hu=>by
   obtain⟨z,hz⟩:=k (i+1) u hu;simp only[b2z,a9a,List.sum_cons] at hz;rw[<-b1B] at hz;exact⟨z,hz⟩)
  refine⟨⟨t,y⟩::fl,by simp[h1],?_⟩;simp only[b0a,a9F];have:=cR.append _ _ (Xs t y hy) h2;rwa [a9Q] at this
theorem Wh{w:World}{S:Nat->Prop}(t:Ty)(b:Nat):∀ (n o:Nat),(∀ i,i<n->∃ (x:t.den) (cs:List Value),cs.length=t.size/\Rd w S (t.aD x) cs/\bh w b (o+i * t.size) cs) ->
  ∃ xs:List t.den,xs.length=n/\cv w S (xs.map t.aD) b o
 | 0,o,_=>⟨[],rfl,ae⟩
 | n+1,o,h=>by
  obtain⟨x,cs,h1,h2,h3⟩:=h 0 (by omega);obtain⟨xs,h4,h5⟩:=Wh t b n (o+t.size) (λ i hi=>by
   obtain⟨y,c,g1,g2,g3⟩:=h (i+1) (by omega);exact⟨y,c,g1,g2,by rw[show o+t.size+i * t.size=o+(i+1) * t.size by rw[a9u];omega];exact g3⟩)
  refine⟨x::xs,by simp[h4],⟨cs,by rw[Ty.cg];exact h1,h2,by simpa using h3⟩,?_⟩;rw[Ty.cg];exact h5
section
variable {H:Type} {enc:TypeId×Value->H} {w:World} {spare:Nat->Bool} {held:Bool}
theorem Ri(d:DataW H):1<=Rows.uptoBulk d:=by
 cases d with
 | lit l=>cases l<;>simp[Rows.uptoBulk]
 | nil=>simp[Rows.uptoBulk]
 | ptr d=>simp[Rows.uptoBulk]
 | slice elems spare=>simp[Rows.uptoBulk]
 | agg parts=>simp[Rows.uptoBulk]
 | iface t d=>simp[Rows.uptoBulk]
 | map entries=>simp[Rows.uptoBulk]
 | held h=>simp[Rows.uptoBulk]
theorem NY{d:DataW H}{l:List (DataW H)}(h:d∈l):Rows.uptoBulk d<=Rows.uptoBulkAll l:=by
 induction l with
 | nil=>cases h
 | cons x r ih =>
  simp only[Rows.uptoBulkAll];cases a8G.1 h with
  | inl e=>subst e;omega
  | inr e=>have:=ih e;omega
theorem Lm(l:List (DataW H)):l.length<=Rows.uptoBulkAll l:=by
 induction l with
 | nil=>simp[Rows.uptoBulkAll]
 | cons x r ih=>have:=Ri x;simp only[Rows.uptoBulkAll,a8F];omega
theorem mB:bu prog (A4 []):=Cr trivial
theorem yr{T b e:Nat}{τ:Ty}(h:af zb T=some (τ,b,e)):prog.cellsOf T=τ.size:=by
 obtain⟨i,z,h1,h2,_⟩:=(mB.info (T:=T) (τ:=τ) (b:=b) (e:=e) h).ex;simp[Program.cellsOf,h1,h2]
theorem To:∀ (fuel:Nat) (τ:Ty) (T b e:Nat) (cs:List Value) (x:DataW H×List MemPlace),af zb T=some (τ,b,e)->DataW.trod enc prog w 0 spare held fuel T cs=some x ->
  Rows.uptoBulk x.1<=1048576->∃ y:τ.den,Rd w (·<w.heap.size) (τ.aD y) cs:=by
 intro fuel;induction fuel with
 | zero =>
  intro τ T b e cs x ht h hk;have h':(none:Option (DataW H×List MemPlace))=some x:=h;cases h'
 | succ fuel ih =>
 intro τ T b e cs x ht h hk;cases τ with
 | int k =>
  obtain⟨n,rfl,rfl,hw⟩:=DataW.trod_int (mB.int ht) h;refine⟨n,rfl,?_⟩;simpa [Lit.wf] using hw
 | bool =>
  obtain⟨n,rfl,rfl⟩:=DataW.trod_bool (mB.bool ht) h;exact⟨n,rfl⟩
 | str =>
  obtain⟨n,rfl,rfl,hw⟩:=DataW.trod_string (mB.str ht) h;refine⟨n.data.toList,n,rfl,rfl,?_⟩;simp[Rows.uptoBulk] at hk;have:n.size=n.data.size:=rfl;omega
 | mv t=>exact (mB.Z3 ht).elim
 | ptr =>
  obtain⟨t,hu⟩:=mB.ptr ht;rcases DataW.trod_pointer hu h with ⟨rfl,_⟩|⟨a,_,_,_,_,rfl,_⟩
  .exact⟨(),_,rfl⟩
  .exact⟨(),_,rfl⟩
 | slice t =>
  obtain⟨hu,⟨b',e',he⟩,_⟩:=mB.slice ht;have hc:=yr he;rcases DataW.trod_slice hu h with ⟨rfl,rfl⟩|⟨a,len,cap,elems,rest,n,hn,rfl,rfl,hb,hl,hm,hlen,OG,_⟩
  .exact⟨[],none,0,rfl,a8C _,a9l _,a9l _, .inl rfl⟩
  .obtain rfl:n=fuel:=by omega
   rw[hc] at OG;have UH:∀ (i:Nat) (z:DataW H×List MemPlace),elems[i]?=some z->Rows.uptoBulk z.1<=1048576:=by
    intro i z hz;have h1:=NY (d:=z.1) (l:=elems.map (·.1)) (a8w.2 ⟨z,a9h hz,rfl⟩);simp only[Rows.uptoBulk] at hk;omega
   have tD:∀ i,i<len->∃ (y:t.den) (c:List Value),c.length=t.size/\Rd w (·<w.heap.size) (t.aD y) c/\(∀ j v,c[j]?=some v->w.cell? ((a.add (i * t.size)).add j)=some v):=by
    intro i hi;have hz:elems[i]?=some (elems[i]'(by omega)):=a8H (by omega);have:=OG i hi;rw[hz,b0g] at this;obtain⟨c,MS,hc2⟩:=this;obtain⟨y,hy⟩:=ih t e b' e' c _ he hc2 (UH i _ hz);obtain⟨_,h5,h6⟩:=World.cells?_some MS;refine⟨y,c,h5,hy,λ j v hj=>?_⟩;rw[h6 j (by rw[<-h5];exact (a8P.1 hj).1),hj]
   have hlb:len<=1048576:=by
    have h1:=Lm (elems.map (·.1));simp only[Rows.uptoBulk,a8W] at hk h1;omega
   rcases Nat.eq_zero_or_pos len with h0|h0
   .subst h0;exact⟨[],some a,cap,rfl,a9l _,hm,a9l _, .inl rfl⟩
   .have hp:=Ty.size_pos t;have QW:a.spot=none:=by
     obtain⟨y,c,g1,g2,g3⟩:=tD 0 h0;have hj:c[0]?=some (c[0]'(by omega)):=List.getElem?_eq_getElem (by omega);have:=World.cell?_spot (g3 0 _ hj);simpa [Addr.add] using this
    obtain⟨ab,ao,asp⟩:=a;simp only at QW;subst QW;have a2N:∀ i j,((⟨ab,ao,none⟩:Addr).add i).add j=⟨ab,ao+i+j,none⟩:=by
     intro i j;unfold Addr.add;split<;>split<;>simp_all<;>omega
    obtain⟨xs,h1,h2⟩:=Wh (w:=w) (S:=(·<w.heap.size)) t ab len ao (λ i hi=>by
     obtain⟨y,c,g1,g2,g3⟩:=tD i hi;exact⟨y,c,g1,g2,λ j v hj=>by rw[<-a2N];exact g3 j v hj⟩)
    have bm:ab<w.heap.size:=by
     obtain⟨y,c,g1,g2,g3⟩:=tD 0 h0;have hj:c[0]?=some (c[0]'(by omega)):=List.getElem?_eq_getElem (by omega);have:=g3 0 _ hj;rw[a2N] at this;unfold World.cell? at this;split at this
     .rename_i hh;exact (a9H.1 hh).1
     .cases this
    have QT:(xs.map t.aD).length=len:=by simp[h1]
    refine⟨xs,some ⟨ab,ao,none⟩,cap,by rw[QT],by rw[QT];exact hl,hm,by rw[QT];omega, .inr ⟨ab,ao,rfl,bm,h2⟩⟩
 | st s =>
  obtain⟨fs,hu,bW,hf⟩:=mB.st ht;obtain⟨xs,n,hn,rfl,Ar,ns,hx⟩:=DataW.trod_struct hu h;obtain rfl:n=fuel:=by omega
  have iY:cs.length=(s.fI.map Ty.size).sum:=by
   rw[Ar,yr ht];cases s<;>rfl
  obtain⟨fl,h1,h2⟩:=MD (w:=w) (S:=(·<w.heap.size)) s.fI cs iY (λ i t hi=>by
   have bm:i<fs.size:=by rw[bW];exact (a8P.1 hi).1
   obtain⟨t',b',e',g1,g2,g3⟩:=hf i (fs[i]'bm) (a9n bm);rw[hi] at g1;cases g1;have hy:=hx i (fs[i]'bm) (a9n bm);have hz:xs[i]?=some (xs[i]'(by omega)):=a8H (by omega);rw[hz,yr g2,g3] at hy;refine ih t _ b' e' _ _ g2 hy ?_;have h3:=NY (d:=(xs[i]'(by omega)).1) (l:=xs.map (·.1)) (a8w.2 ⟨_,b0o _,rfl⟩);simp only[Rows.uptoBulk] at hk;omega)
  obtain⟨y,hy⟩:=aJ.Uo s fl h1;refine⟨y,?_⟩;show Rd w _ (s.aD y) cs;rw[aJ.bT,aJ.DI,hy];exact h2
end
end Go.Proofs.YtncejbehidimmaaGreatDoor

namespace Go.Proofs.YtncejbehidimmaaGreatDoor
open Go.ChangeShapes Go.WideShapes Go.ChangeAt Go.RowKit
theorem Vn:laidOutB prog=true:=by kernel_rfl
theorem Xq:ownKnob prog.godebug=none:=by kernel_rfl
section
variable {H:Type} {enc:TypeId×Value->H}
theorem Eb{W W':World}{sp:Nat->Bool}(hb:Below W.heap.size W W'):∀ (ts:List TypeId) {vs:List Value} {ds:List (DataW H)} {ps:List MemPlace},(∀ t∈ts,prog.readableRec t=true/\t<prog.types.size) ->
  DataW.TrodAll enc prog W 0 (λ _=>true) true ts vs ds ps->(∀ p∈ps,p.block<W.heap.size)->(∀ p∈ps,sp p.block=true)->DataW.TrodAll enc prog W' 0 sp true ts vs ds ps
 | [],[],[],ps,_,h,_,_=>h
 | t::ts,v::vs,d::ds,ps,ht,h,bm,QW=>by
  obtain⟨p,q,h1,h2,rfl⟩:=h;refine⟨p,q,?_,?_,rfl⟩
  .exact WideElems.Trod_stays Vn (ht t (by simp)).1 (ht t (by simp)).2 h1 (λ x hx=>hb.same (bm x (by simp[hx]))) (λ x hx=>QW x (by simp[hx]))
  .exact Eb hb ts (λ t h=>ht t (by simp[h])) h2 (λ x hx=>bm x (by simp[hx])) (λ x hx=>QW x (by simp[hx]))
 | [],_::_,_,_,_,h,_,_=>h.elim
 | [],[],_::_,_,_,h,_,_=>h.elim
 | _::_,[],_,_,_,h,_,_=>h.elim
 | _::_,_::_,[],_,_,h,_,_=>h.elim
theorem Tl{f:Func}{s:ChangeSpec}{apart fresh handsOn again:Bool}{W W':World}{args:Array Value}{v:Value}{ds gs:List (DataW H)}{before pa pv:List MemPlace}
  (hW:DataW.Whole enc prog f.params.toList s.vars apart W args.toList ds gs before)
  (V6:∀ (b:Nat) (sp:Nat->Bool) (hd:Bool),DataW.TrodAll enc prog W' b sp hd f.resultTypes.toList (v.resultList f.resultTypes.size) (s.fn H (ds++gs)).results [])
  (dJ:∀ sp:Nat->Bool,(∀ p∈before,sp p.block=true)->DataW.TrodAll enc prog W' 0 sp true f.params.toList args.toList (s.fn H (ds++gs)).args pa)
  (M5:∀ sp:Nat->Bool,(∀ p∈before,sp p.block=true)->DataW.TrodVars enc prog W' sp s.vars (s.fn H (ds++gs)).vars pv)
  (hps:before=pa++pv) (hb:Below W.heap.size W W')
  (hok:∀ (j:Nat) (t:TypeId) (r:Value),f.resultTypes[j]?=some t->(v.resultList f.resultTypes.size)[j]?=some r->Value.okWide prog W' .any 0 t r) :
  s.post enc prog f apart fresh handsOn again W args v W':=by
 have bm:∀ p∈before,p.block<W.heap.size:=λ p hp=>hW.lt p hp;have hold:∀ p∈before,(λ b=>decide (b<W.heap.size)) p.block=true:=λ p hp=>by simpa using bm p hp
 refine⟨ds,gs,before,[],pa,pv,hW,V6 _ _ _,dJ _ hold,M5 _ hold,World.keptBut_mono (λ p hp=>⟨hp,?_⟩) (hb.frame (·∈before)),λ _=>?_⟩
 .rw[hps,a8t] at hp;exact Or.inr hp
 .obtain⟨_,_,_,_,_,hz,hn⟩:=hW;refine⟨hok,_,_,([]++pa)++pv,⟨[]++pa,pv,trodAll_append (dJ _ (λ _ _=>rfl)) (V6 _ _ _),M5 _ (λ _ _=>rfl),rfl,?_,?_⟩,?_⟩
  .intro b off hp;have ep:MemPlace.cell b off∈before:=by rw[hps];simpa using hp
   rw[hb.frozen (bm _ ep)];exact hz b off ep
  .intro ha;have:=hn ha;rw[hps] at this;simpa using this
  .intro p hp _;rw[hps];simpa using hp
def TA(τ:Ty)(v:Value):Prop:=match τ with
 | .st _=>∃ cs,v = .agg cs
 | _=>v.cells = #[v]
theorem a1Y{w:World}{S:Nat->Prop}(τ:Ty)(y:τ.den){v:Value}(hv:TA τ v)(h:Rd w S (τ.aD y) v.cells.toList):dv w S ⟨τ,y⟩ v:=by
 cases τ with
 | st s =>
  obtain⟨cs,rfl⟩:=hv;exact⟨cs.toList,by simp,h⟩
 | int k=>simp only[show v.cells = #[v] from hv] at h;exact h
 | bool=>simp only[show v.cells = #[v] from hv] at h;exact h
 | str=>simp only[show v.cells = #[v] from hv] at h;exact h
 | slice t=>simp only[show v.cells = #[v] from hv] at h;exact h
 | mv t=>simp only[show v.cells = #[v] from hv] at h;exact h
 | ptr=>simp only[show v.cells = #[v] from hv] at h;exact h
theorem RY{w:World}:∀ (ts:List TypeId) (τs:List Ty) {vs:List Value} {ds:List (DataW H)} {ps:List MemPlace},aI (λ T τ=>∃ b e,af zb T=some (τ,b,e)) ts τs ->
  DataW.TrodAll enc prog w 0 (λ _=>true) true ts vs ds ps->(∀ d∈ds,Rows.uptoBulk d<=1048576)->(∀ (j:Nat) t v,ts[j]?=some t->vs[j]?=some v->Value.okWide prog w .any 0 t v\/∃ b,Value.okWide prog w .any b t v) ->
  ∃ H9:List TV,H9.map TV.τ=τs/\ds.length=τs.length/\aI (uD prog w (·<w.heap.size)) (H9.map .val) vs
 | [],[],[],[],_,_,_,_,_=>⟨[],rfl,rfl,ae⟩
 | T::ts,τ::τs,v::vs,d::ds,ps,ht,h,hk,hv=>by
  obtain⟨p,q,⟨n,h1⟩,h2,rfl⟩:=h;obtain⟨⟨b,e,hT⟩,IP⟩:=ht;obtain⟨y,hy⟩:=To n τ T b e _ _ hT h1 (hk d (by simp));obtain⟨H9,g1,g2,g3⟩:=RY ts τs IP h2 (λ d hd=>hk d (by simp[hd])) (λ j t v hj Hc=>hv (j+1) t v hj Hc);refine⟨⟨τ,y⟩::H9,by simp[g1],by simp[g2],⟨?_,g3⟩⟩;refine a1Y τ y ?_ hy;have Hh:=hv 0 T v rfl rfl;have key:∀ b,Value.okWide prog w .any b T v->TA τ v:=by
   intro b' hb;cases τ with
   | st s =>
    obtain⟨fs,hu,_⟩:=mB.st hT;simp only[Value.okWide,hu] at hb;obtain⟨cs,rfl,_⟩:=hb;exact⟨cs,rfl⟩
   | int k =>
    have hu:=mB.int hT;simp only[Value.okWide,hu,Cell.okWide,Cell.ok] at hb;cases v<;>first|rfl|cases hb
   | bool =>
    have hu:=mB.bool hT;simp only[Value.okWide,hu,Cell.okWide,Cell.ok] at hb;cases v<;>first|rfl|cases hb
   | str =>
    have hu:=mB.str hT;simp only[Value.okWide,hu,Cell.okWide,Cell.ok] at hb;cases v<;>first|rfl|cases hb
   | mv t=>exact (mB.Z3 hT).elim
   | ptr =>
    obtain⟨t,hu⟩:=mB.ptr hT;simp only[Value.okWide,hu,Cell.okWide,Cell.ok] at hb;cases v<;>first|rfl|cases hb
   | slice t =>
    have hu:=(mB.slice hT).1;simp only[Value.okWide,hu,Cell.okWide,Cell.ok] at hb;cases v<;>first|rfl|cases hb
  rcases Hh with h|⟨b',h⟩
  .exact key _ h
  .exact key _ h
 | [],_::_,_,_,_,h,_,_,_=>h.elim
 | _::_,[],_,_,_,h,_,_,_=>h.elim
 | [],[],_::_,_,_,_,h,_,_=>h.elim
 | [],[],[],_::_,_,_,h,_,_=>h.elim
 | _::_,_::_,[],_,_,_,h,_,_=>h.elim
 | _::_,_::_,_::_,[],_,_,h,_,_=>h.elim
noncomputable def a2I(g:Nat):Bool:=g<prog.globals.size&&match ((begin prog (λ _ _=>0) default).world.heap[g]?).bind Obj.row? with
 | some (zero,t)=>zero.size == 1&&prog.buildable t&&(match prog.cellTypes prog.depth t with|some [u]=>u == t|_=>false)&&(match prog.underlying t with|some (.int .i64)=>true|_=>false)
 | none=>false
theorem WN:Uw.all a2I=true:=by kernel_rfl
theorem MM{W:World}(h:W.ShapedOpen prog):iX W (·<W.heap.size):=⟨λ _ h=>h,λ g hg=>by
 have hk:=List.all_eq_true.1 WN g hg;unfold a2I at hk;rw[Bool.and_eq_true] at hk;obtain⟨h1,h2⟩:=hk;split at h2
 .rename_i zero t h0;simp only[a8I] at h2;obtain⟨⟨⟨k1,k2⟩,k3⟩,k4⟩:=h2;have k3':prog.cellTypes prog.depth t=some [t]:=by
   split at k3
   .rename_i u hu;rw[hu,eq_of_beq k3]
   .cases k3
  have k4':prog.underlying t=some (.int .i64):=by
   split at k4
   .rename_i hu;exact hu
   .cases k4
  obtain⟨m,hm⟩:=cell_of_shapedOpen_int h (of_decide_eq_true h1) h0 (eq_of_beq k1) k2 k3' k4';refine⟨?_,m,hm⟩;unfold World.cell? at hm;rcases Nat.lt_or_ge g W.heap.size with q|q
  .exact q
  .rw[show W.heap[g]?=none from a9M q] at hm;cases hm
 .cases h2⟩
theorem ZF{n:FuncId}{fn:Func}{s:ChangeSpec}{τs:List Ty}{handsOn again:Bool}(hts:aI (λ T τ=>∃ b e,af zb T=some (τ,b,e)) fn.params.toList τs)
  (QV:∀ t∈fn.params.toList,prog.readableRec t=true/\t<prog.types.size) (hr:fn.resultTypes = #[yg]) (M5:s.vars=[])
  (hs:∀ ds:List (DataW H),ds.length=τs.length->s.fn H ds={ results:=[.lit (.bool true)],args:=ds })
  (a6x:∀ H9:List TV,H9.map TV.τ=τs->fF prog n (H9.map .val) (·=[⟨.bool,true⟩]))
  {W:World} {base:Nat} {args:Array Value} {ds gs:List (DataW H)} {before:List MemPlace}
  (SM:∀ (j:Nat) t v,fn.params[j]?=some t->args[j]?=some v->Value.okWide prog W .any base t v)
  (hW:DataW.Whole enc prog fn.params.toList s.vars false W args.toList ds gs before) (hk:Rows.uptoSmall H (ds++gs)=true) (W6:iX W (·<W.heap.size)) :
  Calls prog n args W λ e W'=>∃ v,e = .returned v/\s.post enc prog fn false true handsOn again W args v W':=by
 have hW':=hW;obtain⟨p,q,hA,hV,W4,hfz,cX⟩:=hW;rw[M5] at hV;obtain⟨rfl,rfl⟩:=trodVars_none hV;have UH:∀ d∈ds,Rows.uptoBulk d<=1048576:=by
  intro d hd;have h1:=NY hd;simp only[Rows.uptoSmall,a9B,a8z] at hk;omega
 obtain⟨H9,h1,h2,h3⟩:=RY fn.params.toList τs hts hA UH (λ j t v hj Hc => .inr ⟨base,SM j t v (by simpa using hj) (by simpa using Hc)⟩);have kZ:=a6x H9 h1 W (·<W.heap.size) args.toList W6 h3;rw[show args.toList.toArray=args by simp] at kZ;refine kZ.mono λ e W'=>?_;rintro⟨x,S',res,rfl,rfl,iA,UC,WR,V6⟩;have hx:x = .bool true:=by
  have hx:dv W' S' ⟨.bool,true⟩ x:=V6;have hx:[x]=[Value.bool true]:=hx;simpa using hx
 subst hx;have hb:Below W.heap.size W W':=⟨iA.os,iA.tape,iA.output,iA.size,λ k hk=>iA.block k hk (λ h=>h)⟩;refine⟨_,rfl,Tl (pa:=p) (pv:=[]) hW' ?_ ?_ ?_ W4 hb ?_⟩
 .intro b sp hd;rw[hs _ (by simpa using h2),hr];exact trodAll_mk1 ⟨1,by
   have hu:prog.underlying yg=some .bool:=by kernel_rfl
   simp only[DataW.trod,Value.cells];rw[hu]⟩
 .intro sp QW;rw[hs _ (by simpa using h2),List.append_nil];have bm:∀ x∈before,x.block<W.heap.size:=λ x hx=>hW'.lt x hx;rw[W4] at bm QW;exact Eb hb _ QV hA (λ x hx=>bm x (by simp[hx])) (λ x hx=>QW x (by simp[hx]))
 .intro sp QW;rw[hs _ (by simpa using h2),M5];rfl
 .refine ok_one hr rfl ?_;have hu:prog.underlying yg=some .bool:=by kernel_rfl
  simp[Value.okWide,hu,Cell.okWide,Cell.ok]
end
end Go.Proofs.YtncejbehidimmaaGreatDoor

namespace Go.Proofs.YtncejbehidimmaaGreatDoor
def cm{α:Type}(f:α->Nat):List α->Nat
 | []=>0
 | x::xs=>f x+cm f xs
section
variable {α:Type} (f:α->Nat)
theorem kE(d:α):∀ (xs:List α) (k:Nat),k<xs.length->cm f (xs.take (k+1))=cm f (xs.take k)+f (xs.getD k d)
 | [],k,h=>by simp at h
 | x::xs,0,h=>by simp[cm]
 | x::xs,k+1,h=>by
  have:=kE d xs k (by simpa using h);simp[cm] at this ⊢;omega
theorem dz:∀ (xs:List α) (k:Nat),cm f (xs.take k)<=cm f xs
 | [],k=>by simp
 | x::xs,0=>by simp[cm]
 | x::xs,k+1=>by
  have:=dz xs k;simp[cm];omega
theorem pQ(xs:List α)(k:Nat):xs.length<=k->cm f (xs.take k)=cm f xs:=λ h=>by rw[a9f h]
theorem ya(xs:List α):cm f (xs.take 0)=0:=by simp[cm]
theorem CL(d:α):∀ (xs:List α) (k:Nat),k<xs.length->f (xs.getD k d)<=cm f xs
 | [],k,h=>by simp at h
 | x::xs,0,h=>by simp[cm]
 | x::xs,k+1,h=>by
  have:=CL d xs k (by simpa using h);simp[cm] at this ⊢;omega
end
def rj(t:Nat)(left:Int):Int:=if (t:Int)<=left then left - t else -1
theorem nM(t:Nat)(left:Int):((t:Int)<=left/\rj t left=left - t)\/(left<(t:Int)/\rj t left = -1):=by
 unfold rj;split
 .exact .inl ⟨by assumption,rfl⟩
 .exact .inr ⟨by omega,rfl⟩
noncomputable def eg{α:Type}(a b:α):Bool := @decide (a=b) (Classical.propDecidable _)
theorem Ps{α:Type}{a b:α}(h:a=b):true=eg a b:=by simp[eg,h]
theorem EL{α:Type}{a b:α}(h:a≠b):false=eg a b:=by simp[eg,h]
@[simp] theorem My{α:Type}{a b:α}:eg a b=true↔a=b:=by simp[eg]
@[simp] theorem Pr{α:Type}{a b:α}:eg a b=false↔a≠b:=by simp[eg]
@[simp] theorem a5h{α:Type}{a:α}:eg a a=true:=by simp[eg]
section
variable {α:Type}
theorem fE(d:α):∀ (xs:List α) (k:Nat),k<xs.length->xs.take (k+1)=xs.take k++[xs.getD k d]
 | [],k,h=>by simp at h
 | x::xs,0,h=>by simp
 | x::xs,k+1,h=>by
  have:=fE d xs k (by simpa using h);simp at this ⊢;exact this
theorem pe(d:α)(xs ys:List α)(k:Nat)(h1:k<xs.length)(h2:k<ys.length)(h:xs.take k=ys.take k)(e:xs.getD k d=ys.getD k d):xs.take (k+1)=ys.take (k+1):=by
 rw[fE d xs k h1,fE d ys k h2,h,e]
theorem ib(xs ys:List α)(k:Nat)(h1:xs.length<=k)(h2:ys.length<=k)(h:xs.take k=ys.take k):xs=ys:=by
 rwa [a9f h1,a9f h2] at h
def fill(xs:List α)(k:Nat)(z:α):List α:=xs.take k++List.replicate (xs.length - k) z
theorem Up(xs:List α)(z:α):List.replicate xs.length z=fill xs 0 z:=by simp[fill]
theorem Pu(xs:List α)(z:α)(k:Nat)(h:xs.length<=k):fill xs k z=xs:=by
 simp[fill,a9f h,Nat.sub_eq_zero_of_le h]
theorem Ra(xs:List α)(z:α)(k:Nat):k<=xs.length->(fill xs k z).length=xs.length:=by
 intro h;simp[fill];omega
theorem Pv(xs:List α)(z d:α)(k:Nat)(h:k<xs.length):(fill xs k z).set k (xs.getD k d)=fill xs (k+1) z:=by
 unfold fill;rw[fE d xs k h,List.set_append_right _ _ (by simp;omega)];have e:xs.length - k=(xs.length - (k+1))+1:=by omega
 have e2:(List.take k xs).length=k:=by simp;omega
 rw[e2,Nat.sub_self,e,b1z,b2F];simp
end
def gU{α:Type}(f:α->Nat):List α->Nat
 | []=>0
 | x::xs=>max (f x) (gU f xs)
section
variable {α:Type} (f:α->Nat)
theorem oR(d:α):∀ (xs:List α) (k:Nat),k<xs.length->gU f (xs.take (k+1))=max (gU f (xs.take k)) (f (xs.getD k d))
 | [],k,h=>by simp at h
 | x::xs,0,h=>by simp[gU]
 | x::xs,k+1,h=>by
  have:=oR d xs k (by simpa using h);simp[gU] at this ⊢;omega
theorem gp:∀ (xs:List α) (k:Nat),gU f (xs.take k)<=gU f xs
 | [],k=>by simp
 | x::xs,0=>by simp[gU]
 | x::xs,k+1=>by
  have:=gp xs k;simp[gU];omega
theorem xQ(xs:List α)(k:Nat):xs.length<=k->gU f (xs.take k)=gU f xs:=λ h=>by rw[a9f h]
theorem ND(xs:List α):gU f (xs.take 0)=0:=by simp[gU]
theorem NC(d:α):∀ (xs:List α) (k:Nat),k<xs.length->f (xs.getD k d)<=gU f xs
 | [],k,h=>by simp at h
 | x::xs,0,h=>by simp[gU];omega
 | x::xs,k+1,h=>by
  have:=NC d xs k (by simpa using h);simp[gU] at this ⊢;omega
end
def dL{α:Type}(f:α->Bool):List α->Bool
 | []=>true
 | x::xs=>f x&&dL f xs
section
variable {α:Type} (f:α->Bool)
theorem FW:∀ (xs ys:List α),dL f (xs++ys)=(dL f xs&&dL f ys)
 | [],ys=>by simp[dL]
 | x::xs,ys=>by simp[dL,FW xs ys,Bool.and_assoc]
theorem eB(d:α)(xs:List α)(k:Nat)(h:k<xs.length):dL f (xs.take (k+1))=(dL f (xs.take k)&&f (xs.getD k d)):=by
 rw[fE d xs k h,FW];simp[dL]
theorem e8(d:α):∀ (xs:List α) (k:Nat),k<xs.length->f (xs.getD k d)=false->dL f xs=false
 | [],k,h,_=>by simp at h
 | x::xs,0,h,e=>by simp at e;simp[dL,e]
 | x::xs,k+1,h,e=>by
  have:=e8 d xs k (by simpa using h) (by simpa using e);simp[dL,this]
theorem eA(xs:List α)(k:Nat):xs.length<=k->dL f (xs.take k)=dL f xs:=λ h=>by rw[a9f h]
theorem all_zero(xs:List α):dL f (xs.take 0)=true:=by simp[dL]
theorem Co(d:α):∀ (xs:List α) (k:Nat),k<xs.length->dL f xs=true->f (xs.getD k d)=true
 | [],k,h,_=>by simp at h
 | x::xs,0,h,e=>by simp[dL] at e;simp[e.1]
 | x::xs,k+1,h,e=>by
  simp only[dL,Bool.and_eq_true] at e;have:=Co d xs k (by simpa using h) e.2;simpa using this
end
end Go.Proofs.YtncejbehidimmaaGreatDoor

namespace Go.Proofs.YtncejbehidimmaaGreatDoor
noncomputable section
mutual
def aY:J->Nat
 | ⟨_,_,U⟩=>U.length+sq U
def sq:List J->Nat
 | []=>0
 | k::ks=>aY k+sq ks
end
def H2:∀ xs,sq xs=cm aY xs
 | []=>rfl
 | x::xs=>by rw[sq,cm,H2 xs]
def wg(x:J):aY x=(x.U.length+cm aY x.U):=by
 cases x;simp[aY,H2];try omega
def lT(n:Nat):aQ:=⟨tV,[.v (.st .expr), .v (.int .i64)],λ (x:J) (left:Int)=>⟨(some (bo x<n/\0<=left/\left<=1048576),[⟨(.int .i64),rj (aY x) left⟩])⟩⟩
def By:aQ:=⟨tV,[.v (.st .expr), .v (.int .i64)],λ (x:J) (left:Int)=>⟨(some (0<=left/\left<=1048576),[⟨(.int .i64),rj (aY x) left⟩])⟩⟩
def kk(n:Nat):aQ:=⟨zX,[.v (.slice (.st .expr)), .v (.int .i64)],λ (xs:List J) (left:Int)=>⟨(some (bo xs<n/\0<=left/\left<=1048576),[⟨(.int .i64),rj (xs.length+cm aY xs) left⟩])⟩⟩
def Nl(x:J)(left:Int):Nat->aG:=cf
def Lu(n:Nat)(hE:bf [kk n]):aQ.Good (lT (n+1)):=by
 refine⟨aB lG,?_⟩;intro (x:J) (left:Int) (hp:bo x<n+1/\0<=left/\left<=1048576);refine aP [kk n] [] [] [2] hE lG Gd (Nl x left) (let v0:=rj (x.U.length+cm aY x.U) left;((x.U.length<=140737488355328->((bo x.U<n/\0<=left/\left<=1048576)/\(ai v0->(((decide (v0<(0:Int)))=true->(-1:Int)=(rj (aY x) left))/\((decide (v0<(0:Int)))=false->v0=(rj (aY x) left)))))))) ?_;have f0:=nM (x.U.length+cm aY x.U) (left);have fz:=nM ((x.U.length+cm aY x.U)) left;have f0k:=dZ x;refine λ _=>⟨?_,λ _=>⟨λ _=>?_,λ _=>?_⟩⟩;all_goals try and_intros
 all_goals try rw[wg]
 all_goals first|rfl|trivial|omega|(simp only[a8z,a8y,av,ai,cH,iy,cB,aX] at *;omega)|(simp[av,ai] at *;omega)|grind
def K3(xs:List J)(left:Int):Nat->aG:=(dU 0 (.b (Nat) (λ k=>k<=xs.length/\(xs.length+cm aY (xs.take k):Int)<=left) (λ k=>xs.length - k) [6,7,8,9,10,11] (λ k=>[(5, .aK ⟨(.int .i64),((k:Int):Int)⟩),(1, .aK ⟨(.int .i64),(left - (xs.length+cm aY (xs.take k):Int):Int)⟩)])) cf)
def Jn(n:Nat)(hE:bf [lT n]):aQ.Good (kk (n+1)):=by
 refine⟨aB od,?_⟩;intro (xs:List J) (left:Int) (hp:bo xs<n+1/\0<=left/\left<=1048576);refine aP [lT n] [] [] [] hE od Et (K3 xs left) (let v0:=(xs.length:Int);let v1:=rj (xs.length+cm aY xs) left;let v2:=decide ((left - v0)<(0:Int));((ai v0->(ai (left - v0)/\((v2=true->(-1:Int)=v1)/\(v2=false->((∃ k1:Nat,let v3:=(xs.length+cm aY (xs.take k1):Int);((k1<=xs.length/\v3<=left)/\((xs=xs/\((left - v0)=(left - v3)/\((0:Int)=(k1:Int)/\True)))/\True)))/\(∀ k1:Nat,let v5:=(xs.length+cm aY (xs.take k1):Int);let v3:=left - v5;let v4:=rj (aY (xs.getD k1 zE)) v3;((k1<=xs.length/\v5<=left)->(ai v0->(((decide ((k1:Int)<v0))=true->(av (k1:Int) xs.length/\((bo (xs.getD k1 zE)<n/\0<=v3/\v3<=1048576)/\(ai v4->(((decide (v4<(0:Int)))=true->(-1:Int)=v1)/\((decide (v4<(0:Int)))=false->(ai ((k1:Int)+(1:Int))/\(∃ k2:Nat,let v6:=(xs.length+cm aY (xs.take k2):Int);((k2<=xs.length/\v6<=left)/\(xs.length - k2<xs.length - k1/\((xs=xs/\(v4=(left - v6)/\(((k1:Int)+(1:Int))=(k2:Int)/\True)))/\True)))))))))))/\((decide ((k1:Int)<v0))=false->v3=v1)))))))))))) ?_;have f0:=nM (xs.length+cm aY xs) left;have f1:=ya aY xs;refine λ _=>⟨?_,λ _=>?_,λ _=>⟨⟨0,?_,⟨rfl,?_,?_,ae⟩,ae⟩,λ k1 _=>have a5t:=kE aY zE xs k1;have a5u:=dz aY xs k1;have a5v:=dz aY xs (k1+1);have a5w:=pQ aY xs k1;have a5x:=bX zE xs k1;have a7L:=nM (aY (xs.getD k1 zE)) (left - (xs.length+cm aY (xs.take k1):Int));λ _=>⟨λ _=>⟨?_,?_,λ _=>⟨λ _=>?_,λ _=>⟨?_,k1+1,?_,?_,⟨rfl,?_,?_,ae⟩,ae⟩⟩⟩,λ _=>?_⟩⟩⟩;all_goals try and_intros
 all_goals first|rfl|trivial|omega|(simp only[a8z,a8y,av,ai,cH,iy,cB,aX] at *;omega)|(simp[av,ai] at *;omega)|grind
def FZ :∀ n,bf [lT n,kk n]
 | 0=>⟨⟨aB lG,λ _ _ h=>absurd h.1 (a8X _)⟩,⟨aB od,λ _ _ h=>absurd h.1 (a8X _)⟩,ae⟩
 | n+1=>by
  have ih:=FZ  n;exact⟨Lu n ⟨ih.2.1,ae⟩,Jn n ⟨ih.1,ae⟩,ae⟩
def GP :aQ.Good By :=
 ⟨aB lG,λ x left hp=>(FZ  (bo x+1)).1.2 x left (⟨a8K _,hp⟩)⟩
def DT:aQ:=⟨D1,[.v (.st .sig)],λ (x:aH)=>⟨(none,[⟨(.st .sig),x⟩])⟩⟩
def OT(x:aH):Nat->aG:=cf
def IF:aQ.Good DT:=by
 refine⟨aB AK,?_⟩;intro (x:aH) _;refine aP [] [] [] [1] trivial AK Ir (OT x) ((ai x.aF->(ai x.ar->x=x))) ?_;refine λ a0=>λ a1=>rfl;all_goals try and_intros
 all_goals first|rfl|trivial|omega|(simp only[a8z,a8y,av,ai,cH,iy,cB,aX] at *;omega)|(simp[av,ai] at *;omega)|grind
def lU(n:Nat):aQ:=⟨tW,[.v (.st .expr)],λ (x:J)=>⟨(some (bo x<n/\aY x<=1048576),[⟨(.st .expr),x⟩])⟩⟩
def Bz:aQ:=⟨tW,[.v (.st .expr)],λ (x:J)=>⟨(some (aY x<=1048576),[⟨(.st .expr),x⟩])⟩⟩
def kl(n:Nat):aQ:=⟨zY,[.v (.slice (.st .expr))],λ (xs:List J)=>⟨(some (bo xs<n/\xs.length+cm aY xs<=1048576),[⟨(.slice (.st .expr)),xs⟩])⟩⟩
def Nn(x:J):Nat->aG:=cf
def Lv(n:Nat)(hE:bf [kl n]):aQ.Good (lU (n+1)):=by
 refine⟨aB lH,?_⟩;intro (x:J) (hp:bo x<n+1/\aY x<=1048576);refine aP [kl n] [] [] [1] hE lH Ge (Nn x) ((ai x.ah->(ai x.aZ->(x.U.length<=140737488355328->((bo x.U<n/\x.U.length+cm aY x.U<=1048576)/\(x.U.length<=140737488355328->(bc x)=x)))))) ?_;rw[wg] at hp;have f0k:=dZ x;refine λ _ _ _=>⟨?_,λ _=>?_⟩;all_goals try and_intros
 all_goals try (first|with_reducible rfl|with_reducible assumption)
 all_goals try simp only[J.eta,cW] at *
 all_goals first|rfl|trivial|omega|(simp only[a8z,a8y,av,ai,cH,iy,cB,aX] at *;omega)|(simp[av,ai] at *;omega)|grind
def K4(xs:List J):Nat->aG:=(dU 0 (.a (Nat) (λ k=>k<=xs.length) (λ k=>xs.length - k) [2,5,6,7] (λ k=>[(4, .aK ⟨(.int .i64),((k:Int):Int)⟩),(3, .row 7)]) [] (λ k=>[(7, .row eH (.st .expr) (fill xs k zE:List J))])) cf)
def Jo(n:Nat)(hE:bf [lU n]):aQ.Good (kl (n+1)):=by
 refine⟨aB oe,?_⟩;intro (xs:List J) (hp:bo xs<n+1/\xs.length+cm aY xs<=1048576);refine aP [lU n] [] [] [] hE oe Eu (K4 xs) (let v0:=(xs.length:Int);((ai v0->(cB v0 v0 40/\((∃ k1:Nat,(k1<=xs.length/\((xs=xs/\(True/\((0:Int)=(k1:Int)/\True)))/\((List.replicate (Int.toNat v0) zE)=(fill xs k1 zE)/\True))))/\(∀ k1:Nat,let v1:=(k1:Int);(k1<=xs.length->(ai v0->(((decide (v1<v0))=true->(av v1 xs.length/\((bo (xs.getD k1 zE)<n/\aY (xs.getD k1 zE)<=1048576)/\(av v1 (fill xs k1 zE).length/\(ai (v1+(1:Int))/\(∃ k2:Nat,(k2<=xs.length/\(xs.length - k2<xs.length - k1/\((xs=xs/\(True/\((v1+(1:Int))=(k2:Int)/\True)))/\(((fill xs k1 zE).set k1 (xs.getD k1 zE))=(fill xs k2 zE)/\True))))))))))/\((decide (v1<v0))=false->(fill xs k1 zE)=xs)))))))))) ?_;refine λ _=>⟨?_,⟨0,?_,⟨rfl,ae,?_,ae⟩,?_,ae⟩,λ k1 _=>have a7G:=Pu xs zE k1;have a7H:=Ra xs zE k1;have a7I:=Pv xs zE zE k1;have a7J:=CL aY zE xs k1;have a7K:=bX zE xs k1;λ _=>⟨λ _=>⟨?_,?_,?_,?_,k1+1,?_,?_,⟨rfl,ae,?_,ae⟩,?_,ae⟩,λ _=>?_⟩⟩;all_goals try and_intros
 all_goals first|rfl|trivial|omega|(simp only[a8z,a8y,av,ai,cH,iy,cB,aX] at *;omega)|(simp[av,ai] at *;omega)|grind|exact Up xs _|(simp only[a8z,a8y] at *;first|exact Pv _ _ _ _ (by omega)|exact Pu _ _ _ (by omega)|(simp only[cB];omega))
def F0 :∀ n,bf [lU n,kl n]
 | 0=>⟨⟨aB lH,λ _ h=>absurd h.1 (a8X _)⟩,⟨aB oe,λ _ h=>absurd h.1 (a8X _)⟩,ae⟩
 | n+1=>by
  have ih:=F0  n;exact⟨Lv n ⟨ih.2.1,ae⟩,Jo n ⟨ih.1,ae⟩,ae⟩
def GQ :aQ.Good Bz :=
 ⟨aB lH,λ x hp=>(F0  (bo x+1)).1.2 x (⟨a8K _,hp⟩)⟩
def lS(n:Nat):aQ:=⟨tU,[.v (.st .expr), .v (.st .expr)],λ (x:J) (y:J)=>⟨(some (bo x<n),[⟨.bool,eg x y⟩])⟩⟩
def Bx:aQ:=⟨tU,[.v (.st .expr), .v (.st .expr)],λ (x:J) (y:J)=>⟨(none,[⟨.bool,eg x y⟩])⟩⟩
def kj(n:Nat):aQ:=⟨zW,[.v (.slice (.st .expr)), .v (.slice (.st .expr))],λ (xs:List J) (ys:List J)=>⟨(some (bo xs<n),[⟨.bool,eg xs ys⟩])⟩⟩
def Nk(x:J)(y:J):Nat->aG:=cf
def Lt(n:Nat)(hE:bf [kj n]):aQ.Good (lS (n+1)):=by
 refine⟨aB lF,?_⟩;intro (x:J) (y:J) (hp:bo x<n+1);refine aP [kj n] [] [] [2,3] hE lF Gc (Nk x y) ((ai x.ah->(ai y.ah->(((!(decide (x.ah=y.ah)))=true->false=(eg x y))/\((!(decide (x.ah=y.ah)))=false->(ai x.aZ->(ai y.aZ->(((!(decide (x.aZ=y.aZ)))=true->false=(eg x y))/\((!(decide (x.aZ=y.aZ)))=false->(x.U.length<=140737488355328->(y.U.length<=140737488355328->(bo x.U<n/\(((!(eg x.U y.U))=true->false=(eg x y))/\((!(eg x.U y.U))=false->true=(eg x y))))))))))))))) ?_;have f0k:=dZ x;refine λ _ _=>⟨λ _=>?_,λ _ _ _=>⟨λ _=>?_,λ _ _ _=>⟨?_,λ _=>?_,λ _=>?_⟩⟩⟩;all_goals try and_intros
 all_goals first|rfl|trivial|(simp only[a8z,a8y,av,ai] at *;omega)|(refine EL λ G7=>?_;subst G7;simp_all)|(refine Ps ?_;cases x;cases y;simp_all)
def K2(xs:List J)(ys:List J):Nat->aG:=(dU 0 (.b (Nat) (λ k=>k<=xs.length/\xs.length=ys.length/\xs.take k=ys.take k) (λ k=>xs.length - k) [6,7,8,9,10] (λ k=>[(5, .aK ⟨(.int .i64),((k:Int):Int)⟩)])) cf)
def Jm(n:Nat)(hE:bf [lS n]):aQ.Good (kj (n+1)):=by
 refine⟨aB oa,?_⟩;intro (xs:List J) (ys:List J) (hp:bo xs<n+1);refine aP [lS n] [] [] [] hE oa Es (K2 xs ys) (let v0:=(xs.length:Int);let v1 := !(decide (v0=((ys.length:Int))));((ai v0->(ai ((ys.length:Int))->((v1=true->false=(eg xs ys))/\(v1=false->((∃ k1:Nat,((k1<=xs.length/\xs.length=ys.length/\xs.take k1=ys.take k1)/\((xs=xs/\(ys=ys/\((0:Int)=(k1:Int)/\True)))/\True)))/\(∀ k1:Nat,let v2 := !(eg (xs.getD k1 zE) (ys.getD k1 zE));let v3:=(k1:Int);((k1<=xs.length/\xs.length=ys.length/\xs.take k1=ys.take k1)->(ai v0->(((decide (v3<v0))=true->(av v3 xs.length/\(av v3 ys.length/\(bo (xs.getD k1 zE)<n/\((v2=true->false=(eg xs ys))/\(v2=false->(ai (v3+(1:Int))/\(∃ k2:Nat,((k2<=xs.length/\xs.length=ys.length/\xs.take k2=ys.take k2)/\(xs.length - k2<xs.length - k1/\((xs=xs/\(ys=ys/\((v3+(1:Int))=(k2:Int)/\True)))/\True)))))))))))/\((decide (v3<v0))=false->true=(eg xs ys))))))))))))) ?_;refine λ _ _=>⟨λ _=>?_,λ _=>⟨⟨0,?_,⟨rfl,rfl,?_,ae⟩,ae⟩,λ k1 _=>have a5y:=pe zE xs ys k1;have a5z:=ib xs ys k1;have a5A:=bX zE xs k1;λ _=>⟨λ _=>⟨?_,?_,?_,λ _=>?_,λ _=>⟨?_,k1+1,?_,?_,⟨rfl,rfl,?_,ae⟩,ae⟩⟩,λ _=>?_⟩⟩⟩;all_goals try and_intros
 all_goals first|rfl|trivial|(simp only[a8z,a8y,a9b,decide_not,a8S,av,ai] at *;first|omega|(refine EL λ G7=>?_;subst G7;simp_all;done)|(refine Ps (ib _ _ _ (by omega) (by omega) (by simp_all))))|(refine EL λ G7=>?_;subst G7;simp_all;done)|(simp_all;done)|(refine pe zE _ _ _ (by simp_all;omega) (by simp_all;omega) (by simp_all) ?_;simp_all;done)
def FY :∀ n,bf [lS n,kj n]
 | 0=>⟨⟨aB lF,λ _ _ h=>absurd h (a8X _)⟩,⟨aB oa,λ _ _ h=>absurd h (a8X _)⟩,ae⟩
 | n+1=>by
  have ih:=FY  n;exact⟨Lt n ⟨ih.2.1,ae⟩,Jm n ⟨ih.1,ae⟩,ae⟩
def GO :aQ.Good Bx :=
 ⟨aB lF,λ x y hp=>(FY  (bo x+1)).1.2 x y (a8K _)⟩
mutual
def aj:J->Nat
 | ⟨_,_,ks⟩=>1+jJ ks
def jJ:List J->Nat
 | []=>0
 | k::ks=>aj k+jJ ks
end
def Kp:∀ xs,jJ xs=cm aj xs
 | []=>rfl
 | x::xs=>by rw[jJ,cm,Kp xs]
def gv(x:J):aj x=1+cm aj x.U:=by
 cases x;simp[aj,Kp]
mutual
def bI:J->Nat
 | ⟨_,_,ks⟩=>1+sQ ks
def sQ:List J->Nat
 | []=>0
 | k::ks=>max (bI k) (sQ ks)
end
def J7:∀ xs,sQ xs=gU bI xs
 | []=>rfl
 | x::xs=>by rw[sQ,gU,J7 xs]
def EK(x:J):bI x=1+gU bI x.U:=by
 cases x;simp[bI,J7]
mutual
def Gt:∀ x:J,bI x<=aj x
 | ⟨k,n,ks⟩=>by
  have:=DJ ks;simp only[bI,aj];omega
def DJ:∀ xs:List J,sQ xs<=jJ xs
 | []=>by simp[sQ]
 | x::xs=>by
  have h1:=Gt x;have h2:=DJ xs;simp only[sQ,jJ];omega
end
def AT(k:Int):Bool:=decide (k=1)||decide (k=2)||decide (k=3)||decide (k=5)||decide (k=6)||decide (k=7)
mutual
def bF:J->Bool
 | ⟨k,_,ks⟩=>AT k&&LF ks
def LF:List J->Bool
 | []=>true
 | k::ks=>bF k&&LF ks
end
def Mp:∀ xs,LF xs=dL bF xs
 | []=>rfl
 | x::xs=>by rw[LF,dL,Mp xs]
def sb(x:J):bF x=(AT x.ah&&dL bF x.U):=by
 cases x;simp[bF,Mp]
def cr(k:Int):Int:=if k=1\/k=2\/k=3\/k=4 then 0 else if k=5\/k=8 then 1 else if k=6\/k=7 then 2 else -1
def ny:aQ:=⟨BN,[.v (.int .i64), .v (.int .i64), .v (.int .i64)],λ (n:Int) (least:Int) (most:Int)=>⟨(none,[⟨.bool,decide (least<=n/\n<=most)⟩])⟩⟩
def Nj(n:Int)(least:Int)(most:Int):Nat->aG:=cf
def uV:aQ.Good ny:=by
 refine⟨aB zj,?_⟩;intro (n:Int) (least:Int) (most:Int) _;refine aP [] [] [] [] trivial zj Gb (Nj n least most) (let v0:=decide (least<=n/\n<=most);((((decide (least<=n))=true->((decide (n<=most))=v0))/\((decide (least<=n))=(!true)->(false=v0))))) ?_;refine⟨λ _=>?_,λ _=>?_⟩;all_goals try and_intros
 all_goals first|rfl|trivial|(simp_all;done)|(simp_all;omega)
def iT:aQ:=⟨D2,[.v (.int .i64), .v (.int .i64), .v (.int .i64)],λ (n:Int) (low:Int) (high:Int)=>⟨(none,[⟨.bool,decide (low<=n/\n<=high)⟩])⟩⟩
def OU(n:Int)(low:Int)(high:Int):Nat->aG:=cf
def oF:aQ.Good iT:=by
 refine⟨aB AL,?_⟩;intro (n:Int) (low:Int) (high:Int) _;refine aP [] [] [] [] trivial AL Is (OU n low high) (let v0:=decide (low<=n/\n<=high);((((decide (low<=n))=true->((decide (n<=high))=v0))/\((decide (low<=n))=(!true)->(false=v0))))) ?_;refine⟨λ _=>?_,λ _=>?_⟩;all_goals try and_intros
 all_goals first|rfl|trivial|(simp_all;done)|(simp_all;omega)
def tO:aQ:=⟨BP,[.v (.int .i64), .v (.int .i64)],λ (a:Int) (b:Int)=>⟨(none,[⟨(.int .i64),max a b⟩])⟩⟩
def No(a:Int)(b:Int):Nat->aG:=cf
def GR:aQ.Good tO:=by
 refine⟨aB zm,?_⟩;intro (a:Int) (b:Int) _;refine aP [] [] [] [] trivial zm Gf (No a b) ((((decide (b<a))=true->a=(max a b))/\((decide (b<a))=false->b=(max a b)))) ?_;refine⟨λ _=>?_,λ _=>?_⟩;all_goals try and_intros
 all_goals first|rfl|trivial|(simp_all;omega)
def tM:aQ:=⟨BK,[.v (.int .i64)],λ (k:Int)=>⟨(none,[⟨(.int .i64),cr k⟩])⟩⟩
def Nh(k:Int):Nat->aG:=cf
abbrev xD(k:Int):Prop:=(let v0:=decide (k=(6:Int));((v0=true ->
 ((v0=true ->
 (2:Int)=(cr k))/\(v0=false ->
 (-1:Int)=(cr k))))/\(v0=false ->
 (((decide (k=(7:Int)))=true ->
 (2:Int)=(cr k))/\((decide (k=(7:Int)))=false ->
 (-1:Int)=(cr k))))))
abbrev IU(k:Int):Prop:=(let v0:=decide (k=(5:Int));((v0=true ->
 ((v0=true ->
 (1:Int)=(cr k))/\(v0=false ->
 (xD k))))/\(v0=false ->
 (((decide (k=(8:Int)))=true ->
 (1:Int)=(cr k))/\((decide (k=(8:Int)))=false ->
 (xD k))))))
def GL:aQ.Good tM:=by
 refine⟨aB zh,?_⟩;intro (k:Int) _;refine aP [] [] [] [] trivial zh F9 (Nh k) (let v0:=decide (k=(1:Int));let v1:=decide (k=(2:Int));let v2:=decide (k=(3:Int));let v3:=IU k;(((v0=true->((v0=true->(0:Int)=(cr k))/\(v0=false->v3)))/\(v0=false->((v1=true->((v1=true->(0:Int)=(cr k))/\(v1=false->v3)))/\(v1=false->((v2=true->((v2=true->(0:Int)=(cr k))/\(v2=false->v3)))/\(v2=false->(((decide (k=(4:Int)))=true->(0:Int)=(cr k))/\((decide (k=(4:Int)))=false->v3)))))))))) ?_;refine⟨λ _=>⟨λ _=>?_,λ _=>⟨λ _=>⟨λ _=>?_,λ _=>⟨λ _=>⟨λ _=>?_,λ _=>?_⟩,λ _=>⟨λ _=>?_,λ _=>?_⟩⟩⟩,λ _=>⟨λ _=>?_,λ _=>⟨λ _=>⟨λ _=>?_,λ _=>?_⟩,λ _=>⟨λ _=>?_,λ _=>?_⟩⟩⟩⟩⟩,λ _=>⟨λ _=>⟨λ _=>?_,λ _=>⟨λ _=>⟨λ _=>?_,λ _=>⟨λ _=>⟨λ _=>?_,λ _=>?_⟩,λ _=>⟨λ _=>?_,λ _=>?_⟩⟩⟩,λ _=>⟨λ _=>?_,λ _=>⟨λ _=>⟨λ _=>?_,λ _=>?_⟩,λ _=>⟨λ _=>?_,λ _=>?_⟩⟩⟩⟩⟩,λ _=>⟨λ _=>⟨λ _=>?_,λ _=>⟨λ _=>⟨λ _=>?_,λ _=>⟨λ _=>⟨λ _=>?_,λ _=>?_⟩,λ _=>⟨λ _=>?_,λ _=>?_⟩⟩⟩,λ _=>⟨λ _=>?_,λ _=>⟨λ _=>⟨λ _=>?_,λ _=>?_⟩,λ _=>⟨λ _=>?_,λ _=>?_⟩⟩⟩⟩⟩,λ _=>⟨λ _=>?_,λ _=>⟨λ _=>⟨λ _=>?_,λ _=>⟨λ _=>⟨λ _=>?_,λ _=>?_⟩,λ _=>⟨λ _=>?_,λ _=>?_⟩⟩⟩,λ _=>⟨λ _=>?_,λ _=>⟨λ _=>⟨λ _=>?_,λ _=>?_⟩,λ _=>⟨λ _=>?_,λ _=>?_⟩⟩⟩⟩⟩⟩⟩⟩;all_goals try and_intros
 all_goals first|rfl|trivial|(simp only[decide_eq_true_eq,decide_eq_false_iff_not] at *;simp[cr, *];done)|(simp only[decide_eq_true_eq,decide_eq_false_iff_not] at *;unfold cr;repeat (first|omega|split))
def qL:aQ:=⟨z7,[.v (.int .i64)],λ (k:Int)=>⟨(none,[⟨(.int .i64),cr k⟩])⟩⟩
def K5(k:Int):Nat->aG:=cf
abbrev vA(k:Int):Prop:=(let v0:=decide (k=(6:Int));((v0=true ->
 ((v0=true ->
 (2:Int)=(cr k))/\(v0=false ->
 (-1:Int)=(cr k))))/\(v0=false ->
 (((decide (k=(7:Int)))=true ->
 (2:Int)=(cr k))/\((decide (k=(7:Int)))=false ->
 (-1:Int)=(cr k))))))
abbrev Hl(k:Int):Prop:=(let v0:=decide (k=(5:Int));((v0=true ->
 ((v0=true ->
 (1:Int)=(cr k))/\(v0=false ->
 (vA k))))/\(v0=false ->
 (((decide (k=(8:Int)))=true ->
 (1:Int)=(cr k))/\((decide (k=(8:Int)))=false ->
 (vA k))))))
def EU:aQ.Good qL:=by
 refine⟨aB wZ,?_⟩;intro (k:Int) _;refine aP [] [] [] [] trivial wZ Ev (K5 k) (let v0:=decide (k=(1:Int));let v1:=decide (k=(2:Int));let v2:=decide (k=(3:Int));let v3:=Hl k;(((v0=true->((v0=true->(0:Int)=(cr k))/\(v0=false->v3)))/\(v0=false->((v1=true->((v1=true->(0:Int)=(cr k))/\(v1=false->v3)))/\(v1=false->((v2=true->((v2=true->(0:Int)=(cr k))/\(v2=false->v3)))/\(v2=false->(((decide (k=(4:Int)))=true->(0:Int)=(cr k))/\((decide (k=(4:Int)))=false->v3)))))))))) ?_;refine⟨λ _=>⟨λ _=>?_,λ _=>⟨λ _=>⟨λ _=>?_,λ _=>⟨λ _=>⟨λ _=>?_,λ _=>?_⟩,λ _=>⟨λ _=>?_,λ _=>?_⟩⟩⟩,λ _=>⟨λ _=>?_,λ _=>⟨λ _=>⟨λ _=>?_,λ _=>?_⟩,λ _=>⟨λ _=>?_,λ _=>?_⟩⟩⟩⟩⟩,λ _=>⟨λ _=>⟨λ _=>?_,λ _=>⟨λ _=>⟨λ _=>?_,λ _=>⟨λ _=>⟨λ _=>?_,λ _=>?_⟩,λ _=>⟨λ _=>?_,λ _=>?_⟩⟩⟩,λ _=>⟨λ _=>?_,λ _=>⟨λ _=>⟨λ _=>?_,λ _=>?_⟩,λ _=>⟨λ _=>?_,λ _=>?_⟩⟩⟩⟩⟩,λ _=>⟨λ _=>⟨λ _=>?_,λ _=>⟨λ _=>⟨λ _=>?_,λ _=>⟨λ _=>⟨λ _=>?_,λ _=>?_⟩,λ _=>⟨λ _=>?_,λ _=>?_⟩⟩⟩,λ _=>⟨λ _=>?_,λ _=>⟨λ _=>⟨λ _=>?_,λ _=>?_⟩,λ _=>⟨λ _=>?_,λ _=>?_⟩⟩⟩⟩⟩,λ _=>⟨λ _=>?_,λ _=>⟨λ _=>⟨λ _=>?_,λ _=>⟨λ _=>⟨λ _=>?_,λ _=>?_⟩,λ _=>⟨λ _=>?_,λ _=>?_⟩⟩⟩,λ _=>⟨λ _=>?_,λ _=>⟨λ _=>⟨λ _=>?_,λ _=>?_⟩,λ _=>⟨λ _=>?_,λ _=>?_⟩⟩⟩⟩⟩⟩⟩⟩;all_goals try and_intros
 all_goals first|rfl|trivial|(simp only[decide_eq_true_eq,decide_eq_false_iff_not] at *;simp[cr, *];done)|(simp only[decide_eq_true_eq,decide_eq_false_iff_not] at *;unfold cr;repeat (first|omega|split))
def fY(n:Nat):aQ:=⟨lf,[.v (.st .expr)],λ (x:J)=>⟨(some (bo x<n),[⟨.bool,bF x⟩])⟩⟩
def gD:aQ:=⟨lf,[.v (.st .expr)],λ (x:J)=>⟨(none,[⟨.bool,bF x⟩])⟩⟩
def Dv(x:J):Nat->aG:=(dU 1 (.b (Nat) (λ k=>k<=x.U.length/\dL bF (x.U.take k)=true) (λ k=>x.U.length - k) [0,1,5,6,7,8,9,10,11,12,13,14] (λ k=>[(17, .aK ⟨(.int .i64),((k:Int):Int)⟩)])) cf)
abbrev Ax(n:Nat)(x:J):Prop:=(let v0:=(x.U.length:Int);(x.U.length<=140737488355328 ->
 (ai v0 ->
 ((∃ k1:Nat,((k1<=x.U.length/\dL bF (x.U.take k1)=true)/\((x.U=x.U/\(v0=v0/\((0:Int)=(k1:Int)/\True)))/\True)))/\(∀ k1:Nat,let v1:=bc (x.U.getD k1 zE);((k1<=x.U.length/\dL bF (x.U.take k1)=true) ->
 (((decide ((k1:Int)<v0))=true ->
 (av (k1:Int) x.U.length/\(bo v1<n/\(((!(bF v1))=true ->
 false=(bF x))/\((!(bF v1))=false ->
 (ai ((k1:Int)+(1:Int))/\(∃ k2:Nat,((k2<=x.U.length/\dL bF (x.U.take k2)=true)/\(x.U.length - k2<x.U.length - k1/\((x.U=x.U/\(v0=v0/\(((k1:Int)+(1:Int))=(k2:Int)/\True)))/\True))))))))))/\((decide ((k1:Int)<v0))=false ->
 true=(bF x)))))))))
def BZ(n:Nat)(hE:bf [fY n]):aQ.Good (fY (n+1)):=by
 refine⟨aB fS,?_⟩;intro (x:J) (hp:bo x<n+1);refine aP [fY n] [] [] [1] hE fS yn (Dv x) (let v0:=Ax n x;let v1:=decide (x.ah=(1:Int));let v2:=decide (x.ah=(2:Int));let v3:=decide (x.ah=(3:Int));let v4:=decide (x.ah=(5:Int));let v5:=decide (x.ah=(6:Int));let v6:=bF x;((ai x.ah->((v1=true->((v1=true->v0)/\(v1=false->false=v6)))/\(v1=false->((v2=true->((v2=true->v0)/\(v2=false->false=v6)))/\(v2=false->((v3=true->((v3=true->v0)/\(v3=false->false=v6)))/\(v3=false->((v4=true->((v4=true->v0)/\(v4=false->false=v6)))/\(v4=false->((v5=true->((v5=true->v0)/\(v5=false->false=v6)))/\(v5=false->(((decide (x.ah=(7:Int)))=true->v0)/\((decide (x.ah=(7:Int)))=false->false=v6))))))))))))))) ?_;have f0:=dZ x;have f1:=all_zero bF x.U;refine λ _=>⟨λ _=>⟨λ _ _ _=>⟨⟨0,?_,⟨rfl,rfl,?_,ae⟩,ae⟩,λ k1 _=>have a5B:=eB bF zE x.U k1;have a5C:=e8 bF zE x.U k1;have a5D:=eA bF x.U k1;have a7R:=bX zE x.U k1;⟨λ _=>⟨?_,?_,λ _=>?_,λ _=>⟨?_,k1+1,?_,?_,⟨rfl,rfl,?_,ae⟩,ae⟩⟩,λ _=>?_⟩⟩,λ _=>?_⟩,λ _=>⟨λ _=>⟨λ _ _ _=>⟨⟨0,?_,⟨rfl,rfl,?_,ae⟩,ae⟩,λ k1 _=>have a7S:=eB bF zE x.U k1;have a7T:=e8 bF zE x.U k1;have a7U:=eA bF x.U k1;have a7V:=bX zE x.U k1;⟨λ _=>⟨?_,?_,λ _=>?_,λ _=>⟨?_,k1+1,?_,?_,⟨rfl,rfl,?_,ae⟩,ae⟩⟩,λ _=>?_⟩⟩,λ _=>?_⟩,λ _=>⟨λ _=>⟨λ _ _ _=>⟨⟨0,?_,⟨rfl,rfl,?_,ae⟩,ae⟩,λ k1 _=>have Yc:=eB bF zE x.U k1;have Yd:=e8 bF zE x.U k1;have Ye:=eA bF x.U k1;have a2p:=bX zE x.U k1;⟨λ _=>⟨?_,?_,λ _=>?_,λ _=>⟨?_,k1+1,?_,?_,⟨rfl,rfl,?_,ae⟩,ae⟩⟩,λ _=>?_⟩⟩,λ _=>?_⟩,λ _=>⟨λ _=>⟨λ _ _ _=>⟨⟨0,?_,⟨rfl,rfl,?_,ae⟩,ae⟩,λ k1 _=>have a7W:=eB bF zE x.U k1;have a7X:=e8 bF zE x.U k1;have a7Y:=eA bF x.U k1;have a7Z:=bX zE x.U k1;⟨λ _=>⟨?_,?_,λ _=>?_,λ _=>⟨?_,k1+1,?_,?_,⟨rfl,rfl,?_,ae⟩,ae⟩⟩,λ _=>?_⟩⟩,λ _=>?_⟩,λ _=>⟨λ _=>⟨λ _ _ _=>⟨⟨0,?_,⟨rfl,rfl,?_,ae⟩,ae⟩,λ k1 _=>have a2q:=eB bF zE x.U k1;have a2r:=e8 bF zE x.U k1;have a2s:=eA bF x.U k1;have a5K:=bX zE x.U k1;⟨λ _=>⟨?_,?_,λ _=>?_,λ _=>⟨?_,k1+1,?_,?_,⟨rfl,rfl,?_,ae⟩,ae⟩⟩,λ _=>?_⟩⟩,λ _=>?_⟩,λ _=>⟨λ _ _ _=>⟨⟨0,?_,⟨rfl,rfl,?_,ae⟩,ae⟩,λ k1 _=>have a2q:=eB bF zE x.U k1;have a2r:=e8 bF zE x.U k1;have a2s:=eA bF x.U k1;have a5K:=bX zE x.U k1;⟨λ _=>⟨?_,?_,λ _=>?_,λ _=>⟨?_,k1+1,?_,?_,⟨rfl,rfl,?_,ae⟩,ae⟩⟩,λ _=>?_⟩⟩,λ _=>?_⟩⟩⟩⟩⟩⟩;all_goals try and_intros
 all_goals try (first|with_reducible rfl|with_reducible assumption)
 all_goals try simp only[J.eta,cW] at *
 all_goals try rw[sb x]
 all_goals first|rfl|trivial|(simp only[a8z,a8y,av,ai] at *;omega)|(simp_all [AT];done)|(simp_all [AT,av,ai];omega)
def JI :∀ n,bf [fY n]
 | 0=>⟨⟨aB fS,λ _ h=>absurd h (a8X _)⟩,ae⟩
 | n+1=>by
  have ih:=JI  n;exact⟨BZ n ⟨ih.1,ae⟩,ae⟩
def nh :aQ.Good gD :=
 ⟨aB fS,λ x hp=>(JI  (bo x+1)).1.2 x (a8K _)⟩
def fH(n:Nat):aQ:=⟨jI,[.r (.st .expr)],λ (x:J)=>⟨(some (bo x<n),[⟨.bool,bF x⟩])⟩⟩
def fX:aQ:=⟨jI,[.r (.st .expr)],λ (x:J)=>⟨(none,[⟨.bool,bF x⟩])⟩⟩
def BC(x:J):Nat->aG:=(dU 0 (.b (Nat) (λ k=>k<=x.U.length/\dL bF (x.U.take k)=true) (λ k=>x.U.length - k) [4,5,6,7,8,9,10,11,12,13,14,15,16] (λ k=>[(3, .aK ⟨(.int .i64),((k:Int):Int)⟩)])) cf)
abbrev nu(n:Nat)(x:J):Prop:=(let v0:=(x.U.length:Int);((∃ k1:Nat,((k1<=x.U.length/\dL bF (x.U.take k1)=true)/\((x=x/\((0:Int)=(k1:Int)/\True))/\True)))/\(∀ k1:Nat,let v1:=x.U.getD k1 zE;((k1<=x.U.length/\dL bF (x.U.take k1)=true) ->
 (x.U.length<=140737488355328 ->
 (ai v0 ->
 (((decide ((k1:Int)<v0))=true ->
 (x.U.length<=140737488355328 ->
 (av (k1:Int) x.U.length/\(bo v1<n/\(((!(bF v1))=true ->
 false=(bF x))/\((!(bF v1))=false ->
 (ai ((k1:Int)+(1:Int))/\(∃ k2:Nat,((k2<=x.U.length/\dL bF (x.U.take k2)=true)/\(x.U.length - k2<x.U.length - k1/\((x=x/\(((k1:Int)+(1:Int))=(k2:Int)/\True))/\True)))))))))))/\((decide ((k1:Int)<v0))=false ->
 true=(bF x)))))))))
def AA(n:Nat)(hE:bf [fH n,iT]):aQ.Good (fH (n+1)):=by
 refine⟨aB fG,?_⟩;intro (x:J) (hp:bo x<n+1);refine aP [fH n,iT] [] [] [] hE fG xh (BC x) (let v0 := !(decide ((1:Int)<=x.ah/\x.ah<=(7:Int)));((ai x.ah->(((v0=false)->(ai x.ah->(((decide (x.ah=(4:Int)))=true->false=(bF x))/\((decide (x.ah=(4:Int)))=false->(nu n x)))))/\((v0=(!false))->((true=true->false=(bF x))/\(true=false->(nu n x)))))))) ?_;have f0:=dZ x;have f1:=all_zero bF x.U;refine λ _=>⟨λ _ _=>⟨λ _=>?_,λ _=>⟨⟨0,?_,⟨rfl,?_,ae⟩,ae⟩,λ k1 _=>have a7N:=eB bF zE x.U k1;have a7O:=e8 bF zE x.U k1;have a7P:=eA bF x.U k1;have a7Q:=bX zE x.U k1;λ _ _=>⟨λ _ _=>⟨?_,?_,λ _=>?_,λ _=>⟨?_,k1+1,?_,?_,⟨rfl,?_,ae⟩,ae⟩⟩,λ _=>?_⟩⟩⟩,λ _=>⟨λ _=>?_,λ _=>⟨⟨0,?_,⟨rfl,?_,ae⟩,ae⟩,λ k1 _=>have a5y:=eB bF zE x.U k1;have a5z:=e8 bF zE x.U k1;have a5A:=eA bF x.U k1;have a7M:=bX zE x.U k1;λ _ _=>⟨λ _ _=>⟨?_,?_,λ _=>?_,λ _=>⟨?_,k1+1,?_,?_,⟨rfl,?_,ae⟩,ae⟩⟩,λ _=>?_⟩⟩⟩⟩;all_goals try and_intros
 all_goals try rw[sb x]
 all_goals first|rfl|trivial|(simp only[a8z,a8y,av,ai] at *;omega)|(simp_all [AT];done)|(simp_all [AT,av,ai];omega)
def JJ :∀ n,bf [fH n]
 | 0=>⟨⟨aB fG,λ _ h=>absurd h (a8X _)⟩,ae⟩
 | n+1=>by
  have ih:=JJ  n;exact⟨AA n ⟨ih.1,oF,ae⟩,ae⟩
def mF :aQ.Good fX :=
 ⟨aB fG,λ x hp=>(JJ  (bo x+1)).1.2 x (a8K _)⟩
def oG(t a:Int)(x:J):Bool:=decide (cr x.ah=(x.U.length:Int)) &&
 (if x.ah=3 then decide (0<=x.aZ/\x.aZ<=t) else if x.ah=4 then decide (0<=x.aZ/\x.aZ<=a) else decide (x.aZ=0)) &&
 (!decide (x.ah=5)||bF (x.U.getD 0 ⟨0,0,[]⟩))
mutual
def bP(t a:Int):J->Bool
 | ⟨k,n,ks⟩=>oG t a ⟨k,n,ks⟩&&rZ t a ks
def rZ(t a:Int):List J->Bool
 | []=>true
 | k::ks=>bP t a k&&rZ t a ks
end
def Ov(t a:Int):∀ xs,rZ t a xs=dL (bP t a) xs
 | []=>rfl
 | x::xs=>by rw[rZ,dL,Ov t a xs]
def iV(t a:Int)(x:J):bP t a x=(oG t a x&&dL (bP t a) x.U):=by
 cases x;simp[bP,Ov]
def aT(n:Int):Int:=IntKind.wrap .i64 (n - 1)
def NZ(n:Int)(h : -9223372036854775807<=n/\n<=9223372036854775807):aT n=n - 1:=by
 simp[aT,IntKind.wrap,IntKind.signed,IntKind.bits];omega
def km(n:Nat):aQ:=⟨qW,[.r (.st .expr), .v (.int .i64)],λ (x:J) (left:Int)=>⟨(some (bo x<n/\0<=left/\left<=1048576),[⟨(.int .i64),rj (aj x) left⟩])⟩⟩
def zJ:aQ:=⟨qW,[.r (.st .expr), .v (.int .i64)],λ (x:J) (left:Int)=>⟨(some (0<=left/\left<=1048576),[⟨(.int .i64),rj (aj x) left⟩])⟩⟩
def K6(x:J)(left:Int):Nat->aG:=(dU 0 (.b (Nat) (λ k=>k<=x.U.length) (λ k=>x.U.length - k) [4,6,7] (λ k=>[(5, .aK ⟨(.int .i64),((k:Int):Int)⟩),(1, .aK ⟨(.int .i64),(rj (1+cm aj (x.U.take k)) left:Int)⟩)])) cf)
abbrev vB(n:Nat)(x:J)(left:Int)(k1:Nat):Prop:=(let v0:=rj (1+cm aj (x.U.take k1)) left;let v1:=rj (aj (x.U.getD k1 zE)) v0;(x.U.length<=140737488355328 ->
 (av (k1:Int) x.U.length/\((bo (x.U.getD k1 zE)<n/\0<=v0/\v0<=1048576)/\(ai v1 ->
 (ai ((k1:Int)+(1:Int))/\(∃ k2:Nat,(k2<=x.U.length/\(x.U.length - k2<x.U.length - k1/\((x=x/\(v1=(rj (1+cm aj (x.U.take k2)) left)/\(((k1:Int)+(1:Int))=(k2:Int)/\True)))/\True))))))))))
def Jp(n:Nat)(hE:bf [km n]):aQ.Good (km (n+1)):=by
 refine⟨aB jT,?_⟩;intro (x:J) (left:Int) (hp:bo x<n+1/\0<=left/\left<=1048576);refine aP [km n] [] [] [] hE jT Ew (K6 x left) (let v0:=(x.U.length:Int);((ai (left - (1:Int))/\((∃ k1:Nat,(k1<=x.U.length/\((x=x/\((left - (1:Int))=(rj (1+cm aj (x.U.take k1)) left)/\((0:Int)=(k1:Int)/\True)))/\True)))/\(∀ k1:Nat,let v1:=rj (1+cm aj (x.U.take k1)) left;(k1<=x.U.length->(x.U.length<=140737488355328->(ai v0->(((decide ((k1:Int)<v0))=true->(((decide ((0:Int)<=v1))=true->(vB n x left k1))/\((decide ((0:Int)<=v1))=false->v1=(rj (aj x) left))))/\((decide ((k1:Int)<v0))=(!true)->((false=true->(vB n x left k1))/\(false=false->v1=(rj (aj x) left))))))))))))) ?_;have f0:=dZ x;have f1:=ya aj x.U;have f2:=nM (1+cm aj (x.U.take 0)) left;refine⟨?_,⟨0,?_,⟨rfl,?_,?_,ae⟩,ae⟩,λ k1 _=>have a2k:=kE aj zE x.U k1;have a2l:=dz aj x.U k1;have a2m:=dz aj x.U (k1+1);have a2n:=pQ aj x.U k1;have a2o:=bX zE x.U k1;have a5s:=nM (1+cm aj (x.U.take k1)) left;have a7D:=nM (1+cm aj (x.U.take (k1+1))) left;have a7E:=nM (aj (x.U.getD k1 zE)) (rj (1+cm aj (x.U.take k1)) left);have a7F:=nM (1+cm aj x.U) left;λ _ _=>⟨λ _=>⟨λ _ _=>⟨?_,?_,λ _=>⟨?_,k1+1,?_,?_,⟨rfl,?_,?_,ae⟩,ae⟩⟩,λ _=>?_⟩,λ _=>⟨λ _ _=>⟨?_,?_,λ _=>⟨?_,k1+1,?_,?_,⟨rfl,?_,?_,ae⟩,ae⟩⟩,λ _=>?_⟩⟩⟩;all_goals try and_intros
 all_goals try rw[gv x]
 all_goals first|rfl|trivial|omega|(simp only[a8z,a8y,av,ai,cH,iy,cB,aX] at *;omega)|(simp[av,ai] at *;omega)|grind
def JK :∀ n,bf [km n]
 | 0=>⟨⟨aB jT,λ _ _ h=>absurd h.1 (a8X _)⟩,ae⟩
 | n+1=>by
  have ih:=JK  n;exact⟨Jp n ⟨ih.1,ae⟩,ae⟩
def EV :aQ.Good zJ :=
 ⟨aB jT,λ x left hp=>(JK  (bo x+1)).1.2 x left (⟨a8K _,hp⟩)⟩
def jn(n:Nat):aQ:=⟨oV,[.r (.st .expr)],λ (x:J)=>⟨(some (bo x<n/\bI x<=1048576),[⟨(.int .i64),(bI x:Int)⟩])⟩⟩
def xJ:aQ:=⟨oV,[.r (.st .expr)],λ (x:J)=>⟨(some (bI x<=1048576),[⟨(.int .i64),(bI x:Int)⟩])⟩⟩
def I6(x:J):Nat->aG:=(dU 0 (.b (Nat) (λ k=>k<=x.U.length) (λ k=>x.U.length - k) [2] (λ k=>[(4, .aK ⟨(.int .i64),((k:Int):Int)⟩),(3, .aK ⟨(.int .i64),((gU bI (x.U.take k):Int):Int)⟩)])) cf)
def HF(n:Nat)(hE:bf [jn n,tO]):aQ.Good (jn (n+1)):=by
 refine⟨aB jh,?_⟩;intro (x:J) (hp:bo x<n+1/\bI x<=1048576);refine aP [jn n,tO] [] [] [] hE jh C8 (I6 x) (let v0:=(x.U.length:Int);(((∃ k1:Nat,(k1<=x.U.length/\((x=x/\((0:Int)=(gU bI (x.U.take k1):Int)/\((0:Int)=(k1:Int)/\True)))/\True)))/\(∀ k1:Nat,let v1:=(gU bI (x.U.take k1):Int);let v3:=x.U.getD k1 zE;let v2:=(bI v3:Int);(k1<=x.U.length->(x.U.length<=140737488355328->(ai v0->(((decide ((k1:Int)<v0))=true->(x.U.length<=140737488355328->(av (k1:Int) x.U.length/\((bo v3<n/\bI v3<=1048576)/\(ai v2->(ai (max v1 v2)->(ai ((k1:Int)+(1:Int))/\(∃ k2:Nat,(k2<=x.U.length/\(x.U.length - k2<x.U.length - k1/\((x=x/\((max v1 v2)=(gU bI (x.U.take k2):Int)/\(((k1:Int)+(1:Int))=(k2:Int)/\True)))/\True)))))))))))/\((decide ((k1:Int)<v0))=false->(ai (v1+(1:Int))/\(v1+(1:Int))=(bI x:Int))))))))))) ?_;rw[EK x] at hp;have f0:=dZ x;have f1:=ND bI x.U;refine⟨⟨0,?_,⟨rfl,?_,?_,ae⟩,ae⟩,λ k1 _=>have a2k:=oR bI zE x.U k1;have a2l:=gp bI x.U k1;have a2m:=gp bI x.U (k1+1);have a2n:=xQ bI x.U k1;have a2o:=bX zE x.U k1;have a5s:=NC bI zE x.U k1;λ _ _=>⟨λ _ _=>⟨?_,?_,λ _ _=>⟨?_,k1+1,?_,?_,⟨rfl,?_,?_,ae⟩,ae⟩⟩,λ _=>⟨?_,?_⟩⟩⟩;all_goals try and_intros
 all_goals try rw[EK x]
 all_goals first|rfl|trivial|omega|(simp only[a8z,a8y,av,ai,cH,iy,cB,aX] at *;omega)|(simp[av,ai] at *;omega)|grind
def FX :∀ n,bf [jn n]
 | 0=>⟨⟨aB jh,λ _ h=>absurd h.1 (a8X _)⟩,ae⟩
 | n+1=>by
  have ih:=FX  n;exact⟨HF n ⟨ih.1,GR,ae⟩,ae⟩
def Dl :aQ.Good xJ :=
 ⟨aB jh,λ x hp=>(FX  (bo x+1)).1.2 x (⟨a8K _,hp⟩)⟩
def ku(n:Nat):aQ:=⟨qY,[.v (.st .sig), .r (.st .expr)],λ (gg:aH) (x:J)=>⟨(some (bo x<n),[⟨.bool,bP (aT gg.aF) (aT gg.ar) x⟩])⟩⟩
def zL:aQ:=⟨qY,[.v (.st .sig), .r (.st .expr)],λ (gg:aH) (x:J)=>⟨(none,[⟨.bool,bP (aT gg.aF) (aT gg.ar) x⟩])⟩⟩
def La(gg:aH)(x:J):Nat->aG:=(dU 1 (.b (Nat) (λ k=>k<=x.U.length/\dL (bP (aT gg.aF) (aT gg.ar)) (x.U.take k)=true) (λ k=>x.U.length - k) [0,6,7,8,9,10,11,12,13,14,15,16,17,18,19,20,21,22,31,32,41,42,43,44,45,46,47,48,49,50,51,52,53,54,55,56,57,58,59,60,61] (λ k=>[(5, .aK ⟨(.int .i64),((k:Int):Int)⟩)])) cf)
abbrev Hm(n:Nat)(gg:aH)(x:J):Prop:=(let v0:=aT gg.ar;let v1:=aT gg.aF;let v2:=(x.U.length:Int);((∃ k1:Nat,((k1<=x.U.length/\dL (bP v1 v0) (x.U.take k1)=true)/\((x=x/\(gg=gg/\((0:Int)=(k1:Int)/\True)))/\True)))/\(∀ k1:Nat,let v3 := !(bP v1 v0 (x.U.getD k1 zE));((k1<=x.U.length/\dL (bP v1 v0) (x.U.take k1)=true) ->
 (x.U.length<=140737488355328 ->
 (ai v2 ->
 (((decide ((k1:Int)<v2))=true ->
 (av (k1:Int) x.U.length/\(x.U.length<=140737488355328 ->
 (bo (x.U.getD k1 zE)<n/\((v3=true ->
 false=(bP v1 v0 x))/\(v3=false ->
 (ai ((k1:Int)+(1:Int))/\(∃ k2:Nat,((k2<=x.U.length/\dL (bP v1 v0) (x.U.take k2)=true)/\(x.U.length - k2<x.U.length - k1/\((x=x/\(gg=gg/\(((k1:Int)+(1:Int))=(k2:Int)/\True)))/\True)))))))))))/\((decide ((k1:Int)<v2))=false ->
 true=(bP v1 v0 x)))))))))
def Jt(n:Nat)(hE:bf [ku n,qL,iT,fX]):aQ.Good (ku (n+1)):=by
 refine⟨aB jX,?_⟩;intro (gg:aH) (x:J) (hp:bo x<n+1);refine aP [ku n,qL,iT,fX] [29,39] [] [2] hE jX EA (La gg x) (let v0:=bP (aT gg.aF) (aT gg.ar) x;let v1 := !(decide (((x.U.length:Int))=(cr x.ah)));let v2:=Hm n gg x;let v3 := !(decide (x.aZ=(0:Int)));((x.U.length<=140737488355328->(ai ((x.U.length:Int))->(ai x.ah->(ai (cr x.ah)->((v1=true->false=v0)/\(v1=false->(ai x.ah->(((decide (x.ah=(3:Int)))=true->(ai x.aZ->(ai gg.aF->((decide ((0:Int)<=x.aZ/\x.aZ<=(IntKind.wrap .i64 (gg.aF - (1:Int)))))=v0))))/\((decide (x.ah=(3:Int)))=false->(((decide (x.ah=(4:Int)))=true->(ai x.aZ->(ai gg.ar->((decide ((0:Int)<=x.aZ/\x.aZ<=(IntKind.wrap .i64 (gg.ar - (1:Int)))))=v0))))/\((decide (x.ah=(4:Int)))=false->(ai x.aZ->((v3=false->(ai x.ah->(((decide (x.ah=(5:Int)))=true->(x.U.length<=140737488355328->(av (0:Int) x.U.length/\(((!(bF (x.U.getD 0 zE)))=true->false=v0)/\((!(bF (x.U.getD 0 zE)))=false->v2)))))/\((decide (x.ah=(5:Int)))=(!true)->((false=true->false=v0)/\(false=false->v2))))))/\(v3=(!false)->((true=true->false=v0)/\(true=false->v2)))))))))))))))))) ?_;have f0:=dZ x;have f1:=all_zero (bP (aT gg.aF) (aT gg.ar)) x.U;refine λ _ _ _ _=>⟨λ _=>?_,λ _ _=>⟨λ _ _ _=>?_,λ _=>⟨λ _ _ _=>?_,λ _ _=>⟨λ _ _=>⟨λ _ _=>⟨?_,λ _=>?_,λ _=>⟨⟨0,?_,⟨rfl,rfl,?_,ae⟩,ae⟩,λ k1 _=>have a7s:=eB (bP (aT gg.aF) (aT gg.ar)) zE x.U k1;have a7t:=e8 (bP (aT gg.aF) (aT gg.ar)) zE x.U k1;have a7u:=eA (bP (aT gg.aF) (aT gg.ar)) x.U k1;have a7v:=bX zE x.U k1;λ _ _=>⟨λ _=>⟨?_,λ _=>⟨?_,λ _=>?_,λ _=>⟨?_,k1+1,?_,?_,⟨rfl,rfl,?_,ae⟩,ae⟩⟩⟩,λ _=>?_⟩⟩⟩,λ _=>⟨λ _=>?_,λ _=>⟨⟨0,?_,⟨rfl,rfl,?_,ae⟩,ae⟩,λ k1 _=>have a7o:=eB (bP (aT gg.aF) (aT gg.ar)) zE x.U k1;have a7p:=e8 (bP (aT gg.aF) (aT gg.ar)) zE x.U k1;have a7q:=eA (bP (aT gg.aF) (aT gg.ar)) x.U k1;have a7r:=bX zE x.U k1;λ _ _=>⟨λ _=>⟨?_,λ _=>⟨?_,λ _=>?_,λ _=>⟨?_,k1+1,?_,?_,⟨rfl,rfl,?_,ae⟩,ae⟩⟩⟩,λ _=>?_⟩⟩⟩⟩,λ _=>⟨λ _=>?_,λ _=>⟨⟨0,?_,⟨rfl,rfl,?_,ae⟩,ae⟩,λ k1 _=>have T9:=eB (bP (aT gg.aF) (aT gg.ar)) zE x.U k1;have Ua:=e8 (bP (aT gg.aF) (aT gg.ar)) zE x.U k1;have Ub:=eA (bP (aT gg.aF) (aT gg.ar)) x.U k1;have Yb:=bX zE x.U k1;λ _ _=>⟨λ _=>⟨?_,λ _=>⟨?_,λ _=>?_,λ _=>⟨?_,k1+1,?_,?_,⟨rfl,rfl,?_,ae⟩,ae⟩⟩⟩,λ _=>?_⟩⟩⟩⟩⟩⟩⟩;all_goals try and_intros
 all_goals try rw[iV _ _ x]
 all_goals first|rfl|trivial|(simp only[decide_eq_true_eq,decide_eq_false_iff_not,av,ai] at *;omega)|(simp_all [oG,aT];done)|(simp_all [oG,aT,av,ai];omega)|grind [oG,aT,cr,av,ai]
def JQ :∀ n,bf [ku n]
 | 0=>⟨⟨aB jX,λ _ _ h=>absurd h (a8X _)⟩,ae⟩
 | n+1=>by
  have ih:=JQ  n;exact⟨Jt n ⟨ih.1,EU,oF,mF,ae⟩,ae⟩
def EY :aQ.Good zL :=
 ⟨aB jX,λ gg x hp=>(JQ  (bo x+1)).1.2 gg x (a8K _)⟩
def dj(gg:aH):Bool:=decide (0<=gg.aF/\gg.aF<=3)&&decide (0<=gg.ar/\gg.ar<=4)
def FA(gg:aH)(x:J)(bz depth:Int):Bool:=bP (aT gg.aF) (aT gg.ar) x&&decide ((aj x:Int)<=bz)&&decide ((bI x:Int)<=depth)
def Lx(gg:aH)(x:J)(bz depth:Int):Int:=bif FA gg x bz depth then bz - aj x else 0
def xH:aQ:=⟨xR,[.v (.st .sig)],λ (gg:aH)=>⟨(none,[⟨.bool,dj gg⟩])⟩⟩
def I2(gg:aH):Nat->aG:=cf
def Dh:aQ.Good xH:=by
 refine⟨aB uJ,?_⟩;intro (gg:aH) _;refine aP [ny] [] [] [1] ⟨uV,ae⟩ uJ C3 (I2 gg) (let v0:=decide ((0:Int)<=gg.aF/\gg.aF<=(3:Int));((ai gg.aF->(((v0=true)->(ai gg.ar->((decide ((0:Int)<=gg.ar/\gg.ar<=(4:Int)))=(dj gg))))/\((v0=(!true))->false=(dj gg)))))) ?_;refine λ _=>⟨λ _ _=>?_,λ _=>?_⟩;all_goals try and_intros
 all_goals first|rfl|trivial|(simp_all [dj];done)|(simp_all [dj];omega)
def BA:aQ:=⟨BQ,[.v (.st .sig)],λ (gg:aH)=>⟨(none,[⟨.bool,dj gg⟩])⟩⟩
def Np(gg:aH):Nat->aG:=cf
def GS:aQ.Good BA:=by
 refine⟨aB zp,?_⟩;intro (gg:aH) _;refine aP [iT] [] [] [1] ⟨oF,ae⟩ zp Gi (Np gg) (let v0:=decide ((0:Int)<=gg.aF/\gg.aF<=(3:Int));((ai gg.aF->(((v0=true)->(ai gg.ar->((decide ((0:Int)<=gg.ar/\gg.ar<=(4:Int)))=(dj gg))))/\((v0=(!true))->false=(dj gg)))))) ?_;refine λ _=>⟨λ _ _=>?_,λ _=>?_⟩;all_goals try and_intros
 all_goals first|rfl|trivial|(simp_all [dj];done)|(simp_all [dj];omega)
def yW(t a:Int)(x:J):Bool:=if x.ah=3 then decide (0<=x.aZ/\x.aZ<=t) else if x.ah=4 then decide (0<=x.aZ/\x.aZ<=a) else decide (x.aZ=0)
def mG(t a:Int)(x:J):oG t a x=(decide (cr x.ah=(x.U.length:Int))&&yW t a x&&(!decide (x.ah=5)||bF (x.U.getD 0 ⟨0,0,[]⟩))):=rfl
def uf(gg:aH)(x:J)(bz depth:Int) :
  (bP (aT gg.aF) (aT gg.ar) x=true/\(aj x:Int)<=bz/\(bI x:Int)<=depth/\FA gg x bz depth=true/\Lx gg x bz depth=bz - aj x) \/
  ((bP (aT gg.aF) (aT gg.ar) x=false\/bz<(aj x:Int)\/depth<(bI x:Int))/\FA gg x bz depth=false/\Lx gg x bz depth=0):=by
 unfold Lx FA;cases bP (aT gg.aF) (aT gg.ar) x
 .right;simp
 .rcases Int.lt_or_le bz (aj x) with h|h
  .right;simp[h,Int.not_le.2 h]
  .rcases Int.lt_or_le depth (bI x) with h'|h'
   .right;simp[h',Int.not_le.2 h']
   .left;simp[h,h']
def lR(n:Nat):aQ:=⟨tT,[.v (.st .sig), .v (.st .expr), .v (.int .i64), .v (.int .i64)],λ (gg:aH) (x:J) (bz:Int) (depth:Int)=>⟨(some (bo x<n/\0<=bz/\bz<=1048576/\0<=depth/\depth<=1048576),[⟨(.int .i64),Lx gg x bz depth⟩,⟨.bool,FA gg x bz depth⟩])⟩⟩
def Bv:aQ:=⟨tT,[.v (.st .sig), .v (.st .expr), .v (.int .i64), .v (.int .i64)],λ (gg:aH) (x:J) (bz:Int) (depth:Int)=>⟨(some (0<=bz/\bz<=1048576/\0<=depth/\depth<=1048576),[⟨(.int .i64),Lx gg x bz depth⟩,⟨.bool,FA gg x bz depth⟩])⟩⟩
def Ni(gg:aH)(x:J)(bz:Int)(depth:Int):Nat->aG:=(dU 100012 (.u (cr x.ah=(x.U.length:Int)/\1<=bz/\1<=depth/\yW (aT gg.aF) (aT gg.ar) x=true) [0,1,14,15,16,17,18,19,20,21,22,23,24,25,26,27,28] [] [] [] (dU 100014 (.u (oG (aT gg.aF) (aT gg.ar) x=true/\1<=bz/\1<=depth) [] [] [] [] (dU 1 (.b (Nat) (λ k=>k<=x.U.length/\dL (bP (aT gg.aF) (aT gg.ar)) (x.U.take k)=true/\1+(cm aj (x.U.take k):Int)<=bz/\1+(gU bI (x.U.take k):Int)<=depth) (λ k=>x.U.length - k) [5,63,64,65] (λ k=>[(68, .aK ⟨(.int .i64),((k:Int):Int)⟩),(2, .aK ⟨(.int .i64),(bz - (1+(cm aj (x.U.take k):Int)):Int)⟩)])) cf)) cf)) cf)
abbrev IV(gg:aH)(x:J)(bz:Int)(depth:Int):Prop:=(∃ u1:Unit,((cr x.ah=(x.U.length:Int)/\1<=bz/\1<=depth/\yW (aT gg.aF) (aT gg.ar) x=true)/\((bz=bz/\(depth=depth/\(gg=gg/\(x=x/\True))))/\True)))
abbrev IW(gg:aH)(x:J)(bz:Int)(depth:Int):Prop:=(∃ u2:Unit,((oG (aT gg.aF) (aT gg.ar) x=true/\1<=bz/\1<=depth)/\((bz=bz/\(depth=depth/\(gg=gg/\(x=x/\True))))/\True)))
abbrev xE(n:Nat)(gg:aH)(x:J)(bz:Int)(depth:Int):Prop:=(let v1:=(x.U.length:Int);let v6:=IV gg x bz depth;let v7:=(0:Int);let v0:=v7=(Lx gg x bz depth)/\false=(FA gg x bz depth);let v8:=(1:Int);let v2:=depth - v8;let v3 := !(decide (v7<=x.aZ/\x.aZ<=(IntKind.wrap .i64 (gg.ar - v8))));let v4 := !(decide (v7<=x.aZ/\x.aZ<=(IntKind.wrap .i64 (gg.aF - v8))));let v9:=aT gg.ar;let va:=IW gg x bz depth;let vb:=aT gg.aF;let v5:=bP vb v9;((ai x.ah ->
 (((decide (x.ah=(3:Int)))=true ->
 (ai x.aZ ->
 (ai gg.aF ->
 (((v4=true) ->
 v0)/\((v4=false) ->
 v6)))))/\((decide (x.ah=(3:Int)))=false ->
 (((decide (x.ah=(4:Int)))=true ->
 (ai x.aZ ->
 (ai gg.ar ->
 (((v3=true) ->
 v0)/\((v3=false) ->
 v6)))))/\((decide (x.ah=(4:Int)))=false ->
 (ai x.aZ ->
 (((!(decide (x.aZ=v7)))=true ->
 v0)/\((!(decide (x.aZ=v7)))=false ->
 v6))))))))/\(∀ u1:Unit,((cr x.ah=v1/\1<=bz/\1<=depth/\yW vb v9 x=true) ->
 ((ai x.ah ->
 (((decide (x.ah=(5:Int)))=true ->
 (x.U.length<=140737488355328 ->
 (av v7 x.U.length/\(((!(bF (x.U.getD 0 zE)))=true ->
 v0)/\((!(bF (x.U.getD 0 zE)))=false ->
 va)))))/\((decide (x.ah=(5:Int)))=(!true) ->
 ((false=true ->
 v0)/\(false=false ->
 va)))))/\(∀ u2:Unit,((oG vb v9 x=true/\1<=bz/\1<=depth) ->
 (ai (bz - v8)/\(x.U.length<=140737488355328 ->
 (ai (v1) ->
 ((∃ k3:Nat,let vc:=x.U.take k3;((k3<=x.U.length/\dL v5 vc=true/\1+(cm aj vc:Int)<=bz/\1+(gU bI vc:Int)<=depth)/\(((bz - v8)=(bz - (1+(cm aj vc:Int)))/\(depth=depth/\(gg=gg/\(x.U=x.U/\((v1)=(v1)/\(v7=(k3:Int)/\True))))))/\True)))/\(∀ k3:Nat,let vd:=bc (x.U.getD k3 zE);let ve:=x.U.take k3;let vc:=bz - (1+(cm aj ve:Int));((k3<=x.U.length/\dL v5 ve=true/\1+(cm aj ve:Int)<=bz/\1+(gU bI ve:Int)<=depth) ->
 (((decide ((k3:Int)<(v1)))=true ->
 (av (k3:Int) x.U.length/\(ai v2/\((bo vd<n/\0<=vc/\vc<=1048576/\0<=v2/\v2<=1048576)/\(ai (Lx gg vd vc v2) ->
 (((!(FA gg vd vc v2))=true ->
 v0)/\((!(FA gg vd vc v2))=false ->
 (ai ((k3:Int)+v8)/\(∃ k4:Nat,let vf:=x.U.take k4;((k4<=x.U.length/\dL v5 vf=true/\1+(cm aj vf:Int)<=bz/\1+(gU bI vf:Int)<=depth)/\(x.U.length - k4<x.U.length - k3/\(((Lx gg vd vc v2)=(bz - (1+(cm aj vf:Int)))/\(depth=depth/\(gg=gg/\(x.U=x.U/\((v1)=(v1)/\(((k3:Int)+v8)=(k4:Int)/\True))))))/\True))))))))))))/\((decide ((k3:Int)<(v1)))=false ->
 (vc=(Lx gg x bz depth)/\true=(FA gg x bz depth)))))))))))))))))
abbrev IX(n:Nat)(gg:aH)(x:J)(bz:Int)(depth:Int):Prop:=(let v0 := !(decide ((cr x.ah)=((x.U.length:Int))));(ai x.ah ->
 (ai (cr x.ah) ->
 (x.U.length<=140737488355328 ->
 (ai ((x.U.length:Int)) ->
 ((v0=true ->
 ((0:Int)=(Lx gg x bz depth)/\false=(FA gg x bz depth)))/\(v0=false ->
 (xE n gg x bz depth))))))))
abbrev IY(n:Nat)(gg:aH)(x:J)(bz:Int)(depth:Int):Prop:=((true=true ->
 ((0:Int)=(Lx gg x bz depth)/\false=(FA gg x bz depth)))/\(true=false ->
 (xE n gg x bz depth)))
def Lr(n:Nat)(hE:bf [lR n,tM,ny,gD]):aQ.Good (lR (n+1)):=by
 refine⟨aB lE,?_⟩;intro (gg:aH) (x:J) (bz:Int) (depth:Int) (hp:bo x<n+1/\0<=bz/\bz<=1048576/\0<=depth/\depth<=1048576);refine aP [lR n,tM,ny,gD] [40,49] [] [4,5] hE lE Ga (Ni gg x bz depth) (let v0:=IX n gg x bz depth;let v1:=IY n gg x bz depth;((((decide (bz=(0:Int)))=false->(((decide (depth=(0:Int)))=false->v0)/\((decide (depth=(0:Int)))=(!false)->v1)))/\((decide (bz=(0:Int)))=(!false)->((true=false->v0)/\(true=(!false)->v1)))))) ?_;have fs:=uf gg x bz depth;rw[iV _ _ x,gv x,EK x] at fs;have f0:=dZ x;have f1:=ya aj x.U;have f2:=ND bI x.U;have f3:=all_zero (bP (aT gg.aF) (aT gg.ar)) x.U;refine⟨λ _=>⟨λ _ _ _ _ _=>⟨λ _=>⟨?_,?_⟩,λ _=>⟨λ _=>⟨λ _ _ _=>⟨λ _=>⟨?_,?_⟩,λ _=>⟨(),?_,⟨rfl,rfl,rfl,rfl,ae⟩,ae⟩⟩,λ _=>⟨λ _ _ _=>⟨λ _=>⟨?_,?_⟩,λ _=>⟨(),?_,⟨rfl,rfl,rfl,rfl,ae⟩,ae⟩⟩,λ _ _=>⟨λ _=>⟨?_,?_⟩,λ _=>⟨(),?_,⟨rfl,rfl,rfl,rfl,ae⟩,ae⟩⟩⟩⟩,λ u1 _=>⟨λ _=>⟨λ _ _=>⟨?_,λ _=>⟨?_,?_⟩,λ _=>⟨(),?_,⟨rfl,rfl,rfl,rfl,ae⟩,ae⟩⟩,λ _=>⟨λ _=>⟨?_,?_⟩,λ _=>⟨(),?_,⟨rfl,rfl,rfl,rfl,ae⟩,ae⟩⟩⟩,λ u2 _=>⟨?_,λ _ _=>⟨⟨0,?_,⟨?_,rfl,rfl,rfl,rfl,?_,ae⟩,ae⟩,λ k3 _=>have T9:=eB (bP (aT gg.aF) (aT gg.ar)) zE x.U k3;have Ua:=e8 (bP (aT gg.aF) (aT gg.ar)) zE x.U k3;have Ub:=eA (bP (aT gg.aF) (aT gg.ar)) x.U k3;have Yb:=bX zE x.U k3;have a3E:=kE aj zE x.U k3;have a3F:=dz aj x.U (k3+1);have a3G:=pQ aj x.U k3;have a3H:=oR bI zE x.U k3;have a3I:=gp bI x.U (k3+1);have a3J:=xQ bI x.U k3;have a1o:=uf gg (x.U.getD k3 zE) (bz - (1+(cm aj (x.U.take k3):Int))) (depth - 1);⟨λ _=>⟨?_,?_,?_,λ _=>⟨λ _=>⟨?_,?_⟩,λ _=>⟨?_,k3+1,?_,?_,⟨?_,rfl,rfl,rfl,rfl,?_,ae⟩,ae⟩⟩⟩,λ _=>⟨?_,?_⟩⟩⟩⟩⟩⟩⟩,λ _=>⟨λ _=>⟨?_,?_⟩,λ _=>⟨λ _=>⟨λ _ _ _=>⟨λ _=>⟨?_,?_⟩,λ _=>⟨(),?_,⟨rfl,rfl,rfl,rfl,ae⟩,ae⟩⟩,λ _=>⟨λ _ _ _=>⟨λ _=>⟨?_,?_⟩,λ _=>⟨(),?_,⟨rfl,rfl,rfl,rfl,ae⟩,ae⟩⟩,λ _ _=>⟨λ _=>⟨?_,?_⟩,λ _=>⟨(),?_,⟨rfl,rfl,rfl,rfl,ae⟩,ae⟩⟩⟩⟩,λ u1 _=>⟨λ _=>⟨λ _ _=>⟨?_,λ _=>⟨?_,?_⟩,λ _=>⟨(),?_,⟨rfl,rfl,rfl,rfl,ae⟩,ae⟩⟩,λ _=>⟨λ _=>⟨?_,?_⟩,λ _=>⟨(),?_,⟨rfl,rfl,rfl,rfl,ae⟩,ae⟩⟩⟩,λ u2 _=>⟨?_,λ _ _=>⟨⟨0,?_,⟨?_,rfl,rfl,rfl,rfl,?_,ae⟩,ae⟩,λ k3 _=>have Yc:=eB (bP (aT gg.aF) (aT gg.ar)) zE x.U k3;have Yd:=e8 (bP (aT gg.aF) (aT gg.ar)) zE x.U k3;have Ye:=eA (bP (aT gg.aF) (aT gg.ar)) x.U k3;have a2p:=bX zE x.U k3;have a5E:=kE aj zE x.U k3;have a5F:=dz aj x.U (k3+1);have a5G:=pQ aj x.U k3;have a5H:=oR bI zE x.U k3;have a5I:=gp bI x.U (k3+1);have a5J:=xQ bI x.U k3;have a3K:=uf gg (x.U.getD k3 zE) (bz - (1+(cm aj (x.U.take k3):Int))) (depth - 1);⟨λ _=>⟨?_,?_,?_,λ _=>⟨λ _=>⟨?_,?_⟩,λ _=>⟨?_,k3+1,?_,?_,⟨?_,rfl,rfl,rfl,rfl,?_,ae⟩,ae⟩⟩⟩,λ _=>⟨?_,?_⟩⟩⟩⟩⟩⟩⟩⟩,λ _=>⟨λ _ _ _ _ _=>⟨λ _=>⟨?_,?_⟩,λ _=>⟨λ _=>⟨λ _ _ _=>⟨λ _=>⟨?_,?_⟩,λ _=>⟨(),?_,⟨rfl,rfl,rfl,rfl,ae⟩,ae⟩⟩,λ _=>⟨λ _ _ _=>⟨λ _=>⟨?_,?_⟩,λ _=>⟨(),?_,⟨rfl,rfl,rfl,rfl,ae⟩,ae⟩⟩,λ _ _=>⟨λ _=>⟨?_,?_⟩,λ _=>⟨(),?_,⟨rfl,rfl,rfl,rfl,ae⟩,ae⟩⟩⟩⟩,λ u1 _=>⟨λ _=>⟨λ _ _=>⟨?_,λ _=>⟨?_,?_⟩,λ _=>⟨(),?_,⟨rfl,rfl,rfl,rfl,ae⟩,ae⟩⟩,λ _=>⟨λ _=>⟨?_,?_⟩,λ _=>⟨(),?_,⟨rfl,rfl,rfl,rfl,ae⟩,ae⟩⟩⟩,λ u2 _=>⟨?_,λ _ _=>⟨⟨0,?_,⟨?_,rfl,rfl,rfl,rfl,?_,ae⟩,ae⟩,λ k3 _=>have T9:=eB (bP (aT gg.aF) (aT gg.ar)) zE x.U k3;have Ua:=e8 (bP (aT gg.aF) (aT gg.ar)) zE x.U k3;have Ub:=eA (bP (aT gg.aF) (aT gg.ar)) x.U k3;have Yb:=bX zE x.U k3;have a3E:=kE aj zE x.U k3;have a3F:=dz aj x.U (k3+1);have a3G:=pQ aj x.U k3;have a3H:=oR bI zE x.U k3;have a3I:=gp bI x.U (k3+1);have a3J:=xQ bI x.U k3;have a1o:=uf gg (x.U.getD k3 zE) (bz - (1+(cm aj (x.U.take k3):Int))) (depth - 1);⟨λ _=>⟨?_,?_,?_,λ _=>⟨λ _=>⟨?_,?_⟩,λ _=>⟨?_,k3+1,?_,?_,⟨?_,rfl,rfl,rfl,rfl,?_,ae⟩,ae⟩⟩⟩,λ _=>⟨?_,?_⟩⟩⟩⟩⟩⟩⟩,λ _=>⟨λ _=>⟨?_,?_⟩,λ _=>⟨λ _=>⟨λ _ _ _=>⟨λ _=>⟨?_,?_⟩,λ _=>⟨(),?_,⟨rfl,rfl,rfl,rfl,ae⟩,ae⟩⟩,λ _=>⟨λ _ _ _=>⟨λ _=>⟨?_,?_⟩,λ _=>⟨(),?_,⟨rfl,rfl,rfl,rfl,ae⟩,ae⟩⟩,λ _ _=>⟨λ _=>⟨?_,?_⟩,λ _=>⟨(),?_,⟨rfl,rfl,rfl,rfl,ae⟩,ae⟩⟩⟩⟩,λ u1 _=>⟨λ _=>⟨λ _ _=>⟨?_,λ _=>⟨?_,?_⟩,λ _=>⟨(),?_,⟨rfl,rfl,rfl,rfl,ae⟩,ae⟩⟩,λ _=>⟨λ _=>⟨?_,?_⟩,λ _=>⟨(),?_,⟨rfl,rfl,rfl,rfl,ae⟩,ae⟩⟩⟩,λ u2 _=>⟨?_,λ _ _=>⟨⟨0,?_,⟨?_,rfl,rfl,rfl,rfl,?_,ae⟩,ae⟩,λ k3 _=>have Yc:=eB (bP (aT gg.aF) (aT gg.ar)) zE x.U k3;have Yd:=e8 (bP (aT gg.aF) (aT gg.ar)) zE x.U k3;have Ye:=eA (bP (aT gg.aF) (aT gg.ar)) x.U k3;have a2p:=bX zE x.U k3;have a5E:=kE aj zE x.U k3;have a5F:=dz aj x.U (k3+1);have a5G:=pQ aj x.U k3;have a5H:=oR bI zE x.U k3;have a5I:=gp bI x.U (k3+1);have a5J:=xQ bI x.U k3;have a3K:=uf gg (x.U.getD k3 zE) (bz - (1+(cm aj (x.U.take k3):Int))) (depth - 1);⟨λ _=>⟨?_,?_,?_,λ _=>⟨λ _=>⟨?_,?_⟩,λ _=>⟨?_,k3+1,?_,?_,⟨?_,rfl,rfl,rfl,rfl,?_,ae⟩,ae⟩⟩⟩,λ _=>⟨?_,?_⟩⟩⟩⟩⟩⟩⟩⟩⟩;all_goals try and_intros
 all_goals try (first|with_reducible rfl|with_reducible assumption)
 all_goals try simp only[J.eta,cW] at *
 all_goals ((try simp only[aT] at *);generalize IntKind.wrap .i64 (gg.aF - 1)=T at *;generalize IntKind.wrap .i64 (gg.ar - 1)=A at *;first|rfl|trivial|(simp only[decide_eq_true_eq,decide_eq_false_iff_not,av,ai] at *;omega)|(rcases fs with ⟨t1,t2,t3,t4,t5⟩|⟨t1,t4,t5⟩<;>(try rw[t4])<;>(try rw[t5])<;>clear t4 t5<;>simp only[decide_eq_true_eq,decide_eq_false_iff_not,mG,yW,Bool.and_eq_true,Bool.and_eq_false_iff,Bool.not_eq_true',Bool.not_eq_false',ai] at *<;>first|rfl|omega|grind|grind [cr]))
def DD :∀ n,bf [lR n]
 | 0=>⟨⟨aB lE,λ _ _ _ _ h=>absurd h.1 (a8X _)⟩,ae⟩
 | n+1=>by
  have ih:=DD  n;exact⟨Lr n ⟨ih.1,GL,uV,nh,ae⟩,ae⟩
def GM :aQ.Good Bv :=
 ⟨aB lE,λ gg x bz depth hp=>(DD  (bo x+1)).1.2 gg x bz depth (⟨a8K _,hp⟩)⟩
def Qi(a n:Int):Bool:=decide (((Int.toNat (Int.fdiv a (2 ^ n.toNat)) &&& Int.toNat 1:Nat):Int)=1)
def O5(k n a:Int)(p q:Bool):Bool:=if k=2 then true else if k=3 then Qi a n else if k=5 then !p else if k=6 then p||q else if k=7 then p&&q else false
mutual
def fL(a:Int):J->Bool
 | ⟨k,n,ks⟩=>O5 k n a ((Ck a ks).getD 0 false) ((Ck a ks).getD 1 false)
def Ck(a:Int):List J->List Bool
 | []=>[]
 | k::ks=>fL a k::Ck a ks
end
def mP(a:Int)(z:J):∀ (xs:List J) (i:Nat),i<xs.length->(Ck a xs).getD i false=fL a (xs.getD i z)
 | [],i,h=>by simp at h
 | x::xs,0,h=>by simp[Ck]
 | x::xs,i+1,h=>by
  have:=mP a z xs i (by simpa using h);simpa [Ck] using this
def Ox(a:Int)(x:J):fL a x=O5 x.ah x.aZ a ((Ck a x.U).getD 0 false) ((Ck a x.U).getD 1 false):=by
 cases x;rfl
def gM(x:J):Bool:=bP 62 62 x&&bF x
def tm(x:J)(i:Nat):Prop:=gM (x.U.getD i ⟨0,0,[]⟩)=true/\bo (x.U.getD i ⟨0,0,[]⟩)<bo x
def Uz(x:J)(h:gM x=true)(i:Nat)(hi:i<x.U.length):tm x i:=by
 unfold tm;simp only[gM,Bool.and_eq_true] at h ⊢;rw[iV,sb] at h;simp only[Bool.and_eq_true] at h;refine⟨⟨Co _ _ _ _ hi h.1.2,Co _ _ _ _ hi h.2.2⟩,?_⟩;have:=bX (⟨0,0,[]⟩:J) x.U i hi;have:=dZ x;omega
def yE(x:J)(h:gM x=true):(x.ah=3->0<=x.aZ/\x.aZ<=62) /\
  (x.ah=5->x.U.length=1/\tm x 0)/\((x.ah=6\/x.ah=7)->x.U.length=2/\tm x 0/\tm x 1) /\
  (x.ah=1\/x.ah=2\/x.ah=3\/x.ah=5\/x.ah=6\/x.ah=7):=by
 have hk:=Uz x h;simp only[gM,a8I] at h;rw[iV,sb,mG] at h;simp only[a8I,a8z] at h;obtain⟨⟨⟨⟨h1,h2⟩,_⟩,_⟩,h5,_⟩:=h;simp only[AT,a9O,a8z] at h5;refine⟨λ e=>?_,λ e=>?_,λ e=>?_,by omega⟩
 .simpa [yW,e] using h2
 .rw[e] at h1;have uw:x.U.length=1:=by simp[cr] at h1;omega
  exact⟨uw,hk 0 (by omega)⟩
 .have uw:x.U.length=2:=by
   rcases e with e|e<;>rw[e] at h1<;>simp[cr] at h1<;>omega
  exact⟨uw,hk 0 (by omega),hk 1 (by omega)⟩
def Kw(a:Int)(x:J)(h:gM x=true):(x.ah=1->fL a x=false)/\(x.ah=2->fL a x=true)/\(x.ah=3->fL a x=Qi a x.aZ) /\
  (x.ah=5->fL a x = !fL a (x.U.getD 0 ⟨0,0,[]⟩))/\(x.ah=6->fL a x=(fL a (x.U.getD 0 ⟨0,0,[]⟩)||fL a (x.U.getD 1 ⟨0,0,[]⟩))) /\
  (x.ah=7->fL a x=(fL a (x.U.getD 0 ⟨0,0,[]⟩)&&fL a (x.U.getD 1 ⟨0,0,[]⟩))):=by
 have hf:=yE x h;rw[Ox];refine⟨λ e=>?_,λ e=>?_,λ e=>?_,λ e=>?_,λ e=>?_,λ e=>?_⟩
 .simp[O5,e]
 .simp[O5,e]
 .simp[O5,e]
 .have:=(hf.2.1 e).1;simp only[O5,e];rw[mP a ⟨0,0,[]⟩ x.U 0 (by omega)];rfl
 .have:=(hf.2.2.1 (.inl e)).1;simp only[O5,e];rw[mP a ⟨0,0,[]⟩ x.U 0 (by omega),mP a ⟨0,0,[]⟩ x.U 1 (by omega)];rfl
 .have:=(hf.2.2.1 (.inr e)).1;simp only[O5,e];rw[mP a ⟨0,0,[]⟩ x.U 0 (by omega),mP a ⟨0,0,[]⟩ x.U 1 (by omega)];rfl
def GB(a n:Int)(h:0<=a/\a<=4096):0<=Int.fdiv a (2 ^ n.toNat)/\Int.fdiv a (2 ^ n.toNat)<=4096:=by
 have e:(2:Int) ^ n.toNat=((2 ^ n.toNat:Nat):Int):=by norm_cast
 have hp:0<2 ^ n.toNat:=Nat.pow_pos (by omega);rw[e,Int.fdiv_eq_ediv_of_nonneg _ (by omega)];refine⟨Int.ediv_nonneg h.1 (by omega),?_⟩;have:=Int.ediv_le_self (2 ^ n.toNat:Nat) h.1;omega
def uZ(n:Int):cH .u64 n=(0<=n/\n<=18446744073709551615):=rfl
theorem yd:IntKind.u64.min=0:=rfl
theorem yc:IntKind.u64.max=18446744073709551615:=rfl
def uY(n:Int):cH .i64 n=ai n:=rfl
def nA(n:Nat):aQ:=⟨wO,[.v (.st .expr), .v (.int .i64)],λ (x:J) (atom:Int)=>⟨(some (bo x<n/\gM x=true/\0<=atom/\atom<=4096),[⟨.bool,fL atom x⟩])⟩⟩
def wL:aQ:=⟨wO,[.v (.st .expr), .v (.int .i64)],λ (x:J) (atom:Int)=>⟨(some (gM x=true/\0<=atom/\atom<=4096),[⟨.bool,fL atom x⟩])⟩⟩
def OS(x:J)(atom:Int):Nat->aG:=cf
abbrev zF(n:Nat)(x:J)(atom:Int):Prop:=(let v0:=x.U.getD 1 zE;(x.U.length<=140737488355328 ->
 (av (1:Int) x.U.length/\((bo v0<n/\gM v0=true/\0<=atom/\atom<=4096)/\(fL atom v0)=(fL atom x)))))
def NT(n:Nat)(hE:bf [nA n]):aQ.Good (nA (n+1)):=by
 refine⟨aB mV,?_⟩;intro (x:J) (atom:Int) (hp:bo x<n+1/\gM x=true/\0<=atom/\atom<=4096);refine aP [nA n] [] [] [2] hE mV Iq (OS x atom) (let v2:=atom.fdiv (2 ^ x.aZ.toNat);let v3:=fL atom x;let v4:=x.U.getD 0 zE;let v0:=bo v4<n/\gM v4=true/\0<=atom/\atom<=4096;let v1:=fL atom v4;let v5:=(0:Int);((ai x.ah->(((decide (x.ah=(2:Int)))=true->true=v3)/\((decide (x.ah=(2:Int)))=false->(((decide (x.ah=(3:Int)))=true->(ai x.aZ->((v5<=x.aZ/\(x.aZ<(64:Int)/\ai v2))/\((v5<=v2/\(v5<=(1:Int)/\(ai v2/\ai (1:Int))))/\(decide ((((v2.toNat &&& (1:Int).toNat:Nat):Int))=(1:Int)))=v3))))/\((decide (x.ah=(3:Int)))=false->(((decide (x.ah=(5:Int)))=true->(x.U.length<=140737488355328->(av v5 x.U.length/\(v0/\(!v1)=v3))))/\((decide (x.ah=(5:Int)))=false->(((decide (x.ah=(6:Int)))=true->(x.U.length<=140737488355328->(av v5 x.U.length/\(v0/\((v1=false->(zF n x atom))/\(v1=(!false)->true=v3))))))/\((decide (x.ah=(6:Int)))=false->(((decide (x.ah=(7:Int)))=true->(x.U.length<=140737488355328->(av v5 x.U.length/\(v0/\((v1=true->(zF n x atom))/\(v1=(!true)->false=v3))))))/\((decide (x.ah=(7:Int)))=false->false=v3))))))))))))) ?_;have f1:=yE x hp.2.1;have f2:=Kw atom x hp.2.1;have f3:=GB atom x.aZ ⟨hp.2.2.1,hp.2.2.2⟩;refine λ _=>⟨λ _=>?_,λ _=>⟨λ _ _=>⟨⟨?_,?_,?_⟩,⟨?_,?_,?_,?_⟩,?_⟩,λ _=>⟨λ _ _=>⟨?_,?_,?_⟩,λ _=>⟨λ _ _=>⟨?_,?_,λ _ _=>⟨?_,?_,?_⟩,λ _=>?_⟩,λ _=>⟨λ _ _=>⟨?_,?_,λ _ _=>⟨?_,?_,?_⟩,λ _=>?_⟩,λ _=>?_⟩⟩⟩⟩⟩;all_goals try and_intros
 all_goals first|rfl|trivial|omega|(simp only[decide_eq_true_eq,decide_eq_false_iff_not,av,ai,uZ,uY,yd,yc] at *;omega)|(simp only[tm] at *;grind [av,ai,Qi,yd,yc])
def F1 :∀ n,bf [nA n]
 | 0=>⟨⟨aB mV,λ _ _ h=>absurd h.1 (a8X _)⟩,ae⟩
 | n+1=>by
  have ih:=F1  n;exact⟨NT n ⟨ih.1,ae⟩,ae⟩
def IE :aQ.Good wL :=
 ⟨aB mV,λ x atom hp=>(F1  (bo x+1)).1.2 x atom (⟨a8K _,hp⟩)⟩
def kv(n:Nat):aQ:=⟨qZ,[.r (.st .expr), .v (.int .i64)],λ (x:J) (atom:Int)=>⟨(some (bo x<n/\gM x=true/\0<=atom/\atom<=4096),[⟨.bool,fL atom x⟩])⟩⟩
def qN:aQ:=⟨qZ,[.r (.st .expr), .v (.int .i64)],λ (x:J) (atom:Int)=>⟨(some (gM x=true/\0<=atom/\atom<=4096),[⟨.bool,fL atom x⟩])⟩⟩
def Lb(x:J)(atom:Int):Nat->aG:=cf
abbrev vD(n:Nat)(x:J)(atom:Int):Prop:=(let v0:=x.U.getD 1 zE;(x.U.length<=140737488355328 ->
 (av (1:Int) x.U.length/\((bo v0<n/\gM v0=true/\0<=atom/\atom<=4096)/\(fL atom v0)=(fL atom x)))))
def Ju(n:Nat)(hE:bf [kv n]):aQ.Good (kv (n+1)):=by
 refine⟨aB jY,?_⟩;intro (x:J) (atom:Int) (hp:bo x<n+1/\gM x=true/\0<=atom/\atom<=4096);refine aP [kv n] [] [] [] hE jY EB (Lb x atom) (let v2:=atom.fdiv (2 ^ x.aZ.toNat);let v3:=fL atom x;let v4:=x.U.getD 0 zE;let v0:=bo v4<n/\gM v4=true/\0<=atom/\atom<=4096;let v1:=fL atom v4;let v5:=(1:Int);let v6:=(0:Int);((ai x.ah->(((decide (x.ah=v5))=true->false=v3)/\((decide (x.ah=v5))=false->(((decide (x.ah=(2:Int)))=true->true=v3)/\((decide (x.ah=(2:Int)))=false->(((decide (x.ah=(3:Int)))=true->(ai x.aZ->(cH .u64 x.aZ/\((v6<=x.aZ/\(x.aZ<(64:Int)/\ai v2))/\((v6<=v2/\(v6<=v5/\(ai v2/\ai v5)))/\(decide ((((v2.toNat &&& v5.toNat:Nat):Int))=v5))=v3)))))/\((decide (x.ah=(3:Int)))=false->(((decide (x.ah=(5:Int)))=true->(x.U.length<=140737488355328->(av v6 x.U.length/\(v0/\(!v1)=v3))))/\((decide (x.ah=(5:Int)))=false->(((decide (x.ah=(6:Int)))=true->(x.U.length<=140737488355328->(av v6 x.U.length/\(v0/\((v1=false->(vD n x atom))/\(v1=(!false)->true=v3))))))/\((decide (x.ah=(6:Int)))=false->(x.U.length<=140737488355328->(av v6 x.U.length/\(v0/\((v1=true->(vD n x atom))/\(v1=(!true)->false=v3)))))))))))))))))) ?_;have f1:=yE x hp.2.1;have f2:=Kw atom x hp.2.1;have f3:=GB atom x.aZ ⟨hp.2.2.1,hp.2.2.2⟩;refine λ _=>⟨λ _=>?_,λ _=>⟨λ _=>?_,λ _=>⟨λ _ _=>⟨?_,⟨?_,?_,?_⟩,⟨?_,?_,?_,?_⟩,?_⟩,λ _=>⟨λ _ _=>⟨?_,?_,?_⟩,λ _=>⟨λ _ _=>⟨?_,?_,λ _ _=>⟨?_,?_,?_⟩,λ _=>?_⟩,λ _ _=>⟨?_,?_,λ _ _=>⟨?_,?_,?_⟩,λ _=>?_⟩⟩⟩⟩⟩⟩;all_goals try and_intros
 all_goals first|rfl|trivial|omega|(simp only[decide_eq_true_eq,decide_eq_false_iff_not,av,ai,uZ,uY,yd,yc] at *;omega)|(simp only[tm] at *;grind [av,ai,Qi,yd,yc])
def F2 :∀ n,bf [kv n]
 | 0=>⟨⟨aB jY,λ _ _ h=>absurd h.1 (a8X _)⟩,ae⟩
 | n+1=>by
  have ih:=F2  n;exact⟨Ju n ⟨ih.1,ae⟩,ae⟩
def EZ :aQ.Good qN :=
 ⟨aB jY,λ x atom hp=>(F2  (bo x+1)).1.2 x atom (⟨a8K _,hp⟩)⟩
end
end Go.Proofs.YtncejbehidimmaaGreatDoor

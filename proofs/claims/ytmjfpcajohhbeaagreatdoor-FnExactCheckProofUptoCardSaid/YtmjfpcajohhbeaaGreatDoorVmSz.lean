/- VmMix, VmDraw4, VmGuard, VmCode, VmFun, VmOwnFun, VmStFun, VmTab, VmNew, VmUse, VmOpen, VmRow, VmLib, VmSz. -/
import Derived.Test.YtmjfpcajohhbeaaGreatDoorVmFrz
import Derived.Deep.LoopGhost
import Derived.Test.YtmjfpcajohhbeaaGreatDoorChecked
import Derived.WalkKit
import Derived.Deep.QuietTactic
import Derived.BigQuiet
import Derived.LoopTactic
import Derived.Test.YtmjfpcajohhbeaaGreatDoorRows
import Derived.ProofKit
import Derived.OpenShut
import Derived.JoinedCond
import Derived.Carry
import Derived.ChangeSame
import Derived.Shelf.Vars
set_option linter.all false
namespace Go.Proofs.YtmjfpcajohhbeaaGreatDoor
def b2s:=@List.map_congr_left
def b1f:=@List.not_mem_nil
def b2k:=@or_false
def b1W:=@forall_eq_or_imp
def a9S:=@Array.getElem?_eq_none
def a8q:=@decide_eq_false_iff_not
def a9T:=@List.mem_filterMap
def b1H:=@List.foldl_nil
def b1C:=@Nat.blt_eq
def b1w:=@Bool.eq_false_iff
def a9l:=@true_and
def b1X:=@List.filter_cons
def b0a:=@List.mem_of_mem_erase
def b2l:=@List.perm_cons_erase
def b1g:=@List.Sublist.map
def b1I:=@List.erase_sublist
def b0L:=@List.mem_erase_of_ne
def b1Y:=@Option.isSome_iff_exists
def b2m:=@Bool.or_eq_false_iff
def a8v:=@Bool.not_false
def a9B:=@Bool.true_and
def b2t:=@List.filter_sublist
def a8x:=@Bool.not_true
def b2p:=@Bool.false_or
def b1T:=@Go.wp_mono
def b2h:=@Array.getElem?_toList
def b2y:=@Go.calls_of_wp
def b0M:=@Array.mapM_eq_mapM_toList
def b2c:=@Go.Sem.run_map
def b0Y:=@Bool.and_assoc
def a9L:=@Bool.false_and
def b1K:=@List.take_nil
def b1E:=@List.map_eq_nil_iff
def a8D:=@decide_eq_false
def a9P:=@Bool.and_false
def a8W:=@decide_eq_true
def b1h:=@Bool.and_eq_true_iff
def b0o:=@List.replicate_succ
def a9p:=@Nat.not_lt_zero
def a9h:=@Nat.lt_succ_self
theorem yl{α β:Type}{f g:α->β}{l:Array α}(h:∀ x∈l.toList,f x=g x):l.map f=l.map g:=by
 apply b2i
 rw[b0q,b0q]
 exact b2s h
theorem execOp_congr{o:Oper}{ρ ZS:Operand->Value}{l:List Operand}(h:WK o.op=some l)(he:∀ x∈l,ρ x=ZS x):execOp ρ o=execOp ZS o:=by
 have parts:∀ ps:Array (Nat×Operand),l=ps.toList.map (·.2)->(ps.map λ (i,x)=>(i,ρ x))=ps.map λ (i,x)=>(i,ZS x):=λ ps hl=>yl λ x hx=>by
  obtain⟨i,x⟩:=x
  simp only
  rw[he x (by rw[hl];exact a8A.2 ⟨(i,x),hx,rfl⟩)]
 unfold WK at h
 split at h
 case h_21=>cases h
 case h_20 T x l hh m bE =>
  simp only[a8o] at h
  subst h
  have key:∀ q:Option Operand,(∀ y∈q.toList,ρ y=ZS y)->q.map ρ=q.map ZS:=λ q hq=>by
   cases q with
   | none=>rfl
   | some y=>rw[b1n,b1n,hq y (by simp)]
  simp only[execOp,bE,he x (by simp),key l (λ y hy=>he y (by simp at hy;simp[hy])),key hh (λ y hy=>he y (by simp at hy;simp[hy])),key m (λ y hy=>he y (by simp at hy;simp[hy]))]
 case h_18 c bE =>
  split at h
  case h_3=>cases h
  case h_1 f hc =>
   simp only[a8o] at h
   subst h
   have ha:c.args.map ρ=c.args.map ZS:=yl λ x hx=>he x (by simp[hx])
   simp only[execOp,bE,resolve,hc,ha,he f (by simp)]
  case h_2 b hc =>
   simp only[a8o] at h
   subst h
   have ha:c.args.map ρ=c.args.map ZS:=yl λ x hx=>he x hx
   simp only[execOp,bE,resolve,hc,ha]
 all_goals
  rename_i bE
  simp only[a8o] at h
  first
   | (have:=parts _ h.symm;simp only[execOp,bE,this];done)
   | (subst h;simp only[execOp,bE];done)
   | (subst h;simp only[execOp,bE,b1B];done)
   | (subst h;simp only[a8I,b1f,b2k,b1W,forall_eq] at he;simp only[execOp,bE,he];done)
   | (subst h;simp only[a8I,b1f,b2k,b1W,forall_eq] at he;simp only[execOp,bE,he.1,he.2];done)
   | (subst h;simp only[a8I,b1f,b2k,b1W,forall_eq] at he;simp only[execOp,bE,he.1,he.2.1,he.2.2];done)
theorem Ys{u v:TV}(h:yR u v):u=v:=by
 unfold yR at h
 split at h
 .rename_i x hx
  have:=TV.aY hx
  rw[this,h]
 .exact h.elim
theorem PW{v u:AV}(h:Lw v u):v=u:=by
 unfold Lw at h
 split at h
 .rw[Ys h]
 .rw[Ys h]
 .rw[h]
 .rw[h]
 .rw[h.1,h.2]
 .rfl
 .rfl
 .exact h.elim
theorem GZ{c:Ctx}{G:Gh}{lk:Nat->Option aB}{a:Act}{w:World}{o:Oper}{v:AV}{x:Value}(hr:(execOp a.eval o).run c.P w = .ok (.value x) w)(hv:VR c G lk w v x) :
  ∃ x,(execOp a.eval o).run c.P w = .ok (.value x) w/\VR c G lk w v x:=⟨x,hr,hv⟩
theorem ZG{c:Ctx}{G:Gh}{sl:Nat->AV}{n:Nat}{lk:Nat->Option aB}{a:Act}{w:World}(hE:bP c.P c.E)(hI:bz c G sl n lk a w){lk':Nat->Option aB}(cG:∀ id o,lk' id=some o->lk id=some o){ev:Operand->AV}(dc:∀ x,VR c G lk w (ev x) (a.eval x))
  {o:Oper} {vc:Vc} {v:AV} {ob:Option aB} (hq:K3 c.E lk' ev o=some (vc,v,ob)) (fk:vc.ok) (Wp:reads o.op=true) :
  ∃ x,(execOp a.eval o).run c.P w = .ok (.value x) w/\VR c G lk w v x:=by
 unfold K3 at hq
 split at hq
 case h_1 x bE =>
  simp only[a8o,a8u] at hq
  obtain⟨rfl,rfl,rfl⟩:=hq
  exact GZ (by simp[execOp,bE]) (dc x)
 case h_8 T ad bE =>
  split at hq
  .rename_i τ r hT
   split at hq
   .rename_i u hu
    simp only[a8o,a8u] at hq
    obtain⟨rfl,rfl,rfl⟩:=hq
    obtain⟨b,o',cs,h1,h2,h3,h4⟩:=s5 hI.aK cG hu (dc ad)
    refine GZ ?_ h4
    simp only[execOp,bE,h1,a8Y,pt hE hT h2 h3,a8Q,a8Z]
   .cases hq
  .cases hq
 case h_9 x bE =>
  have key:∀ u,ev x=u->(∃ b o,a.eval x = .pointer (some ⟨b,o,none⟩))->vc = .none->v=u->ob=none->∃ x,(execOp a.eval o).run c.P w = .ok (.value x) w/\VR c G lk w v x:=by
   rintro u hu ⟨b,o',hx⟩ _ rfl rfl
   refine GZ (x:=a.eval x) ?_ (hu ▸ dc x)
   simp only[execOp,bE,hx,a8Z]
  have hx:=dc x
  split at hq
  .rename_i u hu
   simp only[a8o,a8u] at hq
   rw[hu] at hx
   obtain⟨b,o',cs,h1,_⟩:=hx
   exact key _ hu ⟨b,o',h1⟩ hq.1.symm hq.2.1.symm hq.2.2.symm
  .rename_i id off hu
   simp only[a8o,a8u] at hq
   rw[hu] at hx
   obtain⟨b,_,h1,_⟩:=hx
   exact key _ hu ⟨b,off,h1⟩ hq.1.symm hq.2.1.symm hq.2.2.symm
  .rename_i id i off hu
   simp only[a8o,a8u] at hq
   rw[hu] at hx
   obtain⟨b,_,_,_,_,_,_,_,_,h1⟩:=hx
   exact key _ hu ⟨b,_,h1⟩ hq.1.symm hq.2.1.symm hq.2.2.symm
  .cases hq
 case h_10 T x i bE =>
  split at hq
  .rename_i s r hT
   have hx:=dc x
   split at hq
   .rename_i u hu
    rw[hu] at hx
    split at hq
    .rename_i y hy
     have e:=TV.aY hy
     subst e
     split at hq
     .rename_i f hf
      simp only[a8o,a8u] at hq
      obtain⟨rfl,rfl,rfl⟩:=hq
      obtain⟨b,o',cs,h1,h2,h3,h4⟩:=hx
      have bS:i<s.ic.length:=by
       have:=(a9g.1 hf).1
       rw[<-aS.zN s y,a8R];exact this
      refine GZ (x := .pointer (some ⟨b,o'+s.gq i,none⟩)) ?_ ?_
      .simp only[execOp,bE,h1,a8Y,nx hE hT bS,a8Q,a8Z]
      .refine⟨b,o'+s.gq i,(cs.drop (s.gq i)).take f.τ.size,rfl,h2,h3.part _ _,?_⟩
       exact F1 hf h4
     .cases hq
    .cases hq
   .rename_i id off hu
    rw[hu] at hx
    split at hq
    .rename_i bS
     simp only[a8o,a8u] at hq
     obtain⟨rfl,rfl,rfl⟩:=hq
     have bS:i<s.ic.length:=by simpa [Nat.blt_eq] using bS
     obtain⟨b,h1,h2,h3⟩:=hx
     refine GZ (x := .pointer (some ⟨b,off+s.gq i,none⟩)) ?_ ⟨b,h1,rfl,h3⟩
     simp only[execOp,bE,h2,a8Y,nx hE hT bS,a8Q,a8Z]
    .cases hq
   .rename_i id k off hu
    rw[hu] at hx
    split at hq
    .rename_i bS
     simp only[a8o,a8u] at hq
     obtain⟨rfl,rfl,rfl⟩:=hq
     have bS:i<s.ic.length:=by simpa [Nat.blt_eq] using bS
     obtain⟨b,m,cap,e,τ,xs,h1,h2,h3,h4⟩:=hx
     refine GZ (x := .pointer (some ⟨b,k * τ.size+(off+s.gq i),none⟩)) ?_ ⟨b,m,cap,e,τ,xs,h1,h2,h3,rfl⟩
     simp only[execOp,bE,h4,a8Y,nx hE hT bS,a8Q,a8Z,b1j]
    .cases hq
   .cases hq
  .cases hq
 case h_12 T x ix bE =>
  split at hq
  .rename_i τ r hT
   split at hq
   .rename_i k i hi
    have vQ:=dc ix
    rw[hi] at vQ
    obtain⟨vQ,_⟩:=vQ
    simp only[a8z,a8F] at vQ
    have hx:=dc x
    split at hq
    .rename_i u hu
     rw[hu] at hx
     split at hq
     .rename_i xs ot
      have e:=TV.aY ot
      subst e
      simp only[a8o,a8u] at hq
      obtain⟨rfl,rfl,rfl⟩:=hq
      obtain⟨h0,h1⟩:=fk
      obtain⟨ad,cap,h2,h3,h4,h5⟩:=mY hx
      rcases h5 with h5|⟨b,o',h5,h6,h7⟩
      .subst h5
       simp only[a8N] at h1
       omega
      .subst h5
       have bS:i.toNat<xs.length:=by omega
       obtain⟨cs,m1,m2,m3⟩:=dL.at_ (n:=τ.size) _ b o' h7 (by
        intro d hd
        obtain⟨y,_,rfl⟩:=a8A.1 hd
        exact Ty.cT τ y) i.toNat (τ.aR (xs.getD i.toNat τ.zero)) (by simp[List.getD,bS])
       refine GZ (x := .pointer (some ⟨b,o'+i.toNat * τ.size,none⟩)) ?_ ⟨b,_,cs,rfl, .inl h6,m3,m2⟩
       simp only[execOp,bE,h2,vQ,a8Y,tm hE hT h0 h1,a8Q,a8Z]
     .cases hq
    .rename_i id hu
     rw[hu] at hx
     split at hq
     .rename_i e' bo xs hl
      split at hq
      .rename_i l8
       have l8:=a9e l8
       subst l8
       simp only[a8o,a8u] at hq
       obtain⟨rfl,rfl,rfl⟩:=hq
       obtain⟨h0,h1⟩:=fk
       obtain⟨h2,_,_⟩:=hx
       have wY:=cG _ _ hl
       obtain⟨l,m1,_,_⟩:=hI.aK _ _ wY
       have bS:i.toNat<xs.length:=by omega
       rcases m1.2 with ⟨_,hn⟩|⟨g,cap,cur,hv,_⟩
       .omega
       .refine GZ (x := .pointer (some ⟨g,0+i.toNat * bo.size,none⟩)) ?_ ⟨g,_,cap,e',bo,xs,hv,wY,bS,by simp⟩
        simp only[execOp,bE,h2,hv,vQ,a8Y,tm hE hT h0 h1,a8Q,a8Z]
      .cases hq
     .cases hq
    .cases hq
   .cases hq
  .cases hq
 case h_24=>cases hq
 all_goals
  rename_i bE
  rw[bE] at Wp
  cases Wp
theorem TD{c:Ctx}{G:Gh}{s:ah}{a:Act}{w:World}(hE:bP c.P c.E)(h:Inv c G s a w){o:Oper}{vc:Vc}{v:AV}(hq:rop c.E s o=some (vc,v))(fk:vc.ok) :
  ∃ x,(execOp a.eval o).run c.P w = .ok (.value x) w/\VR c G s.af w v x:=by
 unfold rop at hq
 split at hq
 .rename_i hr
  split at hq
  .rename_i vc' v' Um
   simp only[a8o,a8u] at hq
   obtain⟨rfl,rfl⟩:=hq
   exact ZG hE h (λ _ _ h=>h) (bC h) Um fk hr
  .cases hq
 .cases hq
theorem PX:∀ {v u:List AV},RU v u->v=u
 | [],[],_=>rfl
 | a::Z9,b::bs,h=>by rw[PW h.1,PX h.2]
 | [],_::_,h=>h.elim
 | _::_,[],h=>h.elim
theorem YF{v u:AV}(h:VU v u):v=u:=by
 unfold VU at h
 split at h
 .rw[PX h]
 .exact PW h
structure p8(D:List Nat)(a b:Act):Prop where
 size:a.tmps.size=b.tmps.size
 da:a.defers=[]
 db:b.defers=[]
 at':∀ t,t∉D->a.tmps.getD t undef=b.tmps.getD t undef
theorem p8.put{D D':List Nat}{a b:Act}(h:p8 D a b){d:Option Nat}{x:Value}(hD:∀ t,t∈D->t∉D'->d=some t):p8 D' (a.put d x) (b.put d x) where
 size:=by cases d<;>simp[Act.put,h.size]
 da:=by cases d<;>exact h.da
 db:=by cases d<;>exact h.db
 at' t ht:=by
  rw[eM,eM,h.size]
  by_cases hd:d=some t
  .by_cases hl:t<b.tmps.size
   .rw[a8O ⟨hd,hl⟩,a8O ⟨hd,hl⟩]
   .rw[a8y (λ q=>hl q.2),a8y (λ q=>hl q.2)]
    have h1:a.tmps.getD t undef=undef:=by rw[a9n,a9S (by rw[h.size];omega)];rfl
    have h2:b.tmps.getD t undef=undef:=by rw[a9n,a9S (by omega)];rfl
    rw[h1,h2]
  .rw[a8y (λ q=>hd q.1),a8y (λ q=>hd q.1)]
   refine h.at' t λ hm=>hd (hD t hm ht)
theorem p8.exec{D:List Nat}{a b:Act}(h:p8 D a b){o:Oper}(hu:iq D o=true):execOp a.eval o=execOp b.eval o:=by
 unfold iq at hu
 split at hu
 .rename_i l hl
  rw[a9a] at hu
  refine execOp_congr hl λ x hx=>?_
  have:=hu x hx
  cases x with
  | tmp t=>exact h.at' t (by simpa using this)
  | _=>rfl
 .cases hu
theorem pV{D D':List Nat}{o:Oper}(h:iq D o=true)(hs:∀ t∈D',t∈D):iq D' o=true:=by
 unfold iq at h ⊢
 split at h
 .rename_i l hl
  rw[a9a] at h ⊢
  intro x hx
  have:=h x hx
  cases x with
  | tmp t =>
   simp only[a8J,List.contains_eq_mem,a8q] at this ⊢
   exact λ q=>this (hs t q)
  | _=>rfl
 .cases h
section
variable {c:Ctx} {G:Gh} {s:ah} {a:Act} {w w':World}
theorem a1y{P:Program}{o:Oper}{b:Act}{N N':Act->World->Prop}{Q:Exit->Act->World->Prop}(he:execOp a.eval o=execOp b.eval o)(hN:∀ x w',N (b.put o.dst x) w'->N' (a.put o.dst x) w')
  (hd:∀ b' w',N b' w'->b'.defers=[]) (h:o.wp P b w N (λ _ _ _=>False)):o.wp P a w N' Q:=by
 unfold Oper.wp at *
 rw[he]
 generalize (execOp b.eval o).run P w=r at *
 cases r with
 | ok n w' =>
  cases n<;>simp only[Oper.upon] at h ⊢
  case value v=>exact hN _ _ h
  case skip=>exact hN _ _ h
  case defer d =>
   have:=hd _ _ h
   cases hh:o.dst<;>simp[Act.put,hh] at this
  case enter f args=>exact Calls.mono h (λ e w'' q=>by cases e<;>first|exact hN _ _ q|exact q.elim λ _ q=>q.elim λ _ q=>q.elim|exact q.elim)
  case row r args=>exact Rows.mono h (λ _ _ q=>hN _ _ q)
 | halt x w'=>cases x<;>simp only[Oper.upon] at h ⊢
theorem exists_least{p:Nat->Prop}:∀ n,p n->∃ k,p k/\∀ j,j<k->¬ p j:=by
 intro n
 induction n using Nat.strongRecOn with
 | _ n ih =>
  intro h
  by_cases hq:∃ j,j<n/\p j
  .obtain⟨j,h1,h2⟩:=hq
   exact ih j h1 h2
  .exact⟨n,h,λ j hj hp=>hq ⟨j,hj,hp⟩⟩
theorem p8.eq{a b:Act}(h:p8 [] a b):a=b:=by
 obtain⟨ta,da⟩:=a
 obtain⟨tb,db⟩:=b
 obtain⟨h1,h2,h3,h4⟩:=h
 simp only at h1 h2 h3 h4
 subst h2 h3
 congr 1
 apply Array.ext h1
 intro i hi hj
 have:=h4 i (by simp)
 simpa [Array.getD_eq_getD_getElem?,Array.getElem?_eq_getElem hi,Array.getElem?_eq_getElem hj] using this
theorem iS{R:List (Nat×Oper)}{t:Nat}:t∈dstsOf R↔∃ r∈R,r.2.dst=some t:=by
 simp[dstsOf,a9T]
theorem a1m(h:Inv c G s a w){d:Nat}{x:Value}(hv:VR c G s.af w (s.aC.getD d .any) x):Inv c G s (a.put (some d) x) w:=by
 have:=bz.put (d:=some d) h hv
 unfold Inv
 have e:mZ s.aC.length s.sl (some d) (s.aC.getD d .any)=s.sl:=by
  funext i
  unfold mZ
  split
  .rename_i hi
   obtain⟨h1,_⟩:=hi
   simp only[a8o] at h1
   subst h1
   rfl
  .rfl
 rwa [e] at this
theorem n7{E:Env}{K:Prop}:∀ {R:List (Nat×Oper)},jL E R s K->(∀ r∈R,∃ d vc,r.2.dst=some d/\rop E s r.2=some (vc,s.aC.getD d .any)/\Vc.ok vc)/\K
 | [],h=>⟨by simp,h⟩
 | r::rs,h=>by
  simp only[jL] at h
  split at h
  .rename_i d vc v hd hr
   have h1:=Vc.nf h
   obtain⟨k1,k2⟩:=n7 h1.2.2
   refine⟨λ q hq=>?_,k2⟩
   rcases a8I.1 hq with rfl|hq
   .exact⟨d,vc,hd,by rw[hr,YF h1.2.1],h1.1⟩
   .exact k1 q hq
  .exact h.elim
theorem Qg(hE:bP c.P c.E){K:ah->Prop}:∀ {R:List (Nat×Oper)} {s:ah} {a:Act},Inv c G s a w->Lx c.E R K s->∃ t b,Inv c G t b w/\p8 (dstsOf R) a b/\K t
 | [],s,a,hI,h=>⟨s,a,hI,⟨rfl,hI.defers,hI.defers,λ _ _=>rfl⟩,h⟩
 | r::rs,s,a,hI,h=>by
  simp only[Lx] at h
  split at h
  .rename_i d vc v hd hr
   have h1:=Vc.nf h
   obtain⟨x,_,hx⟩:=TD hE hI hr h1.1
   obtain⟨t,b,k1,k2,k3⟩:=Qg hE (Inv.put (d:=some d) hI hx) (HA hx h1.2)
   refine⟨t,b,k1,⟨by rw[<-k2.size];simp[Act.put],hI.defers,k2.db,λ i hi=>?_⟩,k3⟩
   have fG:d≠i:=λ e=>hi (iS.2 ⟨r,by simp,by rw[hd,e]⟩)
   rw[<-k2.at' i λ hm=>hi (by
    obtain⟨q,hq,hqd⟩:=iS.1 hm
    exact iS.2 ⟨q,by simp[hq],hqd⟩),eM,if_neg (λ q=>fG (by simpa using q.1))]
  .exact h.elim
theorem WN{E:Env}{o:Oper}{K:ah->Prop}{T:TypeId}{d:Nat}{τ:Ty}{r:Nat×Nat}(bE:o.op = .alloc T)(hd:o.dst=some d)(hT:af E.ty T=some (τ,r)) :
  oC E o K s↔(d<400000/\K (s.lay (some d) (.ptr d 0) (some (.box (zeroCells τ))))):=by
 have h1:om E s o=[]:=by
  unfold om
  rw[bE]
  split<;>rfl
 have h2:VW E s o=none:=by
  unfold VW
  rw[hd,bE]
  simp only
  split<;>rfl
 have h3:V1 E s o=none:=by unfold V1;rw[bE]
 have h4:WJ E s o=none:=by unfold WJ;rw[bE]
 obtain⟨r1,r2⟩:=r
 have h5:K3 E s.af s.eval o=some (.none, .ptr d 0,some (.box (zeroCells τ))):=by
  unfold K3
  rw[bE]
  simp only[hd,hT]
 unfold oC
 have h6:WQ E s o=none:=by unfold WQ;rw[hd,bE]
 have h7:WH E s o=none:=by unfold WH;rw[bE]
 simp only[h1,b1H,h6,h2,h3,h4,h7,h5,Vc.and,bE,TX,hd,vL]
 cases hb:Nat.blt d 400000 with
 | true=>simp only[b1C] at hb;simp[hb]
 | false=>simp only[b1w,ne_eq,b1C] at hb;simp[hb]
structure PE where
 i:Nat
 d:Nat
 x:Value
 b:Nat
 cs:List AV
noncomputable instance:DecidableEq PE:=λ _ _=>Classical.propDecidable _
structure CV(c:Ctx)(G:Gh)(lk:Nat->Option aB)(X:List (Nat×Oper))(a:Act)(w:World)(p:PE):Prop where
 ex:∃ o T τ r,(p.i,o)∈X/\o.op = .alloc T/\o.dst=some p.d/\af c.E.ty T=some (τ,r)/\p.cs=zeroCells τ
 val:a.tmps.getD p.d undef=if p.d<a.tmps.size then p.x else undef
 ptr:p.x = .pointer (some ⟨p.b,0,none⟩)
 lt:p.d<400000
 new:∃ l t,w.heap[p.b]?=some (.cells l.toArray t (0,0))/\∀ (c:Ctx) (G:Gh) (lk:Nat->Option aB) (w:World),aT (C1 c G lk w) p.cs l
 fr:xu c G lk w p.b
theorem CV.put{lk:Nat->Option aB}{X:List (Nat×Oper)}{p:PE}(h:CV c G lk X a w p){d:Option Nat}{x:Value}(hd:d≠some p.d):CV c G lk X (a.put d x) w p :=
 ⟨h.ex,by rw[eM,a8y (λ q=>hd q.1),jw];exact h.val,h.ptr,h.lt,h.new,h.fr⟩
theorem Yy(h:Inv c G s a w){p:PE}{X:List (Nat×Oper)}{a2:Act}(hp:CV c G s.af X a2 w p) :
  Inv c ⟨G.S,λ i=>if i=p.d then p.x else G.η i,G.φ⟩ (s.lay (some p.d) (.ptr p.d 0) (some (.box p.cs))) (a.put (some p.d) p.x) w:=by
 obtain⟨l,t,h1,h2⟩:=hp.new
 refine Inv.a0j h hp.lt ⟨p.b,l,t,hp.ptr,h1,h2 _ _ _ _⟩ ⟨_,rfl,rfl⟩ λ b hb=>?_
 rw[hp.ptr] at hb
 simp only[eV,a8o] at hb
 subst hb
 obtain⟨q1,q2,q3,q4,q5⟩:=hp.fr
 exact⟨q1,q2,q3,λ i o' _ ho=>q4 i o' ho,q5⟩
theorem Yx{p:PE}{X:List (Nat×Oper)}{a2:Act}(hp:CV c G s.af X a2 w p){b:Nat}(hb:xu c G s.af w b)(fG:b≠p.b) :
  xu c ⟨G.S,λ i=>if i=p.d then p.x else G.η i,G.φ⟩ (s.lay (some p.d) (.ptr p.d 0) (some (.box p.cs))).af w b:=by
 have cG:(s.lay (some p.d) (.ptr p.d 0) (some (.box p.cs))).af=λ i=>if i=p.d then some ((aB.box p.cs).kill p.d) else (if i=p.d then none else (s.cm p.d).af i):=by
  funext i
  show af ((p.d,(aB.box p.cs).kill p.d)::bW p.d (s.cm p.d).aK) i=_
  rw[dP,eZ]
  rfl
 obtain⟨q1,q2,q3,q4,q5⟩:=hb
 rw[cG]
 refine⟨q1,q2,q3,λ i o ho e=>?_,λ j τ xs hj rn=>?_⟩
 .by_cases hi:i=p.d
  .simp only[a8O hi] at e
   rw[hp.ptr] at e
   simp only[eV,a8o] at e
   exact fG e.symm
  .simp only[a8y hi] at e ho
   rw[eE] at ho
   simp only[a9m] at ho
   obtain⟨o',cQ,_⟩:=ho
   exact q4 i o' cQ e
 .by_cases hi:j=p.d
  .simp only[a8O hi] at hj
   cases hj
  .simp only[a8y hi] at hj
   rw[eE] at hj
   exact q5 j τ xs (mJ hj) rn
theorem VZ(hE:bP c.P c.E)(h:Inv c G s a w){a2:Act}{o:Oper}{T:TypeId}{d i:Nat}{τ:Ty}{r:Nat×Nat}(bE:o.op = .alloc T)(hd:o.dst=some d)(hT:af c.E.ty T=some (τ,r))(KD:d<400000){X:List (Nat×Oper)}(hX:(i,o)∈X) :
  ∃ w' p,p.i=i/\p.d=d/\p.b=w.heap.size/\(execOp a2.eval o).run c.P w = .ok (.value p.x) w'/\Inv c G s a w'/\CV c G s.af X (a2.put (some d) p.x) w' p/\bN (λ _=>False) w w':=by
 obtain⟨r1,r2⟩:=r
 obtain⟨inf,z,h1,h2,h3,h4⟩:=(hE.info hT).ex
 refine⟨w.alloc (.cells z.cells T),⟨i,d, .pointer (some ⟨w.heap.size,0,none⟩),w.heap.size,zeroCells τ⟩,rfl,rfl,rfl,?_,h.alloc _,?_,iN w _⟩
 .simp[execOp,bE,Instr.alloc,zeroValue,typeInfo,h1,h3,newVar,newRow]
 .refine⟨⟨o,T,τ,_,hX,bE,hd,hT,rfl⟩,?_,rfl,KD,⟨z.cells.toList,T,by simpa using heap_alloc_new w _,λ _ _ _ _=>n8 h4⟩,?_⟩
  .simp only[eM,jw,a9l]
   split
   .rfl
   .rename_i bS
    first|rfl|(rw[a9n,a9S (by omega)];rfl)
  .refine⟨.inl h.aU.size,λ q=>by have:=h.ez _ q;simp only at this;omega,by simp,λ j o' hj hb=>by have:=(h.place j o' _ hj hb).2.2;simp only at this;omega,λ j τ xs hj hb=>by have:=(h.bc.pl j τ xs _ hj hb).2.2.1;simp only at this;omega⟩
theorem Uw{E:Env}{o:Oper}(h:Nb E o=true):reads o.op=true:=by
 unfold Nb at h
 rw[a8r] at h
 exact h.1
theorem ES{E:Env}{o:Oper}(h:reads o.op=true):dF E o=false:=by
 unfold dF
 generalize G6 E o=q
 generalize o.op=op at *
 cases op<;>first|rfl|cases h
theorem Je(cf:List Nat)(x:Nat×Oper):∀ l,(MC cf x l).Perm (x::l)
 | [] => .refl _
 | y::ys=>by
  unfold MC
  split
  .exact .refl _
  .exact ((Je cf x ys).cons y).trans (.swap x y ys)
theorem mX(E:Env)(cf:List Nat):∀ l,(KN E cf l).Perm l
 | [] => .refl _
 | x::xs=>by
  unfold KN
  split
  .exact (Je cf x _).trans ((mX E cf xs).cons x)
  .exact (mX E cf xs).cons x
structure XE where
 i:Nat
 d:Nat
 x:Value
 o:Oper
noncomputable instance:DecidableEq XE:=λ _ _=>Classical.propDecidable _
structure XOk(E:Env)(P:Program)(X:List (Nat×Oper))(a:Act)(e:XE):Prop where
 mem:(e.i,e.o)∈X
 dst:e.o.dst=some e.d
 val:a.tmps.getD e.d undef=if e.d<a.tmps.size then e.x else undef
 run:(nj e.o.op=true/\∀ w,(execOp a.eval e.o).run P w = .ok (.value e.x) w)\/((wZ e.o.op=true/\G6 E e.o=true)/\∃ p,e.x = .slice p 0 0)
theorem XOk.lz{E:Env}{P:Program}{X:List (Nat×Oper)}{a:Act}{e:XE}(h:XOk E P X a e):dF E e.o=true:=by
 rcases h.run with ⟨q,_⟩|⟨⟨q,q'⟩,_⟩
 .simp[dF,q]
 .simp[dF,q,q']
theorem ML{op:Op}(h:wZ op=true):∃ T,op = .buildSlice T 0 #[]:=by
 unfold wZ at h
 split at h
 .rename_i T len ps
  simp only[a8r] at h
  have h1:=a8s h.1
  have h2:ps = #[]:=b0P (a8s h.2)
  exact⟨T,by rw[h1,h2]⟩
 .cases h
theorem ZO{o:Oper}(h:wZ o.op=true)(D:List Nat):iq D o=true:=by
 obtain⟨T,h⟩:=ML h
 simp[iq,WK,h]
theorem XOk.put{E:Env}{P:Program}{X:List (Nat×Oper)}{e:XE}(h:XOk E P X a e)(hda:a.defers=[]){d:Option Nat}{x:Value}(hd:d≠some e.d)(hu:∀ t,d=some t->iq [t] e.o=true):XOk E P X (a.put d x) e :=
 ⟨h.mem,h.dst,by rw[eM,a8y (λ q=>hd q.1),jw];exact h.val,h.run.imp (λ hr=>⟨hr.1,λ w=>by
  cases d with
  | none=>exact hr.2 w
  | some t =>
   have hA:p8 [t] (a.put (some t) x) a:=⟨jw a _ x,by rw[mU];exact hda,hda,λ u hu=>by rw[eM,if_neg (λ q=>hu (by simpa using q.1.symm))]⟩
   rw[hA.exec (hu t rfl)]
   exact hr.2 w⟩) id⟩
theorem V2(h:Inv c G s a w){o:Oper}{t:Operand}{i:Nat}(bE:o.op = .extract t i)(hc:zM s o.op=true):∃ x,∀ w',(execOp a.eval o).run c.P w' = .ok (.value x) w':=by
 rw[bE] at hc
 simp only[zM] at hc
 split at hc
 .rename_i vs hv
  have hx:=bC h t
  rw[hv] at hx
  obtain⟨l,h1,h2⟩:=hx
  have bS:i<l.length:=by rw[<-h2.length];exact a9u hc
  refine⟨l[i],λ w'=>?_⟩
  have h3:l[i]?=some l[i]:=a8P bS
  simp[execOp,bE,Instr.extract,h1,h3]
 .cases hc
theorem TG{E:Env}{o:Oper}{K:ah->Prop}{t:Operand}{i d:Nat}(bE:o.op = .extract t i)(hd:o.dst=some d)(hr:oC E o K s) :
  ∃ vs v,s.eval t = .kW vs/\vs[i]?=some v/\known v (K (s.put (some d) v)):=by
 have h1:om E s o=[]:=by
  unfold om
  rw[bE]
  split<;>rfl
 have h2:VW E s o=none:=by
  unfold VW
  rw[hd,bE]
  simp only
  split<;>rfl
 have h3:V1 E s o=none:=by unfold V1;rw[bE]
 have h4:WJ E s o=none:=by unfold WJ;rw[bE]
 have h6:WQ E s o=none:=by unfold WQ;rw[hd,bE]
 have h7:WH E s o=none:=by unfold WH;rw[bE]
 unfold oC at hr
 split at hr
 .exact hr.elim
 simp only[h1,b1H,h6,h2,h3,h4,h7] at hr
 split at hr
 .rename_i vc v ob hq
  unfold K3 at hq
  rw[bE] at hq
  simp only at hq
  split at hq
  .rename_i vs hv
   split at hq
   .rename_i u hu
    simp only[a8o,a8u] at hq
    obtain⟨rfl,rfl,rfl⟩:=hq
    refine⟨vs,u,hv,hu,?_⟩
    simpa [Vc.and,bE,TX,hd,ah.lay] using hr
   .cases hq
  .cases hq
 .exact hr.elim
theorem V3(h:Inv c G s a w){o:Oper}{t:Operand}{i:Nat}(bE:o.op = .extract t i){vs:List AV}{v:AV}(h1:s.eval t = .kW vs)(h2:vs[i]?=some v){x:Value}(hx:(execOp a.eval o).run c.P w = .ok (.value x) w):VR c G s.af w v x:=by
 have hv:=bC h t
 rw[h1] at hv
 obtain⟨l,k1,k2⟩:=hv
 obtain⟨y,k3,k4⟩:=k2.at_ i v h2
 have:(execOp a.eval o).run c.P w = .ok (.value y) w:=by simp[execOp,bE,Instr.extract,k1,k3]
 rw[this] at hx
 simp only[Result.ok.injEq,Next.value.injEq,a8F] at hx
 subst hx
 cases v<;>first|exact k4|exact k4.elim|trivial
theorem Yj{E:Env}{o:Oper}{K:ah->Prop}{d:Nat}(hn:wZ o.op=true/\G6 E o=true)(ha:sw E o=true)(hd:o.dst=some d)(hr:oC E o K s) :
  ∃ τ,K (s.put (some d) (.aW ⟨.slice τ,[]⟩)):=by
 obtain⟨hn,ru⟩:=hn
 obtain⟨T,bE⟩:=ML hn
 unfold sw at ha
 simp only[bE,hd,ru] at ha
 split at ha
 .rename_i d' τ r E8 hT
  simp only[a8o] at E8
  subst E8
  have ha:Nat.blt d 400000=true/\E.ro.contains d=true/\E.own.contains d=false:=by
   have ha:(Nat.blt d 400000&&(E.ro.contains d && !E.own.contains d))=true:=ha
   simp only[a8r,a8J] at ha
   exact⟨ha.1,ha.2.1,ha.2.2⟩
  obtain⟨h4,hro,va⟩:=ha
  have h1:om E s o=[]:=by
   unfold om
   simp only[hd,va,bE]
   simp
  have h2:VW E s o=none:=by
   unfold VW
   simp only[hd,va]
  have h3:V1 E s o=none:=by unfold V1;rw[bE]
  have h4':WJ E s o=none:=by unfold WJ;rw[bE]
  have h6:WQ E s o=none:=by unfold WQ;rw[hd,bE]
  have h7:WH E s o=none:=by unfold WH;rw[bE]
  obtain⟨r1,r2⟩:=r
  have h8:K3 E s.af s.eval o=some (.none, .aW ⟨.slice τ,[]⟩,none):=by
   unfold K3
   rw[bE]
   simp only[hd,hT,hro]
   rfl
  unfold oC at hr
  simp only[h1,b1H,h6,h2,h3,h4',h7,h8,Vc.and,bE,TX,hd,vL,h4] at hr
  exact⟨τ,hr⟩
 .simp at ha
theorem Xo(hE:bP c.P c.E)(h:Inv c G s a w){a2:Act}{o:Oper}{d:Nat}(hn:wZ o.op=true/\G6 c.E o=true)(ha:sw c.E o=true)(hd:o.dst=some d) :
  ∃ w' x,(execOp a2.eval o).run c.P w = .ok (.value x) w'/\Inv c G s a w'/\(∃ p,x = .slice p 0 0)/\bN (λ _=>False) w w':=by
 obtain⟨hn,ru⟩:=hn
 obtain⟨T,bE⟩:=ML hn
 unfold sw at ha
 simp only[bE,hd,ru] at ha
 split at ha
 .rename_i d' τ r E8 hT
  obtain⟨r1,r2⟩:=r
  obtain⟨k1,_,inf,z,k2,k3,k4,k5,k6⟩:=hE.slice hT
  refine⟨w.alloc (.cells #[] r2), .slice (some ⟨w.heap.size,0,none⟩) 0 0,?_,h.alloc _,⟨_,rfl⟩,iN w _⟩
  have hz:(Array.range 0).map (λ _=>(default:Value)) = #[]:=by apply b0P;simp
  simp[execOp,bE,Instr.buildSlice,a9s k1,sizeOf,typeInfo,k2,Instr.fill,newRow,hz]
 .simp at ha
theorem pd(E:Env){X:List (Nat×Oper)}{x:Nat×Oper}{t:Nat}(hx:x∈X)(ha:dF E x.2=true)(hd:x.2.dst=some t):t∈uI E X :=
 a9T.2 ⟨x,hx,by simp[ha,hd]⟩
theorem Vn{E:Env}{cf:List Nat}{n:Nat}{R:List (Nat×Oper)}{K:ah->Prop}{s:ah}:kH E cf n R [] K s=K s:=by cases n<;>rfl
theorem KQ{E:Env}{cf:List Nat}{n:Nat}{R:List (Nat×Oper)}{x:Nat×Oper}{xs:List (Nat×Oper)}{K:ah->Prop}{s:ah}(h:kH E cf n R (x::xs) K s) :
  ∃ m,WC E cf (x::xs) s=true/\(((iq (dstsOf (R.filter λ r => !Nat.testBit (cf.getD x.1 0) r.1)++uI E xs) x.2&&xs.all λ y=>dF E y.2||Nat.testBit (cf.getD y.1 0) x.1)=true /\
    oC E x.2 (λ s'=>jL E (R.filter λ r => !Nat.testBit (cf.getD x.1 0) r.1) s' (kH E cf m (R.filter λ r => !Nat.testBit (cf.getD x.1 0) r.1) xs K s')) s) \/
   (dF E x.2=false/\B1 (R6 E cf (x::xs)) (λ y=>match iq (dstsOf (R.filter λ r => !Nat.testBit (cf.getD y.1 0) r.1)++uI E ((x::xs).filter λ z => !Nat.beq z.1 y.1)) y.2 with
      | true=>oC E y.2 (λ s'=>jL E (R.filter λ r => !Nat.testBit (cf.getD y.1 0) r.1) s' (kH E cf m (R.filter λ r => !Nat.testBit (cf.getD y.1 0) r.1) ((x::xs).filter λ z => !Nat.beq z.1 y.1) K s')) s
      | false=>False) (x::xs))):=by
 cases n with
 | zero=>exact h.elim
 | succ n =>
  simp only[kH] at h
  refine⟨n,?_⟩
  split at h
  .rename_i h1
   refine⟨h1,?_⟩
   split at h
   .rename_i h2
    exact .inl ⟨h2,h⟩
   .split at h
    .exact h.elim
    .rename_i h3
     exact .inr ⟨h3,h⟩
  .exact h.elim
theorem S8{E:Env}{cf:List Nat}{n:Nat}{R:List (Nat×Oper)}{x:Nat×Oper}{xs:List (Nat×Oper)}{K:ah->Prop}{s:ah}(hz:dF E x.2=true)(h:kH E cf n R (x::xs) K s) :
  ∃ m,oC E x.2 (λ s'=>jL E (R.filter λ r => !Nat.testBit (cf.getD x.1 0) r.1) s' (kH E cf m (R.filter λ r => !Nat.testBit (cf.getD x.1 0) r.1) xs K s')) s:=by
 obtain⟨m,_,h|h⟩:=KQ h
 .exact⟨m,h.2⟩
 .rw[hz] at h;cases h.1
theorem Da{p:Nat×Oper->Bool}{f:Nat×Oper->Prop}:∀ {l:List (Nat×Oper)},B1 p f l->∀ y∈l,p y=true->f y
 | [],_,y,hy,_=>by cases hy
 | x::l,h,y,hy,hp=>by
  unfold B1 at h
  split at h
  .rcases a8I.1 hy with rfl|hy
   .exact h.1
   .exact Da h.2 y hy hp
  .rename_i h0
   rcases a8I.1 hy with rfl|hy
   .rw[hp] at h0;cases h0
   .exact Da h y hy hp
theorem a0k{a b:Nat}:Nat.beq a b=false↔a≠b:=by
 constructor
 .intro h e
  subst e
  rw[b1V] at h
  cases h
 .intro h
  cases hb:Nat.beq a b
  .rfl
  .exact absurd (a8s hb) h
theorem Sl{x:Nat×Oper}{xs:List (Nat×Oper)}(h:x.1∉xs.map (·.1)):((x::xs).filter λ z => !Nat.beq z.1 x.1)=xs:=by
 rw[b1X,a8y (by simp)]
 refine List.filter_eq_self.2 λ z hz=>?_
 have:z.1≠x.1:=λ e=>h (a8A.2 ⟨z,hz,e⟩)
 rw[a0k.2 this];rfl
theorem U0{i:Nat}{o:Oper}:∀ {X:List (Nat×Oper)},(i,o)∈X->(X.map (·.1)).Nodup->(X.filter λ z => !Nat.beq z.1 i).length+1=X.length
 | [],h,_=>by cases h
 | x::xs,h,hn=>by
  simp only[a9k,a9j] at hn
  rcases a8I.1 h with e|h
  .subst e
   rw[Sl (x:=(i,o)) hn.1];rfl
  .have fG:x.1≠i:=λ e=>hn.1 (a8A.2 ⟨_,h,e.symm⟩)
   rw[b1X,a8O (by rw[a0k.2 fG];rfl),a8C,a8C,U0 h hn.2]
theorem Zw{E:Env}{cf:List Nat}{n:Nat}{R X:List (Nat×Oper)}{y:Nat×Oper}{K:ah->Prop}{s:ah}(h:kH E cf n R X K s)(hy:y∈X)(dr:(X.map (·.1)).Nodup)(hc:R6 E cf X y=true)
  (hh:∀ x xs,X=x::xs->dF E x.2=true->Nat.testBit (cf.getD y.1 0) x.1=false) :
  ∃ m,iq (dstsOf (R.filter λ r => !Nat.testBit (cf.getD y.1 0) r.1)++uI E (X.filter λ z => !Nat.beq z.1 y.1)) y.2=true /\
   oC E y.2 (λ s'=>jL E (R.filter λ r => !Nat.testBit (cf.getD y.1 0) r.1) s' (kH E cf m (R.filter λ r => !Nat.testBit (cf.getD y.1 0) r.1) (X.filter λ z => !Nat.beq z.1 y.1) K s')) s:=by
 match X,hy,dr,hc,hh,h with
 | x::xs,hy,dr,hc,hh,h =>
  obtain⟨m,_,h|h⟩:=KQ h
  .obtain⟨h1,h2⟩:=h
   simp only[a8r,a9a,b0c] at h1
   have e:y=x:=by
    rcases a8I.1 hy with e|hy
    .exact e
    .simp only[R6,a8r,a8J,a9a,b0c] at hc
     rcases h1.2 y hy with q|q
     .rw[hc.1] at q;cases q
     .rcases hc.2 x (by simp) with k|k
      .rw[hh x xs rfl k] at q;cases q
      .rw[k] at q;cases q
   subst e
   simp only[a9k,a9j] at dr
   rw[Sl dr.1]
   exact⟨m,h1.1,h2⟩
  .have:=Da h.2 y hy hc
   split at this
   .rename_i hu
    exact⟨m,hu,this⟩
   .exact this.elim
theorem XY(
          hE:bP c.P c.E) {ops:Array Oper} {hi:Nat} {Seg:List (Nat×Oper)} (dX:backward ops.toList=true) (hhi:hi<=ops.size)
  (sG:∀ j o,hi<=j->ops.toList[j]?=some o->∀ k,k<hi->Nat.testBit ((b9 ops.toList []).getD j 0) k=true)
  (a3M:∀ x∈Seg,x.2.guard=none) (Rn:∀ x∈Seg,sw c.E x.2=true) (a2s:∀ x∈Seg,nj x.2.op=true->iq (dstsOf (Seg.filter λ y => !Nat.testBit ((b9 ops.toList []).getD x.1 0) y.1)++uI c.E Seg) x.2=true) (a2p:∀ x∈Seg,∀ y∈Seg,∀ t,x.2.dst=some t->y.2.dst=some t->x.1=y.1) {K:ah->Prop} {Q':Exit->Act->World->Prop}
  (Ja:∀ (fuel:Nat) (G:Gh) (s:ah) (a:Act) (w:World) (listed:Array Bool),ops.size=hi+fuel->listed.size=ops.size->(∀ k,k<ops.size->(listed.getD k false=true↔k<hi))->Inv c G s a w->K s->wpAny c.P .any ops Q' fuel listed a w) :
  ∀ (N fuel:Nat) (Rc X:List (Nat×Oper)) (R:List Nat) (PL:List PE) (SL:List XE) (G:Gh) (t:ah) (a b:Act) (w:World) (listed:Array Bool),fuel+X.length<=N->fuel+PL.length+SL.length=R.length+X.length+(ops.size - hi)->listed.size=ops.size ->
   (∀ i∈R,i<hi/\∃ o,ops.toList[i]?=some o/\(i,o)∈Rc/\(i,o)∈Seg/\pT c.E (b9 ops.toList []) Seg (i,o)=true/\iq (dstsOf (Seg.filter λ y => !Nat.testBit ((b9 ops.toList []).getD i 0) y.1)) o=true)->(∀ x∈X,x.1<hi/\ops.toList[x.1]?=some x.2/\x∈Seg)->R.Nodup->(X.map (·.1)).Nodup->(∀ i∈R,∀ x∈X,i≠x.1) ->
   (PL.map PE.i++SL.map XE.i).Nodup->(PL.map PE.b).Nodup->(∀ p∈PL,CV c G t.af X a w p)->(∀ e∈SL,XOk c.E c.P X a e) ->
   (∀ k,k<ops.size->(listed.getD k false=true↔k<hi/\k∉R/\((∀ x∈X,x.1≠k)\/k∈PL.map PE.i++SL.map XE.i)))->(∀ k,k<ops.size->listed.getD k false=true->∀ o,ops.toList[k]?=some o->∀ e∈o.after.toList,Region.binds .any e=true->listed.getD e.on false=true) ->
   Inv c G t b w->p8 (R.filterMap (cB ops.toList)++(PL.map PE.d++SL.map XE.d)) a b->(∀ i∈R,∀ o,ops.toList[i]?=some o->∃ d vc,o.dst=some d/\rop c.E t o=some (vc,t.aC.getD d .any)/\Vc.ok vc) ->
   ∀ n,kH c.E (b9 ops.toList []) n Rc X K t->wpAny c.P .any ops Q' fuel listed a w:=by
 intro N
 induction N with
 | zero =>
  intro fuel Rc X R PL SL G t a b w listed hN hf cO hR hX Gb Mq Mn QC V9 pL qc hl Dq hI hA hs nn hK
  have h2:X=[]:=a9E (by omega)
  subst h2
  have h3:PL=[]:=by
   cases PL with
   | nil=>rfl
   | cons p PL=>obtain⟨o,T,τ,r,hm,_⟩:=(pL p (by simp)).ex;cases hm
  subst h3
  have h4:SL=[]:=by
   cases SL with
   | nil=>rfl
   | cons p SL=>have hm:=(qc p (by simp)).mem;cases hm
  subst h4
  have h1:R=[]:=a9E (by simp at hf;omega)
  subst h1
  have pM:a=b:=p8.eq (by simpa using hA)
  subst pM
  exact Ja fuel G t a w listed (by simp at hf;omega) cO (λ k hk=>by rw[hl k hk];simp) hI (by rw[Vn] at hK;exact hK)
 | succ N ih =>
  intro fuel Rc X R PL SL G t a b w listed hN hf cO hR hX Gb Mq Mn QC V9 pL qc hl Dq hI hA hs nn hK
  by_cases KE:R=[]/\X=[]
  .obtain⟨rfl,rfl⟩:=KE
   have h3:PL=[]:=by
    cases PL with
    | nil=>rfl
    | cons p PL=>obtain⟨o,T,τ,r,hm,_⟩:=(pL p (by simp)).ex;cases hm
   subst h3
   have h4:SL=[]:=by
    cases SL with
    | nil=>rfl
    | cons p SL=>have hm:=(qc p (by simp)).mem;cases hm
   subst h4
   have pM:a=b:=p8.eq (by simpa using hA)
   subst pM
   exact Ja fuel G t a w listed (by simp at hf;omega) cO (λ k hk=>by rw[hl k hk];simp) hI (by rw[Vn] at hK;exact hK)
  have Y4:∀ i o,i<ops.size->ops.toList[i]?=some o->listed.getD i false=true->∀ k,Nat.testBit ((b9 ops.toList []).getD i 0) k=true->listed.getD k false=true/\k<ops.size:=λ i o hi ho hli k hk =>
   FB (l:=ops.toList) (D:=λ k=>listed.getD k false=true/\k<ops.size) (λ k hk o' cQ e he hb=>⟨Dq k hk.2 hk.1 o' cQ e he hb,by
    have:=cb dX k o' cQ e he hb;have:=hk.2;omega⟩) i o ho (λ e he hb=>⟨Dq i hi hli o ho e he hb,by
    have:=cb dX i o ho e he hb;omega⟩) k hk
  by_cases Rm:∃ x0 xs p,X=x0::xs/\p∈PL/\p.i=x0.1
  .obtain⟨x0,xs,p,rfl,hp,hpi⟩:=Rm
   obtain⟨o,T,τ,r,hm,bE,KH,hT,oq⟩:=(pL p hp).ex
   have hx0:x0=(p.i,o):=by
    have h1:=(hX x0 (by simp)).2.1
    have h2:=(hX _ hm).2.1
    rw[<-hpi,h2] at h1
    simp only[a8o] at h1
    rw[h1,hpi]
   subst hx0
   obtain⟨mm,hK⟩:=S8 (by simp[dF,qt,bE]) hK
   rw[WN bE KH hT,<-oq] at hK
   obtain⟨k1,k2⟩:=n7 hK.2
   have Sv:=hX _ hm
   have hlp:listed.getD p.i false=true:=(hl p.i (by have:=Sv.1;simp only at this;omega)).2 ⟨Sv.1,λ q=>Mn _ q _ hm rfl, .inr (a8t.2 (.inl (a8A.2 ⟨p,hp,rfl⟩)))⟩
   have gG:∀ j∈R,∃ o',ops.toList[j]?=some o'/\(j,o')∈Rc.filter λ r => !Nat.testBit ((b9 ops.toList []).getD p.i 0) r.1:=λ j hj=>by
    obtain⟨q1,o',q2,q3,_,_⟩:=hR j hj
    refine⟨o',q2,a9O.2 ⟨q3,?_⟩⟩
    simp only[a8J]
    cases hb:Nat.testBit ((b9 ops.toList []).getD p.i 0) j with
    | false=>rfl
    | true=>exact absurd hj ((hl j (by omega)).1 (Y4 p.i o (by have:=Sv.1;simp only at this;omega) Sv.2.1 hlp j hb).1).2.1
   have a2x:∀ q∈PL.erase p,q∈PL/\q.i≠p.i/\q.b≠p.b:=λ q hq=>by
    have a0e:=b0a hq
    have Om:=b2l hp
    have n1:=(Om.map PE.i).nodup_iff.1 (a8S.1 QC).1
    have n2:=(Om.map PE.b).nodup_iff.1 V9
    simp only[a9k,a9j] at n1 n2
    exact⟨a0e,λ e=>n1.1 (a8A.2 ⟨q,hq,e⟩),λ e=>n2.1 (a8A.2 ⟨q,hq,e⟩)⟩
   have a5C:(PL.erase p).length+1=PL.length:=by
    have:=b0u hp
    have:=b0G hp
    omega
   simp only[a9k,a9j] at Mq
   refine ih fuel _ xs R (PL.erase p) SL _ _ a (b.put (some p.d) p.x) w listed (by simp at hN;omega) (by simp at hf;omega) cO (λ j hj=>?_) (λ y hy=>hX y (by simp[hy])) Gb Mq.2 (λ j hj y hy=>Mn j hj y (by simp[hy])) ?_ ?_ (λ q hq=>?_) (λ e he=>?_) (λ k hk=>?_) Dq (Yy hI (pL p hp)) ?_ (λ j hj o' cQ=>?_) _ k2
   .obtain⟨q1,o',q2,q3,q4,q7⟩:=hR j hj
    obtain⟨o2,q5,q6⟩:=gG j hj
    have e:o'=o2:=by rw[q2] at q5;simpa using q5
    subst e
    exact⟨q1,o',q2,q6,q4,q7⟩
   .exact QC.sublist ((b1g _ b1I).append (List.Sublist.refl _))
   .exact V9.sublist (b1g _ b1I)
   .obtain⟨Ix,Gi,hq3⟩:=a2x q hq
    obtain⟨o2,T2,n9,r2,m1,m2,m3,m4,m5⟩:=(pL q Ix).ex
    refine⟨⟨o2,T2,n9,r2,?_,m2,m3,m4,m5⟩,(pL q Ix).val,(pL q Ix).ptr,(pL q Ix).lt,(pL q Ix).new,Yx (pL p hp) (pL q Ix).fr hq3⟩
    rcases a8I.1 m1 with e|m1
    .simp only[a8u] at e;exact absurd e.1 Gi
    .exact m1
   .have h3:=qc e he
    refine⟨?_,h3.dst,h3.val,h3.run⟩
    rcases a8I.1 h3.mem with q|q
    .simp only[a8u] at q
     rcases h3.run with ⟨q',_⟩|⟨⟨q',_⟩,_⟩<;>(rw[q.2,bE] at q';cases q')
    .exact q
   .rw[hl k hk]
    constructor
    .rintro⟨q1,q2,q3⟩
     refine⟨q1,q2,?_⟩
     by_cases AY:k=p.i
     .subst AY
      exact .inl λ y hy e=>Mq.1 (a8A.2 ⟨y,hy,e⟩)
     .rcases q3 with q3|q3
      .exact .inl λ y hy=>q3 y (by simp[hy])
      .rcases a8t.1 q3 with q3|q3
       .obtain⟨q,hq,rfl⟩:=a8A.1 q3
        exact .inr (a8t.2 (.inl (a8A.2 ⟨q,(b0L (λ e=>AY (by rw[e]))).2 hq,rfl⟩)))
       .exact .inr (a8t.2 (.inr q3))
    .rintro⟨q1,q2,q3⟩
     refine⟨q1,q2,?_⟩
     by_cases AY:k=p.i
     .subst AY
      exact .inr (a8t.2 (.inl (a8A.2 ⟨p,hp,rfl⟩)))
     .rcases q3 with q3|q3
      .refine .inl λ y hy=>?_
       rcases a8I.1 hy with rfl|hy
       .exact λ e=>AY e.symm
       .exact q3 y hy
      .rcases a8t.1 q3 with q3|q3
       .obtain⟨q,hq,rfl⟩:=a8A.1 q3
        exact .inr (a8t.2 (.inl (a8A.2 ⟨q,b0a hq,rfl⟩)))
       .exact .inr (a8t.2 (.inr q3))
   .refine⟨by rw[jw];exact hA.size,hA.da,by rw[mU];exact hA.db,λ u hu=>?_⟩
    by_cases Zj:u=p.d
    .subst Zj
     rw[(pL p hp).val,eM,<-hA.size]
     by_cases bS:p.d<a.tmps.size
     .rw[a8O bS,a8O ⟨rfl,bS⟩]
     .rw[a8y bS,a8y (λ q=>bS q.2),a9n,a9S (by rw[<-hA.size];omega)];rfl
    .rw[eM,if_neg (λ q=>Zj (by simpa using q.1.symm))]
     refine hA.at' u λ hm=>hu ?_
     rcases a8t.1 hm with hm|hm
     .exact a8t.2 (.inl hm)
     .rcases a8t.1 hm with hm|hm
      .obtain⟨q,hq,rfl⟩:=a8A.1 hm
       exact a8t.2 (.inr (a8t.2 (.inl (a8A.2 ⟨q,(b0L (λ e=>Zj (by rw[e]))).2 hq,rfl⟩))))
      .exact a8t.2 (.inr (a8t.2 (.inr hm)))
   .obtain⟨o2,q5,q6⟩:=gG j hj
    rw[q5] at cQ
    simp only[a8o] at cQ
    subst cQ
    exact k1 (j,o2) q6
  by_cases Mr:∃ x0 xs e,X=x0::xs/\e∈SL/\e.i=x0.1
  .obtain⟨x0,xs,e,rfl,he,hei⟩:=Mr
   have V8:=qc e he
   have hx0:x0=(e.i,e.o):=by
    have h1:=(hX x0 (by simp)).2.1
    have h2:=(hX _ V8.mem).2.1
    rw[<-hei,h2] at h1
    simp only[a8o] at h1
    rw[h1,hei]
   subst hx0
   obtain⟨mm,hK⟩:=S8 V8.lz hK
   have Sv:=hX _ V8.mem
   have hlp:listed.getD e.i false=true:=(hl e.i (by have:=Sv.1;simp only at this;omega)).2 ⟨Sv.1,λ q=>Mn _ q _ V8.mem rfl, .inr (a8t.2 (.inr (a8A.2 ⟨e,he,rfl⟩)))⟩
   have a2m:=Y4 e.i e.o (by have:=Sv.1;simp only at this;omega) Sv.2.1 hlp
   have gG:∀ j∈R,∃ o',ops.toList[j]?=some o'/\(j,o')∈Rc.filter λ r => !Nat.testBit ((b9 ops.toList []).getD e.i 0) r.1:=λ j hj=>by
    obtain⟨q1,o',q2,q3,_,_⟩:=hR j hj
    refine⟨o',q2,a9O.2 ⟨q3,?_⟩⟩
    simp only[a8J]
    cases hb:Nat.testBit ((b9 ops.toList []).getD e.i 0) j with
    | false=>rfl
    | true=>exact absurd hj ((hl j (by omega)).1 (a2m j hb).1).2.1
   have hDu:∀ u,u∈R.filterMap (cB ops.toList)++(PL.map PE.d++SL.map XE.d)->u∈dstsOf (Seg.filter λ y => !Nat.testBit ((b9 ops.toList []).getD e.i 0) y.1)++uI c.E Seg:=λ u hu=>by
    rcases a8t.1 hu with hu|hu
    .obtain⟨j,hj,E9⟩:=a9T.1 hu
     obtain⟨q1,o',q2,_,q3,_⟩:=hR j hj
     refine List.mem_append.2 (.inl (iS.2 ⟨(j,o'),List.mem_filter.2 ⟨q3,?_⟩,by simpa [cB,q2] using E9⟩))
     simp only[a8J]
     cases hb:Nat.testBit ((b9 ops.toList []).getD e.i 0) j with
     | false=>rfl
     | true=>exact absurd hj ((hl j (by omega)).1 (a2m j hb).1).2.1
    .rcases a8t.1 hu with hu|hu
     .obtain⟨p,hp,rfl⟩:=a8A.1 hu
      obtain⟨o2,T,τ,r,hm,SG,KH,_⟩:=(pL p hp).ex
      exact a8t.2 (.inr (pd c.E (hX _ hm).2.2 (by simp[dF,qt,SG]) KH))
     .obtain⟨q,hq,rfl⟩:=a8A.1 hu
      exact a8t.2 (.inr (pd c.E (hX _ (qc q hq).mem).2.2 (qc q hq).lz (qc q hq).dst))
   obtain⟨v,Uo,hK⟩:∃ v,VR c G t.af w v e.x/\jL c.E (Rc.filter λ r => !Nat.testBit ((b9 ops.toList []).getD e.i 0) r.1) (t.put (some e.d) v) (kH c.E (b9 ops.toList []) mm (Rc.filter λ r => !Nat.testBit ((b9 ops.toList []).getD e.i 0) r.1) xs K (t.put (some e.d) v)):=by
    rcases V8.run with ⟨hx,hr⟩|⟨hx,p,hp⟩
    .obtain⟨tt,ix,bE⟩:∃ tt ix,e.o.op = .extract tt ix:=by
      have:=hx
      unfold nj at this
      split at this
      .exact⟨_,_,by assumption⟩
      .cases this
     obtain⟨vs,v,hv1,hv2,hK⟩:=TG bE V8.dst hK
     have cZ:=hr w
     rw[hA.exec (pV (a2s _ Sv.2.2 hx) hDu)] at cZ
     have Uo:=V3 hI bE hv1 hv2 cZ
     exact⟨v,Uo,HA Uo hK⟩
    .obtain⟨τ,hK⟩:=Yj hx (Rn _ Sv.2.2) V8.dst hK
     refine⟨_,?_,hK⟩
     rw[hp]
     exact⟨p,0,rfl,a9i _,by simp[maxLen],by simp, .inl rfl⟩
   obtain⟨k1,k2⟩:=n7 hK
   have a2x:∀ q∈SL.erase e,q∈SL/\q.i≠e.i:=λ q hq=>by
    have a0e:=b0a hq
    have Om:=b2l he
    have n1:=(Om.map XE.i).nodup_iff.1 (a8S.1 QC).2.1
    simp only[a9k,a9j] at n1
    exact⟨a0e,λ q'=>n1.1 (a8A.2 ⟨q,hq,q'⟩)⟩
   have a5C:(SL.erase e).length+1=SL.length:=by
    have:=b0u he
    have:=b0G he
    omega
   simp only[a9k,a9j] at Mq
   refine ih fuel _ xs R PL (SL.erase e) _ _ a (b.put (some e.d) e.x) w listed (by simp at hN;omega) (by simp at hf;omega) cO (λ j hj=>?_) (λ y hy=>hX y (by simp[hy])) Gb Mq.2 (λ j hj y hy=>Mn j hj y (by simp[hy])) ?_ V9 (λ q hq=>?_) (λ q hq=>?_) (λ k hk=>?_) Dq (Inv.put (d:=some e.d) hI Uo) ?_ (λ j hj o' cQ=>?_) _ k2
   .obtain⟨q1,o',q2,q3,q4,q7⟩:=hR j hj
    obtain⟨o2,q5,q6⟩:=gG j hj
    have e:o'=o2:=by rw[q2] at q5;simpa using q5
    subst e
    exact⟨q1,o',q2,q6,q4,q7⟩
   .exact QC.sublist ((List.Sublist.refl _).append (b1g _ b1I))
   .obtain⟨o2,T2,n9,r2,m1,m2,m3,m4,m5⟩:=(pL q hq).ex
    refine⟨⟨o2,T2,n9,r2,?_,m2,m3,m4,m5⟩,(pL q hq).val,(pL q hq).ptr,(pL q hq).lt,(pL q hq).new,(pL q hq).fr⟩
    rcases a8I.1 m1 with e'|m1
    .simp only[a8u] at e'
     rcases V8.run with ⟨q',_⟩|⟨⟨q',_⟩,_⟩<;>(rw[<-e'.2,m2] at q';cases q')
    .exact m1
   .obtain⟨Ix,Gi⟩:=a2x q hq
    have h3:=qc q Ix
    refine⟨?_,h3.dst,h3.val,h3.run⟩
    rcases a8I.1 h3.mem with e'|e'
    .simp only[a8u] at e';exact absurd e'.1 Gi
    .exact e'
   .rw[hl k hk]
    constructor
    .rintro⟨q1,q2,q3⟩
     refine⟨q1,q2,?_⟩
     by_cases AY:k=e.i
     .subst AY
      exact .inl λ y hy e=>Mq.1 (a8A.2 ⟨y,hy,e⟩)
     .rcases q3 with q3|q3
      .exact .inl λ y hy=>q3 y (by simp[hy])
      .rcases a8t.1 q3 with q3|q3
       .exact .inr (a8t.2 (.inl q3))
       .obtain⟨q,hq,rfl⟩:=a8A.1 q3
        exact .inr (a8t.2 (.inr (a8A.2 ⟨q,(b0L (λ e=>AY (by rw[e]))).2 hq,rfl⟩)))
    .rintro⟨q1,q2,q3⟩
     refine⟨q1,q2,?_⟩
     by_cases AY:k=e.i
     .subst AY
      exact .inr (a8t.2 (.inr (a8A.2 ⟨e,he,rfl⟩)))
     .rcases q3 with q3|q3
      .refine .inl λ y hy=>?_
       rcases a8I.1 hy with rfl|hy
       .exact λ e=>AY e.symm
       .exact q3 y hy
      .rcases a8t.1 q3 with q3|q3
       .exact .inr (a8t.2 (.inl q3))
       .obtain⟨q,hq,rfl⟩:=a8A.1 q3
        exact .inr (a8t.2 (.inr (a8A.2 ⟨q,b0a hq,rfl⟩)))
   .refine⟨by rw[jw];exact hA.size,hA.da,by rw[mU];exact hA.db,λ u hu=>?_⟩
    by_cases Zj:u=e.d
    .subst Zj
     rw[V8.val,eM,<-hA.size]
     by_cases bS:e.d<a.tmps.size
     .rw[a8O bS,a8O ⟨rfl,bS⟩]
     .rw[a8y bS,a8y (λ q=>bS q.2),a9n,a9S (by rw[<-hA.size];omega)];rfl
    .rw[eM,if_neg (λ q=>Zj (by simpa using q.1.symm))]
     refine hA.at' u λ hm=>hu ?_
     rcases a8t.1 hm with hm|hm
     .exact a8t.2 (.inl hm)
     .rcases a8t.1 hm with hm|hm
      .exact a8t.2 (.inr (a8t.2 (.inl hm)))
      .obtain⟨q,hq,rfl⟩:=a8A.1 hm
       exact a8t.2 (.inr (a8t.2 (.inr (a8A.2 ⟨q,(b0L (λ e=>Zj (by rw[e]))).2 hq,rfl⟩))))
   .obtain⟨o2,q5,q6⟩:=gG j hj
    rw[q5] at cQ
    simp only[a8o] at cQ
    subst cQ
    exact k1 (j,o2) q6
  have a2l:∀ p∈PL,∃ x∈X,x.1=p.i:=λ p hp=>by
   obtain⟨o,T,τ,r,hm,_⟩:=(pL p hp).ex
   exact⟨_,hm,rfl⟩
  have Xx:∀ p∈SL,∃ x∈X,x.1=p.i:=λ p hp=>⟨_,(qc p hp).mem,rfl⟩
  have hun:∃ k,k<hi/\¬ (listed.getD k false=true):=by
   rcases R with _|⟨i,R⟩
   .rcases X with _|⟨x,X⟩
    .exact absurd ⟨rfl,rfl⟩ KE
    .have:=(hX x (by simp)).1
     refine⟨x.1,this,λ hh=>((hl x.1 (by omega)).1 hh).2.2.elim (λ q=>q x (by simp) rfl) λ q=>?_⟩
     rcases a8t.1 q with q|q
     .obtain⟨p,hp,e⟩:=a8A.1 q
      exact Rm ⟨x,X,p,rfl,hp,e⟩
     .obtain⟨p,hp,e⟩:=a8A.1 q
      exact Mr ⟨x,X,p,rfl,hp,e⟩
   .have:=(hR i (by simp)).1
    exact⟨i,this,λ hh=>((hl i (by omega)).1 hh).2.1 (by simp)⟩
  have My:PL.length+SL.length<R.length+X.length:=by
   rcases R with _|⟨i,R⟩
   .rcases X with _|⟨x,X⟩
    .exact absurd ⟨rfl,rfl⟩ KE
    .have Jc:(PL.map PE.i++SL.map XE.i) ⊆ X.map (·.1):=λ k hk=>by
      rcases a8t.1 hk with hk|hk
      .obtain⟨p,hp,rfl⟩:=a8A.1 hk
       obtain⟨y,hy,e⟩:=a2l p hp
       rcases a8I.1 hy with rfl|hy
       .exact absurd ⟨_,_,p,rfl,hp,e.symm⟩ Rm
       .exact a8A.2 ⟨y,hy,e⟩
      .obtain⟨p,hp,rfl⟩:=a8A.1 hk
       obtain⟨y,hy,e⟩:=Xx p hp
       rcases a8I.1 hy with rfl|hy
       .exact absurd ⟨_,_,p,rfl,hp,e.symm⟩ Mr
       .exact a8A.2 ⟨y,hy,e⟩
     have:=b0R QC Jc
     simp at this ⊢;omega
   .have Jc:(PL.map PE.i++SL.map XE.i) ⊆ X.map (·.1):=λ k hk=>by
     rcases a8t.1 hk with hk|hk
     .obtain⟨p,hp,rfl⟩:=a8A.1 hk
      obtain⟨y,hy,e⟩:=a2l p hp
      exact a8A.2 ⟨y,hy,e⟩
     .obtain⟨p,hp,rfl⟩:=a8A.1 hk
      obtain⟨y,hy,e⟩:=Xx p hp
      exact a8A.2 ⟨y,hy,e⟩
    have:=b0R QC Jc
    simp at this ⊢;omega
  obtain⟨fuel,rfl⟩:∃ f,fuel=f+1:=⟨fuel - 1,by omega⟩
  obtain⟨k1,Ol⟩:=hun
  obtain⟨k0,⟨a0b,u9⟩,XK⟩:=exists_least (p:=λ k=>k<hi/\¬ (listed.getD k false=true)) k1 Ol
  have XG:ops[k0]?=some (ops[k0]'(by omega)):=a9H (by omega)
  constructor
  .intro xR
   have:k0∈Region.ready .any ops listed:=(mem_ready cO).2 ⟨_,XG,by
    cases hb:listed.getD k0 false with
    | false=>rfl
    | true=>exact absurd hb u9,λ e he hb=>by
    have bS:=cb dX k0 ops[k0] (by simp) e he hb
    exact b1o λ hh=>XK e.on bS ⟨by omega,hh⟩⟩
   rw[xR] at this
   cases this
  .intro i qd
   obtain⟨o,cE,h1,h2⟩:=(mem_ready cO).1 qd
   have Jb:=(a9x.1 cE).1
   have eW:ops.toList[i]?=some o:=by simpa using cE
   have Ef:=FB (l:=ops.toList) (D:=λ k=>listed.getD k false=true/\k<ops.size) (λ k hk o' cQ e he hb=>⟨Dq k hk.2 hk.1 o' cQ e he hb,by
    have:=cb dX k o' cQ e he hb;have:=hk.2;omega⟩) i o eW (λ e he hb=>⟨h2 e he hb,by
    have:=cb dX i o eW e he hb;omega⟩)
   have u7:i<hi:=by
    rcases a9t i hi with h|h
    .exact h
    .exact absurd (Ef k0 (sG i o h eW k0 a0b)).1 u9
   have Eg:∀ k,(listed.setIfInBounds i true).getD k false=true↔listed.getD k false=true\/k=i:=λ k=>vt (by omega)
   have XA:∀ k,k<ops.size->(listed.setIfInBounds i true).getD k false=true->∀ o,ops.toList[k]?=some o->∀ e∈o.after.toList,Region.binds .any e=true->(listed.setIfInBounds i true).getD e.on false=true:=by
    intro k hk Mw o' cQ e he hb
    rw[Eg] at Mw ⊢
    rcases Mw with Mw|rfl
    .exact .inl (Dq k hk Mw o' cQ e he hb)
    .rw[eW] at cQ
     simp only[a8o] at cQ
     subst cQ
     exact .inl (h2 e he hb)
   have a2A:¬ (listed.getD i false=true):=by rw[h1];simp
   have a0f:=a2A
   rw[hl i Jb] at a0f
   have hXi:i∉R->∃ x∈X,x.1=i:=λ KF=>b1o λ hh=>a0f ⟨u7,KF, .inl λ x hx e=>hh ⟨x,hx,e⟩⟩
   have U9:∀ p∈PL,p.i≠i:=λ p hp e=>by
    obtain⟨x,hx,hxe⟩:=a2l p hp
    exact a0f ⟨u7,λ q=>Mn i q x hx (by rw[hxe,e]), .inr (a8t.2 (.inl (a8A.2 ⟨p,hp,e⟩)))⟩
   have Va:∀ p∈SL,p.i≠i:=λ p hp e=>by
    obtain⟨x,hx,hxe⟩:=Xx p hp
    exact a0f ⟨u7,λ q=>Mn i q x hx (by rw[hxe,e]), .inr (a8t.2 (.inr (a8A.2 ⟨p,hp,e⟩)))⟩
   have Mo:(i,o)∈Seg:=by
    by_cases KF:i∈R
    .obtain⟨_,o',cQ,_,hm,_⟩:=hR i KF
     rw[eW] at cQ
     simp only[a8o] at cQ
     subst cQ
     exact hm
    .obtain⟨x,hx,XP⟩:=hXi KF
     have:=(hX x hx).2.1
     rw[XP,eW] at this
     simp only[a8o] at this
     have e:x=(i,o):=by rw[<-XP,this]
     rw[<-e]
     exact (hX x hx).2.2
   have hg:o.guard=none:=a3M _ Mo
   have hPd:∀ p∈PL,o.dst≠some p.d:=λ p hp e=>by
    obtain⟨o2,T,τ,r,hm,bE,KH,_⟩:=(pL p hp).ex
    have hsg:=(hX _ hm).2.2
    exact U9 p hp (a2p _ hsg _ Mo p.d KH e)
   have hSd:∀ p∈SL,o.dst≠some p.d:=λ p hp e=>Va p hp (a2p _ (hX _ (qc p hp).mem).2.2 _ Mo p.d (qc p hp).dst e)
   have hSu:∀ p∈SL,∀ t,o.dst=some t->iq [t] p.o=true:=λ p hp t ht=>by
    have hm:=hX _ (qc p hp).mem
    have hlp:listed.getD p.i false=true:=(hl p.i (by have:=hm.1;simp only at this;omega)).2 ⟨hm.1,λ q=>Mn _ q _ (qc p hp).mem rfl, .inr (a8t.2 (.inr (a8A.2 ⟨p,hp,rfl⟩)))⟩
    rcases (qc p hp).run with ⟨hex,_⟩|⟨Dr,_⟩
    rotate_left
    .exact ZO Dr.1 _
    refine pV (a2s _ hm.2.2 hex) λ u hu=>?_
    simp only[a9q] at hu
    subst hu
    refine a8t.2 (.inl (iS.2 ⟨_,a9O.2 ⟨Mo,?_⟩,ht⟩))
    simp only[a8J]
    cases hb:Nat.testBit ((b9 ops.toList []).getD p.i 0) i with
    | false=>rfl
    | true=>exact absurd (Y4 p.i p.o (by have:=hm.1;simp only at this;omega) hm.2.1 hlp i hb).1 a2A
   have hw:Region.wanted o (yielded ops a.tmps)=true:=by simp[Region.wanted,hg]
   unfold wpOp
   simp only[cE]
   rw[a8O hw]
   refine .inl ?_
   by_cases KF:i∈R
   ·
    obtain⟨_,o',cQ,a0e,_,ru,hu⟩:=hR i KF
    rw[eW] at cQ
    simp only[a8o] at cQ
    subst cQ
    obtain⟨d,vc,hd,hr,fk⟩:=hs i KF o eW
    obtain⟨x,hx,hvx⟩:=TD hE hI hr fk
    have hu:iq (R.filterMap (cB ops.toList)++(PL.map PE.d++SL.map XE.d)) o=true:=pV hu λ t ht=>by
     rcases a8t.1 ht with ht|ht
     .obtain⟨j,hj,E9⟩:=a9T.1 ht
      obtain⟨q1,o',q2,_,q3,_⟩:=hR j hj
      refine iS.2 ⟨(j,o'),List.mem_filter.2 ⟨q3,?_⟩,by simpa [cB,q2] using E9⟩
      simp only[a8J]
      cases hb:Nat.testBit ((b9 ops.toList []).getD i 0) j with
      | false=>rfl
      | true=>exact absurd hj ((hl j (by omega)).1 (Ef j hb).1).2.1
     .obtain⟨zi,zo,hm,hlz,KH⟩:∃ zi zo,(zi,zo)∈X/\dF c.E zo=true/\zo.dst=some t:=by
       rcases a8t.1 ht with ht|ht
       .obtain⟨p,hp,rfl⟩:=a8A.1 ht
        obtain⟨o2,T,τ,r,hm,bE,KH,_⟩:=(pL p hp).ex
        exact⟨_,o2,hm,by simp[dF,qt,bE],KH⟩
       .obtain⟨p,hp,rfl⟩:=a8A.1 ht
        exact⟨_,p.o,(qc p hp).mem,(qc p hp).lz,(qc p hp).dst⟩
      have hsg:=(hX _ hm).2.2
      by_cases hb:Nat.testBit ((b9 ops.toList []).getD i 0) zi=true
      .simp only[pT,a8r,a9a,b0c,a8J] at ru
       rcases ru.2 _ hsg with q|q
       .rw[ES (Uw q)] at hlz;cases hlz
       .rw[hb] at q;cases q
      .exact iS.2 ⟨_,List.mem_filter.2 ⟨hsg,by simpa using hb⟩,KH⟩
    unfold Oper.wp
    rw[hA.exec hu,hx]
    show wpAny c.P .any ops Q' fuel _ (a.put o.dst x) w
    have hfl:(R.erase i).length+1=R.length:=by
     have:=b0u KF
     have:=b0G KF
     omega
    have Jc:∀ t,t∈(R.erase i).filterMap (cB ops.toList)->t∈R.filterMap (cB ops.toList):=λ t ht=>by
     obtain⟨q,hq,hqd⟩:=a9T.1 ht
     exact a9T.2 ⟨q,b0a hq,hqd⟩
    refine ih fuel Rc X (R.erase i) PL SL G t (a.put o.dst x) (b.put o.dst x) w _ (by omega) (by omega) (by rw[a9I];exact cO) (λ j hj=>?_) hX (Gb.erase i) Mq (λ j hj=>Mn j (b0a hj)) QC V9 (λ p hp=>(pL p hp).put (hPd p hp)) (λ e he=>(qc e he).put hA.da (hSd e he) (hSu e he)) (λ k hk=>?_) XA (by rw[hd];exact a1m hI hvx) (hA.put λ q hq Um=>?_) (λ j hj=>hs j (b0a hj)) _ hK
    .exact hR j (b0a hj)
    .rw[Eg,hl k hk,Gb.mem_erase_iff]
     constructor
     .rintro (⟨q1,q2,q3⟩|rfl)
      .exact⟨q1,λ q=>q2 q.2,q3⟩
      .exact⟨u7,λ q=>q.1 rfl, .inl λ x hx=>(Mn _ KF x hx).symm⟩
     .rintro⟨q1,q2,q3⟩
      by_cases Iw:k=i
      .exact .inr Iw
      .exact .inl ⟨q1,λ q=>q2 ⟨Iw,q⟩,q3⟩
    .rcases a8t.1 hq with hq|hq
     .obtain⟨j,hj,E9⟩:=a9T.1 hq
      by_cases vR:j=i
      .subst vR
       rw[<-E9]
       simp[cB,eW]
      .exact absurd (a8t.2 (.inl (a9T.2 ⟨j,Gb.mem_erase_iff.2 ⟨vR,hj⟩,E9⟩))) Um
     .exact absurd (a8t.2 (.inr hq)) Um
   .obtain⟨x,hx,XP⟩:=hXi KF
    have hxo:x=(i,o):=by
     have:=(hX x hx).2.1
     rw[XP,eW] at this
     simp only[a8o] at this
     rw[<-XP,this]
    subst hxo
    have hZ:∀ b,(∃ p∈PL,p.b=b)->xu c G t.af w b:=λ b ⟨p,hp,e⟩=>e ▸ (pL p hp).fr
    by_cases hal:qt o.op=true
    ·
     have QD:=Rn _ Mo
     obtain⟨T,bE⟩:∃ T,o.op = .alloc T:=by
      unfold qt at hal
      split at hal
      .exact⟨_,by assumption⟩
      .cases hal
     unfold sw at QD
     simp only[bE,a8r,b1Y] at QD
     obtain⟨⟨d,hd⟩,KD,⟨⟨τ,r⟩,hT⟩⟩:=QD
     simp only[hd,vL,b1C] at KD
     obtain⟨w',p,hpi,hpd,hpb,cZ,zd,hpo,AY⟩:=VZ hE hI (a2:=a) bE hd hT KD hx
     unfold Oper.wp
     rw[cZ]
     show wpAny c.P .any ops Q' fuel _ (a.put o.dst p.x) w'
     rw[hd]
     refine ih fuel Rc X R (p::PL) SL G t (a.put (some d) p.x) b w' _ (by omega) (by simp;omega) (by rw[a9I];exact cO) hR hX Gb Mq Mn ?_ ?_ (λ q hq=>?_) (λ e he=>(qc e he).put hA.da (by rw[<-hd];exact hSd e he) (by rw[<-hd];exact hSu e he)) (λ k hk=>?_) XA zd ?_ hs _ hK
     .simp only[a9k,a9y,a9j]
      refine⟨λ hm=>?_,QC⟩
      rcases a8t.1 hm with hm|hm
      .obtain⟨q,hq,e⟩:=a8A.1 hm
       exact U9 q hq (by rw[e,hpi])
      .obtain⟨q,hq,e⟩:=a8A.1 hm
       exact Va q hq (by rw[e,hpi])
     .simp only[a9k,a9j]
      refine⟨λ hm=>?_,V9⟩
      obtain⟨q,hq,e⟩:=a8A.1 hm
      have:=(pL q hq).fr.2.2.1
      rw[e,hpb] at this
      exact b0K _ this
     .rcases a8I.1 hq with rfl|hq
      .exact hpo
      .have h3:=(pL q hq).put (d:=some d) (x:=p.x) (by rw[<-hd];exact hPd q hq)
       have bS:=h3.fr.2.2.1
       refine⟨h3.ex,h3.val,h3.ptr,h3.lt,?_,h3.fr.grow AY.size⟩
       obtain⟨l,ty,q1,q2⟩:=h3.new
       exact⟨l,ty,by rw[AY.block q.b bS (λ h=>h)];exact q1,q2⟩
     .rw[Eg,hl k hk,a9k,a9y,a8I,hpi]
      constructor
      .rintro (⟨q1,q2,q3⟩|rfl)
       .exact⟨q1,q2,q3.imp id .inr⟩
       .exact⟨u7,KF, .inr (.inl rfl)⟩
      .rintro⟨q1,q2,q3⟩
       by_cases Iw:k=i
       .exact .inr Iw
       .exact .inl ⟨q1,q2,q3.imp id λ q=>q.resolve_left Iw⟩
     .refine⟨by rw[jw];exact hA.size,by rw[mU];exact hA.da,hA.db,λ u hu=>?_⟩
      simp only[a9k,a9y,a8t,a8I,hpd] at hu
      rw[eM,if_neg (λ q=>hu (.inr (.inl (by simpa using q.1.symm))))]
      exact hA.at' u λ hm=>hu ((a8t.1 hm).imp id λ q => .inr (a8t.1 q))
    by_cases hex:nj o.op=true
    ·
     obtain⟨tt,ix,bE⟩:∃ tt ix,o.op = .extract tt ix:=by
      have:=hex
      unfold nj at this
      split at this
      .exact⟨_,_,by assumption⟩
      .cases this
     have a6O:zM t o.op=true:=by
      obtain⟨x0,xs,rfl⟩:∃ x0 xs,X=x0::xs:=by
       cases X with
       | nil=>cases hx
       | cons x0 xs=>exact⟨x0,xs,rfl⟩
      obtain⟨_,h3,_⟩:=KQ hK
      unfold WC at h3
      rw[a9a] at h3
      have h4:=h3 _ hx
      rw[b0c] at h4
      rcases h4 with h4|h4
      .exact h4
      .rw[List.any_eq_true] at h4
       obtain⟨y,hy,h4⟩:=h4
       rw[a8r,a8J] at h4
       have h5:=(Ef y.1 h4.2).1
       have h6:=(hX y hy).1
       rcases ((hl y.1 (by omega)).1 h5).2.2 with h7|h7
       .exact absurd rfl (h7 y hy)
       .have hyl:dF c.E y.2=true:=by
         have e0:=(hX y hy).2.1
         rcases a8t.1 h7 with h7|h7
         .obtain⟨p,hp,e⟩:=a8A.1 h7
          obtain⟨o2,T,τ,r,hm,SG,KH,_⟩:=(pL p hp).ex
          have e1:=(hX _ hm).2.1
          simp only at e1
          rw[e,e0] at e1
          simp only[a8o] at e1
          rw[e1]
          simp[dF,qt,SG]
         .obtain⟨p,hp,e⟩:=a8A.1 h7
          have e1:=(hX _ (qc p hp).mem).2.1
          simp only at e1
          rw[e,e0] at e1
          simp only[a8o] at e1
          rw[e1]
          simp[(qc p hp).lz]
        rw[hyl] at h4
        exact absurd h4.1 (by simp)
     obtain⟨x,cZ⟩:=V2 hI bE a6O
     have QD:=a2s _ Mo hex
     obtain⟨d,hd⟩:∃ d,o.dst=some d:=by
      have:=Rn _ Mo
      simp only[sw,bE,b1Y] at this
      exact this
     have hDu:∀ u,u∈R.filterMap (cB ops.toList)++(PL.map PE.d++SL.map XE.d)->u∈dstsOf (Seg.filter λ y => !Nat.testBit ((b9 ops.toList []).getD i 0) y.1)++uI c.E Seg:=λ u hu=>by
      rcases a8t.1 hu with hu|hu
      .obtain⟨j,hj,E9⟩:=a9T.1 hu
       obtain⟨q1,o',q2,_,q3,_⟩:=hR j hj
       refine List.mem_append.2 (.inl (iS.2 ⟨(j,o'),List.mem_filter.2 ⟨q3,?_⟩,by simpa [cB,q2] using E9⟩))
       simp only[a8J]
       cases hb:Nat.testBit ((b9 ops.toList []).getD i 0) j with
       | false=>rfl
       | true=>exact absurd hj ((hl j (by omega)).1 (Ef j hb).1).2.1
      .rcases a8t.1 hu with hu|hu
       .obtain⟨p,hp,rfl⟩:=a8A.1 hu
        obtain⟨o2,T,τ,r,hm,SG,KH,_⟩:=(pL p hp).ex
        exact a8t.2 (.inr (pd c.E (hX _ hm).2.2 (by simp[dF,qt,SG]) KH))
       .obtain⟨q,hq,rfl⟩:=a8A.1 hu
        exact a8t.2 (.inr (pd c.E (hX _ (qc q hq).mem).2.2 (qc q hq).lz (qc q hq).dst))
     have a2C:∀ w',(execOp a.eval o).run c.P w' = .ok (.value x) w':=λ w'=>by
      rw[hA.exec (pV QD hDu)]
      exact cZ w'
     have a5D:iq [d] o=true:=pV QD λ u hu=>by
      simp only[a9q] at hu
      subst hu
      exact a8t.2 (.inr (pd c.E Mo (by simp[dF,hex]) hd))
     unfold Oper.wp
     rw[a2C w]
     show wpAny c.P .any ops Q' fuel _ (a.put o.dst x) w
     rw[hd]
     refine ih fuel Rc X R PL (⟨i,d,x,o⟩::SL) G t (a.put (some d) x) b w _ (by omega) (by simp;omega) (by rw[a9I];exact cO) hR hX Gb Mq Mn ?_ V9 (λ q hq=>(pL q hq).put (by rw[<-hd];exact hPd q hq)) (λ e he=>?_) (λ k hk=>?_) XA hI ?_ hs _ hK
     .rw[a9k]
      refine (List.perm_middle.nodup_iff).2 (a9j.2 ⟨λ hm=>?_,QC⟩)
      rcases a8t.1 hm with hm|hm
      .obtain⟨q,hq,e⟩:=a8A.1 hm
       exact U9 q hq e
      .obtain⟨q,hq,e⟩:=a8A.1 hm
       exact Va q hq e
     .rcases a8I.1 he with rfl|he
      .refine⟨hx,hd,?_, .inl ⟨hex,λ w'=>?_⟩⟩
       .simp only[eM,jw,a9l]
        split
        .rfl
        .rename_i bS
         first|rfl|(rw[a9n,a9S (by omega)];rfl)
       .have hA':p8 [d] (a.put (some d) x) a:=⟨jw a _ x,by rw[mU];exact hA.da,hA.da,λ u hu=>by rw[eM,if_neg (λ q=>hu (by simpa using q.1.symm))]⟩
        show (execOp (a.put (some d) x).eval o).run c.P w'=_
        rw[hA'.exec a5D]
        exact a2C w'
      .exact (qc e he).put hA.da (by rw[<-hd];exact hSd e he) (by rw[<-hd];exact hSu e he)
     .rw[Eg,hl k hk,a9k]
      constructor
      .rintro (⟨q1,q2,q3⟩|rfl)
       .refine⟨q1,q2,q3.imp (λ q=>q) λ q=>?_⟩
        rcases a8t.1 q with q|q
        .exact a8t.2 (.inl q)
        .exact a8t.2 (.inr (b0d _ q))
       .exact⟨u7,KF, .inr (a8t.2 (.inr (b0Q ..)))⟩
      .rintro⟨q1,q2,q3⟩
       by_cases Iw:k=i
       .exact .inr Iw
       .refine .inl ⟨q1,q2,q3.imp (λ q=>q) λ q=>?_⟩
        rcases a8t.1 q with q|q
        .exact a8t.2 (.inl q)
        .exact a8t.2 (.inr ((a8I.1 q).resolve_left Iw))
     .refine⟨by rw[jw];exact hA.size,by rw[mU];exact hA.da,hA.db,λ u hu=>?_⟩
      simp only[a9k,a8t,a8I] at hu
      rw[eM,if_neg (λ q=>hu (.inr (.inr (.inl (by simpa using q.1.symm)))))]
      exact hA.at' u λ hm=>hu ((a8t.1 hm).imp (λ q=>q) λ q=>(a8t.1 q).imp (λ q=>q) .inr)
    by_cases Dr:wZ o.op=true/\G6 c.E o=true
    ·
     have QD:=Rn _ Mo
     obtain⟨d,hd⟩:∃ d,o.dst=some d:=by
      obtain⟨T,bE⟩:=ML Dr.1
      unfold sw at QD
      rw[bE,Dr.2] at QD
      cases hd:o.dst with
      | some d=>exact⟨d,rfl⟩
      | none=>rw[hd] at QD;simp at QD
     obtain⟨w',x,cZ,zd,Zk,AY⟩:=Xo hE hI (a2:=a) Dr QD hd
     unfold Oper.wp
     rw[cZ]
     show wpAny c.P .any ops Q' fuel _ (a.put o.dst x) w'
     rw[hd]
     refine ih fuel Rc X R PL (⟨i,d,x,o⟩::SL) G t (a.put (some d) x) b w' _ (by omega) (by simp;omega) (by rw[a9I];exact cO) hR hX Gb Mq Mn ?_ V9 (λ q hq=>?_) (λ e he=>?_) (λ k hk=>?_) XA zd ?_ hs _ hK
     .rw[a9k]
      refine (List.perm_middle.nodup_iff).2 (a9j.2 ⟨λ hm=>?_,QC⟩)
      rcases a8t.1 hm with hm|hm
      .obtain⟨q,hq,e⟩:=a8A.1 hm
       exact U9 q hq e
      .obtain⟨q,hq,e⟩:=a8A.1 hm
       exact Va q hq e
     .have h3:=(pL q hq).put (d:=some d) (x:=x) (by rw[<-hd];exact hPd q hq)
      have bS:=h3.fr.2.2.1
      refine⟨h3.ex,h3.val,h3.ptr,h3.lt,?_,h3.fr.grow AY.size⟩
      obtain⟨l,ty,q1,q2⟩:=h3.new
      exact⟨l,ty,by rw[AY.block q.b bS (λ h=>h)];exact q1,q2⟩
     .rcases a8I.1 he with rfl|he
      .refine⟨hx,hd,?_, .inr ⟨Dr,Zk⟩⟩
       simp only[eM,jw,a9l]
       split
       .rfl
       .rename_i bS
        first|rfl|(rw[a9n,a9S (by omega)];rfl)
      .exact (qc e he).put hA.da (by rw[<-hd];exact hSd e he) (by rw[<-hd];exact hSu e he)
     .rw[Eg,hl k hk,a9k]
      constructor
      .rintro (⟨q1,q2,q3⟩|rfl)
       .refine⟨q1,q2,q3.imp (λ q=>q) λ q=>?_⟩
        rcases a8t.1 q with q|q
        .exact a8t.2 (.inl q)
        .exact a8t.2 (.inr (b0d _ q))
       .exact⟨u7,KF, .inr (a8t.2 (.inr (b0Q ..)))⟩
      .rintro⟨q1,q2,q3⟩
       by_cases Iw:k=i
       .exact .inr Iw
       .refine .inl ⟨q1,q2,q3.imp (λ q=>q) λ q=>?_⟩
        rcases a8t.1 q with q|q
        .exact a8t.2 (.inl q)
        .exact a8t.2 (.inr ((a8I.1 q).resolve_left Iw))
     .refine⟨by rw[jw];exact hA.size,by rw[mU];exact hA.da,hA.db,λ u hu=>?_⟩
      simp only[a9k,a8t,a8I] at hu
      rw[eM,if_neg (λ q=>hu (.inr (.inr (.inl (by simpa using q.1.symm)))))]
      exact hA.at' u λ hm=>hu ((a8t.1 hm).imp (λ q=>q) λ q=>(a8t.1 q).imp (λ q=>q) .inr)
    ·
     have a7c:dF c.E o=false:=by
      simp only[dF,b2m]
      exact⟨by simpa using hal,by simpa using hex,by
       cases q1:wZ o.op
       .rfl
       .cases q2:G6 c.E o
        .rfl
        .exact absurd ⟨q1,q2⟩ Dr⟩
     have hlz:∀ z∈X,Nat.testBit ((b9 ops.toList []).getD i 0) z.1=true->dF c.E z.2=true/\z.1∈PL.map PE.i++SL.map XE.i:=λ z hz hb=>by
      have h3:=(Ef z.1 hb).1
      have h4:=(hX z hz).1
      rcases ((hl z.1 (by omega)).1 h3).2.2 with h5|h5
      .exact absurd rfl (h5 z hz)
      .refine⟨?_,h5⟩
       have e0:=(hX z hz).2.1
       rcases a8t.1 h5 with h7|h7
       .obtain⟨p,hp,e⟩:=a8A.1 h7
        obtain⟨o2,T,τ,r,hm,SG,KH,_⟩:=(pL p hp).ex
        have e1:=(hX _ hm).2.1
        simp only at e1
        rw[e,e0] at e1
        simp only[a8o] at e1
        rw[e1]
        simp[dF,qt,SG]
       .obtain⟨p,hp,e⟩:=a8A.1 h7
        have e1:=(hX _ (qc p hp).mem).2.1
        simp only at e1
        rw[e,e0] at e1
        simp only[a8o] at e1
        rw[e1]
        exact (qc p hp).lz
     obtain⟨mm,hu0,hK⟩:=Zw (y:=(i,o)) hK hx Mq (by
      simp only[R6,a7c,a8v,a9B,a9a,b0c,a8J]
      intro z hz
      cases hb:Nat.testBit ((b9 ops.toList []).getD i 0) z.1 with
      | false=>exact .inr rfl
      | true=>exact .inl (hlz z hz hb).1) (λ x0 xs e hz=>by
      cases hb:Nat.testBit ((b9 ops.toList []).getD i 0) x0.1 with
      | false=>rfl
      | true =>
       rcases a8t.1 (hlz x0 (by rw[e];simp) hb).2 with h5|h5
       .obtain⟨p,hp,e'⟩:=a8A.1 h5
        exact absurd ⟨x0,xs,p,e,hp,e'⟩ Rm
       .obtain⟨p,hp,e'⟩:=a8A.1 h5
        exact absurd ⟨x0,xs,p,e,hp,e'⟩ Mr)
     have hxm:∀ z,z∈X->z.1≠i->z∈X.filter λ z => !Nat.beq z.1 i:=λ z hz fG=>a9O.2 ⟨hz,by rw[a0k.2 fG];rfl⟩
     have a0h:∀ z,z∈(X.filter λ z => !Nat.beq z.1 i)->z∈X/\z.1≠i:=λ z hz=>⟨(List.mem_filter.1 hz).1,a0k.1 (by simpa using (List.mem_filter.1 hz).2)⟩
     have vS:(X.filter λ z => !Nat.beq z.1 i).length+1=X.length:=U0 hx Mq
     generalize ot:(X.filter λ z => !Nat.beq z.1 i)=xs at *
     have hxn:(xs.map (·.1)).Nodup:=by rw[<-ot];exact Mq.sublist (b1g _ b2t)
     .simp only at hu0 hK
      have gG:∀ j∈R,∃ o',ops.toList[j]?=some o'/\(j,o')∈Rc.filter λ r => !Nat.testBit ((b9 ops.toList []).getD i 0) r.1:=λ j hj=>by
       obtain⟨q1,o',q2,q3,_,_⟩:=hR j hj
       refine⟨o',q2,a9O.2 ⟨q3,?_⟩⟩
       simp only[a8J]
       cases hb:Nat.testBit ((b9 ops.toList []).getD i 0) j with
       | false=>rfl
       | true=>exact absurd hj ((hl j (by omega)).1 (Ef j hb).1).2.1
      have hu:iq (R.filterMap (cB ops.toList)++(PL.map PE.d++SL.map XE.d)) o=true:=pV hu0 λ t ht=>by
       rcases a8t.1 ht with ht|ht
       .obtain⟨j,hj,E9⟩:=a9T.1 ht
        obtain⟨o',q2,q3⟩:=gG j hj
        exact List.mem_append.2 (.inl (iS.2 ⟨(j,o'),q3,by simpa [cB,q2] using E9⟩))
       .rcases a8t.1 ht with ht|ht
        .obtain⟨p,hp,rfl⟩:=a8A.1 ht
         obtain⟨o2,T,τ,r,hm,bE,KH,_⟩:=(pL p hp).ex
         exact a8t.2 (.inr (pd c.E (hxm _ hm (U9 p hp)) (by simp[dF,qt,bE]) KH))
        .obtain⟨p,hp,rfl⟩:=a8A.1 ht
         exact a8t.2 (.inr (pd c.E (hxm _ (qc p hp).mem (Va p hp)) ((qc p hp).lz) (qc p hp).dst))
      have hIz:=hI.fz hZ
      refine a1y (hA.exec hu) ?_ ?_ (Nf (c:=c.fz w G.S λ b=>∃ p∈PL,p.b=b) hE hIz hK (Q:=λ _ _ _=>False))
      .rintro x w' ⟨G',s',a6F,hsr⟩
       obtain⟨zd,iw⟩:=hI.a7G hZ a6F
       obtain⟨k1,k2⟩:=n7 hsr
       refine ih fuel _ xs R PL SL G' s' (a.put o.dst x) (b.put o.dst x) w' _ (by omega) (by omega) (by rw[a9I];exact cO) (λ j hj=>?_) (λ y hy=>hX y (a0h y hy).1) Gb hxn (λ j hj y hy=>Mn j hj y (a0h y hy).1) QC V9 (λ p hp=>?_) (λ e he=>?_) (λ k hk=>?_) XA zd (hA.put λ q hq Um=>absurd hq Um) (λ j hj o' cQ=>?_) _ k2
       .obtain⟨q1,o',q2,q3,q4,q7⟩:=hR j hj
        obtain⟨o2,q5,q6⟩:=gG j hj
        have e:o'=o2:=by rw[q2] at q5;simpa using q5
        subst e
        exact⟨q1,o',q2,q6,q4,q7⟩
       .have h3:=(pL p hp).put (d:=o.dst) (x:=x) (hPd p hp)
        obtain⟨e1,e2⟩:=iw p.b ⟨p,hp,rfl⟩
        refine⟨?_,h3.val,h3.ptr,h3.lt,?_,e2⟩
        .obtain⟨o2,T,τ,r,hm,m2,m3,m4,m5⟩:=h3.ex
         exact⟨o2,T,τ,r,hxm _ hm (U9 p hp),m2,m3,m4,m5⟩
        .obtain⟨l,ty,q1,q2⟩:=h3.new
         exact⟨l,ty,by rw[e1];exact q1,q2⟩
       .have h3:=(qc e he).put (x:=x) hA.da (hSd e he) (hSu e he)
        exact⟨hxm _ h3.mem (Va e he),h3.dst,h3.val,h3.run⟩
       .rw[Eg,hl k hk]
        constructor
        .rintro (⟨q1,q2,q3⟩|rfl)
         .exact⟨q1,q2,q3.imp (λ q y hy=>q y (a0h y hy).1) λ q=>q⟩
         .exact⟨u7,KF, .inl λ y hy e=>(a0h y hy).2 e⟩
        .rintro⟨q1,q2,q3⟩
         by_cases Iw:k=i
         .exact .inr Iw
         .refine .inl ⟨q1,q2,q3.imp (λ q y hy=>?_) λ q=>q⟩
          by_cases e:y.1=i
          .rw[e];exact Ne.symm Iw
          .exact q y (hxm y hy e)
       .obtain⟨o2,q5,q6⟩:=gG j hj
        rw[q5] at cQ
        simp only[a8o] at cQ
        subst cQ
        exact k1 (j,o2) q6
      .rintro b' w' ⟨G',s',zd,_⟩
       exact zd.defers
end
end Go.Proofs.YtmjfpcajohhbeaaGreatDoor

namespace Go.Proofs.YtmjfpcajohhbeaaGreatDoor
theorem zW{cf:List Nat}{p:Nat}(h:SR cf p=true){j k:Nat}(hj:p<=j)(hl:j<cf.length)(hk:k<p):Nat.testBit (cf.getD j 0) k=true:=by
 unfold SR at h
 rw[a9a] at h
 have hm:cf[j]∈cf.drop p:=by
  rw[List.mem_iff_getElem?]
  refine⟨j - p,?_⟩
  rw[b0l,show p+(j - p)=j by omega,a8P hl]
 have h1:=a8s (h _ hm)
 rw[a8H,a8P hl,b1e]
 have h2:Nat.testBit (cf[j] % 2 ^ p) k=true:=by rw[h1,Nat.testBit_two_pow_sub_one];simpa using hk
 rw[Nat.testBit_mod_two_pow] at h2
 simp only[a8r] at h2
 exact h2.2
theorem VA{l:List Oper}{es:List NT}{lo m bits:Nat}{s0:ah}{π π':List Nat}(sH:∀ j k t,lo<=j->j<m->lo<=k->k<m->cB l j=some t->cB l k=some t->j=k)
  (Zn:∀ k∈π,lo<=k/\k<m) (SQ:∀ k∈π',lo<=k/\k<m) (hn:π.Nodup) (AZ:π'.Nodup) (ha:∀ k,lo<=k->k<m->Nat.testBit bits k=true->k∈π/\k∈π') (t:Nat) (hh:hidden l m bits t=false) :
  (ej l es s0 π).sl t=(ej l es s0 π').sl t/\(ej l es s0 π).af t=(ej l es s0 π').af t:=by
 by_cases hex:∃ k,lo<=k/\k<m/\cB l k=some t
 .obtain⟨k,cG,hk,hd⟩:=hex
  have hb:Nat.testBit bits k=true:=by
   have:=hh
   unfold hidden at this
   rw[a9X] at this
   have:=this k (by simpa using hk)
   simp only[hd] at this
   simp only[b1V] at this
   simpa using this
  obtain⟨h1,h2⟩:=ha k cG hk hb
  obtain⟨e1,e2⟩:=yM l es t k hd π s0 h1 hn (λ j hj fG E9=>fG (sH j k t (Zn j hj).1 (Zn j hj).2 cG hk E9 hd))
  obtain⟨e3,e4⟩:=yM l es t k hd π' s0 h2 AZ (λ j hj fG E9=>fG (sH j k t (SQ j hj).1 (SQ j hj).2 cG hk E9 hd))
  exact⟨e1.trans e3.symm,e2.trans e4.symm⟩
 .have k9:∀ k,lo<=k->k<m->cB l k≠some t:=λ k hl hk hd=>hex ⟨k,hl,hk,hd⟩
  obtain⟨e1,e2⟩:=iT l es t π s0 (λ k hk=>k9 k (Zn k hk).1 (Zn k hk).2)
  obtain⟨e3,e4⟩:=iT l es t π' s0 (λ k hk=>k9 k (SQ k hk).1 (SQ k hk).2)
  exact⟨e1.trans e3.symm,e2.trans e4.symm⟩
def gw(lo i:Nat):List Nat:=List.range' lo (i - lo)
theorem CL{lo i k:Nat}:k∈gw lo i↔lo<=k/\k<i:=by
 unfold gw
 rw[List.mem_range'_1]
 omega
theorem K7(lo i:Nat):(gw lo i).Nodup:=List.nodup_range'
theorem a1o{lo i:Nat}(h:lo<=i):gw lo (i+1)=gw lo i++[i]:=by
 unfold gw
 rw[show i+1 - lo=(i - lo)+1 by omega,List.range'_1_concat,show lo+(i - lo)=i by omega]
theorem T0{E:Env}{l:List Oper}{m lo:Nat}{cf:List Nat}{s0:ah}:∀ (r:List Oper) (i:Nat) (es AR:List NT) (s s':ah),Trace E l m cf i r es s s'->(∀ j o,r[j]?=some o->l[i+j]?=some o)->AR.length=i->lo<=i ->
  s=ej l (AR++es) s0 (gw lo i) ->
  (∀ j o,r[j]?=some o->Ry E l m (cf.getD (i+j) 0) (ej l (AR++es) s0 (gw lo (i+j))) o ((AR++es).getD (i+j) ⟨false, .any,none⟩))/\s'=ej l (AR++es) s0 (gw lo (i+r.length))
 | [],i,[],AR,s,s',h,_,_,_,hs=>by
  have h:s=s':=h
  subst h
  exact⟨by simp,by simpa using hs⟩
 | o::r,i,e::es,AR,s,s',h,hl,h0,hlo,hs=>by
  obtain⟨h1,h2⟩:=h
  have ho:l[i]?=some o:=hl 0 o rfl
  have XF:(AR++e::es).getD i ⟨false, .any,none⟩=e:=by simp[a8H,<-h0]
  have cw:s.mH o.dst e.v e.ob=ej l ((AR++[e])++es) s0 (gw lo (i+1)):=by
   rw[a9r,a1o hlo,xo,b0X,XF,<-hs]
   simp[cB,ho]
  have ih:=T0 r (i+1) es (AR++[e]) _ s' h2 (λ j p hj=>by
   have:=hl (j+1) p (by simpa using hj)
   rwa [show i+(j+1)=i+1+j by omega] at this) (by simp[h0]) (by omega) cw
  rw[a9r,b0X] at ih
  refine⟨λ j p hj=>?_,by rw[ih.2];congr 2;simp;omega⟩
  cases j with
  | zero =>
   simp at hj
   subst hj
   rw[b0k,XF,<-hs]
   exact h1
  | succ j =>
   have:=ih.1 j p (by simpa using hj)
   rwa [show i+1+j=i+(j+1) by omega] at this
 | [],_,_::_,_,_,_,h,_,_,_,_=>h.elim
 | _::_,_,[],_,_,_,h,_,_,_,_=>h.elim
theorem Tj:∀ (l π:List Nat),l.Nodup->(∀ k∈l,k∈π)->l.length<=π.length
 | [],_,_,_=>by simp
 | x::l,π,hn,h=>by
  have AZ:=a9j.1 hn
  have hx:=h x (by simp)
  have h1:=Tj l (π.erase x) AZ.2 (λ k hk=>by
   have fG:k≠x:=λ e=>by subst e;exact AZ.1 hk
   exact (b0L fG).2 (h k (by simp[hk])))
  have h3:=b0u hx
  have:0<π.length:=b0G hx
  simp only[a8C]
  omega
theorem Ti{lo m:Nat}(π:List Nat)(hn:π.Nodup)(h:∀ k∈π,lo<=k/\k<m):π.length<=m - lo:=by
 have h1:(List.range lo++π).Nodup:=by
  rw[a8S]
  refine⟨b1x,hn,λ x hx y hy e=>?_⟩
  simp at hx
  have:=(h y hy).1
  omega
 have h2:=xn (max lo m) (List.range lo++π) h1 (λ k hk=>by
  rcases a8t.1 hk with hk|hk
  .simp at hk;omega
  .have:=(h k hk).2;omega)
 rw[a8K,List.length_range] at h2
 cases π with
 | nil=>simp
 | cons k r =>
  have:=h k (by simp)
  omega
section
variable {c:Ctx} {G:Gh} {s:ah} {a:Act} {w w':World}
theorem a2Y(hE:bP c.P c.E){ops:Array Oper}{j:Nat}(dX:backward ops.toList=true)(hj:j<ops.size)(hcut:∀ i,j<i->i<ops.size->Nat.testBit ((b9 ops.toList []).getD i 0) j=true)
  {P:ah->Prop} {Q':Exit->Act->World->Prop} {fuel:Nat} {kn:List (Nat×Bool)} {listed:Array Bool} (cO:listed.size=ops.size) (hl:∀ k,k<ops.size->(listed.getD k false=true↔k<j))
  (hI:Inv c G s a w) (hr:gb c.E ops [ops[j]] kn P s)
  (xQ:∀ G s a w (listed:Array Bool),listed.size=ops.size->(∀ k,k<ops.size->(listed.getD k false=true↔k<j+1))->Inv c G s a w->P s->wpAny c.P .any ops Q' fuel listed a w):wpAny c.P .any ops Q' (fuel+1) listed a w:=by
 have ho:ops[j]?=some ops[j]:=a9H hj
 constructor
 .intro xR
  have:j∈Region.ready .any ops listed:=(mem_ready cO).2 ⟨_,ho,by
   cases hb:listed.getD j false with
   | false=>rfl
   | true=>have:=(hl j hj).1 hb;omega,λ e he hb=>by
   have:=cb dX j ops[j] (by simp) e he hb
   exact (hl e.on (by omega)).2 this⟩
  rw[xR] at this
  cases this
 .intro i hi
  obtain⟨o,cE,h1,h2⟩:=(mem_ready cO).1 hi
  have Jb:=(a9x.1 cE).1
  have Wk:j<=i:=by
   rcases a9t i j with h|h
   .have:=(hl i Jb).2 h
    rw[h1] at this
    cases this
   .exact h
  have Cd:i=j:=by
   rcases a9t j i with h|h
   .have gG:=FB (l:=ops.toList) (D:=λ k=>k<j) (λ k hk o' cQ e he hb=>by
     have:=cb dX k o' cQ e he hb;omega) i o (by simpa using cE) (λ e he hb=>by
      have bS:=cb dX i o (by simpa using cE) e he hb
      exact (hl e.on (by omega)).1 (h2 e he hb)) j (hcut i h Jb)
    omega
   .omega
  subst Cd
  have Eg:∀ k,k<ops.size->((listed.setIfInBounds i true).getD k false=true↔k<i+1):=λ k hk=>by
   rw[vt (by omega),hl k hk];omega
  unfold wpOp
  simp only[ho]
  have qe:=C2 hE hI hr
  split at qe
  .rename_i hw
   rw[a8O hw]
   exact .inl (a9V (λ a' w' ⟨G',s',ry,h1,h2⟩=>xQ G' s' a' w' _ (by rw[a9I];exact cO) Eg h1 h2) (qe Q'))
  .rename_i hw
   rw[a8y hw]
   obtain⟨G',s',ry,h1,h2⟩:=qe
   exact xQ G' s' _ w _ (by rw[a9I];exact cO) Eg h1 h2
theorem a1L(hE:bP c.P c.E){ops:Array Oper}{lo m:Nat}{es:List NT}{s0:ah}(dX:backward ops.toList=true)(hm:m<=ops.size)
  (sG:∀ j o,m<=j->ops.toList[j]?=some o->∀ k,k<m->Nat.testBit ((b9 ops.toList []).getD j 0) k=true)
  (a6Z:∀ j o,lo<=j->ops.toList[j]?=some o->∀ k,k<lo->Nat.testBit ((b9 ops.toList []).getD j 0) k=true)
  (sH:∀ j k t,lo<=j->j<m->k<m->cB ops.toList j=some t->cB ops.toList k=some t->j=k)
  (a2r:∀ i o,lo<=i->i<m->ops.toList[i]?=some o->Ry c.E ops.toList m ((b9 ops.toList []).getD i 0) (ej ops.toList es s0 (gw lo i)) o (es.getD i ⟨false, .any,none⟩))
  (KD:∀ i o,lo<=i->i<m->ops.toList[i]?=some o->vL o.dst=true) (tN:∀ i o t,lo<=i->i<m->ops.toList[i]?=some o->xG o.op=true->o.dst=some t->s0.af t=none)
  {Q':Exit->Act->World->Prop}
  (Ja:∀ (fuel:Nat) (G:Gh) (a:Act) (w:World) (listed:Array Bool),ops.size=m+fuel->listed.size=ops.size->(∀ k,k<ops.size->(listed.getD k false=true↔k<m))->Inv c G (ej ops.toList es s0 (gw lo m)) a w->wpAny c.P .any ops Q' fuel listed a w) :
  ∀ (fuel:Nat) (π:List Nat) (G:Gh) (a:Act) (w:World) (listed:Array Bool),ops.size=lo+π.length+fuel->π.Nodup->(∀ k∈π,lo<=k/\k<m)->listed.size=ops.size->(∀ k,k<ops.size->(listed.getD k false=true↔k<lo\/k∈π)) ->
   (∀ k∈π,∀ o,ops.toList[k]?=some o->∀ e∈o.after.toList,Region.binds .any e=true->e.on<lo\/e.on∈π)->lo<=m->Inv c G (ej ops.toList es s0 π) a w->wpAny c.P .any ops Q' fuel listed a w:=by
 have a2q:∀ j k t,lo<=j->j<m->lo<=k->k<m->cB ops.toList j=some t->cB ops.toList k=some t->j=k:=λ j k t h1 h2 _ h4=>sH j k t h1 h2 h4
 have fin:∀ (fuel:Nat) (π:List Nat) (G:Gh) (a:Act) (w:World) (listed:Array Bool),ops.size=lo+π.length+fuel->π.Nodup->(∀ k∈π,lo<=k/\k<m)->listed.size=ops.size->(∀ k,k<ops.size->(listed.getD k false=true↔k<lo\/k∈π)) ->
   lo<=m->(∀ k,lo<=k->k<m->k∈π)->Inv c G (ej ops.toList es s0 π) a w->wpAny c.P .any ops Q' fuel listed a w:=by
  intro fuel π G a w listed hf hn bS cO hl Wn nB hI
  have hlen:=Ti π hn bS
  have Wk:m - lo<=π.length:=by
   have h2:(gw lo m).length<=π.length:=Tj (gw lo m) π (K7 lo m) λ k hk=>nB k (CL.1 hk).1 (CL.1 hk).2
   simpa [gw] using h2
  have heq:∀ t,(ej ops.toList es s0 π).sl t=(ej ops.toList es s0 (gw lo m)).sl t/\(ej ops.toList es s0 π).af t=(ej ops.toList es s0 (gw lo m)).af t:=λ t =>
   VA (bits:=2 ^ m - 1) a2q bS (λ k hk=>CL.1 hk) hn (K7 lo m) (λ k cG hk _=>⟨nB k cG hk,CL.2 ⟨cG,hk⟩⟩) t (by
    unfold hidden
    rw[a9X]
    intro k hk
    simp only[b0E] at hk
    split
    .split
     .simp[b0H,hk]
     .simp
    .simp)
  refine Ja fuel G a w listed (by omega) cO (λ k hk=>?_) ?_
  .rw[hl k hk]
   constructor
   .rintro (h|h)
    .omega
    .exact (bS k h).2
   .intro h
    rcases a9t k lo with h'|h'
    .exact .inl h'
    .exact .inr (nB k h' h)
  .unfold Inv at hI ⊢
   rw[MI] at hI ⊢
   rw[<-funext λ t=>(heq t).1,<-funext λ t=>(heq t).2]
   exact hI
 intro fuel
 induction fuel with
 | zero =>
  intro π G a w listed hf hn bS cO hl xP Wn hI
  refine fin 0 π G a w listed hf hn bS cO hl Wn (λ k cG hk=>?_) hI
  cases hb:decide (k∈π) with
  | true=>exact a9e hb
  | false =>
   have:=Ti (lo:=lo) (m:=m) (k::π) (a9j.2 ⟨b0m hb,hn⟩) (λ j hj=>by
    rcases a8I.1 hj with rfl|hj
    .exact⟨cG,hk⟩
    .exact bS j hj)
   simp at this
   omega
 | succ fuel ih =>
  intro π G a w listed hf hn bS cO hl xP Wn hI
  by_cases nB:∀ k,lo<=k->k<m->k∈π
  .exact fin (fuel+1) π G a w listed hf hn bS cO hl Wn nB hI
  ·
   have hex:∃ k,lo<=k/\k<m/\k∉π/\∀ j,lo<=j->j<k->j∈π:=by
    have:∀ n,(∃ k,k<n/\lo<=k/\k<m/\k∉π)->∃ k,lo<=k/\k<m/\k∉π/\∀ j,lo<=j->j<k->j∈π:=by
     intro n
     induction n with
     | zero=>rintro⟨k,hk,_⟩;omega
     | succ n ihn =>
      rintro⟨k,hk,Mw,hkm,AY⟩
      by_cases hs:∃ k,k<n/\lo<=k/\k<m/\k∉π
      .exact ihn hs
      .refine⟨k,Mw,hkm,AY,λ j Ul hj=>?_⟩
       cases hb:decide (j∈π) with
       | true=>exact a9e hb
       | false=>exact absurd ⟨j,by omega,Ul,by omega,b0m hb⟩ hs
    refine this m ?_
    obtain⟨k,hk⟩:=b2j.1 nB
    have h2:=b1Q.1 hk
    have h3:=b1Q.1 h2.2
    exact⟨k,h3.1,h2.1,h3.1,h3.2⟩
   obtain⟨k0,a8l,a0b,u9,XK⟩:=hex
   have XG:ops[k0]?=some (ops[k0]'(by omega)):=a9H (by omega)
   constructor
   .intro xR
    have:k0∈Region.ready .any ops listed:=(mem_ready cO).2 ⟨_,XG,by
     cases hb:listed.getD k0 false with
     | false=>rfl
     | true =>
      rcases (hl k0 (by omega)).1 hb with h|h
      .omega
      .exact absurd h u9,λ e he hb=>by
     have XJ:=cb dX k0 ops[k0] (by simp) e he hb
     refine (hl e.on (by omega)).2 ?_
     rcases a9t e.on lo with h|h
     .exact .inl h
     .exact .inr (XK e.on h XJ)⟩
    rw[xR] at this
    cases this
   .intro i hi
    obtain⟨o,cE,h1,h2⟩:=(mem_ready cO).1 hi
    have Jb:=(a9x.1 cE).1
    have eW:ops.toList[i]?=some o:=by simpa using cE
    have Dr:¬ (i<lo\/i∈π):=λ hh=>by
     have:=(hl i Jb).2 hh
     rw[h1] at this
     cases this
    have wX:i∉π:=λ h=>Dr (.inr h)
    have hil:lo<=i:=by
     rcases a9t i lo with h|h
     .exact absurd (.inl h) Dr
     .exact h
    have SB:∀ e∈o.after.toList,Region.binds .any e=true->e.on<lo\/e.on∈π:=λ e he hb=>by
     have XJ:=cb dX i o eW e he hb
     exact (hl e.on (by omega)).1 (h2 e he hb)
    have Ef:=FB (l:=ops.toList) (D:=λ k=>k<lo\/k∈π) (λ k hk o' cQ e he hb=>by
     rcases hk with hk|hk
     .have:=cb dX k o' cQ e he hb
      exact .inl (by omega)
     .exact xP k hk o' cQ e he hb) i o eW SB
    have u7:i<m:=by
     rcases a9t i m with h|h
     .exact h
     .rcases Ef k0 (sG i o h eW k0 a0b) with h|h
      .omega
      .exact absurd h u9
    have Ms:=FB (l:=ops.toList) (D:=λ k=>k<i) (λ k hk o' cQ e he hb=>by
     have:=cb dX k o' cQ e he hb;omega) i o eW (λ e he hb=>cb dX i o eW e he hb)
    have KJ:=λ t hh=>VA (l:=ops.toList) (es:=es) (s0:=s0) (lo:=lo) (m:=m) (bits:=(b9 ops.toList []).getD i 0) (π:=π) (π':=gw lo i) a2q bS (λ k hk=>by have:=CL.1 hk;omega) hn (K7 lo i)
     (λ k cG hk hb=>⟨by
      rcases Ef k hb with h|h
      .omega
      .exact h,CL.2 ⟨cG,Ms k hb⟩⟩) t hh
    obtain⟨hg,cZ,Zh⟩:=a2r i o hil u7 eW
    have dc:Ug ops.toList m ((b9 ops.toList []).getD i 0) (ej ops.toList es s0 (gw lo i))=Ug ops.toList m ((b9 ops.toList []).getD i 0) (ej ops.toList es s0 π):=by
     funext x
     cases x with
     | tmp t =>
      simp only[Ug]
      split
      .rfl
      .rename_i hh
       exact ((KJ t hh).1).symm
     | _=>rfl
    have cG:QM ops.toList m ((b9 ops.toList []).getD i 0) (ej ops.toList es s0 (gw lo i))=QM ops.toList m ((b9 ops.toList []).getD i 0) (ej ops.toList es s0 π):=by
     funext t
     simp only[QM]
     split
     .rfl
     .rename_i hh
      exact ((KJ t hh).2).symm
    have hg':iC ops.toList ((b9 ops.toList []).getD i 0) (ej ops.toList es s0 π) o (es.getD i ⟨false, .any,none⟩).IJ:=by
     unfold iC at hg ⊢
     split
     .rename_i AZ
      simpa [AZ] using hg
     .rename_i g want AZ
      simp only[AZ] at hg
      obtain⟨t,b,q1,q2,q3,q4⟩:=hg
      refine⟨t,b,q1,q2,?_,q4⟩
      have hgm:g<m:=Nat.lt_trans (Ms g q2) u7
      have hh:hidden ops.toList m ((b9 ops.toList []).getD i 0) t=false:=by
       unfold hidden
       rw[a9X]
       intro k hk
       simp only[b0E] at hk
       split
       .rename_i d hd
        split
        .rename_i Gd
         have Gd:=a8s Gd
         subst Gd
         rcases a9t k lo with Mw|Mw
         .rw[a6Z i o hil eW k Mw];simp
         .have:=sH k g d Mw hk hgm hd q1
          subst this
          rw[q2];simp
        .simp
       .simp
      exact ((KJ t hh).1).trans q3
    have hw:=I8 (ops:=ops) rfl hI hg'
    have xQ:∀ (G':Gh) (a':Act) (w':World),Inv c G' (ej ops.toList es s0 (π++[i])) a' w'->wpAny c.P .any ops Q' fuel (listed.setIfInBounds i true) a' w':=by
     intro G' a' w' zd
     refine ih (π++[i]) G' a' w' _ (by simp;omega) ?_ ?_ (by rw[a9I];exact cO) ?_ ?_ Wn zd
     .rw[a8S]
      exact⟨hn,by simp,λ x hx y hy=>by simp at hy;subst hy;exact λ e=>wX (e ▸ hx)⟩
     .intro k hk
      rcases a8t.1 hk with hk|hk
      .exact bS k hk
      .simp at hk;omega
     .intro k hk
      rw[vt (by omega),hl k hk]
      simp[or_assoc]
     .intro k hk o' cQ e he hb
      rcases a8t.1 hk with hk|hk
      .exact (xP k hk o' cQ e he hb).imp id (b0v _)
      .simp at hk
       subst hk
       rw[eW] at cQ
       simp only[a8o] at cQ
       subst cQ
       exact (SB e he hb).imp id (b0v _)
    have Ok:cB ops.toList i=o.dst:=by simp[cB,eW]
    unfold wpOp
    simp only[cE]
    cases Mz:(es.getD i ⟨false, .any,none⟩).IJ with
    | true =>
     rw[Mz] at hw
     rw[a8O hw]
     obtain⟨vc,hq,fk⟩:=cZ Mz
     rw[dc,cG] at hq
     refine .inl (a9V ?_ (K4 hE hI (lk':=QM ops.toList m ((b9 ops.toList []).getD i 0) (ej ops.toList es s0 π)) ?_ ?_ hq fk))
     .intro a' w' hd
      obtain⟨G',wY⟩:=Qb hI (KD i o hil u7 eW) (λ t ob Gd QI=>by
       rw[QI] at hq
       have Y9:=Na hq
       have h0:=tN i o t hil u7 eW Y9 Gd
       have Ce:=(iT ops.toList es t π s0 (λ k hk hkd=>by
        have:=sH k i t (bS k hk).1 (bS k hk).2 u7 hkd (by rw[Ok];exact Gd)
        subst this
        exact wX hk)).2
       rw[Ce,h0]) hd
      refine xQ G' a' w' ?_
      rw[xo,Ok]
      exact wY
     .intro id ob bf
      unfold QM at bf
      split at bf
      .cases bf
      .exact bf
     .intro x
      cases x with
      | tmp t =>
       simp only[Ug]
       split
       .trivial
       .exact bC hI (.tmp t)
      | const v=>exact bC hI (.const v)
      | global g=>exact bC hI (.global g)
      | func f=>exact bC hI (.func f)
    | false =>
     rw[Mz] at hw
     rw[hw]
     obtain⟨hv,QI⟩:=Zh Mz
     refine xQ G _ w ?_
     rw[xo,Ok,hv,QI,Ov]
     exact Inv.put (v := .eG) hI rfl
theorem Hf{α:Type}{l:List α}{lo hi j:Nat}{o:α}(h:((l.take hi).drop lo)[j]?=some o):l[lo+j]?=some o/\lo+j<hi:=by
 rw[b0l,a9R] at h
 split at h
 .rename_i bS;exact⟨h,bS⟩
 .cases h
theorem lZ{α:Type}{l:List α}{lo hi i:Nat}{o:α}(h:l[i]?=some o)(h1:lo<=i)(h2:i<hi):((l.take hi).drop lo)[i - lo]?=some o:=by
 rw[b0l,a9R,show lo+(i - lo)=i by omega,a8O h2,h]
theorem vK:∀ {l:List (Option Nat)},xJ l=true->∀ (i j t:Nat),l[i]?=some (some t)->l[j]?=some (some t)->i=j
 | [],_,i,j,t,h,_=>by simp at h
 | none::r,h,i,j,t,hi,hj=>by
  cases i with
  | zero=>simp at hi
  | succ i =>
   cases j with
   | zero=>simp at hj
   | succ j=>rw[vK (l:=r) h i j t (by simpa using hi) (by simpa using hj)]
 | some d::r,h,i,j,t,hi,hj=>by
  simp only[xJ] at h
  split at h
  .cases h
  .rename_i Xy
   rw[a9X] at Xy
   have no:∀ k:Nat,r[k]?=some (some d)->False:=λ k hk=>by
    have:=Xy _ (a9Q hk)
    simp at this
   cases i with
   | zero =>
    simp at hi
    subst hi
    cases j with
    | zero=>rfl
    | succ j=>exact (no j (by simpa using hj)).elim
   | succ i =>
    cases j with
    | zero =>
     simp at hj
     subst hj
     exact (no i (by simpa using hi)).elim
    | succ j=>rw[vK (l:=r) h i j t (by simpa using hi) (by simpa using hj)]
theorem I7{l:List Oper}{lo hi:Nat}(h:F6 l lo hi=true):∀ j k t,lo<=j->j<hi->k<hi->cB l j=some t->cB l k=some t->j=k:=by
 unfold F6 at h
 rw[a8r,a8r] at h
 obtain⟨⟨_,h1⟩,h2⟩:=h
 have hd:=vK h1
 have get:∀ j t,cB l j=some t->∃ o,l[j]?=some o/\o.dst=some t:=by
  intro j t h
  unfold cB at h
  simp only[a9G] at h
  exact h
 intro j k t hj hjh hkh Mv hkt
 obtain⟨o,ho,XL⟩:=get j t Mv
 obtain⟨o',cQ,a4Q⟩:=get k t hkt
 have g1:=lZ ho hj hjh
 rcases a9t k lo with hk|hk
 .rw[a9a] at h2
  have hm:o'∈l.take lo:=a9Q (by rw[a9R,a8O hk];exact cQ)
  have:=h2 o' hm
  rw[a4Q] at this
  simp only[a8J] at this
  rw[a9X] at this
  have:=this o (a9Q g1)
  rw[XL] at this
  simp at this
 .have g2:=lZ cQ hk hkh
  have:=hd (j - lo) (k - lo) t (by rw[a9W,g1];simp[XL]) (by rw[a9W,g2];simp[a4Q])
  omega
theorem Xu{l:List Oper}{lo hi:Nat}(h:F6 l lo hi=true){i:Nat}{o:Oper}(h1:lo<=i)(h2:i<hi)(ho:l[i]?=some o):vL o.dst=true:=by
 unfold F6 at h
 rw[a8r,a8r] at h
 exact a9a.1 h.1.1 o (a9Q (lZ ho h1 h2))
theorem GG{i:Nat}{o:Oper}:∀ {l:List Oper} {lo:Nat},(i,o)∈oQ lo l↔∃ j,i=lo+j/\l[j]?=some o
 | [],lo=>by simp[oQ]
 | x::l,lo=>by
  simp only[oQ,a8I,a8u,GG (l:=l)]
  constructor
  .rintro (⟨rfl,rfl⟩|⟨j,rfl,h⟩)
   .exact⟨0,rfl,rfl⟩
   .exact⟨j+1,by omega,by simpa using h⟩
  .rintro⟨j,rfl,h⟩
   cases j with
   | zero=>simp at h;exact .inl ⟨rfl,h.symm⟩
   | succ j=>exact .inr ⟨j,by omega,by simpa using h⟩
theorem Jv:∀ (l:List Oper) (lo:Nat),((oQ lo l).map (·.1)).Nodup
 | [],lo=>a9F
 | x::l,lo=>by
  simp only[oQ,a9k,a9j]
  refine⟨λ h=>?_,Jv l (lo+1)⟩
  obtain⟨⟨i,o⟩,h1,h2⟩:=a8A.1 h
  obtain⟨j,h3,_⟩:=GG.1 h1
  simp only at h2
  omega
theorem p8.mono{D D':List Nat}{a b:Act}(h:p8 D a b)(hs:∀ t∈D,t∈D'):p8 D' a b:=⟨h.size,h.da,h.db,λ t ht=>h.at' t λ q=>ht (hs t q)⟩
theorem Qk:∀ (l:List Oper) (lo:Nat),(oQ lo l).length=l.length
 | [],lo=>rfl
 | x::l,lo=>by simp[oQ,Qk l]
theorem L6{α:Type}(p:α->Bool):∀ l:List α,(l.filter p).length+(l.filter λ x => !p x).length=l.length
 | []=>rfl
 | x::l=>by
  have:=L6 p l
  cases h:p x<;>simp[b1X,h]<;>omega
theorem Yl(hE:bP c.P c.E){ops:Array Oper}(dX:backward ops.toList=true){Q:ah->Prop}{Q':Exit->Act->World->Prop}(hQ:∀ G s a w,Inv c G s a w->Q s->Q' .normal a w) :
  ∀ (Z1:List Nat) (lo:Nat) (kn:List (Nat×Bool)) (fuel:Nat) (G:Gh) (s:ah) (a:Act) (w:World) (listed:Array Bool),ops.size=lo+fuel->listed.size=ops.size->(∀ k,k<ops.size->(listed.getD k false=true↔k<lo))->Inv c G s a w ->
   xB c.E ops ops.toList (b9 ops.toList []) Z1 lo kn Q s->wpAny c.P .any ops Q' fuel listed a w:=by
 obtain⟨r,ha1,ha2,_⟩:=zp ops.toList []
 have Sy:(b9 ops.toList []).length=ops.size:=by rw[ha1];simpa using ha2
 intro Z1
 induction Z1 with
 | nil =>
  intro lo kn fuel G s a w listed hf cO hl hI hr
  simp only[xB] at hr
  split at hr
  .rename_i hb
   have hb:=a8s hb
   have hlo:lo=ops.size:=by simpa using hb
   have h0:fuel=0:=by omega
   subst h0
   refine⟨?_,hQ _ _ _ _ hI hr⟩
   apply b0S.2
   intro i hi
   obtain⟨o,ho,h1,_⟩:=(mem_ready cO).1 hi
   have bS:=(a9x.1 ho).1
   have:=(hl i bS).2 (by omega)
   rw[h1] at this
   cases this
  .exact hr.elim
 | cons hi Z1 ih =>
  intro lo kn fuel G s a w listed hf cO hl hI hr
  simp only[xB] at hr
  split at hr
  case h_2=>exact hr.elim
  case h_1 hc =>
  simp only[a8r,b1C,Nat.ble_eq,a9v] at hc
  obtain⟨Oj,hc0,hc2,Wh⟩:=hc
  split at hr
  .rename_i hb
   have hb:=a8s hb
   subst hb
   have bS:lo<ops.size:=by omega
   obtain⟨fuel,rfl⟩:∃ f,fuel=f+1:=⟨fuel - 1,by omega⟩
   have Gg:(ops.toList.take (lo+1)).drop lo=[ops[lo]]:=by
    rw[List.drop_take,show lo+1 - lo=1 by omega,List.drop_eq_getElem_cons (by simpa using bS)]
    simp
   rw[Gg] at hr
   refine a2Y hE dX bS (λ i h1 h2=>zW Oj (by omega) (by omega) (by omega)) cO hl hI hr ?_
   intro G s a w listed cO hl hI hp
   exact ih (lo+1) kn fuel G s a w listed (by omega) cO hl hI hp
  .split at hr
   case h_3=>exact hr.elim
   case h_1 Iv hal =>
    unfold ZV at hr
    split at hr
    case h_2=>exact hr.elim
    case h_1 lh =>
    have zU:∀ i o,(i,o)∈oQ lo ((ops.toList.take hi).drop lo)↔lo<=i/\i<hi/\ops.toList[i]?=some o:=λ i o=>by
     rw[GG]
     constructor
     .rintro⟨j,rfl,h⟩
      obtain⟨h1,h2⟩:=Hf h
      exact⟨by omega,h2,h1⟩
     .rintro⟨h1,h2,h3⟩
      exact⟨i - lo,by omega,lZ h3 h1 h2⟩
    have dr:=Jv ((ops.toList.take hi).drop lo) lo
    have KK:(oQ lo ((ops.toList.take hi).drop lo)).length=hi - lo:=by rw[Qk];simp;omega
    have zT:∀ x∈oQ lo ((ops.toList.take hi).drop lo),∀ y∈oQ lo ((ops.toList.take hi).drop lo),∀ t,x.2.dst=some t->y.2.dst=some t->x.1=y.1:=λ x hx y hy t hxt hyt=>by
     have h1:=(zU x.1 x.2).1 hx
     have h2:=(zU y.1 y.2).1 hy
     exact I7 Iv x.1 y.1 t h1.1 h1.2.1 h2.2.1 (by simp[cB,h1.2.2,hxt]) (by simp[cB,h2.2.2,hyt])
    generalize oQ lo ((ops.toList.take hi).drop lo)=gw at *
    simp only[a2T,a8r,a9a] at lh
    obtain⟨t,b,q1,q2,q3⟩:=Qg hE hI hr
    obtain⟨q4,q5⟩:=n7 q3
    have a2D:∀ p:Nat×Oper->Bool,((gw.filter p).map (·.1)).Nodup:=λ p=>dr.sublist (b1g _ b2t)
    have a5E:∀ x∈gw,∀ y∈gw,x.1=y.1->x=y:=λ x hx y hy e=>by
     obtain⟨x1,x2⟩:=x
     obtain⟨y1,y2⟩:=y
     simp only at e
     subst e
     have h1:=((zU _ _).1 hx).2.2
     rw[((zU _ _).1 hy).2.2] at h1
     simp only[a8o] at h1
     rw[h1]
    refine XY hE (hi:=hi) (Seg:=gw) dX Wh ?_ (λ x hx=>by simpa using (lh.1 x hx).1) (λ x hx=>(lh.1 x hx).2) ?_ zT (λ fuel G s a w listed hf cO hl hI hp=>ih hi kn fuel G s a w listed (by omega) cO hl hI hp) (fuel+(KN c.E (b9 ops.toList []) (gw.filter λ r => !pT c.E (b9 ops.toList []) gw r)).length) fuel (gw.filter (pT c.E (b9 ops.toList []) gw)) (KN c.E (b9 ops.toList []) (gw.filter λ r => !pT c.E (b9 ops.toList []) gw r))
     ((gw.filter (pT c.E (b9 ops.toList []) gw)).map (·.1)) [] [] G t a b w listed (a9i _) ?_ cO ?_ ?_ (a2D _) ((((mX _ _ _).map (·.1)).nodup_iff).2 (a2D _)) ?_ a9F a9F (λ p hp=>by cases hp) (λ p hp=>by cases hp) ?_ ?_ ?_ ?_ ?_ gw.length ?_
    .intro j o hj ho k hk
     have:=(a9g.1 ho).1
     exact zW Oj hj (by rw[Sy];simpa using this) hk
    .intro x hx he
     have:=lh.2 x hx
     simpa [he] using this
    .rw[a8R,(mX _ _ _).length_eq,L6,KK,a8N,a8N];omega
    .intro i qd
     obtain⟨⟨i',o⟩,h1,rfl⟩:=a8A.1 qd
     obtain⟨h2,h3⟩:=a9O.1 h1
     have h4:=(zU _ _).1 h2
     refine⟨h4.2.1,o,h4.2.2,h1,h2,?_⟩
     have:=lh.2 _ h2
     rw[h3] at this
     have fG:nj o.op=false:=by
      have:=ES (E:=c.E) (o:=o) (by simp only[pT,Nb,a8r] at h3;exact h3.1.1)
      simp only[dF,b2m] at this
      exact this.2.1
     exact⟨h3,by simpa [fG] using this⟩
    .intro x hx
     have hx:=(mX _ _ _).mem_iff.1 hx
     have h2:=(a9O.1 hx).1
     have h4:=(zU _ _).1 h2
     exact⟨h4.2.1,h4.2.2,h2⟩
    .intro i qd x hx e
     have hx:=(mX _ _ _).mem_iff.1 hx
     obtain⟨y,h1,rfl⟩:=a8A.1 qd
     obtain⟨h2,h3⟩:=a9O.1 h1
     obtain⟨h4,h5⟩:=a9O.1 hx
     have:=a5E _ h2 _ h4 e
     subst this
     rw[h3] at h5
     cases h5
    .intro k hk
     rw[hl k hk]
     constructor
     .intro h
      refine⟨by omega,λ hm=>?_, .inl λ x hx e=>?_⟩
      .obtain⟨y,h1,rfl⟩:=a8A.1 hm
       have:=((zU _ _).1 (a9O.1 h1).1).1
       omega
      .have:=((zU _ _).1 (a9O.1 ((mX _ _ _).mem_iff.1 hx)).1).1
       omega
     .rintro⟨h1,h2,h3⟩
      have h3:=h3.resolve_right (by simp)
      rcases a9t k lo with h|h
      .exact h
      .have hm:(k,ops[k])∈gw:=(zU _ _).2 ⟨h,h1,by simp⟩
       cases hr:pT c.E (b9 ops.toList []) gw (k,ops[k]) with
       | true=>exact absurd (a8A.2 ⟨_,a9O.2 ⟨hm,hr⟩,rfl⟩) h2
       | false=>exact absurd rfl (h3 _ ((mX _ _ _).mem_iff.2 (a9O.2 ⟨hm,by simp[hr]⟩)))
    .intro k hk Mw o ho e he hb
     have h1:=cb dX k o ho e he hb
     have h2:=(hl k hk).1 Mw
     exact (hl e.on (by omega)).2 (by omega)
    .exact q1
    .refine q2.mono λ d hd=>?_
     obtain⟨r,h1,h2⟩:=iS.1 hd
     have h4:=(zU _ _).1 (a9O.1 h1).1
     exact a8t.2 (.inl (a9T.2 ⟨r.1,a8A.2 ⟨r,h1,rfl⟩,by simp[cB,h4.2.2,h2]⟩))
    .intro i qd o ho
     obtain⟨⟨i',o'⟩,h1,rfl⟩:=a8A.1 qd
     have h4:=((zU _ _).1 (a9O.1 h1).1).2.2
     simp only at ho
     rw[h4] at ho
     simp only[a8o] at ho
     subst ho
     exact q4 _ h1
    .exact q5
   case h_2 Iv hal =>
   have sH:=I7 Iv
   obtain⟨es,ry,s',Fb,hq⟩:=uH hr
   have hlen:((ops.toList.take hi).drop lo).length=hi - lo:=by simp;omega
   obtain⟨ht1,ht2⟩:=T0 (lo:=lo) (s0:=((ops.toList.take hi).drop lo).foldl ah.fresh s) ((ops.toList.take hi).drop lo) lo es (List.replicate lo ⟨false, .any,none⟩) _ s' Fb (λ j o ho=>(Hf ho).1) (by simp) (a9i _) (by simp[gw,ej])
   rw[hlen,show lo+(hi - lo)=hi by omega] at ht2
   subst ht2
   have hI0:Inv c G (((ops.toList.take hi).drop lo).foldl ah.fresh s) a w:=Dk _ hI
   refine a1L hE (lo:=lo) (m:=hi) (es:=List.replicate lo ⟨false, .any,none⟩++es) (s0:=((ops.toList.take hi).drop lo).foldl ah.fresh s) dX Wh ?_ ?_ sH ?_ (λ i o h1 h2 ho=>Xu Iv h1 h2 ho) ?_ ?_ fuel [] G a w listed (by simp;omega) (by simp) (by simp) cO (by simpa using hl) (by simp) (by omega) hI0
   .intro j o hj ho k hk
    have:=(a9g.1 ho).1
    exact zW Oj hj (by rw[Sy];simpa using this) hk
   .intro j o hj ho k hk
    have:=(a9g.1 ho).1
    exact zW hc0 hj (by rw[Sy];simpa using this) hk
   .intro i o h1 h2 ho
    have:=ht1 (i - lo) o (lZ ho h1 h2)
    rwa [show lo+(i - lo)=i by omega] at this
   .intro i o t h1 h2 ho Y9 Gd
    exact (AT ((ops.toList.take hi).drop lo) s t).2 o (a9Q (lZ ho h1 h2)) Y9 Gd
   .intro fuel G a w listed hf cO hl hI
    exact ih hi ry fuel G _ a w listed (by omega) cO hl hI (SY hI hq)
theorem Qx(hE:bP c.P c.E)(lh:c.P.follows .mixedOrders=true){id:Nat}{ops:Array Oper}{Q:ah->Prop}{Q':Exit->Act->World->Prop}(hQ:∀ G s a w,Inv c G s a w->Q s->Q' .normal a w)
  (h:Inv c G s a w) (hd:NX c.E ops Q s):(Code.region id ops true).wp c.P Q' a w:=by
 unfold NX at hd
 simp only at hd
 split at hd
 .exact RX hE lh hQ h hd
 .split at hd
  case h_2=>exact hd.elim
  case h_1 dX =>
  refine wp_region_any lh ?_
  exact Yl hE dX hQ _ 0 [] ops.size G s a _ _ (by simp) (by simp) (by intro k hk;simp[hk]) (bz.drew h) hd
end
end Go.Proofs.YtmjfpcajohhbeaaGreatDoor

namespace Go.Proofs.YtmjfpcajohhbeaaGreatDoor
theorem RV{c:Ctx}{G:Gh}{s:ah}{a:Act}{w:World}(hE:bP c.P c.E)(lh:c.P.follows .mixedOrders=true){id:Nat}{ops:Array Oper}{Q:ah->Prop}{Q':Exit->Act->World->Prop}(hQ:∀ G s a w,Inv c G s a w->Q s->Q' .normal a w)
  (h:Inv c G s a w) (hd:Xb c.E ops Q s):(Code.region id ops true).wp c.P Q' a w:=Qx hE lh hQ h hd
end Go.Proofs.YtmjfpcajohhbeaaGreatDoor

namespace Go.Proofs.YtmjfpcajohhbeaaGreatDoor
theorem nz{u v:TV}(h:yR u v):u=v:=by
 unfold yR at h
 split at h
 .rename_i x hx
  have:=TV.aY hx
  rw[this,h]
 .exact h.elim
theorem DF:∀ {l:List Nat},nodupB l=true->l.Nodup
 | [],_=>a9F
 | a::r,h=>by
  simp only[nodupB] at h
  split at h
  .cases h
  .rename_i hc
   exact List.nodup_cons.2 ⟨by simpa using hc,DF h⟩
theorem A1{α:Type}(f:α->Nat):∀ {l:List α},(l.map f).Nodup->∀ x∈l,∀ y∈l,f x=f y->x=y
 | [],_,x,hx,_,_,_=>by simp at hx
 | a::r,h,x,hx,y,hy,he=>by
  simp only[a9k,a9j] at h
  rcases a8I.1 hx with Wt|Wt
  .rcases a8I.1 hy with Up|Up
   .rw[Wt,Up]
   .exact absurd (a8A.2 ⟨y,Up,by rw[<-he,Wt]⟩) h.1
  .rcases a8I.1 hy with Up|Up
   .exact absurd (a8A.2 ⟨x,Wt,by rw[he,Up]⟩) h.1
   .exact A1 f h.2 x Wt y Up he
section
variable {c:Ctx} {G:Gh} {s t:ah} {a:Act} {w w':World}
def iP(G:Gh)(s t:ah)(ρ:List (Nat×Nat))(id:Nat):Value:=match s.af (dC ρ id) with
 | some _=>G.η (dC ρ id)
 | none=>match dw (t.af id) with
  | true => .tuple [.slice none 0 0].toArray
  | false => .slice none 0 0
def uA(G:Gh)(s:ah)(ρ:List (Nat×Nat))(id:Nat):List Nat:=match s.af (dC ρ id) with
 | some _=>G.φ (dC ρ id)
 | none=>[]
theorem qQ{ρ:List (Nat×Nat)}{x:Value}{u v:AV}(h:AV.wG ρ s t u v)(hu:C1 c G s.af w u x):C1 c ⟨G.S,iP G s t ρ,uA G s ρ⟩ t.af w v x:=by
 unfold AV.wG at h
 split at h
 .trivial
 .split at h
  .have:=nz h
   subst this
   exact hu
  .split at h
   .subst h
    exact⟨rfl,Rh (c:=c) (G:=G) (lk:=s.af) (τ := .slice _) (v := .nil) rfl (show C1 c G s.af w .nil x from hu)⟩
   .exact h.elim
  .exact h.elim
 .split at h
  .exact hu
  .exact h.elim
 .split at h
  .have:=nz h
   subst this
   exact hu
  .exact h.elim
 .split at h
  .split at h
   .rename_i hb
    simp only[a8r] at hb
    have h1:=a8s hb.1.1
    have h2:=a8s hb.1.2
    subst h1 h2
    obtain⟨b,k1,k2,k3⟩:=hu
    refine⟨b,?_,k2,hb.2⟩
    simp only[iP]
    match hl:s.af (dC ρ _),k3 with
    | some o,_=>exact k1
   .exact h.elim
  .exact h.elim
 .split at h
  .split at h
   .rename_i hb
    simp only[a8r] at hb
    have h1:=a8s hb.1
    subst h1
    obtain⟨k1,k2,k3⟩:=hu
    refine⟨?_,hb.2,k3⟩
    simp only[iP]
    match hl:s.af (dC ρ _),k2 with
    | some o,_=>exact k1
   .exact h.elim
  .split at h
   .rename_i hr hn
    refine⟨?_,hr,none,0,0,hu⟩
    simp only[iP,hn,uR hr]
    exact hu
   .exact h.elim
  .exact h.elim
 .split at h
  .split at h
   .rename_i hb
    simp only[a8r] at hb
    have h1:=a8s hb.1
    subst h1
    obtain⟨k1,l,k2,k3⟩:=hu
    refine⟨hb.2,l,?_,k3⟩
    simp only[iP]
    match hl:s.af (dC ρ _),k1 with
    | some o,_=>exact k2
   .exact h.elim
  .split at h
   .rename_i hr hn
    have hu:x = .slice none 0 0:=hu
    refine⟨hr,[],?_,none,0,0,hu⟩
    simp only[iP,hn,hr]
    rw[hu]
   .exact h.elim
  .exact h.elim
 .split at h
  .split at h
   .rename_i hb
    have h1:=a8s hb
    subst h1
    exact hu
   .exact h.elim
  .exact h.elim
 .split at h
  .split at h
   .rename_i hb
    simp only[a8r] at hb
    have h1:=a8s hb.1
    subst h1
    obtain⟨k1,k2,k3⟩:=hu
    refine⟨?_,hb.2,k3⟩
    simp only[iP]
    match hl:s.af (dC ρ _),k2 with
    | some o,_=>exact k1
   .exact h.elim
  .exact h.elim
 .exact h.elim
theorem F2{ρ:List (Nat×Nat)}:∀ {us vs:List AV} {l:List Value},I6 ρ s t us vs->aT (C1 c G s.af w) us l->aT (C1 c ⟨G.S,iP G s t ρ,uA G s ρ⟩ t.af w) vs l
 | [],[],[],_,_=>trivial
 | u::us,v::vs,x::l,h,hu=>by
  simp only[I6] at h
  split at h
  .exact⟨trivial,F2 h hu.2⟩
  .exact⟨qQ h.1 hu.1,F2 h.2 hu.2⟩
 | [],_::_,_,h,_=>h.elim
 | _::_,[],_,h,_=>h.elim
 | [],[],_::_,_,h=>h.elim
 | _::_,_::_,[],_,h=>h.elim
theorem a2j{ρ:List (Nat×Nat)}{x:Value}{u v:AV}(h:AV.a4A ρ s t u v)(hu:CR c G s.af w u x):CR c ⟨G.S,iP G s t ρ,uA G s ρ⟩ t.af w v x:=by
 rcases hu.inv with ⟨z,rfl,h1⟩|⟨cs,l,rfl,rfl,h1⟩|h1
 .cases v with
  | any=>trivial
  | aW z' =>
   have:=nz (show yR z z' from h)
   subst this
   exact hu
  | _=>exact (show False from h).elim
 .cases v with
  | any=>trivial
  | agg vs=>exact⟨l,rfl,F2 (show I6 ρ s t cs vs from h) h1⟩
  | _=>exact (show False from h).elim
 .cases u with
  | agg cs=>exact (show False from h1).elim
  | _=>exact (qQ (show AV.wG ρ s t _ v by cases v<;>exact h) h1).Yr
theorem Sn{ρ:List (Nat×Nat)}:∀ {us vs:List AV} {l:List Value},Xr ρ s t us vs->aT (CR c G s.af w) us l->aT (CR c ⟨G.S,iP G s t ρ,uA G s ρ⟩ t.af w) vs l
 | [],[],[],_,_=>trivial
 | u::us,v::vs,x::l,h,hu=>by
  simp only[Xr] at h
  split at h
  .exact⟨trivial,Sn h hu.2⟩
  .exact⟨a2j h.1 hu.1,Sn h.2 hu.2⟩
 | [],_::_,_,h,_=>h.elim
 | _::_,[],_,h,_=>h.elim
 | [],[],_::_,_,h=>h.elim
 | _::_,_::_,[],_,h=>h.elim
theorem YV{u v:FV}(h:Z6 u v):u=v:=by
 unfold Z6 at h
 split at h
 .rename_i F hF
  have:=FV.aY hF
  rw[this,h]
 .exact h.elim
theorem a3G{ρ:List (Nat×Nat)}{x:Value}{u v:AV}(h:AV.fit ρ s t u v)(hu:VR c G s.af w u x):VR c ⟨G.S,iP G s t ρ,uA G s ρ⟩ t.af w v x:=by
 cases u with
 | agg us =>
  obtain⟨l,h1,h2⟩:=hu
  cases v with
  | any=>trivial
  | agg vs=>exact⟨l,h1,F2 (show I6 ρ s t us vs from h) h2⟩
  | aW z =>
   obtain⟨τ,q⟩:=z
   simp only[AV.fit] at h
   split at h
   .rename_i y hy
    have hr:fA w G.S ⟨τ,y⟩ x:=Lu (c:=c) (G:=G) (lk:=s.af) (w:=w) (x:=x) hy ⟨l,h1,h2⟩
    have h':y=q:=h
    show fA w G.S ⟨τ,q⟩ x
    rw[<-h']
    exact hr
   .exact h.elim
  | _=>exact (show False from h).elim
 | kW us =>
  cases v with
  | any=>trivial
  | _=>exact (show False from h).elim
 | aW z =>
  cases v with
  | any=>trivial
  | aW z' =>
   have:=nz (show yR z z' from h)
   subst this
   exact hu
  | _=>exact (show False from h).elim
 | dq f us =>
  obtain⟨l,h1,h2⟩:=hu
  cases v with
  | any=>trivial
  | dq g vs =>
   simp only[AV.fit] at h
   split at h
   .rename_i hb
    have hb:=a8s hb
    subst hb
    exact⟨l,h1,Sn h h2⟩
   .exact h.elim
  | _=>exact (show False from h).elim
 | kI z =>
  cases v with
  | any=>trivial
  | kI z' =>
   have:=YV (show Z6 z z' from h)
   subst this
   exact hu
  | _=>exact (show False from h).elim
 | any=>cases v<;>first|trivial|exact (show False from h).elim
 | eG=>cases v<;>first|trivial|exact (show False from h).elim
 | nil=>exact (qQ (u := .nil) (show AV.wG ρ s t .nil v by cases v<;>exact h) (show C1 c G s.af w .nil x from hu)).iU
 | dn z=>exact (qQ (u := .dn z) (show AV.wG ρ s t (.dn z) v by cases v<;>exact h) (show C1 c G s.af w (.dn z) x from hu)).iU
 | ptr i o=>exact (qQ (u := .ptr i o) (show AV.wG ρ s t (.ptr i o) v by cases v<;>exact h) (show C1 c G s.af w (.ptr i o) x from hu)).iU
 | row i=>exact (qQ (u := .row i) (show AV.wG ρ s t (.row i) v by cases v<;>exact h) (show C1 c G s.af w (.row i) x from hu)).iU
 | eY i k o=>exact (qQ (u := .eY i k o) (show AV.wG ρ s t (.eY i k o) v by cases v<;>exact h) (show C1 c G s.af w (.eY i k o) x from hu)).iU
 | fn f=>exact (qQ (u := .fn f) (show AV.wG ρ s t (.fn f) v by cases v<;>exact h) (show C1 c G s.af w (.fn f) x from hu)).iU
 | mp i=>exact (qQ (u := .mp i) (show AV.wG ρ s t (.mp i) v by cases v<;>exact h) (show C1 c G s.af w (.mp i) x from hu)).iU
 | aE i=>exact (qQ (u := .aE i) (show AV.wG ρ s t (.aE i) v by cases v<;>exact h) (show C1 c G s.af w (.aE i) x from hu)).iU
 | sub i k o z=>exact (qQ (u := .sub i k o z) (show AV.wG ρ s t (.sub i k o z) v by cases v<;>exact h) (show C1 c G s.af w (.sub i k o z) x from hu)).iU
 | fF i k o z=>exact (qQ (u := .fF i k o z) (show AV.wG ρ s t (.fF i k o z) v by cases v<;>exact h) (show C1 c G s.af w (.fF i k o z) x from hu)).iU
theorem Dj{ρ:List (Nat×Nat)}:∀ {us vs:List AV},B4 ρ s t us vs->us.length=vs.length/\∀ i,vs.getD i .any = .any\/AV.fit ρ s t (us.getD i .any) (vs.getD i .any)
 | [],[],_=>⟨rfl,λ i => .inl (by simp)⟩
 | u::us,v::vs,h=>by
  simp only[B4] at h
  split at h
  .obtain⟨h1,h2⟩:=Dj h
   refine⟨by simp[h1],λ i=>?_⟩
   cases i with
   | zero=>exact .inl rfl
   | succ i=>simpa using h2 i
  .obtain⟨h1,h2⟩:=Dj h.2
   refine⟨by simp[h1],λ i=>?_⟩
   cases i with
   | zero=>exact .inr h.1
   | succ i=>simpa using h2 i
 | [],_::_,h=>h.elim
 | _::_,[],h=>h.elim
def a1H(bo:Ty)(ys:List bo.den)(τ:Ty)(xs:List τ.den):Prop:=∀ (w:World) (η:Value) (fp:List Nat),lA w η bo ys fp->lA w η τ xs fp
theorem WX{bo:Ty}{ys:List bo.den}{τ:Ty}{xs:List τ.den}(h:WW bo ys τ xs):a1H bo ys τ xs:=by
 unfold WW at h
 split at h
 .rename_i h1 h2
  have h1:=a9e h1
  have h2:=a9e h2
  subst h1 h2
  have h:=nz h
  rw[TV.YD] at h
  cases h
  intro w η fp hT
  obtain⟨v,l,a,cap,q1,q2,q3,q4,q5,q6⟩:=hT
  have e1:(List.map toO ys).length=ys.length:=a8R _
  have e2:((show List J from ys).map toO).map (Ty.aR (.st .oExpr))=ys.map (Ty.aR (.st .expr)):=by
   rw[List.map_map]
   refine b2s λ x _=>?_
   show aS.aR .oExpr (toO x)=aS.aR .expr x
   rw[aS.cF,aS.cF]
   rfl
  refine⟨v,l,a,cap,q1,by rw[q2];exact congrArg (Value.slice a · cap) e1.symm,by exact e1 ▸ q3,q4,by exact e1 ▸ q5,?_⟩
  rcases q6 with ⟨rfl,q7,q8⟩|⟨b,f,t,q7,q8,q9,q10,q11⟩
  .exact .inl ⟨rfl,q7,q8⟩
  .exact .inr ⟨b,f,t,q7,q8,q9,q10,e2 ▸ q11⟩
 .have h:=nz h
  cases h
  exact λ _ _ _ h=>h
def a3w(ρ:List (Nat×Nat))(s t:ah)(id:Nat):aB->Prop
 | .box bs=>∃ Z9,s.af (dC ρ id)=some (.box Z9)/\I6 ρ s t Z9 bs
 | .row e τ xs=>s.af (dC ρ id)=some (.row e τ xs)\/(s.af (dC ρ id)=none/\xs=[])
 | .aE τ xs=>(∃ bo ys,s.af (dC ρ id)=some (.aE bo ys)/\a1H bo ys τ xs)\/(s.af (dC ρ id)=none/\xs=[])
 | .map m=>s.af (dC ρ id)=some (.map m)
theorem XX{a b:MV}(h:Zv a b):a=b:=by
 unfold Zv at h
 split at h
 .rename_i f n hf
  rw[MV.aY hf]
  simp only
  rw[h.1,h.2]
 .exact h.elim
theorem oX{ρ:List (Nat×Nat)}:∀ {l:List (Nat×aB)},nA ρ s t l->∀ id o,(id,o)∈l->a3w ρ s t id o
 | [],_,id,o,h=>by simp at h
 | (k, .box bs)::r,h,id,o,hm=>by
  simp only[nA] at h
  split at h
  .rename_i Z9 ha
   rcases a8I.1 hm with e|hm
   .simp only[a8u] at e
    obtain⟨rfl,rfl⟩:=e
    exact⟨Z9,ha,h.1⟩
   .exact oX h.2 id o hm
  .exact h.elim
 | (k, .row e τ xs)::r,h,id,o,hm=>by
  simp only[nA] at h
  split at h
  .rename_i e' bo ys ha
   split at h
   .rename_i he
    have he:=a8s he
    subst he
    rcases a8I.1 hm with e1|hm
    .simp only[a8u] at e1
     obtain⟨rfl,rfl⟩:=e1
     have:=nz h.1
     cases this
     exact .inl ha
    .exact oX h.2 id o hm
   .exact h.elim
  .rename_i ha
   rcases a8I.1 hm with e1|hm
   .simp only[a8u] at e1
    obtain⟨rfl,rfl⟩:=e1
    exact .inr ⟨ha,h.1⟩
   .exact oX h.2 id o hm
  .exact h.elim
 | (k, .aE τ xs)::r,h,id,o,hm=>by
  simp only[nA] at h
  split at h
  .rename_i bo ys ha
   rcases a8I.1 hm with e1|hm
   .simp only[a8u] at e1
    obtain⟨rfl,rfl⟩:=e1
    exact .inl ⟨bo,ys,ha,WX h.1⟩
   .exact oX h.2 id o hm
  .rename_i ha
   rcases a8I.1 hm with e1|hm
   .simp only[a8u] at e1
    obtain⟨rfl,rfl⟩:=e1
    exact .inr ⟨ha,h.1⟩
   .exact oX h.2 id o hm
  .exact h.elim
 | (k, .map m)::r,h,id,o,hm=>by
  simp only[nA] at h
  split at h
  .rename_i m' ha
   rcases a8I.1 hm with e1|hm
   .simp only[a8u] at e1
    obtain⟨rfl,rfl⟩:=e1
    rw[XX h.1] at ha
    exact ha
   .exact oX h.2 id o hm
  .exact h.elim
theorem F4{ρ:List (Nat×Nat)}(h:Inv c G s a w)(hf:Fits ρ s t):∃ G',Inv c G' t a w:=by
 unfold Fits at hf
 split at hf
 case h_2=>exact hf.elim
 case h_1 hb =>
  rw[a8r] at hb
  obtain⟨hb,hb4⟩:=hb
  rw[a8r] at hb
  obtain⟨hb,Wd⟩:=hb
  simp only[a8r] at hb
  obtain⟨hs,ho⟩:=hf
  obtain⟨hlen,SN⟩:=Dj hs
  have oM:=oX ho
  have iM:∀ id b,eV (iP G s t ρ id)=some b->∃ o,s.af (dC ρ id)=some o/\eV (G.η (dC ρ id))=some b:=by
   intro id b hb
   unfold iP at hb
   split at hb
   .rename_i o ho;exact⟨o,ho,hb⟩
   .split at hb<;>cases hb
  refine⟨⟨G.S,iP G s t ρ,uA G s ρ⟩,?_⟩
  exact {
   defers:=h.defers
   size:=h.size.trans hlen
   aU:=h.aU,oE:=h.oE,fE:=h.fE,sX:=h.sX,ez:=h.ez
   aC:=λ i=>by
    rcases SN i with e|e
    .rw[show t.sl i = .any from e];trivial
    .exact a3G e (h.aC i)
   aK:=λ id o bf=>by
    have hof:=oM id o (ik bf)
    cases o with
    | box bs =>
     obtain⟨Z9,h1,h2⟩:=hof
     obtain⟨b,l,ty,k1,k2,k3⟩:=h.aK _ _ h1
     refine⟨b,l,ty,?_,k2,F2 h2 k3⟩
     simp only[iP,h1]
     exact k1
    | row e τ xs =>
     rcases hof with h1|⟨h1,rfl⟩
     .obtain⟨l,k1,k2,k3⟩:=h.aK _ _ h1
      refine⟨l,?_,k2,k3⟩
      simp only[iP,h1]
      exact k1
     .refine⟨[],?_,rfl,by simp⟩
      simp only[iP,h1,uR (show isRow (t.af id)=true by rw[bf];rfl)]
      exact World.ownsRow_nil w 0 e τ.size
    | aE τ xs=>trivial
    | map m =>
     have h1:s.af (dC ρ id)=some (.map m):=hof
     obtain⟨b,es,clock,k1,k2⟩:=h.aK _ _ h1
     refine⟨b,es,clock,?_,k2⟩
     simp only[iP,h1]
     exact k1
   place:=λ id o b bf kJ=>by
    obtain⟨o',h1,h2⟩:=iM id b kJ
    exact h.place _ _ b h1 h2
   apart:=λ id dO o o' b bf Ge kJ a6K=>by
    obtain⟨p,h1,h2⟩:=iM id b kJ
    obtain⟨p',h3,h4⟩:=iM dO b a6K
    have:=h.apart _ _ _ _ b h1 h3 h2 h4
    have Mu:=A1 (λ p:Nat×aB=>dC ρ p.1) (DF hb.2) (id,o) (ik bf) (dO,o') (ik Ge) this
    exact congrArg Prod.fst Mu
   bc:=by
    have Uq:∀ id b,b∈uA G s ρ id->(∃ o,s.af (dC ρ id)=some o)/\b∈G.φ (dC ρ id):=λ id b cD=>by
     unfold uA at cD
     split at cD
     .rename_i o ho;exact⟨⟨o,ho⟩,cD⟩
     .simp at cD
    have Fb:∀ id τ xs,t.af id=some (.aE τ xs)->(∃ bo ys,s.af (dC ρ id)=some (.aE bo ys)/\a1H bo ys τ xs)\/(s.af (dC ρ id)=none/\xs=[]):=λ id τ xs bf=>oM id _ (ik bf)
    have gG:∀ id τ xs b,t.af id=some (.aE τ xs)->b∈uA G s ρ id->∃ bo ys,s.af (dC ρ id)=some (.aE bo ys)/\b∈G.φ (dC ρ id):=λ id τ xs b bf cD=>by
     obtain⟨⟨o,ho⟩,h2⟩:=Uq id b cD
     rcases Fb id τ xs bf with ⟨bo,ys,h1,_⟩|⟨h1,_⟩
     .exact⟨bo,ys,h1,h2⟩
     .rw[h1] at ho;cases ho
    exact {
     tr:=λ id τ xs bf=>by
      rcases Fb id τ xs bf with ⟨bo,ys,h1,hle⟩|⟨h1,rfl⟩
      .simp only[iP,uA,h1]
       exact hle _ _ _ (h.bc.tr _ _ _ h1)
      .simp only[iP,uA,h1,show dw (t.af id)=true by rw[bf];rfl]
       exact⟨_,[],none,0,rfl,rfl,by simp,by simp[maxLen],by simp, .inl ⟨rfl,⟨rfl,rfl⟩,rfl⟩⟩
     nd:=λ id τ xs bf=>by
      rcases Fb id τ xs bf with ⟨bo,ys,h1,_⟩|⟨h1,_⟩
      .simp only[uA,h1]
       exact h.bc.nd _ _ _ h1
      .simp only[uA,h1]
       exact a9F
     pl:=λ id τ xs b bf cD=>by
      obtain⟨_,_,h1,h2⟩:=gG id τ xs b bf cD
      obtain⟨q1,q2,q3,q4⟩:=h.bc.pl _ _ _ b h1 h2
      refine⟨q1,q2,q3,λ i o hi xN=>?_⟩
      obtain⟨o',k1,k2⟩:=iM i b xN
      exact q4 _ o' k1 k2
     ap:=λ id dO τ bo xs dh b bf Ge KB Oi=>by
      obtain⟨_,_,h1,h2⟩:=gG id τ xs b bf KB
      obtain⟨_,_,h3,h4⟩:=gG dO bo dh b Ge Oi
      have:=h.bc.ap _ _ _ _ _ _ b h1 h3 h2 h4
      have Mu:=A1 (λ p:Nat×aB=>dC ρ p.1) (DF hb.2) (id, .aE τ xs) (ik bf) (dO, .aE bo dh) (ik Ge) this
      exact congrArg Prod.fst Mu }
   root:=λ id v hr ht=>by
    have hrg:=h.lj id v hr
    match hl:t.af id,ht with
    | some (.aE τ xs),_ =>
     have hq:=a9a.1 Wd _ (ik hl)
     simp only[b0c,a8r,b1C,Nat.ble_eq] at hq
     rcases hq with hq|hq|⟨Ix,Gi⟩
     .omega
     .omega
     .have Ix:=a8s Ix
      obtain⟨l,h2⟩:=h.root id v hr Gi
      refine⟨l,?_⟩
      show iP G s t ρ id=_
      unfold iP
      rw[Ix]
      match hs:s.af id,Gi with
      | some (.aE ..),_=>exact h2
   lj:=h.lj
   dQ:=λ id v hr ht=>by
    have hrg:=h.gu id v hr
    match hl:t.af id,ht with
    | some (.box cs),_ =>
     have hq:=a9a.1 hb4 _ (ik hl)
     simp only[iy,a8x,b2p,b0c,a8r,b1C] at hq
     rcases hq with hq|⟨Ix,Gi⟩
     .omega
     .have Ix:=a8s Ix
      have h2:=h.dQ id v hr Gi
      show iP G s t ρ id=_
      unfold iP
      rw[Ix]
      match hs:s.af id,Gi with
      | some (.box ..),_=>exact h2
   gu:=h.gu }
theorem jz(hE:bP c.P c.E)(lh:c.P.follows .mixedOrders=true):∀ (mT:Code) (Λ:Nat->aH) (cur:Nat) (Q:Exit->ah->Prop) (G:Gh) (s:ah) (a:Act) (w:World),
  Inv c G s a w->ck c.E mT Λ cur Q s->mT.wp c.P (λ e a w=>∃ G s,Inv c G s a w/\Q e s) a w
 | .skip,Λ,cur,Q,G,s,a,w,h,hr=>wp_skip ⟨G,s,h,hr⟩
 | .region id ops draw,Λ,cur,Q,G,s,a,w,h,hr=>by
  cases draw with
  | true=>exact RV hE lh (Q:=Q .normal) (λ G s a w hI hq=>⟨G,s,hI,hq⟩) h hr
  | false =>
   refine wp_region ?_
   have:=AL hE (ops:=ops) (Q:=Q .normal) (Q':=λ e a w=>∃ G s,Inv c G s a w/\Q e s) (λ G s a w hI hq=>⟨G,s,hI,hq⟩) ops.toList 0 [] G s a w (by simp) h hr
   rw[List.range_eq_range']
   simpa using this
 | .seq x y,Λ,cur,Q,G,s,a,w,h,hr=>by
  simp only[ck] at hr
  split at hr
  case h_2 ι P μ fz dead ins aU os Vx ren sub hL =>
   obtain⟨hx,hy⟩:=hr
   refine wp_seq (b1T (jz hE lh x Λ cur _ G s a w h hx) ?_)
   rintro e a' w' ⟨G',s',hI,hq⟩
   cases e with
   | normal =>
    obtain⟨j,hPj,hF⟩:=hq
    obtain⟨G3,h3⟩:=hI.F5 fz
    obtain⟨G4,h4⟩:=F4 h3 hF.ex.choose_spec
    exact jz hE lh y (sub j) cur Q G4 _ a' w' h4 (hy j hPj)
   | _=>exact⟨G',s',hI,hq⟩
  refine wp_seq (b1T (jz hE lh x Λ cur _ G s a w h hr) ?_)
  rintro e a' w' ⟨G',s',hI,hq⟩
  cases e with
  | normal=>exact jz hE lh y Λ cur Q G' s' a' w' hI hq
  | _=>exact⟨G',s',hI,hq⟩
 | .cond x p q,Λ,cur,Q,G,s,a,w,h,hr=>by
  simp only[ck] at hr
  split at hr
  .rename_i t ht
   have hx:=bC h x
   rw[ht] at hx
   have hx:[a.eval x]=[.bool t]:=hx
   simp only[a8z,a8F] at hx
   refine wp_cond hx ?_
   cases t with
   | true=>exact jz hE lh p Λ cur Q G s a w h (hr.1 rfl)
   | false=>exact jz hE lh q Λ cur Q G s a w h (hr.2 rfl)
  .exact hr.elim
 | .block id x,Λ,cur,Q,G,s,a,w,h,hr=>by
  refine wp_block (b1T (jz hE lh x Λ id _ G s a w h hr) ?_)
  rintro e a' w' ⟨G',s',hI,hq⟩
  cases e with
  | exit i =>
   simp only at hq
   simp only[Exit.inBlock]
   split at hq
   .rename_i hi
    rw[a8O (a8s hi)]
    exact⟨G',s',hI,hq⟩
   .rename_i hi
    have:i≠id:=λ e=>by subst e;simp at hi
    rw[a8y this]
    exact⟨G',s',hI,hq⟩
  | _=>exact⟨G',s',hI,hq⟩
 | .loop x,Λ,cur,Q,G,s,a,w,h,hr=>by
  simp only[ck] at hr
  split at hr
  .exact hr.elim
  .rename_i ι P μ fz dead ins aU os Vx ren sub hL
   obtain⟨⟨i0,hP0,hF0⟩,a3Q⟩:=hr
   obtain⟨G1,h1⟩:=h.F5 fz
   obtain⟨G2,h2⟩:=F4 h1 hF0.ex.choose_spec
   refine wp_loop_ghost (λ n a w=>∃ i G,P i/\μ i=n/\Inv c G (tM s (dead++Code.C0 x) (ins i) aU (os i)) a w) (μ i0) ⟨i0,G2,hP0,rfl,h2⟩ ?_
   rintro n a' w' ⟨i,G',hP,rfl,hI⟩
   refine b1T (jz hE lh x (sub i) cur _ G' _ a' w' hI (a3Q i hP)) ?_
   rintro e a'' w'' ⟨G'',s'',a4D,hq⟩
   cases e with
   | normal =>
    obtain⟨j,hPj,bS,hF⟩:=hq
    obtain⟨G3,h3⟩:=a4D.F5 fz
    obtain⟨G4,h4⟩:=F4 h3 hF.ex.choose_spec
    exact⟨μ j,bS,j,G4,hPj,rfl,h4⟩
   | _=>exact⟨G'',s'',a4D,hq⟩
 | .exit id,Λ,cur,Q,G,s,a,w,h,hr=>wp_exit ⟨G,s,h,hr⟩
 | .ret,Λ,cur,Q,G,s,a,w,h,hr=>wp_ret ⟨G,s,h,hr⟩
 | .label l,Λ,cur,Q,G,s,a,w,h,hr=>wp_label ⟨G,s,h,hr⟩
 | .rangeFunc ..,_,_,_,_,_,_,_,_,hr=>hr.elim
 | .scope ..,_,_,_,_,_,_,_,_,hr=>hr.elim
 | .goto ..,_,_,_,_,_,_,_,_,hr=>hr.elim
 | .refuse ..,_,_,_,_,_,_,_,_,hr=>hr.elim
end
end Go.Proofs.YtmjfpcajohhbeaaGreatDoor

namespace Go.Proofs.YtmjfpcajohhbeaaGreatDoor
theorem aT.replicate{α β:Type}{R:α->β->Prop}{a:α}{b:β}(pM:R a b):∀ n:Nat,aT R (List.replicate n a) (List.replicate n b)
 | 0=>trivial
 | n+1=>⟨pM,aT.replicate pM n⟩
theorem aT.zq{α β:Type}{R:α->β->Prop}{Z9:List α}{bs:List β}(h:aT R Z9 bs){a:α}{b:β}(pM:R a b)(n:Nat):aT R (Z9++List.replicate n a) (bs++List.replicate n b) :=
 h.append (aT.replicate pM n)
theorem aT.getD{α β:Type}{R:α->β->Prop}{d:α}{e:β}(hde:R d e):∀ {Z9:List α} {bs:List β},aT R Z9 bs->∀ i:Nat,R (Z9.getD i d) (bs.getD i e)
 | [],[],_,i=>by simpa using hde
 | a::Z9,b::bs,h,0=>h.1
 | a::Z9,b::bs,h,i+1=>by simpa using aT.getD hde h.2 i
 | [],_::_,h,_=>h.elim
 | _::_,[],h,_=>h.elim
section
variable {P:Program} {E:Env}
def a1A(P:Program)(w:World)(S:Nat->Prop):Arg->Value->Prop
 | .own _,_=>True
 | .box _,_=>True
 | a,x=>zm P w S a x
theorem Qm{w:World}{S X:Nat->Prop}(hS:wR w S)(hX:∀ b,X b->b<w.heap.size/\¬ S b){fn:Func}{args:List Arg}{cS:List Value}(ha:aT (a1A P w S) args cS)(P9:(∀ b,¬ X b)\/∀ a∈args,a.La=true) :
  Inv ⟨P,E,w,X,S,λ _=>none,λ _=>False,λ _=>none⟩ ⟨S,λ _=>undef,λ _=>[]⟩ (aD fn args) { tmps:=cS.toArray++Array.replicate (fn.ntmps - cS.toArray.size) undef,defers:=[] } w:=by
 have hlen:=ha.length
 have SN:∀ v x,v∈args->a1A P w S v x->VR ⟨P,E,w,X,S,λ _=>none,λ _=>False,λ _=>none⟩ ⟨S,λ _=>undef,λ _=>[]⟩ (aD fn args).af w (RO v) x:=by
  intro v x hm h
  cases v with
  | val v=>exact h
  | ref v =>
   obtain⟨b,o,cs,h1,h2,h3,h4⟩:=h
   exact⟨b,o,cs,h1, .inr ⟨h2,P9.elim (λ q=>⟨q b,λ z=>z⟩) λ q=>absurd (q _ hm) (by simp[Arg.La])⟩,h3,h4⟩
  | fn f=>exact h
  | dq v =>
   obtain⟨f,iD,l,h1,h2,h3⟩:=h
   refine⟨f,iD,l,h1,h2,h3.imp λ u y _ hy=>?_⟩
   cases u with
   | val v=>exact hy
   | ref v =>
    obtain⟨b,o,cs,k1,k2,k3,k4⟩:=hy
    exact⟨b,o,cs,k1, .inr ⟨k2,P9.elim (λ q=>⟨q b,λ z=>z⟩) λ q=>absurd (q _ hm) (by simp[Arg.La])⟩,k3,k4⟩
   | fn f=>exact hy
   | dq v=>exact hy.elim
   | own v=>exact hy.elim
   | box k=>exact hy.elim
  | own v=>trivial
  | box k=>trivial
 exact {
  defers:=rfl
  size:=by simp[aD,hlen]
  aU:=bN.refl _ _
  oE:=⟨λ b h=>(hX b h).1,λ g hg=>⟨(hS.2 g hg).1,λ q=>(hX g q).2 (hS.2 g hg).1,hS.1 g (hS.2 g hg).1,(hS.2 g hg).2⟩⟩
  fE:=λ b _ _=>b0w
  sX:=λ b hs=>hs
  ez:=hS.1
  aC:=λ i=>by
   have h1:aT (λ v x=>VR ⟨P,E,w,X,S,λ _=>none,λ _=>False,λ _=>none⟩ ⟨S,λ _=>undef,λ _=>[]⟩ (aD fn args).af w v x) (args.map RO) cS:=aT.eO _ (ha.imp λ v x hm h=>SN v x hm h)
   have h2:=aT.getD (d:=AV.any) (e:=undef) (show VR ⟨P,E,w,X,S,λ _=>none,λ _=>False,λ _=>none⟩ ⟨S,λ _=>undef,λ _=>[]⟩ (aD fn args).af w .any undef from trivial) (h1.zq (a:=AV.any) (b:=undef) (show VR ⟨P,E,w,X,S,λ _=>none,λ _=>False,λ _=>none⟩ ⟨S,λ _=>undef,λ _=>[]⟩ (aD fn args).af w .any undef from trivial) (fn.ntmps - args.length)) i
   have e1:(aD fn args).sl i=(args.map RO++List.replicate (fn.ntmps - args.length) AV.any).getD i AV.any:=rfl
   have e2:(cS.toArray++Array.replicate (fn.ntmps - cS.toArray.size) undef).getD i undef=(cS++List.replicate (fn.ntmps - args.length) undef).getD i undef:=by
    rw[a9n,a8H,<-b2h]
    simp[hlen]
   rw[e1,e2]
   exact h2
  aK:=λ id o h=>by cases h
  place:=λ id o b h=>by cases h
  apart:=λ id dO o o' b h=>by cases h
  bc:=⟨(λ id τ xs h=>by cases h),(λ id τ xs h=>by cases h),(λ id τ xs b h=>by cases h),(λ id dO τ bo xs dh b h=>by cases h)⟩
  root:=λ id v h=>by cases h
  lj:=λ id v h=>by cases h
  dQ:=λ id v h=>by cases h
  gu:=λ id v h=>by cases h }
theorem ZL{w:World}{S:Nat->Prop}(hS:wR w S){fn:Func}{args:List Arg}{cS:List Value}(ha:aT (zm P w S) args cS) :
  Inv ⟨P,E,w,λ _=>False,S,λ _=>none,λ _=>False,λ _=>none⟩ ⟨S,λ _=>undef,λ _=>[]⟩ (aD fn args) { tmps:=cS.toArray++Array.replicate (fn.ntmps - cS.toArray.size) undef,defers:=[] } w :=
 Qm hS (λ _ h=>h.elim) (ha.imp λ v x _ h=>by
  cases v with
  | own v=>trivial
  | box k=>exact h.elim
  | _=>exact h) (.inl λ _ h=>h)
def sn(tmps:Array Value):ResultVar->Sem Value
 | .tmp t=>pure (tmps.getD t undef)
 | .cell a t=>do loadVar t (<-asAddr (tmps.getD a undef))
theorem AE(fn:Func)(tmps:Array Value):results fn tmps=(do
  let vs <-fn.results.mapM (sn tmps)
  pure (if h:vs.size=1 then vs[0] else .tuple vs)):=by
 unfold results
 congr 1
theorem Nc(hE:bP P E){c:Ctx}(Wi:c.P=P)(Xz:c.E=E){G:Gh}{s:ah}{a:Act}{w:World}(h:Inv c G s a w):∀ {rs:List ResultVar} {Ts:List TypeId} {vs:List TV},O7 E s rs Ts=some vs ->
  ∃ xs,(rs.mapM (sn a.tmps)).run P w = .ok xs w/\aT (fA w (SX G s.af)) vs xs
 | [],[],vs,hr=>by
  simp only[O7,a8o] at hr
  subst hr
  exact⟨[],by simp,trivial⟩
 | r::rs,T::Ts,vs,hr=>by
  simp only[O7] at hr
  split at hr
  .rename_i τ q hT
   split at hr
   .rename_i x hx
    split at hr
    .rename_i l hl
     simp only[a8o] at hr
     subst hr
     obtain⟨xs,h1,h2⟩:=Nc hE Wi Xz h hl
     cases r with
     | tmp t =>
      refine⟨a.tmps.getD t undef::xs,by simp[b0V,sn,h1],CZ h.bc h.aK (GL λ _ _ h=>h) hx (bC h (.tmp t)),h2⟩
     | cell p t =>
      simp only at hx
      split at hx
      .rename_i hb
       have hb:=a8s hb
       subst hb
       unfold deref at hx
       split at hx
       .rename_i u hu
        obtain⟨b,o,cs,k1,k2,k3,k4⟩:=s5 h.aK (GL λ _ _ h=>h) hu (bC h (.tmp p))
        have cZ:=pt hE hT k2 k3
        have k1':a.tmps.getD p undef = .pointer (some ⟨b,o,none⟩):=k1
        refine⟨IA τ cs::xs,?_,CZ h.bc h.aK (GL λ _ _ h=>h) hx k4,h2⟩
        simp only[Instr.loadAt,Instr.sureAddr,a8Y,a8Z,a8Q] at cZ
        simp only[b0V,sn,k1',asAddr,a8Y,a8Z,a8Q,cZ,h1]
       .cases hx
      .cases hx
    .cases hr
   .cases hr
  .cases hr
 | [],_::_,_,hr=>by cases hr
 | _::_,[],_,hr=>by cases hr
theorem a3d{w:World}{S:Nat->Prop}:∀ {vs:List TV} {xs:List Value},aT (fA w S) vs xs->DY w S vs (if h:xs.toArray.size=1 then xs.toArray[0] else .tuple xs.toArray)
 | [],[],_=>⟨[],by simp,trivial⟩
 | [v],[x],h=>by simpa [DY] using h.1
 | v::u::r,x::y::z,h=>⟨x::y::z,by simp,h⟩
 | [],_::_,h=>h.elim
 | _::_,[],h=>h.elim
 | [_],_::_::_,h=>h.2.elim
 | _::_::_,[_],h=>h.2.elim
theorem U7(hE:bP P E)(lh:P.follows .mixedOrders=true){f:FuncId}{fn:Func}{mT:Code}(hf:P.funcs[f]?=some fn)(hb:fn.body=some mT)(Λ:Nat->aH){args:List Arg}{post:List TV->Prop}
  (h:ck E mT Λ 0 (bg E fn post) (aD fn args)):bh P f args post:=by
 intro w S cS hS ha
 refine b2y hf hb ?_
 have hinv:=ZL (P:=P) (E:=E) (fn:=fn) hS ha
 refine b1T (jz (c:=⟨P,E,w,λ _=>False,S,λ _=>none,λ _=>False,λ _=>none⟩) hE lh mT Λ 0 _ _ _ _ w hinv h) ?_
 have fin:∀ (e:Exit) (a:Act) (w':World),(e = .normal\/e = .ret)->(∃ G s,Inv ⟨P,E,w,λ _=>False,S,λ _=>none,λ _=>False,λ _=>none⟩ G s a w'/\bg E fn post e s) ->
   a.defers=[]/\∃ v,(results fn a.tmps).run P w' = .ok v w'/\∃ x S' res,Ending.returned v = .returned x/\post res/\bN (λ _=>False) w w'/\(∀ b,b<w.heap.size->(S' b↔S b))/\(∀ b,S' b->b<w'.heap.size)/\DY w' S' res x:=by
  rintro e a w' he ⟨G,s,hI,hp⟩
  have Wo:∃ vs,O7 E s fn.results.toList fn.resultTypes.toList=some vs/\post vs:=by
   rcases he with rfl|rfl <;>
   .simp only[bg] at hp
    split at hp
    .rename_i vs A0
     exact⟨vs,A0,hp⟩
    .exact hp.elim
  obtain⟨vs,A0,SH⟩:=Wo
  obtain⟨xs,h1,h2⟩:=Nc hE (c:=⟨P,E,w,λ _=>False,S,λ _=>none,λ _=>False,λ _=>none⟩) rfl rfl hI A0
  refine⟨hI.defers,(if h:xs.toArray.size=1 then xs.toArray[0] else .tuple xs.toArray),?_,_,SX G s.af,vs,rfl,SH,hI.aU,λ b hb=>?_,λ b hb=>?_,a3d h2⟩
  .rw[AE,b0M]
   simp only[a8Y,b2c,h1]
   rfl
  .constructor
   .rintro (hs|⟨id,e',τ,ys,bf,kJ⟩|⟨id,τ,ys,bf,kJ⟩)
    .exact (hI.fE b hb (λ q=>q)).1 hs
    .rcases (hI.place id _ b bf kJ).1 with Wk|hx
     .have:w.heap.size<=b:=Wk
      omega
     .exact hx.elim
    .rcases (hI.bc.pl id _ _ b bf kJ).1 with Wk|hx
     .have:w.heap.size<=b:=Wk
      omega
     .exact hx.elim
   .exact λ hs => .inl ((hI.fE b hb (λ q=>q)).2 hs)
  .rcases hb with hs|⟨id,e',τ,ys,bf,kJ⟩|⟨id,τ,ys,bf,kJ⟩
   .exact hI.ez b hs
   .exact (hI.place id _ b bf kJ).2.2
   .exact (hI.bc.pl id _ _ b bf kJ).2.2.1
 intro e a w' hq
 cases e with
 | normal=>exact fin .normal a w' (.inl rfl) hq
 | ret=>exact fin .ret a w' (.inr rfl) hq
 | exit i=>obtain⟨_,_,_,hp⟩:=hq;exact hp.elim
 | goto l=>obtain⟨_,_,_,hp⟩:=hq;exact hp.elim
 | panic ch=>obtain⟨_,_,_,hp⟩:=hq;exact hp.elim
 | outgrown=>obtain⟨_,_,_,hp⟩:=hq;exact hp.elim
end
end Go.Proofs.YtmjfpcajohhbeaaGreatDoor

namespace Go.Proofs.YtmjfpcajohhbeaaGreatDoor
def vC(E:Env)(s:ah):List ResultVar->List TypeId->Option (List TV×List Nat)
 | [],[]=>some ([],[])
 | r::rs,T::Ts=>match af E.ty T with
  | some (
      τ,_)=>match (match r with
    | .tmp t=>Lc s.af τ (s.eval (.tmp t))
    | .cell p t=>match Nat.beq t T with
     | true=>match uJ s.af τ (s.eval (.tmp p)) with
      | some u=>Lc s.af τ u
      | none=>none
     | false=>none) with
   | some (x,i)=>match vC E s rs Ts with
    | some (l,j)=>some (⟨τ,x⟩::l,i++j)
    | none=>none
   | none=>none
  | none=>none
 | _,_=>none
def fI(E:Env)(fn:Func)(post:List TV->Prop)(e:Exit)(s:ah):Prop :=
 match e with
 | .ret | .normal=>match vC E s fn.results.toList fn.resultTypes.toList with
  | some (vs,ids)=>match nodupB ids with
   | true=>post vs
   | false=>False
  | none=>False
 | _=>False
section
variable {P:Program} {E:Env}
theorem DO{c:Ctx}(hE:bP c.P c.E)(Wi:c.P=P)(Xz:c.E=E){G:Gh}{s:ah}{a:Act}{w:World}(h:Inv c G s a w):∀ {rs:List ResultVar} {Ts:List TypeId} {vs:List TV} {ids:List Nat},vC E s rs Ts=some (vs,ids)->ids.Nodup ->
  ∃ xs fp,(rs.mapM (sn a.tmps)).run P w = .ok xs w/\Ln w vs xs fp/\fp.Nodup/\∀ b∈fp,xv G s.af ids b
 | [],[],vs,ids,hr,_=>by
  simp only[vC,a8o,a8u] at hr
  obtain⟨rfl,rfl⟩:=hr
  exact⟨[],[],by simp,rfl,a9F,by simp⟩
 | r::rs,T::Ts,vs,ids,hr,dr=>by
  simp only[vC] at hr
  split at hr
  case h_2=>cases hr
  case h_1 τ q hT =>
  split at hr
  case h_2=>cases hr
  case h_1 x i hx =>
  split at hr
  case h_2=>cases hr
  case h_1 l j hl =>
  simp only[a8o,a8u] at hr
  obtain⟨rfl,rfl⟩:=hr
  rw[a8S] at dr
  obtain⟨n1,n2,n3⟩:=dr
  obtain⟨xs,fp,h1,h2,h3,h4⟩:=DO hE Wi Xz h hl n2
  cases r with
  | cell p t =>
   simp only at hx
   split at hx
   case h_2=>cases hx
   case h_1 hb =>
   have hb:=a8s hb
   subst hb
   split at hx
   case h_2=>cases hx
   case h_1 u hu =>
   obtain⟨b,o,cs,q1,q2,q3,q4⟩:=s5 h.aK (λ _ _ h=>h) hu (bC h (.tmp p))
   subst Wi Xz
   have cZ:=pt hE hT q2 q3
   have q1':a.tmps.getD p undef = .pointer (some ⟨b,o,none⟩):=q1
   obtain⟨f1,k1,k2,k3⟩:=vD h hx q4 n1
   refine⟨IA τ cs::xs,f1++fp,?_,⟨f1,fp,rfl,k1,h2⟩,eB k2 h3 λ b hb cD=>h.la (k3 b hb) (h4 b cD) (λ x hx y hy=>n3 x hx y hy),λ b hb=>?_⟩
   .simp only[Instr.loadAt,Instr.sureAddr,a8Y,a8Z,a8Q] at cZ
    simp only[b0V,sn,q1',asAddr,a8Y,a8Z,a8Q,cZ,h1]
   .rcases a8t.1 hb with hb|hb
    .exact (k3 b hb).mono λ k hk=>by simp[hk]
    .exact (h4 b hb).mono λ k hk=>by simp[hk]
  | tmp t =>
   obtain⟨f1,k1,k2,k3⟩:=vD h hx (bC h (.tmp t)) n1
   refine⟨a.tmps.getD t undef::xs,f1++fp,by simp[b0V,sn,h1],⟨f1,fp,rfl,k1,h2⟩,eB k2 h3 λ b hb cD=>h.la (k3 b hb) (h4 b cD) (λ x hx y hy=>n3 x hx y hy),λ b hb=>?_⟩
   rcases a8t.1 hb with hb|hb
   .exact (k3 b hb).mono λ k hk=>by simp[hk]
   .exact (h4 b hb).mono λ k hk=>by simp[hk]
 | [],_::_,_,_,hr,_=>by cases hr
 | _::_,[],_,_,hr,_=>by cases hr
theorem Vo{w:World}:∀ {vs:List TV} {xs:List Value} {fp:List Nat},Ln w vs xs fp->JB w vs (if h:xs.toArray.size=1 then xs.toArray[0] else .tuple xs.toArray) fp
 | [],[],fp,h=>⟨[],by simp,h⟩
 | [v],[x],fp,h=>by
  obtain⟨f1,f2,rfl,h1,h2⟩:=h
  have h2:f2=[]:=h2
  subst h2
  simpa [JB] using h1
 | v::u::r,x::y::z,fp,h=>⟨x::y::z,by simp,h⟩
 | [],_::_,_,h=>h.elim
 | _::_,[],_,h=>h.elim
 | [_],_::_::_,_,h=>by obtain⟨_,_,_,_,h⟩:=h;exact h.elim
 | _::_::_,[_],_,h=>by obtain⟨_,_,_,_,h⟩:=h;exact h.elim
theorem pq:∀ {us:List TV} {id:Nat} {p:Nat×aB},p∈cd id us->id<=p.1/\p.1<id+us.length
 | [],id,p,h=>by cases h
 | u::us,id,p,h=>by
  rcases a8t.1 h with h|h
  .have:=Qf h;simp only[a8C];omega
  .have:=pq h;simp only[a8C];omega
theorem yG:∀ {us:List TV} {id:Nat},((cd id us).map (·.1)).Nodup
 | [],id=>a9F
 | u::us,id=>by
  simp only[cd,b0n]
  refine eB ?_ yG λ x hx Fc=>?_
  .obtain⟨τ,y⟩:=u
   cases τ<;>simp[gL]
  .obtain⟨p,hp,rfl⟩:=a8A.1 hx
   obtain⟨q,hq,e⟩:=a8A.1 Fc
   have h1:=Qf hp
   have h2:=pq hq
   omega
theorem a0J(v:TV):v.cells.length<=100:=by
 obtain⟨τ,y⟩:=v
 cases τ with
 | st s =>
  show (s.cells y).length<=100
  rw[aS.kY]
  exact Ty.size_le (.st s)
 | _=>exact Nat.succ_le_of_lt (Nat.zero_lt_of_lt (by decide:0<100))
theorem Bk{c:Ctx}{a:Act}{w:World}{S:Nat->Prop}(hR:∀ j,c.R j=none):∀ {Z9:List Arg} {xs:List Value} {fp:List Nat} {p:Nat} {G:Gh} {s:ah},Inv c G s a w->vG P w S Z9 xs fp->fp.Nodup->Fr c G s.af w fp ->
  (∀ i x,xs[i]?=some x->a.tmps.getD (p+i) undef=x)->p+Z9.length<=s.aC.length->(∀ id o,s.af id=some o->id<1000000+100 * p)->∃ G',Inv c G' (uD p Z9 s) a w
 | [],xs,fp,p,G,s,h,_,_,_,_,_,_=>⟨G,h⟩
 | b::Z9,[],fp,p,G,s,h,hA,_,_,_,_,_=>hA.elim
 | b::Z9,x::xs,fp,p,G,s,h,hA,dr,hF,hx,hlen,bf=>by
  obtain⟨f1,f2,rfl,hb,hA⟩:=hA
  rw[a8S] at dr
  obtain⟨n1,n2,n3⟩:=dr
  simp only[a8C] at hlen
  have Fc:∀ i y,xs[i]?=some y->a.tmps.getD (p+1+i) undef=y:=λ i y hi=>by
   have:=hx (i+1) y (by simpa using hi)
   rwa [show p+(i+1)=p+1+i by omega] at this
  have other:f1=[]->uD p (b::Z9) s=uD (p+1) Z9 s->∃ G',Inv c G' (uD p (b::Z9) s) a w:=λ hf e=>by
   subst hf
   rw[e]
   exact Bk hR h hA n2 (λ q hq=>hF q (by simp[hq])) Fc (by omega) λ id o ho=>by have:=bf id o ho;omega
  cases b with
  | own v =>
   have hO:ET w v x f1:=hb
   obtain⟨G1,KO,l1,i1,e1,t1,YX⟩:=bz.VO (id:=1000000+100 * p) h hO n1 (λ q hq=>hF q (by simp[hq]))
    (λ q hq=>by
     cases Gi:s.af q.1 with
     | none=>rfl
     | some o=>have h1:=bf _ o Gi;have h2:=pq hq;omega) yG (λ j _=>hR j)
   have cG:ah.af { aC:=s.aC.set p (lv (1000000+100 * p) v),aK:=cd (1000000+100 * p) v.cells++s.aK }=KO:=by
    funext i
    rw[l1 i]
    exact r6 _ _ i
   have hI:Inv c G1 { aC:=s.aC.set p (lv (1000000+100 * p) v),aK:=cd (1000000+100 * p) v.cells++s.aK } a w:=by
    unfold Inv
    rw[cG,show ah.sl { aC:=s.aC.set p (lv (1000000+100 * p) v),aK:=cd (1000000+100 * p) v.cells++s.aK }=mZ s.aC.length s.sl (some p) (lv (1000000+100 * p) v) from tn s.aC p _ _,
     show ({ aC:=s.aC.set p (lv (1000000+100 * p) v),aK:=cd (1000000+100 * p) v.cells++s.aK }:ah).aC.length=s.aC.length from by simp]
    exact { i1 with
     aC:=λ i=>by
      unfold mZ
      split
      .rename_i hi
       obtain⟨e,_⟩:=hi
       simp only[a8o] at e
       subst e
       rw[show a.tmps.getD p undef=x from hx 0 x rfl]
       exact t1.iU
      .exact i1.aC i }
   obtain⟨G2,h2⟩:=Bk hR hI hA n2 (by
    rw[cG]
    exact YX f2 (λ q hq=>hF q (by simp[hq])) λ q hq Um=>n3 q Um q hq rfl) Fc (by simp;omega) (λ id o ho=>by
     rw[cG,l1 id] at ho
     unfold jJ at ho
     split at ho
     .rename_i o' cQ
      have h1:=pq (ik cQ)
      have h2:=a0J v
      simp only at h1
      omega
     .have:=bf id o ho;omega)
   exact⟨G2,h2⟩
  | val v=>exact other hb.1 rfl
  | ref v=>exact other hb.1 rfl
  | fn v=>exact other hb.1 rfl
  | dq v=>exact other hb.1 rfl
  | box k=>exact other hb.1 rfl
theorem vG.dR{w:World}{S:Nat->Prop}:∀ {Z9:List Arg} {xs:List Value} {fp:List Nat},vG P w S Z9 xs fp->aT (a1A P w S) Z9 xs
 | [],[],_,_=>trivial
 | a::Z9,x::xs,_,h=>by
  obtain⟨f1,f2,_,h1,h2⟩:=h
  refine⟨?_,vG.dR h2⟩
  cases a with
  | own v=>trivial
  | box k=>exact h1.2.elim
  | _=>exact h1.2
 | [],_::_,_,h=>h.elim
 | _::_,[],_,h=>h.elim
theorem Yn{w:World}{S:Nat->Prop}(hS:wR w S){fn:Func}{args:List Arg}{cS:List Value}{fa:List Nat}(ha:vG P w S args cS fa)(P9:fa=[]\/∀ a∈args,a.La=true)(dr:fa.Nodup)(Iu:∀ b∈fa,b<w.heap.size/\¬ S b) :
  ∃ G,Inv ⟨P,E,w,λ b=>b∈fa,S,λ _=>none,λ _=>False,λ _=>none⟩ G (jN fn args) { tmps:=cS.toArray++Array.replicate (fn.ntmps - cS.toArray.size) undef,defers:=[] } w:=by
 have h0:=Qm (P:=P) (E:=E) (fn:=fn) hS (X:=λ b=>b∈fa) Iu ha.dR (P9.imp_left λ e b hb=>by rw[e] at hb;cases hb)
 have hlen:=ha.dR.length
 refine Bk (S:=S) (λ _=>rfl) h0 ha dr (λ b hb=>⟨.inr hb,(Iu b hb).2,(Iu b hb).1,λ i o h=>(by cases h),λ j τ xs h=>by cases h⟩) (λ i x hi=>?_) (by simp[aD]<;>omega) (λ id o h=>by cases h)
 rw[Nat.zero_add,Array.getD_eq_getD_getElem?,Array.getElem?_append_left (by simpa using (List.getElem?_eq_some_iff.1 hi).1)]
 simp[hi]
theorem Ui(hE:bP P E)(lh:P.follows .mixedOrders=true){f:FuncId}{fn:Func}{mT:Code}(hf:P.funcs[f]?=some fn)(hb:fn.body=some mT)(Λ:Nat->aH){args:List Arg}{res:List TV}{post:List TV->Prop}(SH:∀ vs,post vs->vs=res)
  (h:ck E mT Λ 0 (fI E fn post) (jN fn args)):iI P f args res:=by
 intro w S cS fa hS ha P9 vO Iu
 refine b2y hf hb ?_
 obtain⟨G0,hinv⟩:=Yn (P:=P) (E:=E) (fn:=fn) hS ha P9 vO Iu
 refine b1T (jz (c:=⟨P,E,w,λ b=>b∈fa,S,λ _=>none,λ _=>False,λ _=>none⟩) hE lh mT Λ 0 _ _ _ _ w hinv h) ?_
 have fin:∀ (e:Exit) (a:Act) (w':World),(e = .normal\/e = .ret)->(∃ G s,Inv ⟨P,E,w,λ b=>b∈fa,S,λ _=>none,λ _=>False,λ _=>none⟩ G s a w'/\fI E fn post e s) ->
   a.defers=[]/\∃ v,(results fn a.tmps).run P w' = .ok v w'/\∃ x fp,Ending.returned v = .returned x/\bN (λ b=>b∈fa) w w'/\JB w' res x fp/\fp.Nodup/\∀ b∈fp,b∈fa\/(w.heap.size<=b/\b<w'.heap.size):=by
  rintro e a w' he ⟨G,s,hI,hp⟩
  have Wo:∃ vs ids,vC E s fn.results.toList fn.resultTypes.toList=some (vs,ids)/\ids.Nodup/\vs=res:=by
   rcases he with rfl|rfl <;>
   .simp only[fI] at hp
    split at hp
    .rename_i vs ids A0
     split at hp
     .rename_i hn
      exact⟨vs,ids,A0,dA hn,SH vs hp⟩
     .exact hp.elim
    .exact hp.elim
  obtain⟨vs,ids,A0,hn,rfl⟩:=Wo
  obtain⟨xs,fp,h1,h2,h3,h4⟩:=DO (P:=P) (E:=E) (c:=⟨P,E,w,λ b=>b∈fa,S,λ _=>none,λ _=>False,λ _=>none⟩) hE rfl rfl hI A0 hn
  refine⟨hI.defers,(if h:xs.toArray.size=1 then xs.toArray[0] else .tuple xs.toArray),?_,_,fp,rfl,hI.aU,Vo h2,h3,λ b hb=>?_⟩
  .rw[AE,b0M]
   simp only[a8Y,b2c,h1]
   rfl
  .obtain⟨id,hi,hq⟩:=h4 b hb
   rcases hq with ⟨τ,ys,q1,q2⟩|⟨e',τ,ys,q1,q2⟩
   .obtain⟨p1,_,p3,_⟩:=hI.bc.pl id τ ys b q1 q2
    exact p1.elim (λ q => .inr ⟨q,p3⟩) .inl
   .obtain⟨p1,_,p3⟩:=hI.place id _ b q1 q2
    exact p1.elim (λ q => .inr ⟨q,p3⟩) .inl
 intro e a w' hq
 cases e with
 | normal=>exact fin .normal a w' (.inl rfl) hq
 | ret=>exact fin .ret a w' (.inr rfl) hq
 | exit i=>obtain⟨_,_,_,hp⟩:=hq;exact hp.elim
 | goto l=>obtain⟨_,_,_,hp⟩:=hq;exact hp.elim
 | panic ch=>obtain⟨_,_,_,hp⟩:=hq;exact hp.elim
 | outgrown=>obtain⟨_,_,_,hp⟩:=hq;exact hp.elim
end
end Go.Proofs.YtmjfpcajohhbeaaGreatDoor

namespace Go.Proofs.YtmjfpcajohhbeaaGreatDoor
def oZ:List CK->List TV->Nat->List AV
 | .d _::ks,v::ds,n => .aW v::oZ ks ds n
 | .o _::ks,v::ds,n=>n6 n v::oZ ks ds (n+1)
 | .p j::ks,ds,n => .ptr (400000+j) 0::oZ ks ds n
 | _,_,_=>[]
def oY:Nat->List (List CK)->List (List TV)->Nat->List (Nat×aB)
 | k,ks::sh,ds::ca,n=>(400000+k, .box (oZ ks ds n))::oY (k+1) sh ca (n+(dS ks ds).length)
 | _,_,_,_=>[]
def ni:List (List CK)->List (List TV)->List TV
 | ks::sh,ds::ca=>dS ks ds++ni sh ca
 | _,_=>[]
def VS:Arg->AV
 | .box k => .ptr (400000+k) 0
 | a=>RO a
def cR(fn:Func)(args:List Arg)(sh:List (List CK))(ca:List (List TV)):ah :=
 { aC:=args.map VS++List.replicate (fn.ntmps - args.length) .any,aK:=oY 0 sh ca 1000000++cd 1000000 (ni sh ca) }
def idM(n:Nat):List (Nat×Nat):=(List.range n).map λ k=>(k,400000+k)
def kV(E:Env)(fn:Func)(sh:List (List CK))(post:List TV->List (List TV)->Prop)(e:Exit)(s:ah):Prop :=
 match e with
 | .ret | .normal=>match vC E s fn.results.toList fn.resultTypes.toList with
  | some (vs,ids)=>match lg s.af sh 0 (idM sh.length) with
   | some (ca,Gl,m)=>match nodupB (ids++Gl)&&Nat.beq m.length sh.length with
    | true=>post vs ca
    | false=>False
   | none=>False
  | none=>False
 | _=>False
theorem a0Z:∀ (n:Nat) (k:Nat),af (idM n) k=if k<n then some (400000+k) else none:=by
 intro n k
 have key:∀ (l:List Nat),l.Nodup->af (l.map λ k=>(k,400000+k)) k=if k∈l then some (400000+k) else none:=by
  intro l
  induction l with
  | nil=>intro _;rfl
  | cons j l ih =>
   intro hn
   simp only[a9j] at hn
   rw[a9k,r7,ih hn.2]
   by_cases hk:k=j
   .subst hk;simp
   .simp[hk]
 rw[idM,key _ b1x]
 simp
section
variable {P:Program} {E:Env}
theorem UN{w:World}{S:Nat->Prop}{B:Nat->Nat}:∀ {sh:List (List CK)} {k:Nat} {ca:List (List TV)} {n:Nat} {fa:List Nat},ll w S B k sh ca fa ->
  ∃ xs,di w ((ni sh ca).map TV.aR) xs fa/\(∀ u∈ni sh ca,u.τ.agg=false) /\
   ∀ p∈oY k sh ca n,∃ j cs l t,p=(400000+j, .box cs)/\k<=j/\j<k+sh.length/\w.heap[B j]?=some (.cells l.toArray t (0,0))/\l.length=cs.length /\
    ∀ (c:Ctx) (G:Gh) (lk:Nat->Option aB) (N:Nat),(∀ b,S b->G.S b)->(∀ j,j<N->G.η (400000+j) = .pointer (some ⟨B j,0,none⟩)/\iy (lk (400000+j))=true)->(∀ ks∈sh,∀ j,CK.p j∈ks->j<N) ->
     aT (C1 c G lk w) (cv n (ni sh ca)) xs->aT (C1 c G lk w) cs l
 | [],k,[],n,fa,h=>⟨[],⟨rfl,h⟩,by simp[ni],by simp[oY]⟩
 | ks::sh,k,ds::ca,n,fa,h=>by
  obtain⟨l,t,f1,f2,rfl,hw,hB,hbs⟩:=h
  obtain⟨xs,q1,q2,q3⟩:=UN (n:=n+(dS ks ds).length) hbs
  obtain⟨o1,o2,o3⟩:=hB.wP
  have hlen:∀ (us:List TV) (n:Nat),(cv n us).length=us.length:=λ us=>by
   induction us with
   | nil=>intro n;rfl
   | cons u us ih=>intro n;simp[cv,ih]
  have Dq:∀ {ks:List CK} {ds:List TV} {l:List Value} {fp:List Nat} {n:Nat},oF w S B ks ds l fp->l.length=(oZ ks ds n).length:=by
   intro ks
   induction ks with
   | nil=>intro ds l fp n h;cases ds<;>cases l<;>first|rfl|cases h
   | cons k0 ks ih =>
    intro ds l fp n h
    cases l with
    | nil=>cases k0<;>cases ds<;>cases h
    | cons x l =>
     cases k0 with
     | d τ =>
      cases ds with
      | nil=>cases h
      | cons v ds=>simp[oZ,ih h.2 (n:=n)]
     | o τ =>
      cases ds with
      | nil=>cases h
      | cons v ds=>obtain⟨_,_,_,_,h2⟩:=h;simp[oZ,ih h2 (n:=n+1)]
     | p j =>
      have h:x = .pointer (some ⟨B j,0,none⟩)/\oF w S B ks ds l fp:=by cases ds<;>exact h
      simp[oZ,ih h.2 (n:=n)]
  have Oj:∀ (c:Ctx) (G:Gh) (lk:Nat->Option aB) (N:Nat),(∀ b,S b->G.S b)->(∀ j,j<N->G.η (400000+j) = .pointer (some ⟨B j,0,none⟩)/\iy (lk (400000+j))=true) ->
    ∀ {ks:List CK} {ds:List TV} {l:List Value} {fp:List Nat} {n:Nat},oF w S B ks ds l fp->(∀ j,CK.p j∈ks->j<N)->aT (C1 c G lk w) (cv n (dS ks ds)) (oB ks l)->aT (C1 c G lk w) (oZ ks ds n) l:=by
   intro c G lk N hS hN ks
   induction ks with
   | nil=>intro ds l fp n h _ _;cases ds<;>cases l<;>first|exact trivial|cases h
   | cons k0 ks ih =>
    intro ds l fp n h hp hc
    cases l with
    | nil=>cases k0<;>cases ds<;>cases h
    | cons x l =>
     cases k0 with
     | d τ =>
      cases ds with
      | nil=>cases h
      | cons v ds =>
       obtain⟨⟨e,h1,h2⟩,h3⟩:=h
       exact⟨⟨by rw[e];exact h1,Rd.aU hS (λ _ _=>rfl) _ h2⟩,ih h3 (λ j hj=>hp j (by simp[hj])) hc⟩
     | o τ =>
      cases ds with
      | nil=>cases h
      | cons v ds =>
       obtain⟨_,_,_,_,h2⟩:=h
       exact⟨hc.1,ih h2 (λ j hj=>hp j (by simp[hj])) hc.2⟩
     | p j =>
      have h:x = .pointer (some ⟨B j,0,none⟩)/\oF w S B ks ds l fp:=by cases ds<;>exact h
      have hc:aT (C1 c G lk w) (cv n (dS ks ds)) (oB ks l):=by cases ds<;>exact hc
      obtain⟨g1,g2⟩:=hN j (hp j (by simp))
      have r:=ih h.2 (λ j hj=>hp j (by simp[hj])) hc
      show aT _ (AV.ptr (400000+j) 0::oZ ks ds n) (x::l)
      exact⟨⟨B j,g1,h.1,g2⟩,r⟩
  refine⟨oB ks l++xs,by rw[ni,b0n];exact o1.append q1,λ u hu=>(a8t.1 hu).elim (o2 u) (q2 u),λ p hp=>?_⟩
  have zV:∀ {c:Ctx} {G':Gh} {lk':Nat->Option aB},aT (C1 c G' lk' w) (cv n (ni (ks::sh) (ds::ca))) (oB ks l++xs)->aT (C1 c G' lk' w) (cv n (dS ks ds)) (oB ks l)/\aT (C1 c G' lk' w) (cv (n+(dS ks ds).length) (ni sh ca)) xs:=λ {c G' lk'} q=>by
   rw[ni,uy] at q
   have hl:(cv n (dS ks ds)).length=(oB ks l).length:=by rw[<-o3];exact hlen _ _
   have h1:=q.take (cv n (dS ks ds)).length
   have h2:=q.drop (cv n (dS ks ds)).length
   rw[b0D,hl,b0D] at h1
   rw[b0B,hl,b0B] at h2
   exact⟨h1,h2⟩
  rcases a8I.1 hp with rfl|hp
  .exact⟨k,oZ ks ds n,l,t,rfl,a9i _,by simp,hw,Dq hB,λ c G lk N h1 h2 h3 h4=>Oj c G lk N h1 h2 hB (h3 ks (by simp)) (zV h4).1⟩
  .obtain⟨j,cs,l',t',g1,g2,g3,g4,g5,g6⟩:=q3 p hp
   exact⟨j,cs,l',t',g1,by omega,by simp;omega,g4,g5,λ c G lk N h1 h2 h3 h4=>g6 c G lk N h1 h2 (λ ks' hk=>h3 ks' (by simp[hk])) (zV h4).2⟩
 | [],_,_::_,_,_,h=>h.elim
 | _::_,_,[],_,_,h=>h.elim
def VB(sh:List (List CK)):Bool:=Nat.blt sh.length 1000&&sh.all λ ks=>ks.all λ c=>match c with
 | .p j=>Nat.blt j sh.length
 | _=>true
theorem TN{sh:List (List CK)}(h:VB sh=true):∀ ks∈sh,∀ j,CK.p j∈ks->j<sh.length:=λ ks hk j hj=>by
 unfold VB at h
 rw[a8r] at h
 obtain⟨_,h⟩:=h
 rw[a9a] at h
 have h2:=h ks hk
 rw[a9a] at h2
 exact a9u (h2 _ hj)
theorem oF.congr{w:World}{S:Nat->Prop}{B B':Nat->Nat}{N:Nat}(hB:∀ j,j<N->B j=B' j):∀ {ks:List CK} {ds:List TV} {l:List Value} {fp:List Nat},(∀ j,CK.p j∈ks->j<N)->oF w S B ks ds l fp->oF w S B' ks ds l fp:=by
 intro ks
 induction ks with
 | nil=>intro ds l fp _ h;cases ds<;>cases l<;>exact h
 | cons k0 ks ih =>
  intro ds l fp hp h
  cases l with
  | nil=>cases k0<;>cases ds<;>cases h
  | cons x l =>
   cases k0 with
   | d τ =>
    cases ds with
    | nil=>cases h
    | cons v ds=>exact⟨h.1,ih (λ j hj=>hp j (by simp[hj])) h.2⟩
   | o τ =>
    cases ds with
    | nil=>cases h
    | cons v ds =>
     obtain⟨f1,f2,e,h1,h2⟩:=h
     exact⟨f1,f2,e,h1,ih (λ j hj=>hp j (by simp[hj])) h2⟩
   | p j =>
    have h:x = .pointer (some ⟨B j,0,none⟩)/\oF w S B ks ds l fp:=by cases ds<;>exact h
    have r:=ih (λ j hj=>hp j (by simp[hj])) h.2
    have e:x = .pointer (some ⟨B' j,0,none⟩):=by rw[h.1,hB j (hp j (by simp))]
    cases ds<;>exact⟨e,r⟩
theorem ll.congr{w:World}{S:Nat->Prop}{B B':Nat->Nat}{N:Nat}(hB:∀ j,j<N->B j=B' j):∀ {sh:List (List CK)} {k:Nat} {ca:List (List TV)} {fa:List Nat},k+sh.length<=N->(∀ ks∈sh,∀ j,CK.p j∈ks->j<N)->ll w S B k sh ca fa->ll w S B' k sh ca fa
 | [],k,ca,fa,_,_,h=>by cases ca<;>exact h
 | ks::sh,k,[],fa,_,_,h=>h.elim
 | ks::sh,k,ds::ca,fa,hk,hp,h=>by
  obtain⟨l,t,f1,f2,e,h1,h2,h3⟩:=h
  simp only[a8C] at hk
  exact⟨l,t,f1,f2,e,by rw[<-hB k (by omega)];exact h1,h2.congr hB (hp ks (by simp)),ll.congr hB (by omega) (λ ks' oS=>hp ks' (by simp[oS])) h3⟩
theorem Jd:∀ {sh:List (List CK)} {k:Nat} {ca:List (List TV)} {n:Nat} {j:Nat},sh.length=ca.length->k<=j->j<k+sh.length->∃ cs,af (oY k sh ca n) (400000+j)=some (.box cs)
 | [],k,ca,n,j,_,h1,h2=>by simp at h2;omega
 | ks::sh,k,[],n,j,hl,_,_=>by simp at hl
 | ks::sh,k,ds::ca,n,j,hl,h1,h2=>by
  rw[oY,r7]
  by_cases hj:j=k
  .subst hj;exact⟨_,a8O rfl⟩
  .rw[a8y (by omega)]
   exact Jd (by simpa using hl) (by omega) (by simp at h2;omega)
theorem ll.len{w:World}{S:Nat->Prop}{B:Nat->Nat}:∀ {sh:List (List CK)} {k:Nat} {ca:List (List TV)} {fa:List Nat},ll w S B k sh ca fa->sh.length=ca.length
 | [],_,[],_,_=>rfl
 | [],_,_::_,_,h=>h.elim
 | _::_,_,[],_,h=>h.elim
 | ks::sh,k,ds::ca,fa,h=>by
  obtain⟨l,t,f1,f2,e,h1,h2,h3⟩:=h
  simp[ll.len h3]
theorem WT{w:World}{S:Nat->Prop}{B:Nat->Nat}{fn:Func}{args:List Arg}{cS:List Value}{sh:List (List CK)}{ca:List (List TV)}{fa:List Nat}(Iy:VB sh=true)(hS:wR w S)(Xw:ll w S B 0 sh ca fa)(XD:fa.Nodup)
  (Iu:∀ b∈fa,b<w.heap.size/\¬ S b/\∀ k,k<sh.length->B k≠b) (hB:∀ k,k<sh.length->B k<w.heap.size/\¬ S (B k)) (Mu:∀ j k,j<sh.length->k<sh.length->B j=B k->j=k) (ha:aT (W1 w S (BX sh.length B fa) B) args cS)
  (SA:∀ k,Arg.box k∈args->k<sh.length) :
  ∃ G,Inv ⟨P,E,w,BX sh.length B fa,S,λ _=>none,λ _=>False,λ id=>if 400000<=id/\id<400000+sh.length then some (B (id - 400000)) else none⟩ G (cR fn args sh ca) { tmps:=cS.toArray++Array.replicate (fn.ntmps - cS.toArray.size) undef,defers:=[] } w:=by
 have hlen:=ha.length
 let c1:Ctx:=⟨P,E,w,λ b=>b∈fa,S,λ _=>none,λ _=>False,λ _=>none⟩
 have h0:bz c1 ⟨S,λ _=>undef,λ _=>[]⟩ (λ _ => .any) (cR fn args sh ca).aC.length (λ _=>none) { tmps:=cS.toArray++Array.replicate (fn.ntmps - cS.toArray.size) undef,defers:=[] } w:={
  defers:=rfl
  size:=by simp[cR,hlen]
  aU:=bN.refl _ _
  oE:=⟨λ b h=>(Iu b h).1,λ g hg=>⟨(hS.2 g hg).1,λ q=>(Iu g q).2.1 (hS.2 g hg).1,hS.1 g (hS.2 g hg).1,(hS.2 g hg).2⟩⟩
  fE:=λ b _ _=>b0w
  sX:=λ b hs=>hs
  ez:=hS.1
  aC:=λ i=>trivial
  aK:=λ id o h=>by cases h
  place:=λ id o b h=>by cases h
  apart:=λ id dO o o' b h=>by cases h
  bc:=⟨(λ id τ xs h=>by cases h),(λ id τ xs h=>by cases h),(λ id τ xs b h=>by cases h),(λ id dO τ bo xs dh b h=>by cases h)⟩
  root:=λ id v h=>by cases h
  lj:=λ id v h=>by cases h
  dQ:=λ id v h=>by cases h
  gu:=λ id v h=>by cases h }
 obtain⟨xs,o1,o2,o3⟩:=UN (n:=1000000) Xw
 have a8n:sh.length<1000:=by
  unfold VB at Iy
  rw[a8r] at Iy
  exact a9u Iy.1
 have hFr:Fr c1 ⟨S,λ _=>undef,λ _=>[]⟩ (λ _=>none) w fa:=λ b hb=>⟨.inr hb,(Iu b hb).2.1,(Iu b hb).1,(λ i o h=>by cases h),(λ j τ xs h=>by cases h)⟩
 obtain⟨G1,KO,k1,k2,k3,k4,_⟩:=h0.Bv (us:=ni sh ca) (cs:=xs) (id:=1000000) o2 o1 XD hFr (λ p hp=>rfl) yG (λ j _=>rfl)
 have a0d:∀ i o,KO i=some o->1000000<=i/\dw (some o)=true:=λ i o ho=>by
  rw[k1 i] at ho
  unfold jJ at ho
  split at ho
  .rename_i o' cQ
   simp only[a8o] at ho
   subst ho
   refine⟨(pq (ik cQ)).1,?_⟩
   have:∀ {us:List TV} {id:Nat} {p:Nat×aB},p∈cd id us->dw (some p.2)=true:=by
    intro us
    induction us with
    | nil=>intro id p hp;cases hp
    | cons u us ih =>
     intro id p hp
     rcases a8t.1 hp with hp|hp
     .obtain⟨τ,y⟩:=u
      cases τ<;>simp[gL] at hp
      subst hp
      rfl
     .exact ih hp
   exact this (ik cQ)
  .cases ho
 have We:∀ i o,KO i=some o->eV (G1.η i)=none:=λ i o ho=>by
  obtain⟨_,ht⟩:=a0d i o ho
  match o,ht with
  | .aE τ ys,_ =>
   obtain⟨v,l,_,_,q,_⟩:=k2.bc.tr i τ ys ho
   rw[q];rfl
 let G2:Gh:=⟨S,λ i=>if 400000<=i/\i<400000+sh.length then .pointer (some ⟨B (i - 400000),0,none⟩) else G1.η i,G1.φ⟩
 have Vi:∀ j,j<sh.length->G2.η (400000+j) = .pointer (some ⟨B j,0,none⟩):=λ j hj=>by
  show (if 400000<=400000+j/\400000+j<400000+sh.length then _ else _)=_
  rw[a8O (by omega),b0y]
 have Vh:∀ i,1000000<=i->G2.η i=G1.η i:=λ i hi=>a8y (by omega)
 have hGS:G1.S=S:=k3.S
 have Zd:(cR fn args sh ca).af=λ i=>match af (oY 0 sh ca 1000000) i with
   | some o=>some o
   | none=>KO i:=by
  funext i
  show af (oY 0 sh ca 1000000++cd 1000000 (ni sh ca)) i=_
  rw[r6]
  unfold jJ
  cases af (oY 0 sh ca 1000000) i with
  | some o=>rfl
  | none =>
   simp only
   rw[k1 i]
   unfold jJ
   cases af (cd 1000000 (ni sh ca)) i<;>rfl
 have a6M:∀ j,j<sh.length->∃ cs,(cR fn args sh ca).af (400000+j)=some (.box cs):=λ j hj=>by
  obtain⟨cs,q⟩:=Jd (n:=1000000) Xw.len (Nat.zero_le j) (by simpa using hj)
  exact⟨cs,by rw[Zd];simp only[q]⟩
 have xO:∀ i o,(cR fn args sh ca).af i=some o->(∃ j cs l t,i=400000+j/\j<sh.length/\o = .box cs/\w.heap[B j]?=some (.cells l.toArray t (0,0)) /\
   ∀ (c:Ctx) (G:Gh) (lk:Nat->Option aB),(∀ b,S b->G.S b)->(∀ j,j<sh.length->G.η (400000+j) = .pointer (some ⟨B j,0,none⟩)/\iy (lk (400000+j))=true)->aT (C1 c G lk w) (cv 1000000 (ni sh ca)) xs->aT (C1 c G lk w) cs l) \/
   (KO i=some o/\1000000<=i):=λ i o ho=>by
  rw[Zd] at ho
  simp only at ho
  cases hl:af (oY 0 sh ca 1000000) i with
  | some o' =>
   rw[hl] at ho
   simp only[a8o] at ho
   subst ho
   obtain⟨j,cs,l,t,q1,_,q2,q3,_,q4⟩:=o3 _ (gJ hl)
   simp only[a8u] at q1
   obtain⟨rfl,rfl⟩:=q1
   exact .inl ⟨j,cs,l,t,rfl,by simpa using q2,rfl,q3,λ c G lk h1 h2 h3=>q4 c G lk sh.length h1 h2 (TN Iy) h3⟩
  | none =>
   rw[hl] at ho
   exact .inr ⟨ho,(a0d i o ho).1⟩
 have gN:∀ i,fb (KO i) ((cR fn args sh ca).af i):=λ i=>by
  cases hl:KO i with
  | none=>exact⟨(λ q=>by cases q),(λ e τ xs q=>by cases q),(λ q=>by cases q),λ q=>by cases q⟩
  | some o =>
   have:=(a0d i o hl).1
   have hn:af (oY 0 sh ca 1000000) i=none:=vu λ p hp e=>by
    obtain⟨j,cs,l,t,q1,_,q2,_⟩:=o3 p hp
    rw[q1] at e
    simp only at e
    omega
   rw[Zd]
   simp only[hn,hl]
   exact fb.refl _
 have a3J:aT (C1 ⟨P,E,w,BX sh.length B fa,S,λ _=>none,λ _=>False,λ id=>if 400000<=id/\id<400000+sh.length then some (B (id - 400000)) else none⟩ G2 (cR fn args sh ca).af w) (cv 1000000 (ni sh ca)) xs:=by
  have:∀ {us:List TV} {n:Nat} {xs:List Value},1000000<=n->aT (C1 c1 G1 KO w) (cv n us) xs->aT (C1 ⟨P,E,w,BX sh.length B fa,S,λ _=>none,λ _=>False,λ id=>if 400000<=id/\id<400000+sh.length then some (B (id - 400000)) else none⟩ G2 (cR fn args sh ca).af w) (cv n us) xs:=by
   intro us
   induction us with
   | nil=>intro n xs _ h;cases xs<;>exact h
   | cons u us ih =>
    intro n xs hn h
    cases xs with
    | nil=>exact h.elim
    | cons x xs =>
     refine⟨?_,ih (by omega) h.2⟩
     have h1:C1 c1 G1 KO w (n6 n u) x:=h.1
     obtain⟨τ,y⟩:=u
     have aW:C1 c1 G1 KO w (.aW ⟨τ,y⟩) x->C1 ⟨P,E,w,BX sh.length B fa,S,λ _=>none,λ _=>False,λ id=>if 400000<=id/\id<400000+sh.length then some (B (id - 400000)) else none⟩ G2 (cR fn args sh ca).af w (.aW ⟨τ,y⟩) x:=λ q=>⟨q.1,Rd.aU (λ b hb=>by rw[hGS] at hb;exact hb) (λ _ _=>rfl) _ q.2⟩
     cases τ with
     | slice τ =>
      obtain⟨g1,l,g2,g3⟩:=h1
      exact⟨(gN n).2.2.1 g1,l,by rw[Vh n hn];exact g2,g3⟩
     | mv τ=>exact trivial
     | _=>exact aW h1
  exact this (a9i _) k4
 have hN:∀ j,j<sh.length->G2.η (400000+j) = .pointer (some ⟨B j,0,none⟩)/\iy ((cR fn args sh ca).af (400000+j))=true:=λ j hj=>by
  obtain⟨cs,q⟩:=a6M j hj
  exact⟨Vi j hj,by rw[q];rfl⟩
 have SO:∀ i τ xs,(cR fn args sh ca).af i=some (.aE τ xs)->KO i=some (.aE τ xs)/\1000000<=i:=λ i τ ys hi=>by
  rcases xO i _ hi with ⟨_,_,_,_,_,_,q,_⟩|q
  .cases q
  .exact q
 refine⟨G2,?_⟩
 exact {
  defers:=rfl
  size:=by simp[cR,hlen]
  aU:=bN.refl _ _
  oE:=⟨λ b hb=>hb.elim (λ q=>(Iu b q).1) λ ⟨k,hk,e⟩=>(by rw[e];exact (hB k hk).1),λ g hg=>⟨(hS.2 g hg).1,λ q=>q.elim (λ q=>(Iu g q).2.1 (hS.2 g hg).1) λ ⟨k,hk,e⟩=>(hB k hk).2 (e ▸ (hS.2 g hg).1),hS.1 g (hS.2 g hg).1,(hS.2 g hg).2⟩⟩
  fE:=λ b _ _=>b0w
  sX:=λ b hs=>hs
  ez:=hS.1
  aC:=λ i=>by
   have SN:∀ v x,v∈args->W1 w S (BX sh.length B fa) B v x->VR ⟨P,E,w,BX sh.length B fa,S,λ _=>none,λ _=>False,λ id=>if 400000<=id/\id<400000+sh.length then some (B (id - 400000)) else none⟩ G2 (cR fn args sh ca).af w (VS v) x:=by
    intro v x hm h
    cases v with
    | val v=>exact h
    | ref v =>
     obtain⟨b,o,cs,h1,h2,h3,h4,h5⟩:=h
     exact⟨b,o,cs,h1, .inr ⟨h2,h3,λ z=>z⟩,h4,h5⟩
    | fn f=>exact h
    | dq v=>exact h.elim
    | own v=>exact h.elim
    | box k =>
     obtain⟨g1,g2⟩:=hN k (SA k hm)
     exact⟨B k,g1,h,g2⟩
   have h1:aT (λ v x=>VR ⟨P,E,w,BX sh.length B fa,S,λ _=>none,λ _=>False,λ id=>if 400000<=id/\id<400000+sh.length then some (B (id - 400000)) else none⟩ G2 (cR fn args sh ca).af w v x) (args.map VS) cS:=aT.eO _ (ha.imp λ v x hm h=>SN v x hm h)
   have h2:=aT.getD (d:=AV.any) (e:=undef) (show VR ⟨P,E,w,BX sh.length B fa,S,λ _=>none,λ _=>False,λ id=>if 400000<=id/\id<400000+sh.length then some (B (id - 400000)) else none⟩ G2 (cR fn args sh ca).af w .any undef from trivial) (h1.zq (a:=AV.any) (b:=undef) (show VR ⟨P,E,w,BX sh.length B fa,S,λ _=>none,λ _=>False,λ id=>if 400000<=id/\id<400000+sh.length then some (B (id - 400000)) else none⟩ G2 (cR fn args sh ca).af w .any undef from trivial) (fn.ntmps - args.length)) i
   have e1:(cR fn args sh ca).sl i=(args.map VS++List.replicate (fn.ntmps - args.length) AV.any).getD i AV.any:=rfl
   have e2:(cS.toArray++Array.replicate (fn.ntmps - cS.toArray.size) undef).getD i undef=(cS++List.replicate (fn.ntmps - args.length) undef).getD i undef:=by
    rw[a9n,a8H,<-b2h]
    simp[hlen]
   rw[e1]
   show VR _ _ _ _ _ ((cS.toArray++Array.replicate (fn.ntmps - cS.toArray.size) undef).getD i undef)
   rw[e2]
   exact h2
  aK:=λ i o ho=>by
   rcases xO i o ho with ⟨j,cs,l,t,rfl,hj,rfl,q3,q4⟩|⟨q1,q2⟩
   .exact⟨B j,l,t,Vi j hj,q3,q4 _ G2 _ (λ b hb=>hb) hN a3J⟩
   .have:=(a0d i o q1).2
    match o,this with
    | .aE τ ys,_=>trivial
  place:=λ i o b ho hb=>by
   rcases xO i o ho with ⟨j,cs,l,t,rfl,hj,rfl,q3,q4⟩|⟨q1,q2⟩
   .rw[Vi j hj] at hb
    simp only[eV,a8o] at hb
    subst hb
    exact⟨.inr (.inr ⟨j,hj,rfl⟩),(hB j hj).2,(hB j hj).1⟩
   .rw[Vh i q2,We i o q1] at hb
    cases hb
  apart:=λ i i' o o' b ho cQ hb cD=>by
   rcases xO i o ho with ⟨j,cs,l,t,rfl,hj,rfl,q3,q4⟩|⟨q1,q2⟩
   .rcases xO i' o' cQ with ⟨j',dN,l',t',rfl,Gf,rfl,_,_⟩|⟨g1,g2⟩
    .rw[Vi j hj] at hb
     rw[Vi j' Gf] at cD
     simp only[eV,a8o] at hb cD
     rw[Mu j j' hj Gf (hb.trans cD.symm)]
    .rw[Vh i' g2,We i' o' g1] at cD
     cases cD
   .rw[Vh i q2,We i o q1] at hb
    cases hb
  bc:={
   tr:=λ i τ ys hi=>by
    obtain⟨q1,q2⟩:=SO i τ ys hi
    rw[Vh i q2]
    exact k2.bc.tr i τ ys q1
   nd:=λ i τ ys hi=>k2.bc.nd i τ ys (SO i τ ys hi).1
   pl:=λ i τ ys b hi hb=>by
    obtain⟨q1,q2⟩:=SO i τ ys hi
    obtain⟨p1,p2,p3,p4⟩:=k2.bc.pl i τ ys b q1 hb
    have Uj:b∈fa:=p1.elim (λ q=>absurd p3 (Nat.not_lt.2 q)) id
    refine⟨.inr (.inl Uj),(Iu b Uj).2.1,p3,λ i' o' cQ e=>?_⟩
    rcases xO i' o' cQ with ⟨j,cs,l,t,rfl,hj,rfl,_,_⟩|⟨g1,g2⟩
    .rw[Vi j hj] at e
     simp only[eV,a8o] at e
     exact (Iu b Uj).2.2 j hj e
    .rw[Vh i' g2,We i' o' g1] at e
     cases e
   ap:=λ i i' τ bo ys ys' b hi qd=>k2.bc.ap i i' τ bo ys ys' b (SO i τ ys hi).1 (SO i' bo ys' qd).1 }
  root:=λ id v h=>by cases h
  lj:=λ id v h=>by cases h
  dQ:=λ id b hr ht=>by
   simp only at hr
   split at hr
   .rename_i hc
    simp only[a8o] at hr
    show (if 400000<=id/\id<400000+sh.length then _ else _)=_
    rw[a8O hc,hr]
   .cases hr
  gu:=λ id b hr=>by
   simp only at hr
   split at hr
   .rename_i hc;exact hc.1
   .cases hr }
theorem V6(hE:bP P E)(lh:P.follows .mixedOrders=true){f:FuncId}{fn:Func}{mT:Code}(hf:P.funcs[f]?=some fn)(hb:fn.body=some mT)(Λ:Nat->aH){args:List Arg}{sh:List (List CK)}{ca:List (List TV)}{res:List TV}{gf:List (List TV)}{post:List TV->List (List TV)->Prop}
  (SH:∀ vs ds,post vs ds->vs=res/\ds=gf) (Iy:VB sh=true) (SA:∀ k,Arg.box k∈args->k<sh.length) (h:ck E mT Λ 0 (kV E fn sh post) (cR fn args sh ca)):tu P f sh args ca res gf:=by
 intro w S B cS fa hS Xw XD Iu hB Mu ha
 refine b2y hf hb ?_
 obtain⟨G0,hinv⟩:=WT (P:=P) (E:=E) (fn:=fn) Iy hS Xw XD Iu hB Mu ha SA
 generalize hc:(⟨P,E,w,BX sh.length B fa,S,λ _=>none,λ _=>False,λ id=>if 400000<=id/\id<400000+sh.length then some (B (id - 400000)) else none⟩:Ctx)=c at *
 have Wi:c.P=P:=by rw[<-hc]
 have Xz:c.E=E:=by rw[<-hc]
 have hcw:c.w0=w:=by rw[<-hc]
 have hcX:c.X=BX sh.length B fa:=by rw[<-hc]
 have hcS:c.S0=S:=by rw[<-hc]
 have hcB:∀ j,j<sh.length->c.RB (400000+j)=some (B j):=λ j hj=>by
  rw[<-hc]
  show (if 400000<=400000+j/\400000+j<400000+sh.length then _ else _)=_
  rw[a8O (by omega),b0y]
 have hE':bP c.P c.E:=by rw[Wi,Xz];exact hE
 have cZ:=jz (c:=c) hE' (by rw[Wi];exact lh) mT Λ 0 (kV E fn sh post) G0 (cR fn args sh ca) _ w hinv (by rw[Xz];exact h)
 rw[Wi] at cZ
 refine b1T cZ ?_
 have fin:∀ (e:Exit) (a:Act) (w':World),(e = .normal\/e = .ret)->(∃ G s,Inv c G s a w'/\kV E fn sh post e s) ->
   a.defers=[]/\∃ v,(results fn a.tmps).run P w' = .ok v w'/\∃ x S' fp L4,Ending.returned v = .returned x/\bN (BX sh.length B fa) w w'/\(∀ b,S b->S' b)/\(∀ b,S' b->b<w'.heap.size)/\(∀ b,b<w.heap.size->¬ BX sh.length B fa b->(S' b↔S b)) /\
    JB w' res x fp/\ll w' S' B 0 sh gf L4/\(fp++L4).Nodup/\(∀ b∈fp++L4,(b∈fa\/(w.heap.size<=b/\b<w'.heap.size))/\¬ S' b/\∀ k,k<sh.length->B k≠b)/\∀ k,k<sh.length->¬ S' (B k):=by
  rintro e a w' he ⟨G,s,hI,hp⟩
  have Wo:∃ vs ids ds Gl m,vC E s fn.results.toList fn.resultTypes.toList=some (vs,ids)/\lg s.af sh 0 (idM sh.length)=some (ds,Gl,m)/\(ids++Gl).Nodup/\vs=res/\ds=gf:=by
   rcases he with rfl|rfl <;>
   .simp only[kV] at hp
    split at hp
    .rename_i vs ids A0
     split at hp
     .rename_i ds Gl m Ok
      split at hp
      .rename_i hn
       rw[a8r] at hn
       obtain⟨q1,q2⟩:=SH _ _ hp
       exact⟨vs,ids,ds,Gl,m,A0,Ok,dA hn.1,q1,q2⟩
      .exact hp.elim
     .exact hp.elim
    .exact hp.elim
  obtain⟨vs,ids,ds,Gl,m,A0,Ok,hn,rfl,rfl⟩:=Wo
  rw[a8S] at hn
  obtain⟨n1,n2,n3⟩:=hn
  obtain⟨xs,fp,h1,h2,h3,h4⟩:=DO (P:=P) (E:=E) (c:=c) hE' Wi Xz hI A0 n1
  obtain⟨x0,Wf,L4,a6D,a5x,a4I⟩:=wx hI Ok n2
  have a0a:∀ k,k<sh.length->∃ cs,s.af (400000+k)=some (.box cs)/\G.η (400000+k) = .pointer (some ⟨B k,0,none⟩)/\af m k=some (400000+k):=λ k hk=>by
   obtain⟨id,cs,q1,q2⟩:=Wf k (Nat.zero_le _) (by simpa using hk)
   have q3:=x0 k (400000+k) (by rw[a0Z,a8O hk])
   rw[q3] at q1
   simp only[a8o] at q1
   subst q1
   exact⟨cs,q2,hI.dQ _ _ (hcB k hk) (by rw[q2];rfl),q3⟩
  have hbo:∀ k,k<sh.length->pG G m k=B k:=λ k hk=>by
   obtain⟨cs,_,q2,q3⟩:=a0a k hk
   simp only[pG,q3,q2]
   rfl
  have a6E:=ll.congr (N:=sh.length) hbo (by omega) (TN Iy) (a6D m (oG.refl m))
  have iw:bN (BX sh.length B fa) w w':=by
   have:=hI.aU
   rwa [hcX,hcw] at this
  have gG:∀ ids b,xv G s.af ids b->(b∈fa\/(w.heap.size<=b/\b<w'.heap.size))/\¬ G.S b/\∀ k,k<sh.length->B k≠b:=λ ids b hb=>by
   obtain⟨id,hi,hq⟩:=hb
   have hp:(c.w0.heap.size<=b\/c.X b)/\¬ G.S b/\b<w'.heap.size/\∀ k,k<sh.length->B k≠b:=by
    rcases hq with ⟨τ,ys,q1,q2⟩|⟨e',τ,ys,q1,q2⟩
    .obtain⟨p1,p2,p3,p4⟩:=hI.bc.pl id τ ys b q1 q2
     refine⟨p1,p2,p3,λ k hk e=>?_⟩
     obtain⟨cs,g1,g2,_⟩:=a0a k hk
     exact p4 _ _ g1 (by rw[g2,<-e];rfl)
    .obtain⟨p1,p2,p3⟩:=hI.place id _ b q1 q2
     refine⟨p1,p2,p3,λ k hk e=>?_⟩
     obtain⟨cs,g1,g2,_⟩:=a0a k hk
     have:=hI.apart id _ _ _ b q1 g1 q2 (by rw[g2,<-e];rfl)
     subst this
     rw[q1] at g1
     cases g1
   obtain⟨p1,p2,p3,p4⟩:=hp
   refine⟨?_,p2,p4⟩
   rw[hcw,hcX] at p1
   rcases p1 with p1|p1|⟨k,hk,e⟩
   .exact .inr ⟨p1,p3⟩
   .exact .inl p1
   .exact absurd e.symm (p4 k hk)
  refine⟨hI.defers,(if h:xs.toArray.size=1 then xs.toArray[0] else .tuple xs.toArray),?_,_,G.S,fp,L4,rfl,iw,?_,hI.ez,?_,Vo h2,a6E,?_,?_,?_⟩
  .rw[AE,b0M]
   simp only[a8Y,b2c,h1]
   rfl
  .intro b hb
   exact hI.sX b (by rw[hcS];exact hb)
  .intro b hb hx
   have:=hI.fE b (by rw[hcw];exact hb) (by rw[hcX];exact hx)
   rwa [hcS] at this
  .exact eB h3 a5x λ b hb cD=>hI.la (h4 b hb) (a4I b cD) λ x hx y hy=>n3 x hx y hy
  .intro b hb
   rcases a8t.1 hb with hb|hb
   .exact gG ids b (h4 b hb)
   .exact gG Gl b (a4I b hb)
  .intro k hk
   obtain⟨cs,q1,q2,_⟩:=a0a k hk
   exact (hI.place _ _ (B k) q1 (by rw[q2];rfl)).2.1
 intro e a w' hq
 cases e with
 | normal=>exact fin .normal a w' (.inl rfl) hq
 | ret=>exact fin .ret a w' (.inr rfl) hq
 | exit i=>obtain⟨_,_,_,hp⟩:=hq;exact hp.elim
 | goto l=>obtain⟨_,_,_,hp⟩:=hq;exact hp.elim
 | panic ch=>obtain⟨_,_,_,hp⟩:=hq;exact hp.elim
 | outgrown=>obtain⟨_,_,_,hp⟩:=hq;exact hp.elim
end
end Go.Proofs.YtmjfpcajohhbeaaGreatDoor

namespace Go.Proofs.YtmjfpcajohhbeaaGreatDoor
def DR:List (Nat×Ty×Nat×Nat) :=
 [(2,(.int .i64),0,0),
  (3,(.int .i64),0,0),
  (4, .bool,0,0),
  (5,(.int .u8),0,0),
  (9, .str,0,0),
  (12,(.int .u64),0,0),
  (23,(.st .sig),0,0),
  (24,(.slice (.st .claim)),120,124),
  (26,(.st .proof),0,0),
  (27,(.slice (.st .expr)),40,29),
  (29,(.st .expr),0,0),
  (30,(.slice (.int .i64)),8,2),
  (32,(.st .proofStep),0,0),
  (36,(.slice (.st .expr)),40,38),
  (38,(.st .expr),0,0),
  (41,(.st .sig),0,0),
  (42,(.slice (.st .claim)),120,99),
  (44,(.st .proof),0,0),
  (48,(.st .proofStep),0,0),
  (94,(.st .equation),0,0),
  (97,(.slice (.st .proofStep)),88,48),
  (99,(.st .claim),0,0),
  (118,(.slice .bool),1,4),
  (122,(.slice (.st .proofStep)),88,32),
  (124,(.st .claim),0,0),
  (129,(.slice .str),16,9),
  (154,(.slice (.st .proof)),40,44),
  (168,(.slice (.st .equation)),80,94),
  (183,(.st .l01Reader),0,0),
  (187,(.st .reader),0,0),
  (194,(.slice (.int .u8)),1,5),
  (203,(.int .u64),0,0),
  (221,(.int .u64),0,0)]
def Rv:List (Nat×Ty) :=
 [(73,(.st .proof)),(75,(.st .expr)),(77,(.st .proofStep)),(96,(.st .claim)),(101,(.st .equation)),(149,(.int .i64)),(181,(.st .l01Reader)),(191,(.st .reader)),(212,(.int .u8))]
def MJ:List (Nat×Ty×Ty):=[]
abbrev a1F:Nat:=2
abbrev VL:Nat:=4
abbrev IV:Nat:=26
abbrev VM:Nat:=38
abbrev Lp:Nat:=48
abbrev Ue:Nat:=99
noncomputable abbrev prog:Program:=Tryz.prog
theorem HN(c:Nat->List Arg->Option (Vc×List TV))(wr own:List Nat)(oc:Nat->List Arg->Option (Vc×List TV))(mk:Nat->Option UF)(cl:Nat->Option FA)(ro:List Nat)(tk:Nat->List Bool)(sk:Nat->Option SK)(sc:Nat->List Arg->List (List TV)->Option (Vc×List TV×List (List TV)))(nc:Nat->List Arg->Option (Vc×W3)):((DR.all λ r=>uS prog (Env.mk DR Rv c wr own oc mk cl ro tk sk sc MJ nc) r.1 r.2.1 r.2.2.1 r.2.2.2)&&MJ.all λ r=>S5 prog (Env.mk DR Rv c wr own oc mk cl ro tk sk sc MJ nc) r.1 r.2.1 r.2.2)=true:=by kernel_rfl
theorem AB:prog.follows .mixedOrders=true:=Checked.mixed Tryz.checked
def au(f:Func):Code:=match f.body with
 | some c=>c
 | none => .skip
abbrev gd:Nat:=4
noncomputable abbrev dE:Func:=Tryz.f4
theorem oV:prog.funcs[gd]?=some dE:=Tryz.func4
theorem vJ:dE.body=some (au dE):=by kernel_rfl
abbrev wa:Nat:=8
noncomputable abbrev kc:Func:=Tryz.f8
theorem BF:prog.funcs[wa]?=some kc:=Tryz.func8
theorem JO:kc.body=some (au kc):=by kernel_rfl
abbrev tf:Nat:=9
noncomputable abbrev lQ:Func:=Tryz.f9
theorem qL:prog.funcs[tf]?=some lQ:=Tryz.func9
theorem LL:lQ.body=some (au lQ):=by kernel_rfl
abbrev qk:Nat:=10
noncomputable abbrev fR:Func:=Tryz.f10
theorem uW:prog.funcs[qk]?=some fR:=Tryz.func10
theorem C8:fR.body=some (au fR):=by kernel_rfl
abbrev we:Nat:=12
noncomputable abbrev kg:Func:=Tryz.f12
theorem BH:prog.funcs[we]?=some kg:=Tryz.func12
theorem JR:kg.body=some (au kg):=by kernel_rfl
abbrev tg:Nat:=13
noncomputable abbrev lR:Func:=Tryz.f13
theorem qM:prog.funcs[tg]?=some lR:=Tryz.func13
theorem LM:lR.body=some (au lR):=by kernel_rfl
abbrev ql:Nat:=14
noncomputable abbrev fS:Func:=Tryz.f14
theorem uX:prog.funcs[ql]?=some fS:=Tryz.func14
theorem C9:fS.body=some (au fS):=by kernel_rfl
abbrev te:Nat:=16
noncomputable abbrev lP:Func:=Tryz.f16
theorem qK:prog.funcs[te]?=some lP:=Tryz.func16
theorem LK:lP.body=some (au lP):=by kernel_rfl
abbrev v7:Nat:=17
noncomputable abbrev j8:Func:=Tryz.f17
theorem BD:prog.funcs[v7]?=some j8:=Tryz.func17
theorem JL:j8.body=some (au j8):=by kernel_rfl
abbrev qj:Nat:=18
noncomputable abbrev fP:Func:=Tryz.f18
theorem uV:prog.funcs[qj]?=some fP:=Tryz.func18
theorem C7:fP.body=some (au fP):=by kernel_rfl
abbrev rD:Nat:=23
noncomputable abbrev gF:Func:=Tryz.f23
theorem wE:prog.funcs[rD]?=some gF:=Tryz.func23
theorem E1:gF.body=some (au gF):=by kernel_rfl
abbrev rz:Nat:=24
noncomputable abbrev gB:Func:=Tryz.f24
theorem wA:prog.funcs[rz]?=some gB:=Tryz.func24
theorem EW:gB.body=some (au gB):=by kernel_rfl
abbrev ra:Nat:=25
noncomputable abbrev ka:Func:=Tryz.f25
theorem pz:prog.funcs[ra]?=some ka:=Tryz.func25
theorem JN:ka.body=some (au ka):=by kernel_rfl
abbrev rb:Nat:=27
noncomputable abbrev kf:Func:=Tryz.f27
theorem pA:prog.funcs[rb]?=some kf:=Tryz.func27
theorem JQ:kf.body=some (au kf):=by kernel_rfl
abbrev qZ:Nat:=29
noncomputable abbrev jZ:Func:=Tryz.f29
theorem py:prog.funcs[qZ]?=some jZ:=Tryz.func29
theorem JK:jZ.body=some (au jZ):=by kernel_rfl
abbrev ud:Nat:=36
noncomputable abbrev jh:Func:=Tryz.f36
theorem zA:prog.funcs[ud]?=some jh:=Tryz.func36
theorem HZ:jh.body=some (au jh):=by kernel_rfl
abbrev uf:Nat:=37
noncomputable abbrev ji:Func:=Tryz.f37
theorem zB:prog.funcs[uf]?=some ji:=Tryz.func37
theorem H0:ji.body=some (au ji):=by kernel_rfl
abbrev A6:Nat:=38
noncomputable abbrev oh:Func:=Tryz.f38
theorem FI:prog.funcs[A6]?=some oh:=Tryz.func38
theorem N2:oh.body=some (au oh):=by kernel_rfl
abbrev uL:Nat:=39
noncomputable abbrev og:Func:=Tryz.f39
theorem FH:prog.funcs[uL]?=some og:=Tryz.func39
theorem N1:og.body=some (au og):=by kernel_rfl
abbrev wm:Nat:=40
noncomputable abbrev kv:Func:=Tryz.f40
theorem BN:prog.funcs[wm]?=some kv:=Tryz.func40
theorem J1:kv.body=some (au kv):=by kernel_rfl
abbrev uK:Nat:=41
noncomputable abbrev oe:Func:=Tryz.f41
theorem FG:prog.funcs[uK]?=some oe:=Tryz.func41
theorem N0:oe.body=some (au oe):=by kernel_rfl
abbrev uj:Nat:=42
noncomputable abbrev jo:Func:=Tryz.f42
theorem zH:prog.funcs[uj]?=some jo:=Tryz.func42
theorem H6:jo.body=some (au jo):=by kernel_rfl
abbrev A5:Nat:=43
noncomputable abbrev od:Func:=Tryz.f43
theorem FF:prog.funcs[A5]?=some od:=Tryz.func43
theorem NZ:od.body=some (au od):=by kernel_rfl
abbrev ug:Nat:=44
noncomputable abbrev jj:Func:=Tryz.f44
theorem zD:prog.funcs[ug]?=some jj:=Tryz.func44
theorem H2:jj.body=some (au jj):=by kernel_rfl
abbrev uh:Nat:=45
noncomputable abbrev jk:Func:=Tryz.f45
theorem zF:prog.funcs[uh]?=some jk:=Tryz.func45
theorem H3:jk.body=some (au jk):=by kernel_rfl
abbrev rA:Nat:=46
noncomputable abbrev gC:Func:=Tryz.f46
theorem wB:prog.funcs[rA]?=some gC:=Tryz.func46
theorem EX:gC.body=some (au gC):=by kernel_rfl
abbrev yp:Nat:=48
noncomputable abbrev lJ:Func:=Tryz.f48
theorem D2:prog.funcs[yp]?=some lJ:=Tryz.func48
theorem LD:lJ.body=some (au lJ):=by kernel_rfl
abbrev yw:Nat:=49
noncomputable abbrev lO:Func:=Tryz.f49
theorem D6:prog.funcs[yw]?=some lO:=Tryz.func49
theorem LJ:lO.body=some (au lO):=by kernel_rfl
abbrev s6:Nat:=50
noncomputable abbrev hU:Func:=Tryz.f50
theorem xx:prog.funcs[s6]?=some hU:=Tryz.func50
theorem FJ:hU.body=some (au hU):=by kernel_rfl
abbrev A4:Nat:=51
noncomputable abbrev oa:Func:=Tryz.f51
theorem FE:prog.funcs[A4]?=some oa:=Tryz.func51
theorem NY:oa.body=some (au oa):=by kernel_rfl
abbrev ub:Nat:=52
noncomputable abbrev jf:Func:=Tryz.f52
theorem zy:prog.funcs[ub]?=some jf:=Tryz.func52
theorem HX:jf.body=some (au jf):=by kernel_rfl
abbrev uc:Nat:=53
noncomputable abbrev jg:Func:=Tryz.f53
theorem zz:prog.funcs[uc]?=some jg:=Tryz.func53
theorem HY:jg.body=some (au jg):=by kernel_rfl
abbrev uk:Nat:=57
noncomputable abbrev jq:Func:=Tryz.f57
theorem zI:prog.funcs[uk]?=some jq:=Tryz.func57
theorem H7:jq.body=some (au jq):=by kernel_rfl
abbrev vV:Nat:=58
noncomputable abbrev jU:Func:=Tryz.f58
theorem By:prog.funcs[vV]?=some jU:=Tryz.func58
theorem JF:jU.body=some (au jU):=by kernel_rfl
abbrev uq:Nat:=59
noncomputable abbrev ju:Func:=Tryz.f59
theorem zL:prog.funcs[uq]?=some ju:=Tryz.func59
theorem Ia:ju.body=some (au ju):=by kernel_rfl
abbrev wi:Nat:=62
noncomputable abbrev kr:Func:=Tryz.f62
theorem BK:prog.funcs[wi]?=some kr:=Tryz.func62
theorem JY:kr.body=some (au kr):=by kernel_rfl
abbrev oz:Nat:=63
noncomputable abbrev eL:Func:=Tryz.f63
theorem sA:prog.funcs[oz]?=some eL:=Tryz.func63
theorem AO:eL.body=some (au eL):=by kernel_rfl
abbrev yB:Nat:=64
noncomputable abbrev Si:Func:=Tryz.f64
theorem Qv:prog.funcs[yB]?=some Si:=Tryz.func64
abbrev rC:Nat:=67
noncomputable abbrev gE:Func:=Tryz.f67
theorem wD:prog.funcs[rC]?=some gE:=Tryz.func67
theorem EZ:gE.body=some (au gE):=by kernel_rfl
abbrev yn:Nat:=69
noncomputable abbrev lH:Func:=Tryz.f69
theorem D0:prog.funcs[yn]?=some lH:=Tryz.func69
theorem LB:lH.body=some (au lH):=by kernel_rfl
abbrev ou:Nat:=70
noncomputable abbrev eJ:Func:=Tryz.f70
theorem sx:prog.funcs[ou]?=some eJ:=Tryz.func70
theorem AM:eJ.body=some (au eJ):=by kernel_rfl
abbrev tZ:Nat:=71
noncomputable abbrev jc:Func:=Tryz.f71
theorem zw:prog.funcs[tZ]?=some jc:=Tryz.func71
theorem HU:jc.body=some (au jc):=by kernel_rfl
abbrev v8:Nat:=83
noncomputable abbrev j9:Func:=Tryz.f83
theorem BE:prog.funcs[v8]?=some j9:=Tryz.func83
theorem JM:j9.body=some (au j9):=by kernel_rfl
abbrev yy:Nat:=84
noncomputable abbrev lU:Func:=Tryz.f84
theorem D8:prog.funcs[yy]?=some lU:=Tryz.func84
theorem LP:lU.body=some (au lU):=by kernel_rfl
abbrev um:Nat:=85
noncomputable abbrev jr:Func:=Tryz.f85
theorem zJ:prog.funcs[um]?=some jr:=Tryz.func85
theorem H8:jr.body=some (au jr):=by kernel_rfl
abbrev re:Nat:=86
noncomputable abbrev ki:Func:=Tryz.f86
theorem pB:prog.funcs[re]?=some ki:=Tryz.func86
theorem JT:ki.body=some (au ki):=by kernel_rfl
abbrev pS:Nat:=87
noncomputable abbrev jn:Func:=Tryz.f87
theorem oK:prog.funcs[pS]?=some jn:=Tryz.func87
theorem H5:jn.body=some (au jn):=by kernel_rfl
abbrev ri:Nat:=88
noncomputable abbrev kp:Func:=Tryz.f88
theorem pE:prog.funcs[ri]?=some kp:=Tryz.func88
theorem JW:kp.body=some (au kp):=by kernel_rfl
abbrev ov:Nat:=89
noncomputable abbrev eK:Func:=Tryz.f89
theorem sy:prog.funcs[ov]?=some eK:=Tryz.func89
theorem AN:eK.body=some (au eK):=by kernel_rfl
abbrev wo:Nat:=90
noncomputable abbrev kx:Func:=Tryz.f90
theorem BO:prog.funcs[wo]?=some kx:=Tryz.func90
theorem J2:kx.body=some (au kx):=by kernel_rfl
abbrev uM:Nat:=91
noncomputable abbrev Uh:Func:=Tryz.f91
theorem RT:prog.funcs[uM]?=some Uh:=Tryz.func91
abbrev rf:Nat:=92
noncomputable abbrev kj:Func:=Tryz.f92
theorem pC:prog.funcs[rf]?=some kj:=Tryz.func92
theorem JU:kj.body=some (au kj):=by kernel_rfl
abbrev nv:Nat:=93
noncomputable abbrev J9:Func:=Tryz.f93
theorem HP:prog.funcs[nv]?=some J9:=Tryz.func93
abbrev wb:Nat:=94
noncomputable abbrev ke:Func:=Tryz.f94
theorem BG:prog.funcs[wb]?=some ke:=Tryz.func94
theorem JP:ke.body=some (au ke):=by kernel_rfl
abbrev tX:Nat:=95
noncomputable abbrev iZ:Func:=Tryz.f95
theorem zr:prog.funcs[tX]?=some iZ:=Tryz.func95
theorem HR:iZ.body=some (au iZ):=by kernel_rfl
abbrev yo:Nat:=96
noncomputable abbrev lI:Func:=Tryz.f96
theorem D1:prog.funcs[yo]?=some lI:=Tryz.func96
theorem LC:lI.body=some (au lI):=by kernel_rfl
abbrev vW:Nat:=97
noncomputable abbrev jV:Func:=Tryz.f97
theorem Bz:prog.funcs[vW]?=some jV:=Tryz.func97
theorem JG:jV.body=some (au jV):=by kernel_rfl
abbrev yv:Nat:=98
noncomputable abbrev lN:Func:=Tryz.f98
theorem D5:prog.funcs[yv]?=some lN:=Tryz.func98
theorem LI:lN.body=some (au lN):=by kernel_rfl
abbrev yr:Nat:=99
noncomputable abbrev lL:Func:=Tryz.f99
theorem D4:prog.funcs[yr]?=some lL:=Tryz.func99
theorem LG:lL.body=some (au lL):=by kernel_rfl
abbrev mK:Nat:=100
noncomputable abbrev iY:Func:=Tryz.f100
theorem oH:prog.funcs[mK]?=some iY:=Tryz.func100
theorem HQ:iY.body=some (au iY):=by kernel_rfl
abbrev lr:Nat:=101
noncomputable abbrev fL:Func:=Tryz.f101
theorem kF:prog.funcs[lr]?=some fL:=Tryz.func101
theorem C3:fL.body=some (au fL):=by kernel_rfl
abbrev s9:Nat:=102
noncomputable abbrev ia:Func:=Tryz.f102
theorem xy:prog.funcs[s9]?=some ia:=Tryz.func102
theorem FK:ia.body=some (au ia):=by kernel_rfl
abbrev vZ:Nat:=103
noncomputable abbrev jY:Func:=Tryz.f103
theorem BC:prog.funcs[vZ]?=some jY:=Tryz.func103
theorem JJ:jY.body=some (au jY):=by kernel_rfl
abbrev uo:Nat:=105
noncomputable abbrev jt:Func:=Tryz.f105
theorem zK:prog.funcs[uo]?=some jt:=Tryz.func105
theorem H9:jt.body=some (au jt):=by kernel_rfl
abbrev vX:Nat:=106
noncomputable abbrev jW:Func:=Tryz.f106
theorem BA:prog.funcs[vX]?=some jW:=Tryz.func106
theorem JH:jW.body=some (au jW):=by kernel_rfl
abbrev ti:Nat:=107
noncomputable abbrev lY:Func:=Tryz.f107
theorem qP:prog.funcs[ti]?=some lY:=Tryz.func107
theorem LU:lY.body=some (au lY):=by kernel_rfl
abbrev gW:Nat:=108
noncomputable abbrev fi:Func:=Tryz.f108
theorem jM:prog.funcs[gW]?=some fi:=Tryz.func108
theorem BW:fi.body=some (au fi):=by kernel_rfl
abbrev pn:Nat:=109
noncomputable abbrev lX:Func:=Tryz.f109
theorem qO:prog.funcs[pn]?=some lX:=Tryz.func109
theorem LS:lX.body=some (au lX):=by kernel_rfl
abbrev pk:Nat:=110
noncomputable abbrev lT:Func:=Tryz.f110
theorem qN:prog.funcs[pk]?=some lT:=Tryz.func110
theorem LO:lT.body=some (au lT):=by kernel_rfl
abbrev xd:Nat:=112
noncomputable abbrev pI:Func:=Tryz.f112
theorem uF:prog.funcs[xd]?=some pI:=Tryz.func112
theorem Qy:pI.body=some (au pI):=by kernel_rfl
abbrev td:Nat:=113
noncomputable abbrev iJ:Func:=Tryz.f113
theorem uG:prog.funcs[td]?=some iJ:=Tryz.func113
theorem Eb:iJ.body=some (au iJ):=by kernel_rfl
abbrev s7:Nat:=114
noncomputable abbrev lG:Func:=Tryz.f114
theorem qI:prog.funcs[s7]?=some lG:=Tryz.func114
theorem LA:lG.body=some (au lG):=by kernel_rfl
abbrev pQ:Nat:=115
noncomputable abbrev ja:Func:=Tryz.f115
theorem oI:prog.funcs[pQ]?=some ja:=Tryz.func115
theorem HS:ja.body=some (au ja):=by kernel_rfl
abbrev ph:Nat:=118
noncomputable abbrev fg:Func:=Tryz.f118
theorem tz:prog.funcs[ph]?=some fg:=Tryz.func118
theorem BU:fg.body=some (au fg):=by kernel_rfl
abbrev yx:Nat:=119
noncomputable abbrev lS:Func:=Tryz.f119
theorem D7:prog.funcs[yx]?=some lS:=Tryz.func119
theorem LN:lS.body=some (au lS):=by kernel_rfl
abbrev wg:Nat:=120
noncomputable abbrev kh:Func:=Tryz.f120
theorem BI:prog.funcs[wg]?=some kh:=Tryz.func120
theorem JS:kh.body=some (au kh):=by kernel_rfl
abbrev wj:Nat:=121
noncomputable abbrev kt:Func:=Tryz.f121
theorem BL:prog.funcs[wj]?=some kt:=Tryz.func121
theorem JZ:kt.body=some (au kt):=by kernel_rfl
abbrev wq:Nat:=122
noncomputable abbrev ky:Func:=Tryz.f122
theorem BP:prog.funcs[wq]?=some ky:=Tryz.func122
theorem J3:ky.body=some (au ky):=by kernel_rfl
abbrev pj:Nat:=123
noncomputable abbrev fh:Func:=Tryz.f123
theorem tA:prog.funcs[pj]?=some fh:=Tryz.func123
theorem BV:fh.body=some (au fh):=by kernel_rfl
abbrev tc:Nat:=124
noncomputable abbrev lM:Func:=Tryz.f124
theorem qJ:prog.funcs[tc]?=some lM:=Tryz.func124
theorem LH:lM.body=some (au lM):=by kernel_rfl
abbrev ym:Nat:=125
noncomputable abbrev lF:Func:=Tryz.f125
theorem DZ:prog.funcs[ym]?=some lF:=Tryz.func125
theorem Lz:lF.body=some (au lF):=by kernel_rfl
abbrev lf:Nat:=126
noncomputable abbrev dK:Func:=Tryz.f126
theorem pY:prog.funcs[lf]?=some dK:=Tryz.func126
theorem wT:dK.body=some (au dK):=by kernel_rfl
abbrev pR:Nat:=127
noncomputable abbrev je:Func:=Tryz.f127
theorem oJ:prog.funcs[pR]?=some je:=Tryz.func127
theorem HW:je.body=some (au je):=by kernel_rfl
abbrev pg:Nat:=128
noncomputable abbrev ff:Func:=Tryz.f128
theorem tx:prog.funcs[pg]?=some ff:=Tryz.func128
theorem BT:ff.body=some (au ff):=by kernel_rfl
abbrev wk:Nat:=129
noncomputable abbrev ku:Func:=Tryz.f129
theorem BM:prog.funcs[wk]?=some ku:=Tryz.func129
theorem J0:ku.body=some (au ku):=by kernel_rfl
abbrev tY:Nat:=130
noncomputable abbrev jb:Func:=Tryz.f130
theorem zu:prog.funcs[tY]?=some jb:=Tryz.func130
theorem HT:jb.body=some (au jb):=by kernel_rfl
abbrev yz:Nat:=131
noncomputable abbrev lV:Func:=Tryz.f131
theorem D9:prog.funcs[yz]?=some lV:=Tryz.func131
theorem LQ:lV.body=some (au lV):=by kernel_rfl
abbrev rh:Nat:=132
noncomputable abbrev km:Func:=Tryz.f132
theorem pD:prog.funcs[rh]?=some km:=Tryz.func132
theorem JV:km.body=some (au km):=by kernel_rfl
abbrev yA:Nat:=136
noncomputable abbrev lW:Func:=Tryz.f136
theorem Ea:prog.funcs[yA]?=some lW:=Tryz.func136
theorem LR:lW.body=some (au lW):=by kernel_rfl
abbrev ui:Nat:=137
noncomputable abbrev jm:Func:=Tryz.f137
theorem zG:prog.funcs[ui]?=some jm:=Tryz.func137
theorem H4:jm.body=some (au jm):=by kernel_rfl
abbrev yq:Nat:=138
noncomputable abbrev lK:Func:=Tryz.f138
theorem D3:prog.funcs[yq]?=some lK:=Tryz.func138
theorem LF:lK.body=some (au lK):=by kernel_rfl
abbrev pe:Nat:=139
noncomputable abbrev fc:Func:=Tryz.f139
theorem tv:prog.funcs[pe]?=some fc:=Tryz.func139
theorem BR:fc.body=some (au fc):=by kernel_rfl
abbrev rB:Nat:=140
noncomputable abbrev gD:Func:=Tryz.f140
theorem wC:prog.funcs[rB]?=some gD:=Tryz.func140
theorem EY:gD.body=some (au gD):=by kernel_rfl
abbrev wh:Nat:=141
noncomputable abbrev kq:Func:=Tryz.f141
theorem BJ:prog.funcs[wh]?=some kq:=Tryz.func141
theorem JX:kq.body=some (au kq):=by kernel_rfl
abbrev vY:Nat:=142
noncomputable abbrev jX:Func:=Tryz.f142
theorem BB:prog.funcs[vY]?=some jX:=Tryz.func142
theorem JI:jX.body=some (au jX):=by kernel_rfl
abbrev iO:Nat:=143
noncomputable abbrev eo:Func:=Tryz.f143
theorem hH:prog.funcs[iO]?=some eo:=Tryz.func143
theorem yX:eo.body=some (au eo):=by kernel_rfl
abbrev GI:Nat:=144
noncomputable abbrev Sj:Func:=Tryz.f144
theorem Qw:prog.funcs[GI]?=some Sj:=Tryz.func144
abbrev ua:Nat:=145
noncomputable abbrev jd:Func:=Tryz.f145
theorem zx:prog.funcs[ua]?=some jd:=Tryz.func145
theorem HV:jd.body=some (au jd):=by kernel_rfl
abbrev mL:Nat:=146
noncomputable abbrev dU:Func:=Tryz.f146
theorem kX:prog.funcs[mL]?=some dU:=Tryz.func146
theorem xD:dU.body=some (au dU):=by kernel_rfl
abbrev nt:Nat:=147
noncomputable abbrev eu:Func:=Tryz.f147
theorem rP:prog.funcs[nt]?=some eu:=Tryz.func147
theorem y7:eu.body=some (au eu):=by kernel_rfl
abbrev lu:Nat:=149
noncomputable abbrev fN:Func:=Tryz.f149
theorem kG:prog.funcs[lu]?=some fN:=Tryz.func149
theorem C5:fN.body=some (au fN):=by kernel_rfl
abbrev GH:Nat:=150
noncomputable abbrev Sh:Func:=Tryz.f150
theorem Qu:prog.funcs[GH]?=some Sh:=Tryz.func150
abbrev nr:Nat:=151
noncomputable abbrev ep:Func:=Tryz.f151
theorem rO:prog.funcs[nr]?=some ep:=Tryz.func151
theorem yY:ep.body=some (au ep):=by kernel_rfl
abbrev ns:Nat:=152
noncomputable abbrev er:Func:=Tryz.f152
theorem lB:prog.funcs[ns]?=some er:=Tryz.func152
theorem yZ:er.body=some (au er):=by kernel_rfl
abbrev qi:Nat:=154
noncomputable abbrev fO:Func:=Tryz.f154
theorem uU:prog.funcs[qi]?=some fO:=Tryz.func154
theorem C6:fO.body=some (au fO):=by kernel_rfl
abbrev qh:Nat:=155
noncomputable abbrev fM:Func:=Tryz.f155
theorem oU:prog.funcs[qh]?=some fM:=Tryz.func155
theorem C4:fM.body=some (au fM):=by kernel_rfl
abbrev th:Nat:=158
noncomputable abbrev ib:Func:=Tryz.f158
theorem xA:prog.funcs[th]?=some ib:=Tryz.func158
theorem FL:ib.body=some (au ib):=by kernel_rfl
abbrev nu:Nat:=159
noncomputable abbrev ew:Func:=Tryz.f159
theorem rQ:prog.funcs[nu]?=some ew:=Tryz.func159
theorem y8:ew.body=some (au ew):=by kernel_rfl
abbrev po:Nat:=164
noncomputable abbrev fj:Func:=Tryz.f164
theorem tB:prog.funcs[po]?=some fj:=Tryz.func164
theorem BY:fj.body=some (au fj):=by kernel_rfl
abbrev DC:Nat:=165
noncomputable abbrev pJ:Func:=Tryz.f165
theorem IY:prog.funcs[DC]?=some pJ:=Tryz.func165
theorem Qz:pJ.body=some (au pJ):=by kernel_rfl
abbrev pf:Nat:=166
noncomputable abbrev fe:Func:=Tryz.f166
theorem tw:prog.funcs[pf]?=some fe:=Tryz.func166
theorem BS:fe.body=some (au fe):=by kernel_rfl
abbrev fC:Nat:=171
noncomputable abbrev cJ:Func:=Tryz.f171
theorem jy:prog.funcs[fC]?=some cJ:=Tryz.func171
theorem qa:cJ.body=some (au cJ):=by kernel_rfl
end Go.Proofs.YtmjfpcajohhbeaaGreatDoor

set_option maxRecDepth 4000
set_option maxHeartbeats 4000000
namespace Go.Proofs.YtmjfpcajohhbeaaGreatDoor
theorem Qp:∀ (xs:List Int) (k:Nat),k<xs.length->xs.take (k+1)=xs.take k++[xs.getD k 0]
 | [],k,h=>by simp at h
 | x::xs,0,h=>by simp
 | x::xs,k+1,h=>by
  have:=Qp xs k (by simpa using h)
  simp at this ⊢;exact this
def Oq(x:J)(k:Int):Bool:=decide (0<=k/\k<=(x.M.length:Int) - 1)
def XT(x:J):Bool:=decide (x.ak=5)
def eH:J->List Int->Bool
 | _,[]=>true
 | x,k::ks=>Oq x k&&eH (x.M.getD k.toNat zE) ks
def dd:J->List Int->J
 | x,[]=>x
 | x,k::ks=>dd (x.M.getD k.toNat zE) ks
def qm:J->List Int->Bool
 | _,[]=>false
 | x,k::ks=>XT x||qm (x.M.getD k.toNat zE) ks
theorem Te(k:Int):∀ (ks:List Int) (x:J),eH x (ks++[k])=(eH x ks&&Oq (dd x ks) k)/\dd x (ks++[k])=(dd x ks).M.getD k.toNat zE/\qm x (ks++[k])=(qm x ks||XT (dd x ks))
 | [],x=>⟨by simp[eH,dd],rfl,by simp[qm,dd]⟩
 | j::ks,x=>by
  obtain⟨h1,h2,h3⟩:=Te k ks (x.M.getD j.toNat zE)
  simp only[a9y,eH,dd,qm,h1,h2,h3,b0Y,Bool.or_assoc,and_self]
theorem yC(x:J)(ks:List Int)(k:Nat)(h:k<ks.length):eH x (ks.take (k+1))=(eH x (ks.take k)&&Oq (dd x (ks.take k)) (ks.getD k 0)) /\
  dd x (ks.take (k+1))=(dd x (ks.take k)).M.getD (ks.getD k 0).toNat zE/\qm x (ks.take (k+1))=(qm x (ks.take k)||XT (dd x (ks.take k))):=by
 rw[Qp ks k h]
 exact Te _ _ _
theorem a0l:∀ (ks js:List Int) (x:J),eH x (ks++js)=(eH x ks&&eH (dd x ks) js)
 | [],js,x=>by simp[eH,dd]
 | k::ks,js,x=>by simp only[a9y,eH,dd,a0l ks js,b0Y]
theorem a0m(x:J)(ks:List Int)(k:Nat)(h:eH x (ks.take k)=false):eH x ks=false:=by
 conv=>lhs;rw[<-a9K k ks]
 rw[a0l,h,a9L]
theorem WE(x:J)(ks:List Int)(k:Nat)(h:ks.length<=k):eH x (ks.take k)=eH x ks/\dd x (ks.take k)=dd x ks/\qm x (ks.take k)=qm x ks:=by
 rw[a9d h];exact⟨rfl,rfl,rfl⟩
def GJ:J->List Int->J
 | x,[]=>x
 | x,k::ks=>bif Oq x k then GJ (x.M.getD k.toNat zE) ks else x
def Us:J->List Int->Bool
 | _,[]=>false
 | x,k::ks=>bif Oq x k then XT x||Us (x.M.getD k.toNat zE) ks else false
theorem Tf:∀ (ks:List Int) (x:J) (k:Nat),k<=ks.length->eH x (ks.take k)=true->(k<ks.length->Oq (dd x (ks.take k)) (ks.getD k 0)=false)->dd x (ks.take k)=GJ x ks/\qm x (ks.take k)=Us x ks
 | [],x,k,h,_,_=>by rw[b1K];exact⟨rfl,rfl⟩
 | j::js,x,0,_,_,h=>by
  have h:=h (by simp)
  rw[a9D] at h ⊢
  have h:Oq x j=false:=h
  simp only[dd,qm,GJ,Us]
  rw[h];exact⟨rfl,rfl⟩
 | j::js,x,k+1,hl,ho,h=>by
  rw[b0A] at ho h ⊢
  simp only[eH,a8r] at ho
  simp only[dd,qm,GJ,Us]
  rw[ho.1]
  have:=Tf js _ k (by simpa using hl) ho.2 (λ q=>h (by simpa using q))
  rw[this.1,this.2];exact⟨rfl,rfl⟩
theorem Td:∀ (ks:List Int) (x:J),eH x ks=true->GJ x ks=dd x ks/\Us x ks=qm x ks
 | [],_,_=>⟨rfl,rfl⟩
 | j::js,x,h=>by
  simp only[eH,a8r] at h
  simp only[dd,qm,GJ,Us]
  rw[h.1]
  have:=Td js _ h.2
  rw[this.1,this.2];exact⟨rfl,rfl⟩
open Go.RowKit Go.Proofs
set_option maxRecDepth 100000 in
theorem a2J(n lo hi:Int)(w:World):Calls prog uK #[.int .i64 n, .int .i64 lo, .int .i64 hi] w λ e w'=>e = .returned (.bool (decide (lo<=n/\n<=hi)))/\w'=w:=by
 go_enter Tryz.func41,Tryz.ntmps41
 go_wp2
 .go_ret
  refine⟨?_,rfl⟩
  simp_all
 .go_ret
  refine⟨?_,rfl⟩
  simp
  omega
def a1B(w:World)(x:J)(ks:List Int)(R:Nat->Nat->Nat->Prop):Prop:=∀ k b o,R k b o->k<=ks.length->w.cell? ⟨b,o,none⟩=some (.int .i64 (dd x (ks.take k)).ak) /\
 ∃ a cap,w.cell? ⟨b,o+2,none⟩=some (.slice a (dd x (ks.take k)).M.length cap)/\(dd x (ks.take k)).M.length<=140737488355328/\∀ j:Nat,k<ks.length->ks.getD k 0=(j:Int)->j<(dd x (ks.take k)).M.length->∃ bk q,a=some ⟨bk,q,none⟩/\R (k+1) bk (q+j * 3)
def a5c(w0:World)(x:J)(ks:List Int)(R:Nat->Nat->Nat->Prop)(p bl i:Value)(w:World):Prop :=
 (∃ m,w=w0.drewN m)/\∃ (k b o:Nat),i = .int .i64 (k:Int)/\k<=ks.length/\p = .pointer (some ⟨b,o,none⟩)/\bl = .bool (qm x (ks.take k))/\eH x (ks.take k)=true/\R k b o
def a1P(n:Nat):Value->Nat
 | .int _ k=>n - k.toNat
 | _=>0
set_option maxRecDepth 100000 in
theorem Xa(w:World)(x:J)(ks:List Int)(R:Nat->Nat->Nat->Prop)(b0 o0:Nat)(h0:R 0 b0 o0)(hR:a1B w x ks R)(v:Value)(S:Nat->Prop)(hv:Rd w S (.slice 1 (ks.map (D.int .i64))) [v]) :
  Calls prog uM #[.pointer (some ⟨b0,o0,none⟩),v] w λ e w'=>(∃ m,w'=w.drewN m)/\∃ p bl,e = .returned (.tuple #[p, .bool bl, .bool (eH x ks)]) /\
   ∃ k b o,k<=ks.length/\p = .pointer (some ⟨b,o,none⟩)/\R k b o/\dd x (ks.take k)=GJ x ks/\bl=Us x ks/\(eH x ks=true->k=ks.length):=by
 obtain⟨a,cap,hv1,_,I9,hlen,fD⟩:=hv
 simp only[a8z,a8F] at hv1
 subst hv1
 simp only[a8R] at *
 go_enter Tryz.func91,Tryz.ntmps91
 go_wp2
 go_loopw [0,7,8] (λ p bl i w'=>a5c w x ks R p bl i w') (λ p bl i w'=>a1P ks.length i)
 .exact⟨⟨0,rfl⟩,0,b0,o0,rfl,a9J _,rfl,by rw[a9D];rfl,by rw[a9D];rfl,h0⟩
 obtain⟨⟨nd,hwn⟩,k,b,o,rfl,hk,rfl,rfl,Sz,hL⟩:=hrel
 have hw:wr.heap=w.heap:=by rw[hwn];rfl
 have hwd:∀ m,∃ m',wr.drewN m=w.drewN m':=λ m=>⟨nd+m,by rw[hwn,World.drewN_drewN]⟩
 have hw0:∃ m,wr=w.drewN m:=⟨nd,hwn⟩
 clear hwn
 obtain⟨u9,a5,a8i,hc5,hl5,SF⟩:=hR k b o hL hk
 have hcc:∀ a,wr.cell? a=w.cell? a:=λ a=>by simp only[World.cell?,hw]
 rw[<-hcc] at u9 hc5
 clear hcc
 by_cases Wl:k<ks.length
 .obtain fD|⟨q0,p0,rfl,Mt,fD⟩:=fD
  .rw[b1E] at fD
   subst fD
   simp at Wl
  obtain⟨c0,Oj,hc2,Wh⟩:=fD.at_ (n:=1) _ _ _ (λ d hd=>by obtain⟨y,_,rfl⟩:=a8A.1 hd;rfl) k (.int .i64 (ks.getD k 0)) (by simp[Wl])
  rw[hc2.1] at Wh
  have hck:wr.cell? ⟨q0,p0+k,none⟩=some (.int .i64 (ks.getD k 0)):=by
   have:=Wh 0 _ rfl
   rw[<-this]
   simp only[b2x,b0k,World.cell?,hw]
  have qe:=yC x ks k Wl
  have a4F:=a0m x ks (k+1)
  generalize hj:ks.getD k 0=j at *
  generalize hnn:(dd x (ks.take k)).M.length=nk at *
  generalize XI:(dd x (ks.take k)).ak=kk at *
  generalize Y6:qm x (ks.take k)=bl at *
  have a6W:XT (dd x (ks.take k))=decide (kk=5):=by unfold XT;rw[XI]
  have k9:¬ (0<=j/\j<=(nk:Int) - 1)->eH x ks=false/\dd x (ks.take k)=GJ x ks/\bl=Us x ks:=λ h=>by
   refine⟨a4F ?_,?_⟩
   .rw[qe.1]
    simp only[Oq,hnn]
    rw[a8D h,a9P]
   .have:=Tf ks x k hk Sz λ _=>by
     rw[hj]
     simp only[Oq,hnn]
     exact a8D h
    exact⟨this.1,Y6.symm.trans this.2⟩
  have a4R:∀ j':Nat,j=(j':Int)->j'<nk->eH x (ks.take (k+1))=true:=λ j' e h=>by
   rw[qe.1,Sz]
   simp only[Oq,hnn]
   rw[a8W (by omega)];rfl
  have hB:=qe.2.2
  rw[a6W] at hB
  clear qe a4F
  cases bl
  all_goals
   go_wp2
   go_quiet (first|(go_at_call 41;exact Calls.quiet_of_same (a2J _ _ _ _)))
   go_wp2
  .rename_i gG
   have hb:=k9 (by simp at gG;omega)
   go_ret3
   exact⟨hwd _,_,false,by rw[hb.1];rfl,k,b,o,hk,rfl,hL,hb.2.1,hb.2.2,λ e=>by rw[hb.1] at e;cases e⟩
  .rename_i gG
   have a2t:0<=j/\j<=(nk:Int) - 1:=by simp at gG;omega
   obtain⟨j,rfl⟩:=b1v a2t.1
   obtain⟨bk,q,rfl,Gb⟩:=SF j Wl rfl (by omega)
   have a2n:=a4R j rfl (by omega)
   go_quiet (skip)
   go_wp2
   refine⟨⟨hwd _,k+1,bk,q+j * 3,rfl,by omega,rfl,?_,a2n,Gb⟩,?_⟩
   .rw[hB];simp;by_cases h5:kk=5<;>simp[h5]
   .simp only[a1P]
    omega
  .rename_i gG
   have hb:=k9 (by simp at gG;omega)
   go_ret3
   exact⟨hwd _,_,true,by rw[hb.1];rfl,k,b,o,hk,rfl,hL,hb.2.1,hb.2.2,λ e=>by rw[hb.1] at e;cases e⟩
  .rename_i gG
   have a2t:0<=j/\j<=(nk:Int) - 1:=by simp at gG;omega
   obtain⟨j,rfl⟩:=b1v a2t.1
   obtain⟨bk,q,rfl,Gb⟩:=SF j Wl rfl (by omega)
   have a2n:=a4R j rfl (by omega)
   go_quiet (skip)
   go_wp2
   refine⟨⟨hwd _,k+1,bk,q+j * 3,rfl,by omega,rfl,?_,a2n,Gb⟩,?_⟩
   .rw[hB];rfl
   .simp only[a1P]
    omega
 .go_wp2
  have Ja:=WE x ks k (by omega)
  have XH:k=ks.length:=by omega
  subst XH
  go_ret3
  rw[Ja.1] at Sz
  have hs:=Tf ks x ks.length (a9i _) (by rw[Ja.1];exact Sz) λ h=>absurd h (b0K _)
  exact⟨hw0,_,qm x (ks.take ks.length),by rw[Sz];rfl,ks.length,b,o,a9i _,rfl,hL,hs.1,hs.2,λ _=>rfl⟩
theorem a1v(x:J):x.aR.size=3:=by cases x;rfl
theorem a5S{w:World}{S T:Nat->Prop}{x:J}{ks:List Int}(hS:∀ b,S b->b<w.heap.size):a1B w x ks λ k b o=>b<w.heap.size/\(S b\/T b)/\∃ cs,ct w b o cs/\Rd w S (dd x (ks.take k)).aR cs:=by
 rintro k b o ⟨hb,_,cs,hc,hr⟩ hk
 have KI:=hr
 generalize hz:dd x (ks.take k)=z at *
 cases z with
 | mk kd n M =>
  simp only[J.aR,J.vE] at hr
  obtain⟨v0,r0,rfl,a0,v1,r1,rfl,a1,v2,r2,rfl,a2,rfl⟩:=hr
  have e0:[v0]=[.int .i64 kd]:=a0.1
  obtain⟨a,cap,e2,_,_,hl,fD⟩:=a2
  simp only[a8z,a8F] at e0 e2
  subst e0 e2
  rw[a8R] at hl
  refine⟨hc 0 _ rfl,a,cap,by rw[hc 2 _ rfl,a8R],hl,λ j Wl hj Ul=>?_⟩
  obtain fD|⟨bk,q,rfl,cD,fD⟩:=fD
  .rw[b1E] at fD
   subst fD
   simp at Ul
  have Ul:j<M.length:=Ul
  obtain⟨c0,Oj,hc2,Wh⟩:=fD.at_ (n:=3) _ _ _ (λ d hd=>by obtain⟨y,_,rfl⟩:=a8A.1 hd;exact a1v y) j (M.getD j zE).aR (by simp[Ul])
  refine⟨bk,q,rfl,hS bk cD, .inl cD,c0,Wh,?_⟩
  have cw:=(yC x ks k Wl).2.1
  rw[cw,hz,hj]
  exact hc2
def Ax:Nat->List Arg->Option (Vc×W3):=λ f zs=>match Nat.beq f uM with
 | true=>match zs with
  | [.ref ⟨.st .expr,x⟩, .val ⟨.slice (.int .i64),ks⟩]=>some (.none, .res [(true,⟨.st .expr,GJ x ks⟩),(false,⟨.bool,Us x ks⟩),(false,⟨.bool,eH x ks⟩)])
  | _=>none
 | false=>none
theorem a3A(x:J)(ks:List Int):Yw prog uM [.ref ⟨.st .expr,x⟩, .val ⟨.slice (.int .i64),ks⟩] (.res [(true,⟨.st .expr,GJ x ks⟩),(false,⟨.bool,Us x ks⟩),(false,⟨.bool,eH x ks⟩)]):=by
 intro w S T cS hS hT ha
 match cS,ha with
 | [v1,v2],ha =>
  obtain⟨⟨b,o,cs,rfl,hb,hc,r⟩,r2,_⟩:=ha
  have r:Rd w S x.aR cs:=r
  have r2:Rd w S (.slice 1 (ks.map (D.int .i64))) [v2]:=r2
  have hTb:T b:=hT _ (b0Q ..) ⟨b,o,none⟩ rfl
  refine (Xa w x ks (λ k b o=>b<w.heap.size/\(S b\/T b)/\∃ cs,ct w b o cs/\Rd w S (dd x (ks.take k)).aR cs) b o (by exact⟨hb, .inr hTb,cs,hc,by rw[a9D];exact r⟩) (a5S hS.1) v2 S r2).mono ?_
  rintro e w' ⟨⟨m,rfl⟩,p,bl,rfl,k,b',o',hk,rfl,⟨cD,cw,dN,QE,KI⟩,hE,rfl,_⟩
  refine⟨_,S,rfl,⟨rfl,rfl,rfl,a9i _,λ _ _ _=>rfl⟩,λ _ _=>b0w,hS.1,λ b hb=>(by cases hb),[_,_,_],rfl,⟨b',o',dN,rfl,cw,QE,?_⟩,rfl,rfl,trivial⟩
  rw[hE] at KI
  exact Rd.aU (w:=w) (w':=w.drewN m) (λ _ h=>h) (λ _ _=>rfl) _ KI
theorem Tc:∀ f args pre cells,Ax f args=some (pre,cells)->pre.ok->pX prog f/\Yw prog f args cells:=by
 intro f args pre cells h _
 unfold Ax at h
 split at h
 .rename_i hf
  have hf:=a8s hf
  subst hf
  split at h
  .simp only[a8o,a8u] at h
   obtain⟨rfl,rfl⟩:=h
   exact⟨⟨_,RT,rfl,by decide⟩,a3A _ _⟩
  .cases h
 .cases h
end Go.Proofs.YtmjfpcajohhbeaaGreatDoor

namespace Go.Proofs.YtmjfpcajohhbeaaGreatDoor
abbrev cz{α:Type}[SizeOf α](x:α):Nat:=SizeOf.sizeOf x
theorem cq{α:Type}[SizeOf α](d:α):∀ (xs:List α) (i:Nat),i<xs.length->cz (xs.getD i d)<cz xs
 | [],i,h=>by simp at h
 | x::xs,0,h=>by simp[cz];omega
 | x::xs,i+1,h=>by
  have:=cq d xs i (by simpa using h)
  simp[cz] at this ⊢;omega
theorem dV(e:J):cz e.M<cz e:=by
 cases e;simp[cz];omega
inductive PK where
 | v (τ:Ty)
 | r (τ:Ty)
 | f
 | c (ps:List Ty) (r:Ty)
 | o (τ:Ty)
 | b (k:Nat)
@[reducible] def KT:List PK->Type 1
 | []=>ULift (Vc×List TV)
 | .v τ::l=>τ.den->KT l
 | .r τ::l=>τ.den->KT l
 | .f::l=>FuncId->KT l
 | .c ps r::l=>FN ps r->KT l
 | .o τ::l=>τ.den->KT l
 | .b _::l=>KT l
def dx:(l:List PK)->KT l->List Arg->Option (Vc×List TV)
 | [],x,[]=>some x.down
 | .v τ::l,g, .val a::zs=>match a.Z9 τ with
  | some x=>dx l (g x) zs
  | none=>none
 | .r τ::l,g, .ref a::zs=>match a.Z9 τ with
  | some x=>dx l (g x) zs
  | none=>none
 | .f::l,g, .fn a::zs=>dx l (g a) zs
 | .c ps r::l,g, .dq a::zs=>match a.Z9 ps r with
  | some x=>dx l (g x) zs
  | none=>none
 | .o τ::l,g, .own a::zs=>match a.Z9 τ with
  | some x=>dx l (g x) zs
  | none=>none
 | _,_,_=>none
def W2(P:Program)(f:FuncId):(l:List PK)->KT l->List Arg->Prop
 | [],x,acc=>x.down.1.ok->bh P f acc (·=x.down.2)
 | .v τ::l,g,acc=>∀ x,W2 P f l (g x) (acc++[.val ⟨τ,x⟩])
 | .r τ::l,g,acc=>∀ x,W2 P f l (g x) (acc++[.ref ⟨τ,x⟩])
 | .f::l,g,acc=>∀ x,W2 P f l (g x) (acc++[.fn x])
 | .c ps r::l,g,acc=>∀ x,W2 P f l (g x) (acc++[.dq ⟨ps,r,x⟩])
 | .o τ::l,g,acc=>∀ x,W2 P f l (g x) (acc++[.own ⟨τ,x⟩])
 | .b _::_,_,_=>True
theorem uv{P:Program}{f:FuncId}:∀ (l:List PK) (g:KT l) (acc zs:List Arg) (pre:Vc) (res:List TV),W2 P f l g acc->dx l g zs=some (pre,res)->pre.ok->bh P f (acc++zs) (·=res)
 | [],g,acc,zs,pre,res,h,e,hp=>by
  cases zs with
  | nil =>
   simp only[dx,a8o] at e
   have h':g.down.1.ok->bh P f acc (·=g.down.2):=h
   rw[e] at h'
   rw[a9N]
   exact h' hp
  | cons a zs=>simp[dx] at e
 | .v τ::l,g,acc,zs,pre,res,h,e,hp=>by
  cases zs with
  | nil=>simp[dx] at e
  | cons a zs =>
   cases a with
   | val a =>
    rw[dx] at e
    split at e
    .rename_i x hx
     have:=uv l (g x) (acc++[.val ⟨τ,x⟩]) zs pre res (h x) e hp
     rw[TV.aY hx]
     simpa using this
    .cases e
   | ref a=>simp[dx] at e
   | dq a=>simp[dx] at e
   | own a=>simp[dx] at e
   | fn a=>simp[dx] at e
   | box a=>simp[dx] at e
 | .r τ::l,g,acc,zs,pre,res,h,e,hp=>by
  cases zs with
  | nil=>simp[dx] at e
  | cons a zs =>
   cases a with
   | ref a =>
    rw[dx] at e
    split at e
    .rename_i x hx
     have:=uv l (g x) (acc++[.ref ⟨τ,x⟩]) zs pre res (h x) e hp
     rw[TV.aY hx]
     simpa using this
    .cases e
   | val a=>simp[dx] at e
   | dq a=>simp[dx] at e
   | own a=>simp[dx] at e
   | fn a=>simp[dx] at e
   | box a=>simp[dx] at e
 | .f::l,g,acc,zs,pre,res,h,e,hp=>by
  cases zs with
  | nil=>simp[dx] at e
  | cons a zs =>
   cases a with
   | fn a =>
    rw[dx] at e
    have:=uv l (g a) (acc++[.fn a]) zs pre res (h a) e hp
    simpa using this
   | val a=>simp[dx] at e
   | dq a=>simp[dx] at e
   | own a=>simp[dx] at e
   | ref a=>simp[dx] at e
   | box a=>simp[dx] at e
 | .c ps r::l,g,acc,zs,pre,res,h,e,hp=>by
  cases zs with
  | nil=>simp[dx] at e
  | cons a zs =>
   cases a with
   | dq a =>
    rw[dx] at e
    split at e
    .rename_i x hx
     have:=uv l (g x) (acc++[.dq ⟨ps,r,x⟩]) zs pre res (h x) e hp
     rw[FV.aY hx]
     simpa using this
    .cases e
   | val a=>simp[dx] at e
   | ref a=>simp[dx] at e
   | fn a=>simp[dx] at e
   | own a=>simp[dx] at e
   | box a=>simp[dx] at e
 | .o τ::l,g,acc,zs,pre,res,h,e,hp=>by
  cases zs with
  | nil=>simp[dx] at e
  | cons a zs =>
   cases a with
   | own a =>
    rw[dx] at e
    split at e
    .rename_i x hx
     have:=uv l (g x) (acc++[.own ⟨τ,x⟩]) zs pre res (h x) e hp
     rw[TV.aY hx]
     simpa using this
    .cases e
   | val a=>simp[dx] at e
   | ref a=>simp[dx] at e
   | fn a=>simp[dx] at e
   | dq a=>simp[dx] at e
   | box a=>simp[dx] at e
 | .b k::l,g,acc,zs,pre,res,h,e,hp=>by
  cases zs<;>simp[dx] at e
structure aJ where
 n:Nat
 l:List PK
 g:KT l
def aJ.Good(c:aJ):Prop:=pX prog c.n/\W2 prog c.n c.l c.g []
def sC:List aJ->Nat->List Arg->Option (Vc×List TV)
 | [],_,_=>none
 | c::r,f,zs=>match Nat.beq c.n f with
  | true=>dx c.l c.g zs
  | false=>sC r f zs
def PK.own:PK->Bool
 | .o _=>true
 | _=>false
def a0C:List aJ->Nat->List Bool
 | [],_=>[]
 | c::r,f=>match Nat.beq c.n f with
  | true=>match c.l.any PK.own with
   | true=>c.l.map PK.own
   | false=>[]
  | false=>a0C r f
def aL(l:List aJ)(wr:List Nat:=[])(cl:List (Nat×FA):=[])(ro:List Nat:=[]):Env:=Env.mk DR Rv (sC l) wr [] (λ _ _=>none) (λ _=>none) (af cl) ro (λ _=>[]) (λ _=>none) (λ _ _ _=>none) MJ Ax
def aG:List aJ->Prop
 | []=>True
 | c::r=>c.Good/\aG r
theorem N9:∀ (l:List aJ),aG l->∀ f args pre res,sC l f args=some (pre,res)->pre.ok->pX prog f/\bh prog f args (·=res)
 | [],_,f,args,pre,res,e,_=>by cases e
 | c::r,h,f,args,pre,res,e,hp=>by
  rw[sC] at e
  split at e
  .rename_i hb
   have hb:=a8s hb
   subst hb
   exact⟨h.1.1,uv c.l c.g [] args pre res h.1.2 e hp⟩
  .exact N9 r h.2 f args pre res e hp
theorem GF{α:Type}:∀ (l:List (Nat×α)) (n:Nat) (v:α),af l n=some v->(n,v)∈l
 | [],n,v,h=>by cases h
 | (k,u)::r,n,v,h=>by
  rw[af] at h
  split at h
  .rename_i hb
   cases h
   rw[a8s hb]
   exact b0Q ..
  .exact b0d _ (GF r n v h)
theorem Oa{l:List aJ}{wr:List Nat}{cl:List (Nat×FA)}{ro:List Nat}(h:aG l):bP prog (aL l wr cl ro) where
 ty T τ b e ht:=by
  have h1:=a9a.mp (b1h.1 (HN (sC l) wr [] (λ _ _=>none) (λ _=>none) (af cl) ro (λ _=>[]) (λ _=>none) (λ _ _ _=>none) Ax)).1 _ (GF _ _ _ ht)
  exact h1
 XZ T κ ε ht:=by
  have h1:=a9a.mp (b1h.1 (HN (sC l) wr [] (λ _ _=>none) (λ _=>none) (af cl) ro (λ _=>[]) (λ _=>none) (λ _ _ _=>none) Ax)).2 _ (GF _ _ _ ht)
  exact h1
 ZF _ _ _:=trivial
 N8:=N9 l h
 MN _ _ _ _ h:=by cases h
 mark _ _ h:=by cases h
 Tb:=Tc
 Vz _ _ _ _ _ _ _ h:=by cases h
theorem aA {f:FuncId} {fn:Func} (h:prog.funcs[f]?=some fn) (hb:fn.body.isNone=false) (hn:(fn.name == "runtime.NumGoroutine")=false):pX prog f:=⟨fn,h,hb,hn⟩
theorem rN:∀ {l m:List TV},bp l m->l=m
 | [],[],_=>rfl
 | [v],[u],h=>by rw[nz h]
 | v::v'::vs,[u],h=>by
  have:=rN (l:=v'::vs) (m:=[]) h.2
  cases this
 | [v],u::u'::us,h=>by
  have:=rN (l:=[]) (m:=u'::us) h.2
  cases this
 | v::v'::vs,u::u'::us,h=>by rw[nz h.1,rN (l:=v'::vs) (m:=u'::us) h.2]
 | [],u::us,h=>by cases h
 | v::vs,[],h=>by
  cases vs<;>cases h
theorem bh.mono{P:Program}{f:FuncId}{args:List Arg}{p q:List TV->Prop}(h:bh P f args p)(hpq:∀ r,p r->q r):bh P f args q:=by
 intro w S cS hS ha
 refine (h w S cS hS ha).mono λ e w'=>?_
 rintro⟨x,S',res,h1,h2,h3⟩
 exact⟨x,S',res,h1,hpq _ h2,h3⟩
theorem aM{f:FuncId}{fn:Func}{mT:Code}{l:List aJ}{wr:List Nat}{cl:List (Nat×FA)}{ro:List Nat}(hl:aG l)(hf:prog.funcs[f]?=some fn)(hb:fn.body=some mT)(Λ:Nat->aH){args:List Arg}{res:List TV}
  (h:ck (aL l wr cl ro) mT Λ 0 (bg (aL l wr cl ro) fn λ r=>bp r res) (aD fn args)):bh prog f args (·=res) :=
 (U7 (Oa hl) AB hf hb Λ h).mono λ _=>rN
def xw(P:Program)(f:FuncId):(l:List PK)->KT l->List Arg->Prop
 | [],x,acc=>x.down.1.ok->iI P f acc x.down.2
 | .v τ::l,g,acc=>∀ x,xw P f l (g x) (acc++[.val ⟨τ,x⟩])
 | .r τ::l,g,acc=>∀ x,xw P f l (g x) (acc++[.ref ⟨τ,x⟩])
 | .f::l,g,acc=>∀ x,xw P f l (g x) (acc++[.fn x])
 | .c ps r::l,g,acc=>∀ x,xw P f l (g x) (acc++[.dq ⟨ps,r,x⟩])
 | .o τ::l,g,acc=>∀ x,xw P f l (g x) (acc++[.own ⟨τ,x⟩])
 | .b _::_,_,_=>True
theorem sf{P:Program}{f:FuncId}:∀ (l:List PK) (g:KT l) (acc zs:List Arg) (pre:Vc) (res:List TV),xw P f l g acc->dx l g zs=some (pre,res)->pre.ok->iI P f (acc++zs) res
 | [],g,acc,zs,pre,res,h,e,hp=>by
  cases zs with
  | nil =>
   simp only[dx,a8o] at e
   have h':g.down.1.ok->iI P f acc g.down.2:=h
   rw[e] at h'
   rw[a9N]
   exact h' hp
  | cons a zs=>simp[dx] at e
 | .v τ::l,g,acc,zs,pre,res,h,e,hp=>by
  cases zs with
  | nil=>simp[dx] at e
  | cons a zs =>
   cases a with
   | val a =>
    rw[dx] at e
    split at e
    .rename_i x hx
     have:=sf l (g x) (acc++[.val ⟨τ,x⟩]) zs pre res (h x) e hp
     rw[TV.aY hx]
     simpa using this
    .cases e
   | ref a=>simp[dx] at e
   | dq a=>simp[dx] at e
   | own a=>simp[dx] at e
   | fn a=>simp[dx] at e
   | box a=>simp[dx] at e
 | .r τ::l,g,acc,zs,pre,res,h,e,hp=>by
  cases zs with
  | nil=>simp[dx] at e
  | cons a zs =>
   cases a with
   | ref a =>
    rw[dx] at e
    split at e
    .rename_i x hx
     have:=sf l (g x) (acc++[.ref ⟨τ,x⟩]) zs pre res (h x) e hp
     rw[TV.aY hx]
     simpa using this
    .cases e
   | val a=>simp[dx] at e
   | dq a=>simp[dx] at e
   | own a=>simp[dx] at e
   | fn a=>simp[dx] at e
   | box a=>simp[dx] at e
 | .f::l,g,acc,zs,pre,res,h,e,hp=>by
  cases zs with
  | nil=>simp[dx] at e
  | cons a zs =>
   cases a with
   | fn a =>
    rw[dx] at e
    have:=sf l (g a) (acc++[.fn a]) zs pre res (h a) e hp
    simpa using this
   | val a=>simp[dx] at e
   | dq a=>simp[dx] at e
   | own a=>simp[dx] at e
   | ref a=>simp[dx] at e
   | box a=>simp[dx] at e
 | .c ps r::l,g,acc,zs,pre,res,h,e,hp=>by
  cases zs with
  | nil=>simp[dx] at e
  | cons a zs =>
   cases a with
   | dq a =>
    rw[dx] at e
    split at e
    .rename_i x hx
     have:=sf l (g x) (acc++[.dq ⟨ps,r,x⟩]) zs pre res (h x) e hp
     rw[FV.aY hx]
     simpa using this
    .cases e
   | val a=>simp[dx] at e
   | ref a=>simp[dx] at e
   | fn a=>simp[dx] at e
   | own a=>simp[dx] at e
   | box a=>simp[dx] at e
 | .o τ::l,g,acc,zs,pre,res,h,e,hp=>by
  cases zs with
  | nil=>simp[dx] at e
  | cons a zs =>
   cases a with
   | own a =>
    rw[dx] at e
    split at e
    .rename_i x hx
     have:=sf l (g x) (acc++[.own ⟨τ,x⟩]) zs pre res (h x) e hp
     rw[TV.aY hx]
     simpa using this
    .cases e
   | val a=>simp[dx] at e
   | ref a=>simp[dx] at e
   | fn a=>simp[dx] at e
   | dq a=>simp[dx] at e
   | box a=>simp[dx] at e
 | .b k::l,g,acc,zs,pre,res,h,e,hp=>by
  cases zs<;>simp[dx] at e
def aJ.eA(c:aJ):Prop:=pX prog c.n/\xw prog c.n c.l c.g []
theorem ET.jK{w:World}{S:Nat->Prop}{v:TV}{x:Value}{fp:List Nat}(h:ET w v x fp)(hb:∀ b∈fp,S b):fA w S v x:=by
 obtain⟨τ,y⟩:=v
 cases τ with
 | st s =>
  obtain⟨cs,h1,h2⟩:=h
  exact⟨cs,h1,h2.rd _ hb⟩
 | _=>exact Ow.rd _ h hb
theorem Ln.jK{w:World}{S:Nat->Prop}:∀ {vs:List TV} {xs:List Value} {fp:List Nat},Ln w vs xs fp->(∀ b∈fp,S b)->aT (fA w S) vs xs
 | [],[],_,_,_=>trivial
 | v::vs,x::xs,fp,h,hb=>by
  obtain⟨f1,f2,rfl,h1,h2⟩:=h
  exact⟨h1.jK λ b cD=>hb b (b0v _ cD),Ln.jK h2 λ b cD=>hb b (List.mem_append_right _ cD)⟩
 | [],_::_,_,h,_=>h.elim
 | _::_,[],_,h,_=>h.elim
theorem iI.plain{P:Program}{f:FuncId}{args:List Arg}{res:List TV}(h:iI P f args res):bh P f args (·=res):=by
 intro w S cS hS ha
 refine (h w S cS [] hS (vG.Tm ha) (.inl rfl) a9F (λ b hb=>by cases hb)).mono ?_
 rintro e w' ⟨x,fp,rfl,hk,hr,_,u6⟩
 have hn:∀ b∈fp,w.heap.size<=b/\b<w'.heap.size:=λ b hb=>(u6 b hb).elim (λ q=>by cases q) id
 refine⟨x,λ b=>S b\/b∈fp,res,rfl,rfl,⟨hk.os,hk.tape,hk.output,hk.size,λ b hb _=>hk.block b hb λ q=>by cases q⟩,λ b hb=>⟨λ q=>q.elim id λ q=>absurd (hn b q).1 (by omega), .inl⟩,λ b q=>q.elim (λ q=>a8G (hS.1 b q) hk.size) λ q=>(hn b q).2,?_⟩
 match res,hr with
 | [v],hr=>exact ET.jK (v:=v) hr λ b hb => .inr hb
 | [],hr =>
  obtain⟨l,h1,h2⟩:=hr
  exact⟨l,h1,h2.jK λ b hb => .inr hb⟩
 | v::u::vs,hr =>
  obtain⟨l,h1,h2⟩:=hr
  exact⟨l,h1,h2.jK λ b hb => .inr hb⟩
theorem xw.plain{P:Program}{f:FuncId}:∀ (l:List PK) (g:KT l) (acc:List Arg),xw P f l g acc->W2 P f l g acc
 | [],_,_,h=>λ hp=>(h hp).plain
 | .v _::l,g,_,h=>λ x=>xw.plain l (g x) _ (h x)
 | .r _::l,g,_,h=>λ x=>xw.plain l (g x) _ (h x)
 | .f::l,g,_,h=>λ x=>xw.plain l (g x) _ (h x)
 | .c _ _::l,g,_,h=>λ x=>xw.plain l (g x) _ (h x)
 | .o _::l,g,_,h=>λ x=>xw.plain l (g x) _ (h x)
 | .b _::_,_,_,_=>trivial
theorem aJ.eA.plain{k:aJ}(h:k.eA):k.Good:=⟨h.1,xw.plain k.l k.g [] h.2⟩
def fW:List aJ->Prop
 | []=>True
 | c::r=>c.eA/\fW r
theorem Tl:∀ (l:List aJ),fW l->∀ f args pre res,sC l f args=some (pre,res)->pre.ok->pX prog f/\iI prog f args res
 | [],_,f,args,pre,res,e,_=>by cases e
 | c::r,h,f,args,pre,res,e,hp=>by
  rw[sC] at e
  split at e
  .rename_i hb
   have hb:=a8s hb
   subst hb
   exact⟨h.1.1,sf c.l c.g [] args pre res h.1.2 e hp⟩
  .exact Tl r h.2 f args pre res e hp
structure MK where
 n:Nat
 m:UF
def MK.Good(c:MK):Prop:=pX prog c.n/\VI prog c.n c.m
def gZ:List MK->Prop
 | []=>True
 | c::r=>c.Good/\gZ r
def HD:List MK->Nat->Option UF
 | [],_=>none
 | c::r,f=>match Nat.beq c.n f with
  | true=>some c.m
  | false=>HD r f
theorem S6:∀ (l:List MK),gZ l->∀ f m,HD l f=some m->pX prog f/\VI prog f m
 | [],_,f,m,e=>by cases e
 | c::r,h,f,m,e=>by
  rw[HD] at e
  split at e
  .rename_i hb
   have hb:=a8s hb
   subst hb
   cases e
   exact h.1
  .exact S6 r h.2 f m e
@[reducible] def KTC:List Ty->Type 1->Type 1
 | [],R=>R
 | t::ts,R=>t.den->KTC ts R
@[reducible] def Yv:List (List Ty)->Type 1
 | []=>ULift (Vc×List TV×List (List TV))
 | ts::D=>KTC ts (Yv D)
@[reducible] def Ud:List PK->List (List Ty)->Type 1
 | [],D=>Yv D
 | .v τ::l,D=>τ.den->Ud l D
 | .r τ::l,D=>τ.den->Ud l D
 | .f::l,D=>FuncId->Ud l D
 | .b _::l,D=>Ud l D
 | .c _ _::l,D=>Ud l D
 | .o _::l,D=>Ud l D
def kC:(ts:List Ty)->(R:Type 1)->KTC ts R->List TV->Option R
 | [],_,r,[]=>some r
 | t::ts,R,g,v::vs=>match v.Z9 t with
  | some x=>kC ts R (g x) vs
  | none=>none
 | _,_,_,_=>none
def kD:(D:List (List Ty))->Yv D->List (List TV)->Option (Vc×List TV×List (List TV))
 | [],r,[]=>some r.down
 | ts::D,g,vs::ca=>match kC ts (Yv D) g vs with
  | some h=>kD D h ca
  | none=>none
 | _,_,_=>none
def kS:(l:List PK)->(D:List (List Ty))->Ud l D->List Arg->List (List TV)->Option (Vc×List TV×List (List TV))
 | [],D,g,[],ca=>kD D g ca
 | .v τ::l,D,g, .val a::zs,ca=>match a.Z9 τ with
  | some x=>kS l D (g x) zs ca
  | none=>none
 | .r τ::l,D,g, .ref a::zs,ca=>match a.Z9 τ with
  | some x=>kS l D (g x) zs ca
  | none=>none
 | .f::l,D,g, .fn a::zs,ca=>kS l D (g a) zs ca
 | .b k::l,D,g, .box j::zs,ca=>match Nat.beq k j with
  | true=>kS l D g zs ca
  | false=>none
 | _,_,_,_,_=>none
def a1C:(ts:List Ty)->(R:Type 1)->(R->List TV->Prop)->KTC ts R->List TV->Prop
 | [],_,p,r,acc=>p r acc
 | t::ts,R,p,g,acc=>∀ x,a1C ts R p (g x) (acc++[⟨t,x⟩])
def a1D(q:List (List TV)->Vc×List TV×List (List TV)->Prop):(D:List (List Ty))->Yv D->List (List TV)->Prop
 | [],r,acc=>q acc r.down
 | ts::D,g,acc=>a1C ts (Yv D) (λ h vs=>a1D q D h (acc++[vs])) g []
def UE(P:Program)(f:FuncId)(sh:List (List CK)):(l:List PK)->(D:List (List Ty))->Ud l D->List Arg->Prop
 | [],D,g,acc=>a1D (λ ca r=>r.1.ok->tu P f sh acc ca r.2.1 r.2.2) D g []
 | .v τ::l,D,g,acc=>∀ x,UE P f sh l D (g x) (acc++[.val ⟨τ,x⟩])
 | .r τ::l,D,g,acc=>∀ x,UE P f sh l D (g x) (acc++[.ref ⟨τ,x⟩])
 | .f::l,D,g,acc=>∀ x,UE P f sh l D (g x) (acc++[.fn x])
 | .b k::l,D,g,acc=>UE P f sh l D g (acc++[.box k])
 | .c _ _::_,_,_,_=>True
 | .o _::_,_,_,_=>True
theorem a2L:∀ (ts:List Ty) (R:Type 1) (p:R->List TV->Prop) (g:KTC ts R) (acc vs:List TV) (r:R),a1C ts R p g acc->kC ts R g vs=some r->p r (acc++vs)
 | [],R,p,g,acc,vs,r,h,e=>by
  cases vs with
  | nil =>
   simp only[kC,a8o] at e
   subst e
   rw[a9N]
   exact h
  | cons v vs=>simp[kC] at e
 | t::ts,R,p,g,acc,vs,r,h,e=>by
  cases vs with
  | nil=>simp[kC] at e
  | cons v vs =>
   rw[kC] at e
   split at e
   .rename_i x hx
    have:=a2L ts R p (g x) (acc++[⟨t,x⟩]) vs r (h x) e
    rw[TV.aY hx]
    simpa using this
   .cases e
theorem a2M(q:List (List TV)->Vc×List TV×List (List TV)->Prop):∀ (D:List (List Ty)) (g:Yv D) (acc ca:List (List TV)) (r:Vc×List TV×List (List TV)),a1D q D g acc->kD D g ca=some r->q (acc++ca) r
 | [],g,acc,ca,r,h,e=>by
  cases ca with
  | nil =>
   simp only[kD,a8o] at e
   subst e
   rw[a9N]
   exact h
  | cons v vs=>simp[kD] at e
 | ts::D,g,acc,ca,r,h,e=>by
  cases ca with
  | nil=>simp[kD] at e
  | cons vs ca =>
   rw[kD] at e
   split at e
   .rename_i k hk
    have h1:=a2L ts _ _ g [] vs k h hk
    have:=a2M q D k (acc++[vs]) ca r (by simpa using h1) e
    simpa using this
   .cases e
theorem SW{P:Program}{f:FuncId}{sh:List (List CK)}:∀ (l:List PK) (D:List (List Ty)) (g:Ud l D) (acc zs:List Arg) (ca:List (List TV)) (pre:Vc) (res:List TV) (gf:List (List TV)),UE P f sh l D g acc->kS l D g zs ca=some (pre,res,gf)->pre.ok->tu P f sh (acc++zs) ca res gf
 | [],D,g,acc,zs,ca,pre,res,gf,h,e,hp=>by
  cases zs with
  | nil =>
   have:=a2M _ D g [] ca _ h e
   simpa using this hp
  | cons z zs=>simp[kS] at e
 | .v τ::l,D,g,acc,zs,ca,pre,res,gf,h,e,hp=>by
  cases zs with
  | nil=>simp[kS] at e
  | cons a zs =>
   cases a with
   | val a =>
    rw[kS] at e
    split at e
    .rename_i x hx
     have:=SW l D (g x) (acc++[.val ⟨τ,x⟩]) zs ca pre res gf (h x) e hp
     rw[TV.aY hx]
     simpa using this
    .cases e
   | _=>simp[kS] at e
 | .r τ::l,D,g,acc,zs,ca,pre,res,gf,h,e,hp=>by
  cases zs with
  | nil=>simp[kS] at e
  | cons a zs =>
   cases a with
   | ref a =>
    rw[kS] at e
    split at e
    .rename_i x hx
     have:=SW l D (g x) (acc++[.ref ⟨τ,x⟩]) zs ca pre res gf (h x) e hp
     rw[TV.aY hx]
     simpa using this
    .cases e
   | _=>simp[kS] at e
 | .f::l,D,g,acc,zs,ca,pre,res,gf,h,e,hp=>by
  cases zs with
  | nil=>simp[kS] at e
  | cons a zs =>
   cases a with
   | fn a =>
    rw[kS] at e
    have:=SW l D (g a) (acc++[.fn a]) zs ca pre res gf (h a) e hp
    simpa using this
   | _=>simp[kS] at e
 | .b k::l,D,g,acc,zs,ca,pre,res,gf,h,e,hp=>by
  cases zs with
  | nil=>simp[kS] at e
  | cons a zs =>
   cases a with
   | box j =>
    rw[kS] at e
    split at e
    .rename_i hb
     have hb:=a8s hb
     subst hb
     have:=SW l D g (acc++[.box k]) zs ca pre res gf h e hp
     simpa using this
    .cases e
   | _=>simp[kS] at e
 | .c _ _::l,D,g,acc,zs,ca,pre,res,gf,h,e,hp=>by cases zs<;>simp[kS] at e
 | .o _::l,D,g,acc,zs,ca,pre,res,gf,h,e,hp=>by cases zs<;>simp[kS] at e
structure iV where
 n:Nat
 sh:List (List CK)
 l:List PK
 D:List (List Ty)
 g:Ud l D
def iV.Good(c:iV):Prop:=pX prog c.n/\UE prog c.n c.sh c.l c.D c.g []
def fX:List iV->Prop
 | []=>True
 | c::r=>c.Good/\fX r
def a3a:List PK->List (Option Nat)
 | []=>[]
 | .b k::l=>some k::a3a l
 | _::l=>none::a3a l
def VC:List iV->Nat->Option SK
 | [],_=>none
 | c::r,f=>match Nat.beq c.n f with
  | true=>some ⟨a3a c.l,c.sh⟩
  | false=>VC r f
def HI:List iV->Nat->List Arg->List (List TV)->Option (Vc×List TV×List (List TV))
 | [],_,_,_=>none
 | c::r,f,zs,ca=>match Nat.beq c.n f with
  | true=>kS c.l c.D c.g zs ca
  | false=>HI r f zs ca
theorem TJ:∀ (l:List iV),fX l->∀ f sk args ca pre res gf,VC l f=some sk->HI l f args ca=some (pre,res,gf)->pre.ok->pX prog f/\tu prog f sk.sh args ca res gf
 | [],_,f,sk,args,ca,pre,res,gf,h,_,_=>by cases h
 | c::r,h,f,sk,args,ca,pre,res,gf,hs,e,hp=>by
  rw[VC] at hs
  rw[HI] at e
  split at e
  .rename_i hb
   rw[hb] at hs
   have hb:=a8s hb
   subst hb
   simp only[a8o] at hs
   subst hs
   exact⟨h.1.1,by simpa using SW c.l c.D c.g [] args ca pre res gf h.1.2 e hp⟩
  .rename_i hb
   rw[hb] at hs
   exact TJ r h.2 f sk args ca pre res gf hs e hp
def cY(l:List aJ)(ol:List aJ)(ml:List MK)(own wr:List Nat)(cl:List (Nat×FA):=[])(ro:List Nat:=[])(sl:List iV:=[]):Env:=Env.mk DR Rv (sC l) wr own (sC ol) (HD ml) (af cl) ro (a0C ol) (VC sl) (HI sl) MJ Ax
theorem Sf{l ol:List aJ}{ml:List MK}{own wr:List Nat}{cl:List (Nat×FA)}{ro:List Nat}{sl:List iV}(h:aG l)(ho:fW ol)(hm:gZ ml)(hs:fX sl):bP prog (cY l ol ml own wr cl ro sl) where
 ty T τ b e ht:=by
  have h1:=a9a.mp (b1h.1 (HN (sC l) wr own (sC ol) (HD ml) (af cl) ro (a0C ol) (VC sl) (HI sl) Ax)).1 _ (GF _ _ _ ht)
  exact h1
 XZ T κ ε ht:=by
  have h1:=a9a.mp (b1h.1 (HN (sC l) wr own (sC ol) (HD ml) (af cl) ro (a0C ol) (VC sl) (HI sl) Ax)).2 _ (GF _ _ _ ht)
  exact h1
 ZF _ _ _:=trivial
 N8:=N9 l h
 MN:=Tl ol ho
 mark:=S6 ml hm
 Tb:=Tc
 Vz:=TJ sl hs
theorem X6{f:FuncId}{fn:Func}{mT:Code}{l ol:List aJ}{ml:List MK}{own wr:List Nat}{cl:List (Nat×FA)}{ro:List Nat}{sl:List iV}(hl:aG l)(ho:fW ol)(hm:gZ ml)(hs:fX sl)(hf:prog.funcs[f]?=some fn)(hb:fn.body=some mT)(Λ:Nat->aH){args:List Arg}{res:List TV}
  (h:ck (cY l ol ml own wr cl ro sl) mT Λ 0 (bg (cY l ol ml own wr cl ro sl) fn λ r=>bp r res) (aD fn args)):bh prog f args (·=res) :=
 (U7 (Sf hl ho hm hs) AB hf hb Λ h).mono λ _=>rN
theorem ec{f:FuncId}{fn:Func}{mT:Code}{l ol:List aJ}{ml:List MK}{own wr:List Nat}{cl:List (Nat×FA)}{ro:List Nat}{sl:List iV}(hl:aG l)(ho:fW ol)(hm:gZ ml)(hs:fX sl)(hf:prog.funcs[f]?=some fn)(hb:fn.body=some mT)(Λ:Nat->aH){args:List Arg}{res:List TV}
  (h:ck (cY l ol ml own wr cl ro sl) mT Λ 0 (fI (cY l ol ml own wr cl ro sl) fn λ r=>bp r res) (jN fn args)):iI prog f args res :=
 Ui (Sf hl ho hm hs) AB hf hb Λ (λ _=>rN) h
def ng:List (List TV)->List (List TV)->Prop
 | [],[]=>True
 | a::r,b::q=>bp a b/\ng r q
 | _,_=>False
theorem RN:∀ {a b:List (List TV)},ng a b->a=b
 | [],[],_=>rfl
 | _::_,_::_,h=>by rw[rN h.1,RN h.2]
 | [],_::_,h=>h.elim
 | _::_,[],h=>h.elim
def R4(args:List Arg)(n:Nat):Bool:=args.all λ a=>match a with
 | .box k=>Nat.blt k n
 | _=>true
theorem Uf{args:List Arg}{n:Nat}(h:R4 args n=true):∀ k,Arg.box k∈args->k<n:=λ k hk=>by
 unfold R4 at h
 rw[a9a] at h
 exact a9u (h _ hk)
theorem iA{f:FuncId}{fn:Func}{mT:Code}{l ol:List aJ}{ml:List MK}{own wr:List Nat}{cl:List (Nat×FA)}{ro:List Nat}{sl:List iV}(hl:aG l)(ho:fW ol)(hm:gZ ml)(hs:fX sl)(hf:prog.funcs[f]?=some fn)(hb:fn.body=some mT)(Λ:Nat->aH){args:List Arg}{sh:List (List CK)}{ca:List (List TV)}{res:List TV}{gf:List (List TV)}
  (Iy:VB sh=true) (SA:R4 args sh.length=true) (h:ck (cY l ol ml own wr cl ro sl) mT Λ 0 (kV (cY l ol ml own wr cl ro sl) fn sh λ r ds=>bp r res/\ng ds gf) (cR fn args sh ca)):tu prog f sh args ca res gf :=
 V6 (Sf hl ho hm hs) AB hf hb Λ (λ _ _ q=>⟨rN q.1,RN q.2⟩) Iy (Uf SA) h
end Go.Proofs.YtmjfpcajohhbeaaGreatDoor

namespace Go.Proofs.YtmjfpcajohhbeaaGreatDoor
open Go.ChangeShapes Go.WideShapes Go.ChangeAt Go.RowKit
theorem dB.append{w:World}{S:Nat->Prop}:∀ (ds es:List D) {l m:List Value},dB w S ds l->dB w S es m->dB w S (ds++es) (l++m)
 | [],_,_,_,h,k=>by rw[show _=[] from h];simpa using k
 | d::ds,es,_,m,h,k=>by
  obtain⟨c,r,rfl,h2,h3⟩:=h
  exact⟨c,r++m,by simp,h2,dB.append ds es h3 k⟩
theorem a1i{w:World}{S:Nat->Prop}(t:Ty)(y:t.den){cs:List Value}(h:Rd w S (t.aR y) cs):dB w S ((TV.cells ⟨t,y⟩).map TV.aR) cs:=by
 have one:∀ d:D,d.leaf=true->Rd w S d cs->dB w S [d] cs:=by
  intro d hd h
  obtain⟨v,rfl,_⟩:=Rd.vT hd h
  exact⟨v,[],rfl,h,rfl⟩
 cases t with
 | st s =>
  have h':Rd w S (s.aR y) cs:=h
  rw[aS.cF] at h'
  exact h'
 | int k=>exact one _ rfl h
 | bool=>exact one _ rfl h
 | str=>exact one _ rfl h
 | slice t=>exact one _ rfl h
 | mv t=>exact one _ (Oy _ _ _) h
 | ptr=>exact one _ rfl h
theorem Sk{w:World}{S:Nat->Prop}:∀ (ts:List Ty) (cs:List Value),cs.length=(ts.map Ty.size).sum ->
  (∀ i t,ts[i]?=some t->∃ y:t.den,Rd w S (t.aR y) ((cs.drop ((ts.take i).map Ty.size).sum).take t.size)) ->
  ∃ fl:List TV,fl.map TV.τ=ts/\dB w S ((fl.flatMap TV.cells).map TV.aR) cs
 | [],cs,h,_=>⟨[],rfl,by
   have:cs=[]:=by simpa using h
   subst this;exact rfl⟩
 | t::ts,cs,h,k=>by
  obtain⟨y,hy⟩:=k 0 t rfl
  simp only[a9D,b0j,List.sum_nil,b0C] at hy
  simp only[a9k,b2o] at h
  obtain⟨fl,h1,h2⟩:=Sk ts (cs.drop t.size) (by simp;omega) (λ i u hu=>by
   obtain⟨z,hz⟩:=k (i+1) u hu
   simp only[b0A,a9k,b2o] at hz
   rw[<-a9Y] at hz
   exact⟨z,hz⟩)
  refine⟨⟨t,y⟩::fl,by simp[h1],?_⟩
  simp only[b1P,b0n]
  have:=dB.append _ _ (a1i t y hy) h2
  rwa [a9K] at this
theorem a0w{w:World}{S:Nat->Prop}(t:Ty)(b:Nat):∀ (n o:Nat),(∀ i,i<n->∃ (x:t.den) (cs:List Value),cs.length=t.size/\Rd w S (t.aR x) cs/\ct w b (o+i * t.size) cs) ->
  ∃ xs:List t.den,xs.length=n/\dL w S (xs.map t.aR) b o
 | 0,o,_=>⟨[],rfl,trivial⟩
 | n+1,o,h=>by
  obtain⟨x,cs,h1,h2,h3⟩:=h 0 (by omega)
  obtain⟨xs,h4,h5⟩:=a0w t b n (o+t.size) (λ i hi=>by
   obtain⟨y,c,g1,g2,g3⟩:=h (i+1) (by omega)
   exact⟨y,c,g1,g2,by rw[show o+t.size+i * t.size=o+(i+1) * t.size by rw[a9C];omega];exact g3⟩)
  refine⟨x::xs,by simp[h4],⟨cs,by rw[Ty.cT];exact h1,h2,by simpa using h3⟩,?_⟩
  rw[Ty.cT]
  exact h5
section
variable {H:Type} {enc:TypeId×Value->H} {w:World} {spare:Nat->Bool} {held:Bool}
theorem WI(d:DataW H):1<=Rows.uptoBulk d:=by
 cases d with
 | lit l=>cases l<;>simp[Rows.uptoBulk]
 | nil=>simp[Rows.uptoBulk]
 | ptr d=>simp[Rows.uptoBulk]
 | slice elems spare=>simp[Rows.uptoBulk]
 | agg parts=>simp[Rows.uptoBulk]
 | iface t d=>simp[Rows.uptoBulk]
 | map entries=>simp[Rows.uptoBulk]
 | held h=>simp[Rows.uptoBulk]
theorem TA{d:DataW H}{l:List (DataW H)}(h:d∈l):Rows.uptoBulk d<=Rows.uptoBulkAll l:=by
 induction l with
 | nil=>cases h
 | cons x r ih =>
  simp only[Rows.uptoBulkAll]
  cases a8I.1 h with
  | inl e=>subst e;omega
  | inr e=>have:=ih e;omega
theorem QL(l:List (DataW H)):l.length<=Rows.uptoBulkAll l:=by
 induction l with
 | nil=>simp[Rows.uptoBulkAll]
 | cons x r ih=>have:=WI x;simp only[Rows.uptoBulkAll,a8C];omega
theorem rJ:bP prog (aL []):=Oa trivial
theorem Dd{T b e:Nat}{τ:Ty}(h:af DR T=some (τ,b,e)):prog.cellsOf T=τ.size:=by
 obtain⟨i,z,h1,h2,_⟩:=(rJ.info (T:=T) (τ:=τ) (b:=b) (e:=e) h).ex
 simp[Program.cellsOf,h1,h2]
theorem Ye:∀ (fuel:Nat) (τ:Ty) (T b e:Nat) (cs:List Value) (x:DataW H×List MemPlace),af DR T=some (τ,b,e)->DataW.trod enc prog w 0 spare held fuel T cs=some x ->
  Rows.uptoBulk x.1<=1048576->∃ y:τ.den,Rd w (·<w.heap.size) (τ.aR y) cs:=by
 intro fuel
 induction fuel with
 | zero =>
  intro τ T b e cs x ht h hk
  have h':(none:Option (DataW H×List MemPlace))=some x:=h
  cases h'
 | succ fuel ih =>
 intro τ T b e cs x ht h hk
 cases τ with
 | int k =>
  obtain⟨n,rfl,rfl,hw⟩:=DataW.trod_int (rJ.int ht) h
  refine⟨n,rfl,?_⟩
  simpa [Lit.wf] using hw
 | bool =>
  obtain⟨n,rfl,rfl⟩:=DataW.trod_bool (rJ.bool ht) h
  exact⟨n,rfl⟩
 | str =>
  obtain⟨n,rfl,rfl,hw⟩:=DataW.trod_string (rJ.str ht) h
  refine⟨n.data.toList,n,rfl,rfl,?_⟩
  simp[Rows.uptoBulk] at hk
  have:n.size=n.data.size:=rfl
  omega
 | mv t=>exact (rJ.a2W ht).elim
 | ptr =>
  obtain⟨t,hu⟩:=rJ.ptr ht
  rcases DataW.trod_pointer hu h with ⟨rfl,_⟩|⟨a,_,_,_,_,rfl,_⟩
  .exact⟨(),_,rfl⟩
  .exact⟨(),_,rfl⟩
 | slice t =>
  obtain⟨hu,⟨b',e',he⟩,_⟩:=rJ.slice ht
  have hc:=Dd he
  rcases DataW.trod_slice hu h with ⟨rfl,rfl⟩|⟨a,len,cap,elems,rest,n,hn,rfl,rfl,hb,hl,hm,hlen,XC,_⟩
  .exact⟨[],none,0,rfl,a9i _,a9J _,a9J _, .inl rfl⟩
  .obtain rfl:n=fuel:=by omega
   rw[hc] at XC
   have Y7:∀ (i:Nat) (z:DataW H×List MemPlace),elems[i]?=some z->Rows.uptoBulk z.1<=1048576:=by
    intro i z hz
    have h1:=TA (d:=z.1) (l:=elems.map (·.1)) (a8A.2 ⟨z,a9Q hz,rfl⟩)
    simp only[Rows.uptoBulk] at hk
    omega
   have Gg:∀ i,i<len->∃ (y:t.den) (c:List Value),c.length=t.size/\Rd w (·<w.heap.size) (t.aR y) c/\(∀ j v,c[j]?=some v->w.cell? ((a.add (i * t.size)).add j)=some v):=by
    intro i hi
    have hz:elems[i]?=some (elems[i]'(by omega)):=a8P (by omega)
    have:=XC i hi
    rw[hz,a9G] at this
    obtain⟨c,Oj,hc2⟩:=this
    obtain⟨y,hy⟩:=ih t e b' e' c _ he hc2 (Y7 i _ hz)
    obtain⟨_,h5,h6⟩:=World.cells?_some Oj
    refine⟨y,c,h5,hy,λ j v hj=>?_⟩
    rw[h6 j (by rw[<-h5];exact (a9g.1 hj).1),hj]
   have hlb:len<=1048576:=by
    have h1:=QL (elems.map (·.1))
    simp only[Rows.uptoBulk,a8R] at hk h1
    omega
   rcases Nat.eq_zero_or_pos len with h0|h0
   .subst h0
    exact⟨[],some a,cap,rfl,a9J _,hm,a9J _, .inl rfl⟩
   .have hp:=Ty.size_pos t
    have Wq:a.spot=none:=by
     obtain⟨y,c,g1,g2,g3⟩:=Gg 0 h0
     have hj:c[0]?=some (c[0]'(by omega)):=a8P (by omega)
     have:=World.cell?_spot (g3 0 _ hj)
     simpa [Addr.add] using this
    obtain⟨ab,ao,asp⟩:=a
    simp only at Wq
    subst Wq
    have a4E:∀ i j,((⟨ab,ao,none⟩:Addr).add i).add j=⟨ab,ao+i+j,none⟩:=by
     intro i j
     unfold Addr.add
     split<;>split<;>simp_all<;>omega
    obtain⟨xs,h1,h2⟩:=a0w (w:=w) (S:=(·<w.heap.size)) t ab len ao (λ i hi=>by
     obtain⟨y,c,g1,g2,g3⟩:=Gg i hi
     exact⟨y,c,g1,g2,λ j v hj=>by rw[<-a4E];exact g3 j v hj⟩)
    have bS:ab<w.heap.size:=by
     obtain⟨y,c,g1,g2,g3⟩:=Gg 0 h0
     have hj:c[0]?=some (c[0]'(by omega)):=a8P (by omega)
     have:=g3 0 _ hj
     rw[a4E] at this
     unfold World.cell? at this
     split at this
     .rename_i hh
      exact (a9x.1 hh).1
     .cases this
    have Wn:(xs.map t.aR).length=len:=by simp[h1]
    refine⟨xs,some ⟨ab,ao,none⟩,cap,by rw[Wn],by rw[Wn];exact hl,hm,by rw[Wn];omega, .inr ⟨ab,ao,rfl,bS,h2⟩⟩
 | st s =>
  obtain⟨fs,hu,cO,hf⟩:=rJ.st ht
  obtain⟨xs,n,hn,rfl,Dq,vS,hx⟩:=DataW.trod_struct hu h
  obtain rfl:n=fuel:=by omega
  have oq:cs.length=(s.ic.map Ty.size).sum:=by
   rw[Dq,Dd ht]
   cases s<;>rfl
  obtain⟨fl,h1,h2⟩:=Sk (w:=w) (S:=(·<w.heap.size)) s.ic cs oq (λ i t hi=>by
   have bS:i<fs.size:=by rw[cO];exact (a9g.1 hi).1
   obtain⟨t',b',e',g1,g2,g3⟩:=hf i (fs[i]'bS) (a9H bS)
   rw[hi] at g1
   cases g1
   have hy:=hx i (fs[i]'bS) (a9H bS)
   have hz:xs[i]?=some (xs[i]'(by omega)):=a8P (by omega)
   rw[hz,Dd g2,g3] at hy
   refine ih t _ b' e' _ _ g2 hy ?_
   have h3:=TA (d:=(xs[i]'(by omega)).1) (l:=xs.map (·.1)) (a8A.2 ⟨_,a9M _,rfl⟩)
   simp only[Rows.uptoBulk] at hk
   omega)
  obtain⟨y,hy⟩:=aS.YT s fl h1
  refine⟨y,?_⟩
  show Rd w _ (s.aR y) cs
  rw[aS.cF,aS.I1,hy]
  exact h2
end
end Go.Proofs.YtmjfpcajohhbeaaGreatDoor

set_option maxRecDepth 100000
namespace Go.Proofs.YtmjfpcajohhbeaaGreatDoor
open Go.ChangeShapes Go.WideShapes Go.ChangeAt Go.RowKit
theorem ZE:laidOutB prog=true:=by kernel_rfl
theorem a1f:ownKnob prog.godebug=none:=by kernel_rfl
section
variable {H:Type} {enc:TypeId×Value->H}
theorem Jx{W W':World}{sp:Nat->Bool}(hb:Below W.heap.size W W'):∀ (ts:List TypeId) {vs:List Value} {ds:List (DataW H)} {ps:List MemPlace},(∀ t∈ts,prog.readableRec t=true/\t<prog.types.size) ->
  DataW.TrodAll enc prog W 0 (λ _=>true) true ts vs ds ps->(∀ p∈ps,p.block<W.heap.size)->(∀ p∈ps,sp p.block=true)->DataW.TrodAll enc prog W' 0 sp true ts vs ds ps
 | [],[],[],ps,_,h,_,_=>h
 | t::ts,v::vs,d::ds,ps,ht,h,bS,Wq=>by
  obtain⟨p,q,h1,h2,rfl⟩:=h
  refine⟨p,q,?_,?_,rfl⟩
  .exact WideElems.Trod_stays ZE (ht t (by simp)).1 (ht t (by simp)).2 h1 (λ x hx=>hb.same (bS x (by simp[hx]))) (λ x hx=>Wq x (by simp[hx]))
  .exact Jx hb ts (λ t h=>ht t (by simp[h])) h2 (λ x hx=>bS x (by simp[hx])) (λ x hx=>Wq x (by simp[hx]))
 | [],_::_,_,_,_,h,_,_=>h.elim
 | [],[],_::_,_,_,h,_,_=>h.elim
 | _::_,[],_,_,_,h,_,_=>h.elim
 | _::_,_::_,[],_,_,h,_,_=>h.elim
theorem Ya{f:Func}{s:ChangeSpec}{apart fresh handsOn again:Bool}{W W':World}{args:Array Value}{v:Value}{ds gs:List (DataW H)}{before pa pv:List MemPlace}
  (hW:DataW.Whole enc prog f.params.toList s.vars apart W args.toList ds gs before)
  (a0g:∀ (b:Nat) (sp:Nat->Bool) (hd:Bool),DataW.TrodAll enc prog W' b sp hd f.resultTypes.toList (v.resultList f.resultTypes.size) (s.fn H (ds++gs)).results [])
  (fB:∀ sp:Nat->Bool,(∀ p∈before,sp p.block=true)->DataW.TrodAll enc prog W' 0 sp true f.params.toList args.toList (s.fn H (ds++gs)).args pa)
  (SP:∀ sp:Nat->Bool,(∀ p∈before,sp p.block=true)->DataW.TrodVars enc prog W' sp s.vars (s.fn H (ds++gs)).vars pv)
  (hps:before=pa++pv) (hb:Below W.heap.size W W')
  (Zf:∀ (j:Nat) (t:TypeId) (r:Value),f.resultTypes[j]?=some t->(v.resultList f.resultTypes.size)[j]?=some r->Value.okWide prog W' .any 0 t r) :
  s.post enc prog f apart fresh handsOn again W args v W':=by
 have bS:∀ p∈before,p.block<W.heap.size:=λ p hp=>hW.lt p hp
 have hold:∀ p∈before,(λ b=>decide (b<W.heap.size)) p.block=true:=λ p hp=>by simpa using bS p hp
 refine⟨ds,gs,before,[],pa,pv,hW,a0g _ _ _,fB _ hold,SP _ hold,World.keptBut_mono (λ p hp=>⟨hp,?_⟩) (hb.frame (·∈before)),λ _=>?_⟩
 .rw[hps,a8t] at hp
  exact Or.inr hp
 .obtain⟨_,_,_,_,_,hz,hn⟩:=hW
  refine⟨Zf,_,_,([]++pa)++pv,⟨[]++pa,pv,trodAll_append (fB _ (λ _ _=>rfl)) (a0g _ _ _),SP _ (λ _ _=>rfl),rfl,?_,?_⟩,?_⟩
  .intro b off hp
   have gG:MemPlace.cell b off∈before:=by rw[hps];simpa using hp
   rw[hb.frozen (bS _ gG)]
   exact hz b off gG
  .intro ha
   have:=hn ha
   rw[hps] at this
   simpa using this
  .intro p hp _
   rw[hps]
   simpa using hp
def Ym(τ:Ty)(v:Value):Prop:=match τ with
 | .st _=>∃ cs,v = .agg cs
 | _=>v.cells = #[v]
theorem a4b{w:World}{S:Nat->Prop}(τ:Ty)(y:τ.den){v:Value}(hv:Ym τ v)(h:Rd w S (τ.aR y) v.cells.toList):fA w S ⟨τ,y⟩ v:=by
 cases τ with
 | st s =>
  obtain⟨cs,rfl⟩:=hv
  exact⟨cs.toList,by simp,h⟩
 | int k=>simp only[show v.cells = #[v] from hv] at h;exact h
 | bool=>simp only[show v.cells = #[v] from hv] at h;exact h
 | str=>simp only[show v.cells = #[v] from hv] at h;exact h
 | slice t=>simp only[show v.cells = #[v] from hv] at h;exact h
 | mv t=>simp only[show v.cells = #[v] from hv] at h;exact h
 | ptr=>simp only[show v.cells = #[v] from hv] at h;exact h
theorem W7{w:World}:∀ (ts:List TypeId) (τs:List Ty) {vs:List Value} {ds:List (DataW H)} {ps:List MemPlace},aT (λ T τ=>∃ b e,af DR T=some (τ,b,e)) ts τs ->
  DataW.TrodAll enc prog w 0 (λ _=>true) true ts vs ds ps->(∀ d∈ds,Rows.uptoBulk d<=1048576)->(∀ (j:Nat) t v,ts[j]?=some t->vs[j]?=some v->Value.okWide prog w .any 0 t v\/∃ b,Value.okWide prog w .any b t v) ->
  ∃ Nw:List TV,Nw.map TV.τ=τs/\ds.length=τs.length/\aT (zm prog w (·<w.heap.size)) (Nw.map .val) vs
 | [],[],[],[],_,_,_,_,_=>⟨[],rfl,rfl,trivial⟩
 | T::ts,τ::τs,v::vs,d::ds,ps,ht,h,hk,hv=>by
  obtain⟨p,q,⟨n,h1⟩,h2,rfl⟩:=h
  obtain⟨⟨b,e,hT⟩,Un⟩:=ht
  obtain⟨y,hy⟩:=Ye n τ T b e _ _ hT h1 (hk d (by simp))
  obtain⟨Nw,g1,g2,g3⟩:=W7 ts τs Un h2 (λ d hd=>hk d (by simp[hd])) (λ j t v hj Gf=>hv (j+1) t v hj Gf)
  refine⟨⟨τ,y⟩::Nw,by simp[g1],by simp[g2],⟨?_,g3⟩⟩
  refine a4b τ y ?_ hy
  have MA:=hv 0 T v rfl rfl
  have key:∀ b,Value.okWide prog w .any b T v->Ym τ v:=by
   intro b' hb
   cases τ with
   | st s =>
    obtain⟨fs,hu,_⟩:=rJ.st hT
    simp only[Value.okWide,hu] at hb
    obtain⟨cs,rfl,_⟩:=hb
    exact⟨cs,rfl⟩
   | int k =>
    have hu:=rJ.int hT
    simp only[Value.okWide,hu,Cell.okWide,Cell.ok] at hb
    cases v<;>first|rfl|cases hb
   | bool =>
    have hu:=rJ.bool hT
    simp only[Value.okWide,hu,Cell.okWide,Cell.ok] at hb
    cases v<;>first|rfl|cases hb
   | str =>
    have hu:=rJ.str hT
    simp only[Value.okWide,hu,Cell.okWide,Cell.ok] at hb
    cases v<;>first|rfl|cases hb
   | mv t=>exact (rJ.a2W hT).elim
   | ptr =>
    obtain⟨t,hu⟩:=rJ.ptr hT
    simp only[Value.okWide,hu,Cell.okWide,Cell.ok] at hb
    cases v<;>first|rfl|cases hb
   | slice t =>
    have hu:=(rJ.slice hT).1
    simp only[Value.okWide,hu,Cell.okWide,Cell.ok] at hb
    cases v<;>first|rfl|cases hb
  rcases MA with h|⟨b',h⟩
  .exact key _ h
  .exact key _ h
 | [],_::_,_,_,_,h,_,_,_=>h.elim
 | _::_,[],_,_,_,h,_,_,_=>h.elim
 | [],[],_::_,_,_,_,h,_,_=>h.elim
 | [],[],[],_::_,_,_,h,_,_=>h.elim
 | _::_,_::_,[],_,_,_,h,_,_=>h.elim
 | _::_,_::_,_::_,[],_,_,h,_,_=>h.elim
noncomputable def a4C(g:Nat):Bool:=g<prog.globals.size&&match ((begin prog (λ _ _=>0) default).world.heap[g]?).bind Obj.row? with
 | some (zero,t)=>zero.size == 1&&prog.buildable t&&(match prog.cellTypes prog.depth t with|some [u]=>u == t|_=>false)&&(match prog.underlying t with|some (.int .i64)=>true|_=>false)
 | none=>false
theorem a0T:Y1.all a4C=true:=by kernel_rfl
theorem Su{W:World}(h:W.ShapedOpen prog):wR W (·<W.heap.size):=⟨λ _ h=>h,λ g hg=>by
 have hk:=a9a.1 a0T g hg
 unfold a4C at hk
 rw[a8r] at hk
 obtain⟨h1,h2⟩:=hk
 split at h2
 .rename_i zero t h0
  simp only[a8r] at h2
  obtain⟨⟨⟨k1,k2⟩,k3⟩,k4⟩:=h2
  have k3':prog.cellTypes prog.depth t=some [t]:=by
   split at k3
   .rename_i u hu
    rw[hu,eq_of_beq k3]
   .cases k3
  have k4':prog.underlying t=some (.int .i64):=by
   split at k4
   .rename_i hu;exact hu
   .cases k4
  obtain⟨m,hm⟩:=cell_of_shapedOpen_int h (a9e h1) h0 (eq_of_beq k1) k2 k3' k4'
  refine⟨?_,m,hm⟩
  unfold World.cell? at hm
  rcases a9t g W.heap.size with q|q
  .exact q
  .rw[show W.heap[g]?=none from a9S q] at hm
   cases hm
 .cases h2⟩
theorem a2N{n:FuncId}{fn:Func}{s:ChangeSpec}{τs:List Ty}{handsOn again:Bool}(hts:aT (λ T τ=>∃ b e,af DR T=some (τ,b,e)) fn.params.toList τs)
  (Wp:∀ t∈fn.params.toList,prog.readableRec t=true/\t<prog.types.size) (hr:fn.resultTypes = #[VL]) (SP:s.vars=[])
  (hs:∀ ds:List (DataW H),ds.length=τs.length->s.fn H ds={ results:=[.lit (.bool true)],args:=ds })
  (a6X:∀ Nw:List TV,Nw.map TV.τ=τs->bh prog n (Nw.map .val) (·=[⟨.bool,true⟩]))
  {W:World} {base:Nat} {args:Array Value} {ds gs:List (DataW H)} {before:List MemPlace}
  (XO:∀ (j:Nat) t v,fn.params[j]?=some t->args[j]?=some v->Value.okWide prog W .any base t v)
  (hW:DataW.Whole enc prog fn.params.toList s.vars false W args.toList ds gs before) (hk:Rows.uptoSmall H (ds++gs)=true) (Iy:wR W (·<W.heap.size)) :
  Calls prog n args W λ e W'=>∃ v,e = .returned v/\s.post enc prog fn false true handsOn again W args v W':=by
 have hW':=hW
 obtain⟨p,q,hA,hV,hpq,hfz,dr⟩:=hW
 rw[SP] at hV
 obtain⟨rfl,rfl⟩:=trodVars_none hV
 have Y7:∀ d∈ds,Rows.uptoBulk d<=1048576:=by
  intro d hd
  have h1:=TA hd
  simp only[Rows.uptoSmall,a9N,a8p] at hk
  omega
 obtain⟨Nw,h1,h2,h3⟩:=W7 fn.params.toList τs hts hA Y7 (λ j t v hj Gf => .inr ⟨base,XO j t v (by simpa using hj) (by simpa using Gf)⟩)
 have rp:=a6X Nw h1 W (·<W.heap.size) args.toList Iy h3
 rw[show args.toList.toArray=args by simp] at rp
 refine rp.mono λ e W'=>?_
 rintro⟨x,S',res,rfl,rfl,iw,hS1,hS2,a0g⟩
 have hx:x = .bool true:=by
  have hx:fA W' S' ⟨.bool,true⟩ x:=a0g
  have hx:[x]=[Value.bool true]:=hx
  simpa using hx
 subst hx
 have hb:Below W.heap.size W W':=⟨iw.os,iw.tape,iw.output,iw.size,λ k hk=>iw.block k hk (λ h=>h)⟩
 refine⟨_,rfl,Ya (pa:=p) (pv:=[]) hW' ?_ ?_ ?_ hpq hb ?_⟩
 .intro b sp hd
  rw[hs _ (by simpa using h2),hr]
  exact trodAll_mk1 ⟨1,by
   have hu:prog.underlying VL=some .bool:=by kernel_rfl
   simp only[DataW.trod,Value.cells]
   rw[hu]⟩
 .intro sp Wq
  rw[hs _ (by simpa using h2),List.append_nil]
  have bS:∀ x∈before,x.block<W.heap.size:=λ x hx=>hW'.lt x hx
  rw[hpq] at bS Wq
  exact Jx hb _ Wp hA (λ x hx=>bS x (by simp[hx])) (λ x hx=>Wq x (by simp[hx]))
 .intro sp Wq
  rw[hs _ (by simpa using h2),SP]
  rfl
 .refine ok_one hr rfl ?_
  have hu:prog.underlying VL=some .bool:=by kernel_rfl
  simp[Value.okWide,hu,Cell.okWide,Cell.ok]
end
end Go.Proofs.YtmjfpcajohhbeaaGreatDoor

namespace Go.Proofs.YtmjfpcajohhbeaaGreatDoor
def bF{α:Type}(f:α->Nat):List α->Nat
 | []=>0
 | x::xs=>f x+bF f xs
section
variable {α:Type} (f:α->Nat)
theorem oj(d:α):∀ (xs:List α) (k:Nat),k<xs.length->bF f (xs.take (k+1))=bF f (xs.take k)+f (xs.getD k d)
 | [],k,h=>by simp at h
 | x::xs,0,h=>by simp[bF]
 | x::xs,k+1,h=>by
  have:=oj d xs k (by simpa using h)
  simp[bF] at this ⊢;omega
theorem dG:∀ (xs:List α) (k:Nat),bF f (xs.take k)<=bF f xs
 | [],k=>by simp
 | x::xs,0=>by simp[bF]
 | x::xs,k+1=>by
  have:=dG xs k
  simp[bF];omega
theorem tp(xs:List α)(k:Nat):xs.length<=k->bF f (xs.take k)=bF f xs:=λ h=>by rw[a9d h]
theorem xp(xs:List α):bF f (xs.take 0)=0:=by simp[bF]
theorem sq(d:α):∀ (xs:List α) (k:Nat),k<xs.length->f (xs.getD k d)<=bF f xs
 | [],k,h=>by simp at h
 | x::xs,0,h=>by simp[bF]
 | x::xs,k+1,h=>by
  have:=sq d xs k (by simpa using h)
  simp[bF] at this ⊢;omega
end
def bT(t:Nat)(left:Int):Int:=if (t:Int)<=left then left - t else -1
theorem eF(t:Nat)(left:Int):((t:Int)<=left/\bT t left=left - t)\/(left<(t:Int)/\bT t left = -1):=by
 unfold bT;split
 .exact .inl ⟨by assumption,rfl⟩
 .exact .inr ⟨by omega,rfl⟩
noncomputable def bw{α:Type}(a b:α):Bool := @decide (a=b) (Classical.propDecidable _)
theorem pH{α:Type}{a b:α}(h:a=b):true=bw a b:=by simp[bw,h]
theorem gA{α:Type}{a b:α}(h:a≠b):false=bw a b:=by simp[bw,h]
@[simp] theorem F0{α:Type}{a b:α}:bw a b=true↔a=b:=by simp[bw]
@[simp] theorem a0N{α:Type}{a b:α}:bw a b=false↔a≠b:=by simp[bw]
@[simp] theorem a6c{α:Type}{a:α}:bw a a=true:=by simp[bw]
section
variable {α:Type}
theorem fJ(d:α):∀ (xs:List α) (k:Nat),k<xs.length->xs.take (k+1)=xs.take k++[xs.getD k d]
 | [],k,h=>by simp at h
 | x::xs,0,h=>by simp
 | x::xs,k+1,h=>by
  have:=fJ d xs k (by simpa using h)
  simp at this ⊢;exact this
theorem iB(d:α)(xs ys:List α)(k:Nat)(h1:k<xs.length)(h2:k<ys.length)(h:xs.take k=ys.take k)(e:xs.getD k d=ys.getD k d):xs.take (k+1)=ys.take (k+1):=by
 rw[fJ d xs k h1,fJ d ys k h2,h,e]
theorem dJ(xs ys:List α)(k:Nat)(h1:xs.length<=k)(h2:ys.length<=k)(h:xs.take k=ys.take k):xs=ys:=by
 rwa [a9d h1,a9d h2] at h
def fill(xs:List α)(k:Nat)(z:α):List α:=xs.take k++List.replicate (xs.length - k) z
theorem Di(xs:List α)(z:α):List.replicate xs.length z=fill xs 0 z:=by simp[fill]
theorem rS(xs:List α)(z:α)(k:Nat)(h:xs.length<=k):fill xs k z=xs:=by
 simp[fill,a9d h,Nat.sub_eq_zero_of_le h]
theorem xb(xs:List α)(z:α)(k:Nat):k<=xs.length->(fill xs k z).length=xs.length:=by
 intro h;simp[fill];omega
theorem rT(xs:List α)(z d:α)(k:Nat)(h:k<xs.length):(fill xs k z).set k (xs.getD k d)=fill xs (k+1) z:=by
 unfold fill
 rw[fJ d xs k h,b2f _ _ (by simp;omega)]
 have e:xs.length - k=(xs.length - (k+1))+1:=by omega
 have e2:(List.take k xs).length=k:=by simp;omega
 rw[e2,Nat.sub_self,e,b0o,b2u]
 simp
end
def iR{α:Type}(f:α->Nat):List α->Nat
 | []=>0
 | x::xs=>max (f x) (iR f xs)
section
variable {α:Type} (f:α->Nat)
theorem tW(d:α):∀ (xs:List α) (k:Nat),k<xs.length->iR f (xs.take (k+1))=max (iR f (xs.take k)) (f (xs.getD k d))
 | [],k,h=>by simp at h
 | x::xs,0,h=>by simp[iR]
 | x::xs,k+1,h=>by
  have:=tW d xs k (by simpa using h)
  simp[iR] at this ⊢;omega
theorem ld:∀ (xs:List α) (k:Nat),iR f (xs.take k)<=iR f xs
 | [],k=>by simp
 | x::xs,0=>by simp[iR]
 | x::xs,k+1=>by
  have:=ld xs k
  simp[iR];omega
theorem CH(xs:List α)(k:Nat):xs.length<=k->iR f (xs.take k)=iR f xs:=λ h=>by rw[a9d h]
theorem S7(xs:List α):iR f (xs.take 0)=0:=by simp[iR]
theorem tV(d:α):∀ (xs:List α) (k:Nat),k<xs.length->f (xs.getD k d)<=iR f xs
 | [],k,h=>by simp at h
 | x::xs,0,h=>by simp[iR];omega
 | x::xs,k+1,h=>by
  have:=tV d xs k (by simpa using h)
  simp[iR] at this ⊢;omega
end
def bq{α:Type}(f:α->Bool):List α->Bool
 | []=>true
 | x::xs=>f x&&bq f xs
section
variable {α:Type} (f:α->Bool)
theorem Lr:∀ (xs ys:List α),bq f (xs++ys)=(bq f xs&&bq f ys)
 | [],ys=>by simp[bq]
 | x::xs,ys=>by simp[bq,Lr xs ys,b0Y]
theorem dy(d:α)(xs:List α)(k:Nat)(h:k<xs.length):bq f (xs.take (k+1))=(bq f (xs.take k)&&f (xs.getD k d)):=by
 rw[fJ d xs k h,Lr];simp[bq]
theorem dW(d:α):∀ (xs:List α) (k:Nat),k<xs.length->f (xs.getD k d)=false->bq f xs=false
 | [],k,h,_=>by simp at h
 | x::xs,0,h,e=>by simp at e;simp[bq,e]
 | x::xs,k+1,h,e=>by
  have:=dW d xs k (by simpa using h) (by simpa using e)
  simp[bq,this]
theorem eI(xs:List α)(k:Nat):xs.length<=k->bq f (xs.take k)=bq f xs:=λ h=>by rw[a9d h]
theorem all_zero(xs:List α):bq f (xs.take 0)=true:=by simp[bq]
theorem UJ(d:α):∀ (xs:List α) (k:Nat),k<xs.length->bq f xs=true->f (xs.getD k d)=true
 | [],k,h,_=>by simp at h
 | x::xs,0,h,e=>by simp[bq] at e;simp[e.1]
 | x::xs,k+1,h,e=>by
  simp only[bq,a8r] at e
  have:=UJ d xs k (by simpa using h) e.2
  simpa using this
end
end Go.Proofs.YtmjfpcajohhbeaaGreatDoor

set_option maxRecDepth 4000
set_option maxHeartbeats 4000000
namespace Go.Proofs.YtmjfpcajohhbeaaGreatDoor
noncomputable section
mutual
def ar:J->Nat
 | ⟨_,_,M⟩=>M.length+xq M
def xq:List J->Nat
 | []=>0
 | k::ks=>ar k+xq ks
end
theorem No:∀ xs,xq xs=bF ar xs
 | []=>rfl
 | x::xs=>by rw[xq,bF,No xs]
theorem sr(x:J):ar x=(x.M.length+bF ar x.M):=by
 cases x;simp[ar,No];try omega
def nY(n:Nat):aJ:=⟨tf,[.v (.st .expr), .v (.int .i64)],λ (x:J) (left:Int)=>⟨(some (cz x<n/\0<=left/\left<=1048576),[⟨(.int .i64),bT (ar x) left⟩])⟩⟩
def sV:aJ:=⟨tf,[.v (.st .expr), .v (.int .i64)],λ (x:J) (left:Int)=>⟨(some (0<=left/\left<=1048576),[⟨(.int .i64),bT (ar x) left⟩])⟩⟩
def mu(n:Nat):aJ:=⟨ra,[.v (.slice (.st .expr)), .v (.int .i64)],λ (xs:List J) (left:Int)=>⟨(some (cz xs<n/\0<=left/\left<=1048576),[⟨(.int .i64),bT (xs.length+bF ar xs) left⟩])⟩⟩
def qS:aJ:=⟨ra,[.v (.slice (.st .expr)), .v (.int .i64)],λ (xs:List J) (left:Int)=>⟨(some (0<=left/\left<=1048576),[⟨(.int .i64),bT (xs.length+bF ar xs) left⟩])⟩⟩
def Gx(x:J)(left:Int):Nat->aH:=λ _ => .none
theorem Ra(n:Nat)(x:J)(left:Int):ck (aL [mu n] [] [] [2]) (au lQ) (Gx x left) 0 (bg (aL [mu n] [] [] [2]) lQ λ r=>bp r [⟨(.int .i64),bT (ar x) left⟩]) (aD lQ [.val ⟨(.st .expr),x⟩, .val ⟨(.int .i64),left⟩]) =
 ((x.M.length<=140737488355328 ->
 ((cz x.M<n/\0<=left/\left<=1048576)/\(O (bT (x.M.length+bF ar x.M) left) ->
 (((decide ((bT (x.M.length+bF ar x.M) left)<(0:Int)))=true ->
 (-1:Int)=(bT (ar x) left))/\((decide ((bT (x.M.length+bF ar x.M) left)<(0:Int)))=false ->
 (bT (x.M.length+bF ar x.M) left)=(bT (ar x) left))))))):=by kernel_rfl
theorem QW(n:Nat)(hE:aG [mu n]):aJ.Good (nY (n+1)):=by
 refine⟨aA qL rfl (by decide),?_⟩
 show ∀ (x:J) (left:Int),(cz x<n+1/\0<=left/\left<=1048576)->bh prog tf [.val ⟨(.st .expr),x⟩, .val ⟨(.int .i64),left⟩] (·=[⟨(.int .i64),bT (ar x) left⟩])
 intro x left hp
 refine aM (wr:=[]) (cl:=[]) (ro:=[2]) hE qL LL (Gx x left) ?_
 rewrite [Ra n x left]
 have f0:=eF (x.M.length+bF ar x.M) (left)
 have fz:=eF ((x.M.length+bF ar x.M)) left
 have f0k:=dV x
 refine λ _=>⟨?_,λ _=>⟨λ _=>?_,λ _=>?_⟩⟩
 all_goals try and_intros
 all_goals try rw[sr]
 all_goals first|rfl|trivial|omega|(simp only[a8p,a8q,aw,O,cr,cW,cH,br] at *;omega)|(simp[aw,O] at *;omega)|grind
def Es(xs:List J)(left:Int):Nat->aH:=(λ zb=>if Nat.beq zb 0 then .mk (Nat) (λ k=>k<=xs.length/\(xs.length+bF ar (xs.take k):Int)<=left) (λ k=>xs.length - k) [] [2,3,6,7,8,9,10,11] (λ k=>[(5, .aW ⟨(.int .i64),((k:Int):Int)⟩),(1, .aW ⟨(.int .i64),(left - (xs.length+bF ar (xs.take k):Int):Int)⟩)]) [0,1,4,5,12,13,14,15,16,17,18,19,20,21,22,23,24,25,26] (λ k=>[]) [] [] (λ k=>λ _ => .none) else .none)
theorem Pj(n:Nat)(xs:List J)(left:Int):ck (aL [nY n]) (au ka) (Es xs left) 0 (bg (aL [nY n]) ka λ r=>bp r [⟨(.int .i64),bT (xs.length+bF ar xs) left⟩]) (aD ka [.val ⟨(.slice (.st .expr)),xs⟩, .val ⟨(.int .i64),left⟩]) =
 ((O ((xs.length:Int)) ->
 (O (left - ((xs.length:Int)))/\(((decide ((left - ((xs.length:Int)))<(0:Int)))=true ->
 (-1:Int)=(bT (xs.length+bF ar xs) left))/\((decide ((left - ((xs.length:Int)))<(0:Int)))=false ->
 ((∃ k1:Nat,((k1<=xs.length/\(xs.length+bF ar (xs.take k1):Int)<=left)/\((xs=xs/\((left - ((xs.length:Int)))=(left - (xs.length+bF ar (xs.take k1):Int))/\((0:Int)=(k1:Int)/\True)))/\True)))/\(∀ k1:Nat,((k1<=xs.length/\(xs.length+bF ar (xs.take k1):Int)<=left) ->
 (O ((xs.length:Int)) ->
 (((decide ((k1:Int)<((xs.length:Int))))=true ->
 (aw (k1:Int) xs.length/\((cz (xs.getD k1 zE)<n/\0<=(left - (xs.length+bF ar (xs.take k1):Int))/\(left - (xs.length+bF ar (xs.take k1):Int))<=1048576)/\(O (bT (ar (xs.getD k1 zE)) (left - (xs.length+bF ar (xs.take k1):Int))) ->
 (((decide ((bT (ar (xs.getD k1 zE)) (left - (xs.length+bF ar (xs.take k1):Int)))<(0:Int)))=true ->
 (-1:Int)=(bT (xs.length+bF ar xs) left))/\((decide ((bT (ar (xs.getD k1 zE)) (left - (xs.length+bF ar (xs.take k1):Int)))<(0:Int)))=false ->
 (O ((k1:Int)+(1:Int))/\(∃ k2:Nat,((k2<=xs.length/\(xs.length+bF ar (xs.take k2):Int)<=left)/\(xs.length - k2<xs.length - k1/\((xs=xs/\((bT (ar (xs.getD k1 zE)) (left - (xs.length+bF ar (xs.take k1):Int)))=(left - (xs.length+bF ar (xs.take k2):Int))/\(((k1:Int)+(1:Int))=(k2:Int)/\True)))/\True)))))))))))/\((decide ((k1:Int)<((xs.length:Int))))=false ->
 (left - (xs.length+bF ar (xs.take k1):Int))=(bT (xs.length+bF ar xs) left)))))))))))):=by kernel_rfl
theorem OK(n:Nat)(hE:aG [nY n]):aJ.Good (mu (n+1)):=by
 refine⟨aA pz rfl (by decide),?_⟩
 show ∀ (xs:List J) (left:Int),(cz xs<n+1/\0<=left/\left<=1048576)->bh prog ra [.val ⟨(.slice (.st .expr)),xs⟩, .val ⟨(.int .i64),left⟩] (·=[⟨(.int .i64),bT (xs.length+bF ar xs) left⟩])
 intro xs left hp
 refine aM (wr:=[]) (cl:=[]) (ro:=[]) hE pz JN (Es xs left) ?_
 rewrite [Pj n xs left]
 have f0:=eF (xs.length+bF ar xs) left
 have f1:=xp ar xs
 refine λ _=>⟨?_,λ _=>?_,λ _=>⟨⟨0,?_,⟨rfl,?_,?_,trivial⟩,trivial⟩,λ k1 _=>have a4q:=oj ar zE xs k1;have a4r:=dG ar xs k1;have a4s:=dG ar xs (k1+1);have a4t:=tp ar xs k1;have a4u:=cq zE xs k1;have a7X:=eF (ar (xs.getD k1 zE)) (left - (xs.length+bF ar (xs.take k1):Int));λ _=>⟨λ _=>⟨?_,?_,λ _=>⟨λ _=>?_,λ _=>⟨?_,k1+1,?_,?_,⟨rfl,?_,?_,trivial⟩,trivial⟩⟩⟩,λ _=>?_⟩⟩⟩
 all_goals try and_intros
 all_goals first|rfl|trivial|omega|(simp only[a8p,a8q,aw,O,cr,cW,cH,br] at *;omega)|(simp[aw,O] at *;omega)|grind
theorem CX :∀ n,aG [nY n,mu n]
 | 0=>⟨⟨aA qL rfl (by decide),λ _ _ h=>absurd h.1 (a9p _)⟩,⟨aA pz rfl (by decide),λ _ _ h=>absurd h.1 (a9p _)⟩,trivial⟩
 | n+1=>by
  have ih:=CX  n
  exact⟨QW n ⟨ih.2.1,trivial⟩,OK n ⟨ih.1,trivial⟩,trivial⟩
theorem Mi :aJ.Good sV :=
 ⟨aA qL rfl (by decide),λ x left hp=>(CX  (cz x+1)).1.2 x left (⟨a9h _,hp⟩)⟩
theorem Kk :aJ.Good qS :=
 ⟨aA pz rfl (by decide),λ xs left hp=>(CX  (cz xs+1)).2.1.2 xs left (⟨a9h _,hp⟩)⟩
def me:aJ:=⟨uf,[.v (.slice (.int .i64)), .v (.int .i64)],λ (xs:List Int) (left:Int)=>⟨(some (0<=left/\left<=1048576),[⟨(.int .i64),bT xs.length left⟩])⟩⟩
def Cw(xs:List Int)(left:Int):Nat->aH:=λ _ => .none
theorem ND(xs:List Int)(left:Int):ck (aL []) (au ji) (Cw xs left) 0 (bg (aL []) ji λ r=>bp r [⟨(.int .i64),bT xs.length left⟩]) (aD ji [.val ⟨(.slice (.int .i64)),xs⟩, .val ⟨(.int .i64),left⟩]) =
 ((O ((xs.length:Int)) ->
 (O (left - ((xs.length:Int)))/\(((decide ((left - ((xs.length:Int)))<(0:Int)))=true ->
 (-1:Int)=(bT xs.length left))/\((decide ((left - ((xs.length:Int)))<(0:Int)))=false ->
 (left - ((xs.length:Int)))=(bT xs.length left)))))):=by kernel_rfl
theorem MW(hE:aG []):aJ.Good me:=by
 refine⟨aA zB rfl (by decide),?_⟩
 show ∀ (xs:List Int) (left:Int),(0<=left/\left<=1048576)->bh prog uf [.val ⟨(.slice (.int .i64)),xs⟩, .val ⟨(.int .i64),left⟩] (·=[⟨(.int .i64),bT xs.length left⟩])
 intro xs left hp
 refine aM (wr:=[]) (cl:=[]) (ro:=[]) hE zB H0 (Cw xs left) ?_
 rewrite [ND xs left]
 have f0:=eF xs.length left
 refine λ _=>⟨?_,λ _=>?_,λ _=>?_⟩
 all_goals try and_intros
 all_goals first|rfl|trivial|omega|(simp only[a8p,a8q,aw,O,cr,cW,cH,br] at *;omega)|(simp[aw,O] at *;omega)|grind
theorem Ik:aJ.Good me:=MW trivial
def aQ(x:ai):Nat:=(x.path.length)+(x.aq.length+bF ar x.aq)+(x.bm.length+bF ar x.bm)
theorem CO(x:ai):aQ x=(x.path.length)+(x.aq.length+bF ar x.aq)+(x.bm.length+bF ar x.bm):=rfl
def iF:aJ:=⟨qk,[.v (.st .proofStep), .v (.int .i64)],λ (x:ai) (left:Int)=>⟨(some (0<=left/\left<=1048576),[⟨(.int .i64),bT (aQ x) left⟩])⟩⟩
def wN(x:ai)(left:Int):Nat->aH:=λ _ => .none
theorem Ho(x:ai)(left:Int):ck (aL [me,qS] [] [] [2]) (au fR) (wN x left) 0 (bg (aL [me,qS] [] [] [2]) fR λ r=>bp r [⟨(.int .i64),bT (aQ x) left⟩]) (aD fR [.val ⟨(.st .proofStep),x⟩, .val ⟨(.int .i64),left⟩]) =
 ((x.path.length<=140737488355328 ->
 ((0<=left/\left<=1048576)/\(O (bT x.path.length left) ->
 (((decide ((bT x.path.length left)<(0:Int)))=true ->
 (-1:Int)=(bT (aQ x) left))/\((decide ((bT x.path.length left)<(0:Int)))=false ->
 (x.aq.length<=140737488355328 ->
 ((0<=(bT x.path.length left)/\(bT x.path.length left)<=1048576)/\(O (bT (x.aq.length+bF ar x.aq) (bT x.path.length left)) ->
 (((decide ((bT (x.aq.length+bF ar x.aq) (bT x.path.length left))<(0:Int)))=true ->
 (-1:Int)=(bT (aQ x) left))/\((decide ((bT (x.aq.length+bF ar x.aq) (bT x.path.length left))<(0:Int)))=false ->
 (x.bm.length<=140737488355328 ->
 ((0<=(bT (x.aq.length+bF ar x.aq) (bT x.path.length left))/\(bT (x.aq.length+bF ar x.aq) (bT x.path.length left))<=1048576)/\(O (bT (x.bm.length+bF ar x.bm) (bT (x.aq.length+bF ar x.aq) (bT x.path.length left))) ->
 (((decide ((bT (x.bm.length+bF ar x.bm) (bT (x.aq.length+bF ar x.aq) (bT x.path.length left)))<(0:Int)))=true ->
 (-1:Int)=(bT (aQ x) left))/\((decide ((bT (x.bm.length+bF ar x.bm) (bT (x.aq.length+bF ar x.aq) (bT x.path.length left)))<(0:Int)))=false ->
 (bT (x.bm.length+bF ar x.bm) (bT (x.aq.length+bF ar x.aq) (bT x.path.length left)))=(bT (aQ x) left))))))))))))))))):=by kernel_rfl
theorem GW(hE:aG [me,qS]):aJ.Good iF:=by
 refine⟨aA uW rfl (by decide),?_⟩
 show ∀ (x:ai) (left:Int),(0<=left/\left<=1048576)->bh prog qk [.val ⟨(.st .proofStep),x⟩, .val ⟨(.int .i64),left⟩] (·=[⟨(.int .i64),bT (aQ x) left⟩])
 intro x left hp
 refine aM (wr:=[]) (cl:=[]) (ro:=[2]) hE uW C8 (wN x left) ?_
 rewrite [Ho x left]
 have f0:=eF (x.path.length) (left)
 have f1:=eF (x.aq.length+bF ar x.aq) (bT (x.path.length) left)
 have f2:=eF (x.bm.length+bF ar x.bm) (bT (x.aq.length+bF ar x.aq) (bT (x.path.length) left))
 have fz:=eF ((x.path.length)+(x.aq.length+bF ar x.aq)+(x.bm.length+bF ar x.bm)) left
 refine λ _=>⟨?_,λ _=>⟨λ _=>?_,λ _ _=>⟨?_,λ _=>⟨λ _=>?_,λ _ _=>⟨?_,λ _=>⟨λ _=>?_,λ _=>?_⟩⟩⟩⟩⟩⟩
 all_goals try and_intros
 all_goals try rw[CO]
 all_goals first|rfl|trivial|omega|(simp only[a8p,a8q,aw,O,cr,cW,cH,br] at *;omega)|(simp[aw,O] at *;omega)|grind
theorem Dm:aJ.Good iF:=GW ⟨Ik,Kk,trivial⟩
def gR:aJ:=⟨ph,[.v (.slice (.st .proofStep)), .v (.int .i64)],λ (xs:List ai) (left:Int)=>⟨(some (0<=left/\left<=1048576),[⟨(.int .i64),bT (xs.length+bF aQ xs) left⟩])⟩⟩
def vo(xs:List ai)(left:Int):Nat->aH:=(λ zb=>if Nat.beq zb 0 then .mk (Nat) (λ k=>k<=xs.length/\(xs.length+bF aQ (xs.take k):Int)<=left) (λ k=>xs.length - k) [] [2,3,6,7,8,9,10,11] (λ k=>[(5, .aW ⟨(.int .i64),((k:Int):Int)⟩),(1, .aW ⟨(.int .i64),(left - (xs.length+bF aQ (xs.take k):Int):Int)⟩)]) [0,1,4,5,12,13,14,15,16,17,18,19,20,21,22,23,24,25,26] (λ k=>[]) [] [] (λ k=>λ _ => .none) else .none)
theorem Fs(xs:List ai)(left:Int):ck (aL [iF]) (au fg) (vo xs left) 0 (bg (aL [iF]) fg λ r=>bp r [⟨(.int .i64),bT (xs.length+bF aQ xs) left⟩]) (aD fg [.val ⟨(.slice (.st .proofStep)),xs⟩, .val ⟨(.int .i64),left⟩]) =
 ((O ((xs.length:Int)) ->
 (O (left - ((xs.length:Int)))/\(((decide ((left - ((xs.length:Int)))<(0:Int)))=true ->
 (-1:Int)=(bT (xs.length+bF aQ xs) left))/\((decide ((left - ((xs.length:Int)))<(0:Int)))=false ->
 ((∃ k1:Nat,((k1<=xs.length/\(xs.length+bF aQ (xs.take k1):Int)<=left)/\((xs=xs/\((left - ((xs.length:Int)))=(left - (xs.length+bF aQ (xs.take k1):Int))/\((0:Int)=(k1:Int)/\True)))/\True)))/\(∀ k1:Nat,((k1<=xs.length/\(xs.length+bF aQ (xs.take k1):Int)<=left) ->
 (O ((xs.length:Int)) ->
 (((decide ((k1:Int)<((xs.length:Int))))=true ->
 (aw (k1:Int) xs.length/\((0<=(left - (xs.length+bF aQ (xs.take k1):Int))/\(left - (xs.length+bF aQ (xs.take k1):Int))<=1048576)/\(O (bT (aQ (xs.getD k1 (ai.mk (0:Int) false [] [] []))) (left - (xs.length+bF aQ (xs.take k1):Int))) ->
 (((decide ((bT (aQ (xs.getD k1 (ai.mk (0:Int) false [] [] []))) (left - (xs.length+bF aQ (xs.take k1):Int)))<(0:Int)))=true ->
 (-1:Int)=(bT (xs.length+bF aQ xs) left))/\((decide ((bT (aQ (xs.getD k1 (ai.mk (0:Int) false [] [] []))) (left - (xs.length+bF aQ (xs.take k1):Int)))<(0:Int)))=false ->
 (O ((k1:Int)+(1:Int))/\(∃ k2:Nat,((k2<=xs.length/\(xs.length+bF aQ (xs.take k2):Int)<=left)/\(xs.length - k2<xs.length - k1/\((xs=xs/\((bT (aQ (xs.getD k1 (ai.mk (0:Int) false [] [] []))) (left - (xs.length+bF aQ (xs.take k1):Int)))=(left - (xs.length+bF aQ (xs.take k2):Int))/\(((k1:Int)+(1:Int))=(k2:Int)/\True)))/\True)))))))))))/\((decide ((k1:Int)<((xs.length:Int))))=false ->
 (left - (xs.length+bF aQ (xs.take k1):Int))=(bT (xs.length+bF aQ xs) left)))))))))))):=by kernel_rfl
theorem Fh(hE:aG [iF]):aJ.Good gR:=by
 refine⟨aA tz rfl (by decide),?_⟩
 show ∀ (xs:List ai) (left:Int),(0<=left/\left<=1048576)->bh prog ph [.val ⟨(.slice (.st .proofStep)),xs⟩, .val ⟨(.int .i64),left⟩] (·=[⟨(.int .i64),bT (xs.length+bF aQ xs) left⟩])
 intro xs left hp
 refine aM (wr:=[]) (cl:=[]) (ro:=[]) hE tz BU (vo xs left) ?_
 rewrite [Fs xs left]
 have f0:=eF (xs.length+bF aQ xs) left
 have f1:=xp aQ xs
 refine λ _=>⟨?_,λ _=>?_,λ _=>⟨⟨0,?_,⟨rfl,?_,?_,trivial⟩,trivial⟩,λ k1 _=>have a4q:=oj aQ (ai.mk (0:Int) false [] [] []) xs k1;have a4r:=dG aQ xs k1;have a4s:=dG aQ xs (k1+1);have a4t:=tp aQ xs k1;have a4u:=eF (aQ (xs.getD k1 (ai.mk (0:Int) false [] [] []))) (left - (xs.length+bF aQ (xs.take k1):Int));λ _=>⟨λ _=>⟨?_,?_,λ _=>⟨λ _=>?_,λ _=>⟨?_,k1+1,?_,?_,⟨rfl,?_,?_,trivial⟩,trivial⟩⟩⟩,λ _=>?_⟩⟩⟩
 all_goals try and_intros
 all_goals first|rfl|trivial|omega|(simp only[a8p,a8q,aw,O,cr,cW,cH,br] at *;omega)|(simp[aw,O] at *;omega)|grind
theorem B8:aJ.Good gR:=Fh ⟨Dm,trivial⟩
def bD(x:ae):Nat:=(ar x.left)+(ar x.right)+(x.steps.length+bF aQ x.steps)
theorem Nl(x:ae):bD x=(ar x.left)+(ar x.right)+(x.steps.length+bF aQ x.steps):=rfl
def nL:aJ:=⟨v8,[.v (.st .claim), .v (.int .i64)],λ (x:ae) (left:Int)=>⟨(some (0<=left/\left<=1048576),[⟨(.int .i64),bT (bD x) left⟩])⟩⟩
def Er(x:ae)(left:Int):Nat->aH:=λ _ => .none
theorem Ph(x:ae)(left:Int):ck (aL [sV,gR] [] [] [2]) (au j9) (Er x left) 0 (bg (aL [sV,gR] [] [] [2]) j9 λ r=>bp r [⟨(.int .i64),bT (bD x) left⟩]) (aD j9 [.val ⟨(.st .claim),x⟩, .val ⟨(.int .i64),left⟩]) =
 (((0<=left/\left<=1048576)/\(O (bT (ar x.left) left) ->
 (((decide ((bT (ar x.left) left)<(0:Int)))=true ->
 (-1:Int)=(bT (bD x) left))/\((decide ((bT (ar x.left) left)<(0:Int)))=false ->
 ((0<=(bT (ar x.left) left)/\(bT (ar x.left) left)<=1048576)/\(O (bT (ar x.right) (bT (ar x.left) left)) ->
 (((decide ((bT (ar x.right) (bT (ar x.left) left))<(0:Int)))=true ->
 (-1:Int)=(bT (bD x) left))/\((decide ((bT (ar x.right) (bT (ar x.left) left))<(0:Int)))=false ->
 (x.steps.length<=140737488355328 ->
 ((0<=(bT (ar x.right) (bT (ar x.left) left))/\(bT (ar x.right) (bT (ar x.left) left))<=1048576)/\(O (bT (x.steps.length+bF aQ x.steps) (bT (ar x.right) (bT (ar x.left) left))) ->
 (((decide ((bT (x.steps.length+bF aQ x.steps) (bT (ar x.right) (bT (ar x.left) left)))<(0:Int)))=true ->
 (-1:Int)=(bT (bD x) left))/\((decide ((bT (x.steps.length+bF aQ x.steps) (bT (ar x.right) (bT (ar x.left) left)))<(0:Int)))=false ->
 (bT (x.steps.length+bF aQ x.steps) (bT (ar x.right) (bT (ar x.left) left)))=(bT (bD x) left))))))))))))))):=by kernel_rfl
theorem OJ(hE:aG [sV,gR]):aJ.Good nL:=by
 refine⟨aA BE rfl (by decide),?_⟩
 show ∀ (x:ae) (left:Int),(0<=left/\left<=1048576)->bh prog v8 [.val ⟨(.st .claim),x⟩, .val ⟨(.int .i64),left⟩] (·=[⟨(.int .i64),bT (bD x) left⟩])
 intro x left hp
 refine aM (wr:=[]) (cl:=[]) (ro:=[2]) hE BE JM (Er x left) ?_
 rewrite [Ph x left]
 have f0:=eF (ar x.left) (left)
 have f1:=eF (ar x.right) (bT (ar x.left) left)
 have f2:=eF (x.steps.length+bF aQ x.steps) (bT (ar x.right) (bT (ar x.left) left))
 have fz:=eF ((ar x.left)+(ar x.right)+(x.steps.length+bF aQ x.steps)) left
 refine⟨?_,λ _=>⟨λ _=>?_,λ _=>⟨?_,λ _=>⟨λ _=>?_,λ _ _=>⟨?_,λ _=>⟨λ _=>?_,λ _=>?_⟩⟩⟩⟩⟩⟩
 all_goals try and_intros
 all_goals try rw[Nl]
 all_goals first|rfl|trivial|omega|(simp only[a8p,a8q,aw,O,cr,cW,cH,br] at *;omega)|(simp[aw,O] at *;omega)|grind
theorem Kj:aJ.Good nL:=OJ ⟨Mi,B8,trivial⟩
def mc:aJ:=⟨ud,[.v (.slice (.st .claim)), .v (.int .i64)],λ (xs:List ae) (left:Int)=>⟨(some (0<=left/\left<=1048576),[⟨(.int .i64),bT (xs.length+bF bD xs) left⟩])⟩⟩
def Cv(xs:List ae)(left:Int):Nat->aH:=(λ zb=>if Nat.beq zb 0 then .mk (Nat) (λ k=>k<=xs.length/\(xs.length+bF bD (xs.take k):Int)<=left) (λ k=>xs.length - k) [] [2,3,6,7,8,9,10,11] (λ k=>[(5, .aW ⟨(.int .i64),((k:Int):Int)⟩),(1, .aW ⟨(.int .i64),(left - (xs.length+bF bD (xs.take k):Int):Int)⟩)]) [0,1,4,5,12,13,14,15,16,17,18,19,20,21,22,23,24,25,26] (λ k=>[]) [] [] (λ k=>λ _ => .none) else .none)
theorem NC(xs:List ae)(left:Int):ck (aL [nL]) (au jh) (Cv xs left) 0 (bg (aL [nL]) jh λ r=>bp r [⟨(.int .i64),bT (xs.length+bF bD xs) left⟩]) (aD jh [.val ⟨(.slice (.st .claim)),xs⟩, .val ⟨(.int .i64),left⟩]) =
 ((O ((xs.length:Int)) ->
 (O (left - ((xs.length:Int)))/\(((decide ((left - ((xs.length:Int)))<(0:Int)))=true ->
 (-1:Int)=(bT (xs.length+bF bD xs) left))/\((decide ((left - ((xs.length:Int)))<(0:Int)))=false ->
 ((∃ k1:Nat,((k1<=xs.length/\(xs.length+bF bD (xs.take k1):Int)<=left)/\((xs=xs/\((left - ((xs.length:Int)))=(left - (xs.length+bF bD (xs.take k1):Int))/\((0:Int)=(k1:Int)/\True)))/\True)))/\(∀ k1:Nat,((k1<=xs.length/\(xs.length+bF bD (xs.take k1):Int)<=left) ->
 (O ((xs.length:Int)) ->
 (((decide ((k1:Int)<((xs.length:Int))))=true ->
 (aw (k1:Int) xs.length/\((0<=(left - (xs.length+bF bD (xs.take k1):Int))/\(left - (xs.length+bF bD (xs.take k1):Int))<=1048576)/\(O (bT (bD (xs.getD k1 (ae.mk zE zE (0:Int) (0:Int) []))) (left - (xs.length+bF bD (xs.take k1):Int))) ->
 (((decide ((bT (bD (xs.getD k1 (ae.mk zE zE (0:Int) (0:Int) []))) (left - (xs.length+bF bD (xs.take k1):Int)))<(0:Int)))=true ->
 (-1:Int)=(bT (xs.length+bF bD xs) left))/\((decide ((bT (bD (xs.getD k1 (ae.mk zE zE (0:Int) (0:Int) []))) (left - (xs.length+bF bD (xs.take k1):Int)))<(0:Int)))=false ->
 (O ((k1:Int)+(1:Int))/\(∃ k2:Nat,((k2<=xs.length/\(xs.length+bF bD (xs.take k2):Int)<=left)/\(xs.length - k2<xs.length - k1/\((xs=xs/\((bT (bD (xs.getD k1 (ae.mk zE zE (0:Int) (0:Int) []))) (left - (xs.length+bF bD (xs.take k1):Int)))=(left - (xs.length+bF bD (xs.take k2):Int))/\(((k1:Int)+(1:Int))=(k2:Int)/\True)))/\True)))))))))))/\((decide ((k1:Int)<((xs.length:Int))))=false ->
 (left - (xs.length+bF bD (xs.take k1):Int))=(bT (xs.length+bF bD xs) left)))))))))))):=by kernel_rfl
theorem MU(hE:aG [nL]):aJ.Good mc:=by
 refine⟨aA zA rfl (by decide),?_⟩
 show ∀ (xs:List ae) (left:Int),(0<=left/\left<=1048576)->bh prog ud [.val ⟨(.slice (.st .claim)),xs⟩, .val ⟨(.int .i64),left⟩] (·=[⟨(.int .i64),bT (xs.length+bF bD xs) left⟩])
 intro xs left hp
 refine aM (wr:=[]) (cl:=[]) (ro:=[]) hE zA HZ (Cv xs left) ?_
 rewrite [NC xs left]
 have f0:=eF (xs.length+bF bD xs) left
 have f1:=xp bD xs
 refine λ _=>⟨?_,λ _=>?_,λ _=>⟨⟨0,?_,⟨rfl,?_,?_,trivial⟩,trivial⟩,λ k1 _=>have a4q:=oj bD (ae.mk zE zE (0:Int) (0:Int) []) xs k1;have a4r:=dG bD xs k1;have a4s:=dG bD xs (k1+1);have a4t:=tp bD xs k1;have a4u:=eF (bD (xs.getD k1 (ae.mk zE zE (0:Int) (0:Int) []))) (left - (xs.length+bF bD (xs.take k1):Int));λ _=>⟨λ _=>⟨?_,?_,λ _=>⟨λ _=>?_,λ _=>⟨?_,k1+1,?_,?_,⟨rfl,?_,?_,trivial⟩,trivial⟩⟩⟩,λ _=>?_⟩⟩⟩
 all_goals try and_intros
 all_goals first|rfl|trivial|omega|(simp only[a8p,a8q,aw,O,cr,cW,cH,br] at *;omega)|(simp[aw,O] at *;omega)|grind
theorem Ij:aJ.Good mc:=MU ⟨Kj,trivial⟩
def fV(x:av):Nat:=(x.U.length+bF bD x.U)
theorem Nn(x:av):fV x=(x.U.length+bF bD x.U):=rfl
def nM:aJ:=⟨wa,[.v (.st .proof), .v (.int .i64)],λ (x:av) (left:Int)=>⟨(some (0<=left/\left<=1048576),[⟨(.int .i64),bT (fV x) left⟩])⟩⟩
def Et(x:av)(left:Int):Nat->aH:=λ _ => .none
theorem Pk(x:av)(left:Int):ck (aL [mc] [] [] [2]) (au kc) (Et x left) 0 (bg (aL [mc] [] [] [2]) kc λ r=>bp r [⟨(.int .i64),bT (fV x) left⟩]) (aD kc [.val ⟨(.st .proof),x⟩, .val ⟨(.int .i64),left⟩]) =
 ((x.U.length<=140737488355328 ->
 ((0<=left/\left<=1048576)/\(O (bT (x.U.length+bF bD x.U) left) ->
 (((decide ((bT (x.U.length+bF bD x.U) left)<(0:Int)))=true ->
 (-1:Int)=(bT (fV x) left))/\((decide ((bT (x.U.length+bF bD x.U) left)<(0:Int)))=false ->
 (bT (x.U.length+bF bD x.U) left)=(bT (fV x) left))))))):=by kernel_rfl
theorem OL(hE:aG [mc]):aJ.Good nM:=by
 refine⟨aA BF rfl (by decide),?_⟩
 show ∀ (x:av) (left:Int),(0<=left/\left<=1048576)->bh prog wa [.val ⟨(.st .proof),x⟩, .val ⟨(.int .i64),left⟩] (·=[⟨(.int .i64),bT (fV x) left⟩])
 intro x left hp
 refine aM (wr:=[]) (cl:=[]) (ro:=[2]) hE BF JO (Et x left) ?_
 rewrite [Pk x left]
 have f0:=eF (x.U.length+bF bD x.U) (left)
 have fz:=eF ((x.U.length+bF bD x.U)) left
 refine λ _=>⟨?_,λ _=>⟨λ _=>?_,λ _=>?_⟩⟩
 all_goals try and_intros
 all_goals try rw[Nn]
 all_goals first|rfl|trivial|omega|(simp only[a8p,a8q,aw,O,cr,cW,cH,br] at *;omega)|(simp[aw,O] at *;omega)|grind
theorem Kl:aJ.Good nM:=OL ⟨Ij,trivial⟩
end
end Go.Proofs.YtmjfpcajohhbeaaGreatDoor

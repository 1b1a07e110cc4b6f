/- VmMix, VmDraw4, VmGuard, VmCode, VmFun, VmOwnFun, VmStFun, VmTab, VmNew, VmUse, VmOpen, VmRow, VmLib, VmSz, VmTo, VmEq. -/
import Derived.Test.YtaaamahdcpcofaaDoorVmFrz
import Derived.Deep.LoopGhost
import Derived.Test.YtaaamahdcpcofaaDoorChecked
import Derived.Test.YtaaamahdcpcofaaDoorRows
import Derived.WalkKit
import Derived.ProofKit
import Derived.OpenShut
import Derived.JoinedCond
import Derived.Carry
import Derived.ChangeSame
import Derived.Shelf.Vars
set_option linter.all false
namespace Go.Proofs.YtaaamahdcpcofaaDoor
def a5x:=@List.map_congr_left
def a4j:=@List.not_mem_nil
def a5o:=@or_false
def a4X:=@forall_eq_or_imp
def a2P:=@Array.getElem?_eq_none
def a1L:=@decide_eq_false_iff_not
def a3a:=@List.mem_filterMap
def a4L:=@List.foldl_nil
def a4k:=@Nat.blt_eq
def a1Z:=@true_and
def a4Y:=@List.filter_cons
def a3l:=@List.mem_of_mem_erase
def a5p:=@List.perm_cons_erase
def a4l:=@List.Sublist.map
def a4N:=@List.erase_sublist
def a3O:=@List.mem_erase_of_ne
def a4Z:=@Option.isSome_iff_exists
def a4C:=@List.any_eq_true
def a5q:=@Bool.or_eq_false_iff
def a1O:=@Bool.not_false
def a2U:=@Bool.true_and
def a5y:=@List.filter_sublist
def a5u:=@Go.Op.move.injEq
def a4H:=@Go.Operand.const.injEq
def a1Q:=@Bool.not_true
def a4M:=@Go.wp_mono
def a5l:=@Array.getElem?_toList
def a5g:=@Go.calls_of_wp
def a3P:=@Array.mapM_eq_mapM_toList
def a5C:=@Go.Sem.run_map
def a4O:=@Array.getElem?_append_left
def a3S:=@List.getD_cons_succ
def a4m:=@Bool.and_eq_true_iff
def a2Q:=@Bool.not_eq_false'
def a2s:=@Nat.not_lt_zero
def a2l:=@Nat.lt_succ_self
theorem vi{α β:Type}{f g:α->β}{l:Array α}(h:∀ x∈l.toList,f x=g x):l.map f=l.map g:=by
 apply a5m
 rw[a3H,a3H]
 exact a5x h
theorem execOp_congr{o:Oper}{ρ WQ:Operand->Value}{l:List Operand}(h:PG o.op=some l)(he:∀ x∈l,ρ x=WQ x):execOp ρ o=execOp WQ o:=by
 have parts:∀ ps:Array (Nat×Operand),l=ps.toList.map (·.2)->(ps.map λ (i,x)=>(i,ρ x))=ps.map λ (i,x)=>(i,WQ x):=λ ps hl=>vi λ x hx=>by
  obtain⟨i,x⟩:=x
  simp only
  rw[he x (by rw[hl];exact a1D.2 ⟨(i,x),hx,rfl⟩)]
 unfold PG at h
 split at h
 case h_20=>cases h
 case h_18 c bl =>
  split at h
  case h_3=>cases h
  case h_1 f hc =>
   simp only[a1w] at h
   subst h
   have ha:c.args.map ρ=c.args.map WQ:=vi λ x hx=>he x (by simp[hx])
   simp only[execOp,bl,resolve,hc,ha,he f (by simp)]
  case h_2 b hc =>
   simp only[a1w] at h
   subst h
   have ha:c.args.map ρ=c.args.map WQ:=vi λ x hx=>he x hx
   simp only[execOp,bl,resolve,hc,ha]
 all_goals
  rename_i bl
  simp only[a1w] at h
  first
   | (have:=parts _ h.symm;simp only[execOp,bl,this];done)
   | (subst h;simp only[execOp,bl];done)
   | (subst h;simp only[execOp,bl,a4F];done)
   | (subst h;simp only[a1N,a4j,a5o,a4X,forall_eq] at he;simp only[execOp,bl,he];done)
   | (subst h;simp only[a1N,a4j,a5o,a4X,forall_eq] at he;simp only[execOp,bl,he.1,he.2];done)
   | (subst h;simp only[a1N,a4j,a5o,a4X,forall_eq] at he;simp only[execOp,bl,he.1,he.2.1,he.2.2];done)
theorem RD{u v:TV}(h:vy u v):u=v:=by
 unfold vy at h
 split at h
 .rename_i x hx
  have:=TV.aX hx
  rw[this,h]
 .exact h.elim
theorem Jd{v u:AV}(h:FU v u):v=u:=by
 unfold FU at h
 split at h
 .rw[RD h]
 .rw[RD h]
 .rw[h]
 .rw[h]
 .rw[h.1,h.2]
 .rfl
 .rfl
 .exact h.elim
theorem Co{c:Ctx}{G:Gh}{lk:Nat->Option au}{a:Act}{w:World}{o:Oper}{v:AV}{x:Value}(hr:(execOp a.eval o).run c.P w = .ok (.value x) w)(hv:VR c G lk w v x) :
  ∃ x,(execOp a.eval o).run c.P w = .ok (.value x) w/\VR c G lk w v x:=⟨x,hr,hv⟩
theorem SQ{c:Ctx}{G:Gh}{sl:Nat->AV}{n:Nat}{lk:Nat->Option au}{a:Act}{w:World}(hE:bD c.P c.E)(hI:bc c G sl n lk a w){lk':Nat->Option au}(cu:∀ id o,lk' id=some o->lk id=some o){ev:Operand->AV}(c8:∀ x,VR c G lk w (ev x) (a.eval x))
  {o:Oper} {vc:Vc} {v:AV} {ob:Option au} (hq:Fm c.E lk' ev o=some (vc,v,ob)) (fi:vc.ok) (Pl:reads o.op=true) :
  ∃ x,(execOp a.eval o).run c.P w = .ok (.value x) w/\VR c G lk w v x:=by
 unfold Fm at hq
 split at hq
 case h_1 x bl =>
  simp only[a1w,a1y] at hq
  obtain⟨rfl,rfl,rfl⟩:=hq
  exact Co (by simp[execOp,bl]) (c8 x)
 case h_8 T ad bl =>
  split at hq
  .rename_i τ r hT
   split at hq
   .rename_i u hu
    simp only[a1w,a1y] at hq
    obtain⟨rfl,rfl,rfl⟩:=hq
    obtain⟨b,o',cs,h1,h2,h3,h4⟩:=rm hI.aC cu hu (c8 ad)
    refine Co ?_ h4
    simp only[execOp,bl,h1,a2h,qH hE hT h2 h3,a1U,a2i]
   .cases hq
  .cases hq
 case h_9 x bl =>
  have key:∀ u,ev x=u->(∃ b o,a.eval x = .pointer (some ⟨b,o,none⟩))->vc = .none->v=u->ob=none->∃ x,(execOp a.eval o).run c.P w = .ok (.value x) w/\VR c G lk w v x:=by
   rintro u hu ⟨b,o',hx⟩ _ rfl rfl
   refine Co (x:=a.eval x) ?_ (hu ▸ c8 x)
   simp only[execOp,bl,hx,a2i]
  have hx:=c8 x
  split at hq
  .rename_i u hu
   simp only[a1w,a1y] at hq
   rw[hu] at hx
   obtain⟨b,o',cs,h1,_⟩:=hx
   exact key _ hu ⟨b,o',h1⟩ hq.1.symm hq.2.1.symm hq.2.2.symm
  .rename_i id off hu
   simp only[a1w,a1y] at hq
   rw[hu] at hx
   obtain⟨b,_,h1,_⟩:=hx
   exact key _ hu ⟨b,off,h1⟩ hq.1.symm hq.2.1.symm hq.2.2.symm
  .rename_i id i off hu
   simp only[a1w,a1y] at hq
   rw[hu] at hx
   obtain⟨b,_,_,_,_,_,_,_,_,h1⟩:=hx
   exact key _ hu ⟨b,_,h1⟩ hq.1.symm hq.2.1.symm hq.2.2.symm
  .cases hq
 case h_10 T x i bl =>
  split at hq
  .rename_i s r hT
   have hx:=c8 x
   split at hq
   .rename_i u hu
    rw[hu] at hx
    split at hq
    .rename_i y hy
     have e:=TV.aX hy
     subst e
     split at hq
     .rename_i f hf
      simp only[a1w,a1y] at hq
      obtain⟨rfl,rfl,rfl⟩:=hq
      obtain⟨b,o',cs,h1,h2,h3,h4⟩:=hx
      have bC:i<s.jd.length:=by
       have:=(a2a.1 hf).1
       rw[<-aM.wg s y,a2J];exact this
      refine Co (x := .pointer (some ⟨b,o'+s.gF i,none⟩)) ?_ ?_
      .simp only[execOp,bl,h1,a2h,mg hE hT bC,a1U,a2i]
      .refine⟨b,o'+s.gF i,(cs.drop (s.gF i)).take f.τ.size,rfl,h2,h3.part _ _,?_⟩
       exact BA hf h4
     .cases hq
    .cases hq
   .rename_i id off hu
    rw[hu] at hx
    split at hq
    .rename_i bC
     simp only[a1w,a1y] at hq
     obtain⟨rfl,rfl,rfl⟩:=hq
     have bC:i<s.jd.length:=by simpa [Nat.blt_eq] using bC
     obtain⟨b,h1,h2,h3⟩:=hx
     refine Co (x := .pointer (some ⟨b,off+s.gF i,none⟩)) ?_ ⟨b,h1,rfl,h3⟩
     simp only[execOp,bl,h2,a2h,mg hE hT bC,a1U,a2i]
    .cases hq
   .rename_i id k off hu
    rw[hu] at hx
    split at hq
    .rename_i bC
     simp only[a1w,a1y] at hq
     obtain⟨rfl,rfl,rfl⟩:=hq
     have bC:i<s.jd.length:=by simpa [Nat.blt_eq] using bC
     obtain⟨b,m,cap,e,τ,xs,h1,h2,h3,h4⟩:=hx
     refine Co (x := .pointer (some ⟨b,k * τ.size+(off+s.gF i),none⟩)) ?_ ⟨b,m,cap,e,τ,xs,h1,h2,h3,rfl⟩
     simp only[execOp,bl,h4,a2h,mg hE hT bC,a1U,a2i,a4o]
    .cases hq
   .cases hq
  .cases hq
 case h_12 T x ix bl =>
  split at hq
  .rename_i τ r hT
   split at hq
   .rename_i k i hi
    have tD:=c8 ix
    rw[hi] at tD
    obtain⟨tD,_⟩:=tD
    simp only[a1C,a1H] at tD
    have hx:=c8 x
    split at hq
    .rename_i u hu
     rw[hu] at hx
     split at hq
     .rename_i xs oX
      have e:=TV.aX oX
      subst e
      simp only[a1w,a1y] at hq
      obtain⟨rfl,rfl,rfl⟩:=hq
      obtain⟨h0,h1⟩:=fi
      obtain⟨ad,cap,h2,h3,h4,h5⟩:=nS hx
      rcases h5 with h5|⟨b,o',h5,h6,h7⟩
      .subst h5
       simp only[a2b] at h1
       omega
      .subst h5
       have bC:i.toNat<xs.length:=by omega
       obtain⟨cs,m1,m2,m3⟩:=dJ.at_ (n:=τ.size) _ b o' h7 (by
        intro d hd
        obtain⟨y,_,rfl⟩:=a1D.1 hd
        exact Ty.cK τ y) i.toNat (τ.aT (xs.getD i.toNat τ.zero)) (by simp[List.getD,bC])
       refine Co (x := .pointer (some ⟨b,o'+i.toNat * τ.size,none⟩)) ?_ ⟨b,_,cs,rfl, .inl h6,m3,m2⟩
       simp only[execOp,bl,h2,tD,a2h,rC hE hT h0 h1,a1U,a2i]
     .cases hq
    .rename_i id hu
     rw[hu] at hx
     split at hq
     .rename_i e' aV xs hl
      split at hq
      .rename_i kZ
       have kZ:=a2d kZ
       subst kZ
       simp only[a1w,a1y] at hq
       obtain⟨rfl,rfl,rfl⟩:=hq
       obtain⟨h0,h1⟩:=fi
       obtain⟨h2,_,_⟩:=hx
       have oo:=cu _ _ hl
       obtain⟨l,m1,_,_⟩:=hI.aC _ _ oo
       have bC:i.toNat<xs.length:=by omega
       rcases m1.2 with ⟨_,hn⟩|⟨g,cap,cur,hv,_⟩
       .omega
       .refine Co (x := .pointer (some ⟨g,0+i.toNat * aV.size,none⟩)) ?_ ⟨g,_,cap,e',aV,xs,hv,oo,bC,by simp⟩
        simp only[execOp,bl,h2,hv,tD,a2h,rC hE hT h0 h1,a1U,a2i]
      .cases hq
     .cases hq
    .cases hq
   .cases hq
  .cases hq
 case h_24=>cases hq
 all_goals
  rename_i bl
  rw[bl] at Pl
  cases Pl
theorem MG{c:Ctx}{G:Gh}{s:ag}{a:Act}{w:World}(hE:bD c.P c.E)(h:Inv c G s a w){o:Oper}{vc:Vc}{v:AV}(hq:Uv c.E s o=some (vc,v))(fi:vc.ok) :
  ∃ x,(execOp a.eval o).run c.P w = .ok (.value x) w/\VR c G s.ae w v x:=by
 unfold Uv at hq
 split at hq
 .rename_i hr
  split at hq
  .rename_i vc' v' QO
   simp only[a1w,a1y] at hq
   obtain⟨rfl,rfl⟩:=hq
   exact SQ hE h (λ _ _ h=>h) (bf h) QO fi hr
  .cases hq
 .cases hq
theorem Je:∀ {v u:List AV},K0 v u->v=u
 | [],[],_=>rfl
 | a::Z9,b::bs,h=>by rw[Jd h.1,Je h.2]
 | [],_::_,h=>h.elim
 | _::_,[],h=>h.elim
theorem RL{v u:AV}(h:OO v u):v=u:=by
 unfold OO at h
 split at h
 .rw[Je h]
 .exact Jd h
structure oO(D:List Nat)(a b:Act):Prop where
 size:a.tmps.size=b.tmps.size
 da:a.defers=[]
 db:b.defers=[]
 at':∀ t,t∉D->a.tmps.getD t undef=b.tmps.getD t undef
theorem oO.put{D D':List Nat}{a b:Act}(h:oO D a b){d:Option Nat}{x:Value}(hD:∀ t,t∈D->t∉D'->d=some t):oO D' (a.put d x) (b.put d x) where
 size:=by cases d<;>simp[Act.put,h.size]
 da:=by cases d<;>exact h.da
 db:=by cases d<;>exact h.db
 at' t ht:=by
  rw[eJ,eJ,h.size]
  by_cases hd:d=some t
  .by_cases hl:t<b.tmps.size
   .rw[a1S ⟨hd,hl⟩,a1S ⟨hd,hl⟩]
   .rw[a1B (λ q=>hl q.2),a1B (λ q=>hl q.2)]
    have h1:a.tmps.getD t undef=undef:=by rw[a2f,a2P (by rw[h.size];omega)];rfl
    have h2:b.tmps.getD t undef=undef:=by rw[a2f,a2P (by omega)];rfl
    rw[h1,h2]
  .rw[a1B (λ q=>hd q.1),a1B (λ q=>hd q.1)]
   refine h.at' t λ hm=>hd (hD t hm ht)
theorem oO.exec{D:List Nat}{a b:Act}(h:oO D a b){o:Oper}(hu:ik D o=true):execOp a.eval o=execOp b.eval o:=by
 unfold ik at hu
 split at hu
 .rename_i l hl
  rw[a2e] at hu
  refine execOp_congr hl λ x hx=>?_
  have:=hu x hx
  cases x with
  | tmp t=>exact h.at' t (by simpa using this)
  | _=>rfl
 .cases hu
theorem oG{D D':List Nat}{o:Oper}(h:ik D o=true)(hs:∀ t∈D',t∈D):ik D' o=true:=by
 unfold ik at h ⊢
 split at h
 .rename_i l hl
  rw[a2e] at h ⊢
  intro x hx
  have:=h x hx
  cases x with
  | tmp t =>
   simp only[a2k,List.contains_eq_mem,a1L] at this ⊢
   exact λ q=>this (hs t q)
  | _=>rfl
 .cases h
section
variable {c:Ctx} {G:Gh} {s:ag} {a:Act} {w w':World}
theorem UH{P:Program}{o:Oper}{b:Act}{N N':Act->World->Prop}{Q:Exit->Act->World->Prop}(he:execOp a.eval o=execOp b.eval o)(hN:∀ x w',N (b.put o.dst x) w'->N' (a.put o.dst x) w')
  (hd:∀ b' w',N b' w'->b'.defers=[]) (h:o.wp P b w N (λ _ _ _=>False)):o.wp P a w N' Q:=by
 unfold Oper.wp at *
 rw[he]
 generalize (execOp b.eval o).run P w=r at *
 cases r with
 | ok n w' =>
  cases n<;>simp only[Oper.upon] at h ⊢
  case value v=>exact hN _ _ h
  case skip=>exact hN _ _ h
  case defer d =>
   have:=hd _ _ h
   cases hh:o.dst<;>simp[Act.put,hh] at this
  case enter f args=>exact Calls.mono h (λ e w'' q=>by cases e<;>first|exact hN _ _ q|exact q.elim λ _ q=>q.elim λ _ q=>q.elim|exact q.elim)
  case row r args=>exact Rows.mono h (λ _ _ q=>hN _ _ q)
 | halt x w'=>cases x<;>simp only[Oper.upon] at h ⊢
theorem exists_least{p:Nat->Prop}:∀ n,p n->∃ k,p k/\∀ j,j<k->¬ p j:=by
 intro n
 induction n using Nat.strongRecOn with
 | _ n ih =>
  intro h
  by_cases hq:∃ j,j<n/\p j
  .obtain⟨j,h1,h2⟩:=hq
   exact ih j h1 h2
  .exact⟨n,h,λ j hj hp=>hq ⟨j,hj,hp⟩⟩
theorem oO.eq{a b:Act}(h:oO [] a b):a=b:=by
 obtain⟨ta,da⟩:=a
 obtain⟨tb,db⟩:=b
 obtain⟨h1,h2,h3,h4⟩:=h
 simp only at h1 h2 h3 h4
 subst h2 h3
 congr 1
 apply Array.ext h1
 intro i hi hj
 have:=h4 i (by simp)
 simpa [Array.getD_eq_getD_getElem?,Array.getElem?_eq_getElem hi,Array.getElem?_eq_getElem hj] using this
theorem iJ{R:List (Nat×Oper)}{t:Nat}:t∈dstsOf R↔∃ r∈R,r.2.dst=some t:=by
 simp[dstsOf,a3a]
theorem Ux(h:Inv c G s a w){d:Nat}{x:Value}(hv:VR c G s.ae w (s.ar.getD d .any) x):Inv c G s (a.put (some d) x) w:=by
 have:=bc.put (d:=some d) h hv
 unfold Inv
 have e:lN s.ar.length s.sl (some d) (s.ar.getD d .any)=s.sl:=by
  funext i
  unfold lN
  split
  .rename_i hi
   obtain⟨h1,_⟩:=hi
   simp only[a1w] at h1
   subst h1
   rfl
  .rfl
 rwa [e] at this
theorem mB{E:Env}{K:Prop}:∀ {R:List (Nat×Oper)},jj E R s K->(∀ r∈R,∃ d vc,r.2.dst=some d/\Uv E s r.2=some (vc,s.ar.getD d .any)/\Vc.ok vc)/\K
 | [],h=>⟨by simp,h⟩
 | r::rs,h=>by
  simp only[jj] at h
  split at h
  .rename_i d vc v hd hr
   have h1:=Vc.lO h
   obtain⟨k1,k2⟩:=mB h1.2.2
   refine⟨λ q hq=>?_,k2⟩
   rcases a1N.1 hq with rfl|hq
   .exact⟨d,vc,hd,by rw[hr,RL h1.2.1],h1.1⟩
   .exact k1 q hq
  .exact h.elim
theorem JB(hE:bD c.P c.E){K:ag->Prop}:∀ {R:List (Nat×Oper)} {s:ag} {a:Act},Inv c G s a w->FW c.E R K s->∃ t b,Inv c G t b w/\oO (dstsOf R) a b/\K t
 | [],s,a,hI,h=>⟨s,a,hI,⟨rfl,hI.defers,hI.defers,λ _ _=>rfl⟩,h⟩
 | r::rs,s,a,hI,h=>by
  simp only[FW] at h
  split at h
  .rename_i d vc v hd hr
   have h1:=Vc.lO h
   obtain⟨x,_,hx⟩:=MG hE hI hr h1.1
   obtain⟨t,b,k1,k2,k3⟩:=JB hE (Inv.put (d:=some d) hI hx) (CN hx h1.2)
   refine⟨t,b,k1,⟨by rw[<-k2.size];simp[Act.put],hI.defers,k2.db,λ i hi=>?_⟩,k3⟩
   have fP:d≠i:=λ e=>hi (iJ.2 ⟨r,by simp,by rw[hd,e]⟩)
   rw[<-k2.at' i λ hm=>hi (by
    obtain⟨q,hq,Zl⟩:=iJ.1 hm
    exact iJ.2 ⟨q,by simp[hq],Zl⟩),eJ,if_neg (λ q=>fP (by simpa using q.1))]
  .exact h.elim
theorem PM{E:Env}{o:Oper}{K:ag->Prop}{T:TypeId}{d:Nat}{τ:Ty}{r:Nat×Nat}(bl:o.op = .alloc T)(hd:o.dst=some d)(hT:ae E.ty T=some (τ,r)) :
  mP E o K s↔(d<400000/\K (s.lay (some d) (.ptr d 0) (some (.box (zeroCells τ))))):=by
 have h1:mN E s o=[]:=by
  unfold mN
  rw[bl]
  split<;>rfl
 have h2:OT E s o=none:=by
  unfold OT
  rw[hd,bl]
  simp only
  split<;>rfl
 have h3:OY E s o=none:=by unfold OY;rw[bl]
 have h4:PD E s o=none:=by unfold PD;rw[bl]
 obtain⟨r1,r2⟩:=r
 have h5:Fm E s.ae s.eval o=some (.none, .ptr d 0,some (.box (zeroCells τ))):=by
  unfold Fm
  rw[bl]
  simp only[hd,hT]
 unfold mP
 have h6:PN E s o=none:=by unfold PN;rw[hd,bl]
 have h7:Px E s o=none:=by unfold Px;rw[bl]
 simp only[h1,a4L,h6,h2,h3,h4,h7,h5,Vc.and,bl,MT,hd,tz]
 cases hb:Nat.blt d 400000 with
 | true=>simp only[a4k] at hb;simp[hb]
 | false=>simp only[Bool.eq_false_iff,ne_eq,a4k] at hb;simp[hb]
structure PE where
 i:Nat
 d:Nat
 x:Value
 b:Nat
 cs:List AV
noncomputable instance:DecidableEq PE:=λ _ _=>Classical.propDecidable _
structure yY(c:Ctx)(G:Gh)(lk:Nat->Option au)(X:List (Nat×Oper))(a:Act)(w:World)(p:PE):Prop where
 ex:∃ o T τ r,(p.i,o)∈X/\o.op = .alloc T/\o.dst=some p.d/\ae c.E.ty T=some (τ,r)/\p.cs=zeroCells τ
 val:a.tmps.getD p.d undef=if p.d<a.tmps.size then p.x else undef
 ptr:p.x = .pointer (some ⟨p.b,0,none⟩)
 lt:p.d<400000
 new:∃ l t,w.heap[p.b]?=some (.cells l.toArray t (0,0))/\∀ (c:Ctx) (G:Gh) (lk:Nat->Option au) (w:World),aJ (C1 c G lk w) p.cs l
 fr:tX c G lk w p.b
theorem yY.put{lk:Nat->Option au}{X:List (Nat×Oper)}{p:PE}(h:yY c G lk X a w p){d:Option Nat}{x:Value}(hd:d≠some p.d):yY c G lk X (a.put d x) w p :=
 ⟨h.ex,by rw[eJ,a1B (λ q=>hd q.1),ig];exact h.val,h.ptr,h.lt,h.new,h.fr⟩
theorem RH(h:Inv c G s a w){p:PE}{X:List (Nat×Oper)}{a2:Act}(hp:yY c G s.ae X a2 w p) :
  Inv c ⟨G.S,λ i=>if i=p.d then p.x else G.η i,G.φ⟩ (s.lay (some p.d) (.ptr p.d 0) (some (.box p.cs))) (a.put (some p.d) p.x) w:=by
 obtain⟨l,t,h1,h2⟩:=hp.new
 refine Inv.Tl h hp.lt ⟨p.b,l,t,hp.ptr,h1,h2 _ _ _ _⟩ ⟨_,rfl,rfl⟩ λ b hb=>?_
 rw[hp.ptr] at hb
 simp only[fe,a1w] at hb
 subst hb
 obtain⟨q1,q2,q3,q4,q5⟩:=hp.fr
 exact⟨q1,q2,q3,λ i o' _ ho=>q4 i o' ho,q5⟩
theorem RF{p:PE}{X:List (Nat×Oper)}{a2:Act}(hp:yY c G s.ae X a2 w p){b:Nat}(hb:tX c G s.ae w b)(fP:b≠p.b) :
  tX c ⟨G.S,λ i=>if i=p.d then p.x else G.η i,G.φ⟩ (s.lay (some p.d) (.ptr p.d 0) (some (.box p.cs))).ae w b:=by
 have cu:(s.lay (some p.d) (.ptr p.d 0) (some (.box p.cs))).ae=λ i=>if i=p.d then some ((au.box p.cs).kill p.d) else (if i=p.d then none else (s.b8 p.d).ae i):=by
  funext i
  show ae ((p.d,(au.box p.cs).kill p.d)::bK p.d (s.b8 p.d).aC) i=_
  rw[dM,fj]
  rfl
 obtain⟨q1,q2,q3,q4,q5⟩:=hb
 rw[cu]
 refine⟨q1,q2,q3,λ i o ho e=>?_,λ j τ xs hj oT=>?_⟩
 .by_cases hi:i=p.d
  .simp only[a1S hi] at e
   rw[hp.ptr] at e
   simp only[fe,a1w] at e
   exact fP e.symm
  .simp only[a1B hi] at e ho
   rw[eU] at ho
   simp only[a2r] at ho
   obtain⟨o',cF,_⟩:=ho
   exact q4 i o' cF e
 .by_cases hi:j=p.d
  .simp only[a1S hi] at hj
   cases hj
  .simp only[a1B hi] at hj
   rw[eU] at hj
   exact q5 j τ xs (lv hj) oT
theorem OW(hE:bD c.P c.E)(h:Inv c G s a w){a2:Act}{o:Oper}{T:TypeId}{d i:Nat}{τ:Ty}{r:Nat×Nat}(bl:o.op = .alloc T)(hd:o.dst=some d)(hT:ae c.E.ty T=some (τ,r))(EV:d<400000){X:List (Nat×Oper)}(hX:(i,o)∈X) :
  ∃ w' p,p.i=i/\p.d=d/\p.b=w.heap.size/\(execOp a2.eval o).run c.P w = .ok (.value p.x) w'/\Inv c G s a w'/\yY c G s.ae X (a2.put (some d) p.x) w' p/\cP (λ _=>False) w w':=by
 obtain⟨r1,r2⟩:=r
 obtain⟨inf,z,h1,h2,h3,h4⟩:=(hE.info hT).ex
 refine⟨w.alloc (.cells z.cells T),⟨i,d, .pointer (some ⟨w.heap.size,0,none⟩),w.heap.size,zeroCells τ⟩,rfl,rfl,rfl,?_,h.alloc _,?_,iC w _⟩
 .simp[execOp,bl,Instr.alloc,zeroValue,typeInfo,h1,h3,newVar,newRow]
 .refine⟨⟨o,T,τ,_,hX,bl,hd,hT,rfl⟩,?_,rfl,EV,⟨z.cells.toList,T,by simpa using heap_alloc_new w _,λ _ _ _ _=>mC h4⟩,?_⟩
  .simp only[eJ,ig,a1Z]
   split
   .rfl
   .rename_i bC
    first|rfl|(rw[a2f,a2P (by omega)];rfl)
  .refine⟨.inl h.aQ.size,λ q=>by have:=h.ed _ q;simp only at this;omega,by simp,λ j o' hj hb=>by have:=(h.place j o' _ hj hb).2.2;simp only at this;omega,λ j τ xs hj hb=>by have:=(h.aI.pl j τ xs _ hj hb).2.2.1;simp only at this;omega⟩
theorem Nl{E:Env}{o:Oper}(h:Hp E o=true):reads o.op=true:=by
 unfold Hp at h
 rw[a1z] at h
 exact h.1
theorem AN{op:Op}(h:reads op=true):dR op=false:=by
 cases op<;>first|rfl|cases h
theorem DZ(bW:List Nat)(x:Nat×Oper):∀ l,(GU bW x l).Perm (x::l)
 | [] => .refl _
 | y::ys=>by
  unfold GU
  split
  .exact .refl _
  .exact ((DZ bW x ys).cons y).trans (.swap x y ys)
theorem lK(bW:List Nat):∀ l,(E7 bW l).Perm l
 | [] => .refl _
 | x::xs=>by
  unfold E7
  split
  .exact (DZ bW x _).trans ((lK bW xs).cons x)
  .exact (lK bW xs).cons x
structure XE where
 i:Nat
 d:Nat
 x:Value
 o:Oper
noncomputable instance:DecidableEq XE:=λ _ _=>Classical.propDecidable _
structure TC(P:Program)(X:List (Nat×Oper))(a:Act)(e:XE):Prop where
 mem:(e.i,e.o)∈X
 dst:e.o.dst=some e.d
 val:a.tmps.getD e.d undef=if e.d<a.tmps.size then e.x else undef
 run:(lW e.o.op=true/\∀ w,(execOp a.eval e.o).run P w = .ok (.value e.x) w)\/(wv e.o.op=true/\∃ p,e.x = .slice p 0 0)
theorem TC.lz{P:Program}{X:List (Nat×Oper)}{a:Act}{e:XE}(h:TC P X a e):dR e.o.op=true:=by
 rcases h.run with ⟨q,_⟩|⟨q,_⟩<;>simp[dR,q]
theorem G9{op:Op}(h:wv op=true):∃ T,op = .buildSlice T 0 #[]:=by
 unfold wv at h
 split at h
 .rename_i T len ps
  simp only[a1z] at h
  have h1:=a1x h.1
  have h2:ps = #[]:=a3W (a1x h.2)
  exact⟨T,by rw[h1,h2]⟩
 .cases h
theorem SY{o:Oper}(h:wv o.op=true)(D:List Nat):ik D o=true:=by
 obtain⟨T,h⟩:=G9 h
 simp[ik,PG,h]
theorem TC.put{P:Program}{X:List (Nat×Oper)}{e:XE}(h:TC P X a e)(TW:a.defers=[]){d:Option Nat}{x:Value}(hd:d≠some e.d)(hu:∀ t,d=some t->ik [t] e.o=true):TC P X (a.put d x) e :=
 ⟨h.mem,h.dst,by rw[eJ,a1B (λ q=>hd q.1),ig];exact h.val,h.run.imp (λ hr=>⟨hr.1,λ w=>by
  cases d with
  | none=>exact hr.2 w
  | some t =>
   have hA:oO [t] (a.put (some t) x) a:=⟨ig a _ x,by rw[lH];exact TW,TW,λ u hu=>by rw[eJ,if_neg (λ q=>hu (by simpa using q.1.symm))]⟩
   rw[hA.exec (hu t rfl)]
   exact hr.2 w⟩) id⟩
theorem O0(h:Inv c G s a w){o:Oper}{t:Operand}{i:Nat}(bl:o.op = .extract t i)(hc:we s o.op=true):∃ x,∀ w',(execOp a.eval o).run c.P w' = .ok (.value x) w':=by
 rw[bl] at hc
 simp only[we] at hc
 split at hc
 .rename_i vs hv
  have hx:=bf h t
  rw[hv] at hx
  obtain⟨l,h1,h2⟩:=hx
  have bC:i<l.length:=by rw[<-h2.length];exact a2n hc
  refine⟨l[i],λ w'=>?_⟩
  have h3:l[i]?=some l[i]:=a2m bC
  simp[execOp,bl,Instr.extract,h1,h3]
 .cases hc
theorem MH{E:Env}{o:Oper}{K:ag->Prop}{t:Operand}{i d:Nat}(bl:o.op = .extract t i)(hd:o.dst=some d)(hr:mP E o K s) :
  ∃ vs v,s.eval t = .kr vs/\vs[i]?=some v/\known v (K (s.put (some d) v)):=by
 have h1:mN E s o=[]:=by
  unfold mN
  rw[bl]
  split<;>rfl
 have h2:OT E s o=none:=by
  unfold OT
  rw[hd,bl]
  simp only
  split<;>rfl
 have h3:OY E s o=none:=by unfold OY;rw[bl]
 have h4:PD E s o=none:=by unfold PD;rw[bl]
 have h6:PN E s o=none:=by unfold PN;rw[hd,bl]
 have h7:Px E s o=none:=by unfold Px;rw[bl]
 unfold mP at hr
 split at hr
 .exact hr.elim
 simp only[h1,a4L,h6,h2,h3,h4,h7] at hr
 split at hr
 .rename_i vc v ob hq
  unfold Fm at hq
  rw[bl] at hq
  simp only at hq
  split at hq
  .rename_i vs hv
   split at hq
   .rename_i u hu
    simp only[a1w,a1y] at hq
    obtain⟨rfl,rfl,rfl⟩:=hq
    refine⟨vs,u,hv,hu,?_⟩
    simpa [Vc.and,bl,MT,hd,ag.lay] using hr
   .cases hq
  .cases hq
 .exact hr.elim
theorem O1(h:Inv c G s a w){o:Oper}{t:Operand}{i:Nat}(bl:o.op = .extract t i){vs:List AV}{v:AV}(h1:s.eval t = .kr vs)(h2:vs[i]?=some v){x:Value}(hx:(execOp a.eval o).run c.P w = .ok (.value x) w):VR c G s.ae w v x:=by
 have hv:=bf h t
 rw[h1] at hv
 obtain⟨l,k1,k2⟩:=hv
 obtain⟨y,k3,k4⟩:=k2.at_ i v h2
 have:(execOp a.eval o).run c.P w = .ok (.value y) w:=by simp[execOp,bl,Instr.extract,k1,k3]
 rw[this] at hx
 simp only[Result.ok.injEq,Next.value.injEq,a1H] at hx
 subst hx
 cases v<;>first|exact k4|exact k4.elim|trivial
theorem Rk{E:Env}{o:Oper}{K:ag->Prop}{d:Nat}(hn:wv o.op=true)(ha:qN E o=true)(hd:o.dst=some d)(hr:mP E o K s) :
  ∃ τ,K (s.put (some d) (.az ⟨.slice τ,[]⟩)):=by
 obtain⟨T,bl⟩:=G9 hn
 unfold qN at ha
 simp only[bl,hd] at ha
 split at ha
 .rename_i d' τ r xc hT
  simp only[a1w] at xc
  subst xc
  have ha:Nat.blt d 400000=true/\E.ro.contains d=true/\E.own.contains d=false:=by
   have ha:(Nat.blt d 400000&&(E.ro.contains d && !E.own.contains d))=true:=ha
   simp only[a1z,a2k] at ha
   exact⟨ha.1,ha.2.1,ha.2.2⟩
  obtain⟨h4,hro,sY⟩:=ha
  have h1:mN E s o=[]:=by
   unfold mN
   simp only[hd,sY,bl]
   simp
  have h2:OT E s o=none:=by
   unfold OT
   simp only[hd,sY]
  have h3:OY E s o=none:=by unfold OY;rw[bl]
  have h4':PD E s o=none:=by unfold PD;rw[bl]
  have h6:PN E s o=none:=by unfold PN;rw[hd,bl]
  have h7:Px E s o=none:=by unfold Px;rw[bl]
  obtain⟨r1,r2⟩:=r
  have h8:Fm E s.ae s.eval o=some (.none, .az ⟨.slice τ,[]⟩,none):=by
   unfold Fm
   rw[bl]
   simp only[hd,hT,hro]
   rfl
  unfold mP at hr
  simp only[h1,a4L,h6,h2,h3,h4',h7,h8,Vc.and,bl,MT,hd,tz,h4] at hr
  exact⟨τ,hr⟩
 .simp at ha
theorem Qq(hE:bD c.P c.E)(h:Inv c G s a w){a2:Act}{o:Oper}{d:Nat}(hn:wv o.op=true)(ha:qN c.E o=true)(hd:o.dst=some d) :
  ∃ w' x,(execOp a2.eval o).run c.P w = .ok (.value x) w'/\Inv c G s a w'/\(∃ p,x = .slice p 0 0)/\cP (λ _=>False) w w':=by
 obtain⟨T,bl⟩:=G9 hn
 unfold qN at ha
 simp only[bl,hd] at ha
 split at ha
 .rename_i d' τ r xc hT
  obtain⟨r1,r2⟩:=r
  obtain⟨k1,_,inf,z,k2,k3,k4,k5,k6⟩:=hE.slice hT
  refine⟨w.alloc (.cells #[] r2), .slice (some ⟨w.heap.size,0,none⟩) 0 0,?_,h.alloc _,⟨_,rfl⟩,iC w _⟩
  have hz:(Array.range 0).map (λ _=>(default:Value)) = #[]:=by apply a3W;simp
  simp[execOp,bl,Instr.buildSlice,a2w k1,sizeOf,typeInfo,k2,Instr.fill,newRow,hz]
 .simp at ha
theorem nK{X:List (Nat×Oper)}{x:Nat×Oper}{t:Nat}(hx:x∈X)(ha:dR x.2.op=true)(hd:x.2.dst=some t):t∈sF X :=
 a3a.2 ⟨x,hx,by simp[ha,hd]⟩
theorem Ob{E:Env}{bW:List Nat}{n:Nat}{R:List (Nat×Oper)}{K:ag->Prop}{s:ag}:jM E bW n R [] K s=K s:=by cases n<;>rfl
theorem E9{E:Env}{bW:List Nat}{n:Nat}{R:List (Nat×Oper)}{x:Nat×Oper}{xs:List (Nat×Oper)}{K:ag->Prop}{s:ag}(h:jM E bW n R (x::xs) K s) :
  ∃ m,Pu bW (x::xs) s=true/\(((ik (dstsOf (R.filter λ r => !Nat.testBit (bW.getD x.1 0) r.1)++sF xs) x.2&&xs.all λ y=>dR y.2.op||Nat.testBit (bW.getD y.1 0) x.1)=true /\
    mP E x.2 (λ s'=>jj E (R.filter λ r => !Nat.testBit (bW.getD x.1 0) r.1) s' (jM E bW m (R.filter λ r => !Nat.testBit (bW.getD x.1 0) r.1) xs K s')) s) \/
   (dR x.2.op=false/\yc (Lb bW (x::xs)) (λ y=>match ik (dstsOf (R.filter λ r => !Nat.testBit (bW.getD y.1 0) r.1)++sF ((x::xs).filter λ z => !Nat.beq z.1 y.1)) y.2 with
      | true=>mP E y.2 (λ s'=>jj E (R.filter λ r => !Nat.testBit (bW.getD y.1 0) r.1) s' (jM E bW m (R.filter λ r => !Nat.testBit (bW.getD y.1 0) r.1) ((x::xs).filter λ z => !Nat.beq z.1 y.1) K s')) s
      | false=>False) (x::xs))):=by
 cases n with
 | zero=>exact h.elim
 | succ n =>
  simp only[jM] at h
  refine⟨n,?_⟩
  split at h
  .rename_i h1
   refine⟨h1,?_⟩
   split at h
   .rename_i h2
    exact .inl ⟨h2,h⟩
   .split at h
    .exact h.elim
    .rename_i h3
     exact .inr ⟨h3,h⟩
  .exact h.elim
theorem Mg{E:Env}{bW:List Nat}{n:Nat}{R:List (Nat×Oper)}{x:Nat×Oper}{xs:List (Nat×Oper)}{K:ag->Prop}{s:ag}(hz:dR x.2.op=true)(h:jM E bW n R (x::xs) K s) :
  ∃ m,mP E x.2 (λ s'=>jj E (R.filter λ r => !Nat.testBit (bW.getD x.1 0) r.1) s' (jM E bW m (R.filter λ r => !Nat.testBit (bW.getD x.1 0) r.1) xs K s')) s:=by
 obtain⟨m,_,h|h⟩:=E9 h
 .exact⟨m,h.2⟩
 .rw[hz] at h;cases h.1
theorem zh{p:Nat×Oper->Bool}{f:Nat×Oper->Prop}:∀ {l:List (Nat×Oper)},yc p f l->∀ y∈l,p y=true->f y
 | [],_,y,hy,_=>by cases hy
 | x::l,h,y,hy,hp=>by
  unfold yc at h
  split at h
  .rcases a1N.1 hy with rfl|hy
   .exact h.1
   .exact zh h.2 y hy hp
  .rename_i h0
   rcases a1N.1 hy with rfl|hy
   .rw[hp] at h0;cases h0
   .exact zh h y hy hp
theorem Tn{a b:Nat}:Nat.beq a b=false↔a≠b:=by
 constructor
 .intro h e
  subst e
  rw[a4G] at h
  cases h
 .intro h
  cases hb:Nat.beq a b
  .rfl
  .exact absurd (a1x hb) h
theorem Lo{x:Nat×Oper}{xs:List (Nat×Oper)}(h:x.1∉xs.map (·.1)):((x::xs).filter λ z => !Nat.beq z.1 x.1)=xs:=by
 rw[a4Y,a1B (by simp)]
 refine List.filter_eq_self.2 λ z hz=>?_
 have:z.1≠x.1:=λ e=>h (a1D.2 ⟨z,hz,e⟩)
 rw[Tn.2 this];rfl
theorem NR{i:Nat}{o:Oper}:∀ {X:List (Nat×Oper)},(i,o)∈X->(X.map (·.1)).Nodup->(X.filter λ z => !Nat.beq z.1 i).length+1=X.length
 | [],h,_=>by cases h
 | x::xs,h,hn=>by
  simp only[a2p,a2o] at hn
  rcases a1N.1 h with e|h
  .subst e
   rw[Lo (x:=(i,o)) hn.1];rfl
  .have fP:x.1≠i:=λ e=>hn.1 (a1D.2 ⟨_,h,e.symm⟩)
   rw[a4Y,a1S (by rw[Tn.2 fP];rfl),a1M,a1M,NR h hn.2]
theorem Sv{E:Env}{bW:List Nat}{n:Nat}{R X:List (Nat×Oper)}{y:Nat×Oper}{K:ag->Prop}{s:ag}(h:jM E bW n R X K s)(hy:y∈X)(dq:(X.map (·.1)).Nodup)(hc:Lb bW X y=true)
  (hh:∀ x xs,X=x::xs->dR x.2.op=true->Nat.testBit (bW.getD y.1 0) x.1=false) :
  ∃ m,ik (dstsOf (R.filter λ r => !Nat.testBit (bW.getD y.1 0) r.1)++sF (X.filter λ z => !Nat.beq z.1 y.1)) y.2=true /\
   mP E y.2 (λ s'=>jj E (R.filter λ r => !Nat.testBit (bW.getD y.1 0) r.1) s' (jM E bW m (R.filter λ r => !Nat.testBit (bW.getD y.1 0) r.1) (X.filter λ z => !Nat.beq z.1 y.1) K s')) s:=by
 match X,hy,dq,hc,hh,h with
 | x::xs,hy,dq,hc,hh,h =>
  obtain⟨m,_,h|h⟩:=E9 h
  .obtain⟨h1,h2⟩:=h
   simp only[a1z,a2e,a3p] at h1
   have e:y=x:=by
    rcases a1N.1 hy with e|hy
    .exact e
    .simp only[Lb,a1z,a2k,a2e,a3p] at hc
     rcases h1.2 y hy with q|q
     .rw[hc.1] at q;cases q
     .rcases hc.2 x (by simp) with k|k
      .rw[hh x xs rfl k] at q;cases q
      .rw[k] at q;cases q
   subst e
   simp only[a2p,a2o] at dq
   rw[Lo dq.1]
   exact⟨m,h1.1,h2⟩
  .have:=zh h.2 y hy hc
   split at this
   .rename_i hu
    exact⟨m,hu,this⟩
   .exact this.elim
theorem Q0(
          hE:bD c.P c.E) {ops:Array Oper} {hi:Nat} {Seg:List (Nat×Oper)} (dL:backward ops.toList=true) (hhi:hi<=ops.size)
  (qU:∀ j o,hi<=j->ops.toList[j]?=some o->∀ k,k<hi->Nat.testBit ((bI ops.toList []).getD j 0) k=true)
  (Xe:∀ x∈Seg,x.2.guard=none) (KC:∀ x∈Seg,qN c.E x.2=true) (VH:∀ x∈Seg,lW x.2.op=true->ik (dstsOf (Seg.filter λ y => !Nat.testBit ((bI ops.toList []).getD x.1 0) y.1)++sF Seg) x.2=true) (uR:∀ x∈Seg,∀ y∈Seg,∀ t,x.2.dst=some t->y.2.dst=some t->x.1=y.1) {K:ag->Prop} {Q':Exit->Act->World->Prop}
  (LM:∀ (fuel:Nat) (G:Gh) (s:ag) (a:Act) (w:World) (listed:Array Bool),ops.size=hi+fuel->listed.size=ops.size->(∀ k,k<ops.size->(listed.getD k false=true↔k<hi))->Inv c G s a w->K s->wpAny c.P .any ops Q' fuel listed a w) :
  ∀ (N fuel:Nat) (Rc X:List (Nat×Oper)) (R:List Nat) (PL:List PE) (SL:List XE) (G:Gh) (t:ag) (a b:Act) (w:World) (listed:Array Bool),fuel+X.length<=N->fuel+PL.length+SL.length=R.length+X.length+(ops.size - hi)->listed.size=ops.size ->
   (∀ i∈R,i<hi/\∃ o,ops.toList[i]?=some o/\(i,o)∈Rc/\(i,o)∈Seg/\oE c.E (bI ops.toList []) Seg (i,o)=true/\ik (dstsOf (Seg.filter λ y => !Nat.testBit ((bI ops.toList []).getD i 0) y.1)) o=true)->(∀ x∈X,x.1<hi/\ops.toList[x.1]?=some x.2/\x∈Seg)->R.Nodup->(X.map (·.1)).Nodup->(∀ i∈R,∀ x∈X,i≠x.1) ->
   (PL.map PE.i++SL.map XE.i).Nodup->(PL.map PE.b).Nodup->(∀ p∈PL,yY c G t.ae X a w p)->(∀ e∈SL,TC c.P X a e) ->
   (∀ k,k<ops.size->(listed.getD k false=true↔k<hi/\k∉R/\((∀ x∈X,x.1≠k)\/k∈PL.map PE.i++SL.map XE.i)))->(∀ k,k<ops.size->listed.getD k false=true->∀ o,ops.toList[k]?=some o->∀ e∈o.after.toList,Region.binds .any e=true->listed.getD e.on false=true) ->
   Inv c G t b w->oO (R.filterMap (bG ops.toList)++(PL.map PE.d++SL.map XE.d)) a b->(∀ i∈R,∀ o,ops.toList[i]?=some o->∃ d vc,o.dst=some d/\Uv c.E t o=some (vc,t.ar.getD d .any)/\Vc.ok vc) ->
   ∀ n,jM c.E (bI ops.toList []) n Rc X K t->wpAny c.P .any ops Q' fuel listed a w:=by
 intro N
 induction N with
 | zero =>
  intro fuel Rc X R PL SL G t a b w listed hN hf cj hR hX Ih GB Gy JV O6 oj oS hl Dr hI hA hs nn hK
  have h2:X=[]:=a2D (by omega)
  subst h2
  have h3:PL=[]:=by
   cases PL with
   | nil=>rfl
   | cons p PL=>obtain⟨o,T,τ,r,hm,_⟩:=(oj p (by simp)).ex;cases hm
  subst h3
  have h4:SL=[]:=by
   cases SL with
   | nil=>rfl
   | cons p SL=>have hm:=(oS p (by simp)).mem;cases hm
  subst h4
  have h1:R=[]:=a2D (by simp at hf;omega)
  subst h1
  have yl:a=b:=oO.eq (by simpa using hA)
  subst yl
  exact LM fuel G t a w listed (by simp at hf;omega) cj (λ k hk=>by rw[hl k hk];simp) hI (by rw[Ob] at hK;exact hK)
 | succ N ih =>
  intro fuel Rc X R PL SL G t a b w listed hN hf cj hR hX Ih GB Gy JV O6 oj oS hl Dr hI hA hs nn hK
  by_cases EW:R=[]/\X=[]
  .obtain⟨rfl,rfl⟩:=EW
   have h3:PL=[]:=by
    cases PL with
    | nil=>rfl
    | cons p PL=>obtain⟨o,T,τ,r,hm,_⟩:=(oj p (by simp)).ex;cases hm
   subst h3
   have h4:SL=[]:=by
    cases SL with
    | nil=>rfl
    | cons p SL=>have hm:=(oS p (by simp)).mem;cases hm
   subst h4
   have yl:a=b:=oO.eq (by simpa using hA)
   subst yl
   exact LM fuel G t a w listed (by simp at hf;omega) cj (λ k hk=>by rw[hl k hk];simp) hI (by rw[Ob] at hK;exact hK)
  have R5:∀ i o,i<ops.size->ops.toList[i]?=some o->listed.getD i false=true->∀ k,Nat.testBit ((bI ops.toList []).getD i 0) k=true->listed.getD k false=true/\k<ops.size:=λ i o hi ho hli k hk =>
   Bh (l:=ops.toList) (D:=λ k=>listed.getD k false=true/\k<ops.size) (λ k hk o' cF e he hb=>⟨Dr k hk.2 hk.1 o' cF e he hb,by
    have:=bY dL k o' cF e he hb;have:=hk.2;omega⟩) i o ho (λ e he hb=>⟨Dr i hi hli o ho e he hb,by
    have:=bY dL i o ho e he hb;omega⟩) k hk
  by_cases KB:∃ x0 xs p,X=x0::xs/\p∈PL/\p.i=x0.1
  .obtain⟨x0,xs,p,rfl,hp,T6⟩:=KB
   obtain⟨o,T,τ,r,hm,bl,E1,hT,lU⟩:=(oj p hp).ex
   have T9:x0=(p.i,o):=by
    have h1:=(hX x0 (by simp)).2.1
    have h2:=(hX _ hm).2.1
    rw[<-T6,h2] at h1
    simp only[a1w] at h1
    rw[h1,T6]
   subst T9
   obtain⟨mm,hK⟩:=Mg (by simp[dR,o9,bl]) hK
   rw[PM bl E1 hT,<-lU] at hK
   obtain⟨k1,k2⟩:=mB hK.2
   have LA:=hX _ hm
   have VM:listed.getD p.i false=true:=(hl p.i (by have:=LA.1;simp only at this;omega)).2 ⟨LA.1,λ q=>Gy _ q _ hm rfl, .inr (a1A.2 (.inl (a1D.2 ⟨p,hp,rfl⟩)))⟩
   have gQ:∀ j∈R,∃ o',ops.toList[j]?=some o'/\(j,o')∈Rc.filter λ r => !Nat.testBit ((bI ops.toList []).getD p.i 0) r.1:=λ j hj=>by
    obtain⟨q1,o',q2,q3,_,_⟩:=hR j hj
    refine⟨o',q2,a2N.2 ⟨q3,?_⟩⟩
    simp only[a2k]
    cases hb:Nat.testBit ((bI ops.toList []).getD p.i 0) j with
    | false=>rfl
    | true=>exact absurd hj ((hl j (by omega)).1 (R5 p.i o (by have:=LA.1;simp only at this;omega) LA.2.1 VM j hb).1).2.1
   have VS:∀ q∈PL.erase p,q∈PL/\q.i≠p.i/\q.b≠p.b:=λ q hq=>by
    have Ti:=a3l hq
    have Ik:=a5p hp
    have n1:=(Ik.map PE.i).nodup_iff.1 (a1X.1 JV).1
    have n2:=(Ik.map PE.b).nodup_iff.1 O6
    simp only[a2p,a2o] at n1 n2
    exact⟨Ti,λ e=>n1.1 (a1D.2 ⟨q,hq,e⟩),λ e=>n2.1 (a1D.2 ⟨q,hq,e⟩)⟩
   have Zk:(PL.erase p).length+1=PL.length:=by
    have:=a3B hp
    have:=a3J hp
    omega
   simp only[a2p,a2o] at GB
   refine ih fuel _ xs R (PL.erase p) SL _ _ a (b.put (some p.d) p.x) w listed (by simp at hN;omega) (by simp at hf;omega) cj (λ j hj=>?_) (λ y hy=>hX y (by simp[hy])) Ih GB.2 (λ j hj y hy=>Gy j hj y (by simp[hy])) ?_ ?_ (λ q hq=>?_) (λ e he=>?_) (λ k hk=>?_) Dr (RH hI (oj p hp)) ?_ (λ j hj o' cF=>?_) _ k2
   .obtain⟨q1,o',q2,q3,q4,q7⟩:=hR j hj
    obtain⟨o2,q5,q6⟩:=gQ j hj
    have e:o'=o2:=by rw[q2] at q5;simpa using q5
    subst e
    exact⟨q1,o',q2,q6,q4,q7⟩
   .exact JV.sublist ((a4l _ a4N).append (List.Sublist.refl _))
   .exact O6.sublist (a4l _ a4N)
   .obtain⟨Du,BR,hq3⟩:=VS q hq
    obtain⟨o2,T2,mD,r2,m1,m2,m3,m4,m5⟩:=(oj q Du).ex
    refine⟨⟨o2,T2,mD,r2,?_,m2,m3,m4,m5⟩,(oj q Du).val,(oj q Du).ptr,(oj q Du).lt,(oj q Du).new,RF (oj p hp) (oj q Du).fr hq3⟩
    rcases a1N.1 m1 with e|m1
    .simp only[a1y] at e;exact absurd e.1 BR
    .exact m1
   .have h3:=oS e he
    refine⟨?_,h3.dst,h3.val,h3.run⟩
    rcases a1N.1 h3.mem with q|q
    .simp only[a1y] at q
     rcases h3.run with ⟨q',_⟩|⟨q',_⟩<;>(rw[q.2,bl] at q';cases q')
    .exact q
   .rw[hl k hk]
    constructor
    .rintro⟨q1,q2,q3⟩
     refine⟨q1,q2,?_⟩
     by_cases xd:k=p.i
     .subst xd
      exact .inl λ y hy e=>GB.1 (a1D.2 ⟨y,hy,e⟩)
     .rcases q3 with q3|q3
      .exact .inl λ y hy=>q3 y (by simp[hy])
      .rcases a1A.1 q3 with q3|q3
       .obtain⟨q,hq,rfl⟩:=a1D.1 q3
        exact .inr (a1A.2 (.inl (a1D.2 ⟨q,(a3O (λ e=>xd (by rw[e]))).2 hq,rfl⟩)))
       .exact .inr (a1A.2 (.inr q3))
    .rintro⟨q1,q2,q3⟩
     refine⟨q1,q2,?_⟩
     by_cases xd:k=p.i
     .subst xd
      exact .inr (a1A.2 (.inl (a1D.2 ⟨p,hp,rfl⟩)))
     .rcases q3 with q3|q3
      .refine .inl λ y hy=>?_
       rcases a1N.1 hy with rfl|hy
       .exact λ e=>xd e.symm
       .exact q3 y hy
      .rcases a1A.1 q3 with q3|q3
       .obtain⟨q,hq,rfl⟩:=a1D.1 q3
        exact .inr (a1A.2 (.inl (a1D.2 ⟨q,a3l hq,rfl⟩)))
       .exact .inr (a1A.2 (.inr q3))
   .refine⟨by rw[ig];exact hA.size,hA.da,by rw[lH];exact hA.db,λ u hu=>?_⟩
    by_cases Sk:u=p.d
    .subst Sk
     rw[(oj p hp).val,eJ,<-hA.size]
     by_cases bC:p.d<a.tmps.size
     .rw[a1S bC,a1S ⟨rfl,bC⟩]
     .rw[a1B bC,a1B (λ q=>bC q.2),a2f,a2P (by rw[<-hA.size];omega)];rfl
    .rw[eJ,if_neg (λ q=>Sk (by simpa using q.1.symm))]
     refine hA.at' u λ hm=>hu ?_
     rcases a1A.1 hm with hm|hm
     .exact a1A.2 (.inl hm)
     .rcases a1A.1 hm with hm|hm
      .obtain⟨q,hq,rfl⟩:=a1D.1 hm
       exact a1A.2 (.inr (a1A.2 (.inl (a1D.2 ⟨q,(a3O (λ e=>Sk (by rw[e]))).2 hq,rfl⟩))))
      .exact a1A.2 (.inr (a1A.2 (.inr hm)))
   .obtain⟨o2,q5,q6⟩:=gQ j hj
    rw[q5] at cF
    simp only[a1w] at cF
    subst cF
    exact k1 (j,o2) q6
  by_cases GC:∃ x0 xs e,X=x0::xs/\e∈SL/\e.i=x0.1
  .obtain⟨x0,xs,e,rfl,he,hei⟩:=GC
   have O5:=oS e he
   have T9:x0=(e.i,e.o):=by
    have h1:=(hX x0 (by simp)).2.1
    have h2:=(hX _ O5.mem).2.1
    rw[<-hei,h2] at h1
    simp only[a1w] at h1
    rw[h1,hei]
   subst T9
   obtain⟨mm,hK⟩:=Mg O5.lz hK
   have LA:=hX _ O5.mem
   have VM:listed.getD e.i false=true:=(hl e.i (by have:=LA.1;simp only at this;omega)).2 ⟨LA.1,λ q=>Gy _ q _ O5.mem rfl, .inr (a1A.2 (.inr (a1D.2 ⟨e,he,rfl⟩)))⟩
   have VA:=R5 e.i e.o (by have:=LA.1;simp only at this;omega) LA.2.1 VM
   have gQ:∀ j∈R,∃ o',ops.toList[j]?=some o'/\(j,o')∈Rc.filter λ r => !Nat.testBit ((bI ops.toList []).getD e.i 0) r.1:=λ j hj=>by
    obtain⟨q1,o',q2,q3,_,_⟩:=hR j hj
    refine⟨o',q2,a2N.2 ⟨q3,?_⟩⟩
    simp only[a2k]
    cases hb:Nat.testBit ((bI ops.toList []).getD e.i 0) j with
    | false=>rfl
    | true=>exact absurd hj ((hl j (by omega)).1 (VA j hb).1).2.1
   have YK:∀ u,u∈R.filterMap (bG ops.toList)++(PL.map PE.d++SL.map XE.d)->u∈dstsOf (Seg.filter λ y => !Nat.testBit ((bI ops.toList []).getD e.i 0) y.1)++sF Seg:=λ u hu=>by
    rcases a1A.1 hu with hu|hu
    .obtain⟨j,hj,AT⟩:=a3a.1 hu
     obtain⟨q1,o',q2,_,q3,_⟩:=hR j hj
     refine List.mem_append.2 (.inl (iJ.2 ⟨(j,o'),List.mem_filter.2 ⟨q3,?_⟩,by simpa [bG,q2] using AT⟩))
     simp only[a2k]
     cases hb:Nat.testBit ((bI ops.toList []).getD e.i 0) j with
     | false=>rfl
     | true=>exact absurd hj ((hl j (by omega)).1 (VA j hb).1).2.1
    .rcases a1A.1 hu with hu|hu
     .obtain⟨p,hp,rfl⟩:=a1D.1 hu
      obtain⟨o2,T,τ,r,hm,LP,E1,_⟩:=(oj p hp).ex
      exact a1A.2 (.inr (nK (hX _ hm).2.2 (by simp[dR,o9,LP]) E1))
     .obtain⟨q,hq,rfl⟩:=a1D.1 hu
      exact a1A.2 (.inr (nK (hX _ (oS q hq).mem).2.2 (oS q hq).lz (oS q hq).dst))
   obtain⟨v,J3,hK⟩:∃ v,VR c G t.ae w v e.x/\jj c.E (Rc.filter λ r => !Nat.testBit ((bI ops.toList []).getD e.i 0) r.1) (t.put (some e.d) v) (jM c.E (bI ops.toList []) mm (Rc.filter λ r => !Nat.testBit ((bI ops.toList []).getD e.i 0) r.1) xs K (t.put (some e.d) v)):=by
    rcases O5.run with ⟨hx,hr⟩|⟨hx,p,hp⟩
    .obtain⟨tt,ix,bl⟩:∃ tt ix,e.o.op = .extract tt ix:=by
      have:=hx
      unfold lW at this
      split at this
      .exact⟨_,_,by assumption⟩
      .cases this
     obtain⟨vs,v,Zt,hv2,hK⟩:=MH bl O5.dst hK
     have cH:=hr w
     rw[hA.exec (oG (VH _ LA.2.2 hx) YK)] at cH
     have J3:=O1 hI bl Zt hv2 cH
     exact⟨v,J3,CN J3 hK⟩
    .obtain⟨τ,hK⟩:=Rk hx (KC _ LA.2.2) O5.dst hK
     refine⟨_,?_,hK⟩
     rw[hp]
     exact⟨p,0,rfl,a2u _,by simp[maxLen],by simp, .inl rfl⟩
   obtain⟨k1,k2⟩:=mB hK
   have VS:∀ q∈SL.erase e,q∈SL/\q.i≠e.i:=λ q hq=>by
    have Ti:=a3l hq
    have Ik:=a5p he
    have n1:=(Ik.map XE.i).nodup_iff.1 (a1X.1 JV).2.1
    simp only[a2p,a2o] at n1
    exact⟨Ti,λ q'=>n1.1 (a1D.2 ⟨q,hq,q'⟩)⟩
   have Zk:(SL.erase e).length+1=SL.length:=by
    have:=a3B he
    have:=a3J he
    omega
   simp only[a2p,a2o] at GB
   refine ih fuel _ xs R PL (SL.erase e) _ _ a (b.put (some e.d) e.x) w listed (by simp at hN;omega) (by simp at hf;omega) cj (λ j hj=>?_) (λ y hy=>hX y (by simp[hy])) Ih GB.2 (λ j hj y hy=>Gy j hj y (by simp[hy])) ?_ O6 (λ q hq=>?_) (λ q hq=>?_) (λ k hk=>?_) Dr (Inv.put (d:=some e.d) hI J3) ?_ (λ j hj o' cF=>?_) _ k2
   .obtain⟨q1,o',q2,q3,q4,q7⟩:=hR j hj
    obtain⟨o2,q5,q6⟩:=gQ j hj
    have e:o'=o2:=by rw[q2] at q5;simpa using q5
    subst e
    exact⟨q1,o',q2,q6,q4,q7⟩
   .exact JV.sublist ((List.Sublist.refl _).append (a4l _ a4N))
   .obtain⟨o2,T2,mD,r2,m1,m2,m3,m4,m5⟩:=(oj q hq).ex
    refine⟨⟨o2,T2,mD,r2,?_,m2,m3,m4,m5⟩,(oj q hq).val,(oj q hq).ptr,(oj q hq).lt,(oj q hq).new,(oj q hq).fr⟩
    rcases a1N.1 m1 with e'|m1
    .simp only[a1y] at e'
     rcases O5.run with ⟨q',_⟩|⟨q',_⟩<;>(rw[<-e'.2,m2] at q';cases q')
    .exact m1
   .obtain⟨Du,BR⟩:=VS q hq
    have h3:=oS q Du
    refine⟨?_,h3.dst,h3.val,h3.run⟩
    rcases a1N.1 h3.mem with e'|e'
    .simp only[a1y] at e';exact absurd e'.1 BR
    .exact e'
   .rw[hl k hk]
    constructor
    .rintro⟨q1,q2,q3⟩
     refine⟨q1,q2,?_⟩
     by_cases xd:k=e.i
     .subst xd
      exact .inl λ y hy e=>GB.1 (a1D.2 ⟨y,hy,e⟩)
     .rcases q3 with q3|q3
      .exact .inl λ y hy=>q3 y (by simp[hy])
      .rcases a1A.1 q3 with q3|q3
       .exact .inr (a1A.2 (.inl q3))
       .obtain⟨q,hq,rfl⟩:=a1D.1 q3
        exact .inr (a1A.2 (.inr (a1D.2 ⟨q,(a3O (λ e=>xd (by rw[e]))).2 hq,rfl⟩)))
    .rintro⟨q1,q2,q3⟩
     refine⟨q1,q2,?_⟩
     by_cases xd:k=e.i
     .subst xd
      exact .inr (a1A.2 (.inr (a1D.2 ⟨e,he,rfl⟩)))
     .rcases q3 with q3|q3
      .refine .inl λ y hy=>?_
       rcases a1N.1 hy with rfl|hy
       .exact λ e=>xd e.symm
       .exact q3 y hy
      .rcases a1A.1 q3 with q3|q3
       .exact .inr (a1A.2 (.inl q3))
       .obtain⟨q,hq,rfl⟩:=a1D.1 q3
        exact .inr (a1A.2 (.inr (a1D.2 ⟨q,a3l hq,rfl⟩)))
   .refine⟨by rw[ig];exact hA.size,hA.da,by rw[lH];exact hA.db,λ u hu=>?_⟩
    by_cases Sk:u=e.d
    .subst Sk
     rw[O5.val,eJ,<-hA.size]
     by_cases bC:e.d<a.tmps.size
     .rw[a1S bC,a1S ⟨rfl,bC⟩]
     .rw[a1B bC,a1B (λ q=>bC q.2),a2f,a2P (by rw[<-hA.size];omega)];rfl
    .rw[eJ,if_neg (λ q=>Sk (by simpa using q.1.symm))]
     refine hA.at' u λ hm=>hu ?_
     rcases a1A.1 hm with hm|hm
     .exact a1A.2 (.inl hm)
     .rcases a1A.1 hm with hm|hm
      .exact a1A.2 (.inr (a1A.2 (.inl hm)))
      .obtain⟨q,hq,rfl⟩:=a1D.1 hm
       exact a1A.2 (.inr (a1A.2 (.inr (a1D.2 ⟨q,(a3O (λ e=>Sk (by rw[e]))).2 hq,rfl⟩))))
   .obtain⟨o2,q5,q6⟩:=gQ j hj
    rw[q5] at cF
    simp only[a1w] at cF
    subst cF
    exact k1 (j,o2) q6
  have Vv:∀ p∈PL,∃ x∈X,x.1=p.i:=λ p hp=>by
   obtain⟨o,T,τ,r,hm,_⟩:=(oj p hp).ex
   exact⟨_,hm,rfl⟩
  have Qx:∀ p∈SL,∃ x∈X,x.1=p.i:=λ p hp=>⟨_,(oS p hp).mem,rfl⟩
  have hun:∃ k,k<hi/\¬ (listed.getD k false=true):=by
   rcases R with _|⟨i,R⟩
   .rcases X with _|⟨x,X⟩
    .exact absurd ⟨rfl,rfl⟩ EW
    .have:=(hX x (by simp)).1
     refine⟨x.1,this,λ hh=>((hl x.1 (by omega)).1 hh).2.2.elim (λ q=>q x (by simp) rfl) λ q=>?_⟩
     rcases a1A.1 q with q|q
     .obtain⟨p,hp,e⟩:=a1D.1 q
      exact KB ⟨x,X,p,rfl,hp,e⟩
     .obtain⟨p,hp,e⟩:=a1D.1 q
      exact GC ⟨x,X,p,rfl,hp,e⟩
   .have:=(hR i (by simp)).1
    exact⟨i,this,λ hh=>((hl i (by omega)).1 hh).2.1 (by simp)⟩
  have GO:PL.length+SL.length<R.length+X.length:=by
   rcases R with _|⟨i,R⟩
   .rcases X with _|⟨x,X⟩
    .exact absurd ⟨rfl,rfl⟩ EW
    .have sZ:(PL.map PE.i++SL.map XE.i) ⊆ X.map (·.1):=λ k hk=>by
      rcases a1A.1 hk with hk|hk
      .obtain⟨p,hp,rfl⟩:=a1D.1 hk
       obtain⟨y,hy,e⟩:=Vv p hp
       rcases a1N.1 hy with rfl|hy
       .exact absurd ⟨_,_,p,rfl,hp,e.symm⟩ KB
       .exact a1D.2 ⟨y,hy,e⟩
      .obtain⟨p,hp,rfl⟩:=a1D.1 hk
       obtain⟨y,hy,e⟩:=Qx p hp
       rcases a1N.1 hy with rfl|hy
       .exact absurd ⟨_,_,p,rfl,hp,e.symm⟩ GC
       .exact a1D.2 ⟨y,hy,e⟩
     have:=a3X JV sZ
     simp at this ⊢;omega
   .have sZ:(PL.map PE.i++SL.map XE.i) ⊆ X.map (·.1):=λ k hk=>by
     rcases a1A.1 hk with hk|hk
     .obtain⟨p,hp,rfl⟩:=a1D.1 hk
      obtain⟨y,hy,e⟩:=Vv p hp
      exact a1D.2 ⟨y,hy,e⟩
     .obtain⟨p,hp,rfl⟩:=a1D.1 hk
      obtain⟨y,hy,e⟩:=Qx p hp
      exact a1D.2 ⟨y,hy,e⟩
    have:=a3X JV sZ
    simp at this ⊢;omega
  obtain⟨fuel,rfl⟩:∃ f,fuel=f+1:=⟨fuel - 1,by omega⟩
  obtain⟨k1,Ij⟩:=hun
  obtain⟨k0,⟨Tg,ui⟩,QK⟩:=exists_least (p:=λ k=>k<hi/\¬ (listed.getD k false=true)) k1 Ij
  have QG:ops[k0]?=some (ops[k0]'(by omega)):=a2x (by omega)
  constructor
  .intro uV
   have:k0∈Region.ready .any ops listed:=(mem_ready cj).2 ⟨_,QG,by
    cases hb:listed.getD k0 false with
    | false=>rfl
    | true=>exact absurd hb ui,λ e he hb=>by
    have bC:=bY dL k0 ops[k0] (by simp) e he hb
    exact a4t λ hh=>QK e.on bC ⟨by omega,hh⟩⟩
   rw[uV] at this
   cases this
  .intro i oV
   obtain⟨o,cr,h1,h2⟩:=(mem_ready cj).1 oV
   have BO:=(a2z.1 cr).1
   have ff:ops.toList[i]?=some o:=by simpa using cr
   have Au:=Bh (l:=ops.toList) (D:=λ k=>listed.getD k false=true/\k<ops.size) (λ k hk o' cF e he hb=>⟨Dr k hk.2 hk.1 o' cF e he hb,by
    have:=bY dL k o' cF e he hb;have:=hk.2;omega⟩) i o ff (λ e he hb=>⟨h2 e he hb,by
    have:=bY dL i o ff e he hb;omega⟩)
   have sW:i<hi:=by
    rcases a2B i hi with h|h
    .exact h
    .exact absurd (Au k0 (qU i o h ff k0 Tg)).1 ui
   have uX:∀ k,(listed.setIfInBounds i true).getD k false=true↔listed.getD k false=true\/k=i:=λ k=>qp (by omega)
   have QA:∀ k,k<ops.size->(listed.setIfInBounds i true).getD k false=true->∀ o,ops.toList[k]?=some o->∀ e∈o.after.toList,Region.binds .any e=true->(listed.setIfInBounds i true).getD e.on false=true:=by
    intro k hk JY o' cF e he hb
    rw[uX] at JY ⊢
    rcases JY with JY|rfl
    .exact .inl (Dr k hk JY o' cF e he hb)
    .rw[ff] at cF
     simp only[a1w] at cF
     subst cF
     exact .inl (h2 e he hb)
   have VU:¬ (listed.getD i false=true):=by rw[h1];simp
   have Tj:=VU
   rw[hl i BO] at Tj
   have hXi:i∉R->∃ x∈X,x.1=i:=λ EZ=>a4t λ hh=>Tj ⟨sW,EZ, .inl λ x hx e=>hh ⟨x,hx,e⟩⟩
   have NW:∀ p∈PL,p.i≠i:=λ p hp e=>by
    obtain⟨x,hx,V5⟩:=Vv p hp
    exact Tj ⟨sW,λ q=>Gy i q x hx (by rw[V5,e]), .inr (a1A.2 (.inl (a1D.2 ⟨p,hp,e⟩)))⟩
   have NX:∀ p∈SL,p.i≠i:=λ p hp e=>by
    obtain⟨x,hx,V5⟩:=Qx p hp
    exact Tj ⟨sW,λ q=>Gy i q x hx (by rw[V5,e]), .inr (a1A.2 (.inr (a1D.2 ⟨p,hp,e⟩)))⟩
   have Gz:(i,o)∈Seg:=by
    by_cases EZ:i∈R
    .obtain⟨_,o',cF,_,hm,_⟩:=hR i EZ
     rw[ff] at cF
     simp only[a1w] at cF
     subst cF
     exact hm
    .obtain⟨x,hx,QR⟩:=hXi EZ
     have:=(hX x hx).2.1
     rw[QR,ff] at this
     simp only[a1w] at this
     have e:x=(i,o):=by rw[<-QR,this]
     rw[<-e]
     exact (hX x hx).2.2
   have hg:o.guard=none:=Xe _ Gz
   have Vu:∀ p∈PL,o.dst≠some p.d:=λ p hp e=>by
    obtain⟨o2,T,τ,r,hm,bl,E1,_⟩:=(oj p hp).ex
    have Xn:=(hX _ hm).2.2
    exact NW p hp (uR _ Xn _ Gz p.d E1 e)
   have Vx:∀ p∈SL,o.dst≠some p.d:=λ p hp e=>NX p hp (uR _ (hX _ (oS p hp).mem).2.2 _ Gz p.d (oS p hp).dst e)
   have Vy:∀ p∈SL,∀ t,o.dst=some t->ik [t] p.o=true:=λ p hp t ht=>by
    have hm:=hX _ (oS p hp).mem
    have VM:listed.getD p.i false=true:=(hl p.i (by have:=hm.1;simp only at this;omega)).2 ⟨hm.1,λ q=>Gy _ q _ (oS p hp).mem rfl, .inr (a1A.2 (.inr (a1D.2 ⟨p,hp,rfl⟩)))⟩
    rcases (oS p hp).run with ⟨hex,_⟩|⟨AU,_⟩
    rotate_left
    .exact SY AU _
    refine oG (VH _ hm.2.2 hex) λ u hu=>?_
    simp only[a2g] at hu
    subst hu
    refine a1A.2 (.inl (iJ.2 ⟨_,a2N.2 ⟨Gz,?_⟩,ht⟩))
    simp only[a2k]
    cases hb:Nat.testBit ((bI ops.toList []).getD p.i 0) i with
    | false=>rfl
    | true=>exact absurd (R5 p.i p.o (by have:=hm.1;simp only at this;omega) hm.2.1 VM i hb).1 VU
   have hw:Region.wanted o (yielded ops a.tmps)=true:=by simp[Region.wanted,hg]
   unfold wpOp
   simp only[cr]
   rw[a1S hw]
   refine .inl ?_
   by_cases EZ:i∈R
   ·
    obtain⟨_,o',cF,Ti,_,r6,hu⟩:=hR i EZ
    rw[ff] at cF
    simp only[a1w] at cF
    subst cF
    obtain⟨d,vc,hd,hr,fi⟩:=hs i EZ o ff
    obtain⟨x,hx,hvx⟩:=MG hE hI hr fi
    have hu:ik (R.filterMap (bG ops.toList)++(PL.map PE.d++SL.map XE.d)) o=true:=oG hu λ t ht=>by
     rcases a1A.1 ht with ht|ht
     .obtain⟨j,hj,AT⟩:=a3a.1 ht
      obtain⟨q1,o',q2,_,q3,_⟩:=hR j hj
      refine iJ.2 ⟨(j,o'),List.mem_filter.2 ⟨q3,?_⟩,by simpa [bG,q2] using AT⟩
      simp only[a2k]
      cases hb:Nat.testBit ((bI ops.toList []).getD i 0) j with
      | false=>rfl
      | true=>exact absurd hj ((hl j (by omega)).1 (Au j hb).1).2.1
     .obtain⟨zi,zo,hm,VN,E1⟩:∃ zi zo,(zi,zo)∈X/\dR zo.op=true/\zo.dst=some t:=by
       rcases a1A.1 ht with ht|ht
       .obtain⟨p,hp,rfl⟩:=a1D.1 ht
        obtain⟨o2,T,τ,r,hm,bl,E1,_⟩:=(oj p hp).ex
        exact⟨_,o2,hm,by simp[dR,o9,bl],E1⟩
       .obtain⟨p,hp,rfl⟩:=a1D.1 ht
        exact⟨_,p.o,(oS p hp).mem,(oS p hp).lz,(oS p hp).dst⟩
      have Xn:=(hX _ hm).2.2
      by_cases hb:Nat.testBit ((bI ops.toList []).getD i 0) zi=true
      .simp only[oE,a1z,a2e,a3p,a2k] at r6
       rcases r6.2 _ Xn with q|q
       .rw[AN (Nl q)] at VN;cases VN
       .rw[hb] at q;cases q
      .exact iJ.2 ⟨_,List.mem_filter.2 ⟨Xn,by simpa using hb⟩,E1⟩
    unfold Oper.wp
    rw[hA.exec hu,hx]
    show wpAny c.P .any ops Q' fuel _ (a.put o.dst x) w
    have Xc:(R.erase i).length+1=R.length:=by
     have:=a3B EZ
     have:=a3J EZ
     omega
    have sZ:∀ t,t∈(R.erase i).filterMap (bG ops.toList)->t∈R.filterMap (bG ops.toList):=λ t ht=>by
     obtain⟨q,hq,Zl⟩:=a3a.1 ht
     exact a3a.2 ⟨q,a3l hq,Zl⟩
    refine ih fuel Rc X (R.erase i) PL SL G t (a.put o.dst x) (b.put o.dst x) w _ (by omega) (by omega) (by rw[a2E];exact cj) (λ j hj=>?_) hX (Ih.erase i) GB (λ j hj=>Gy j (a3l hj)) JV O6 (λ p hp=>(oj p hp).put (Vu p hp)) (λ e he=>(oS e he).put hA.da (Vx e he) (Vy e he)) (λ k hk=>?_) QA (by rw[hd];exact Ux hI hvx) (hA.put λ q hq QO=>?_) (λ j hj=>hs j (a3l hj)) _ hK
    .exact hR j (a3l hj)
    .rw[uX,hl k hk,Ih.mem_erase_iff]
     constructor
     .rintro (⟨q1,q2,q3⟩|rfl)
      .exact⟨q1,λ q=>q2 q.2,q3⟩
      .exact⟨sW,λ q=>q.1 rfl, .inl λ x hx=>(Gy _ EZ x hx).symm⟩
     .rintro⟨q1,q2,q3⟩
      by_cases GK:k=i
      .exact .inr GK
      .exact .inl ⟨q1,λ q=>q2 ⟨GK,q⟩,q3⟩
    .rcases a1A.1 hq with hq|hq
     .obtain⟨j,hj,AT⟩:=a3a.1 hq
      by_cases qX:j=i
      .subst qX
       rw[<-AT]
       simp[bG,ff]
      .exact absurd (a1A.2 (.inl (a3a.2 ⟨j,Ih.mem_erase_iff.2 ⟨qX,hj⟩,AT⟩))) QO
     .exact absurd (a1A.2 (.inr hq)) QO
   .obtain⟨x,hx,QR⟩:=hXi EZ
    have hxo:x=(i,o):=by
     have:=(hX x hx).2.1
     rw[QR,ff] at this
     simp only[a1w] at this
     rw[<-QR,this]
    subst hxo
    have hZ:∀ b,(∃ p∈PL,p.b=b)->tX c G t.ae w b:=λ b ⟨p,hp,e⟩=>e ▸ (oj p hp).fr
    by_cases TT:o9 o.op=true
    ·
     have JW:=KC _ Gz
     obtain⟨T,bl⟩:∃ T,o.op = .alloc T:=by
      unfold o9 at TT
      split at TT
      .exact⟨_,by assumption⟩
      .cases TT
     unfold qN at JW
     simp only[bl,a1z,a4Z] at JW
     obtain⟨⟨d,hd⟩,EV,⟨⟨τ,r⟩,hT⟩⟩:=JW
     simp only[hd,tz,a4k] at EV
     obtain⟨w',p,T6,hpd,hpb,cH,ug,VW,xd⟩:=OW hE hI (a2:=a) bl hd hT EV hx
     unfold Oper.wp
     rw[cH]
     show wpAny c.P .any ops Q' fuel _ (a.put o.dst p.x) w'
     rw[hd]
     refine ih fuel Rc X R (p::PL) SL G t (a.put (some d) p.x) b w' _ (by omega) (by simp;omega) (by rw[a2E];exact cj) hR hX Ih GB Gy ?_ ?_ (λ q hq=>?_) (λ e he=>(oS e he).put hA.da (by rw[<-hd];exact Vx e he) (by rw[<-hd];exact Vy e he)) (λ k hk=>?_) QA ug ?_ hs _ hK
     .simp only[a2p,a2I,a2o]
      refine⟨λ hm=>?_,JV⟩
      rcases a1A.1 hm with hm|hm
      .obtain⟨q,hq,e⟩:=a1D.1 hm
       exact NW q hq (by rw[e,T6])
      .obtain⟨q,hq,e⟩:=a1D.1 hm
       exact NX q hq (by rw[e,T6])
     .simp only[a2p,a2o]
      refine⟨λ hm=>?_,O6⟩
      obtain⟨q,hq,e⟩:=a1D.1 hm
      have:=(oj q hq).fr.2.2.1
      rw[e,hpb] at this
      exact a3U _ this
     .rcases a1N.1 hq with rfl|hq
      .exact VW
      .have h3:=(oj q hq).put (d:=some d) (x:=p.x) (by rw[<-hd];exact Vu q hq)
       have bC:=h3.fr.2.2.1
       refine⟨h3.ex,h3.val,h3.ptr,h3.lt,?_,h3.fr.grow xd.size⟩
       obtain⟨l,ty,q1,q2⟩:=h3.new
       exact⟨l,ty,by rw[xd.block q.b bC (λ h=>h)];exact q1,q2⟩
     .rw[uX,hl k hk,a2p,a2I,a1N,T6]
      constructor
      .rintro (⟨q1,q2,q3⟩|rfl)
       .exact⟨q1,q2,q3.imp id .inr⟩
       .exact⟨sW,EZ, .inr (.inl rfl)⟩
      .rintro⟨q1,q2,q3⟩
       by_cases GK:k=i
       .exact .inr GK
       .exact .inl ⟨q1,q2,q3.imp id λ q=>q.resolve_left GK⟩
     .refine⟨by rw[ig];exact hA.size,by rw[lH];exact hA.da,hA.db,λ u hu=>?_⟩
      simp only[a2p,a2I,a1A,a1N,hpd] at hu
      rw[eJ,if_neg (λ q=>hu (.inr (.inl (by simpa using q.1.symm))))]
      exact hA.at' u λ hm=>hu ((a1A.1 hm).imp id λ q => .inr (a1A.1 q))
    by_cases hex:lW o.op=true
    ·
     obtain⟨tt,ix,bl⟩:∃ tt ix,o.op = .extract tt ix:=by
      have:=hex
      unfold lW at this
      split at this
      .exact⟨_,_,by assumption⟩
      .cases this
     have a0o:we t o.op=true:=by
      obtain⟨x0,xs,rfl⟩:∃ x0 xs,X=x0::xs:=by
       cases X with
       | nil=>cases hx
       | cons x0 xs=>exact⟨x0,xs,rfl⟩
      obtain⟨_,h3,_⟩:=E9 hK
      unfold Pu at h3
      rw[a2e] at h3
      have h4:=h3 _ hx
      rw[a3p] at h4
      rcases h4 with h4|h4
      .exact h4
      .rw[a4C] at h4
       obtain⟨y,hy,h4⟩:=h4
       rw[a1z,a2k] at h4
       have h5:=(Au y.1 h4.2).1
       have h6:=(hX y hy).1
       rcases ((hl y.1 (by omega)).1 h5).2.2 with h7|h7
       .exact absurd rfl (h7 y hy)
       .have hyl:dR y.2.op=true:=by
         have e0:=(hX y hy).2.1
         rcases a1A.1 h7 with h7|h7
         .obtain⟨p,hp,e⟩:=a1D.1 h7
          obtain⟨o2,T,τ,r,hm,LP,E1,_⟩:=(oj p hp).ex
          have e1:=(hX _ hm).2.1
          simp only at e1
          rw[e,e0] at e1
          simp only[a1w] at e1
          rw[e1]
          simp[dR,o9,LP]
         .obtain⟨p,hp,e⟩:=a1D.1 h7
          have e1:=(hX _ (oS p hp).mem).2.1
          simp only at e1
          rw[e,e0] at e1
          simp only[a1w] at e1
          rw[e1]
          simp[(oS p hp).lz]
        rw[hyl] at h4
        exact absurd h4.1 (by simp)
     obtain⟨x,cH⟩:=O0 hI bl a0o
     have JW:=VH _ Gz hex
     obtain⟨d,hd⟩:∃ d,o.dst=some d:=by
      have:=KC _ Gz
      simp only[qN,bl,a4Z] at this
      exact this
     have YK:∀ u,u∈R.filterMap (bG ops.toList)++(PL.map PE.d++SL.map XE.d)->u∈dstsOf (Seg.filter λ y => !Nat.testBit ((bI ops.toList []).getD i 0) y.1)++sF Seg:=λ u hu=>by
      rcases a1A.1 hu with hu|hu
      .obtain⟨j,hj,AT⟩:=a3a.1 hu
       obtain⟨q1,o',q2,_,q3,_⟩:=hR j hj
       refine List.mem_append.2 (.inl (iJ.2 ⟨(j,o'),List.mem_filter.2 ⟨q3,?_⟩,by simpa [bG,q2] using AT⟩))
       simp only[a2k]
       cases hb:Nat.testBit ((bI ops.toList []).getD i 0) j with
       | false=>rfl
       | true=>exact absurd hj ((hl j (by omega)).1 (Au j hb).1).2.1
      .rcases a1A.1 hu with hu|hu
       .obtain⟨p,hp,rfl⟩:=a1D.1 hu
        obtain⟨o2,T,τ,r,hm,LP,E1,_⟩:=(oj p hp).ex
        exact a1A.2 (.inr (nK (hX _ hm).2.2 (by simp[dR,o9,LP]) E1))
       .obtain⟨q,hq,rfl⟩:=a1D.1 hu
        exact a1A.2 (.inr (nK (hX _ (oS q hq).mem).2.2 (oS q hq).lz (oS q hq).dst))
     have VY:∀ w',(execOp a.eval o).run c.P w' = .ok (.value x) w':=λ w'=>by
      rw[hA.exec (oG JW YK)]
      exact cH w'
     have Zq:ik [d] o=true:=oG JW λ u hu=>by
      simp only[a2g] at hu
      subst hu
      exact a1A.2 (.inr (nK Gz (by simp[dR,hex]) hd))
     unfold Oper.wp
     rw[VY w]
     show wpAny c.P .any ops Q' fuel _ (a.put o.dst x) w
     rw[hd]
     refine ih fuel Rc X R PL (⟨i,d,x,o⟩::SL) G t (a.put (some d) x) b w _ (by omega) (by simp;omega) (by rw[a2E];exact cj) hR hX Ih GB Gy ?_ O6 (λ q hq=>(oj q hq).put (by rw[<-hd];exact Vu q hq)) (λ e he=>?_) (λ k hk=>?_) QA hI ?_ hs _ hK
     .rw[a2p]
      refine (List.perm_middle.nodup_iff).2 (a2o.2 ⟨λ hm=>?_,JV⟩)
      rcases a1A.1 hm with hm|hm
      .obtain⟨q,hq,e⟩:=a1D.1 hm
       exact NW q hq e
      .obtain⟨q,hq,e⟩:=a1D.1 hm
       exact NX q hq e
     .rcases a1N.1 he with rfl|he
      .refine⟨hx,hd,?_, .inl ⟨hex,λ w'=>?_⟩⟩
       .simp only[eJ,ig,a1Z]
        split
        .rfl
        .rename_i bC
         first|rfl|(rw[a2f,a2P (by omega)];rfl)
       .have Vr:oO [d] (a.put (some d) x) a:=⟨ig a _ x,by rw[lH];exact hA.da,hA.da,λ u hu=>by rw[eJ,if_neg (λ q=>hu (by simpa using q.1.symm))]⟩
        show (execOp (a.put (some d) x).eval o).run c.P w'=_
        rw[Vr.exec Zq]
        exact VY w'
      .exact (oS e he).put hA.da (by rw[<-hd];exact Vx e he) (by rw[<-hd];exact Vy e he)
     .rw[uX,hl k hk,a2p]
      constructor
      .rintro (⟨q1,q2,q3⟩|rfl)
       .refine⟨q1,q2,q3.imp (λ q=>q) λ q=>?_⟩
        rcases a1A.1 q with q|q
        .exact a1A.2 (.inl q)
        .exact a1A.2 (.inr (a3m _ q))
       .exact⟨sW,EZ, .inr (a1A.2 (.inr (a4w ..)))⟩
      .rintro⟨q1,q2,q3⟩
       by_cases GK:k=i
       .exact .inr GK
       .refine .inl ⟨q1,q2,q3.imp (λ q=>q) λ q=>?_⟩
        rcases a1A.1 q with q|q
        .exact a1A.2 (.inl q)
        .exact a1A.2 (.inr ((a1N.1 q).resolve_left GK))
     .refine⟨by rw[ig];exact hA.size,by rw[lH];exact hA.da,hA.db,λ u hu=>?_⟩
      simp only[a2p,a1A,a1N] at hu
      rw[eJ,if_neg (λ q=>hu (.inr (.inr (.inl (by simpa using q.1.symm)))))]
      exact hA.at' u λ hm=>hu ((a1A.1 hm).imp (λ q=>q) λ q=>(a1A.1 q).imp (λ q=>q) .inr)
    by_cases AU:wv o.op=true
    ·
     have JW:=KC _ Gz
     obtain⟨d,hd⟩:∃ d,o.dst=some d:=by
      obtain⟨T,bl⟩:=G9 AU
      unfold qN at JW
      rw[bl] at JW
      cases hd:o.dst with
      | some d=>exact⟨d,rfl⟩
      | none=>rw[hd] at JW;simp at JW
     obtain⟨w',x,cH,ug,Sl,xd⟩:=Qq hE hI (a2:=a) AU JW hd
     unfold Oper.wp
     rw[cH]
     show wpAny c.P .any ops Q' fuel _ (a.put o.dst x) w'
     rw[hd]
     refine ih fuel Rc X R PL (⟨i,d,x,o⟩::SL) G t (a.put (some d) x) b w' _ (by omega) (by simp;omega) (by rw[a2E];exact cj) hR hX Ih GB Gy ?_ O6 (λ q hq=>?_) (λ e he=>?_) (λ k hk=>?_) QA ug ?_ hs _ hK
     .rw[a2p]
      refine (List.perm_middle.nodup_iff).2 (a2o.2 ⟨λ hm=>?_,JV⟩)
      rcases a1A.1 hm with hm|hm
      .obtain⟨q,hq,e⟩:=a1D.1 hm
       exact NW q hq e
      .obtain⟨q,hq,e⟩:=a1D.1 hm
       exact NX q hq e
     .have h3:=(oj q hq).put (d:=some d) (x:=x) (by rw[<-hd];exact Vu q hq)
      have bC:=h3.fr.2.2.1
      refine⟨h3.ex,h3.val,h3.ptr,h3.lt,?_,h3.fr.grow xd.size⟩
      obtain⟨l,ty,q1,q2⟩:=h3.new
      exact⟨l,ty,by rw[xd.block q.b bC (λ h=>h)];exact q1,q2⟩
     .rcases a1N.1 he with rfl|he
      .refine⟨hx,hd,?_, .inr ⟨AU,Sl⟩⟩
       simp only[eJ,ig,a1Z]
       split
       .rfl
       .rename_i bC
        first|rfl|(rw[a2f,a2P (by omega)];rfl)
      .exact (oS e he).put hA.da (by rw[<-hd];exact Vx e he) (by rw[<-hd];exact Vy e he)
     .rw[uX,hl k hk,a2p]
      constructor
      .rintro (⟨q1,q2,q3⟩|rfl)
       .refine⟨q1,q2,q3.imp (λ q=>q) λ q=>?_⟩
        rcases a1A.1 q with q|q
        .exact a1A.2 (.inl q)
        .exact a1A.2 (.inr (a3m _ q))
       .exact⟨sW,EZ, .inr (a1A.2 (.inr (a4w ..)))⟩
      .rintro⟨q1,q2,q3⟩
       by_cases GK:k=i
       .exact .inr GK
       .refine .inl ⟨q1,q2,q3.imp (λ q=>q) λ q=>?_⟩
        rcases a1A.1 q with q|q
        .exact a1A.2 (.inl q)
        .exact a1A.2 (.inr ((a1N.1 q).resolve_left GK))
     .refine⟨by rw[ig];exact hA.size,by rw[lH];exact hA.da,hA.db,λ u hu=>?_⟩
      simp only[a2p,a1A,a1N] at hu
      rw[eJ,if_neg (λ q=>hu (.inr (.inr (.inl (by simpa using q.1.symm)))))]
      exact hA.at' u λ hm=>hu ((a1A.1 hm).imp (λ q=>q) λ q=>(a1A.1 q).imp (λ q=>q) .inr)
    ·
     have a0z:dR o.op=false:=by
      simp only[dR,a5q]
      exact⟨by simpa using TT,by simpa using hex,by simpa using AU⟩
     have VN:∀ z∈X,Nat.testBit ((bI ops.toList []).getD i 0) z.1=true->dR z.2.op=true/\z.1∈PL.map PE.i++SL.map XE.i:=λ z hz hb=>by
      have h3:=(Au z.1 hb).1
      have h4:=(hX z hz).1
      rcases ((hl z.1 (by omega)).1 h3).2.2 with h5|h5
      .exact absurd rfl (h5 z hz)
      .refine⟨?_,h5⟩
       have e0:=(hX z hz).2.1
       rcases a1A.1 h5 with h7|h7
       .obtain⟨p,hp,e⟩:=a1D.1 h7
        obtain⟨o2,T,τ,r,hm,LP,E1,_⟩:=(oj p hp).ex
        have e1:=(hX _ hm).2.1
        simp only at e1
        rw[e,e0] at e1
        simp only[a1w] at e1
        rw[e1]
        simp[dR,o9,LP]
       .obtain⟨p,hp,e⟩:=a1D.1 h7
        have e1:=(hX _ (oS p hp).mem).2.1
        simp only at e1
        rw[e,e0] at e1
        simp only[a1w] at e1
        rw[e1]
        exact (oS p hp).lz
     obtain⟨mm,Xq,hK⟩:=Sv (y:=(i,o)) hK hx GB (by
      simp only[Lb,a0z,a1O,a2U,a2e,a3p,a2k]
      intro z hz
      cases hb:Nat.testBit ((bI ops.toList []).getD i 0) z.1 with
      | false=>exact .inr rfl
      | true=>exact .inl (VN z hz hb).1) (λ x0 xs e hz=>by
      cases hb:Nat.testBit ((bI ops.toList []).getD i 0) x0.1 with
      | false=>rfl
      | true =>
       rcases a1A.1 (VN x0 (by rw[e];simp) hb).2 with h5|h5
       .obtain⟨p,hp,e'⟩:=a1D.1 h5
        exact absurd ⟨x0,xs,p,e,hp,e'⟩ KB
       .obtain⟨p,hp,e'⟩:=a1D.1 h5
        exact absurd ⟨x0,xs,p,e,hp,e'⟩ GC)
     have V6:∀ z,z∈X->z.1≠i->z∈X.filter λ z => !Nat.beq z.1 i:=λ z hz fP=>a2N.2 ⟨hz,by rw[Tn.2 fP];rfl⟩
     have Tk:∀ z,z∈(X.filter λ z => !Nat.beq z.1 i)->z∈X/\z.1≠i:=λ z hz=>⟨(List.mem_filter.1 hz).1,Tn.1 (by simpa using (List.mem_filter.1 hz).2)⟩
     have uj:(X.filter λ z => !Nat.beq z.1 i).length+1=X.length:=NR hx GB
     generalize oX:(X.filter λ z => !Nat.beq z.1 i)=xs at *
     have hxn:(xs.map (·.1)).Nodup:=by rw[<-oX];exact GB.sublist (a4l _ a5y)
     .simp only at Xq hK
      have gQ:∀ j∈R,∃ o',ops.toList[j]?=some o'/\(j,o')∈Rc.filter λ r => !Nat.testBit ((bI ops.toList []).getD i 0) r.1:=λ j hj=>by
       obtain⟨q1,o',q2,q3,_,_⟩:=hR j hj
       refine⟨o',q2,a2N.2 ⟨q3,?_⟩⟩
       simp only[a2k]
       cases hb:Nat.testBit ((bI ops.toList []).getD i 0) j with
       | false=>rfl
       | true=>exact absurd hj ((hl j (by omega)).1 (Au j hb).1).2.1
      have hu:ik (R.filterMap (bG ops.toList)++(PL.map PE.d++SL.map XE.d)) o=true:=oG Xq λ t ht=>by
       rcases a1A.1 ht with ht|ht
       .obtain⟨j,hj,AT⟩:=a3a.1 ht
        obtain⟨o',q2,q3⟩:=gQ j hj
        exact List.mem_append.2 (.inl (iJ.2 ⟨(j,o'),q3,by simpa [bG,q2] using AT⟩))
       .rcases a1A.1 ht with ht|ht
        .obtain⟨p,hp,rfl⟩:=a1D.1 ht
         obtain⟨o2,T,τ,r,hm,bl,E1,_⟩:=(oj p hp).ex
         exact a1A.2 (.inr (nK (V6 _ hm (NW p hp)) (by simp[dR,o9,bl]) E1))
        .obtain⟨p,hp,rfl⟩:=a1D.1 ht
         exact a1A.2 (.inr (nK (V6 _ (oS p hp).mem (NX p hp)) ((oS p hp).lz) (oS p hp).dst))
      have hIz:=hI.fz hZ
      refine UH (hA.exec hu) ?_ ?_ (Hr (c:=c.fz w G.S λ b=>∃ p∈PL,p.b=b) hE hIz hK (Q:=λ _ _ _=>False))
      .rintro x w' ⟨G',s',a0g,hsr⟩
       obtain⟨ug,km⟩:=hI.a0R hZ a0g
       obtain⟨k1,k2⟩:=mB hsr
       refine ih fuel _ xs R PL SL G' s' (a.put o.dst x) (b.put o.dst x) w' _ (by omega) (by omega) (by rw[a2E];exact cj) (λ j hj=>?_) (λ y hy=>hX y (Tk y hy).1) Ih hxn (λ j hj y hy=>Gy j hj y (Tk y hy).1) JV O6 (λ p hp=>?_) (λ e he=>?_) (λ k hk=>?_) QA ug (hA.put λ q hq QO=>absurd hq QO) (λ j hj o' cF=>?_) _ k2
       .obtain⟨q1,o',q2,q3,q4,q7⟩:=hR j hj
        obtain⟨o2,q5,q6⟩:=gQ j hj
        have e:o'=o2:=by rw[q2] at q5;simpa using q5
        subst e
        exact⟨q1,o',q2,q6,q4,q7⟩
       .have h3:=(oj p hp).put (d:=o.dst) (x:=x) (Vu p hp)
        obtain⟨e1,e2⟩:=km p.b ⟨p,hp,rfl⟩
        refine⟨?_,h3.val,h3.ptr,h3.lt,?_,e2⟩
        .obtain⟨o2,T,τ,r,hm,m2,m3,m4,m5⟩:=h3.ex
         exact⟨o2,T,τ,r,V6 _ hm (NW p hp),m2,m3,m4,m5⟩
        .obtain⟨l,ty,q1,q2⟩:=h3.new
         exact⟨l,ty,by rw[e1];exact q1,q2⟩
       .have h3:=(oS e he).put (x:=x) hA.da (Vx e he) (Vy e he)
        exact⟨V6 _ h3.mem (NX e he),h3.dst,h3.val,h3.run⟩
       .rw[uX,hl k hk]
        constructor
        .rintro (⟨q1,q2,q3⟩|rfl)
         .exact⟨q1,q2,q3.imp (λ q y hy=>q y (Tk y hy).1) λ q=>q⟩
         .exact⟨sW,EZ, .inl λ y hy e=>(Tk y hy).2 e⟩
        .rintro⟨q1,q2,q3⟩
         by_cases GK:k=i
         .exact .inr GK
         .refine .inl ⟨q1,q2,q3.imp (λ q y hy=>?_) λ q=>q⟩
          by_cases e:y.1=i
          .rw[e];exact Ne.symm GK
          .exact q y (V6 y hy e)
       .obtain⟨o2,q5,q6⟩:=gQ j hj
        rw[q5] at cF
        simp only[a1w] at cF
        subst cF
        exact k1 (j,o2) q6
      .rintro b' w' ⟨G',s',ug,_⟩
       exact ug.defers
end
end Go.Proofs.YtaaamahdcpcofaaDoor

namespace Go.Proofs.YtaaamahdcpcofaaDoor
theorem wu{bW:List Nat}{p:Nat}(h:L3 bW p=true){j k:Nat}(hj:p<=j)(hl:j<bW.length)(hk:k<p):Nat.testBit (bW.getD j 0) k=true:=by
 unfold L3 at h
 rw[a2e] at h
 have hm:bW[j]∈bW.drop p:=by
  rw[List.mem_iff_getElem?]
  refine⟨j - p,?_⟩
  rw[a3V,show p+(j - p)=j by omega,a2m hl]
 have h1:=a1x (h _ hm)
 rw[a2j,a2m hl,a4i]
 have h2:Nat.testBit (bW[j] % 2 ^ p) k=true:=by rw[h1,Nat.testBit_two_pow_sub_one];simpa using hk
 rw[Nat.testBit_mod_two_pow] at h2
 simp only[a1z] at h2
 exact h2.2
theorem Ot{l:List Oper}{es:List HN}{lo m bits:Nat}{s0:ag}{π π':List Nat}(qV:∀ j k t,lo<=j->j<m->lo<=k->k<m->bG l j=some t->bG l k=some t->j=k)
  (Sn:∀ k∈π,lo<=k/\k<m) (L2:∀ k∈π',lo<=k/\k<m) (hn:π.Nodup) (xe:π'.Nodup) (ha:∀ k,lo<=k->k<m->Nat.testBit bits k=true->k∈π/\k∈π') (t:Nat) (hh:hidden l m bits t=false) :
  (er l es s0 π).sl t=(er l es s0 π').sl t/\(er l es s0 π).ae t=(er l es s0 π').ae t:=by
 by_cases hex:∃ k,lo<=k/\k<m/\bG l k=some t
 .obtain⟨k,cu,hk,hd⟩:=hex
  have hb:Nat.testBit bits k=true:=by
   have:=hh
   unfold hidden at this
   rw[a3i] at this
   have:=this k (by simpa using hk)
   simp only[hd] at this
   simp only[a4G] at this
   simpa using this
  obtain⟨h1,h2⟩:=ha k cu hk hb
  obtain⟨e1,e2⟩:=vw l es t k hd π s0 h1 hn (λ j hj fP AT=>fP (qV j k t (Sn j hj).1 (Sn j hj).2 cu hk AT hd))
  obtain⟨e3,e4⟩:=vw l es t k hd π' s0 h2 xe (λ j hj fP AT=>fP (qV j k t (L2 j hj).1 (L2 j hj).2 cu hk AT hd))
  exact⟨e1.trans e3.symm,e2.trans e4.symm⟩
 .have ky:∀ k,lo<=k->k<m->bG l k≠some t:=λ k hl hk hd=>hex ⟨k,hl,hk,hd⟩
  obtain⟨e1,e2⟩:=iK l es t π s0 (λ k hk=>ky k (Sn k hk).1 (Sn k hk).2)
  obtain⟨e3,e4⟩:=iK l es t π' s0 (λ k hk=>ky k (L2 k hk).1 (L2 k hk).2)
  exact⟨e1.trans e3.symm,e2.trans e4.symm⟩
def gG(lo i:Nat):List Nat:=List.range' lo (i - lo)
theorem yS{lo i k:Nat}:k∈gG lo i↔lo<=k/\k<i:=by
 unfold gG
 rw[List.mem_range'_1]
 omega
theorem Ft(lo i:Nat):(gG lo i).Nodup:=List.nodup_range'
theorem Uz{lo i:Nat}(h:lo<=i):gG lo (i+1)=gG lo i++[i]:=by
 unfold gG
 rw[show i+1 - lo=(i - lo)+1 by omega,List.range'_1_concat,show lo+(i - lo)=i by omega]
theorem MW{E:Env}{l:List Oper}{m lo:Nat}{bW:List Nat}{s0:ag}:∀ (r:List Oper) (i:Nat) (es w9:List HN) (s s':ag),Trace E l m bW i r es s s'->(∀ j o,r[j]?=some o->l[i+j]?=some o)->w9.length=i->lo<=i ->
  s=er l (w9++es) s0 (gG lo i) ->
  (∀ j o,r[j]?=some o->KO E l m (bW.getD (i+j) 0) (er l (w9++es) s0 (gG lo (i+j))) o ((w9++es).getD (i+j) ⟨false, .any,none⟩))/\s'=er l (w9++es) s0 (gG lo (i+r.length))
 | [],i,[],w9,s,s',h,_,_,_,hs=>by
  have h:s=s':=h
  subst h
  exact⟨by simp,by simpa using hs⟩
 | o::r,i,e::es,w9,s,s',h,hl,h0,Zb,hs=>by
  obtain⟨h1,h2⟩:=h
  have ho:l[i]?=some o:=hl 0 o rfl
  have QF:(w9++e::es).getD i ⟨false, .any,none⟩=e:=by simp[a2j,<-h0]
  have cy:s.lr o.dst e.v e.ob=er l ((w9++[e])++es) s0 (gG lo (i+1)):=by
   rw[a2t,Uz Zb,uw,a4c,QF,<-hs]
   simp[bG,ho]
  have ih:=MW r (i+1) es (w9++[e]) _ s' h2 (λ j p hj=>by
   have:=hl (j+1) p (by simpa using hj)
   rwa [show i+(j+1)=i+1+j by omega] at this) (by simp[h0]) (by omega) cy
  rw[a2t,a4c] at ih
  refine⟨λ j p hj=>?_,by rw[ih.2];congr 2;simp;omega⟩
  cases j with
  | zero =>
   simp at hj
   subst hj
   rw[a3w,QF,<-hs]
   exact h1
  | succ j =>
   have:=ih.1 j p (by simpa using hj)
   rwa [show i+1+j=i+(j+1) by omega] at this
 | [],_,_::_,_,_,_,h,_,_,_,_=>h.elim
 | _::_,_,[],_,_,_,h,_,_,_,_=>h.elim
theorem Mq:∀ (l π:List Nat),l.Nodup->(∀ k∈l,k∈π)->l.length<=π.length
 | [],_,_,_=>by simp
 | x::l,π,hn,h=>by
  have xe:=a2o.1 hn
  have hx:=h x (by simp)
  have h1:=Mq l (π.erase x) xe.2 (λ k hk=>by
   have fP:k≠x:=λ e=>by subst e;exact xe.1 hk
   exact (a3O fP).2 (h k (by simp[hk])))
  have h3:=a3B hx
  have:0<π.length:=a3J hx
  simp only[a1M]
  omega
theorem Mp{lo m:Nat}(π:List Nat)(hn:π.Nodup)(h:∀ k∈π,lo<=k/\k<m):π.length<=m - lo:=by
 have h1:(List.range lo++π).Nodup:=by
  rw[a1X]
  refine⟨a4A,hn,λ x hx y hy e=>?_⟩
  simp at hx
  have:=(h y hy).1
  omega
 have h2:=uv (max lo m) (List.range lo++π) h1 (λ k hk=>by
  rcases a1A.1 hk with hk|hk
  .simp at hk;omega
  .have:=(h k hk).2;omega)
 rw[a1T,List.length_range] at h2
 cases π with
 | nil=>simp
 | cons k r =>
  have:=h k (by simp)
  omega
section
variable {c:Ctx} {G:Gh} {s:ag} {a:Act} {w w':World}
theorem Wv(hE:bD c.P c.E){ops:Array Oper}{j:Nat}(dL:backward ops.toList=true)(hj:j<ops.size)(hcut:∀ i,j<i->i<ops.size->Nat.testBit ((bI ops.toList []).getD i 0) j=true)
  {P:ag->Prop} {Q':Exit->Act->World->Prop} {fuel:Nat} {kn:List (Nat×Bool)} {listed:Array Bool} (cj:listed.size=ops.size) (hl:∀ k,k<ops.size->(listed.getD k false=true↔k<j))
  (hI:Inv c G s a w) (hr:gn c.E ops [ops[j]] kn P s)
  (uU:∀ G s a w (listed:Array Bool),listed.size=ops.size->(∀ k,k<ops.size->(listed.getD k false=true↔k<j+1))->Inv c G s a w->P s->wpAny c.P .any ops Q' fuel listed a w):wpAny c.P .any ops Q' (fuel+1) listed a w:=by
 have ho:ops[j]?=some ops[j]:=a2x hj
 constructor
 .intro uV
  have:j∈Region.ready .any ops listed:=(mem_ready cj).2 ⟨_,ho,by
   cases hb:listed.getD j false with
   | false=>rfl
   | true=>have:=(hl j hj).1 hb;omega,λ e he hb=>by
   have:=bY dL j ops[j] (by simp) e he hb
   exact (hl e.on (by omega)).2 this⟩
  rw[uV] at this
  cases this
 .intro i hi
  obtain⟨o,cr,h1,h2⟩:=(mem_ready cj).1 hi
  have BO:=(a2z.1 cr).1
  have Ph:j<=i:=by
   rcases a2B i j with h|h
   .have:=(hl i BO).2 h
    rw[h1] at this
    cases this
   .exact h
  have yo:i=j:=by
   rcases a2B j i with h|h
   .have gQ:=Bh (l:=ops.toList) (D:=λ k=>k<j) (λ k hk o' cF e he hb=>by
     have:=bY dL k o' cF e he hb;omega) i o (by simpa using cr) (λ e he hb=>by
      have bC:=bY dL i o (by simpa using cr) e he hb
      exact (hl e.on (by omega)).1 (h2 e he hb)) j (hcut i h BO)
    omega
   .omega
  subst yo
  have uX:∀ k,k<ops.size->((listed.setIfInBounds i true).getD k false=true↔k<i+1):=λ k hk=>by
   rw[qp (by omega),hl k hk];omega
  unfold wpOp
  simp only[ho]
  have r7:=y8 hE hI hr
  split at r7
  .rename_i hw
   rw[a1S hw]
   exact .inl (a3k (λ a' w' ⟨G',s',dv,h1,h2⟩=>uU G' s' a' w' _ (by rw[a2E];exact cj) uX h1 h2) (r7 Q'))
  .rename_i hw
   rw[a1B hw]
   obtain⟨G',s',dv,h1,h2⟩:=r7
   exact uU G' s' _ w _ (by rw[a2E];exact cj) uX h1 h2
theorem UX(hE:bD c.P c.E){ops:Array Oper}{lo m:Nat}{es:List HN}{s0:ag}(dL:backward ops.toList=true)(hm:m<=ops.size)
  (qU:∀ j o,m<=j->ops.toList[j]?=some o->∀ k,k<m->Nat.testBit ((bI ops.toList []).getD j 0) k=true)
  (a0x:∀ j o,lo<=j->ops.toList[j]?=some o->∀ k,k<lo->Nat.testBit ((bI ops.toList []).getD j 0) k=true)
  (qV:∀ j k t,lo<=j->j<m->k<m->bG ops.toList j=some t->bG ops.toList k=some t->j=k)
  (VG:∀ i o,lo<=i->i<m->ops.toList[i]?=some o->KO c.E ops.toList m ((bI ops.toList []).getD i 0) (er ops.toList es s0 (gG lo i)) o (es.getD i ⟨false, .any,none⟩))
  (EV:∀ i o,lo<=i->i<m->ops.toList[i]?=some o->tz o.dst=true) (rZ:∀ i o t,lo<=i->i<m->ops.toList[i]?=some o->uE o.op=true->o.dst=some t->s0.ae t=none)
  {Q':Exit->Act->World->Prop}
  (LM:∀ (fuel:Nat) (G:Gh) (a:Act) (w:World) (listed:Array Bool),ops.size=m+fuel->listed.size=ops.size->(∀ k,k<ops.size->(listed.getD k false=true↔k<m))->Inv c G (er ops.toList es s0 (gG lo m)) a w->wpAny c.P .any ops Q' fuel listed a w) :
  ∀ (fuel:Nat) (π:List Nat) (G:Gh) (a:Act) (w:World) (listed:Array Bool),ops.size=lo+π.length+fuel->π.Nodup->(∀ k∈π,lo<=k/\k<m)->listed.size=ops.size->(∀ k,k<ops.size->(listed.getD k false=true↔k<lo\/k∈π)) ->
   (∀ k∈π,∀ o,ops.toList[k]?=some o->∀ e∈o.after.toList,Region.binds .any e=true->e.on<lo\/e.on∈π)->lo<=m->Inv c G (er ops.toList es s0 π) a w->wpAny c.P .any ops Q' fuel listed a w:=by
 have VF:∀ j k t,lo<=j->j<m->lo<=k->k<m->bG ops.toList j=some t->bG ops.toList k=some t->j=k:=λ j k t h1 h2 _ h4=>qV j k t h1 h2 h4
 have fin:∀ (fuel:Nat) (π:List Nat) (G:Gh) (a:Act) (w:World) (listed:Array Bool),ops.size=lo+π.length+fuel->π.Nodup->(∀ k∈π,lo<=k/\k<m)->listed.size=ops.size->(∀ k,k<ops.size->(listed.getD k false=true↔k<lo\/k∈π)) ->
   lo<=m->(∀ k,lo<=k->k<m->k∈π)->Inv c G (er ops.toList es s0 π) a w->wpAny c.P .any ops Q' fuel listed a w:=by
  intro fuel π G a w listed hf hn bC cj hl Pk nw hI
  have hlen:=Mp π hn bC
  have Ph:m - lo<=π.length:=by
   have h2:(gG lo m).length<=π.length:=Mq (gG lo m) π (Ft lo m) λ k hk=>nw k (yS.1 hk).1 (yS.1 hk).2
   simpa [gG] using h2
  have heq:∀ t,(er ops.toList es s0 π).sl t=(er ops.toList es s0 (gG lo m)).sl t/\(er ops.toList es s0 π).ae t=(er ops.toList es s0 (gG lo m)).ae t:=λ t =>
   Ot (bits:=2 ^ m - 1) VF bC (λ k hk=>yS.1 hk) hn (Ft lo m) (λ k cu hk _=>⟨nw k cu hk,yS.2 ⟨cu,hk⟩⟩) t (by
    unfold hidden
    rw[a3i]
    intro k hk
    simp only[a3I] at hk
    split
    .split
     .simp[a3L,hk]
     .simp
    .simp)
  refine LM fuel G a w listed (by omega) cj (λ k hk=>?_) ?_
  .rw[hl k hk]
   constructor
   .rintro (h|h)
    .omega
    .exact (bC k h).2
   .intro h
    rcases a2B k lo with h'|h'
    .exact .inl h'
    .exact .inr (nw k h' h)
  .unfold Inv at hI ⊢
   rw[GZ] at hI ⊢
   rw[<-funext λ t=>(heq t).1,<-funext λ t=>(heq t).2]
   exact hI
 intro fuel
 induction fuel with
 | zero =>
  intro π G a w listed hf hn bC cj hl uQ Pk hI
  refine fin 0 π G a w listed hf hn bC cj hl Pk (λ k cu hk=>?_) hI
  cases hb:decide (k∈π) with
  | true=>exact a2d hb
  | false =>
   have:=Mp (lo:=lo) (m:=m) (k::π) (a2o.2 ⟨a3e hb,hn⟩) (λ j hj=>by
    rcases a1N.1 hj with rfl|hj
    .exact⟨cu,hk⟩
    .exact bC j hj)
   simp at this
   omega
 | succ fuel ih =>
  intro π G a w listed hf hn bC cj hl uQ Pk hI
  by_cases nw:∀ k,lo<=k->k<m->k∈π
  .exact fin (fuel+1) π G a w listed hf hn bC cj hl Pk nw hI
  ·
   have hex:∃ k,lo<=k/\k<m/\k∉π/\∀ j,lo<=j->j<k->j∈π:=by
    have:∀ n,(∃ k,k<n/\lo<=k/\k<m/\k∉π)->∃ k,lo<=k/\k<m/\k∉π/\∀ j,lo<=j->j<k->j∈π:=by
     intro n
     induction n with
     | zero=>rintro⟨k,hk,_⟩;omega
     | succ n Zx =>
      rintro⟨k,hk,JY,Y6,xd⟩
      by_cases hs:∃ k,k<n/\lo<=k/\k<m/\k∉π
      .exact Zx hs
      .refine⟨k,JY,Y6,xd,λ j Sd hj=>?_⟩
       cases hb:decide (j∈π) with
       | true=>exact a2d hb
       | false=>exact absurd ⟨j,by omega,Sd,by omega,a3e hb⟩ hs
    refine this m ?_
    obtain⟨k,hk⟩:=a5n.1 nw
    have h2:=a4T.1 hk
    have h3:=a4T.1 h2.2
    exact⟨k,h3.1,h2.1,h3.1,h3.2⟩
   obtain⟨k0,a1t,Tg,ui,QK⟩:=hex
   have QG:ops[k0]?=some (ops[k0]'(by omega)):=a2x (by omega)
   constructor
   .intro uV
    have:k0∈Region.ready .any ops listed:=(mem_ready cj).2 ⟨_,QG,by
     cases hb:listed.getD k0 false with
     | false=>rfl
     | true =>
      rcases (hl k0 (by omega)).1 hb with h|h
      .omega
      .exact absurd h ui,λ e he hb=>by
     have QJ:=bY dL k0 ops[k0] (by simp) e he hb
     refine (hl e.on (by omega)).2 ?_
     rcases a2B e.on lo with h|h
     .exact .inl h
     .exact .inr (QK e.on h QJ)⟩
    rw[uV] at this
    cases this
   .intro i hi
    obtain⟨o,cr,h1,h2⟩:=(mem_ready cj).1 hi
    have BO:=(a2z.1 cr).1
    have ff:ops.toList[i]?=some o:=by simpa using cr
    have AU:¬ (i<lo\/i∈π):=λ hh=>by
     have:=(hl i BO).2 hh
     rw[h1] at this
     cases this
    have uh:i∉π:=λ h=>AU (.inr h)
    have Xg:lo<=i:=by
     rcases a2B i lo with h|h
     .exact absurd (.inl h) AU
     .exact h
    have LK:∀ e∈o.after.toList,Region.binds .any e=true->e.on<lo\/e.on∈π:=λ e he hb=>by
     have QJ:=bY dL i o ff e he hb
     exact (hl e.on (by omega)).1 (h2 e he hb)
    have Au:=Bh (l:=ops.toList) (D:=λ k=>k<lo\/k∈π) (λ k hk o' cF e he hb=>by
     rcases hk with hk|hk
     .have:=bY dL k o' cF e he hb
      exact .inl (by omega)
     .exact uQ k hk o' cF e he hb) i o ff LK
    have sW:i<m:=by
     rcases a2B i m with h|h
     .exact h
     .rcases Au k0 (qU i o h ff k0 Tg) with h|h
      .omega
      .exact absurd h ui
    have GD:=Bh (l:=ops.toList) (D:=λ k=>k<i) (λ k hk o' cF e he hb=>by
     have:=bY dL k o' cF e he hb;omega) i o ff (λ e he hb=>bY dL i o ff e he hb)
    have E2:=λ t hh=>Ot (l:=ops.toList) (es:=es) (s0:=s0) (lo:=lo) (m:=m) (bits:=(bI ops.toList []).getD i 0) (π:=π) (π':=gG lo i) VF bC (λ k hk=>by have:=yS.1 hk;omega) hn (Ft lo i)
     (λ k cu hk hb=>⟨by
      rcases Au k hb with h|h
      .omega
      .exact h,yS.2 ⟨cu,GD k hb⟩⟩) t hh
    obtain⟨hg,cH,Sh⟩:=VG i o Xg sW ff
    have c8:Na ops.toList m ((bI ops.toList []).getD i 0) (er ops.toList es s0 (gG lo i))=Na ops.toList m ((bI ops.toList []).getD i 0) (er ops.toList es s0 π):=by
     funext x
     cases x with
     | tmp t =>
      simp only[Na]
      split
      .rfl
      .rename_i hh
       exact ((E2 t hh).1).symm
     | _=>rfl
    have cu:J7 ops.toList m ((bI ops.toList []).getD i 0) (er ops.toList es s0 (gG lo i))=J7 ops.toList m ((bI ops.toList []).getD i 0) (er ops.toList es s0 π):=by
     funext t
     simp only[J7]
     split
     .rfl
     .rename_i hh
      exact ((E2 t hh).2).symm
    have QE:iv ops.toList ((bI ops.toList []).getD i 0) (er ops.toList es s0 π) o (es.getD i ⟨false, .any,none⟩).DC:=by
     unfold iv at hg ⊢
     split
     .rename_i xe
      simpa [xe] using hg
     .rename_i g want xe
      simp only[xe] at hg
      obtain⟨t,b,q1,q2,q3,q4⟩:=hg
      refine⟨t,b,q1,q2,?_,q4⟩
      have Y2:g<m:=Nat.lt_trans (GD g q2) sW
      have hh:hidden ops.toList m ((bI ops.toList []).getD i 0) t=false:=by
       unfold hidden
       rw[a3i]
       intro k hk
       simp only[a3I] at hk
       split
       .rename_i d hd
        split
        .rename_i ym
         have ym:=a1x ym
         subst ym
         rcases a2B k lo with JY|JY
         .rw[a0x i o Xg ff k JY];simp
         .have:=qV k g d JY hk Y2 hd q1
          subst this
          rw[q2];simp
        .simp
       .simp
      exact ((E2 t hh).1).trans q3
    have hw:=DX (ops:=ops) rfl hI QE
    have uU:∀ (G':Gh) (a':Act) (w':World),Inv c G' (er ops.toList es s0 (π++[i])) a' w'->wpAny c.P .any ops Q' fuel (listed.setIfInBounds i true) a' w':=by
     intro G' a' w' ug
     refine ih (π++[i]) G' a' w' _ (by simp;omega) ?_ ?_ (by rw[a2E];exact cj) ?_ ?_ Pk ug
     .rw[a1X]
      exact⟨hn,by simp,λ x hx y hy=>by simp at hy;subst hy;exact λ e=>uh (e ▸ hx)⟩
     .intro k hk
      rcases a1A.1 hk with hk|hk
      .exact bC k hk
      .simp at hk;omega
     .intro k hk
      rw[qp (by omega),hl k hk]
      simp[or_assoc]
     .intro k hk o' cF e he hb
      rcases a1A.1 hk with hk|hk
      .exact (uQ k hk o' cF e he hb).imp id (a3N _)
      .simp at hk
       subst hk
       rw[ff] at cF
       simp only[a1w] at cF
       subst cF
       exact (LK e he hb).imp id (a3N _)
    have EX:bG ops.toList i=o.dst:=by simp[bG,ff]
    unfold wpOp
    simp only[cr]
    cases GP:(es.getD i ⟨false, .any,none⟩).DC with
    | true =>
     rw[GP] at hw
     rw[a1S hw]
     obtain⟨vc,hq,fi⟩:=cH GP
     rw[c8,cu] at hq
     refine .inl (a3k ?_ (Fo hE hI (lk':=J7 ops.toList m ((bI ops.toList []).getD i 0) (er ops.toList es s0 π)) ?_ ?_ hq fi))
     .intro a' w' hd
      obtain⟨G',oo⟩:=Jx hI (EV i o Xg sW ff) (λ t ob ym J1=>by
       rw[J1] at hq
       have R9:=Hn hq
       have h0:=rZ i o t Xg sW ff R9 ym
       have yp:=(iK ops.toList es t π s0 (λ k hk Y5=>by
        have:=qV k i t (bC k hk).1 (bC k hk).2 sW Y5 (by rw[EX];exact ym)
        subst this
        exact uh hk)).2
       rw[yp,h0]) hd
      refine uU G' a' w' ?_
      rw[uw,EX]
      exact oo
     .intro id ob aN
      unfold J7 at aN
      split at aN
      .cases aN
      .exact aN
     .intro x
      cases x with
      | tmp t =>
       simp only[Na]
       split
       .trivial
       .exact bf hI (.tmp t)
      | const v=>exact bf hI (.const v)
      | global g=>exact bf hI (.global g)
      | func f=>exact bf hI (.func f)
    | false =>
     rw[GP] at hw
     rw[hw]
     obtain⟨hv,J1⟩:=Sh GP
     refine uU G _ w ?_
     rw[uw,EX,hv,J1,Is]
     exact Inv.put (v := .eV) hI rfl
theorem Cu{α:Type}{l:List α}{lo hi j:Nat}{o:α}(h:((l.take hi).drop lo)[j]?=some o):l[lo+j]?=some o/\lo+j<hi:=by
 rw[a3V,a2Z] at h
 split at h
 .rename_i bC;exact⟨h,bC⟩
 .cases h
theorem kX{α:Type}{l:List α}{lo hi i:Nat}{o:α}(h:l[i]?=some o)(h1:lo<=i)(h2:i<hi):((l.take hi).drop lo)[i - lo]?=some o:=by
 rw[a3V,a2Z,show lo+(i - lo)=i by omega,a1S h2,h]
theorem px:∀ {l:List (Option Nat)},rU l=true->∀ (i j t:Nat),l[i]?=some (some t)->l[j]?=some (some t)->i=j
 | [],_,i,j,t,h,_=>by simp at h
 | none::r,h,i,j,t,hi,hj=>by
  cases i with
  | zero=>simp at hi
  | succ i =>
   cases j with
   | zero=>simp at hj
   | succ j=>rw[px (l:=r) h i j t (by simpa using hi) (by simpa using hj)]
 | some d::r,h,i,j,t,hi,hj=>by
  simp only[rU] at h
  split at h
  .cases h
  .rename_i Qy
   rw[a3i] at Qy
   have no:∀ k:Nat,r[k]?=some (some d)->False:=λ k hk=>by
    have:=Qy _ (a2A hk)
    simp at this
   cases i with
   | zero =>
    simp at hi
    subst hi
    cases j with
    | zero=>rfl
    | succ j=>exact (no j (by simpa using hj)).elim
   | succ i =>
    cases j with
    | zero =>
     simp at hj
     subst hj
     exact (no i (by simpa using hi)).elim
    | succ j=>rw[px (l:=r) h i j t (by simpa using hi) (by simpa using hj)]
theorem DW{l:List Oper}{lo hi:Nat}(h:BE l lo hi=true):∀ j k t,lo<=j->j<hi->k<hi->bG l j=some t->bG l k=some t->j=k:=by
 unfold BE at h
 rw[a1z,a1z] at h
 obtain⟨⟨_,h1⟩,h2⟩:=h
 have hd:=px h1
 have get:∀ j t,bG l j=some t->∃ o,l[j]?=some o/\o.dst=some t:=by
  intro j t h
  unfold bG at h
  simp only[a2W] at h
  exact h
 intro j k t hj hjh hkh GJ Y8
 obtain⟨o,ho,QM⟩:=get j t GJ
 obtain⟨o',cF,Yh⟩:=get k t Y8
 have g1:=kX ho hj hjh
 rcases a2B k lo with hk|hk
 .rw[a2e] at h2
  have hm:o'∈l.take lo:=a2A (by rw[a2Z,a1S hk];exact cF)
  have:=h2 o' hm
  rw[Yh] at this
  simp only[a2k] at this
  rw[a3i] at this
  have:=this o (a2A g1)
  rw[QM] at this
  simp at this
 .have g2:=kX cF hk hkh
  have:=hd (j - lo) (k - lo) t (by rw[a3d,g1];simp[QM]) (by rw[a3d,g2];simp[Yh])
  omega
theorem Qu{l:List Oper}{lo hi:Nat}(h:BE l lo hi=true){i:Nat}{o:Oper}(h1:lo<=i)(h2:i<hi)(ho:l[i]?=some o):tz o.dst=true:=by
 unfold BE at h
 rw[a1z,a1z] at h
 exact a2e.1 h.1.1 o (a2A (kX ho h1 h2))
theorem Ca{i:Nat}{o:Oper}:∀ {l:List Oper} {lo:Nat},(i,o)∈ng lo l↔∃ j,i=lo+j/\l[j]?=some o
 | [],lo=>by simp[ng]
 | x::l,lo=>by
  simp only[ng,a1N,a1y,Ca (l:=l)]
  constructor
  .rintro (⟨rfl,rfl⟩|⟨j,rfl,h⟩)
   .exact⟨0,rfl,rfl⟩
   .exact⟨j+1,by omega,by simpa using h⟩
  .rintro⟨j,rfl,h⟩
   cases j with
   | zero=>simp at h;exact .inl ⟨rfl,h.symm⟩
   | succ j=>exact .inr ⟨j,by omega,by simpa using h⟩
theorem Ef:∀ (l:List Oper) (lo:Nat),((ng lo l).map (·.1)).Nodup
 | [],lo=>a2L
 | x::l,lo=>by
  simp only[ng,a2p,a2o]
  refine⟨λ h=>?_,Ef l (lo+1)⟩
  obtain⟨⟨i,o⟩,h1,h2⟩:=a1D.1 h
  obtain⟨j,h3,_⟩:=Ca.1 h1
  simp only at h2
  omega
theorem oO.mono{D D':List Nat}{a b:Act}(h:oO D a b)(hs:∀ t∈D,t∈D'):oO D' a b:=⟨h.size,h.da,h.db,λ t ht=>h.at' t λ q=>ht (hs t q)⟩
theorem JG:∀ (l:List Oper) (lo:Nat),(ng lo l).length=l.length
 | [],lo=>rfl
 | x::l,lo=>by simp[ng,JG l]
theorem Gl{α:Type}(p:α->Bool):∀ l:List α,(l.filter p).length+(l.filter λ x => !p x).length=l.length
 | []=>rfl
 | x::l=>by
  have:=Gl p l
  cases h:p x<;>simp[a4Y,h]<;>omega
theorem JH(hE:bD c.P c.E){ops:Array Oper}(dL:backward ops.toList=true){Q:ag->Prop}{Q':Exit->Act->World->Prop}(hQ:∀ G s a w,Inv c G s a w->Q s->Q' .normal a w) :
  ∀ (Ta:List Nat) (lo:Nat) (kn:List (Nat×Bool)) (fuel:Nat) (G:Gh) (s:ag) (a:Act) (w:World) (listed:Array Bool),ops.size=lo+fuel->listed.size=ops.size->(∀ k,k<ops.size->(listed.getD k false=true↔k<lo))->Inv c G s a w ->
   sR c.E ops ops.toList (bI ops.toList []) Ta lo kn Q s->wpAny c.P .any ops Q' fuel listed a w:=by
 obtain⟨r,YP,YQ,_⟩:=vT ops.toList []
 have LD:(bI ops.toList []).length=ops.size:=by rw[YP];simpa using YQ
 intro Ta
 induction Ta with
 | nil =>
  intro lo kn fuel G s a w listed hf cj hl hI hr
  simp only[sR] at hr
  split at hr
  .rename_i hb
   have hb:=a1x hb
   have Zb:lo=ops.size:=by simpa using hb
   have h0:fuel=0:=by omega
   subst h0
   refine⟨?_,hQ _ _ _ _ hI hr⟩
   apply a3q.2
   intro i hi
   obtain⟨o,ho,h1,_⟩:=(mem_ready cj).1 hi
   have bC:=(a2z.1 ho).1
   have:=(hl i bC).2 (by omega)
   rw[h1] at this
   cases this
  .exact hr.elim
 | cons hi Ta ih =>
  intro lo kn fuel G s a w listed hf cj hl hI hr
  simp only[sR] at hr
  split at hr
  case h_2=>exact hr.elim
  case h_1 hc =>
  simp only[a1z,a4k,Nat.ble_eq,a2y] at hc
  obtain⟨LJ,YT,hc2,hc3⟩:=hc
  split at hr
  .rename_i hb
   have hb:=a1x hb
   subst hb
   have bC:lo<ops.size:=by omega
   obtain⟨fuel,rfl⟩:∃ f,fuel=f+1:=⟨fuel - 1,by omega⟩
   have BQ:(ops.toList.take (lo+1)).drop lo=[ops[lo]]:=by
    rw[List.drop_take,show lo+1 - lo=1 by omega,List.drop_eq_getElem_cons (by simpa using bC)]
    simp
   rw[BQ] at hr
   refine Wv hE dL bC (λ i h1 h2=>wu LJ (by omega) (by omega) (by omega)) cj hl hI hr ?_
   intro G s a w listed cj hl hI hp
   exact ih (lo+1) kn fuel G s a w listed (by omega) cj hl hI hp
  .split at hr
   case h_3=>exact hr.elim
   case h_1 Dt TT =>
    unfold S7 at hr
    split at hr
    case h_2=>exact hr.elim
    case h_1 je =>
    have wm:∀ i o,(i,o)∈ng lo ((ops.toList.take hi).drop lo)↔lo<=i/\i<hi/\ops.toList[i]?=some o:=λ i o=>by
     rw[Ca]
     constructor
     .rintro⟨j,rfl,h⟩
      obtain⟨h1,h2⟩:=Cu h
      exact⟨by omega,h2,h1⟩
     .rintro⟨h1,h2,h3⟩
      exact⟨i - lo,by omega,kX h3 h1 h2⟩
    have dq:=Ef ((ops.toList.take hi).drop lo) lo
    have Dw:(ng lo ((ops.toList.take hi).drop lo)).length=hi - lo:=by rw[JG];simp;omega
    have wk:∀ x∈ng lo ((ops.toList.take hi).drop lo),∀ y∈ng lo ((ops.toList.take hi).drop lo),∀ t,x.2.dst=some t->y.2.dst=some t->x.1=y.1:=λ x hx y hy t hxt hyt=>by
     have h1:=(wm x.1 x.2).1 hx
     have h2:=(wm y.1 y.2).1 hy
     exact DW Dt x.1 y.1 t h1.1 h1.2.1 h2.2.1 (by simp[bG,h1.2.2,hxt]) (by simp[bG,h2.2.2,hyt])
    generalize ng lo ((ops.toList.take hi).drop lo)=gG at *
    simp only[Wj,a1z,a2e] at je
    obtain⟨t,b,q1,q2,q3⟩:=JB hE hI hr
    obtain⟨q4,q5⟩:=mB q3
    have VZ:∀ p:Nat×Oper->Bool,((gG.filter p).map (·.1)).Nodup:=λ p=>dq.sublist (a4l _ a5y)
    have Zs:∀ x∈gG,∀ y∈gG,x.1=y.1->x=y:=λ x hx y hy e=>by
     obtain⟨x1,x2⟩:=x
     obtain⟨y1,y2⟩:=y
     simp only at e
     subst e
     have h1:=((wm _ _).1 hx).2.2
     rw[((wm _ _).1 hy).2.2] at h1
     simp only[a1w] at h1
     rw[h1]
    refine Q0 hE (hi:=hi) (Seg:=gG) dL hc3 ?_ (λ x hx=>by simpa using (je.1 x hx).1) (λ x hx=>(je.1 x hx).2) ?_ wk (λ fuel G s a w listed hf cj hl hI hp=>ih hi kn fuel G s a w listed (by omega) cj hl hI hp) (fuel+(E7 (bI ops.toList []) (gG.filter λ r => !oE c.E (bI ops.toList []) gG r)).length) fuel (gG.filter (oE c.E (bI ops.toList []) gG)) (E7 (bI ops.toList []) (gG.filter λ r => !oE c.E (bI ops.toList []) gG r))
     ((gG.filter (oE c.E (bI ops.toList []) gG)).map (·.1)) [] [] G t a b w listed (a2u _) ?_ cj ?_ ?_ (VZ _) ((((lK _ _).map (·.1)).nodup_iff).2 (VZ _)) ?_ a2L a2L (λ p hp=>by cases hp) (λ p hp=>by cases hp) ?_ ?_ ?_ ?_ ?_ gG.length ?_
    .intro j o hj ho k hk
     have:=(a2a.1 ho).1
     exact wu LJ hj (by rw[LD];simpa using this) hk
    .intro x hx he
     have:=je.2 x hx
     simpa [he] using this
    .rw[a2J,(lK _ _).length_eq,Gl,Dw,a2b,a2b];omega
    .intro i oV
     obtain⟨⟨i',o⟩,h1,rfl⟩:=a1D.1 oV
     obtain⟨h2,h3⟩:=a2N.1 h1
     have h4:=(wm _ _).1 h2
     refine⟨h4.2.1,o,h4.2.2,h1,h2,?_⟩
     have:=je.2 _ h2
     rw[h3] at this
     have fP:lW o.op=false:=by
      have:=AN (op:=o.op) (by simp only[oE,Hp,a1z] at h3;exact h3.1.1)
      simp only[dR,a5q] at this
      exact this.2.1
     exact⟨h3,by simpa [fP] using this⟩
    .intro x hx
     have hx:=(lK _ _).mem_iff.1 hx
     have h2:=(a2N.1 hx).1
     have h4:=(wm _ _).1 h2
     exact⟨h4.2.1,h4.2.2,h2⟩
    .intro i oV x hx e
     have hx:=(lK _ _).mem_iff.1 hx
     obtain⟨y,h1,rfl⟩:=a1D.1 oV
     obtain⟨h2,h3⟩:=a2N.1 h1
     obtain⟨h4,h5⟩:=a2N.1 hx
     have:=Zs _ h2 _ h4 e
     subst this
     rw[h3] at h5
     cases h5
    .intro k hk
     rw[hl k hk]
     constructor
     .intro h
      refine⟨by omega,λ hm=>?_, .inl λ x hx e=>?_⟩
      .obtain⟨y,h1,rfl⟩:=a1D.1 hm
       have:=((wm _ _).1 (a2N.1 h1).1).1
       omega
      .have:=((wm _ _).1 (a2N.1 ((lK _ _).mem_iff.1 hx)).1).1
       omega
     .rintro⟨h1,h2,h3⟩
      have h3:=h3.resolve_right (by simp)
      rcases a2B k lo with h|h
      .exact h
      .have hm:(k,ops[k])∈gG:=(wm _ _).2 ⟨h,h1,by simp⟩
       cases hr:oE c.E (bI ops.toList []) gG (k,ops[k]) with
       | true=>exact absurd (a1D.2 ⟨_,a2N.2 ⟨hm,hr⟩,rfl⟩) h2
       | false=>exact absurd rfl (h3 _ ((lK _ _).mem_iff.2 (a2N.2 ⟨hm,by simp[hr]⟩)))
    .intro k hk JY o ho e he hb
     have h1:=bY dL k o ho e he hb
     have h2:=(hl k hk).1 JY
     exact (hl e.on (by omega)).2 (by omega)
    .exact q1
    .refine q2.mono λ d hd=>?_
     obtain⟨r,h1,h2⟩:=iJ.1 hd
     have h4:=(wm _ _).1 (a2N.1 h1).1
     exact a1A.2 (.inl (a3a.2 ⟨r.1,a1D.2 ⟨r,h1,rfl⟩,by simp[bG,h4.2.2,h2]⟩))
    .intro i oV o ho
     obtain⟨⟨i',o'⟩,h1,rfl⟩:=a1D.1 oV
     have h4:=((wm _ _).1 (a2N.1 h1).1).2.2
     simp only at ho
     rw[h4] at ho
     simp only[a1w] at ho
     subst ho
     exact q4 _ h1
    .exact q5
   case h_2 Dt TT =>
   have qV:=DW Dt
   obtain⟨es,dv,s',AX,hq⟩:=sD hr
   have hlen:((ops.toList.take hi).drop lo).length=hi - lo:=by simp;omega
   obtain⟨QP,Si⟩:=MW (lo:=lo) (s0:=((ops.toList.take hi).drop lo).foldl ag.fresh s) ((ops.toList.take hi).drop lo) lo es (List.replicate lo ⟨false, .any,none⟩) _ s' AX (λ j o ho=>(Cu ho).1) (by simp) (a2u _) (by simp[gG,er])
   rw[hlen,show lo+(hi - lo)=hi by omega] at Si
   subst Si
   have Vs:Inv c G (((ops.toList.take hi).drop lo).foldl ag.fresh s) a w:=zt _ hI
   refine UX hE (lo:=lo) (m:=hi) (es:=List.replicate lo ⟨false, .any,none⟩++es) (s0:=((ops.toList.take hi).drop lo).foldl ag.fresh s) dL hc3 ?_ ?_ qV ?_ (λ i o h1 h2 ho=>Qu Dt h1 h2 ho) ?_ ?_ fuel [] G a w listed (by simp;omega) (by simp) (by simp) cj (by simpa using hl) (by simp) (by omega) Vs
   .intro j o hj ho k hk
    have:=(a2a.1 ho).1
    exact wu LJ hj (by rw[LD];simpa using this) hk
   .intro j o hj ho k hk
    have:=(a2a.1 ho).1
    exact wu YT hj (by rw[LD];simpa using this) hk
   .intro i o h1 h2 ho
    have:=QP (i - lo) o (kX ho h1 h2)
    rwa [show lo+(i - lo)=i by omega] at this
   .intro i o t h1 h2 ho R9 ym
    exact (xb ((ops.toList.take hi).drop lo) s t).2 o (a2A (kX ho h1 h2)) R9 ym
   .intro fuel G a w listed hf cj hl hI
    exact ih hi dv fuel G _ a w listed (by omega) cj hl hI (L6 hI hq)
theorem JQ(hE:bD c.P c.E)(je:c.P.follows .mixedOrders=true){id:Nat}{ops:Array Oper}{Q:ag->Prop}{Q':Exit->Act->World->Prop}(hQ:∀ G s a w,Inv c G s a w->Q s->Q' .normal a w)
  (h:Inv c G s a w) (hd:HT c.E ops Q s):(Code.region id ops true).wp c.P Q' a w:=by
 unfold HT at hd
 simp only at hd
 split at hd
 .exact K4 hE je hQ h hd
 .split at hd
  case h_2=>exact hd.elim
  case h_1 dL =>
  refine a5t je ?_
  exact JH hE dL hQ _ 0 [] ops.size G s a _ _ (by simp) (by simp) (by intro k hk;simp[hk]) (bc.drew h) hd
end
end Go.Proofs.YtaaamahdcpcofaaDoor

namespace Go.Proofs.YtaaamahdcpcofaaDoor
theorem RU(ρ:Operand->Value)(o:Oper):execOp ρ (Bn o)=execOp ρ o:=rfl
theorem NN(ρ:Operand->Value)(o:Oper)(v:KV)(hc:ρ (.const v.val)=v.val):execOp ρ (rK o v)=pure (.value v.val):=by
 show (pure (.value (ρ (.const v.val))):Sem Next)=_
 rw[hc]
theorem nI{α:Type}(k:Nat)(o:α)(l:List (Nat×α))(j:Nat):ae ((k,o)::l) j=if j=k then some o else ae l j:=by
 have e:ae ((k,o)::l) j=match Nat.beq k j with
  | true=>some o
  | false=>ae l j:=rfl
 rw[e]
 split
 .rename_i h;rw[a1S (a1x h).symm]
 .rename_i h;rw[a1B (λ q=>by subst q;rw[a4G] at h;cases h)]
theorem uZ{l:List Oper}{t:Nat}:isDst l t=true↔∃ o∈l,o.dst=some t:=by
 unfold isDst
 rw[a4C]
 constructor
 .rintro⟨o,h1,h2⟩
  refine⟨o,h1,?_⟩
  split at h2
  .rename_i d hd;rw[hd,a1x h2]
  .cases h2
 .rintro⟨o,h1,h2⟩
  exact⟨o,h1,by rw[h2];simp⟩
theorem Q7{l:List Oper}{o:Oper}{t:Nat}(h:Pz l o t=true):isDst l t=false\/∃ e∈o.after.toList,Region.binds .any e=true/\bG l e.on=some t:=by
 unfold Pz at h
 rw[a3p] at h
 rcases h with h|h
 .exact .inl (by simpa using h)
 .rw[a4C] at h
  obtain⟨e,h1,h2⟩:=h
  rw[a1z] at h2
  refine .inr ⟨e,h1,h2.1,?_⟩
  have:=h2.2
  split at this
  .rename_i d hd;rw[hd,a1x this]
  .cases this
section
variable (l:List Oper)
def OV(kn:List (Nat×KV))(o:Oper)(x:Operand)(v:KV):Prop :=
 x = .const v.val\/∃ t,x = .tmp t/\ae kn t=some v/\Pz l o t=true
def WT(kn:List (Nat×KV))(o:Oper)(v:KV):Prop :=
 (∃ x,o.op = .move x/\OV l kn o x v)\/(∃ c x y,o.op = .pick c x y/\((OV l kn o c (.b true)/\OV l kn o x v)\/(OV l kn o c (.b false)/\OV l kn o y v)))
def pq(kn:List (Nat×KV))(o:Oper)(b:Bool):Prop:=match o.guard with
 | none=>b=true
 | some (g,want)=>(∃ e∈o.after.toList,Region.binds .any e=true/\e.on=g)/\∃ t v,bG l g=some t/\ae kn t=some v/\(match v with
  | .b x=>b=(x == want)
  | .no=>b=false)
def I1(kn:List (Nat×KV))(n:Nat)(o o':Oper):Prop :=
 (pq l kn o true/\o'=Bn o)\/(pq l kn o true/\∃ v d,o'=rK o v/\o.dst=some d/\d<n/\WT l kn o v)\/(pq l kn o false/\o'=rK o .no)
def vR(kn dv:List (Nat×KV)):Prop:=∀ t v,ae kn t=some v->ae dv t=some v
def JO(p q:List Oper)(a:Act)(kn:List (Nat×KV)):Prop:=∀ t v,ae kn t=some v ->
 (isDst l t=false/\a.tmps.getD t undef=v.val)\/(∃ (i:Nat) (o:Oper),p[i]?=some o/\o.dst=some t/\q[i]?=some (rK o v)/\(v = .no\/t<a.tmps.size))
end
variable {l:List Oper}
theorem OV.mono{kn dv:List (Nat×KV)}(hm:vR kn dv){o:Oper}{x:Operand}{v:KV}(h:OV l kn o x v):OV l dv o x v :=
 h.imp id λ ⟨t,h1,h2,h3⟩=>⟨t,h1,hm _ _ h2,h3⟩
theorem WT.mono{kn dv:List (Nat×KV)}(hm:vR kn dv){o:Oper}{v:KV}(h:WT l kn o v):WT l dv o v :=
 h.imp (λ ⟨x,h1,h2⟩=>⟨x,h1,h2.mono hm⟩) λ ⟨c,x,y,h1,h2⟩=>⟨c,x,y,h1,h2.imp (λ h=>⟨h.1.mono hm,h.2.mono hm⟩) λ h=>⟨h.1.mono hm,h.2.mono hm⟩⟩
theorem pq.mono{kn dv:List (Nat×KV)}(hm:vR kn dv){o:Oper}{b:Bool}(h:pq l kn o b):pq l dv o b:=by
 unfold pq at h ⊢
 split at h
 .exact h
 .obtain⟨h1,t,v,h2,h3,h4⟩:=h
  exact⟨h1,t,v,h2,hm _ _ h3,h4⟩
theorem I1.mono{kn dv:List (Nat×KV)}(hm:vR kn dv){n:Nat}{o o':Oper}(h:I1 l kn n o o'):I1 l dv n o o' :=
 h.imp (λ h=>⟨h.1.mono hm,h.2⟩) (Or.imp (λ ⟨h1,v,d,h2,h3,h4,h5⟩=>⟨h1.mono hm,v,d,h2,h3,h4,h5.mono hm⟩) λ h=>⟨h.1.mono hm,h.2⟩)
theorem vR.trans{a b c:List (Nat×KV)}(h:vR a b)(h':vR b c):vR a c:=λ t v q=>h' t v (h t v q)
theorem JO.app{p q:List Oper}{a:Act}{kn:List (Nat×KV)}(h:JO l p q a kn)(hl:p.length=q.length)(o o':Oper):JO l (p++[o]) (q++[o']) a kn:=λ t v hv =>
 (h t v hv).imp id λ ⟨i,x,h1,h2,h3,h4⟩=>⟨i,x,by rw[a2M (a2a.1 h1).1];exact h1,h2,by rw[a2M (a2a.1 h3).1];exact h3,h4⟩
theorem oi{kn:List (Nat×KV)}{o:Oper}{b:Bool}(h:KA l o kn=some b):pq l kn o b:=by
 unfold KA at h
 unfold pq
 split at h
 .rename_i hg;rw[hg];simpa using h.symm
 .rename_i g want hg
  rw[hg]
  split at h
  .rename_i ha
   rw[a4C] at ha
   obtain⟨e,h1,h2⟩:=ha
   rw[a1z] at h2
   refine⟨⟨e,h1,h2.1,a1x h2.2⟩,?_⟩
   split at h
   .rename_i t ht
    split at h
    .rename_i x hx;exact⟨t,_,ht,hx,by simpa using h.symm⟩
    .rename_i hx;exact⟨t,_,ht,hx,by simpa using h.symm⟩
    .cases h
   .cases h
  .cases h
section
variable {c:Ctx} {G:Gh} {a:Act} {w:World}
theorem wV{o:Oper}{x:Operand}{kn:List (Nat×KV)}{s:ag}{K:KV->List (Nat×KV)->ag->Prop}{p q:List Oper}(hI:Inv c G s a w)(hk:JO l p q a kn)(h:I0 l o x kn s K) :
  ∃ v dv s',Inv c G s' a w/\JO l p q a dv/\vR kn dv/\(∀ t,ae kn t=none->isDst l t=true->ae dv t=none)/\OV l dv o x v/\s'.ar.length=s.ar.length/\K v dv s':=by
 unfold I0 at h
 split at h
 .rename_i b
  exact⟨.b b,kn,s,hI,hk,λ _ _ q=>q,λ _ q _=>q, .inl rfl,rfl,h⟩
 .rename_i t
  split at h
  .rename_i hu
   split at h
   .rename_i v hv
    exact⟨v,kn,s,hI,hk,λ _ _ q=>q,λ _ q _=>q, .inr ⟨t,rfl,hv,hu⟩,rfl,h⟩
   .rename_i hn
    split at h
    .exact h.elim
    .rename_i hd
     split at h
     .rename_i b hb
      have key:∀ b',b=b'->(K (.b b') ((t, .b b')::kn) (s.put (some t) (.az ⟨.bool,b'⟩)))->∃ v dv s',Inv c G s' a w/\JO l p q a dv/\vR kn dv/\(∀ t,ae kn t=none->isDst l t=true->ae dv t=none)/\OV l dv o (.tmp t) v/\s'.ar.length=s.ar.length/\K v dv s':=by
       rintro b' rfl hK
       have hx:=bf hI (.tmp t)
       rw[hb] at hx
       have J4:[a.eval (.tmp t)]=[.bool b]:=hx
       simp only[a1C,a1H] at J4
       refine⟨.b b,_,_,hI.slot t hb rfl,λ u v hv=>?_,λ u v hv=>?_,λ u hu xc=>?_, .inr ⟨t,rfl,by rw[nI,a1S rfl],hu⟩,B6 _ _ _,hK⟩
       .rw[nI] at hv
        split at hv
        .rename_i e
         subst e
         simp only[a1w] at hv
         subst hv
         exact .inl ⟨hd,J4⟩
        .exact hk u v hv
       .rw[nI]
        split
        .rename_i e;subst e;rw[hn] at hv;cases hv
        .exact hv
       .rw[nI]
        split
        .rename_i e;subst e;rw[hd] at xc;cases xc
        .exact hu
      cases cm:b with
      | true=>exact key true cm (h.1 cm)
      | false=>exact key false cm (h.2 cm)
     .exact h.elim
  .exact h.elim
 .exact h.elim
theorem Jf{yO:List Nat}{K:List Oper->ag->Prop}(uR:∀ i j t,bG l i=some t->bG l j=some t->i=j) :
  ∀ (r p q:List Oper) (kn:List (Nat×KV)) (s:ag),l=p++r->p.length=q.length->Inv c G s a w->JO l p q a kn->(∀ (i:Nat) o',q[i]?=some o'->∃ o,p[i]?=some o/\I1 l kn a.tmps.size o o')->rS l yO r q kn s K ->
   ∃ q' dv s',l.length=q'.length/\Inv c G s' a w/\JO l l q' a dv/\(∀ (i:Nat) o',q'[i]?=some o'->∃ o,l[i]?=some o/\I1 l dv a.tmps.size o o')/\K q' s'
 | [],p,q,kn,s,hl,Il,hI,hk,hr,h=>by
  simp only[rS] at h
  rw[a2O] at hl
  subst hl
  exact⟨q,kn,s,Il,hI,hk,hr,h⟩
 | o::r,p,q,kn,s,hl,Il,hI,hk,hr,h=>by
  have oo:l=(p++[o])++r:=by simp[hl]
  have VW:l[p.length]?=some o:=by rw[hl];simp
  have cj:s.ar.length=a.tmps.size:=hI.size.symm
  have fresh:∀ d,o.dst=some d->ae kn d=none:=λ d hd=>by
   cases hv:ae kn d with
   | none=>rfl
   | some v =>
    exfalso
    rcases hk d v hv with ⟨h1,_⟩|⟨i,o2,h1,h2,_⟩
    .have:isDst l d=true:=uZ.2 ⟨o,a2A VW,hd⟩
     rw[h1] at this;cases this
    .have hi:=(a2a.1 h1).1
     have h3:l[i]?=some o2:=by rw[hl,a2M hi];exact h1
     have:=uR i p.length d (by simp[bG,h3,h2]) (by simp[bG,VW,hd])
     omega
  have push:∀ (dv:List (Nat×KV)) (s':ag) (o':Oper),vR kn dv->Inv c G s' a w->JO l (p++[o]) (q++[o']) a dv->I1 l dv a.tmps.size o o'->rS l yO r (q++[o']) dv s' K ->
    ∃ q' dv s',l.length=q'.length/\Inv c G s' a w/\JO l l q' a dv/\(∀ (i:Nat) o',q'[i]?=some o'->∃ o,l[i]?=some o/\I1 l dv a.tmps.size o o')/\K q' s':=λ dv s' o' hm ug oW hrel Y3 =>
   Jf uR r (p++[o]) (q++[o']) dv s' oo (by simp[Il]) ug oW (λ i x hx=>by
    rcases a2B i q.length with hi|hi
    .rw[a2M hi] at hx
     obtain⟨y,h1,h2⟩:=hr i x hx
     exact⟨y,by rw[a2M (by omega)];exact h1,h2.mono hm⟩
    .have oV:i=q.length:=by
      have:=(a2a.1 hx).1
      simp at this;omega
     subst oV
     simp only[List.getElem?_concat_length,a1w] at hx
     subst hx
     refine⟨o,?_,hrel⟩
     rw[<-Il]
     simp) Y3
  have bare:KA l o kn=some true->rS l yO r (q++[Bn o]) kn s K->_:=λ hg Y3 =>
   push kn s (Bn o) (λ _ _ h=>h) hI (hk.app Il _ _) (.inl ⟨oi hg,rfl⟩) Y3
  have Gb:∀ (dv:List (Nat×KV)) (d:Nat) (v:KV),JO l p q a dv->o.dst=some d->(v = .no\/d<a.tmps.size)->JO l (p++[o]) (q++[rK o v]) a ((d,v)::dv):=λ dv d v oW hd hv t u ht=>by
   rw[nI] at ht
   split at ht
   .rename_i e
    subst e
    simp only[a1w] at ht
    subst ht
    refine .inr ⟨p.length,o,by simp,hd,?_,hv⟩
    rw[Il];simp
   .exact (oW.app Il _ _) t u ht
  have uD:∀ (dv:List (Nat×KV)) (d:Nat) (v:KV),vR kn dv->ae dv d=none->vR kn ((d,v)::dv):=λ dv d v hm hn t u ht=>by
   rw[nI]
   split
   .rename_i e;subst e;rw[hm _ _ ht] at hn;cases hn
   .exact hm _ _ ht
  have sS:∀ (dv:List (Nat×KV)) (d:Nat) (v:KV),ae dv d=none->vR dv ((d,v)::dv):=λ dv d v hn t u ht=>by
   rw[nI]
   split
   .rename_i e;subst e;rw[ht] at hn;cases hn
   .exact ht
  have Tc:∀ d,o.dst=some d->isDst l d=true:=λ d hd=>uZ.2 ⟨o,a2A VW,hd⟩
  simp only[rS] at h
  split at h
  .rename_i hg
   split at h
   .rename_i d x hd bl
    split at h
    .rename_i hn
     rw[a1z,a4k] at hn
     obtain⟨v,kn1,s1,i1,i2,i3,i4,i5,i6,i7⟩:=wV hI hk h
     have GM:=i4 d (fresh d hd) (Tc d hd)
     exact push _ s1 _ (uD _ d v i3 GM) i1 (Gb kn1 d v i2 hd (.inr (by rw[<-cj];exact hn.2))) (.inr (.inl ⟨(oi hg).mono (uD _ d v i3 GM),v,d,rfl,hd,by rw[<-cj];exact hn.2, .inl ⟨x,bl,i5.mono (sS _ d v GM)⟩⟩)) i7
    .exact bare hg h
   .rename_i d cc x y hd bl
    split at h
    .rename_i hn
     rw[a1z,a4k] at hn
     obtain⟨v,kn1,s1,i1,i2,i3,i4,i5,i6,i7⟩:=wV hI hk h
     have GM:=i4 d (fresh d hd) (Tc d hd)
     split at i7
     .obtain⟨u,Zy,s2,j1,j2,j3,j4,j5,j6,j7⟩:=wV i1 i2 i7
      have GN:=j4 d GM (Tc d hd)
      have hm:=uD _ d u (i3.trans j3) GN
      exact push _ s2 _ hm j1 (Gb Zy d u j2 hd (.inr (by rw[<-cj];exact hn.2))) (.inr (.inl ⟨(oi hg).mono hm,u,d,rfl,hd,by rw[<-cj];exact hn.2, .inr ⟨cc,x,y,bl, .inl ⟨i5.mono (j3.trans (sS _ d u GN)),j5.mono (sS _ d u GN)⟩⟩⟩)) j7
     .obtain⟨u,Zy,s2,j1,j2,j3,j4,j5,j6,j7⟩:=wV i1 i2 i7
      have GN:=j4 d GM (Tc d hd)
      have hm:=uD _ d u (i3.trans j3) GN
      exact push _ s2 _ hm j1 (Gb Zy d u j2 hd (.inr (by rw[<-cj];exact hn.2))) (.inr (.inl ⟨(oi hg).mono hm,u,d,rfl,hd,by rw[<-cj];exact hn.2, .inr ⟨cc,x,y,bl, .inr ⟨i5.mono (j3.trans (sS _ d u GN)),j5.mono (sS _ d u GN)⟩⟩⟩)) j7
     .exact i7.elim
    .exact bare hg h
   .exact bare hg h
  .rename_i hg
   split at h
   .rename_i d hd
    have hm:=uD kn d .no (λ _ _ h=>h) (fresh d hd)
    exact push _ s _ hm hI (Gb kn d .no hk hd (.inl rfl)) (.inr (.inr ⟨(oi hg).mono hm,rfl⟩)) h
   .exact push kn s _ (λ _ _ h=>h) hI (hk.app Il _ _) (.inr (.inr ⟨oi hg,rfl⟩)) h
  .exact h.elim
end
def SI(l:List Oper)(kn:List (Nat×KV))(n:Nat)(listed:Array Bool)(a:Act):Prop :=
 a.tmps.size=n/\∀ t v,ae kn t=some v->(isDst l t=false->a.tmps.getD t undef=v.val)/\∀ i,bG l i=some t->listed.getD i false=true->a.tmps.getD t undef=v.val
theorem UF{P:Program}{o:Oper}{a:Act}{N N':Act->World->Prop}{Q:Exit->Act->World->Prop}(hN:∀ a' w' x,a'.tmps=(a.put o.dst x).tmps->N a' w'->N' a' w'):∀ r:Result Next,o.upon P a N Q r->o.upon P a N' Q r:=by
 intro r h
 cases r with
 | ok n w' =>
  cases n<;>simp only[Oper.upon] at h ⊢
  case value v=>exact hN _ _ v rfl h
  case skip=>exact hN _ _ undef rfl h
  case defer d=>exact hN _ _ undef (by cases o.dst<;>rfl) h
  case enter f args=>exact Calls.mono h (λ e w'' q=>by cases e<;>first|exact hN _ _ _ rfl q|exact q)
  case row r args=>exact Rows.mono h (λ v _ q=>hN _ _ v rfl q)
 | halt x w'=>cases x<;>simp only[Oper.upon] at h ⊢<;>exact h
theorem Fp{ops ops':Array Oper}{listed:Array Bool}(hs:listed.size=ops.size)(cj:ops.size=ops'.size)(h:∀ (i:Nat) (o o':Oper),ops[i]?=some o->ops'[i]?=some o'->o'.after=o.after)(i:Nat):i∈Region.ready .any ops listed↔i∈Region.ready .any ops' listed:=by
 rw[mem_ready hs,mem_ready (by omega)]
 constructor
 .rintro⟨o,h1,h2,h3⟩
  have hi:=(a2z.1 h1).1
  have h4:ops'[i]?=some (ops'[i]'(by omega)):=a2x (by omega)
  exact⟨_,h4,h2,by rw[h i _ _ h1 h4];exact h3⟩
 .rintro⟨o,h1,h2,h3⟩
  have hi:=(a2z.1 h1).1
  have h4:ops[i]?=some (ops[i]'(by omega)):=a2x (by omega)
  exact⟨_,h4,h2,by rw[<-h i _ _ h4 h1];exact h3⟩
theorem OV.eval{l:List Oper}{kn:List (Nat×KV)}{n:Nat}{listed:Array Bool}{a:Act}(hS:SI l kn n listed a){o:Oper}(kv:∀ e∈o.after.toList,Region.binds .any e=true->listed.getD e.on false=true){x:Operand}{v:KV}(h:OV l kn o x v):a.eval x=v.val:=by
 rcases h with rfl|⟨t,rfl,h1,h2⟩
 .rfl
 .rcases Q7 h2 with hd|⟨e,he,hb,hd⟩
  .exact (hS.2 t v h1).1 hd
  .exact (hS.2 t v h1).2 _ hd (kv e he hb)
theorem pq.is{l:List Oper}{ops:Array Oper}(hl:ops.toList=l){kn:List (Nat×KV)}{n:Nat}{listed:Array Bool}{a:Act}(hS:SI l kn n listed a){o:Oper}(kv:∀ e∈o.after.toList,Region.binds .any e=true->listed.getD e.on false=true){b:Bool}(h:pq l kn o b) :
  Region.wanted o (yielded ops a.tmps)=b:=by
 unfold pq at h
 unfold Region.wanted
 split at h
 .rename_i hg;rw[hg,h]
 .rename_i g want hg
  rw[hg]
  obtain⟨⟨e,he,hb,rfl⟩,t,v,h1,h2,h3⟩:=h
  have hv:=(hS.2 t v h2).2 _ h1 (kv e he hb)
  have hy:yielded ops a.tmps e.on=match a.tmps[t]? with
    | some (.bool b)=>some b
    | _=>none:=by
   unfold yielded
   have:(ops[e.on]?).bind (·.dst)=some t:=by rw[<-h1];unfold bG;rw[<-hl];simp
   rw[this];rfl
  show (yielded ops a.tmps e.on == some want)=b
  rw[hy]
  cases v with
  | b x =>
   have h3:b=(x == want):=h3
   have:a.tmps[t]?=some (.bool x):=Ly hv
   rw[this,h3];rfl
  | no =>
   have h3:b=false:=h3
   subst h3
   rw[a2f] at hv
   cases ht:a.tmps[t]? with
   | none=>rfl
   | some y =>
    rw[ht] at hv
    have hy:y=undef:=hv
    subst hy;rfl
theorem S1{P:Program}{ops ops':Array Oper}{Q:Exit->Act->World->Prop}{kn:List (Nat×KV)}{n:Nat}(uR:∀ i j t,bG ops.toList i=some t->bG ops.toList j=some t->i=j)
  (cj:ops.size=ops'.size) (hrel:∀ (i:Nat) (o':Oper),ops'.toList[i]?=some o'->∃ o,ops.toList[i]?=some o/\I1 ops.toList kn n o o')
  (gQ:∀ t v,ae kn t=some v->isDst ops.toList t=false\/(∃ (i:Nat) (o:Oper),ops.toList[i]?=some o/\o.dst=some t/\ops'.toList[i]?=some (rK o v)/\(v = .no\/t<n))) :
  ∀ (fuel:Nat) (listed:Array Bool) (a:Act) (w:World),listed.size=ops.size->SI ops.toList kn n listed a->wpAny P .any ops' Q fuel listed a w->wpAny P .any ops Q fuel listed a w:=by
 have Vz:∀ (i:Nat) (o o':Oper),ops[i]?=some o->ops'[i]?=some o'->o'.after=o.after:=λ i o o' h1 h2=>by
  obtain⟨o2,h3,h4⟩:=hrel i o' (by simpa using h2)
  have:o2=o:=by
   have h3:ops[i]?=some o2:=by simpa using h3
   rw[h1] at h3;simpa using h3.symm
  subst this
  rcases h4 with ⟨_,rfl⟩|⟨_,v,d,rfl,_⟩|⟨_,rfl⟩<;>rfl
 have Yk:∀ listed:Array Bool,listed.size=ops.size->(Region.ready .any ops listed=[]->Region.ready .any ops' listed=[])/\(Region.ready .any ops' listed=[]->Region.ready .any ops listed=[]):=λ listed hs =>
  ⟨λ h=>a3q.2 λ i hi=>(by rw[<-Fp hs cj Vz,h] at hi;cases hi),λ h=>a3q.2 λ i hi=>(by rw[Fp hs cj Vz,h] at hi;cases hi)⟩
 intro fuel
 induction fuel with
 | zero=>intro listed a w hs hS h;exact⟨(Yk listed hs).2 h.1,h.2⟩
 | succ fuel ih =>
  intro listed a w hs hS h
  refine⟨λ hn=>h.1 ((Yk listed hs).1 hn),λ i hi=>?_⟩
  have h':=h.2 i ((Fp hs cj Vz i).1 hi)
  obtain⟨o,ho,hli,kv⟩:=(mem_ready hs).1 hi
  have BO:=(a2z.1 ho).1
  have cF:ops'[i]?=some (ops'[i]'(by omega)):=a2x (by omega)
  generalize ops'[i]'(by omega)=o' at cF
  obtain⟨o2,h3,hR⟩:=hrel i o' (by simpa using cF)
  have:o2=o:=by
   have h3:ops[i]?=some o2:=by simpa using h3
   rw[ho] at h3;simpa using h3.symm
  subst this
  have hdi:∀ t,o2.dst=some t->bG ops.toList i=some t:=λ t ht=>by simp[bG,ho,ht]
  have after:∀ (x:Value) (a':Act),a'.tmps=(a.put o2.dst x).tmps->(∀ v,o'=rK o2 v->x=v.val)->SI ops.toList kn n (listed.setIfInBounds i true) a':=by
   intro x a' ha hx
   refine⟨by rw[ha,ig];exact hS.1,λ t v hv=>?_⟩
   have uW:=eJ a o2.dst x t
   rw[ha]
   refine⟨λ hd=>?_,λ j hj Sd=>?_⟩
   .rw[uW,a1B (λ q=>by
     have:isDst ops.toList t=true:=uZ.2 ⟨o2,a2A h3,q.1⟩
     rw[hd] at this;cases this)]
    exact (hS.2 t v hv).1 hd
   .rw[qp (by omega)] at Sd
    by_cases qX:j=i
    .subst qX
     have ym:o2.dst=some t:=by simpa [bG,ho] using hj
     rcases gQ t v hv with hd|⟨k,o3,k1,k2,k3,k4⟩
     .have:isDst ops.toList t=true:=uZ.2 ⟨o2,a2A h3,ym⟩
      rw[hd] at this;cases this
     .have hk:k=j:=uR k j t (by simp only[bG,k1];exact k2) hj
      subst hk
      have e3:o3=o2:=by rw[h3] at k1;simpa using k1.symm
      subst e3
      have e4:o'=rK o3 v:=by
       have:ops'[k]?=some (rK o3 v):=by simpa using k3
       rw[cF] at this;simpa using this
      rw[uW,hx v e4]
      by_cases bC:t<a.tmps.size
      .rw[a1S ⟨ym,bC⟩]
      .rw[a1B (λ q=>bC q.2)]
       rcases k4 with rfl|k4
       .rw[a2f,a2P (by omega)];rfl
       .rw[hS.1] at bC;exact absurd k4 bC
    .rw[uW,a1B (λ q=>qX (uR j i t hj (hdi t q.1)))]
     exact (hS.2 t v hv).2 j hj (Sd.resolve_right qX)
  have Xo:(listed.setIfInBounds i true).size=ops.size:=by rw[a2E];exact hs
  unfold wpOp at h' ⊢
  simp only[ho,cF] at h' ⊢
  have SZ:∀ (v:KV) (hh:o'=rK o2 v),wpAny P .any ops' Q fuel (listed.setIfInBounds i true) (a.put o2.dst v.val) w:=λ v hh=>by
   subst hh
   rw[a1S (by rfl)] at h'
   have hex:=NN a.eval o2 v rfl
   rcases h' with h'|⟨⟨h',_⟩,_⟩
   .unfold Oper.wp at h'
    rw[hex] at h'
    exact h'
   .rw[hex] at h'
    exact absurd (show noRoomEvent∈(#[]:Array Event) from h') (by simp)
  rcases hR with ⟨hw,rfl⟩|⟨hw,v,d,rfl,hd,hdn,hv⟩|⟨hw,rfl⟩
  .rw[a1S (hw.is rfl hS kv)]
   by_cases hb:∃ v,Bn o2=rK o2 v
   .obtain⟨v,hb⟩:=hb
    refine .inl ?_
    have hk:=SZ v hb
    have zz:execOp a.eval o2=pure (.value v.val):=by
     rw[<-RU,hb]
     exact NN a.eval o2 v rfl
    unfold Oper.wp
    rw[zz]
    exact ih _ _ w Xo (after v.val _ rfl (λ v' E3=>by
     have:=congrArg Oper.op (hb.symm.trans E3)
     simp only[rK,a5u,a4H] at this
     exact this)) hk
   .rw[a1S (by rfl)] at h'
    refine h'.imp (λ h'=>?_) id
    unfold Oper.wp at h' ⊢
    exact UF (o:=o2) (λ a' w' x ha hN=>ih _ a' w' Xo (after x a' ha (λ v hv=>absurd ⟨v,hv⟩ hb)) hN) _ h'
  .rw[a1S (hw.is rfl hS kv)]
   refine .inl ?_
   have hk:=SZ v rfl
   have zz:execOp a.eval o2=pure (.value v.val):=by
    rcases hv with ⟨x,bl,hx⟩|⟨cc,x,y,bl,hx⟩
    .simp only[execOp,bl,hx.eval hS kv]
    .rcases hx with ⟨hc,hx⟩|⟨hc,hx⟩
     .simp only[execOp,bl,hx.eval hS kv,hc.eval hS kv,KV.val,asBool]
      rfl
     .simp only[execOp,bl,hx.eval hS kv,hc.eval hS kv,KV.val,asBool]
      rfl
   unfold Oper.wp
   rw[zz]
   exact ih _ _ w Xo (after v.val _ rfl (λ v' E3=>by
    have:=congrArg Oper.op E3
    simp only[rK,a5u,a4H] at this
    exact this)) hk
  .rw[a1B (by rw[hw.is rfl hS kv];decide)]
   exact ih _ _ w Xo (after undef _ rfl (λ v' E3=>by
    have:=congrArg Oper.op E3
    simp only[rK,a5u,a4H] at this
    exact this)) (SZ .no rfl)
section
variable {c:Ctx} {G:Gh} {s:ag} {a:Act} {w:World}
theorem K2(hE:bD c.P c.E)(je:c.P.follows .mixedOrders=true){id:Nat}{ops:Array Oper}{Q:ag->Prop}{Q':Exit->Act->World->Prop}(hQ:∀ G s a w,Inv c G s a w->Q s->Q' .normal a w)
  (h:Inv c G s a w) (hd:K1 c.E ops Q s):(Code.region id ops true).wp c.P Q' a w:=by
 unfold K1 at hd
 simp only at hd
 split at hd
 .exact JQ hE je hQ h hd
 .split at hd
  case h_2=>exact hd.elim
  case h_1 EX =>
  have uR:∀ i j t,bG ops.toList i=some t->bG ops.toList j=some t->i=j:=λ i j t hi hj=>by
   refine px EX i j t ?_ ?_
   .rw[a3d]
    unfold bG at hi
    cases ho:ops.toList[i]?<;>simp[ho] at hi ⊢
    exact hi
   .rw[a3d]
    unfold bG at hj
    cases ho:ops.toList[j]?<;>simp[ho] at hj ⊢
    exact hj
  refine a5t je ?_
  obtain⟨q,kn,s',h1,h2,h3,h4,h5⟩:=Jf uR ops.toList [] [] [] s rfl rfl h (λ t v hv=>by cases hv) (λ i o' ho=>by simp at ho) hd
  split at h5
  case h_2=>exact h5.elim
  case h_1 dL =>
  have cj:ops.size=q.toArray.size:=by simpa using h1
  refine S1 (ops':=q.toArray) (kn:=kn) (n:=a.tmps.size) uR cj (by simpa using h4) (λ t v hv=>(h3 t v hv).imp (λ x=>x.1) (λ x=>by simpa using x)) _ _ _ _ (by simp) ⟨rfl,λ t v hv=>⟨λ hd=>?_,λ i _ hi=>by simp[Array.getD_eq_getD_getElem?,Array.getElem?_replicate] at hi;split at hi<;>cases hi⟩⟩ ?_
  .rcases h3 t v hv with x|⟨i,o,k1,k2,_⟩
   .exact x.2
   .have:isDst ops.toList t=true:=uZ.2 ⟨o,a2A k1,k2⟩
    rw[hd] at this;cases this
  .have:=JH hE (ops:=q.toArray) dL hQ _ 0 [] q.toArray.size G s' a _ (Array.replicate q.toArray.size false) (by simp) (by rw[Array.size_replicate]) (by
    intro k hk
    have:(Array.replicate q.toArray.size false).getD k false=false:=by rw[a2f,Array.getElem?_replicate];split<;>rfl
    rw[this];simp) (bc.drew h2) h5
   rw[cj]
   exact this
end
end Go.Proofs.YtaaamahdcpcofaaDoor

namespace Go.Proofs.YtaaamahdcpcofaaDoor
theorem mi{u v:TV}(h:vy u v):u=v:=by
 unfold vy at h
 split at h
 .rename_i x hx
  have:=TV.aX hx
  rw[this,h]
 .exact h.elim
theorem zO:∀ {l:List Nat},nodupB l=true->l.Nodup
 | [],_=>a2L
 | a::r,h=>by
  simp only[nodupB] at h
  split at h
  .cases h
  .rename_i hc
   exact List.nodup_cons.2 ⟨by simpa using hc,zO h⟩
theorem xf{α:Type}(f:α->Nat):∀ {l:List α},(l.map f).Nodup->∀ x∈l,∀ y∈l,f x=f y->x=y
 | [],_,x,hx,_,_,_=>by simp at hx
 | a::r,h,x,hx,y,hy,he=>by
  simp only[a2p,a2o] at h
  rcases a1N.1 hx with J4|J4
  .rcases a1N.1 hy with Nh|Nh
   .rw[J4,Nh]
   .exact absurd (a1D.2 ⟨y,Nh,by rw[<-he,J4]⟩) h.1
  .rcases a1N.1 hy with Nh|Nh
   .exact absurd (a1D.2 ⟨x,J4,by rw[he,Nh]⟩) h.1
   .exact xf f h.2 x J4 y Nh he
section
variable {c:Ctx} {G:Gh} {s t:ag} {a:Act} {w w':World}
def iG(G:Gh)(s t:ag)(ρ:List (Nat×Nat))(id:Nat):Value:=match s.ae (dC ρ id) with
 | some _=>G.η (dC ρ id)
 | none=>match cp (t.ae id) with
  | true => .tuple [.slice none 0 0].toArray
  | false => .slice none 0 0
def su(G:Gh)(s:ag)(ρ:List (Nat×Nat))(id:Nat):List Nat:=match s.ae (dC ρ id) with
 | some _=>G.φ (dC ρ id)
 | none=>[]
theorem py{ρ:List (Nat×Nat)}{x:Value}{u v:AV}(h:AV.tQ ρ s t u v)(hu:C1 c G s.ae w u x):C1 c ⟨G.S,iG G s t ρ,su G s ρ⟩ t.ae w v x:=by
 unfold AV.tQ at h
 split at h
 .trivial
 .split at h
  .have:=mi h
   subst this
   exact hu
  .split at h
   .subst h
    exact⟨rfl,Kx (c:=c) (G:=G) (lk:=s.ae) (τ := .slice _) (v := .nil) rfl (show C1 c G s.ae w .nil x from hu)⟩
   .exact h.elim
  .exact h.elim
 .split at h
  .exact hu
  .exact h.elim
 .split at h
  .have:=mi h
   subst this
   exact hu
  .exact h.elim
 .split at h
  .split at h
   .rename_i hb
    simp only[a1z] at hb
    have h1:=a1x hb.1.1
    have h2:=a1x hb.1.2
    subst h1 h2
    obtain⟨b,k1,k2,k3⟩:=hu
    refine⟨b,?_,k2,hb.2⟩
    simp only[iG]
    match hl:s.ae (dC ρ _),k3 with
    | some o,_=>exact k1
   .exact h.elim
  .exact h.elim
 .split at h
  .split at h
   .rename_i hb
    simp only[a1z] at hb
    have h1:=a1x hb.1
    subst h1
    obtain⟨k1,k2,k3⟩:=hu
    refine⟨?_,hb.2,k3⟩
    simp only[iG]
    match hl:s.ae (dC ρ _),k2 with
    | some o,_=>exact k1
   .exact h.elim
  .split at h
   .rename_i hr hn
    refine⟨?_,hr,none,0,0,hu⟩
    simp only[iG,hn,sL hr]
    exact hu
   .exact h.elim
  .exact h.elim
 .split at h
  .split at h
   .rename_i hb
    simp only[a1z] at hb
    have h1:=a1x hb.1
    subst h1
    obtain⟨k1,l,k2,k3⟩:=hu
    refine⟨hb.2,l,?_,k3⟩
    simp only[iG]
    match hl:s.ae (dC ρ _),k1 with
    | some o,_=>exact k2
   .exact h.elim
  .split at h
   .rename_i hr hn
    have hu:x = .slice none 0 0:=hu
    refine⟨hr,[],?_,none,0,0,hu⟩
    simp only[iG,hn,hr]
    rw[hu]
   .exact h.elim
  .exact h.elim
 .split at h
  .split at h
   .rename_i hb
    have h1:=a1x hb
    subst h1
    exact hu
   .exact h.elim
  .exact h.elim
 .split at h
  .split at h
   .rename_i hb
    simp only[a1z] at hb
    have h1:=a1x hb.1
    subst h1
    obtain⟨k1,k2,k3⟩:=hu
    refine⟨?_,hb.2,k3⟩
    simp only[iG]
    match hl:s.ae (dC ρ _),k2 with
    | some o,_=>exact k1
   .exact h.elim
  .exact h.elim
 .exact h.elim
theorem BB{ρ:List (Nat×Nat)}:∀ {us vs:List AV} {l:List Value},DV ρ s t us vs->aJ (C1 c G s.ae w) us l->aJ (C1 c ⟨G.S,iG G s t ρ,su G s ρ⟩ t.ae w) vs l
 | [],[],[],_,_=>trivial
 | u::us,v::vs,x::l,h,hu=>by
  simp only[DV] at h
  split at h
  .exact⟨trivial,BB h hu.2⟩
  .exact⟨py h.1 hu.1,BB h.2 hu.2⟩
 | [],_::_,_,h,_=>h.elim
 | _::_,[],_,h,_=>h.elim
 | [],[],_::_,_,h=>h.elim
 | _::_,_::_,[],_,h=>h.elim
theorem Vo{ρ:List (Nat×Nat)}{x:Value}{u v:AV}(h:AV.X2 ρ s t u v)(hu:CR c G s.ae w u x):CR c ⟨G.S,iG G s t ρ,su G s ρ⟩ t.ae w v x:=by
 rcases hu.inv with ⟨z,rfl,h1⟩|⟨cs,l,rfl,rfl,h1⟩|h1
 .cases v with
  | any=>trivial
  | az z' =>
   have:=mi (show vy z z' from h)
   subst this
   exact hu
  | _=>exact (show False from h).elim
 .cases v with
  | any=>trivial
  | agg vs=>exact⟨l,rfl,BB (show DV ρ s t cs vs from h) h1⟩
  | _=>exact (show False from h).elim
 .cases u with
  | agg cs=>exact (show False from h1).elim
  | _=>exact (py (show AV.tQ ρ s t _ v by cases v<;>exact h) h1).Rt
theorem Lr{ρ:List (Nat×Nat)}:∀ {us vs:List AV} {l:List Value},Qt ρ s t us vs->aJ (CR c G s.ae w) us l->aJ (CR c ⟨G.S,iG G s t ρ,su G s ρ⟩ t.ae w) vs l
 | [],[],[],_,_=>trivial
 | u::us,v::vs,x::l,h,hu=>by
  simp only[Qt] at h
  split at h
  .exact⟨trivial,Lr h hu.2⟩
  .exact⟨Vo h.1 hu.1,Lr h.2 hu.2⟩
 | [],_::_,_,h,_=>h.elim
 | _::_,[],_,h,_=>h.elim
 | [],[],_::_,_,h=>h.elim
 | _::_,_::_,[],_,h=>h.elim
theorem RW{u v:FV}(h:Td u v):u=v:=by
 unfold Td at h
 split at h
 .rename_i F hF
  have:=FV.aX hF
  rw[this,h]
 .exact h.elim
theorem W4{ρ:List (Nat×Nat)}{x:Value}{u v:AV}(h:AV.fit ρ s t u v)(hu:VR c G s.ae w u x):VR c ⟨G.S,iG G s t ρ,su G s ρ⟩ t.ae w v x:=by
 cases u with
 | agg us =>
  obtain⟨l,h1,h2⟩:=hu
  cases v with
  | any=>trivial
  | agg vs=>exact⟨l,h1,BB (show DV ρ s t us vs from h) h2⟩
  | az z =>
   obtain⟨τ,q⟩:=z
   simp only[AV.fit] at h
   split at h
   .rename_i y hy
    have hr:fM w G.S ⟨τ,y⟩ x:=FT (c:=c) (G:=G) (lk:=s.ae) (w:=w) (x:=x) hy ⟨l,h1,h2⟩
    have h':y=q:=h
    show fM w G.S ⟨τ,q⟩ x
    rw[<-h']
    exact hr
   .exact h.elim
  | _=>exact (show False from h).elim
 | kr us =>
  cases v with
  | any=>trivial
  | _=>exact (show False from h).elim
 | az z =>
  cases v with
  | any=>trivial
  | az z' =>
   have:=mi (show vy z z' from h)
   subst this
   exact hu
  | _=>exact (show False from h).elim
 | dw f us =>
  obtain⟨l,h1,h2⟩:=hu
  cases v with
  | any=>trivial
  | dw g vs =>
   simp only[AV.fit] at h
   split at h
   .rename_i hb
    have hb:=a1x hb
    subst hb
    exact⟨l,h1,Lr h h2⟩
   .exact h.elim
  | _=>exact (show False from h).elim
 | jO z =>
  cases v with
  | any=>trivial
  | jO z' =>
   have:=RW (show Td z z' from h)
   subst this
   exact hu
  | _=>exact (show False from h).elim
 | any=>cases v<;>first|trivial|exact (show False from h).elim
 | eV=>cases v<;>first|trivial|exact (show False from h).elim
 | nil=>exact (py (u := .nil) (show AV.tQ ρ s t .nil v by cases v<;>exact h) (show C1 c G s.ae w .nil x from hu)).iA
 | gK z=>exact (py (u := .gK z) (show AV.tQ ρ s t (.gK z) v by cases v<;>exact h) (show C1 c G s.ae w (.gK z) x from hu)).iA
 | ptr i o=>exact (py (u := .ptr i o) (show AV.tQ ρ s t (.ptr i o) v by cases v<;>exact h) (show C1 c G s.ae w (.ptr i o) x from hu)).iA
 | row i=>exact (py (u := .row i) (show AV.tQ ρ s t (.row i) v by cases v<;>exact h) (show C1 c G s.ae w (.row i) x from hu)).iA
 | fh i k o=>exact (py (u := .fh i k o) (show AV.tQ ρ s t (.fh i k o) v by cases v<;>exact h) (show C1 c G s.ae w (.fh i k o) x from hu)).iA
 | fn f=>exact (py (u := .fn f) (show AV.tQ ρ s t (.fn f) v by cases v<;>exact h) (show C1 c G s.ae w (.fn f) x from hu)).iA
 | mp i=>exact (py (u := .mp i) (show AV.tQ ρ s t (.mp i) v by cases v<;>exact h) (show C1 c G s.ae w (.mp i) x from hu)).iA
 | aq i=>exact (py (u := .aq i) (show AV.tQ ρ s t (.aq i) v by cases v<;>exact h) (show C1 c G s.ae w (.aq i) x from hu)).iA
 | sub i k o z=>exact (py (u := .sub i k o z) (show AV.tQ ρ s t (.sub i k o z) v by cases v<;>exact h) (show C1 c G s.ae w (.sub i k o z) x from hu)).iA
 | fL i k o z=>exact (py (u := .fL i k o z) (show AV.tQ ρ s t (.fL i k o z) v by cases v<;>exact h) (show C1 c G s.ae w (.fL i k o z) x from hu)).iA
theorem zr{ρ:List (Nat×Nat)}:∀ {us vs:List AV},yg ρ s t us vs->us.length=vs.length/\∀ i,vs.getD i .any = .any\/AV.fit ρ s t (us.getD i .any) (vs.getD i .any)
 | [],[],_=>⟨rfl,λ i => .inl (by simp)⟩
 | u::us,v::vs,h=>by
  simp only[yg] at h
  split at h
  .obtain⟨h1,h2⟩:=zr h
   refine⟨by simp[h1],λ i=>?_⟩
   cases i with
   | zero=>exact .inl rfl
   | succ i=>simpa using h2 i
  .obtain⟨h1,h2⟩:=zr h.2
   refine⟨by simp[h1],λ i=>?_⟩
   cases i with
   | zero=>exact .inr h.1
   | succ i=>simpa using h2 i
 | [],_::_,h=>h.elim
 | _::_,[],h=>h.elim
def US(aV:Ty)(ys:List aV.den)(τ:Ty)(xs:List τ.den):Prop:=∀ (w:World) (η:Value) (fp:List Nat),jH w η aV ys fp->jH w η τ xs fp
theorem PX{aV:Ty}{ys:List aV.den}{τ:Ty}{xs:List τ.den}(h:PW aV ys τ xs):US aV ys τ xs:=by
 unfold PW at h
 split at h
 .rename_i h1 h2
  have h1:=a2d h1
  have h2:=a2d h2
  subst h1 h2
  have h:=mi h
  rw[TV.RK] at h
  cases h
  intro w η fp hT
  obtain⟨v,l,a,cap,q1,q2,q3,q4,q5,q6⟩:=hT
  have e1:(List.map XN ys).length=ys.length:=a2J _
  have e2:((show List M from ys).map XN).map (Ty.aT (.st .oExpr))=ys.map (Ty.aT (.st .expr)):=by
   rw[List.map_map]
   refine a5x λ x _=>?_
   show aM.aT .oExpr (XN x)=aM.aT .expr x
   rw[aM.cq,aM.cq]
   rfl
  refine⟨v,l,a,cap,q1,by rw[q2];exact congrArg (Value.slice a · cap) e1.symm,by exact e1 ▸ q3,q4,by exact e1 ▸ q5,?_⟩
  rcases q6 with ⟨rfl,q7,q8⟩|⟨b,f,t,q7,q8,q9,ZM,ZN⟩
  .exact .inl ⟨rfl,q7,q8⟩
  .exact .inr ⟨b,f,t,q7,q8,q9,ZM,e2 ▸ ZN⟩
 .have h:=mi h
  cases h
  exact λ _ _ _ h=>h
def WR(ρ:List (Nat×Nat))(s t:ag)(id:Nat):au->Prop
 | .box bs=>∃ Z9,s.ae (dC ρ id)=some (.box Z9)/\DV ρ s t Z9 bs
 | .row e τ xs=>s.ae (dC ρ id)=some (.row e τ xs)\/(s.ae (dC ρ id)=none/\xs=[])
 | .aq τ xs=>(∃ aV ys,s.ae (dC ρ id)=some (.aq aV ys)/\US aV ys τ xs)\/(s.ae (dC ρ id)=none/\xs=[])
 | .map m=>s.ae (dC ρ id)=some (.map m)
theorem QZ{a b:MV}(h:Su a b):a=b:=by
 unfold Su at h
 split at h
 .rename_i f n hf
  rw[MV.aX hf]
  simp only
  rw[h.1,h.2]
 .exact h.elim
theorem nr{ρ:List (Nat×Nat)}:∀ {l:List (Nat×au)},mj ρ s t l->∀ id o,(id,o)∈l->WR ρ s t id o
 | [],_,id,o,h=>by simp at h
 | (k, .box bs)::r,h,id,o,hm=>by
  simp only[mj] at h
  split at h
  .rename_i Z9 ha
   rcases a1N.1 hm with e|hm
   .simp only[a1y] at e
    obtain⟨rfl,rfl⟩:=e
    exact⟨Z9,ha,h.1⟩
   .exact nr h.2 id o hm
  .exact h.elim
 | (k, .row e τ xs)::r,h,id,o,hm=>by
  simp only[mj] at h
  split at h
  .rename_i e' aV ys ha
   split at h
   .rename_i he
    have he:=a1x he
    subst he
    rcases a1N.1 hm with e1|hm
    .simp only[a1y] at e1
     obtain⟨rfl,rfl⟩:=e1
     have:=mi h.1
     cases this
     exact .inl ha
    .exact nr h.2 id o hm
   .exact h.elim
  .rename_i ha
   rcases a1N.1 hm with e1|hm
   .simp only[a1y] at e1
    obtain⟨rfl,rfl⟩:=e1
    exact .inr ⟨ha,h.1⟩
   .exact nr h.2 id o hm
  .exact h.elim
 | (k, .aq τ xs)::r,h,id,o,hm=>by
  simp only[mj] at h
  split at h
  .rename_i aV ys ha
   rcases a1N.1 hm with e1|hm
   .simp only[a1y] at e1
    obtain⟨rfl,rfl⟩:=e1
    exact .inl ⟨aV,ys,ha,PX h.1⟩
   .exact nr h.2 id o hm
  .rename_i ha
   rcases a1N.1 hm with e1|hm
   .simp only[a1y] at e1
    obtain⟨rfl,rfl⟩:=e1
    exact .inr ⟨ha,h.1⟩
   .exact nr h.2 id o hm
  .exact h.elim
 | (k, .map m)::r,h,id,o,hm=>by
  simp only[mj] at h
  split at h
  .rename_i m' ha
   rcases a1N.1 hm with e1|hm
   .simp only[a1y] at e1
    obtain⟨rfl,rfl⟩:=e1
    rw[QZ h.1] at ha
    exact ha
   .exact nr h.2 id o hm
  .exact h.elim
theorem BC{ρ:List (Nat×Nat)}(h:Inv c G s a w)(hf:Fits ρ s t):∃ G',Inv c G' t a w:=by
 unfold Fits at hf
 split at hf
 case h_2=>exact hf.elim
 case h_1 hb =>
  rw[a1z] at hb
  obtain⟨hb,hb4⟩:=hb
  rw[a1z] at hb
  obtain⟨hb,LH⟩:=hb
  simp only[a1z] at hb
  obtain⟨hs,ho⟩:=hf
  obtain⟨hlen,LY⟩:=zr hs
  have mX:=nr ho
  have fB:∀ id b,fe (iG G s t ρ id)=some b->∃ o,s.ae (dC ρ id)=some o/\fe (G.η (dC ρ id))=some b:=by
   intro id b hb
   unfold iG at hb
   split at hb
   .rename_i o ho;exact⟨o,ho,hb⟩
   .split at hb<;>cases hb
  refine⟨⟨G.S,iG G s t ρ,su G s ρ⟩,?_⟩
  exact {
   defers:=h.defers
   size:=h.size.trans hlen
   aQ:=h.aQ,lE:=h.lE,fc:=h.fc,sX:=h.sX,ed:=h.ed
   ar:=λ i=>by
    rcases LY i with e|e
    .rw[show t.sl i = .any from e];trivial
    .exact W4 e (h.ar i)
   aC:=λ id o aN=>by
    have Zh:=mX id o (gI aN)
    cases o with
    | box bs =>
     obtain⟨Z9,h1,h2⟩:=Zh
     obtain⟨b,l,ty,k1,k2,k3⟩:=h.aC _ _ h1
     refine⟨b,l,ty,?_,k2,BB h2 k3⟩
     simp only[iG,h1]
     exact k1
    | row e τ xs =>
     rcases Zh with h1|⟨h1,rfl⟩
     .obtain⟨l,k1,k2,k3⟩:=h.aC _ _ h1
      refine⟨l,?_,k2,k3⟩
      simp only[iG,h1]
      exact k1
     .refine⟨[],?_,rfl,by simp⟩
      simp only[iG,h1,sL (show isRow (t.ae id)=true by rw[aN];rfl)]
      exact World.ownsRow_nil w 0 e τ.size
    | aq τ xs=>trivial
    | map m =>
     have h1:s.ae (dC ρ id)=some (.map m):=Zh
     obtain⟨b,es,clock,k1,k2⟩:=h.aC _ _ h1
     refine⟨b,es,clock,?_,k2⟩
     simp only[iG,h1]
     exact k1
   place:=λ id o b aN jP=>by
    obtain⟨o',h1,h2⟩:=fB id b jP
    exact h.place _ _ b h1 h2
   apart:=λ id dH o o' b aN BN jP a0l=>by
    obtain⟨p,h1,h2⟩:=fB id b jP
    obtain⟨p',h3,h4⟩:=fB dH b a0l
    have:=h.apart _ _ _ _ b h1 h3 h2 h4
    have GI:=xf (λ p:Nat×au=>dC ρ p.1) (zO hb.2) (id,o) (gI aN) (dH,o') (gI BN) this
    exact congrArg Prod.fst GI
   aI:=by
    have Io:∀ id b,b∈su G s ρ id->(∃ o,s.ae (dC ρ id)=some o)/\b∈G.φ (dC ρ id):=λ id b cm=>by
     unfold su at cm
     split at cm
     .rename_i o ho;exact⟨⟨o,ho⟩,cm⟩
     .simp at cm
    have AX:∀ id τ xs,t.ae id=some (.aq τ xs)->(∃ aV ys,s.ae (dC ρ id)=some (.aq aV ys)/\US aV ys τ xs)\/(s.ae (dC ρ id)=none/\xs=[]):=λ id τ xs aN=>mX id _ (gI aN)
    have gQ:∀ id τ xs b,t.ae id=some (.aq τ xs)->b∈su G s ρ id->∃ aV ys,s.ae (dC ρ id)=some (.aq aV ys)/\b∈G.φ (dC ρ id):=λ id τ xs b aN cm=>by
     obtain⟨⟨o,ho⟩,h2⟩:=Io id b cm
     rcases AX id τ xs aN with ⟨aV,ys,h1,_⟩|⟨h1,_⟩
     .exact⟨aV,ys,h1,h2⟩
     .rw[h1] at ho;cases ho
    exact {
     tr:=λ id τ xs aN=>by
      rcases AX id τ xs aN with ⟨aV,ys,h1,hle⟩|⟨h1,rfl⟩
      .simp only[iG,su,h1]
       exact hle _ _ _ (h.aI.tr _ _ _ h1)
      .simp only[iG,su,h1,show cp (t.ae id)=true by rw[aN];rfl]
       exact⟨_,[],none,0,rfl,rfl,by simp,by simp[maxLen],by simp, .inl ⟨rfl,⟨rfl,rfl⟩,rfl⟩⟩
     nd:=λ id τ xs aN=>by
      rcases AX id τ xs aN with ⟨aV,ys,h1,_⟩|⟨h1,_⟩
      .simp only[su,h1]
       exact h.aI.nd _ _ _ h1
      .simp only[su,h1]
       exact a2L
     pl:=λ id τ xs b aN cm=>by
      obtain⟨_,_,h1,h2⟩:=gQ id τ xs b aN cm
      obtain⟨q1,q2,q3,q4⟩:=h.aI.pl _ _ _ b h1 h2
      refine⟨q1,q2,q3,λ i o hi qT=>?_⟩
      obtain⟨o',k1,k2⟩:=fB i b qT
      exact q4 _ o' k1 k2
     ap:=λ id dH τ aV xs cT b aN BN zx ET=>by
      obtain⟨_,_,h1,h2⟩:=gQ id τ xs b aN zx
      obtain⟨_,_,h3,h4⟩:=gQ dH aV cT b BN ET
      have:=h.aI.ap _ _ _ _ _ _ b h1 h3 h2 h4
      have GI:=xf (λ p:Nat×au=>dC ρ p.1) (zO hb.2) (id, .aq τ xs) (gI aN) (dH, .aq aV cT) (gI BN) this
      exact congrArg Prod.fst GI }
   root:=λ id v hr ht=>by
    have hrg:=h.kd id v hr
    match hl:t.ae id,ht with
    | some (.aq τ xs),_ =>
     have hq:=a2e.1 LH _ (gI hl)
     simp only[a3p,a1z,a4k,Nat.ble_eq] at hq
     rcases hq with hq|hq|⟨Du,BR⟩
     .omega
     .omega
     .have Du:=a1x Du
      obtain⟨l,h2⟩:=h.root id v hr BR
      refine⟨l,?_⟩
      show iG G s t ρ id=_
      unfold iG
      rw[Du]
      match hs:s.ae id,BR with
      | some (.aq ..),_=>exact h2
   kd:=h.kd
   dE:=λ id v hr ht=>by
    have hrg:=h.fW id v hr
    match hl:t.ae id,ht with
    | some (.box cs),_ =>
     have hq:=a2e.1 hb4 _ (gI hl)
     simp only[im,a1Q,Bool.false_or,a3p,a1z,a4k] at hq
     rcases hq with hq|⟨Du,BR⟩
     .omega
     .have Du:=a1x Du
      have h2:=h.dE id v hr BR
      show iG G s t ρ id=_
      unfold iG
      rw[Du]
      match hs:s.ae id,BR with
      | some (.box ..),_=>exact h2
   fW:=h.fW }
theorem il(hE:bD c.P c.E)(je:c.P.follows .mixedOrders=true):∀ (iy:Code) (Λ:Nat->aW) (cur:Nat) (Q:Exit->ag->Prop) (G:Gh) (s:ag) (a:Act) (w:World),
  Inv c G s a w->dd c.E iy Λ cur Q s->iy.wp c.P (λ e a w=>∃ G s,Inv c G s a w/\Q e s) a w
 | .skip,Λ,cur,Q,G,s,a,w,h,hr=>wp_skip ⟨G,s,h,hr⟩
 | .region id ops draw,Λ,cur,Q,G,s,a,w,h,hr=>by
  cases draw with
  | true=>exact K2 hE je (Q:=Q .normal) (λ G s a w hI hq=>⟨G,s,hI,hq⟩) h hr
  | false =>
   refine wp_region ?_
   have:=wY hE (ops:=ops) (Q:=Q .normal) (Q':=λ e a w=>∃ G s,Inv c G s a w/\Q e s) (λ G s a w hI hq=>⟨G,s,hI,hq⟩) ops.toList 0 [] G s a w (by simp) h hr
   rw[List.range_eq_range']
   simpa using this
 | .seq x y,Λ,cur,Q,G,s,a,w,h,hr=>by
  simp only[dd] at hr
  split at hr
  case h_2 ι P μ fz dead ins aQ os Oo XK sub hL =>
   obtain⟨hx,hy⟩:=hr
   refine wp_seq (a4M (il hE je x Λ cur _ G s a w h hx) ?_)
   rintro e a' w' ⟨G',s',hI,hq⟩
   cases e with
   | normal =>
    obtain⟨j,YM,hF⟩:=hq
    obtain⟨G3,h3⟩:=hI.BD fz
    obtain⟨G4,h4⟩:=BC h3 hF.ex.choose_spec
    exact il hE je y (sub j) cur Q G4 _ a' w' h4 (hy j YM)
   | _=>exact⟨G',s',hI,hq⟩
  refine wp_seq (a4M (il hE je x Λ cur _ G s a w h hr) ?_)
  rintro e a' w' ⟨G',s',hI,hq⟩
  cases e with
  | normal=>exact il hE je y Λ cur Q G' s' a' w' hI hq
  | _=>exact⟨G',s',hI,hq⟩
 | .cond x p q,Λ,cur,Q,G,s,a,w,h,hr=>by
  simp only[dd] at hr
  split at hr
  .rename_i t ht
   have hx:=bf h x
   rw[ht] at hx
   have hx:[a.eval x]=[.bool t]:=hx
   simp only[a1C,a1H] at hx
   refine wp_cond hx ?_
   cases t with
   | true=>exact il hE je p Λ cur Q G s a w h (hr.1 rfl)
   | false=>exact il hE je q Λ cur Q G s a w h (hr.2 rfl)
  .exact hr.elim
 | .block id x,Λ,cur,Q,G,s,a,w,h,hr=>by
  refine wp_block (a4M (il hE je x Λ id _ G s a w h hr) ?_)
  rintro e a' w' ⟨G',s',hI,hq⟩
  cases e with
  | exit i =>
   simp only at hq
   simp only[Exit.inBlock]
   split at hq
   .rename_i hi
    rw[a1S (a1x hi)]
    exact⟨G',s',hI,hq⟩
   .rename_i hi
    have:i≠id:=λ e=>by subst e;simp at hi
    rw[a1B this]
    exact⟨G',s',hI,hq⟩
  | _=>exact⟨G',s',hI,hq⟩
 | .loop x,Λ,cur,Q,G,s,a,w,h,hr=>by
  simp only[dd] at hr
  split at hr
  .exact hr.elim
  .rename_i ι P μ fz dead ins aQ os Oo XK sub hL
   obtain⟨⟨i0,hP0,hF0⟩,Xm⟩:=hr
   obtain⟨G1,h1⟩:=h.BD fz
   obtain⟨G2,h2⟩:=BC h1 hF0.ex.choose_spec
   refine wp_loop_ghost (λ n a w=>∃ i G,P i/\μ i=n/\Inv c G (rY s (dead++Code.y7 x) (ins i) aQ (os i)) a w) (μ i0) ⟨i0,G2,hP0,rfl,h2⟩ ?_
   rintro n a' w' ⟨i,G',hP,rfl,hI⟩
   refine a4M (il hE je x (sub i) cur _ G' _ a' w' hI (Xm i hP)) ?_
   rintro e a'' w'' ⟨G'',s'',X5,hq⟩
   cases e with
   | normal =>
    obtain⟨j,YM,bC,hF⟩:=hq
    obtain⟨G3,h3⟩:=X5.BD fz
    obtain⟨G4,h4⟩:=BC h3 hF.ex.choose_spec
    exact⟨μ j,bC,j,G4,YM,rfl,h4⟩
   | _=>exact⟨G'',s'',X5,hq⟩
 | .exit id,Λ,cur,Q,G,s,a,w,h,hr=>wp_exit ⟨G,s,h,hr⟩
 | .ret,Λ,cur,Q,G,s,a,w,h,hr=>wp_ret ⟨G,s,h,hr⟩
 | .label l,Λ,cur,Q,G,s,a,w,h,hr=>wp_label ⟨G,s,h,hr⟩
 | .rangeFunc ..,_,_,_,_,_,_,_,_,hr=>hr.elim
 | .scope ..,_,_,_,_,_,_,_,_,hr=>hr.elim
 | .goto ..,_,_,_,_,_,_,_,_,hr=>hr.elim
 | .refuse ..,_,_,_,_,_,_,_,_,hr=>hr.elim
end
end Go.Proofs.YtaaamahdcpcofaaDoor

namespace Go.Proofs.YtaaamahdcpcofaaDoor
theorem aJ.replicate{α β:Type}{R:α->β->Prop}{a:α}{b:β}(yl:R a b):∀ n:Nat,aJ R (List.replicate n a) (List.replicate n b)
 | 0=>trivial
 | n+1=>⟨yl,aJ.replicate yl n⟩
theorem aJ.vU{α β:Type}{R:α->β->Prop}{Z9:List α}{bs:List β}(h:aJ R Z9 bs){a:α}{b:β}(yl:R a b)(n:Nat):aJ R (Z9++List.replicate n a) (bs++List.replicate n b) :=
 h.append (aJ.replicate yl n)
theorem aJ.getD{α β:Type}{R:α->β->Prop}{d:α}{e:β}(VE:R d e):∀ {Z9:List α} {bs:List β},aJ R Z9 bs->∀ i:Nat,R (Z9.getD i d) (bs.getD i e)
 | [],[],_,i=>by simpa using VE
 | a::Z9,b::bs,h,0=>h.1
 | a::Z9,b::bs,h,i+1=>by simpa using aJ.getD VE h.2 i
 | [],_::_,h,_=>h.elim
 | _::_,[],h,_=>h.elim
section
variable {P:Program} {E:Env}
def UK(P:Program)(w:World)(S:Nat->Prop):Arg->Value->Prop
 | .own _,_=>True
 | .box _,_=>True
 | a,x=>vP P w S a x
theorem JJ{w:World}{S X:Nat->Prop}(hS:Em w S)(hX:∀ b,X b->b<w.heap.size/\¬ S b){fn:Func}{args:List Arg}{dc:List Value}(ha:aJ (UK P w S) args dc)(Jv:(∀ b,¬ X b)\/∀ a∈args,a.Fu=true) :
  Inv ⟨P,E,w,X,S,λ _=>none,λ _=>False,λ _=>none⟩ ⟨S,λ _=>undef,λ _=>[]⟩ (aU fn args) { tmps:=dc.toArray++Array.replicate (fn.ntmps - dc.toArray.size) undef,defers:=[] } w:=by
 have hlen:=ha.length
 have LY:∀ v x,v∈args->UK P w S v x->VR ⟨P,E,w,X,S,λ _=>none,λ _=>False,λ _=>none⟩ ⟨S,λ _=>undef,λ _=>[]⟩ (aU fn args).ae w (KW v) x:=by
  intro v x hm h
  cases v with
  | val v=>exact h
  | ref v =>
   obtain⟨b,o,cs,h1,h2,h3,h4⟩:=h
   exact⟨b,o,cs,h1, .inr ⟨h2,Jv.elim (λ q=>⟨q b,λ z=>z⟩) λ q=>absurd (q _ hm) (by simp[Arg.Fu])⟩,h3,h4⟩
  | fn f=>exact h
  | dw v =>
   obtain⟨f,iw,l,h1,h2,h3⟩:=h
   refine⟨f,iw,l,h1,h2,h3.imp λ u y _ hy=>?_⟩
   cases u with
   | val v=>exact hy
   | ref v =>
    obtain⟨b,o,cs,k1,k2,k3,k4⟩:=hy
    exact⟨b,o,cs,k1, .inr ⟨k2,Jv.elim (λ q=>⟨q b,λ z=>z⟩) λ q=>absurd (q _ hm) (by simp[Arg.Fu])⟩,k3,k4⟩
   | fn f=>exact hy
   | dw v=>exact hy.elim
   | own v=>exact hy.elim
   | box k=>exact hy.elim
  | own v=>trivial
  | box k=>trivial
 exact {
  defers:=rfl
  size:=by simp[aU,hlen]
  aQ:=cP.refl _ _
  lE:=⟨λ b h=>(hX b h).1,λ g hg=>⟨(hS.2 g hg).1,λ q=>(hX g q).2 (hS.2 g hg).1,hS.1 g (hS.2 g hg).1,(hS.2 g hg).2⟩⟩
  fc:=λ b _ _=>a3G
  sX:=λ b hs=>hs
  ed:=hS.1
  ar:=λ i=>by
   have h1:aJ (λ v x=>VR ⟨P,E,w,X,S,λ _=>none,λ _=>False,λ _=>none⟩ ⟨S,λ _=>undef,λ _=>[]⟩ (aU fn args).ae w v x) (args.map KW) dc:=aJ.fG _ (ha.imp λ v x hm h=>LY v x hm h)
   have h2:=aJ.getD (d:=AV.any) (e:=undef) (show VR ⟨P,E,w,X,S,λ _=>none,λ _=>False,λ _=>none⟩ ⟨S,λ _=>undef,λ _=>[]⟩ (aU fn args).ae w .any undef from trivial) (h1.vU (a:=AV.any) (b:=undef) (show VR ⟨P,E,w,X,S,λ _=>none,λ _=>False,λ _=>none⟩ ⟨S,λ _=>undef,λ _=>[]⟩ (aU fn args).ae w .any undef from trivial) (fn.ntmps - args.length)) i
   have e1:(aU fn args).sl i=(args.map KW++List.replicate (fn.ntmps - args.length) AV.any).getD i AV.any:=rfl
   have e2:(dc.toArray++Array.replicate (fn.ntmps - dc.toArray.size) undef).getD i undef=(dc++List.replicate (fn.ntmps - args.length) undef).getD i undef:=by
    rw[a2f,a2j,<-a5l]
    simp[hlen]
   rw[e1,e2]
   exact h2
  aC:=λ id o h=>by cases h
  place:=λ id o b h=>by cases h
  apart:=λ id dH o o' b h=>by cases h
  aI:=⟨(λ id τ xs h=>by cases h),(λ id τ xs h=>by cases h),(λ id τ xs b h=>by cases h),(λ id dH τ aV xs cT b h=>by cases h)⟩
  root:=λ id v h=>by cases h
  kd:=λ id v h=>by cases h
  dE:=λ id v h=>by cases h
  fW:=λ id v h=>by cases h }
theorem SW{w:World}{S:Nat->Prop}(hS:Em w S){fn:Func}{args:List Arg}{dc:List Value}(ha:aJ (vP P w S) args dc) :
  Inv ⟨P,E,w,λ _=>False,S,λ _=>none,λ _=>False,λ _=>none⟩ ⟨S,λ _=>undef,λ _=>[]⟩ (aU fn args) { tmps:=dc.toArray++Array.replicate (fn.ntmps - dc.toArray.size) undef,defers:=[] } w :=
 JJ hS (λ _ h=>h.elim) (ha.imp λ v x _ h=>by
  cases v with
  | own v=>trivial
  | box k=>exact h.elim
  | _=>exact h) (.inl λ _ h=>h)
def qG(tmps:Array Value):ResultVar->Sem Value
 | .tmp t=>pure (tmps.getD t undef)
 | .cell a t=>do loadVar t (<-asAddr (tmps.getD a undef))
theorem wQ(fn:Func)(tmps:Array Value):results fn tmps=(do
  let vs <-fn.results.mapM (qG tmps)
  pure (if h:vs.size=1 then vs[0] else .tuple vs)):=by
 unfold results
 congr 1
theorem Hq(hE:bD P E){c:Ctx}(Pc:c.P=P)(Qz:c.E=E){G:Gh}{s:ag}{a:Act}{w:World}(h:Inv c G s a w):∀ {rs:List ResultVar} {Ts:List TypeId} {vs:List TV},IL E s rs Ts=some vs ->
  ∃ xs,(rs.mapM (qG a.tmps)).run P w = .ok xs w/\aJ (fM w (SX G s.ae)) vs xs
 | [],[],vs,hr=>by
  simp only[IL,a1w] at hr
  subst hr
  exact⟨[],by simp,trivial⟩
 | r::rs,T::Ts,vs,hr=>by
  simp only[IL] at hr
  split at hr
  .rename_i τ q hT
   split at hr
   .rename_i x hx
    split at hr
    .rename_i l hl
     simp only[a1w] at hr
     subst hr
     obtain⟨xs,h1,h2⟩:=Hq hE Pc Qz h hl
     cases r with
     | tmp t =>
      refine⟨a.tmps.getD t undef::xs,by simp[a4x,qG,h1],yZ h.aI h.aC (Cf λ _ _ h=>h) hx (bf h (.tmp t)),h2⟩
     | cell p t =>
      simp only at hx
      split at hx
      .rename_i hb
       have hb:=a1x hb
       subst hb
       unfold deref at hx
       split at hx
       .rename_i u hu
        obtain⟨b,o,cs,k1,k2,k3,k4⟩:=rm h.aC (Cf λ _ _ h=>h) hu (bf h (.tmp p))
        have cH:=qH hE hT k2 k3
        have k1':a.tmps.getD p undef = .pointer (some ⟨b,o,none⟩):=k1
        refine⟨Dy τ cs::xs,?_,yZ h.aI h.aC (Cf λ _ _ h=>h) hx k4,h2⟩
        simp only[Instr.loadAt,Instr.sureAddr,a2h,a2i,a1U] at cH
        simp only[a4x,qG,k1',asAddr,a2h,a2i,a1U,cH,h1]
       .cases hx
      .cases hx
    .cases hr
   .cases hr
  .cases hr
 | [],_::_,_,hr=>by cases hr
 | _::_,[],_,hr=>by cases hr
theorem WB{w:World}{S:Nat->Prop}:∀ {vs:List TV} {xs:List Value},aJ (fM w S) vs xs->DH w S vs (if h:xs.toArray.size=1 then xs.toArray[0] else .tuple xs.toArray)
 | [],[],_=>⟨[],by simp,trivial⟩
 | [v],[x],h=>by simpa [DH] using h.1
 | v::u::r,x::y::z,h=>⟨x::y::z,by simp,h⟩
 | [],_::_,h=>h.elim
 | _::_,[],h=>h.elim
 | [_],_::_::_,h=>h.2.elim
 | _::_::_,[_],h=>h.2.elim
theorem NU(hE:bD P E)(je:P.follows .mixedOrders=true){f:FuncId}{fn:Func}{iy:Code}(hf:P.funcs[f]?=some fn)(hb:fn.body=some iy)(Λ:Nat->aW){args:List Arg}{post:List TV->Prop}
  (h:dd E iy Λ 0 (bO E fn post) (aU fn args)):bL P f args post:=by
 intro w S dc hS ha
 refine a5g hf hb ?_
 have hinv:=SW (P:=P) (E:=E) (fn:=fn) hS ha
 refine a4M (il (c:=⟨P,E,w,λ _=>False,S,λ _=>none,λ _=>False,λ _=>none⟩) hE je iy Λ 0 _ _ _ _ w hinv h) ?_
 have fin:∀ (e:Exit) (a:Act) (w':World),(e = .normal\/e = .ret)->(∃ G s,Inv ⟨P,E,w,λ _=>False,S,λ _=>none,λ _=>False,λ _=>none⟩ G s a w'/\bO E fn post e s) ->
   a.defers=[]/\∃ v,(results fn a.tmps).run P w' = .ok v w'/\∃ x S' res,Ending.returned v = .returned x/\post res/\cP (λ _=>False) w w'/\(∀ b,b<w.heap.size->(S' b↔S b))/\(∀ b,S' b->b<w'.heap.size)/\DH w' S' res x:=by
  rintro e a w' he ⟨G,s,hI,hp⟩
  have LQ:∃ vs,IL E s fn.results.toList fn.resultTypes.toList=some vs/\post vs:=by
   rcases he with rfl|rfl <;>
   .simp only[bO] at hp
    split at hp
    .rename_i vs zC
     exact⟨vs,zC,hp⟩
    .exact hp.elim
  obtain⟨vs,zC,LR⟩:=LQ
  obtain⟨xs,h1,h2⟩:=Hq hE (c:=⟨P,E,w,λ _=>False,S,λ _=>none,λ _=>False,λ _=>none⟩) rfl rfl hI zC
  refine⟨hI.defers,(if h:xs.toArray.size=1 then xs.toArray[0] else .tuple xs.toArray),?_,_,SX G s.ae,vs,rfl,LR,hI.aQ,λ b hb=>?_,λ b hb=>?_,WB h2⟩
  .rw[wQ,a3P]
   simp only[a2h,a5C,h1]
   rfl
  .constructor
   .rintro (hs|⟨id,e',τ,ys,aN,jP⟩|⟨id,τ,ys,aN,jP⟩)
    .exact (hI.fc b hb (λ q=>q)).1 hs
    .rcases (hI.place id _ b aN jP).1 with Ph|hx
     .have:w.heap.size<=b:=Ph
      omega
     .exact hx.elim
    .rcases (hI.aI.pl id _ _ b aN jP).1 with Ph|hx
     .have:w.heap.size<=b:=Ph
      omega
     .exact hx.elim
   .exact λ hs => .inl ((hI.fc b hb (λ q=>q)).2 hs)
  .rcases hb with hs|⟨id,e',τ,ys,aN,jP⟩|⟨id,τ,ys,aN,jP⟩
   .exact hI.ed b hs
   .exact (hI.place id _ b aN jP).2.2
   .exact (hI.aI.pl id _ _ b aN jP).2.2.1
 intro e a w' hq
 cases e with
 | normal=>exact fin .normal a w' (.inl rfl) hq
 | ret=>exact fin .ret a w' (.inr rfl) hq
 | exit i=>obtain⟨_,_,_,hp⟩:=hq;exact hp.elim
 | goto l=>obtain⟨_,_,_,hp⟩:=hq;exact hp.elim
 | panic ch=>obtain⟨_,_,_,hp⟩:=hq;exact hp.elim
 | outgrown=>obtain⟨_,_,_,hp⟩:=hq;exact hp.elim
end
end Go.Proofs.YtaaamahdcpcofaaDoor

namespace Go.Proofs.YtaaamahdcpcofaaDoor
def tn(E:Env)(s:ag):List ResultVar->List TypeId->Option (List TV×List Nat)
 | [],[]=>some ([],[])
 | r::rs,T::Ts=>match ae E.ty T with
  | some (
      τ,_)=>match (match r with
    | .tmp t=>rF s.ae τ (s.eval (.tmp t))
    | .cell p t=>match Nat.beq t T with
     | true=>match sG s.ae τ (s.eval (.tmp p)) with
      | some u=>rF s.ae τ u
      | none=>none
     | false=>none) with
   | some (x,i)=>match tn E s rs Ts with
    | some (l,j)=>some (⟨τ,x⟩::l,i++j)
    | none=>none
   | none=>none
  | none=>none
 | _,_=>none
def ti(E:Env)(fn:Func)(post:List TV->Prop)(e:Exit)(s:ag):Prop :=
 match e with
 | .ret | .normal=>match tn E s fn.results.toList fn.resultTypes.toList with
  | some (vs,ids)=>match nodupB ids with
   | true=>post vs
   | false=>False
  | none=>False
 | _=>False
section
variable {P:Program} {E:Env}
theorem Ab{c:Ctx}(hE:bD c.P c.E)(Pc:c.P=P)(Qz:c.E=E){G:Gh}{s:ag}{a:Act}{w:World}(h:Inv c G s a w):∀ {rs:List ResultVar} {Ts:List TypeId} {vs:List TV} {ids:List Nat},tn E s rs Ts=some (vs,ids)->ids.Nodup ->
  ∃ xs fp,(rs.mapM (qG a.tmps)).run P w = .ok xs w/\FG w vs xs fp/\fp.Nodup/\∀ b∈fp,tY G s.ae ids b
 | [],[],vs,ids,hr,_=>by
  simp only[tn,a1w,a1y] at hr
  obtain⟨rfl,rfl⟩:=hr
  exact⟨[],[],by simp,rfl,a2L,by simp⟩
 | r::rs,T::Ts,vs,ids,hr,dq=>by
  simp only[tn] at hr
  split at hr
  case h_2=>cases hr
  case h_1 τ q hT =>
  split at hr
  case h_2=>cases hr
  case h_1 x i hx =>
  split at hr
  case h_2=>cases hr
  case h_1 l j hl =>
  simp only[a1w,a1y] at hr
  obtain⟨rfl,rfl⟩:=hr
  rw[a1X] at dq
  obtain⟨n1,n2,n3⟩:=dq
  obtain⟨xs,fp,h1,h2,h3,h4⟩:=Ab hE Pc Qz h hl n2
  cases r with
  | cell p t =>
   simp only at hx
   split at hx
   case h_2=>cases hx
   case h_1 hb =>
   have hb:=a1x hb
   subst hb
   split at hx
   case h_2=>cases hx
   case h_1 u hu =>
   obtain⟨b,o,cs,q1,q2,q3,q4⟩:=rm h.aC (λ _ _ h=>h) hu (bf h (.tmp p))
   subst Pc Qz
   have cH:=qH hE hT q2 q3
   have Us:a.tmps.getD p undef = .pointer (some ⟨b,o,none⟩):=q1
   obtain⟨f1,k1,k2,k3⟩:=nV h hx q4 n1
   refine⟨Dy τ cs::xs,f1++fp,?_,⟨f1,fp,rfl,k1,h2⟩,eQ k2 h3 λ b hb cm=>h.kp (k3 b hb) (h4 b cm) (λ x hx y hy=>n3 x hx y hy),λ b hb=>?_⟩
   .simp only[Instr.loadAt,Instr.sureAddr,a2h,a2i,a1U] at cH
    simp only[a4x,qG,Us,asAddr,a2h,a2i,a1U,cH,h1]
   .rcases a1A.1 hb with hb|hb
    .exact (k3 b hb).mono λ k hk=>by simp[hk]
    .exact (h4 b hb).mono λ k hk=>by simp[hk]
  | tmp t =>
   obtain⟨f1,k1,k2,k3⟩:=nV h hx (bf h (.tmp t)) n1
   refine⟨a.tmps.getD t undef::xs,f1++fp,by simp[a4x,qG,h1],⟨f1,fp,rfl,k1,h2⟩,eQ k2 h3 λ b hb cm=>h.kp (k3 b hb) (h4 b cm) (λ x hx y hy=>n3 x hx y hy),λ b hb=>?_⟩
   rcases a1A.1 hb with hb|hb
   .exact (k3 b hb).mono λ k hk=>by simp[hk]
   .exact (h4 b hb).mono λ k hk=>by simp[hk]
 | [],_::_,_,_,hr,_=>by cases hr
 | _::_,[],_,_,hr,_=>by cases hr
theorem Og{w:World}:∀ {vs:List TV} {xs:List Value} {fp:List Nat},FG w vs xs fp->El w vs (if h:xs.toArray.size=1 then xs.toArray[0] else .tuple xs.toArray) fp
 | [],[],fp,h=>⟨[],by simp,h⟩
 | [v],[x],fp,h=>by
  obtain⟨f1,f2,rfl,h1,h2⟩:=h
  have h2:f2=[]:=h2
  subst h2
  simpa [El] using h1
 | v::u::r,x::y::z,fp,h=>⟨x::y::z,by simp,h⟩
 | [],_::_,_,h=>h.elim
 | _::_,[],_,h=>h.elim
 | [_],_::_::_,_,h=>by obtain⟨_,_,_,_,h⟩:=h;exact h.elim
 | _::_::_,[_],_,h=>by obtain⟨_,_,_,_,h⟩:=h;exact h.elim
theorem lB:∀ {us:List TV} {id:Nat} {p:Nat×au},p∈bS id us->id<=p.1/\p.1<id+us.length
 | [],id,p,h=>by cases h
 | u::us,id,p,h=>by
  rcases a1A.1 h with h|h
  .have:=JA h;simp only[a1M];omega
  .have:=lB h;simp only[a1M];omega
theorem rA:∀ {us:List TV} {id:Nat},((bS id us).map (·.1)).Nodup
 | [],id=>a2L
 | u::us,id=>by
  simp only[bS,a3s]
  refine eQ ?_ rA λ x hx yq=>?_
  .obtain⟨τ,y⟩:=u
   cases τ<;>simp[gN]
  .obtain⟨p,hp,rfl⟩:=a1D.1 hx
   obtain⟨q,hq,e⟩:=a1D.1 yq
   have h1:=JA hp
   have h2:=lB hq
   omega
theorem TF(v:TV):v.cells.length<=100:=by
 obtain⟨τ,y⟩:=v
 cases τ with
 | st s =>
  show (s.cells y).length<=100
  rw[aM.ki]
  exact Ty.size_le (.st s)
 | _=>exact Nat.succ_le_of_lt (Nat.zero_lt_of_lt (by decide:0<100))
theorem xD{c:Ctx}{a:Act}{w:World}{S:Nat->Prop}(hR:∀ j,c.R j=none):∀ {Z9:List Arg} {xs:List Value} {fp:List Nat} {p:Nat} {G:Gh} {s:ag},Inv c G s a w->tw P w S Z9 xs fp->fp.Nodup->Fr c G s.ae w fp ->
  (∀ i x,xs[i]?=some x->a.tmps.getD (p+i) undef=x)->p+Z9.length<=s.ar.length->(∀ id o,s.ae id=some o->id<1000000+100 * p)->∃ G',Inv c G' (sy p Z9 s) a w
 | [],xs,fp,p,G,s,h,_,_,_,_,_,_=>⟨G,h⟩
 | b::Z9,[],fp,p,G,s,h,hA,_,_,_,_,_=>hA.elim
 | b::Z9,x::xs,fp,p,G,s,h,hA,dq,hF,hx,hlen,aN=>by
  obtain⟨f1,f2,rfl,hb,hA⟩:=hA
  rw[a1X] at dq
  obtain⟨n1,n2,n3⟩:=dq
  simp only[a1M] at hlen
  have yq:∀ i y,xs[i]?=some y->a.tmps.getD (p+1+i) undef=y:=λ i y hi=>by
   have:=hx (i+1) y (by simpa using hi)
   rwa [show p+(i+1)=p+1+i by omega] at this
  have other:f1=[]->sy p (b::Z9) s=sy (p+1) Z9 s->∃ G',Inv c G' (sy p (b::Z9) s) a w:=λ hf e=>by
   subst hf
   rw[e]
   exact xD hR h hA n2 (λ q hq=>hF q (by simp[hq])) yq (by omega) λ id o ho=>by have:=aN id o ho;omega
  cases b with
  | own v =>
   have hO:xQ w v x f1:=hb
   obtain⟨G1,yL,l1,i1,e1,t1,RY⟩:=bc.Ku (id:=1000000+100 * p) h hO n1 (λ q hq=>hF q (by simp[hq]))
    (λ q hq=>by
     cases BR:s.ae q.1 with
     | none=>rfl
     | some o=>have h1:=aN _ o BR;have h2:=lB hq;omega) rA (λ j _=>hR j)
   have cu:ag.ae { ar:=s.ar.set p (fV (1000000+100 * p) v),aC:=bS (1000000+100 * p) v.cells++s.aC }=yL:=by
    funext i
    rw[l1 i]
    exact qq _ _ i
   have hI:Inv c G1 { ar:=s.ar.set p (fV (1000000+100 * p) v),aC:=bS (1000000+100 * p) v.cells++s.aC } a w:=by
    unfold Inv
    rw[cu,show ag.sl { ar:=s.ar.set p (fV (1000000+100 * p) v),aC:=bS (1000000+100 * p) v.cells++s.aC }=lN s.ar.length s.sl (some p) (fV (1000000+100 * p) v) from rD s.ar p _ _,
     show ({ ar:=s.ar.set p (fV (1000000+100 * p) v),aC:=bS (1000000+100 * p) v.cells++s.aC }:ag).ar.length=s.ar.length from by simp]
    exact { i1 with
     ar:=λ i=>by
      unfold lN
      split
      .rename_i hi
       obtain⟨e,_⟩:=hi
       simp only[a1w] at e
       subst e
       rw[show a.tmps.getD p undef=x from hx 0 x rfl]
       exact t1.iA
      .exact i1.ar i }
   obtain⟨G2,h2⟩:=xD hR hI hA n2 (by
    rw[cu]
    exact RY f2 (λ q hq=>hF q (by simp[hq])) λ q hq QO=>n3 q QO q hq rfl) yq (by simp;omega) (λ id o ho=>by
     rw[cu,l1 id] at ho
     unfold iD at ho
     split at ho
     .rename_i o' cF
      have h1:=lB (gI cF)
      have h2:=TF v
      simp only at h1
      omega
     .have:=aN id o ho;omega)
   exact⟨G2,h2⟩
  | val v=>exact other hb.1 rfl
  | ref v=>exact other hb.1 rfl
  | fn v=>exact other hb.1 rfl
  | dw v=>exact other hb.1 rfl
  | box k=>exact other hb.1 rfl
theorem tw.vS{w:World}{S:Nat->Prop}:∀ {Z9:List Arg} {xs:List Value} {fp:List Nat},tw P w S Z9 xs fp->aJ (UK P w S) Z9 xs
 | [],[],_,_=>trivial
 | a::Z9,x::xs,_,h=>by
  obtain⟨f1,f2,_,h1,h2⟩:=h
  refine⟨?_,tw.vS h2⟩
  cases a with
  | own v=>trivial
  | box k=>exact h1.2.elim
  | _=>exact h1.2
 | [],_::_,_,h=>h.elim
 | _::_,[],_,h=>h.elim
theorem Rn{w:World}{S:Nat->Prop}(hS:Em w S){fn:Func}{args:List Arg}{dc:List Value}{fa:List Nat}(ha:tw P w S args dc fa)(Jv:fa=[]\/∀ a∈args,a.Fu=true)(dq:fa.Nodup)(Ds:∀ b∈fa,b<w.heap.size/\¬ S b) :
  ∃ G,Inv ⟨P,E,w,λ b=>b∈fa,S,λ _=>none,λ _=>False,λ _=>none⟩ G (z7 fn args) { tmps:=dc.toArray++Array.replicate (fn.ntmps - dc.toArray.size) undef,defers:=[] } w:=by
 have h0:=JJ (P:=P) (E:=E) (fn:=fn) hS (X:=λ b=>b∈fa) Ds ha.vS (Jv.imp_left λ e b hb=>by rw[e] at hb;cases hb)
 have hlen:=ha.vS.length
 refine xD (S:=S) (λ _=>rfl) h0 ha dq (λ b hb=>⟨.inr hb,(Ds b hb).2,(Ds b hb).1,λ i o h=>(by cases h),λ j τ xs h=>by cases h⟩) (λ i x hi=>?_) (by simp[aU]<;>omega) (λ id o h=>by cases h)
 rw[Nat.zero_add,Array.getD_eq_getD_getElem?,Array.getElem?_append_left (by simpa using (List.getElem?_eq_some_iff.1 hi).1)]
 simp[hi]
theorem Nb(hE:bD P E)(je:P.follows .mixedOrders=true){f:FuncId}{fn:Func}{iy:Code}(hf:P.funcs[f]?=some fn)(hb:fn.body=some iy)(Λ:Nat->aW){args:List Arg}{res:List TV}{post:List TV->Prop}(LR:∀ vs,post vs->vs=res)
  (h:dd E iy Λ 0 (ti E fn post) (z7 fn args)):rP P f args res:=by
 intro w S dc fa hS ha Jv oU Ds
 refine a5g hf hb ?_
 obtain⟨G0,hinv⟩:=Rn (P:=P) (E:=E) (fn:=fn) hS ha Jv oU Ds
 refine a4M (il (c:=⟨P,E,w,λ b=>b∈fa,S,λ _=>none,λ _=>False,λ _=>none⟩) hE je iy Λ 0 _ _ _ _ w hinv h) ?_
 have fin:∀ (e:Exit) (a:Act) (w':World),(e = .normal\/e = .ret)->(∃ G s,Inv ⟨P,E,w,λ b=>b∈fa,S,λ _=>none,λ _=>False,λ _=>none⟩ G s a w'/\ti E fn post e s) ->
   a.defers=[]/\∃ v,(results fn a.tmps).run P w' = .ok v w'/\∃ x fp,Ending.returned v = .returned x/\cP (λ b=>b∈fa) w w'/\El w' res x fp/\fp.Nodup/\∀ b∈fp,b∈fa\/(w.heap.size<=b/\b<w'.heap.size):=by
  rintro e a w' he ⟨G,s,hI,hp⟩
  have LQ:∃ vs ids,tn E s fn.results.toList fn.resultTypes.toList=some (vs,ids)/\ids.Nodup/\vs=res:=by
   rcases he with rfl|rfl <;>
   .simp only[ti] at hp
    split at hp
    .rename_i vs ids zC
     split at hp
     .rename_i hn
      exact⟨vs,ids,zC,cY hn,LR vs hp⟩
     .exact hp.elim
    .exact hp.elim
  obtain⟨vs,ids,zC,hn,rfl⟩:=LQ
  obtain⟨xs,fp,h1,h2,h3,h4⟩:=Ab (P:=P) (E:=E) (c:=⟨P,E,w,λ b=>b∈fa,S,λ _=>none,λ _=>False,λ _=>none⟩) hE rfl rfl hI zC hn
  refine⟨hI.defers,(if h:xs.toArray.size=1 then xs.toArray[0] else .tuple xs.toArray),?_,_,fp,rfl,hI.aQ,Og h2,h3,λ b hb=>?_⟩
  .rw[wQ,a3P]
   simp only[a2h,a5C,h1]
   rfl
  .obtain⟨id,hi,hq⟩:=h4 b hb
   rcases hq with ⟨τ,ys,q1,q2⟩|⟨e',τ,ys,q1,q2⟩
   .obtain⟨p1,_,p3,_⟩:=hI.aI.pl id τ ys b q1 q2
    exact p1.elim (λ q => .inr ⟨q,p3⟩) .inl
   .obtain⟨p1,_,p3⟩:=hI.place id _ b q1 q2
    exact p1.elim (λ q => .inr ⟨q,p3⟩) .inl
 intro e a w' hq
 cases e with
 | normal=>exact fin .normal a w' (.inl rfl) hq
 | ret=>exact fin .ret a w' (.inr rfl) hq
 | exit i=>obtain⟨_,_,_,hp⟩:=hq;exact hp.elim
 | goto l=>obtain⟨_,_,_,hp⟩:=hq;exact hp.elim
 | panic ch=>obtain⟨_,_,_,hp⟩:=hq;exact hp.elim
 | outgrown=>obtain⟨_,_,_,hp⟩:=hq;exact hp.elim
theorem C1.XJ{c:Ctx}{G:Gh}{lk:Nat->Option au}{w:World}{v:AV}{x:Value}(h:C1 c G lk w v x)(R:Nat->Option Value):C1 { c with R:=R } G lk w v x:=by
 cases v<;>exact h
theorem TR.XJ{c:Ctx}{G:Gh}{lk:Nat->Option au}{w:World}{v:AV}{x:Value}(h:TR c G lk w v x)(R:Nat->Option Value):TR { c with R:=R } G lk w v x:=by
 cases v with
 | agg cs =>
  obtain⟨l,h1,h2⟩:=h
  exact⟨l,h1,h2.imp λ u y _ hy=>hy.XJ R⟩
 | aq i=>exact C1.XJ (c:=c) (w:=w) (v := .aq i) h R
 | _=>exact h
def ej(fn:Func)(v:TV)(k:Int):ag:={ ar:=fV 50 v :: .az ⟨.int .i64,k⟩::List.replicate (fn.ntmps - 2) .any,aC:=bS 50 v.cells }
def jE(fn:Func)(m:Aj)(x:m.τ.den)(k:Int)(e:Exit)(s:ag):Prop :=
 match e with
 | .ret | .normal=>match fn.results.toList with
  | [.tmp t]=>match s.eval (.tmp t),rF s.ae m.τ (fV 50 ⟨m.τ,x⟩) with
   | .az ⟨.int .i64,n⟩,some (x',ids)=>match nodupB ids&&ids.all λ id=>cp (s.ae id) with
    | true=>n=(m.g x k).2.2/\x'=(m.g x k).2.1
    | false=>False
   | _,_=>False
  | _=>False
 | _=>False
theorem Gm{c c0:Ctx}{G G0:Gh}{lk lk0:Nat->Option au}{w w':World}(LX:∀ j v,cp (lk0 j)=true->(∃ l,G0.η j = .tuple (v::l).toArray)->50<=j->cp (lk j)=true->∃ l,G.η j = .tuple (v::l).toArray) :
  ∀ {us:List TV} {id:Nat} {ts:List Ty} {us':List TV} {ids:List Nat} {l:List Value},50<=id->(∀ u∈us,u.τ.agg=false)->aJ (C1 c0 G0 lk0 w) (bU id us) l->sJ lk (bU id us) ts=some (us',ids)->aJ (C1 c G lk w') (bU id us) l
 | [],id,ts,us',ids,l,_,_,h,_=>by
  match l,h with
  | [],_=>trivial
 | u::us,id,ts,us',ids,l,aN,hu,h,ht=>by
  match l,h,ts,ht with
  | v::l,h,t::ts,ht =>
   simp only[bU,sJ] at ht
   split at ht
   case h_2=>cases ht
   case h_1 x i hx =>
   split at ht
   case h_2=>cases ht
   case h_1 r j hr =>
   refine⟨?_,Gm LX (by omega) (λ u V3=>hu u (by simp[V3])) h.2 hr⟩
   have h1:=h.1
   obtain⟨τ,y⟩:=u
   cases τ with
   | slice t' =>
    obtain⟨q1,q2,q3,q4⟩:=h1
    have hT:cp (lk id)=true:=by
     simp only[kc,eK] at hx
     split at hx
     .rename_i hl;rw[hl];rfl
     .cases hx
    obtain⟨l',oo⟩:=LX id v q1 ⟨q2,q3⟩ aN hT
    exact⟨hT,l',oo,q4⟩
   | st s=>exact absurd (hu ⟨.st s,y⟩ (by simp)) (by simp[Ty.agg])
   | mv t'=>exact trivial
   | ptr=>exact⟨rfl,h1.2⟩
   | int k=>exact⟨rfl,h1.2⟩
   | bool=>exact⟨rfl,h1.2⟩
   | str=>exact⟨rfl,h1.2⟩
theorem Lt(hE:bD P E)(je:P.follows .mixedOrders=true){f:FuncId}{fn:Func}{iy:Code}(hf:P.funcs[f]?=some fn)(hb:fn.body=some iy){m:Aj}(Λ:m.τ.den->Int->Nat->aW)
  (GG:∀ x:m.τ.den,(TV.cells ⟨m.τ,x⟩).length<=50) (hn:2<=fn.ntmps) (h:∀ (x:m.τ.den) (k:Int),(m.g x k).1.ok->ah k->dd E iy (Λ x k) 0 (jE fn m x k) (ej fn ⟨m.τ,x⟩ k)):FF P f m:=by
 intro x k w v fp kv hk hG hO dq bC
 refine a5g hf hb ?_
 have h0:bc ⟨P,E,w,λ b=>b∈fp,λ b=>b<w.heap.size/\b∉fp,λ _=>none,λ _=>False,λ _=>none⟩ ⟨λ b=>b<w.heap.size/\b∉fp,λ _=>undef,λ _=>[]⟩ (λ _ => .any) (ej fn ⟨m.τ,x⟩ k).ar.length (λ _=>none) { tmps := #[v, .int .i64 k]++Array.replicate (fn.ntmps - 2) undef,defers:=[] } w:={
  defers:=rfl
  size:=by simp[ej];omega
  aQ:=cP.refl _ _
  lE:=⟨bC,λ g hg=>⟨(hG g hg).1,(hG g hg).1.2,(hG g hg).1.1,(hG g hg).2⟩⟩
  fc:=λ b _ _=>a3G
  sX:=λ b h=>h
  ed:=λ b h=>h.1
  ar:=λ _=>trivial
  aC:=λ id o h=>by cases h
  place:=λ id o b h=>by cases h
  apart:=λ id dH o o' b h=>by cases h
  aI:=⟨(λ id τ xs h=>by cases h),(λ id τ xs h=>by cases h),(λ id τ xs b h=>by cases h),(λ id dH τ aV xs cT b h=>by cases h)⟩
  root:=λ id v h=>by cases h
  kd:=λ id v h=>by cases h
  dE:=λ id v h=>by cases h
  fW:=λ id v h=>by cases h }
 obtain⟨G1,yL,l1,i1,e1,t1,_⟩:=h0.Ku (id:=50) hO dq (λ b hb=>⟨.inr hb,λ h=>h.2 hb,bC b hb,λ i o h=>(by cases h),λ j τ xs h=>by cases h⟩) (λ _ _=>rfl) rA (λ _ _=>rfl)
 have N2:(ej fn ⟨m.τ,x⟩ k).ae=yL:=by
  funext i
  rw[l1 i]
  unfold iD ej ag.ae
  cases ae (bS 50 (TV.cells ⟨m.τ,x⟩)) i<;>rfl
 let R:Nat->Option Value:=λ id=>match cp (yL id),G1.η id with
  | true, .tuple arr=>arr[0]?
  | _,_=>none
 have hR:∀ id v',R id=some v'->cp (yL id)=true/\∃ l,G1.η id = .tuple (v'::l).toArray:=by
  intro id v' hr
  simp only[R] at hr
  split at hr
  .rename_i arr ht fB
   refine⟨ht,?_⟩
   rw[fB]
   have hl:arr.toList[0]?=some v':=by simpa using hr
   match hq:arr.toList,hl with
   | a0::l,hl =>
    simp at hl
    subst hl
    exact⟨l,by rw[<-hq]⟩
  .cases hr
 have hinv:Inv ⟨P,E,w,λ b=>b∈fp,λ b=>b<w.heap.size/\b∉fp,R,λ _=>False,λ _=>none⟩ G1 (ej fn ⟨m.τ,x⟩ k) { tmps := #[v, .int .i64 k]++Array.replicate (fn.ntmps - 2) undef,defers:=[] } w:=by
  unfold Inv
  rw[N2]
  exact {
   defers:=i1.defers,size:=i1.size,aQ:=i1.aQ,lE:=i1.lE,fc:=i1.fc,sX:=i1.sX,ed:=i1.ed
   ar:=λ i=>by
    match i with
    | 0 =>
     have e:(#[v,Value.int .i64 k]++Array.replicate (fn.ntmps - 2) undef).getD 0 undef=v:=by
      rw[a2f,a4O (by simp)];rfl
     show VR _ _ _ _ (fV 50 ⟨m.τ,x⟩) ((#[v,Value.int .i64 k]++Array.replicate (fn.ntmps - 2) undef).getD 0 undef)
     rw[e]
     exact (t1.XJ R).iA
    | 1 =>
     have e:(#[v,Value.int .i64 k]++Array.replicate (fn.ntmps - 2) undef).getD 1 undef = .int .i64 k:=by
      rw[a2f,a4O (by simp)];rfl
     show VR _ _ _ _ (.az ⟨.int .i64,k⟩) ((#[v,Value.int .i64 k]++Array.replicate (fn.ntmps - 2) undef).getD 1 undef)
     rw[e]
     exact Ho hk
    | i+2 =>
     have:(ej fn ⟨m.τ,x⟩ k).sl (i+2) = .any:=by
      simp only[ag.sl,ej,a3S]
      rw[a2j,List.getElem?_replicate]
      split<;>rfl
     rw[this]
     trivial
   aC:=i1.aC,place:=i1.place,apart:=i1.apart
   aI:=⟨i1.aI.tr,i1.aI.nd,i1.aI.pl,i1.aI.ap⟩
   root:=λ id v' hr ht=>(hR id v' hr).2
   dE:=λ id b hr=>by cases hr
   fW:=λ id b hr=>by cases hr
   kd:=λ id v' hr=>by
    obtain⟨ht,_⟩:=hR id v' hr
    rw[l1 id] at ht
    unfold iD at ht
    split at ht
    .rename_i o ho
     have:=lB (gI ho)
     have:=GG x
     simp only at *
     omega
    .cases ht }
 refine a4M (il (c:=⟨P,E,w,λ b=>b∈fp,λ b=>b<w.heap.size/\b∉fp,R,λ _=>False,λ _=>none⟩) hE je iy (Λ x k) 0 _ _ _ _ w hinv (h x k kv hk)) ?_
 have fin:∀ (e:Exit) (a:Act) (w':World),(e = .normal\/e = .ret)->(∃ G s,Inv ⟨P,E,w,λ b=>b∈fp,λ b=>b<w.heap.size/\b∉fp,R,λ _=>False,λ _=>none⟩ G s a w'/\jE fn m x k e s) ->
   a.defers=[]/\∃ u,(results fn a.tmps).run P w' = .ok u w'/\Ending.returned u = .returned (.int .i64 (m.g x k).2.2)/\ah (m.g x k).2.2/\cP (λ b=>b∈fp) w w'/\∃ uf,xQ w' ⟨m.τ,(m.g x k).2.1⟩ v uf/\uf.Nodup/\∀ b∈uf,b∈fp\/(w.heap.size<=b/\b<w'.heap.size):=by
  rintro e a w' he ⟨G,s,hI,hp⟩
  have LQ:∃ t n x' ids,fn.results.toList=[.tmp t]/\s.eval (.tmp t) = .az ⟨.int .i64,n⟩/\rF s.ae m.τ (fV 50 ⟨m.τ,x⟩)=some (x',ids)/\ids.Nodup/\(∀ id∈ids,cp (s.ae id)=true)/\n=(m.g x k).2.2/\x'=(m.g x k).2.1:=by
   rcases he with rfl|rfl <;>
   .simp only[jE] at hp
    split at hp
    .rename_i t ht
     split at hp
     .rename_i n x' ids h1 h2
      split at hp
      .rename_i hb
       simp only[a1z,a2e] at hb
       exact⟨t,n,x',ids,ht,h1,h2,cY hb.1,hb.2,hp⟩
      .exact hp.elim
     .exact hp.elim
    .exact hp.elim
  obtain⟨t,n,x',ids,r1,r2,r3,r4,r5,rfl,rfl⟩:=LQ
  have c8:=bf hI (.tmp t)
  rw[r2] at c8
  obtain⟨q1,q2⟩:=Po c8
  have LX:∀ j v',cp (yL j)=true->(∃ l,G1.η j = .tuple (v'::l).toArray)->50<=j->cp (s.ae j)=true->∃ l,G.η j = .tuple (v'::l).toArray:=by
   rintro j v' ht ⟨l,hl⟩ _ ni
   exact hI.root j v' (by simp only[R,ht,hl];rfl) ni
  have J3:VR ⟨P,E,w,λ b=>b∈fp,λ b=>b<w.heap.size/\b∉fp,R,λ _=>False,λ _=>none⟩ G s.ae w' (fV 50 ⟨m.τ,x⟩) v:=by
   obtain⟨DG,g⟩:=m
   cases DG with
   | st st =>
    obtain⟨l,hl,hc⟩:=t1
    refine⟨l,hl,?_⟩
    simp only[fV,rF] at r3
    split at r3
    case h_2=>cases r3
    case h_1 us i hus =>
    exact Gm LX (a2u _) (Ep st x) hc hus
   | mv t'=>exact trivial
   | slice t' =>
    obtain⟨q1,q2,q3,q4⟩:=t1
    have hT:cp (s.ae 50)=true:=by
     simp only[fV,kc,rF,eK] at r3
     split at r3
     .rename_i hl;rw[hl];rfl
     .cases r3
    obtain⟨l',oo⟩:=LX 50 v q1 ⟨q2,q3⟩ (a2u _) hT
    exact⟨hT,l',oo,q4⟩
   | ptr=>exact t1
   | int k=>exact t1
   | bool=>exact t1
   | str=>exact t1
  obtain⟨uf,o1,o2,o3⟩:=nV hI r3 J3 r4
  have N5:(results fn a.tmps).run P w' = .ok (a.tmps.getD t undef) w':=by
   rw[wQ,a3P,r1]
   simp[qG]
  refine⟨hI.defers,_,N5,by rw[show a.tmps.getD t undef=_ from q1],q2,hI.aQ,uf,o1,o2,λ b hb=>?_⟩
  obtain⟨id,hi,hq⟩:=o3 b hb
  rcases hq with ⟨τ,ys,q1,q2⟩|⟨e',τ,ys,q1,q2⟩
  .obtain⟨p1,_,p3,_⟩:=hI.aI.pl id τ ys b q1 q2
   exact p1.elim (λ q => .inr ⟨q,p3⟩) .inl
  .have:=r5 id hi
   rw[q1] at this
   cases this
 intro e a w' hq
 cases e with
 | normal=>exact fin .normal a w' (.inl rfl) hq
 | ret=>exact fin .ret a w' (.inr rfl) hq
 | exit i=>obtain⟨_,_,_,hp⟩:=hq;exact hp.elim
 | goto l=>obtain⟨_,_,_,hp⟩:=hq;exact hp.elim
 | panic ch=>obtain⟨_,_,_,hp⟩:=hq;exact hp.elim
 | outgrown=>obtain⟨_,_,_,hp⟩:=hq;exact hp.elim
end
end Go.Proofs.YtaaamahdcpcofaaDoor

namespace Go.Proofs.YtaaamahdcpcofaaDoor
def nA:List CK->List TV->Nat->List AV
 | .d _::ks,v::ds,n => .az v::nA ks ds n
 | .o _::ks,v::ds,n=>kc n v::nA ks ds (n+1)
 | .p j::ks,ds,n => .ptr (400000+j) 0::nA ks ds n
 | _,_,_=>[]
def nz:Nat->List (List CK)->List (List TV)->Nat->List (Nat×au)
 | k,ks::sh,ds::bN,n=>(400000+k, .box (nA ks ds n))::nz (k+1) sh bN (n+(dS ks ds).length)
 | _,_,_,_=>[]
def lV:List (List CK)->List (List TV)->List TV
 | ks::sh,ds::bN=>dS ks ds++lV sh bN
 | _,_=>[]
def OM:Arg->AV
 | .box k => .ptr (400000+k) 0
 | a=>KW a
def cv(fn:Func)(args:List Arg)(sh:List (List CK))(bN:List (List TV)):ag :=
 { ar:=args.map OM++List.replicate (fn.ntmps - args.length) .any,aC:=nz 0 sh bN 1000000++bS 1000000 (lV sh bN) }
def Xu(n:Nat):List (Nat×Nat):=(List.range n).map λ k=>(k,400000+k)
def ij(E:Env)(fn:Func)(sh:List (List CK))(post:List TV->List (List TV)->Prop)(e:Exit)(s:ag):Prop :=
 match e with
 | .ret | .normal=>match tn E s fn.results.toList fn.resultTypes.toList with
  | some (vs,ids)=>match kq s.ae sh 0 (Xu sh.length) with
   | some (bN,BT,m)=>match nodupB (ids++BT)&&Nat.beq m.length sh.length with
    | true=>post vs bN
    | false=>False
   | none=>False
  | none=>False
 | _=>False
theorem Ug:∀ (n:Nat) (k:Nat),ae (Xu n) k=if k<n then some (400000+k) else none:=by
 intro n k
 have key:∀ (l:List Nat),l.Nodup->ae (l.map λ k=>(k,400000+k)) k=if k∈l then some (400000+k) else none:=by
  intro l
  induction l with
  | nil=>intro _;rfl
  | cons j l ih =>
   intro hn
   simp only[a2o] at hn
   rw[a2p,qs,ih hn.2]
   by_cases hk:k=j
   .subst hk;simp
   .simp[hk]
 rw[Xu,key _ a4A]
 simp
section
variable {P:Program} {E:Env}
theorem NB{w:World}{S:Nat->Prop}{B:Nat->Nat}:∀ {sh:List (List CK)} {k:Nat} {bN:List (List TV)} {n:Nat} {fa:List Nat},kz w S B k sh bN fa ->
  ∃ xs,dA w ((lV sh bN).map TV.aT) xs fa/\(∀ u∈lV sh bN,u.τ.agg=false) /\
   ∀ p∈nz k sh bN n,∃ j cs l t,p=(400000+j, .box cs)/\k<=j/\j<k+sh.length/\w.heap[B j]?=some (.cells l.toArray t (0,0))/\l.length=cs.length /\
    ∀ (c:Ctx) (G:Gh) (lk:Nat->Option au) (N:Nat),(∀ b,S b->G.S b)->(∀ j,j<N->G.η (400000+j) = .pointer (some ⟨B j,0,none⟩)/\im (lk (400000+j))=true)->(∀ ks∈sh,∀ j,CK.p j∈ks->j<N) ->
     aJ (C1 c G lk w) (bU n (lV sh bN)) xs->aJ (C1 c G lk w) cs l
 | [],k,[],n,fa,h=>⟨[],⟨rfl,h⟩,by simp[lV],by simp[nz]⟩
 | ks::sh,k,ds::bN,n,fa,h=>by
  obtain⟨l,t,f1,f2,rfl,hw,hB,YR⟩:=h
  obtain⟨xs,q1,q2,q3⟩:=NB (n:=n+(dS ks ds).length) YR
  obtain⟨o1,o2,o3⟩:=hB.tW
  have hlen:∀ (us:List TV) (n:Nat),(bU n us).length=us.length:=λ us=>by
   induction us with
   | nil=>intro n;rfl
   | cons u us ih=>intro n;simp[bU,ih]
  have Dr:∀ {ks:List CK} {ds:List TV} {l:List Value} {fp:List Nat} {n:Nat},mR w S B ks ds l fp->l.length=(nA ks ds n).length:=by
   intro ks
   induction ks with
   | nil=>intro ds l fp n h;cases ds<;>cases l<;>first|rfl|cases h
   | cons k0 ks ih =>
    intro ds l fp n h
    cases l with
    | nil=>cases k0<;>cases ds<;>cases h
    | cons x l =>
     cases k0 with
     | d τ =>
      cases ds with
      | nil=>cases h
      | cons v ds=>simp[nA,ih h.2 (n:=n)]
     | o τ =>
      cases ds with
      | nil=>cases h
      | cons v ds=>obtain⟨_,_,_,_,h2⟩:=h;simp[nA,ih h2 (n:=n+1)]
     | p j =>
      have h:x = .pointer (some ⟨B j,0,none⟩)/\mR w S B ks ds l fp:=by cases ds<;>exact h
      simp[nA,ih h.2 (n:=n)]
  have LJ:∀ (c:Ctx) (G:Gh) (lk:Nat->Option au) (N:Nat),(∀ b,S b->G.S b)->(∀ j,j<N->G.η (400000+j) = .pointer (some ⟨B j,0,none⟩)/\im (lk (400000+j))=true) ->
    ∀ {ks:List CK} {ds:List TV} {l:List Value} {fp:List Nat} {n:Nat},mR w S B ks ds l fp->(∀ j,CK.p j∈ks->j<N)->aJ (C1 c G lk w) (bU n (dS ks ds)) (mO ks l)->aJ (C1 c G lk w) (nA ks ds n) l:=by
   intro c G lk N hS hN ks
   induction ks with
   | nil=>intro ds l fp n h _ _;cases ds<;>cases l<;>first|exact trivial|cases h
   | cons k0 ks ih =>
    intro ds l fp n h hp hc
    cases l with
    | nil=>cases k0<;>cases ds<;>cases h
    | cons x l =>
     cases k0 with
     | d τ =>
      cases ds with
      | nil=>cases h
      | cons v ds =>
       obtain⟨⟨e,h1,h2⟩,h3⟩:=h
       exact⟨⟨by rw[e];exact h1,Rd.aQ hS (λ _ _=>rfl) _ h2⟩,ih h3 (λ j hj=>hp j (by simp[hj])) hc⟩
     | o τ =>
      cases ds with
      | nil=>cases h
      | cons v ds =>
       obtain⟨_,_,_,_,h2⟩:=h
       exact⟨hc.1,ih h2 (λ j hj=>hp j (by simp[hj])) hc.2⟩
     | p j =>
      have h:x = .pointer (some ⟨B j,0,none⟩)/\mR w S B ks ds l fp:=by cases ds<;>exact h
      have hc:aJ (C1 c G lk w) (bU n (dS ks ds)) (mO ks l):=by cases ds<;>exact hc
      obtain⟨g1,g2⟩:=hN j (hp j (by simp))
      have r:=ih h.2 (λ j hj=>hp j (by simp[hj])) hc
      show aJ _ (AV.ptr (400000+j) 0::nA ks ds n) (x::l)
      exact⟨⟨B j,g1,h.1,g2⟩,r⟩
  refine⟨mO ks l++xs,by rw[lV,a3s];exact o1.append q1,λ u hu=>(a1A.1 hu).elim (o2 u) (q2 u),λ p hp=>?_⟩
  have wo:∀ {c:Ctx} {G':Gh} {lk':Nat->Option au},aJ (C1 c G' lk' w) (bU n (lV (ks::sh) (ds::bN))) (mO ks l++xs)->aJ (C1 c G' lk' w) (bU n (dS ks ds)) (mO ks l)/\aJ (C1 c G' lk' w) (bU (n+(dS ks ds).length) (lV sh bN)) xs:=λ {c G' lk'} q=>by
   rw[lV,ss] at q
   have hl:(bU n (dS ks ds)).length=(mO ks l).length:=by rw[<-o3];exact hlen _ _
   have h1:=q.take (bU n (dS ks ds)).length
   have h2:=q.drop (bU n (dS ks ds)).length
   rw[a3F,hl,a3F] at h1
   rw[a3E,hl,a3E] at h2
   exact⟨h1,h2⟩
  rcases a1N.1 hp with rfl|hp
  .exact⟨k,nA ks ds n,l,t,rfl,a2u _,by simp,hw,Dr hB,λ c G lk N h1 h2 h3 h4=>LJ c G lk N h1 h2 hB (h3 ks (by simp)) (wo h4).1⟩
  .obtain⟨j,cs,l',t',g1,g2,g3,g4,g5,g6⟩:=q3 p hp
   exact⟨j,cs,l',t',g1,by omega,by simp;omega,g4,g5,λ c G lk N h1 h2 h3 h4=>g6 c G lk N h1 h2 (λ Zz hk=>h3 Zz (by simp[hk])) (wo h4).2⟩
 | [],_,_::_,_,_,h=>h.elim
 | _::_,_,[],_,_,h=>h.elim
def Ov(sh:List (List CK)):Bool:=Nat.blt sh.length 1000&&sh.all λ ks=>ks.all λ c=>match c with
 | .p j=>Nat.blt j sh.length
 | _=>true
theorem MO{sh:List (List CK)}(h:Ov sh=true):∀ ks∈sh,∀ j,CK.p j∈ks->j<sh.length:=λ ks hk j hj=>by
 unfold Ov at h
 rw[a1z] at h
 obtain⟨_,h⟩:=h
 rw[a2e] at h
 have h2:=h ks hk
 rw[a2e] at h2
 exact a2n (h2 _ hj)
theorem mR.congr{w:World}{S:Nat->Prop}{B B':Nat->Nat}{N:Nat}(hB:∀ j,j<N->B j=B' j):∀ {ks:List CK} {ds:List TV} {l:List Value} {fp:List Nat},(∀ j,CK.p j∈ks->j<N)->mR w S B ks ds l fp->mR w S B' ks ds l fp:=by
 intro ks
 induction ks with
 | nil=>intro ds l fp _ h;cases ds<;>cases l<;>exact h
 | cons k0 ks ih =>
  intro ds l fp hp h
  cases l with
  | nil=>cases k0<;>cases ds<;>cases h
  | cons x l =>
   cases k0 with
   | d τ =>
    cases ds with
    | nil=>cases h
    | cons v ds=>exact⟨h.1,ih (λ j hj=>hp j (by simp[hj])) h.2⟩
   | o τ =>
    cases ds with
    | nil=>cases h
    | cons v ds =>
     obtain⟨f1,f2,e,h1,h2⟩:=h
     exact⟨f1,f2,e,h1,ih (λ j hj=>hp j (by simp[hj])) h2⟩
   | p j =>
    have h:x = .pointer (some ⟨B j,0,none⟩)/\mR w S B ks ds l fp:=by cases ds<;>exact h
    have r:=ih (λ j hj=>hp j (by simp[hj])) h.2
    have e:x = .pointer (some ⟨B' j,0,none⟩):=by rw[h.1,hB j (hp j (by simp))]
    cases ds<;>exact⟨e,r⟩
theorem kz.congr{w:World}{S:Nat->Prop}{B B':Nat->Nat}{N:Nat}(hB:∀ j,j<N->B j=B' j):∀ {sh:List (List CK)} {k:Nat} {bN:List (List TV)} {fa:List Nat},k+sh.length<=N->(∀ ks∈sh,∀ j,CK.p j∈ks->j<N)->kz w S B k sh bN fa->kz w S B' k sh bN fa
 | [],k,bN,fa,_,_,h=>by cases bN<;>exact h
 | ks::sh,k,[],fa,_,_,h=>h.elim
 | ks::sh,k,ds::bN,fa,hk,hp,h=>by
  obtain⟨l,t,f1,f2,e,h1,h2,h3⟩:=h
  simp only[a1M] at hk
  exact⟨l,t,f1,f2,e,by rw[<-hB k (by omega)];exact h1,h2.congr hB (hp ks (by simp)),kz.congr hB (by omega) (λ Zz oW=>hp Zz (by simp[oW])) h3⟩
theorem DY:∀ {sh:List (List CK)} {k:Nat} {bN:List (List TV)} {n:Nat} {j:Nat},sh.length=bN.length->k<=j->j<k+sh.length->∃ cs,ae (nz k sh bN n) (400000+j)=some (.box cs)
 | [],k,bN,n,j,_,h1,h2=>by simp at h2;omega
 | ks::sh,k,[],n,j,hl,_,_=>by simp at hl
 | ks::sh,k,ds::bN,n,j,hl,h1,h2=>by
  rw[nz,qs]
  by_cases hj:j=k
  .subst hj;exact⟨_,a1S rfl⟩
  .rw[a1B (by omega)]
   exact DY (by simpa using hl) (by omega) (by simp at h2;omega)
theorem kz.len{w:World}{S:Nat->Prop}{B:Nat->Nat}:∀ {sh:List (List CK)} {k:Nat} {bN:List (List TV)} {fa:List Nat},kz w S B k sh bN fa->sh.length=bN.length
 | [],_,[],_,_=>rfl
 | [],_,_::_,_,h=>h.elim
 | _::_,_,[],_,h=>h.elim
 | ks::sh,k,ds::bN,fa,h=>by
  obtain⟨l,t,f1,f2,e,h1,h2,h3⟩:=h
  simp[kz.len h3]
theorem PS{w:World}{S:Nat->Prop}{B:Nat->Nat}{fn:Func}{args:List Arg}{dc:List Value}{sh:List (List CK)}{bN:List (List TV)}{fa:List Nat}(Dv:Ov sh=true)(hS:Em w S)(Qw:kz w S B 0 sh bN fa)(QD:fa.Nodup)
  (Ds:∀ b∈fa,b<w.heap.size/\¬ S b/\∀ k,k<sh.length->B k≠b) (hB:∀ k,k<sh.length->B k<w.heap.size/\¬ S (B k)) (GI:∀ j k,j<sh.length->k<sh.length->B j=B k->j=k) (ha:aJ (P2 w S (BX sh.length B fa) B) args dc)
  (LI:∀ k,Arg.box k∈args->k<sh.length) :
  ∃ G,Inv ⟨P,E,w,BX sh.length B fa,S,λ _=>none,λ _=>False,λ id=>if 400000<=id/\id<400000+sh.length then some (B (id - 400000)) else none⟩ G (cv fn args sh bN) { tmps:=dc.toArray++Array.replicate (fn.ntmps - dc.toArray.size) undef,defers:=[] } w:=by
 have hlen:=ha.length
 let c1:Ctx:=⟨P,E,w,λ b=>b∈fa,S,λ _=>none,λ _=>False,λ _=>none⟩
 have h0:bc c1 ⟨S,λ _=>undef,λ _=>[]⟩ (λ _ => .any) (cv fn args sh bN).ar.length (λ _=>none) { tmps:=dc.toArray++Array.replicate (fn.ntmps - dc.toArray.size) undef,defers:=[] } w:={
  defers:=rfl
  size:=by simp[cv,hlen]
  aQ:=cP.refl _ _
  lE:=⟨λ b h=>(Ds b h).1,λ g hg=>⟨(hS.2 g hg).1,λ q=>(Ds g q).2.1 (hS.2 g hg).1,hS.1 g (hS.2 g hg).1,(hS.2 g hg).2⟩⟩
  fc:=λ b _ _=>a3G
  sX:=λ b hs=>hs
  ed:=hS.1
  ar:=λ i=>trivial
  aC:=λ id o h=>by cases h
  place:=λ id o b h=>by cases h
  apart:=λ id dH o o' b h=>by cases h
  aI:=⟨(λ id τ xs h=>by cases h),(λ id τ xs h=>by cases h),(λ id τ xs b h=>by cases h),(λ id dH τ aV xs cT b h=>by cases h)⟩
  root:=λ id v h=>by cases h
  kd:=λ id v h=>by cases h
  dE:=λ id v h=>by cases h
  fW:=λ id v h=>by cases h }
 obtain⟨xs,o1,o2,o3⟩:=NB (n:=1000000) Qw
 have a1v:sh.length<1000:=by
  unfold Ov at Dv
  rw[a1z] at Dv
  exact a2n Dv.1
 have TS:Fr c1 ⟨S,λ _=>undef,λ _=>[]⟩ (λ _=>none) w fa:=λ b hb=>⟨.inr hb,(Ds b hb).2.1,(Ds b hb).1,(λ i o h=>by cases h),(λ j τ xs h=>by cases h)⟩
 obtain⟨G1,yL,k1,k2,k3,k4,_⟩:=h0.xR (us:=lV sh bN) (cs:=xs) (id:=1000000) o2 o1 QD TS (λ p hp=>rfl) rA (λ j _=>rfl)
 have N2:∀ i o,yL i=some o->1000000<=i/\cp (some o)=true:=λ i o ho=>by
  rw[k1 i] at ho
  unfold iD at ho
  split at ho
  .rename_i o' cF
   simp only[a1w] at ho
   subst ho
   refine⟨(lB (gI cF)).1,?_⟩
   have:∀ {us:List TV} {id:Nat} {p:Nat×au},p∈bS id us->cp (some p.2)=true:=by
    intro us
    induction us with
    | nil=>intro id p hp;cases hp
    | cons u us ih =>
     intro id p hp
     rcases a1A.1 hp with hp|hp
     .obtain⟨τ,y⟩:=u
      cases τ<;>simp[gN] at hp
      subst hp
      rfl
     .exact ih hp
   exact this (gI cF)
  .cases ho
 have O9:∀ i o,yL i=some o->fe (G1.η i)=none:=λ i o ho=>by
  obtain⟨_,ht⟩:=N2 i o ho
  match o,ht with
  | .aq τ ys,_ =>
   obtain⟨v,l,_,_,q,_⟩:=k2.aI.tr i τ ys ho
   rw[q];rfl
 let G2:Gh:=⟨S,λ i=>if 400000<=i/\i<400000+sh.length then .pointer (some ⟨B (i - 400000),0,none⟩) else G1.η i,G1.φ⟩
 have N7:∀ j,j<sh.length->G2.η (400000+j) = .pointer (some ⟨B j,0,none⟩):=λ j hj=>by
  show (if 400000<=400000+j/\400000+j<400000+sh.length then _ else _)=_
  rw[a1S (by omega),a3T]
 have N6:∀ i,1000000<=i->G2.η i=G1.η i:=λ i hi=>a1B (by omega)
 have hGS:G1.S=S:=k3.S
 have Se:(cv fn args sh bN).ae=λ i=>match ae (nz 0 sh bN 1000000) i with
   | some o=>some o
   | none=>yL i:=by
  funext i
  show ae (nz 0 sh bN 1000000++bS 1000000 (lV sh bN)) i=_
  rw[qq]
  unfold iD
  cases ae (nz 0 sh bN 1000000) i with
  | some o=>rfl
  | none =>
   simp only
   rw[k1 i]
   unfold iD
   cases ae (bS 1000000 (lV sh bN)) i<;>rfl
 have a0n:∀ j,j<sh.length->∃ cs,(cv fn args sh bN).ae (400000+j)=some (.box cs):=λ j hj=>by
  obtain⟨cs,q⟩:=DY (n:=1000000) Qw.len (Nat.zero_le j) (by simpa using hj)
  exact⟨cs,by rw[Se];simp only[q]⟩
 have uP:∀ i o,(cv fn args sh bN).ae i=some o->(∃ j cs l t,i=400000+j/\j<sh.length/\o = .box cs/\w.heap[B j]?=some (.cells l.toArray t (0,0)) /\
   ∀ (c:Ctx) (G:Gh) (lk:Nat->Option au),(∀ b,S b->G.S b)->(∀ j,j<sh.length->G.η (400000+j) = .pointer (some ⟨B j,0,none⟩)/\im (lk (400000+j))=true)->aJ (C1 c G lk w) (bU 1000000 (lV sh bN)) xs->aJ (C1 c G lk w) cs l) \/
   (yL i=some o/\1000000<=i):=λ i o ho=>by
  rw[Se] at ho
  simp only at ho
  cases hl:ae (nz 0 sh bN 1000000) i with
  | some o' =>
   rw[hl] at ho
   simp only[a1w] at ho
   subst ho
   obtain⟨j,cs,l,t,q1,_,q2,q3,_,q4⟩:=o3 _ (fS hl)
   simp only[a1y] at q1
   obtain⟨rfl,rfl⟩:=q1
   exact .inl ⟨j,cs,l,t,rfl,by simpa using q2,rfl,q3,λ c G lk h1 h2 h3=>q4 c G lk sh.length h1 h2 (MO Dv) h3⟩
  | none =>
   rw[hl] at ho
   exact .inr ⟨ho,(N2 i o ho).1⟩
 have fQ:∀ i,ft (yL i) ((cv fn args sh bN).ae i):=λ i=>by
  cases hl:yL i with
  | none=>exact⟨(λ q=>by cases q),(λ e τ xs q=>by cases q),(λ q=>by cases q),λ q=>by cases q⟩
  | some o =>
   have:=(N2 i o hl).1
   have hn:ae (nz 0 sh bN 1000000) i=none:=s9 λ p hp e=>by
    obtain⟨j,cs,l,t,q1,_,q2,_⟩:=o3 p hp
    rw[q1] at e
    simp only at e
    omega
   rw[Se]
   simp only[hn,hl]
   exact ft.refl _
 have GG:aJ (C1 ⟨P,E,w,BX sh.length B fa,S,λ _=>none,λ _=>False,λ id=>if 400000<=id/\id<400000+sh.length then some (B (id - 400000)) else none⟩ G2 (cv fn args sh bN).ae w) (bU 1000000 (lV sh bN)) xs:=by
  have:∀ {us:List TV} {n:Nat} {xs:List Value},1000000<=n->aJ (C1 c1 G1 yL w) (bU n us) xs->aJ (C1 ⟨P,E,w,BX sh.length B fa,S,λ _=>none,λ _=>False,λ id=>if 400000<=id/\id<400000+sh.length then some (B (id - 400000)) else none⟩ G2 (cv fn args sh bN).ae w) (bU n us) xs:=by
   intro us
   induction us with
   | nil=>intro n xs _ h;cases xs<;>exact h
   | cons u us ih =>
    intro n xs hn h
    cases xs with
    | nil=>exact h.elim
    | cons x xs =>
     refine⟨?_,ih (by omega) h.2⟩
     have h1:C1 c1 G1 yL w (kc n u) x:=h.1
     obtain⟨τ,y⟩:=u
     have az:C1 c1 G1 yL w (.az ⟨τ,y⟩) x->C1 ⟨P,E,w,BX sh.length B fa,S,λ _=>none,λ _=>False,λ id=>if 400000<=id/\id<400000+sh.length then some (B (id - 400000)) else none⟩ G2 (cv fn args sh bN).ae w (.az ⟨τ,y⟩) x:=λ q=>⟨q.1,Rd.aQ (λ b hb=>by rw[hGS] at hb;exact hb) (λ _ _=>rfl) _ q.2⟩
     cases τ with
     | slice τ =>
      obtain⟨g1,l,g2,g3⟩:=h1
      exact⟨(fQ n).2.2.1 g1,l,by rw[N6 n hn];exact g2,g3⟩
     | mv τ=>exact trivial
     | _=>exact az h1
  exact this (a2u _) k4
 have hN:∀ j,j<sh.length->G2.η (400000+j) = .pointer (some ⟨B j,0,none⟩)/\im ((cv fn args sh bN).ae (400000+j))=true:=λ j hj=>by
  obtain⟨cs,q⟩:=a0n j hj
  exact⟨N7 j hj,by rw[q];rfl⟩
 have LZ:∀ i τ xs,(cv fn args sh bN).ae i=some (.aq τ xs)->yL i=some (.aq τ xs)/\1000000<=i:=λ i τ ys hi=>by
  rcases uP i _ hi with ⟨_,_,_,_,_,_,q,_⟩|q
  .cases q
  .exact q
 refine⟨G2,?_⟩
 exact {
  defers:=rfl
  size:=by simp[cv,hlen]
  aQ:=cP.refl _ _
  lE:=⟨λ b hb=>hb.elim (λ q=>(Ds b q).1) λ ⟨k,hk,e⟩=>(by rw[e];exact (hB k hk).1),λ g hg=>⟨(hS.2 g hg).1,λ q=>q.elim (λ q=>(Ds g q).2.1 (hS.2 g hg).1) λ ⟨k,hk,e⟩=>(hB k hk).2 (e ▸ (hS.2 g hg).1),hS.1 g (hS.2 g hg).1,(hS.2 g hg).2⟩⟩
  fc:=λ b _ _=>a3G
  sX:=λ b hs=>hs
  ed:=hS.1
  ar:=λ i=>by
   have LY:∀ v x,v∈args->P2 w S (BX sh.length B fa) B v x->VR ⟨P,E,w,BX sh.length B fa,S,λ _=>none,λ _=>False,λ id=>if 400000<=id/\id<400000+sh.length then some (B (id - 400000)) else none⟩ G2 (cv fn args sh bN).ae w (OM v) x:=by
    intro v x hm h
    cases v with
    | val v=>exact h
    | ref v =>
     obtain⟨b,o,cs,h1,h2,h3,h4,h5⟩:=h
     exact⟨b,o,cs,h1, .inr ⟨h2,h3,λ z=>z⟩,h4,h5⟩
    | fn f=>exact h
    | dw v=>exact h.elim
    | own v=>exact h.elim
    | box k =>
     obtain⟨g1,g2⟩:=hN k (LI k hm)
     exact⟨B k,g1,h,g2⟩
   have h1:aJ (λ v x=>VR ⟨P,E,w,BX sh.length B fa,S,λ _=>none,λ _=>False,λ id=>if 400000<=id/\id<400000+sh.length then some (B (id - 400000)) else none⟩ G2 (cv fn args sh bN).ae w v x) (args.map OM) dc:=aJ.fG _ (ha.imp λ v x hm h=>LY v x hm h)
   have h2:=aJ.getD (d:=AV.any) (e:=undef) (show VR ⟨P,E,w,BX sh.length B fa,S,λ _=>none,λ _=>False,λ id=>if 400000<=id/\id<400000+sh.length then some (B (id - 400000)) else none⟩ G2 (cv fn args sh bN).ae w .any undef from trivial) (h1.vU (a:=AV.any) (b:=undef) (show VR ⟨P,E,w,BX sh.length B fa,S,λ _=>none,λ _=>False,λ id=>if 400000<=id/\id<400000+sh.length then some (B (id - 400000)) else none⟩ G2 (cv fn args sh bN).ae w .any undef from trivial) (fn.ntmps - args.length)) i
   have e1:(cv fn args sh bN).sl i=(args.map OM++List.replicate (fn.ntmps - args.length) AV.any).getD i AV.any:=rfl
   have e2:(dc.toArray++Array.replicate (fn.ntmps - dc.toArray.size) undef).getD i undef=(dc++List.replicate (fn.ntmps - args.length) undef).getD i undef:=by
    rw[a2f,a2j,<-a5l]
    simp[hlen]
   rw[e1]
   show VR _ _ _ _ _ ((dc.toArray++Array.replicate (fn.ntmps - dc.toArray.size) undef).getD i undef)
   rw[e2]
   exact h2
  aC:=λ i o ho=>by
   rcases uP i o ho with ⟨j,cs,l,t,rfl,hj,rfl,q3,q4⟩|⟨q1,q2⟩
   .exact⟨B j,l,t,N7 j hj,q3,q4 _ G2 _ (λ b hb=>hb) hN GG⟩
   .have:=(N2 i o q1).2
    match o,this with
    | .aq τ ys,_=>trivial
  place:=λ i o b ho hb=>by
   rcases uP i o ho with ⟨j,cs,l,t,rfl,hj,rfl,q3,q4⟩|⟨q1,q2⟩
   .rw[N7 j hj] at hb
    simp only[fe,a1w] at hb
    subst hb
    exact⟨.inr (.inr ⟨j,hj,rfl⟩),(hB j hj).2,(hB j hj).1⟩
   .rw[N6 i q2,O9 i o q1] at hb
    cases hb
  apart:=λ i i' o o' b ho cF hb cm=>by
   rcases uP i o ho with ⟨j,cs,l,t,rfl,hj,rfl,q3,q4⟩|⟨q1,q2⟩
   .rcases uP i' o' cF with ⟨j',dV,l',t',rfl,BP,rfl,_,_⟩|⟨g1,g2⟩
    .rw[N7 j hj] at hb
     rw[N7 j' BP] at cm
     simp only[fe,a1w] at hb cm
     rw[GI j j' hj BP (hb.trans cm.symm)]
    .rw[N6 i' g2,O9 i' o' g1] at cm
     cases cm
   .rw[N6 i q2,O9 i o q1] at hb
    cases hb
  aI:={
   tr:=λ i τ ys hi=>by
    obtain⟨q1,q2⟩:=LZ i τ ys hi
    rw[N6 i q2]
    exact k2.aI.tr i τ ys q1
   nd:=λ i τ ys hi=>k2.aI.nd i τ ys (LZ i τ ys hi).1
   pl:=λ i τ ys b hi hb=>by
    obtain⟨q1,q2⟩:=LZ i τ ys hi
    obtain⟨p1,p2,p3,p4⟩:=k2.aI.pl i τ ys b q1 hb
    have Nc:b∈fa:=p1.elim (λ q=>absurd p3 (Nat.not_lt.2 q)) id
    refine⟨.inr (.inl Nc),(Ds b Nc).2.1,p3,λ i' o' cF e=>?_⟩
    rcases uP i' o' cF with ⟨j,cs,l,t,rfl,hj,rfl,_,_⟩|⟨g1,g2⟩
    .rw[N7 j hj] at e
     simp only[fe,a1w] at e
     exact (Ds b Nc).2.2 j hj e
    .rw[N6 i' g2,O9 i' o' g1] at e
     cases e
   ap:=λ i i' τ aV ys ys' b hi oV=>k2.aI.ap i i' τ aV ys ys' b (LZ i τ ys hi).1 (LZ i' aV ys' oV).1 }
  root:=λ id v h=>by cases h
  kd:=λ id v h=>by cases h
  dE:=λ id b hr ht=>by
   simp only at hr
   split at hr
   .rename_i hc
    simp only[a1w] at hr
    show (if 400000<=id/\id<400000+sh.length then _ else _)=_
    rw[a1S hc,hr]
   .cases hr
  fW:=λ id b hr=>by
   simp only at hr
   split at hr
   .rename_i hc;exact hc.1
   .cases hr }
theorem O3(hE:bD P E)(je:P.follows .mixedOrders=true){f:FuncId}{fn:Func}{iy:Code}(hf:P.funcs[f]?=some fn)(hb:fn.body=some iy)(Λ:Nat->aW){args:List Arg}{sh:List (List CK)}{bN:List (List TV)}{res:List TV}{gw:List (List TV)}{post:List TV->List (List TV)->Prop}
  (LR:∀ vs ds,post vs ds->vs=res/\ds=gw) (Dv:Ov sh=true) (LI:∀ k,Arg.box k∈args->k<sh.length) (h:dd E iy Λ 0 (ij E fn sh post) (cv fn args sh bN)):o5 P f sh args bN res gw:=by
 intro w S B dc fa hS Qw QD Ds hB GI ha
 refine a5g hf hb ?_
 obtain⟨G0,hinv⟩:=PS (P:=P) (E:=E) (fn:=fn) Dv hS Qw QD Ds hB GI ha LI
 generalize hc:(⟨P,E,w,BX sh.length B fa,S,λ _=>none,λ _=>False,λ id=>if 400000<=id/\id<400000+sh.length then some (B (id - 400000)) else none⟩:Ctx)=c at *
 have Pc:c.P=P:=by rw[<-hc]
 have Qz:c.E=E:=by rw[<-hc]
 have YX:c.w0=w:=by rw[<-hc]
 have YU:c.X=BX sh.length B fa:=by rw[<-hc]
 have hcS:c.S0=S:=by rw[<-hc]
 have hcB:∀ j,j<sh.length->c.RB (400000+j)=some (B j):=λ j hj=>by
  rw[<-hc]
  show (if 400000<=400000+j/\400000+j<400000+sh.length then _ else _)=_
  rw[a1S (by omega),a3T]
 have hE':bD c.P c.E:=by rw[Pc,Qz];exact hE
 have cH:=il (c:=c) hE' (by rw[Pc];exact je) iy Λ 0 (ij E fn sh post) G0 (cv fn args sh bN) _ w hinv (by rw[Qz];exact h)
 rw[Pc] at cH
 refine a4M cH ?_
 have fin:∀ (e:Exit) (a:Act) (w':World),(e = .normal\/e = .ret)->(∃ G s,Inv c G s a w'/\ij E fn sh post e s) ->
   a.defers=[]/\∃ v,(results fn a.tmps).run P w' = .ok v w'/\∃ x S' fp H8,Ending.returned v = .returned x/\cP (BX sh.length B fa) w w'/\(∀ b,S b->S' b)/\(∀ b,S' b->b<w'.heap.size)/\(∀ b,b<w.heap.size->¬ BX sh.length B fa b->(S' b↔S b)) /\
    El w' res x fp/\kz w' S' B 0 sh gw H8/\(fp++H8).Nodup/\(∀ b∈fp++H8,(b∈fa\/(w.heap.size<=b/\b<w'.heap.size))/\¬ S' b/\∀ k,k<sh.length->B k≠b)/\∀ k,k<sh.length->¬ S' (B k):=by
  rintro e a w' he ⟨G,s,hI,hp⟩
  have LQ:∃ vs ids ds BT m,tn E s fn.results.toList fn.resultTypes.toList=some (vs,ids)/\kq s.ae sh 0 (Xu sh.length)=some (ds,BT,m)/\(ids++BT).Nodup/\vs=res/\ds=gw:=by
   rcases he with rfl|rfl <;>
   .simp only[ij] at hp
    split at hp
    .rename_i vs ids zC
     split at hp
     .rename_i ds BT m EX
      split at hp
      .rename_i hn
       rw[a1z] at hn
       obtain⟨q1,q2⟩:=LR _ _ hp
       exact⟨vs,ids,ds,BT,m,zC,EX,cY hn.1,q1,q2⟩
      .exact hp.elim
     .exact hp.elim
    .exact hp.elim
  obtain⟨vs,ids,ds,BT,m,zC,EX,hn,rfl,rfl⟩:=LQ
  rw[a1X] at hn
  obtain⟨n1,n2,n3⟩:=hn
  obtain⟨xs,fp,h1,h2,h3,h4⟩:=Ab (P:=P) (E:=E) (c:=c) hE' Pc Qz hI zC n1
  obtain⟨x0,Pa,H8,a0e,Y0,Yb⟩:=tO hI EX n2
  have Tf:∀ k,k<sh.length->∃ cs,s.ae (400000+k)=some (.box cs)/\G.η (400000+k) = .pointer (some ⟨B k,0,none⟩)/\ae m k=some (400000+k):=λ k hk=>by
   obtain⟨id,cs,q1,q2⟩:=Pa k (Nat.zero_le _) (by simpa using hk)
   have q3:=x0 k (400000+k) (by rw[Ug,a1S hk])
   rw[q3] at q1
   simp only[a1w] at q1
   subst q1
   exact⟨cs,q2,hI.dE _ _ (hcB k hk) (by rw[q2];rfl),q3⟩
  have hbo:∀ k,k<sh.length->oa G m k=B k:=λ k hk=>by
   obtain⟨cs,_,q2,q3⟩:=Tf k hk
   simp only[oa,q3,q2]
   rfl
  have a0f:=kz.congr (N:=sh.length) hbo (by omega) (MO Dv) (a0e m (mS.refl m))
  have km:cP (BX sh.length B fa) w w':=by
   have:=hI.aQ
   rwa [YU,YX] at this
  have gQ:∀ ids b,tY G s.ae ids b->(b∈fa\/(w.heap.size<=b/\b<w'.heap.size))/\¬ G.S b/\∀ k,k<sh.length->B k≠b:=λ ids b hb=>by
   obtain⟨id,hi,hq⟩:=hb
   have hp:(c.w0.heap.size<=b\/c.X b)/\¬ G.S b/\b<w'.heap.size/\∀ k,k<sh.length->B k≠b:=by
    rcases hq with ⟨τ,ys,q1,q2⟩|⟨e',τ,ys,q1,q2⟩
    .obtain⟨p1,p2,p3,p4⟩:=hI.aI.pl id τ ys b q1 q2
     refine⟨p1,p2,p3,λ k hk e=>?_⟩
     obtain⟨cs,g1,g2,_⟩:=Tf k hk
     exact p4 _ _ g1 (by rw[g2,<-e];rfl)
    .obtain⟨p1,p2,p3⟩:=hI.place id _ b q1 q2
     refine⟨p1,p2,p3,λ k hk e=>?_⟩
     obtain⟨cs,g1,g2,_⟩:=Tf k hk
     have:=hI.apart id _ _ _ b q1 g1 q2 (by rw[g2,<-e];rfl)
     subst this
     rw[q1] at g1
     cases g1
   obtain⟨p1,p2,p3,p4⟩:=hp
   refine⟨?_,p2,p4⟩
   rw[YX,YU] at p1
   rcases p1 with p1|p1|⟨k,hk,e⟩
   .exact .inr ⟨p1,p3⟩
   .exact .inl p1
   .exact absurd e.symm (p4 k hk)
  refine⟨hI.defers,(if h:xs.toArray.size=1 then xs.toArray[0] else .tuple xs.toArray),?_,_,G.S,fp,H8,rfl,km,?_,hI.ed,?_,Og h2,a0f,?_,?_,?_⟩
  .rw[wQ,a3P]
   simp only[a2h,a5C,h1]
   rfl
  .intro b hb
   exact hI.sX b (by rw[hcS];exact hb)
  .intro b hb hx
   have:=hI.fc b (by rw[YX];exact hb) (by rw[YU];exact hx)
   rwa [hcS] at this
  .exact eQ h3 Y0 λ b hb cm=>hI.kp (h4 b hb) (Yb b cm) λ x hx y hy=>n3 x hx y hy
  .intro b hb
   rcases a1A.1 hb with hb|hb
   .exact gQ ids b (h4 b hb)
   .exact gQ BT b (Yb b hb)
  .intro k hk
   obtain⟨cs,q1,q2,_⟩:=Tf k hk
   exact (hI.place _ _ (B k) q1 (by rw[q2];rfl)).2.1
 intro e a w' hq
 cases e with
 | normal=>exact fin .normal a w' (.inl rfl) hq
 | ret=>exact fin .ret a w' (.inr rfl) hq
 | exit i=>obtain⟨_,_,_,hp⟩:=hq;exact hp.elim
 | goto l=>obtain⟨_,_,_,hp⟩:=hq;exact hp.elim
 | panic ch=>obtain⟨_,_,_,hp⟩:=hq;exact hp.elim
 | outgrown=>obtain⟨_,_,_,hp⟩:=hq;exact hp.elim
end
end Go.Proofs.YtaaamahdcpcofaaDoor

namespace Go.Proofs.YtaaamahdcpcofaaDoor
def Ah:List (Nat×Ty×Nat×Nat) :=
 [(2,(.int .i64),0,0),
  (3,(.int .i64),0,0),
  (4, .bool,0,0),
  (5,(.int .u8),0,0),
  (9, .str,0,0),
  (12,(.int .u64),0,0),
  (23,(.st .sig),0,0),
  (24,(.slice (.st .expr)),40,26),
  (26,(.st .expr),0,0),
  (27,(.slice (.st .prog)),80,29),
  (29,(.st .prog),0,0),
  (32,(.st .sig),0,0),
  (40,(.st .l01Reader),0,0),
  (45,(.st .reader),0,0),
  (87,(.slice (.int .u8)),1,5),
  (104,(.int .u64),0,0),
  (115,(.int .u64),0,0)]
def KJ:List (Nat×Ty) :=
 [(38,(.st .l01Reader)),(43,(.st .prog)),(61,(.st .reader)),(78,(.st .expr)),(97,(.int .u8))]
def G7:List (Nat×Ty×Ty):=[]
abbrev OH:Nat:=4
abbrev Nv:Nat:=9
abbrev I2:Nat:=23
noncomputable abbrev prog:Program:=Tryd.prog
theorem C0(c:Nat->List Arg->Option (Vc×List TV))(wr own:List Nat)(oc:Nat->List Arg->Option (Vc×List TV))(mk:Nat->Option Aj)(cl:Nat->Option Bc)(ro:List Nat)(tk:Nat->List Bool)(sk:Nat->Option SK)(sc:Nat->List Arg->List (List TV)->Option (Vc×List TV×List (List TV)))(nc:Nat->List Arg->Option (Vc×P5)):((Ah.all λ r=>sM prog (Env.mk Ah KJ c wr own oc mk cl ro tk sk sc G7 nc) r.1 r.2.1 r.2.2.1 r.2.2.2)&&G7.all λ r=>Mc prog (Env.mk Ah KJ c wr own oc mk cl ro tk sk sc G7 nc) r.1 r.2.1 r.2.2)=true:=by kernel_rfl
theorem tl:prog.follows .mixedOrders=true:=Checked.mixed Tryd.checked
def aD(f:Func):Code:=match f.body with
 | some c=>c
 | none => .skip
abbrev hY:Nat:=3
noncomputable abbrev dX:Func:=Tryd.f3
theorem o6:prog.funcs[hY]?=some dX:=Tryd.func3
theorem uB:dX.body=some (aD dX):=by kernel_rfl
abbrev sj:Nat:=4
noncomputable abbrev iU:Func:=Tryd.f4
theorem wa:prog.funcs[sj]?=some iU:=Tryd.func4
theorem De:iU.body=some (aD iU):=by kernel_rfl
abbrev xh:Nat:=5
noncomputable abbrev mG:Func:=Tryd.f5
theorem Bi:prog.funcs[xh]?=some mG:=Tryd.func5
theorem HU:mG.body=some (aD mG):=by kernel_rfl
abbrev sb:Nat:=6
noncomputable abbrev iN:Func:=Tryd.f6
theorem vV:prog.funcs[sb]?=some iN:=Tryd.func6
theorem C3:iN.body=some (aD iN):=by kernel_rfl
abbrev rr:Nat:=7
noncomputable abbrev kU:Func:=Tryd.f7
theorem pw:prog.funcs[rr]?=some kU:=Tryd.func7
theorem F4:kU.body=some (aD kU):=by kernel_rfl
abbrev yN:Nat:=8
noncomputable abbrev ey:Func:=Tryd.f8
theorem v8:prog.funcs[yN]?=some ey:=Tryd.func8
theorem Dd:ey.body=some (aD ey):=by kernel_rfl
abbrev si:Nat:=9
noncomputable abbrev iT:Func:=Tryd.f9
theorem vZ:prog.funcs[si]?=some iT:=Tryd.func9
theorem Db:iT.body=some (aD iT):=by kernel_rfl
abbrev vp:Nat:=10
noncomputable abbrev kW:Func:=Tryd.f10
theorem As:prog.funcs[vp]?=some kW:=Tryd.func10
theorem F6:kW.body=some (aD kW):=by kernel_rfl
abbrev iF:Nat:=11
noncomputable abbrev eG:Func:=Tryd.f11
theorem gV:prog.funcs[iF]?=some eG:=Tryd.func11
theorem vI:eG.body=some (aD eG):=by kernel_rfl
abbrev xk:Nat:=12
noncomputable abbrev mJ:Func:=Tryd.f12
theorem Bl:prog.funcs[xk]?=some mJ:=Tryd.func12
theorem HX:mJ.body=some (aD mJ):=by kernel_rfl
abbrev sd:Nat:=13
noncomputable abbrev iO:Func:=Tryd.f13
theorem vW:prog.funcs[sd]?=some iO:=Tryd.func13
theorem C4:iO.body=some (aD iO):=by kernel_rfl
abbrev kF:Nat:=14
noncomputable abbrev gb:Func:=Tryd.f14
theorem jL:prog.funcs[kF]?=some gb:=Tryd.func14
theorem zf:gb.body=some (aD gb):=by kernel_rfl
abbrev vl:Nat:=15
noncomputable abbrev kN:Func:=Tryd.f15
theorem Ao:prog.funcs[vl]?=some kN:=Tryd.func15
theorem FZ:kN.body=some (aD kN):=by kernel_rfl
abbrev oB:Nat:=16
noncomputable abbrev iR:Func:=Tryd.f16
theorem mU:prog.funcs[oB]?=some iR:=Tryd.func16
theorem C9:iR.body=some (aD iR):=by kernel_rfl
abbrev rq:Nat:=17
noncomputable abbrev kR:Func:=Tryd.f17
theorem pt:prog.funcs[rq]?=some kR:=Tryd.func17
theorem F3:kR.body=some (aD kR):=by kernel_rfl
abbrev tH:Nat:=18
noncomputable abbrev ju:Func:=Tryd.f18
theorem rR:prog.funcs[tH]?=some ju:=Tryd.func18
theorem Et:ju.body=some (aD ju):=by kernel_rfl
abbrev yM:Nat:=19
noncomputable abbrev ew:Func:=Tryd.f19
theorem v7:prog.funcs[yM]?=some ew:=Tryd.func19
theorem Dc:ew.body=some (aD ew):=by kernel_rfl
abbrev rv:Nat:=20
noncomputable abbrev dQ:Func:=Tryd.f20
theorem lS:prog.funcs[rv]?=some dQ:=Tryd.func20
theorem Br:dQ.body=some (aD dQ):=by kernel_rfl
abbrev sg:Nat:=21
noncomputable abbrev iS:Func:=Tryd.f21
theorem vY:prog.funcs[sg]?=some iS:=Tryd.func21
theorem Da:iS.body=some (aD iS):=by kernel_rfl
abbrev nf:Nat:=22
noncomputable abbrev gY:Func:=Tryd.f22
theorem lQ:prog.funcs[nf]?=some gY:=Tryd.func22
theorem Bp:gY.body=some (aD gY):=by kernel_rfl
abbrev xi:Nat:=23
noncomputable abbrev mH:Func:=Tryd.f23
theorem Bj:prog.funcs[xi]?=some mH:=Tryd.func23
theorem HV:mH.body=some (aD mH):=by kernel_rfl
abbrev l8:Nat:=24
noncomputable abbrev eC:Func:=Tryd.f24
theorem p8:prog.funcs[l8]?=some eC:=Tryd.func24
theorem vF:eC.body=some (aD eC):=by kernel_rfl
abbrev mc:Nat:=25
noncomputable abbrev eI:Func:=Tryd.f25
theorem qb:prog.funcs[mc]?=some eI:=Tryd.func25
theorem vK:eI.body=some (aD eI):=by kernel_rfl
abbrev iE:Nat:=26
noncomputable abbrev eA:Func:=Tryd.f26
theorem gU:prog.funcs[iE]?=some eA:=Tryd.func26
theorem vD:eA.body=some (aD eA):=by kernel_rfl
abbrev l7:Nat:=27
noncomputable abbrev eB:Func:=Tryd.f27
theorem p7:prog.funcs[l7]?=some eB:=Tryd.func27
theorem vE:eB.body=some (aD eB):=by kernel_rfl
abbrev l6:Nat:=28
noncomputable abbrev ez:Func:=Tryd.f28
theorem kI:prog.funcs[l6]?=some ez:=Tryd.func28
theorem vC:ez.body=some (aD ez):=by kernel_rfl
abbrev pG:Nat:=29
noncomputable abbrev jB:Func:=Tryd.f29
theorem n6:prog.funcs[pG]?=some jB:=Tryd.func29
theorem EA:jB.body=some (aD jB):=by kernel_rfl
abbrev oD:Nat:=30
noncomputable abbrev iW:Func:=Tryd.f30
theorem mW:prog.funcs[oD]?=some iW:=Tryd.func30
theorem Dg:iW.body=some (aD iW):=by kernel_rfl
abbrev pH:Nat:=31
noncomputable abbrev jD:Func:=Tryd.f31
theorem n7:prog.funcs[pH]?=some jD:=Tryd.func31
theorem EC:jD.body=some (aD jD):=by kernel_rfl
abbrev vn:Nat:=32
noncomputable abbrev kQ:Func:=Tryd.f32
theorem Aq:prog.funcs[vn]?=some kQ:=Tryd.func32
theorem F2:kQ.body=some (aD kQ):=by kernel_rfl
abbrev o4:Nat:=33
noncomputable abbrev gd:Func:=Tryd.f33
theorem sQ:prog.funcs[o4]?=some gd:=Tryd.func33
theorem zg:gd.body=some (aD gd):=by kernel_rfl
abbrev kE:Nat:=34
noncomputable abbrev ga:Func:=Tryd.f34
theorem jK:prog.funcs[kE]?=some ga:=Tryd.func34
theorem ze:ga.body=some (aD ga):=by kernel_rfl
abbrev nM:Nat:=35
noncomputable abbrev fv:Func:=Tryd.f35
theorem rI:prog.funcs[nM]?=some fv:=Tryd.func35
theorem x7:fv.body=some (aD fv):=by kernel_rfl
abbrev oA:Nat:=36
noncomputable abbrev iP:Func:=Tryd.f36
theorem mT:prog.funcs[oA]?=some iP:=Tryd.func36
theorem C5:iP.body=some (aD iP):=by kernel_rfl
abbrev AL:Nat:=37
noncomputable abbrev JU:Func:=Tryd.f37
theorem HS:prog.funcs[AL]?=some JU:=Tryd.func37
abbrev Cd:Nat:=38
noncomputable abbrev Lm:Func:=Tryd.f38
theorem JP:prog.funcs[Cd]?=some Lm:=Tryd.func38
abbrev tG:Nat:=39
noncomputable abbrev jt:Func:=Tryd.f39
theorem rQ:prog.funcs[tG]?=some jt:=Tryd.func39
theorem Es:jt.body=some (aD jt):=by kernel_rfl
abbrev ru:Nat:=40
noncomputable abbrev dP:Func:=Tryd.f40
theorem lR:prog.funcs[ru]?=some dP:=Tryd.func40
theorem Bq:dP.body=some (aD dP):=by kernel_rfl
abbrev nb:Nat:=41
noncomputable abbrev gX:Func:=Tryd.f41
theorem lP:prog.funcs[nb]?=some gX:=Tryd.func41
theorem Bo:gX.body=some (aD gX):=by kernel_rfl
abbrev lA:Nat:=42
noncomputable abbrev dY:Func:=Tryd.f42
theorem kh:prog.funcs[lA]?=some dY:=Tryd.func42
theorem uC:dY.body=some (aD dY):=by kernel_rfl
abbrev ma:Nat:=43
noncomputable abbrev eF:Func:=Tryd.f43
theorem p9:prog.funcs[ma]?=some eF:=Tryd.func43
theorem vH:eF.body=some (aD eF):=by kernel_rfl
abbrev ry:Nat:=44
noncomputable abbrev gZ:Func:=Tryd.f44
theorem uz:prog.funcs[ry]?=some gZ:=Tryd.func44
theorem Bs:gZ.body=some (aD gZ):=by kernel_rfl
abbrev vo:Nat:=45
noncomputable abbrev kV:Func:=Tryd.f45
theorem Ar:prog.funcs[vo]?=some kV:=Tryd.func45
theorem F5:kV.body=some (aD kV):=by kernel_rfl
abbrev tL:Nat:=46
noncomputable abbrev jA:Func:=Tryd.f46
theorem xY:prog.funcs[tL]?=some jA:=Tryd.func46
theorem Ez:jA.body=some (aD jA):=by kernel_rfl
abbrev tJ:Nat:=47
noncomputable abbrev jy:Func:=Tryd.f47
theorem xV:prog.funcs[tJ]?=some jy:=Tryd.func47
theorem Ex:jy.body=some (aD jy):=by kernel_rfl
abbrev tK:Nat:=48
noncomputable abbrev jz:Func:=Tryd.f48
theorem xW:prog.funcs[tK]?=some jz:=Tryd.func48
theorem Ey:jz.body=some (aD jz):=by kernel_rfl
abbrev tM:Nat:=49
noncomputable abbrev jC:Func:=Tryd.f49
theorem xZ:prog.funcs[tM]?=some jC:=Tryd.func49
theorem EB:jC.body=some (aD jC):=by kernel_rfl
abbrev nN:Nat:=50
noncomputable abbrev fA:Func:=Tryd.f50
theorem rJ:prog.funcs[nN]?=some fA:=Tryd.func50
theorem x9:fA.body=some (aD fA):=by kernel_rfl
abbrev oZ:Nat:=51
noncomputable abbrev fZ:Func:=Tryd.f51
theorem np:prog.funcs[oZ]?=some fZ:=Tryd.func51
theorem zd:fZ.body=some (aD fZ):=by kernel_rfl
abbrev zK:Nat:=52
noncomputable abbrev og:Func:=Tryd.f52
theorem DL:prog.funcs[zK]?=some og:=Tryd.func52
theorem JS:og.body=some (aD og):=by kernel_rfl
abbrev sf:Nat:=53
noncomputable abbrev iQ:Func:=Tryd.f53
theorem vX:prog.funcs[sf]?=some iQ:=Tryd.func53
theorem C6:iQ.body=some (aD iQ):=by kernel_rfl
abbrev oY:Nat:=54
noncomputable abbrev fY:Func:=Tryd.f54
theorem sP:prog.funcs[oY]?=some fY:=Tryd.func54
theorem za:fY.body=some (aD fY):=by kernel_rfl
abbrev vk:Nat:=55
noncomputable abbrev kM:Func:=Tryd.f55
theorem An:prog.funcs[vk]?=some kM:=Tryd.func55
theorem FY:kM.body=some (aD kM):=by kernel_rfl
abbrev l9:Nat:=59
noncomputable abbrev eE:Func:=Tryd.f59
theorem kJ:prog.funcs[l9]?=some eE:=Tryd.func59
theorem vG:eE.body=some (aD eE):=by kernel_rfl
abbrev xj:Nat:=60
noncomputable abbrev mI:Func:=Tryd.f60
theorem Bk:prog.funcs[xj]?=some mI:=Tryd.func60
theorem HW:mI.body=some (aD mI):=by kernel_rfl
abbrev j8:Nat:=61
noncomputable abbrev fw:Func:=Tryd.f61
theorem jm:prog.funcs[j8]?=some fw:=Tryd.func61
theorem x8:fw.body=some (aD fw):=by kernel_rfl
abbrev fK:Nat:=62
noncomputable abbrev cA:Func:=Tryd.f62
theorem jb:prog.funcs[fK]?=some cA:=Tryd.func62
theorem oQ:cA.body=some (aD cA):=by kernel_rfl
abbrev zJ:Nat:=63
noncomputable abbrev oe:Func:=Tryd.f63
theorem DK:prog.funcs[zJ]?=some oe:=Tryd.func63
theorem JR:oe.body=some (aD oe):=by kernel_rfl
abbrev vj:Nat:=64
noncomputable abbrev kL:Func:=Tryd.f64
theorem Am:prog.funcs[vj]?=some kL:=Tryd.func64
theorem FX:kL.body=some (aD kL):=by kernel_rfl
abbrev kB:Nat:=65
noncomputable abbrev fX:Func:=Tryd.f65
theorem jJ:prog.funcs[kB]?=some fX:=Tryd.func65
theorem y9:fX.body=some (aD fX):=by kernel_rfl
abbrev mb:Nat:=68
noncomputable abbrev eH:Func:=Tryd.f68
theorem qa:prog.funcs[mb]?=some eH:=Tryd.func68
theorem vJ:eH.body=some (aD eH):=by kernel_rfl
abbrev pE:Nat:=69
noncomputable abbrev jw:Func:=Tryd.f69
theorem nY:prog.funcs[pE]?=some jw:=Tryd.func69
theorem Ev:jw.body=some (aD jw):=by kernel_rfl
abbrev oC:Nat:=70
noncomputable abbrev iV:Func:=Tryd.f70
theorem mV:prog.funcs[oC]?=some iV:=Tryd.func70
theorem Df:iV.body=some (aD iV):=by kernel_rfl
abbrev pF:Nat:=71
noncomputable abbrev jx:Func:=Tryd.f71
theorem nZ:prog.funcs[pF]?=some jx:=Tryd.func71
theorem Ew:jx.body=some (aD jx):=by kernel_rfl
abbrev rp:Nat:=72
noncomputable abbrev kP:Func:=Tryd.f72
theorem pr:prog.funcs[rp]?=some kP:=Tryd.func72
theorem F1:kP.body=some (aD kP):=by kernel_rfl
abbrev tI:Nat:=78
noncomputable abbrev jv:Func:=Tryd.f78
theorem xU:prog.funcs[tI]?=some jv:=Tryd.func78
theorem Eu:jv.body=some (aD jv):=by kernel_rfl
abbrev vm:Nat:=79
noncomputable abbrev kO:Func:=Tryd.f79
theorem Ap:prog.funcs[vm]?=some kO:=Tryd.func79
theorem F0:kO.body=some (aD kO):=by kernel_rfl
end Go.Proofs.YtaaamahdcpcofaaDoor

namespace Go.Proofs.YtaaamahdcpcofaaDoor
def zL:Nat->List Arg->Option (Vc×P5):=λ _ _=>none
theorem Mm:∀ f args pre cells,zL f args=some (pre,cells)->pre.ok->lF prog f/\UQ prog f args cells:=λ _ _ _ _ h=>by cases h
end Go.Proofs.YtaaamahdcpcofaaDoor

namespace Go.Proofs.YtaaamahdcpcofaaDoor
abbrev cd{α:Type}[SizeOf α](x:α):Nat:=SizeOf.sizeOf x
theorem ct{α:Type}[SizeOf α](d:α):∀ (xs:List α) (i:Nat),i<xs.length->cd (xs.getD i d)<cd xs
 | [],i,h=>by simp at h
 | x::xs,0,h=>by simp[cd];omega
 | x::xs,i+1,h=>by
  have:=ct d xs i (by simpa using h)
  simp[cd] at this ⊢;omega
theorem ly(e:M):cd e.J<cd e:=by
 cases e;simp[cd];omega
theorem nL(e:ai):cd e.J<cd e:=by
 cases e;simp[cd];omega
inductive PK where
 | v (τ:Ty)
 | r (τ:Ty)
 | f
 | c (ps:List Ty) (r:Ty)
 | o (τ:Ty)
 | b (k:Nat)
@[reducible] def KT:List PK->Type 1
 | []=>ULift (Vc×List TV)
 | .v τ::l=>τ.den->KT l
 | .r τ::l=>τ.den->KT l
 | .f::l=>FuncId->KT l
 | .c ps r::l=>FN ps r->KT l
 | .o τ::l=>τ.den->KT l
 | .b _::l=>KT l
def du:(l:List PK)->KT l->List Arg->Option (Vc×List TV)
 | [],x,[]=>some x.down
 | .v τ::l,g, .val a::zs=>match a.Z9 τ with
  | some x=>du l (g x) zs
  | none=>none
 | .r τ::l,g, .ref a::zs=>match a.Z9 τ with
  | some x=>du l (g x) zs
  | none=>none
 | .f::l,g, .fn a::zs=>du l (g a) zs
 | .c ps r::l,g, .dw a::zs=>match a.Z9 ps r with
  | some x=>du l (g x) zs
  | none=>none
 | .o τ::l,g, .own a::zs=>match a.Z9 τ with
  | some x=>du l (g x) zs
  | none=>none
 | _,_,_=>none
def P4(P:Program)(f:FuncId):(l:List PK)->KT l->List Arg->Prop
 | [],x,acc=>x.down.1.ok->bL P f acc (·=x.down.2)
 | .v τ::l,g,acc=>∀ x,P4 P f l (g x) (acc++[.val ⟨τ,x⟩])
 | .r τ::l,g,acc=>∀ x,P4 P f l (g x) (acc++[.ref ⟨τ,x⟩])
 | .f::l,g,acc=>∀ x,P4 P f l (g x) (acc++[.fn x])
 | .c ps r::l,g,acc=>∀ x,P4 P f l (g x) (acc++[.dw ⟨ps,r,x⟩])
 | .o τ::l,g,acc=>∀ x,P4 P f l (g x) (acc++[.own ⟨τ,x⟩])
 | .b _::_,_,_=>True
theorem so{P:Program}{f:FuncId}:∀ (l:List PK) (g:KT l) (acc zs:List Arg) (pre:Vc) (res:List TV),P4 P f l g acc->du l g zs=some (pre,res)->pre.ok->bL P f (acc++zs) (·=res)
 | [],g,acc,zs,pre,res,h,e,hp=>by
  cases zs with
  | nil =>
   simp only[du,a1w] at e
   have h':g.down.1.ok->bL P f acc (·=g.down.2):=h
   rw[e] at h'
   rw[a2O]
   exact h' hp
  | cons a zs=>simp[du] at e
 | .v τ::l,g,acc,zs,pre,res,h,e,hp=>by
  cases zs with
  | nil=>simp[du] at e
  | cons a zs =>
   cases a with
   | val a =>
    rw[du] at e
    split at e
    .rename_i x hx
     have:=so l (g x) (acc++[.val ⟨τ,x⟩]) zs pre res (h x) e hp
     rw[TV.aX hx]
     simpa using this
    .cases e
   | ref a=>simp[du] at e
   | dw a=>simp[du] at e
   | own a=>simp[du] at e
   | fn a=>simp[du] at e
   | box a=>simp[du] at e
 | .r τ::l,g,acc,zs,pre,res,h,e,hp=>by
  cases zs with
  | nil=>simp[du] at e
  | cons a zs =>
   cases a with
   | ref a =>
    rw[du] at e
    split at e
    .rename_i x hx
     have:=so l (g x) (acc++[.ref ⟨τ,x⟩]) zs pre res (h x) e hp
     rw[TV.aX hx]
     simpa using this
    .cases e
   | val a=>simp[du] at e
   | dw a=>simp[du] at e
   | own a=>simp[du] at e
   | fn a=>simp[du] at e
   | box a=>simp[du] at e
 | .f::l,g,acc,zs,pre,res,h,e,hp=>by
  cases zs with
  | nil=>simp[du] at e
  | cons a zs =>
   cases a with
   | fn a =>
    rw[du] at e
    have:=so l (g a) (acc++[.fn a]) zs pre res (h a) e hp
    simpa using this
   | val a=>simp[du] at e
   | dw a=>simp[du] at e
   | own a=>simp[du] at e
   | ref a=>simp[du] at e
   | box a=>simp[du] at e
 | .c ps r::l,g,acc,zs,pre,res,h,e,hp=>by
  cases zs with
  | nil=>simp[du] at e
  | cons a zs =>
   cases a with
   | dw a =>
    rw[du] at e
    split at e
    .rename_i x hx
     have:=so l (g x) (acc++[.dw ⟨ps,r,x⟩]) zs pre res (h x) e hp
     rw[FV.aX hx]
     simpa using this
    .cases e
   | val a=>simp[du] at e
   | ref a=>simp[du] at e
   | fn a=>simp[du] at e
   | own a=>simp[du] at e
   | box a=>simp[du] at e
 | .o τ::l,g,acc,zs,pre,res,h,e,hp=>by
  cases zs with
  | nil=>simp[du] at e
  | cons a zs =>
   cases a with
   | own a =>
    rw[du] at e
    split at e
    .rename_i x hx
     have:=so l (g x) (acc++[.own ⟨τ,x⟩]) zs pre res (h x) e hp
     rw[TV.aX hx]
     simpa using this
    .cases e
   | val a=>simp[du] at e
   | ref a=>simp[du] at e
   | fn a=>simp[du] at e
   | dw a=>simp[du] at e
   | box a=>simp[du] at e
 | .b k::l,g,acc,zs,pre,res,h,e,hp=>by
  cases zs<;>simp[du] at e
structure bu where
 n:Nat
 l:List PK
 g:KT l
def bu.Good(c:bu):Prop:=lF prog c.n/\P4 prog c.n c.l c.g []
def qP:List bu->Nat->List Arg->Option (Vc×List TV)
 | [],_,_=>none
 | c::r,f,zs=>match Nat.beq c.n f with
  | true=>du c.l c.g zs
  | false=>qP r f zs
def PK.own:PK->Bool
 | .o _=>true
 | _=>false
def Tz:List bu->Nat->List Bool
 | [],_=>[]
 | c::r,f=>match Nat.beq c.n f with
  | true=>match c.l.any PK.own with
   | true=>c.l.map PK.own
   | false=>[]
  | false=>Tz r f
def bz(l:List bu)(wr:List Nat:=[])(cl:List (Nat×Bc):=[])(ro:List Nat:=[]):Env:=Env.mk Ah KJ (qP l) wr [] (λ _ _=>none) (λ _=>none) (ae cl) ro (λ _=>[]) (λ _=>none) (λ _ _ _=>none) G7 zL
def aR:List bu->Prop
 | []=>True
 | c::r=>c.Good/\aR r
theorem H7:∀ (l:List bu),aR l->∀ f args pre res,qP l f args=some (pre,res)->pre.ok->lF prog f/\bL prog f args (·=res)
 | [],_,f,args,pre,res,e,_=>by cases e
 | c::r,h,f,args,pre,res,e,hp=>by
  rw[qP] at e
  split at e
  .rename_i hb
   have hb:=a1x hb
   subst hb
   exact⟨h.1.1,so c.l c.g [] args pre res h.1.2 e hp⟩
  .exact H7 r h.2 f args pre res e hp
theorem B9{α:Type}:∀ (l:List (Nat×α)) (n:Nat) (v:α),ae l n=some v->(n,v)∈l
 | [],n,v,h=>by cases h
 | (k,u)::r,n,v,h=>by
  rw[ae] at h
  split at h
  .rename_i hb
   cases h
   rw[a1x hb]
   exact a4w ..
  .exact a3m _ (B9 r n v h)
theorem NM{l:List bu}{wr:List Nat}{cl:List (Nat×Bc)}{ro:List Nat}(h:aR l):bD prog (bz l wr cl ro) where
 ty T τ b e ht:=by
  have h1:=a2e.mp (a4m.1 (C0 (qP l) wr [] (λ _ _=>none) (λ _=>none) (ae cl) ro (λ _=>[]) (λ _=>none) (λ _ _ _=>none) zL)).1 _ (B9 _ _ _ ht)
  exact h1
 Q2 T κ ε ht:=by
  have h1:=a2e.mp (a4m.1 (C0 (qP l) wr [] (λ _ _=>none) (λ _=>none) (ae cl) ro (λ _=>[]) (λ _=>none) (λ _ _ _=>none) zL)).2 _ (B9 _ _ _ ht)
  exact h1
 SP _ _ _:=trivial
 H6:=H7 l h
 Hb _ _ _ _ h:=by cases h
 mark _ _ h:=by cases h
 Ml:=Mm
 Oq _ _ _ _ _ _ _ h:=by cases h
theorem aB {f:FuncId} {fn:Func} (h:prog.funcs[f]?=some fn) (hb:fn.body.isNone=false) (hn:(fn.name == "runtime.NumGoroutine")=false):lF prog f:=⟨fn,h,hb,hn⟩
theorem p6:∀ {l m:List TV},bR l m->l=m
 | [],[],_=>rfl
 | [v],[u],h=>by rw[mi h]
 | v::v'::vs,[u],h=>by
  have:=p6 (l:=v'::vs) (m:=[]) h.2
  cases this
 | [v],u::u'::us,h=>by
  have:=p6 (l:=[]) (m:=u'::us) h.2
  cases this
 | v::v'::vs,u::u'::us,h=>by rw[mi h.1,p6 (l:=v'::vs) (m:=u'::us) h.2]
 | [],u::us,h=>by cases h
 | v::vs,[],h=>by
  cases vs<;>cases h
theorem bL.mono{P:Program}{f:FuncId}{args:List Arg}{p q:List TV->Prop}(h:bL P f args p)(Il:∀ r,p r->q r):bL P f args q:=by
 intro w S dc hS ha
 refine (h w S dc hS ha).mono λ e w'=>?_
 rintro⟨x,S',res,h1,h2,h3⟩
 exact⟨x,S',res,h1,Il _ h2,h3⟩
theorem bB{f:FuncId}{fn:Func}{iy:Code}{l:List bu}{wr:List Nat}{cl:List (Nat×Bc)}{ro:List Nat}(hl:aR l)(hf:prog.funcs[f]?=some fn)(hb:fn.body=some iy)(Λ:Nat->aW){args:List Arg}{res:List TV}
  (h:dd (bz l wr cl ro) iy Λ 0 (bO (bz l wr cl ro) fn λ r=>bR r res) (aU fn args)):bL prog f args (·=res) :=
 (NU (NM hl) tl hf hb Λ h).mono λ _=>p6
def ux(P:Program)(f:FuncId):(l:List PK)->KT l->List Arg->Prop
 | [],x,acc=>x.down.1.ok->rP P f acc x.down.2
 | .v τ::l,g,acc=>∀ x,ux P f l (g x) (acc++[.val ⟨τ,x⟩])
 | .r τ::l,g,acc=>∀ x,ux P f l (g x) (acc++[.ref ⟨τ,x⟩])
 | .f::l,g,acc=>∀ x,ux P f l (g x) (acc++[.fn x])
 | .c ps r::l,g,acc=>∀ x,ux P f l (g x) (acc++[.dw ⟨ps,r,x⟩])
 | .o τ::l,g,acc=>∀ x,ux P f l (g x) (acc++[.own ⟨τ,x⟩])
 | .b _::_,_,_=>True
theorem qD{P:Program}{f:FuncId}:∀ (l:List PK) (g:KT l) (acc zs:List Arg) (pre:Vc) (res:List TV),ux P f l g acc->du l g zs=some (pre,res)->pre.ok->rP P f (acc++zs) res
 | [],g,acc,zs,pre,res,h,e,hp=>by
  cases zs with
  | nil =>
   simp only[du,a1w] at e
   have h':g.down.1.ok->rP P f acc g.down.2:=h
   rw[e] at h'
   rw[a2O]
   exact h' hp
  | cons a zs=>simp[du] at e
 | .v τ::l,g,acc,zs,pre,res,h,e,hp=>by
  cases zs with
  | nil=>simp[du] at e
  | cons a zs =>
   cases a with
   | val a =>
    rw[du] at e
    split at e
    .rename_i x hx
     have:=qD l (g x) (acc++[.val ⟨τ,x⟩]) zs pre res (h x) e hp
     rw[TV.aX hx]
     simpa using this
    .cases e
   | ref a=>simp[du] at e
   | dw a=>simp[du] at e
   | own a=>simp[du] at e
   | fn a=>simp[du] at e
   | box a=>simp[du] at e
 | .r τ::l,g,acc,zs,pre,res,h,e,hp=>by
  cases zs with
  | nil=>simp[du] at e
  | cons a zs =>
   cases a with
   | ref a =>
    rw[du] at e
    split at e
    .rename_i x hx
     have:=qD l (g x) (acc++[.ref ⟨τ,x⟩]) zs pre res (h x) e hp
     rw[TV.aX hx]
     simpa using this
    .cases e
   | val a=>simp[du] at e
   | dw a=>simp[du] at e
   | own a=>simp[du] at e
   | fn a=>simp[du] at e
   | box a=>simp[du] at e
 | .f::l,g,acc,zs,pre,res,h,e,hp=>by
  cases zs with
  | nil=>simp[du] at e
  | cons a zs =>
   cases a with
   | fn a =>
    rw[du] at e
    have:=qD l (g a) (acc++[.fn a]) zs pre res (h a) e hp
    simpa using this
   | val a=>simp[du] at e
   | dw a=>simp[du] at e
   | own a=>simp[du] at e
   | ref a=>simp[du] at e
   | box a=>simp[du] at e
 | .c ps r::l,g,acc,zs,pre,res,h,e,hp=>by
  cases zs with
  | nil=>simp[du] at e
  | cons a zs =>
   cases a with
   | dw a =>
    rw[du] at e
    split at e
    .rename_i x hx
     have:=qD l (g x) (acc++[.dw ⟨ps,r,x⟩]) zs pre res (h x) e hp
     rw[FV.aX hx]
     simpa using this
    .cases e
   | val a=>simp[du] at e
   | ref a=>simp[du] at e
   | fn a=>simp[du] at e
   | own a=>simp[du] at e
   | box a=>simp[du] at e
 | .o τ::l,g,acc,zs,pre,res,h,e,hp=>by
  cases zs with
  | nil=>simp[du] at e
  | cons a zs =>
   cases a with
   | own a =>
    rw[du] at e
    split at e
    .rename_i x hx
     have:=qD l (g x) (acc++[.own ⟨τ,x⟩]) zs pre res (h x) e hp
     rw[TV.aX hx]
     simpa using this
    .cases e
   | val a=>simp[du] at e
   | ref a=>simp[du] at e
   | fn a=>simp[du] at e
   | dw a=>simp[du] at e
   | box a=>simp[du] at e
 | .b k::l,g,acc,zs,pre,res,h,e,hp=>by
  cases zs<;>simp[du] at e
def bu.uy(c:bu):Prop:=lF prog c.n/\ux prog c.n c.l c.g []
theorem xQ.SR{w:World}{S:Nat->Prop}{v:TV}{x:Value}{fp:List Nat}(h:xQ w v x fp)(hb:∀ b∈fp,S b):fM w S v x:=by
 obtain⟨τ,y⟩:=v
 cases τ with
 | st s =>
  obtain⟨cs,h1,h2⟩:=h
  exact⟨cs,h1,h2.rd _ hb⟩
 | _=>exact Ow.rd _ h hb
theorem FG.SR{w:World}{S:Nat->Prop}:∀ {vs:List TV} {xs:List Value} {fp:List Nat},FG w vs xs fp->(∀ b∈fp,S b)->aJ (fM w S) vs xs
 | [],[],_,_,_=>trivial
 | v::vs,x::xs,fp,h,hb=>by
  obtain⟨f1,f2,rfl,h1,h2⟩:=h
  exact⟨h1.SR λ b cm=>hb b (a3N _ cm),FG.SR h2 λ b cm=>hb b (List.mem_append_right _ cm)⟩
 | [],_::_,_,h,_=>h.elim
 | _::_,[],_,h,_=>h.elim
theorem rP.plain{P:Program}{f:FuncId}{args:List Arg}{res:List TV}(h:rP P f args res):bL P f args (·=res):=by
 intro w S dc hS ha
 refine (h w S dc [] hS (tw.Mt ha) (.inl rfl) a2L (λ b hb=>by cases hb)).mono ?_
 rintro e w' ⟨x,fp,rfl,hk,hr,_,qW⟩
 have hn:∀ b∈fp,w.heap.size<=b/\b<w'.heap.size:=λ b hb=>(qW b hb).elim (λ q=>by cases q) id
 refine⟨x,λ b=>S b\/b∈fp,res,rfl,rfl,⟨hk.os,hk.tape,hk.output,hk.size,λ b hb _=>hk.block b hb λ q=>by cases q⟩,λ b hb=>⟨λ q=>q.elim id λ q=>absurd (hn b q).1 (by omega), .inl⟩,λ b q=>q.elim (λ q=>a2c (hS.1 b q) hk.size) λ q=>(hn b q).2,?_⟩
 match res,hr with
 | [v],hr=>exact xQ.SR (v:=v) hr λ b hb => .inr hb
 | [],hr =>
  obtain⟨l,h1,h2⟩:=hr
  exact⟨l,h1,h2.SR λ b hb => .inr hb⟩
 | v::u::vs,hr =>
  obtain⟨l,h1,h2⟩:=hr
  exact⟨l,h1,h2.SR λ b hb => .inr hb⟩
theorem ux.plain{P:Program}{f:FuncId}:∀ (l:List PK) (g:KT l) (acc:List Arg),ux P f l g acc->P4 P f l g acc
 | [],_,_,h=>λ hp=>(h hp).plain
 | .v _::l,g,_,h=>λ x=>ux.plain l (g x) _ (h x)
 | .r _::l,g,_,h=>λ x=>ux.plain l (g x) _ (h x)
 | .f::l,g,_,h=>λ x=>ux.plain l (g x) _ (h x)
 | .c _ _::l,g,_,h=>λ x=>ux.plain l (g x) _ (h x)
 | .o _::l,g,_,h=>λ x=>ux.plain l (g x) _ (h x)
 | .b _::_,_,_,_=>trivial
theorem bu.uy.plain{k:bu}(h:k.uy):k.Good:=⟨h.1,ux.plain k.l k.g [] h.2⟩
def ja:List bu->Prop
 | []=>True
 | c::r=>c.uy/\ja r
theorem Ms:∀ (l:List bu),ja l->∀ f args pre res,qP l f args=some (pre,res)->pre.ok->lF prog f/\rP prog f args res
 | [],_,f,args,pre,res,e,_=>by cases e
 | c::r,h,f,args,pre,res,e,hp=>by
  rw[qP] at e
  split at e
  .rename_i hb
   have hb:=a1x hb
   subst hb
   exact⟨h.1.1,qD c.l c.g [] args pre res h.1.2 e hp⟩
  .exact Ms r h.2 f args pre res e hp
structure MK where
 n:Nat
 m:Aj
def MK.Good(c:MK):Prop:=lF prog c.n/\FF prog c.n c.m
def iu:List MK->Prop
 | []=>True
 | c::r=>c.Good/\iu r
def CQ:List MK->Nat->Option Aj
 | [],_=>none
 | c::r,f=>match Nat.beq c.n f with
  | true=>some c.m
  | false=>CQ r f
theorem Me:∀ (l:List MK),iu l->∀ f m,CQ l f=some m->lF prog f/\FF prog f m
 | [],_,f,m,e=>by cases e
 | c::r,h,f,m,e=>by
  rw[CQ] at e
  split at e
  .rename_i hb
   have hb:=a1x hb
   subst hb
   cases e
   exact h.1
  .exact Me r h.2 f m e
@[reducible] def UO:List Ty->Type 1->Type 1
 | [],R=>R
 | t::ts,R=>t.den->UO ts R
@[reducible] def RE:List (List Ty)->Type 1
 | []=>ULift (Vc×List TV×List (List TV))
 | ts::D=>UO ts (RE D)
@[reducible] def M8:List PK->List (List Ty)->Type 1
 | [],D=>RE D
 | .v τ::l,D=>τ.den->M8 l D
 | .r τ::l,D=>τ.den->M8 l D
 | .f::l,D=>FuncId->M8 l D
 | .b _::l,D=>M8 l D
 | .c _ _::l,D=>M8 l D
 | .o _::l,D=>M8 l D
def kC:(ts:List Ty)->(R:Type 1)->UO ts R->List TV->Option R
 | [],_,r,[]=>some r
 | t::ts,R,g,v::vs=>match v.Z9 t with
  | some x=>kC ts R (g x) vs
  | none=>none
 | _,_,_,_=>none
def kD:(D:List (List Ty))->RE D->List (List TV)->Option (Vc×List TV×List (List TV))
 | [],r,[]=>some r.down
 | ts::D,g,vs::bN=>match kC ts (RE D) g vs with
  | some h=>kD D h bN
  | none=>none
 | _,_,_=>none
def kS:(l:List PK)->(D:List (List Ty))->M8 l D->List Arg->List (List TV)->Option (Vc×List TV×List (List TV))
 | [],D,g,[],bN=>kD D g bN
 | .v τ::l,D,g, .val a::zs,bN=>match a.Z9 τ with
  | some x=>kS l D (g x) zs bN
  | none=>none
 | .r τ::l,D,g, .ref a::zs,bN=>match a.Z9 τ with
  | some x=>kS l D (g x) zs bN
  | none=>none
 | .f::l,D,g, .fn a::zs,bN=>kS l D (g a) zs bN
 | .b k::l,D,g, .box j::zs,bN=>match Nat.beq k j with
  | true=>kS l D g zs bN
  | false=>none
 | _,_,_,_,_=>none
def UM:(ts:List Ty)->(R:Type 1)->(R->List TV->Prop)->UO ts R->List TV->Prop
 | [],_,p,r,acc=>p r acc
 | t::ts,R,p,g,acc=>∀ x,UM ts R p (g x) (acc++[⟨t,x⟩])
def UN(q:List (List TV)->Vc×List TV×List (List TV)->Prop):(D:List (List Ty))->RE D->List (List TV)->Prop
 | [],r,acc=>q acc r.down
 | ts::D,g,acc=>UM ts (RE D) (λ h vs=>UN q D h (acc++[vs])) g []
def Nu(P:Program)(f:FuncId)(sh:List (List CK)):(l:List PK)->(D:List (List Ty))->M8 l D->List Arg->Prop
 | [],D,g,acc=>UN (λ bN r=>r.1.ok->o5 P f sh acc bN r.2.1 r.2.2) D g []
 | .v τ::l,D,g,acc=>∀ x,Nu P f sh l D (g x) (acc++[.val ⟨τ,x⟩])
 | .r τ::l,D,g,acc=>∀ x,Nu P f sh l D (g x) (acc++[.ref ⟨τ,x⟩])
 | .f::l,D,g,acc=>∀ x,Nu P f sh l D (g x) (acc++[.fn x])
 | .b k::l,D,g,acc=>Nu P f sh l D g (acc++[.box k])
 | .c _ _::_,_,_,_=>True
 | .o _::_,_,_,_=>True
theorem Wb:∀ (ts:List Ty) (R:Type 1) (p:R->List TV->Prop) (g:UO ts R) (acc vs:List TV) (r:R),UM ts R p g acc->kC ts R g vs=some r->p r (acc++vs)
 | [],R,p,g,acc,vs,r,h,e=>by
  cases vs with
  | nil =>
   simp only[kC,a1w] at e
   subst e
   rw[a2O]
   exact h
  | cons v vs=>simp[kC] at e
 | t::ts,R,p,g,acc,vs,r,h,e=>by
  cases vs with
  | nil=>simp[kC] at e
  | cons v vs =>
   rw[kC] at e
   split at e
   .rename_i x hx
    have:=Wb ts R p (g x) (acc++[⟨t,x⟩]) vs r (h x) e
    rw[TV.aX hx]
    simpa using this
   .cases e
theorem Wc(q:List (List TV)->Vc×List TV×List (List TV)->Prop):∀ (D:List (List Ty)) (g:RE D) (acc bN:List (List TV)) (r:Vc×List TV×List (List TV)),UN q D g acc->kD D g bN=some r->q (acc++bN) r
 | [],g,acc,bN,r,h,e=>by
  cases bN with
  | nil =>
   simp only[kD,a1w] at e
   subst e
   rw[a2O]
   exact h
  | cons v vs=>simp[kD] at e
 | ts::D,g,acc,bN,r,h,e=>by
  cases bN with
  | nil=>simp[kD] at e
  | cons vs bN =>
   rw[kD] at e
   split at e
   .rename_i k hk
    have h1:=Wb ts _ _ g [] vs k h hk
    have:=Wc q D k (acc++[vs]) bN r (by simpa using h1) e
    simpa using this
   .cases e
theorem L5{P:Program}{f:FuncId}{sh:List (List CK)}:∀ (l:List PK) (D:List (List Ty)) (g:M8 l D) (acc zs:List Arg) (bN:List (List TV)) (pre:Vc) (res:List TV) (gw:List (List TV)),Nu P f sh l D g acc->kS l D g zs bN=some (pre,res,gw)->pre.ok->o5 P f sh (acc++zs) bN res gw
 | [],D,g,acc,zs,bN,pre,res,gw,h,e,hp=>by
  cases zs with
  | nil =>
   have:=Wc _ D g [] bN _ h e
   simpa using this hp
  | cons z zs=>simp[kS] at e
 | .v τ::l,D,g,acc,zs,bN,pre,res,gw,h,e,hp=>by
  cases zs with
  | nil=>simp[kS] at e
  | cons a zs =>
   cases a with
   | val a =>
    rw[kS] at e
    split at e
    .rename_i x hx
     have:=L5 l D (g x) (acc++[.val ⟨τ,x⟩]) zs bN pre res gw (h x) e hp
     rw[TV.aX hx]
     simpa using this
    .cases e
   | _=>simp[kS] at e
 | .r τ::l,D,g,acc,zs,bN,pre,res,gw,h,e,hp=>by
  cases zs with
  | nil=>simp[kS] at e
  | cons a zs =>
   cases a with
   | ref a =>
    rw[kS] at e
    split at e
    .rename_i x hx
     have:=L5 l D (g x) (acc++[.ref ⟨τ,x⟩]) zs bN pre res gw (h x) e hp
     rw[TV.aX hx]
     simpa using this
    .cases e
   | _=>simp[kS] at e
 | .f::l,D,g,acc,zs,bN,pre,res,gw,h,e,hp=>by
  cases zs with
  | nil=>simp[kS] at e
  | cons a zs =>
   cases a with
   | fn a =>
    rw[kS] at e
    have:=L5 l D (g a) (acc++[.fn a]) zs bN pre res gw (h a) e hp
    simpa using this
   | _=>simp[kS] at e
 | .b k::l,D,g,acc,zs,bN,pre,res,gw,h,e,hp=>by
  cases zs with
  | nil=>simp[kS] at e
  | cons a zs =>
   cases a with
   | box j =>
    rw[kS] at e
    split at e
    .rename_i hb
     have hb:=a1x hb
     subst hb
     have:=L5 l D g (acc++[.box k]) zs bN pre res gw h e hp
     simpa using this
    .cases e
   | _=>simp[kS] at e
 | .c _ _::l,D,g,acc,zs,bN,pre,res,gw,h,e,hp=>by cases zs<;>simp[kS] at e
 | .o _::l,D,g,acc,zs,bN,pre,res,gw,h,e,hp=>by cases zs<;>simp[kS] at e
structure gj where
 n:Nat
 sh:List (List CK)
 l:List PK
 D:List (List Ty)
 g:M8 l D
def gj.Good(c:gj):Prop:=lF prog c.n/\Nu prog c.n c.sh c.l c.D c.g []
def gO:List gj->Prop
 | []=>True
 | c::r=>c.Good/\gO r
def Wz:List PK->List (Option Nat)
 | []=>[]
 | .b k::l=>some k::Wz l
 | _::l=>none::Wz l
def Ox:List gj->Nat->Option SK
 | [],_=>none
 | c::r,f=>match Nat.beq c.n f with
  | true=>some ⟨Wz c.l,c.sh⟩
  | false=>Ox r f
def CY:List gj->Nat->List Arg->List (List TV)->Option (Vc×List TV×List (List TV))
 | [],_,_,_=>none
 | c::r,f,zs,bN=>match Nat.beq c.n f with
  | true=>kS c.l c.D c.g zs bN
  | false=>CY r f zs bN
theorem ML:∀ (l:List gj),gO l->∀ f sk args bN pre res gw,Ox l f=some sk->CY l f args bN=some (pre,res,gw)->pre.ok->lF prog f/\o5 prog f sk.sh args bN res gw
 | [],_,f,sk,args,bN,pre,res,gw,h,_,_=>by cases h
 | c::r,h,f,sk,args,bN,pre,res,gw,hs,e,hp=>by
  rw[Ox] at hs
  rw[CY] at e
  split at e
  .rename_i hb
   rw[hb] at hs
   have hb:=a1x hb
   subst hb
   simp only[a1w] at hs
   subst hs
   exact⟨h.1.1,by simpa using L5 c.l c.D c.g [] args bN pre res gw h.1.2 e hp⟩
  .rename_i hb
   rw[hb] at hs
   exact ML r h.2 f sk args bN pre res gw hs e hp
def dr(l:List bu)(ol:List bu)(ml:List MK)(own wr:List Nat)(cl:List (Nat×Bc):=[])(ro:List Nat:=[])(sl:List gj:=[]):Env:=Env.mk Ah KJ (qP l) wr own (qP ol) (CQ ml) (ae cl) ro (Tz ol) (Ox sl) (CY sl) G7 zL
theorem Gj{l ol:List bu}{ml:List MK}{own wr:List Nat}{cl:List (Nat×Bc)}{ro:List Nat}{sl:List gj}(h:aR l)(ho:ja ol)(hm:iu ml)(hs:gO sl):bD prog (dr l ol ml own wr cl ro sl) where
 ty T τ b e ht:=by
  have h1:=a2e.mp (a4m.1 (C0 (qP l) wr own (qP ol) (CQ ml) (ae cl) ro (Tz ol) (Ox sl) (CY sl) zL)).1 _ (B9 _ _ _ ht)
  exact h1
 Q2 T κ ε ht:=by
  have h1:=a2e.mp (a4m.1 (C0 (qP l) wr own (qP ol) (CQ ml) (ae cl) ro (Tz ol) (Ox sl) (CY sl) zL)).2 _ (B9 _ _ _ ht)
  exact h1
 SP _ _ _:=trivial
 H6:=H7 l h
 Hb:=Ms ol ho
 mark:=Me ml hm
 Ml:=Mm
 Oq:=ML sl hs
theorem Q9{f:FuncId}{fn:Func}{iy:Code}{l ol:List bu}{ml:List MK}{own wr:List Nat}{cl:List (Nat×Bc)}{ro:List Nat}{sl:List gj}(hl:aR l)(ho:ja ol)(hm:iu ml)(hs:gO sl)(hf:prog.funcs[f]?=some fn)(hb:fn.body=some iy)(Λ:Nat->aW){args:List Arg}{res:List TV}
  (h:dd (dr l ol ml own wr cl ro sl) iy Λ 0 (bO (dr l ol ml own wr cl ro sl) fn λ r=>bR r res) (aU fn args)):bL prog f args (·=res) :=
 (NU (Gj hl ho hm hs) tl hf hb Λ h).mono λ _=>p6
theorem wO{f:FuncId}{fn:Func}{iy:Code}{l ol:List bu}{ml:List MK}{own wr:List Nat}{cl:List (Nat×Bc)}{ro:List Nat}{sl:List gj}(hl:aR l)(ho:ja ol)(hm:iu ml)(hs:gO sl)(hf:prog.funcs[f]?=some fn)(hb:fn.body=some iy)(Λ:Nat->aW){args:List Arg}{res:List TV}
  (h:dd (dr l ol ml own wr cl ro sl) iy Λ 0 (ti (dr l ol ml own wr cl ro sl) fn λ r=>bR r res) (z7 fn args)):rP prog f args res :=
 Nb (Gj hl ho hm hs) tl hf hb Λ (λ _=>p6) h
theorem um{f:FuncId}{fn:Func}{iy:Code}{l ol:List bu}{ml:List MK}{own wr:List Nat}{cl:List (Nat×Bc)}{ro:List Nat}{sl:List gj}(hl:aR l)(ho:ja ol)(hm:iu ml)(hs:gO sl)(hf:prog.funcs[f]?=some fn)(hb:fn.body=some iy){m:Aj}(Λ:m.τ.den->Int->Nat->aW)(GG:∀ x:m.τ.den,(TV.cells ⟨m.τ,x⟩).length<=50)(hn:2<=fn.ntmps)
  (h:∀ (x:m.τ.den) (k:Int),(m.g x k).1.ok->ah k->dd (dr l ol ml own wr cl ro sl) iy (Λ x k) 0 (jE fn m x k) (ej fn ⟨m.τ,x⟩ k)):FF prog f m :=
 Lt (Gj hl ho hm hs) tl hf hb Λ GG hn h
def jl:List (List TV)->List (List TV)->Prop
 | [],[]=>True
 | a::r,b::q=>bR a b/\jl r q
 | _,_=>False
theorem KU:∀ {a b:List (List TV)},jl a b->a=b
 | [],[],_=>rfl
 | _::_,_::_,h=>by rw[p6 h.1,KU h.2]
 | [],_::_,h=>h.elim
 | _::_,[],h=>h.elim
def K9(args:List Arg)(n:Nat):Bool:=args.all λ a=>match a with
 | .box k=>Nat.blt k n
 | _=>true
theorem M9{args:List Arg}{n:Nat}(h:K9 args n=true):∀ k,Arg.box k∈args->k<n:=λ k hk=>by
 unfold K9 at h
 rw[a2e] at h
 exact a2n (h _ hk)
theorem fm{f:FuncId}{fn:Func}{iy:Code}{l ol:List bu}{ml:List MK}{own wr:List Nat}{cl:List (Nat×Bc)}{ro:List Nat}{sl:List gj}(hl:aR l)(ho:ja ol)(hm:iu ml)(hs:gO sl)(hf:prog.funcs[f]?=some fn)(hb:fn.body=some iy)(Λ:Nat->aW){args:List Arg}{sh:List (List CK)}{bN:List (List TV)}{res:List TV}{gw:List (List TV)}
  (Dv:Ov sh=true) (LI:K9 args sh.length=true) (h:dd (dr l ol ml own wr cl ro sl) iy Λ 0 (ij (dr l ol ml own wr cl ro sl) fn sh λ r ds=>bR r res/\jl ds gw) (cv fn args sh bN)):o5 prog f sh args bN res gw :=
 O3 (Gj hl ho hm hs) tl hf hb Λ (λ _ _ q=>⟨p6 q.1,KU q.2⟩) Dv (M9 LI) h
end Go.Proofs.YtaaamahdcpcofaaDoor

namespace Go.Proofs.YtaaamahdcpcofaaDoor
open Go.ChangeShapes Go.WideShapes Go.ChangeAt Go.RowKit
theorem dB.append{w:World}{S:Nat->Prop}:∀ (ds es:List D) {l m:List Value},dB w S ds l->dB w S es m->dB w S (ds++es) (l++m)
 | [],_,_,_,h,k=>by rw[show _=[] from h];simpa using k
 | d::ds,es,_,m,h,k=>by
  obtain⟨c,r,rfl,h2,h3⟩:=h
  exact⟨c,r++m,by simp,h2,dB.append ds es h3 k⟩
theorem Ut{w:World}{S:Nat->Prop}(t:Ty)(y:t.den){cs:List Value}(h:Rd w S (t.aT y) cs):dB w S ((TV.cells ⟨t,y⟩).map TV.aT) cs:=by
 have one:∀ d:D,d.leaf=true->Rd w S d cs->dB w S [d] cs:=by
  intro d hd h
  obtain⟨v,rfl,_⟩:=Rd.tE hd h
  exact⟨v,[],rfl,h,rfl⟩
 cases t with
 | st s =>
  have h':Rd w S (s.aT y) cs:=h
  rw[aM.cq] at h'
  exact h'
 | int k=>exact one _ rfl h
 | bool=>exact one _ rfl h
 | str=>exact one _ rfl h
 | slice t=>exact one _ rfl h
 | mv t=>exact one _ (Iw _ _ _) h
 | ptr=>exact one _ rfl h
theorem Ln{w:World}{S:Nat->Prop}:∀ (ts:List Ty) (cs:List Value),cs.length=(ts.map Ty.size).sum ->
  (∀ i t,ts[i]?=some t->∃ y:t.den,Rd w S (t.aT y) ((cs.drop ((ts.take i).map Ty.size).sum).take t.size)) ->
  ∃ fl:List TV,fl.map TV.τ=ts/\dB w S ((fl.flatMap TV.cells).map TV.aT) cs
 | [],cs,h,_=>⟨[],rfl,by
   have:cs=[]:=by simpa using h
   subst this;exact rfl⟩
 | t::ts,cs,h,k=>by
  obtain⟨y,hy⟩:=k 0 t rfl
  simp only[a3R,a3K,List.sum_nil,a3Q] at hy
  simp only[a2p,a5s] at h
  obtain⟨fl,h1,h2⟩:=Ln ts (cs.drop t.size) (by simp;omega) (λ i u hu=>by
   obtain⟨z,hz⟩:=k (i+1) u hu
   simp only[a3t,a2p,a5s] at hz
   rw[<-a3n] at hz
   exact⟨z,hz⟩)
  refine⟨⟨t,y⟩::fl,by simp[h1],?_⟩
  simp only[a4S,a3s]
  have:=dB.append _ _ (Ut t y hy) h2
  rwa [a3c] at this
theorem Tr{w:World}{S:Nat->Prop}(t:Ty)(b:Nat):∀ (n o:Nat),(∀ i,i<n->∃ (x:t.den) (cs:List Value),cs.length=t.size/\Rd w S (t.aT x) cs/\dk w b (o+i * t.size) cs) ->
  ∃ xs:List t.den,xs.length=n/\dJ w S (xs.map t.aT) b o
 | 0,o,_=>⟨[],rfl,trivial⟩
 | n+1,o,h=>by
  obtain⟨x,cs,h1,h2,h3⟩:=h 0 (by omega)
  obtain⟨xs,h4,h5⟩:=Tr t b n (o+t.size) (λ i hi=>by
   obtain⟨y,c,g1,g2,g3⟩:=h (i+1) (by omega)
   exact⟨y,c,g1,g2,by rw[show o+t.size+i * t.size=o+(i+1) * t.size by rw[a2C];omega];exact g3⟩)
  refine⟨x::xs,by simp[h4],⟨cs,by rw[Ty.cK];exact h1,h2,by simpa using h3⟩,?_⟩
  rw[Ty.cK]
  exact h5
section
variable {H:Type} {enc:TypeId×Value->H} {w:World} {spare:Nat->Bool} {held:Bool}
theorem PC(d:DataW H):1<=Rows.uptoBulk d:=by
 cases d with
 | lit l=>cases l<;>simp[Rows.uptoBulk]
 | nil=>simp[Rows.uptoBulk]
 | ptr d=>simp[Rows.uptoBulk]
 | slice elems spare=>simp[Rows.uptoBulk]
 | agg parts=>simp[Rows.uptoBulk]
 | iface t d=>simp[Rows.uptoBulk]
 | map entries=>simp[Rows.uptoBulk]
 | held h=>simp[Rows.uptoBulk]
theorem ME{d:DataW H}{l:List (DataW H)}(h:d∈l):Rows.uptoBulk d<=Rows.uptoBulkAll l:=by
 induction l with
 | nil=>cases h
 | cons x r ih =>
  simp only[Rows.uptoBulkAll]
  cases a1N.1 h with
  | inl e=>subst e;omega
  | inr e=>have:=ih e;omega
theorem J6(l:List (DataW H)):l.length<=Rows.uptoBulkAll l:=by
 induction l with
 | nil=>simp[Rows.uptoBulkAll]
 | cons x r ih=>have:=PC x;simp only[Rows.uptoBulkAll,a1M];omega
theorem pV:bD prog (bz []):=NM trivial
theorem zl{T b e:Nat}{τ:Ty}(h:ae Ah T=some (τ,b,e)):prog.cellsOf T=τ.size:=by
 obtain⟨i,z,h1,h2,_⟩:=(pV.info (T:=T) (τ:=τ) (b:=b) (e:=e) h).ex
 simp[Program.cellsOf,h1,h2]
theorem Rj:∀ (fuel:Nat) (τ:Ty) (T b e:Nat) (cs:List Value) (x:DataW H×List MemPlace),ae Ah T=some (τ,b,e)->DataW.trod enc prog w 0 spare held fuel T cs=some x ->
  Rows.uptoBulk x.1<=1048576->∃ y:τ.den,Rd w (·<w.heap.size) (τ.aT y) cs:=by
 intro fuel
 induction fuel with
 | zero =>
  intro τ T b e cs x ht h hk
  have h':(none:Option (DataW H×List MemPlace))=some x:=h
  cases h'
 | succ fuel ih =>
 intro τ T b e cs x ht h hk
 cases τ with
 | int k =>
  obtain⟨n,rfl,rfl,hw⟩:=DataW.trod_int (pV.int ht) h
  refine⟨n,rfl,?_⟩
  simpa [Lit.wf] using hw
 | bool =>
  obtain⟨n,rfl,rfl⟩:=DataW.trod_bool (pV.bool ht) h
  exact⟨n,rfl⟩
 | str =>
  obtain⟨n,rfl,rfl,hw⟩:=DataW.trod_string (pV.str ht) h
  refine⟨n.data.toList,n,rfl,rfl,?_⟩
  simp[Rows.uptoBulk] at hk
  have:n.size=n.data.size:=rfl
  omega
 | mv t=>exact (pV.Wq ht).elim
 | ptr =>
  obtain⟨t,hu⟩:=pV.ptr ht
  rcases DataW.trod_pointer hu h with ⟨rfl,_⟩|⟨a,_,_,_,_,rfl,_⟩
  .exact⟨(),_,rfl⟩
  .exact⟨(),_,rfl⟩
 | slice t =>
  obtain⟨hu,⟨b',e',he⟩,_⟩:=pV.slice ht
  have hc:=zl he
  rcases DataW.trod_slice hu h with ⟨rfl,rfl⟩|⟨a,len,cap,elems,rest,n,hn,rfl,rfl,hb,hl,hm,hlen,QC,_⟩
  .exact⟨[],none,0,rfl,a2u _,a3g _,a3g _, .inl rfl⟩
  .obtain rfl:n=fuel:=by omega
   rw[hc] at QC
   have R7:∀ (i:Nat) (z:DataW H×List MemPlace),elems[i]?=some z->Rows.uptoBulk z.1<=1048576:=by
    intro i z hz
    have h1:=ME (d:=z.1) (l:=elems.map (·.1)) (a1D.2 ⟨z,a2A hz,rfl⟩)
    simp only[Rows.uptoBulk] at hk
    omega
   have BQ:∀ i,i<len->∃ (y:t.den) (c:List Value),c.length=t.size/\Rd w (·<w.heap.size) (t.aT y) c/\(∀ j v,c[j]?=some v->w.cell? ((a.add (i * t.size)).add j)=some v):=by
    intro i hi
    have hz:elems[i]?=some (elems[i]'(by omega)):=a2m (by omega)
    have:=QC i hi
    rw[hz,a2W] at this
    obtain⟨c,LJ,hc2⟩:=this
    obtain⟨y,hy⟩:=ih t e b' e' c _ he hc2 (R7 i _ hz)
    obtain⟨_,h5,h6⟩:=World.cells?_some LJ
    refine⟨y,c,h5,hy,λ j v hj=>?_⟩
    rw[h6 j (by rw[<-h5];exact (a2a.1 hj).1),hj]
   have hlb:len<=1048576:=by
    have h1:=J6 (elems.map (·.1))
    simp only[Rows.uptoBulk,a2J] at hk h1
    omega
   rcases Nat.eq_zero_or_pos len with h0|h0
   .subst h0
    exact⟨[],some a,cap,rfl,a3g _,hm,a3g _, .inl rfl⟩
   .have hp:=Ty.size_pos t
    have Pm:a.spot=none:=by
     obtain⟨y,c,g1,g2,g3⟩:=BQ 0 h0
     have hj:c[0]?=some (c[0]'(by omega)):=a2m (by omega)
     have:=World.cell?_spot (g3 0 _ hj)
     simpa [Addr.add] using this
    obtain⟨ab,ao,asp⟩:=a
    simp only at Pm
    subst Pm
    have X7:∀ i j,((⟨ab,ao,none⟩:Addr).add i).add j=⟨ab,ao+i+j,none⟩:=by
     intro i j
     unfold Addr.add
     split<;>split<;>simp_all<;>omega
    obtain⟨xs,h1,h2⟩:=Tr (w:=w) (S:=(·<w.heap.size)) t ab len ao (λ i hi=>by
     obtain⟨y,c,g1,g2,g3⟩:=BQ i hi
     exact⟨y,c,g1,g2,λ j v hj=>by rw[<-X7];exact g3 j v hj⟩)
    have bC:ab<w.heap.size:=by
     obtain⟨y,c,g1,g2,g3⟩:=BQ 0 h0
     have hj:c[0]?=some (c[0]'(by omega)):=a2m (by omega)
     have:=g3 0 _ hj
     rw[X7] at this
     unfold World.cell? at this
     split at this
     .rename_i hh
      exact (a2z.1 hh).1
     .cases this
    have Pk:(xs.map t.aT).length=len:=by simp[h1]
    refine⟨xs,some ⟨ab,ao,none⟩,cap,by rw[Pk],by rw[Pk];exact hl,hm,by rw[Pk];omega, .inr ⟨ab,ao,rfl,bC,h2⟩⟩
 | st s =>
  obtain⟨fs,hu,cj,hf⟩:=pV.st ht
  obtain⟨xs,n,hn,rfl,Dr,uj,hx⟩:=DataW.trod_struct hu h
  obtain rfl:n=fuel:=by omega
  have lU:cs.length=(s.jd.map Ty.size).sum:=by
   rw[Dr,zl ht]
   cases s<;>rfl
  obtain⟨fl,h1,h2⟩:=Ln (w:=w) (S:=(·<w.heap.size)) s.jd cs lU (λ i t hi=>by
   have bC:i<fs.size:=by rw[cj];exact (a2a.1 hi).1
   obtain⟨t',b',e',g1,g2,g3⟩:=hf i (fs[i]'bC) (a2x bC)
   rw[hi] at g1
   cases g1
   have hy:=hx i (fs[i]'bC) (a2x bC)
   have hz:xs[i]?=some (xs[i]'(by omega)):=a2m (by omega)
   rw[hz,zl g2,g3] at hy
   refine ih t _ b' e' _ _ g2 hy ?_
   have h3:=ME (d:=(xs[i]'(by omega)).1) (l:=xs.map (·.1)) (a1D.2 ⟨_,a4f _,rfl⟩)
   simp only[Rows.uptoBulk] at hk
   omega)
  obtain⟨y,hy⟩:=aM.RV s fl h1
  refine⟨y,?_⟩
  show Rd w _ (s.aT y) cs
  rw[aM.cq,aM.DP,hy]
  exact h2
end
end Go.Proofs.YtaaamahdcpcofaaDoor

set_option maxRecDepth 100000
namespace Go.Proofs.YtaaamahdcpcofaaDoor
open Go.ChangeShapes Go.WideShapes Go.ChangeAt Go.RowKit
theorem SO:laidOutB prog=true:=by kernel_rfl
theorem Ur:ownKnob prog.godebug=none:=by kernel_rfl
section
variable {H:Type} {enc:TypeId×Value->H}
theorem Eh{W W':World}{sp:Nat->Bool}(hb:Below W.heap.size W W'):∀ (ts:List TypeId) {vs:List Value} {ds:List (DataW H)} {ps:List MemPlace},(∀ t∈ts,prog.readableRec t=true/\t<prog.types.size) ->
  DataW.TrodAll enc prog W 0 (λ _=>true) true ts vs ds ps->(∀ p∈ps,p.block<W.heap.size)->(∀ p∈ps,sp p.block=true)->DataW.TrodAll enc prog W' 0 sp true ts vs ds ps
 | [],[],[],ps,_,h,_,_=>h
 | t::ts,v::vs,d::ds,ps,ht,h,bC,Pm=>by
  obtain⟨p,q,h1,h2,rfl⟩:=h
  refine⟨p,q,?_,?_,rfl⟩
  .exact WideElems.Trod_stays SO (ht t (by simp)).1 (ht t (by simp)).2 h1 (λ x hx=>hb.same (bC x (by simp[hx]))) (λ x hx=>Pm x (by simp[hx]))
  .exact Eh hb ts (λ t h=>ht t (by simp[h])) h2 (λ x hx=>bC x (by simp[hx])) (λ x hx=>Pm x (by simp[hx]))
 | [],_::_,_,_,_,h,_,_=>h.elim
 | [],[],_::_,_,_,h,_,_=>h.elim
 | _::_,[],_,_,_,h,_,_=>h.elim
 | _::_,_::_,[],_,_,h,_,_=>h.elim
theorem Rf{f:Func}{s:ChangeSpec}{apart fresh handsOn again:Bool}{W W':World}{args:Array Value}{v:Value}{ds gs:List (DataW H)}{before pa pv:List MemPlace}
  (hW:DataW.Whole enc prog f.params.toList s.vars apart W args.toList ds gs before)
  (N5:∀ (b:Nat) (sp:Nat->Bool) (hd:Bool),DataW.TrodAll enc prog W' b sp hd f.resultTypes.toList (v.resultList f.resultTypes.size) (s.fn H (ds++gs)).results [])
  (e7:∀ sp:Nat->Bool,(∀ p∈before,sp p.block=true)->DataW.TrodAll enc prog W' 0 sp true f.params.toList args.toList (s.fn H (ds++gs)).args pa)
  (L0:∀ sp:Nat->Bool,(∀ p∈before,sp p.block=true)->DataW.TrodVars enc prog W' sp s.vars (s.fn H (ds++gs)).vars pv)
  (Xl:before=pa++pv) (hb:Below W.heap.size W W')
  (hok:∀ (j:Nat) (t:TypeId) (r:Value),f.resultTypes[j]?=some t->(v.resultList f.resultTypes.size)[j]?=some r->Value.okWide prog W' .any 0 t r) :
  s.post enc prog f apart fresh handsOn again W args v W':=by
 have bC:∀ p∈before,p.block<W.heap.size:=λ p hp=>hW.lt p hp
 have hold:∀ p∈before,(λ b=>decide (b<W.heap.size)) p.block=true:=λ p hp=>by simpa using bC p hp
 refine⟨ds,gs,before,[],pa,pv,hW,N5 _ _ _,e7 _ hold,L0 _ hold,World.keptBut_mono (λ p hp=>⟨hp,?_⟩) (hb.frame (·∈before)),λ _=>?_⟩
 .rw[Xl,a1A] at hp
  exact Or.inr hp
 .obtain⟨_,_,_,_,_,hz,hn⟩:=hW
  refine⟨hok,_,_,([]++pa)++pv,⟨[]++pa,pv,trodAll_append (e7 _ (λ _ _=>rfl)) (N5 _ _ _),L0 _ (λ _ _=>rfl),rfl,?_,?_⟩,?_⟩
  .intro b off hp
   have gQ:MemPlace.cell b off∈before:=by rw[Xl];simpa using hp
   rw[hb.frozen (bC _ gQ)]
   exact hz b off gQ
  .intro ha
   have:=hn ha
   rw[Xl] at this
   simpa using this
  .intro p hp _
   rw[Xl]
   simpa using hp
def Rm(τ:Ty)(v:Value):Prop:=match τ with
 | .st _=>∃ cs,v = .agg cs
 | _=>v.cells = #[v]
theorem XH{w:World}{S:Nat->Prop}(τ:Ty)(y:τ.den){v:Value}(hv:Rm τ v)(h:Rd w S (τ.aT y) v.cells.toList):fM w S ⟨τ,y⟩ v:=by
 cases τ with
 | st s =>
  obtain⟨cs,rfl⟩:=hv
  exact⟨cs.toList,by simp,h⟩
 | int k=>simp only[show v.cells = #[v] from hv] at h;exact h
 | bool=>simp only[show v.cells = #[v] from hv] at h;exact h
 | str=>simp only[show v.cells = #[v] from hv] at h;exact h
 | slice t=>simp only[show v.cells = #[v] from hv] at h;exact h
 | mv t=>simp only[show v.cells = #[v] from hv] at h;exact h
 | ptr=>simp only[show v.cells = #[v] from hv] at h;exact h
theorem Qa{w:World}:∀ (ts:List TypeId) (τs:List Ty) {vs:List Value} {ds:List (DataW H)} {ps:List MemPlace},aJ (λ T τ=>∃ b e,ae Ah T=some (τ,b,e)) ts τs ->
  DataW.TrodAll enc prog w 0 (λ _=>true) true ts vs ds ps->(∀ d∈ds,Rows.uptoBulk d<=1048576)->(∀ (j:Nat) t v,ts[j]?=some t->vs[j]?=some v->Value.okWide prog w .any 0 t v\/∃ b,Value.okWide prog w .any b t v) ->
  ∃ HB:List TV,HB.map TV.τ=τs/\ds.length=τs.length/\aJ (vP prog w (·<w.heap.size)) (HB.map .val) vs
 | [],[],[],[],_,_,_,_,_=>⟨[],rfl,rfl,trivial⟩
 | T::ts,τ::τs,v::vs,d::ds,ps,ht,h,hk,hv=>by
  obtain⟨p,q,⟨n,h1⟩,h2,rfl⟩:=h
  obtain⟨⟨b,e,hT⟩,ni⟩:=ht
  obtain⟨y,hy⟩:=Rj n τ T b e _ _ hT h1 (hk d (by simp))
  obtain⟨HB,g1,g2,g3⟩:=Qa ts τs ni h2 (λ d hd=>hk d (by simp[hd])) (λ j t v hj BP=>hv (j+1) t v hj BP)
  refine⟨⟨τ,y⟩::HB,by simp[g1],by simp[g2],⟨?_,g3⟩⟩
  refine XH τ y ?_ hy
  have GQ:=hv 0 T v rfl rfl
  have key:∀ b,Value.okWide prog w .any b T v->Rm τ v:=by
   intro b' hb
   cases τ with
   | st s =>
    obtain⟨fs,hu,_⟩:=pV.st hT
    simp only[Value.okWide,hu] at hb
    obtain⟨cs,rfl,_⟩:=hb
    exact⟨cs,rfl⟩
   | int k =>
    have hu:=pV.int hT
    simp only[Value.okWide,hu,Cell.okWide,Cell.ok] at hb
    cases v<;>first|rfl|cases hb
   | bool =>
    have hu:=pV.bool hT
    simp only[Value.okWide,hu,Cell.okWide,Cell.ok] at hb
    cases v<;>first|rfl|cases hb
   | str =>
    have hu:=pV.str hT
    simp only[Value.okWide,hu,Cell.okWide,Cell.ok] at hb
    cases v<;>first|rfl|cases hb
   | mv t=>exact (pV.Wq hT).elim
   | ptr =>
    obtain⟨t,hu⟩:=pV.ptr hT
    simp only[Value.okWide,hu,Cell.okWide,Cell.ok] at hb
    cases v<;>first|rfl|cases hb
   | slice t =>
    have hu:=(pV.slice hT).1
    simp only[Value.okWide,hu,Cell.okWide,Cell.ok] at hb
    cases v<;>first|rfl|cases hb
  rcases GQ with h|⟨b',h⟩
  .exact key _ h
  .exact key _ h
 | [],_::_,_,_,_,h,_,_,_=>h.elim
 | _::_,[],_,_,_,h,_,_,_=>h.elim
 | [],[],_::_,_,_,_,h,_,_=>h.elim
 | [],[],[],_::_,_,_,h,_,_=>h.elim
 | _::_,_::_,[],_,_,_,h,_,_=>h.elim
 | _::_,_::_,_::_,[],_,_,h,_,_=>h.elim
noncomputable def X4(g:Nat):Bool:=g<prog.globals.size&&match ((begin prog (λ _ _=>0) default).world.heap[g]?).bind Obj.row? with
 | some (zero,t)=>zero.size == 1&&prog.buildable t&&(match prog.cellTypes prog.depth t with|some [u]=>u == t|_=>false)&&(match prog.underlying t with|some (.int .i64)=>true|_=>false)
 | none=>false
theorem TO:R1.all X4=true:=by kernel_rfl
theorem Lz{W:World}(h:W.ShapedOpen prog):Em W (·<W.heap.size):=⟨λ _ h=>h,λ g hg=>by
 have hk:=a2e.1 TO g hg
 unfold X4 at hk
 rw[a1z] at hk
 obtain⟨h1,h2⟩:=hk
 split at h2
 .rename_i zero t h0
  simp only[a1z] at h2
  obtain⟨⟨⟨k1,k2⟩,k3⟩,k4⟩:=h2
  have k3':prog.cellTypes prog.depth t=some [t]:=by
   split at k3
   .rename_i u hu
    rw[hu,eq_of_beq k3]
   .cases k3
  have k4':prog.underlying t=some (.int .i64):=by
   split at k4
   .rename_i hu;exact hu
   .cases k4
  obtain⟨m,hm⟩:=cell_of_shapedOpen_int h (a2d h1) h0 (eq_of_beq k1) k2 k3' k4'
  refine⟨?_,m,hm⟩
  unfold World.cell? at hm
  rcases a2B g W.heap.size with q|q
  .exact q
  .rw[show W.heap[g]?=none from a2P q] at hm
   cases hm
 .cases h2⟩
theorem Wd{n:FuncId}{fn:Func}{s:ChangeSpec}{τs:List Ty}{handsOn again:Bool}(Xp:aJ (λ T τ=>∃ b e,ae Ah T=some (τ,b,e)) fn.params.toList τs)
  (Pl:∀ t∈fn.params.toList,prog.readableRec t=true/\t<prog.types.size) (hr:fn.resultTypes = #[OH]) (L0:s.vars=[])
  (hs:∀ ds:List (DataW H),ds.length=τs.length->s.fn H ds={ results:=[.lit (.bool true)],args:=ds })
  (a0v:∀ HB:List TV,HB.map TV.τ=τs->bL prog n (HB.map .val) (·=[⟨.bool,true⟩]))
  {W:World} {base:Nat} {args:Array Value} {ds gs:List (DataW H)} {before:List MemPlace}
  (QQ:∀ (j:Nat) t v,fn.params[j]?=some t->args[j]?=some v->Value.okWide prog W .any base t v)
  (hW:DataW.Whole enc prog fn.params.toList s.vars false W args.toList ds gs before) (hk:Rows.uptoSmall H (ds++gs)=true) (Dv:Em W (·<W.heap.size)) :
  Calls prog n args W λ e W'=>∃ v,e = .returned v/\s.post enc prog fn false true handsOn again W args v W':=by
 have hW':=hW
 obtain⟨p,q,hA,hV,Il,hfz,dq⟩:=hW
 rw[L0] at hV
 obtain⟨rfl,rfl⟩:=trodVars_none hV
 have R7:∀ d∈ds,Rows.uptoBulk d<=1048576:=by
  intro d hd
  have h1:=ME hd
  simp only[Rows.uptoSmall,a2O,a1F] at hk
  omega
 obtain⟨HB,h1,h2,h3⟩:=Qa fn.params.toList τs Xp hA R7 (λ j t v hj BP => .inr ⟨base,QQ j t v (by simpa using hj) (by simpa using BP)⟩)
 have kl:=a0v HB h1 W (·<W.heap.size) args.toList Dv h3
 rw[show args.toList.toArray=args by simp] at kl
 refine kl.mono λ e W'=>?_
 rintro⟨x,S',res,rfl,rfl,km,W8,W9,N5⟩
 have hx:x = .bool true:=by
  have hx:fM W' S' ⟨.bool,true⟩ x:=N5
  have hx:[x]=[Value.bool true]:=hx
  simpa using hx
 subst hx
 have hb:Below W.heap.size W W':=⟨km.os,km.tape,km.output,km.size,λ k hk=>km.block k hk (λ h=>h)⟩
 refine⟨_,rfl,Rf (pa:=p) (pv:=[]) hW' ?_ ?_ ?_ Il hb ?_⟩
 .intro b sp hd
  rw[hs _ (by simpa using h2),hr]
  exact trodAll_mk1 ⟨1,by
   have hu:prog.underlying OH=some .bool:=by kernel_rfl
   simp only[DataW.trod,Value.cells]
   rw[hu]⟩
 .intro sp Pm
  rw[hs _ (by simpa using h2),List.append_nil]
  have bC:∀ x∈before,x.block<W.heap.size:=λ x hx=>hW'.lt x hx
  rw[Il] at bC Pm
  exact Eh hb _ Pl hA (λ x hx=>bC x (by simp[hx])) (λ x hx=>Pm x (by simp[hx]))
 .intro sp Pm
  rw[hs _ (by simpa using h2),L0]
  rfl
 .refine ok_one hr rfl ?_
  have hu:prog.underlying OH=some .bool:=by kernel_rfl
  simp[Value.okWide,hu,Cell.okWide,Cell.ok]
end
end Go.Proofs.YtaaamahdcpcofaaDoor

namespace Go.Proofs.YtaaamahdcpcofaaDoor
def aw{α:Type}(f:α->Nat):List α->Nat
 | []=>0
 | x::xs=>f x+aw f xs
section
variable {α:Type} (f:α->Nat)
theorem jG(d:α):∀ (xs:List α) (k:Nat),k<xs.length->aw f (xs.take (k+1))=aw f (xs.take k)+f (xs.getD k d)
 | [],k,h=>by simp at h
 | x::xs,0,h=>by simp[aw]
 | x::xs,k+1,h=>by
  have:=jG d xs k (by simpa using h)
  simp[aw] at this ⊢;omega
theorem cS:∀ (xs:List α) (k:Nat),aw f (xs.take k)<=aw f xs
 | [],k=>by simp
 | x::xs,0=>by simp[aw]
 | x::xs,k+1=>by
  have:=cS xs k
  simp[aw];omega
theorem nU(xs:List α)(k:Nat):xs.length<=k->aw f (xs.take k)=aw f xs:=λ h=>by rw[a2F h]
theorem qK(xs:List α):aw f (xs.take 0)=0:=by simp[aw]
end
def iH(t:Nat)(left:Int):Int:=if (t:Int)<=left then left - t else -1
theorem pJ(t:Nat)(left:Int):((t:Int)<=left/\iH t left=left - t)\/(left<(t:Int)/\iH t left = -1):=by
 unfold iH;split
 .exact .inl ⟨by assumption,rfl⟩
 .exact .inr ⟨by omega,rfl⟩
noncomputable def gA{α:Type}(a b:α):Bool := @decide (a=b) (Classical.propDecidable _)
theorem CH{α:Type}{a b:α}(h:a=b):true=gA a b:=by simp[gA,h]
theorem rV{α:Type}{a b:α}(h:a≠b):false=gA a b:=by simp[gA,h]
@[simp] theorem sU{α:Type}{a b:α}:gA a b=true↔a=b:=by simp[gA]
@[simp] theorem ZX{α:Type}{a b:α}:gA a b=false↔a≠b:=by simp[gA]
@[simp] theorem ZY{α:Type}{a:α}:gA a a=true:=by simp[gA]
section
variable {α:Type}
theorem nW(d:α):∀ (xs:List α) (k:Nat),k<xs.length->xs.take (k+1)=xs.take k++[xs.getD k d]
 | [],k,h=>by simp at h
 | x::xs,0,h=>by simp
 | x::xs,k+1,h=>by
  have:=nW d xs k (by simpa using h)
  simp at this ⊢;exact this
theorem Ac(d:α)(xs ys:List α)(k:Nat)(h1:k<xs.length)(h2:k<ys.length)(h:xs.take k=ys.take k)(e:xs.getD k d=ys.getD k d):xs.take (k+1)=ys.take (k+1):=by
 rw[nW d xs k h1,nW d ys k h2,h,e]
theorem rG(xs ys:List α)(k:Nat)(h1:xs.length<=k)(h2:ys.length<=k)(h:xs.take k=ys.take k):xs=ys:=by
 rwa [a2F h1,a2F h2] at h
def fill(xs:List α)(k:Nat)(z:α):List α:=xs.take k++List.replicate (xs.length - k) z
end
def dI{α:Type}(f:α->Nat):List α->Nat
 | []=>0
 | x::xs=>max (f x) (dI f xs)
section
variable {α:Type} (f:α->Nat)
theorem nJ(d:α):∀ (xs:List α) (k:Nat),k<xs.length->dI f (xs.take (k+1))=max (dI f (xs.take k)) (f (xs.getD k d))
 | [],k,h=>by simp at h
 | x::xs,0,h=>by simp[dI]
 | x::xs,k+1,h=>by
  have:=nJ d xs k (by simpa using h)
  simp[dI] at this ⊢;omega
theorem fN:∀ (xs:List α) (k:Nat),dI f (xs.take k)<=dI f xs
 | [],k=>by simp
 | x::xs,0=>by simp[dI]
 | x::xs,k+1=>by
  have:=fN xs k
  simp[dI];omega
theorem sa(xs:List α)(k:Nat):xs.length<=k->dI f (xs.take k)=dI f xs:=λ h=>by rw[a2F h]
theorem zI(xs:List α):dI f (xs.take 0)=0:=by simp[dI]
theorem pR(d:α):∀ (xs:List α) (k:Nat),k<xs.length->f (xs.getD k d)<=dI f xs
 | [],k,h=>by simp at h
 | x::xs,0,h=>by simp[dI];omega
 | x::xs,k+1,h=>by
  have:=pR d xs k (by simpa using h)
  simp[dI] at this ⊢;omega
end
def cG{α:Type}(f:α->Bool):List α->Bool
 | []=>true
 | x::xs=>f x&&cG f xs
section
variable {α:Type} (f:α->Bool)
theorem FL:∀ (xs ys:List α),cG f (xs++ys)=(cG f xs&&cG f ys)
 | [],ys=>by simp[cG]
 | x::xs,ys=>by simp[cG,FL xs ys,Bool.and_assoc]
theorem eu(d:α)(xs:List α)(k:Nat)(h:k<xs.length):cG f (xs.take (k+1))=(cG f (xs.take k)&&f (xs.getD k d)):=by
 rw[nW d xs k h,FL];simp[cG]
theorem fO(d:α):∀ (xs:List α) (k:Nat),k<xs.length->f (xs.getD k d)=false->cG f xs=false
 | [],k,h,_=>by simp at h
 | x::xs,0,h,e=>by simp at e;simp[cG,e]
 | x::xs,k+1,h,e=>by
  have:=fO d xs k (by simpa using h) (by simpa using e)
  simp[cG,this]
theorem fu(xs:List α)(k:Nat):xs.length<=k->cG f (xs.take k)=cG f xs:=λ h=>by rw[a2F h]
theorem all_zero(xs:List α):cG f (xs.take 0)=true:=by simp[cG]
theorem HR(d:α):∀ (xs:List α) (k:Nat),k<xs.length->cG f xs=true->f (xs.getD k d)=true
 | [],k,h,_=>by simp at h
 | x::xs,0,h,e=>by simp[cG] at e;simp[e.1]
 | x::xs,k+1,h,e=>by
  simp only[cG,a1z] at e
  have:=HR d xs k (by simpa using h) e.2
  simpa using this
end
end Go.Proofs.YtaaamahdcpcofaaDoor

namespace Go.Proofs.YtaaamahdcpcofaaDoor
noncomputable section
mutual
def jk:M->Nat
 | ⟨_,_,J⟩=>J.length+sA J
def sA:List M->Nat
 | []=>0
 | k::ks=>jk k+sA ks
end
theorem z8:∀ xs,sA xs=aw jk xs
 | []=>rfl
 | x::xs=>by rw[sA,aw,z8 xs]
theorem Ro(x:M):jk x=(x.J.length+aw jk x.J):=by
 cases x;simp[jk,z8];try omega
mutual
def ke:ai->Nat
 | ⟨_,_,cond,J⟩=>jk cond+J.length+sB J
def sB:List ai->Nat
 | []=>0
 | k::ks=>ke k+sB ks
end
theorem Aa:∀ xs,sB xs=aw ke xs
 | []=>rfl
 | x::xs=>by rw[sB,aw,Aa xs]
theorem Rp(x:ai):ke x=(jk x.cond)+(x.J.length+aw ke x.J):=by
 cases x;simp[ke,Aa];try omega
end
end Go.Proofs.YtaaamahdcpcofaaDoor

set_option maxRecDepth 4000
set_option maxHeartbeats 4000000
namespace Go.Proofs.YtaaamahdcpcofaaDoor
noncomputable section
def pb:bu:=⟨xh,[.v (.st .sig)],λ (x:bb)=>⟨(none,[⟨(.st .sig),x⟩])⟩⟩
def D1(x:bb):Nat->aW:=λ _ => .none
theorem M0(x:bb):dd (bz [] [] [] [1]) (aD mG) (D1 x) 0 (bO (bz [] [] [] [1]) mG λ r=>bR r [⟨(.st .sig),x⟩]) (aU mG [.val ⟨(.st .sig),x⟩]) =
 ((ah x.bw ->
 (ah x.aO ->
 x=x))):=by kernel_rfl
theorem Mu(hE:aR []):bu.Good pb:=by
 refine⟨aB Bi rfl (by decide),?_⟩
 show ∀ (x:bb),True->bL prog xh [.val ⟨(.st .sig),x⟩] (·=[⟨(.st .sig),x⟩])
 intro x _
 refine bB (wr:=[]) (cl:=[]) (ro:=[1]) hE Bi HU (D1 x) ?_
 rewrite [M0 x]
 refine λ a0=>λ a1=>rfl
 all_goals try and_intros
 all_goals first|rfl|trivial|omega|(simp only[a1F,a1L,aZ,ah,dD,eM,j0,fI] at *;omega)|(simp[aZ,ah] at *;omega)|grind
theorem Ic:bu.Good pb:=Mu trivial
end
end Go.Proofs.YtaaamahdcpcofaaDoor

set_option maxRecDepth 4000
set_option maxHeartbeats 4000000
namespace Go.Proofs.YtaaamahdcpcofaaDoor
noncomputable section
def my(n:Nat):bu:=⟨rq,[.v (.st .expr), .v (.st .expr)],λ (x:M) (y:M)=>⟨(some (cd x<n),[⟨.bool,gA x y⟩])⟩⟩
def ri:bu:=⟨rq,[.v (.st .expr), .v (.st .expr)],λ (x:M) (y:M)=>⟨(none,[⟨.bool,gA x y⟩])⟩⟩
def lh(n:Nat):bu:=⟨tG,[.v (.slice (.st .expr)), .v (.slice (.st .expr))],λ (xs:List M) (ys:List M)=>⟨(some (cd xs<n),[⟨.bool,gA xs ys⟩])⟩⟩
def B1(x:M)(y:M):Nat->aW:=λ _ => .none
theorem Kq(n:Nat)(x:M)(y:M):dd (bz [lh n] [] [] [2,3]) (aD kR) (B1 x y) 0 (bO (bz [lh n] [] [] [2,3]) kR λ r=>bR r [⟨.bool,gA x y⟩]) (aU kR [.val ⟨(.st .expr),x⟩, .val ⟨(.st .expr),y⟩]) =
 ((ah x.af ->
 (ah y.af ->
 (((!(decide (x.af=y.af)))=true ->
 false=(gA x y))/\((!(decide (x.af=y.af)))=false ->
 (ah x.al ->
 (ah y.al ->
 (((!(decide (x.al=y.al)))=true ->
 false=(gA x y))/\((!(decide (x.al=y.al)))=false ->
 (x.J.length<=140737488355328 ->
 (y.J.length<=140737488355328 ->
 (cd x.J<n/\(((!(gA x.J y.J))=true ->
 false=(gA x y))/\((!(gA x.J y.J))=false ->
 true=(gA x y))))))))))))))):=by kernel_rfl
theorem Kf(n:Nat)(hE:aR [lh n]):bu.Good (my (n+1)):=by
 refine⟨aB pt rfl (by decide),?_⟩
 show ∀ (x:M) (y:M),(cd x<n+1)->bL prog rq [.val ⟨(.st .expr),x⟩, .val ⟨(.st .expr),y⟩] (·=[⟨.bool,gA x y⟩])
 intro x y hp
 refine bB (wr:=[]) (cl:=[]) (ro:=[2,3]) hE pt F3 (B1 x y) ?_
 rewrite [Kq n x y]
 have f0k:=ly x
 refine λ a0=>λ a1=>⟨λ a2=>?_,λ a2=>λ a3=>λ a4=>⟨λ a5=>?_,λ a5=>λ a6=>λ a7=>⟨?_,⟨λ a8=>?_,λ a8=>?_⟩⟩⟩⟩
 all_goals try and_intros
 all_goals first|rfl|trivial|(simp only[a1F,a1L,aZ,ah] at *;omega)|(refine rV λ yl=>?_;subst yl;simp_all)|(refine CH ?_;cases x;cases y;simp_all)
def Ax(xs:List M)(ys:List M):Nat->aW:=(λ zb=>if Nat.beq zb 0 then .mk (Nat) (λ k=>k<=xs.length/\xs.length=ys.length/\xs.take k=ys.take k) (λ k=>xs.length - k) [] [2,3,6,7,8,9,10] (λ k=>[(5, .az ⟨(.int .i64),((k:Int):Int)⟩)]) [0,1,4,5,11,12,13,14,15,16,17,18,19,20,21,22,23,24,25,26] (λ k=>[]) [] [] (λ k=>λ _ => .none) else .none)
theorem IN(n:Nat)(xs:List M)(ys:List M):dd (bz [my n]) (aD jt) (Ax xs ys) 0 (bO (bz [my n]) jt λ r=>bR r [⟨.bool,gA xs ys⟩]) (aU jt [.val ⟨(.slice (.st .expr)),xs⟩, .val ⟨(.slice (.st .expr)),ys⟩]) =
 ((ah ((xs.length:Int)) ->
 (ah ((ys.length:Int)) ->
 (((!(decide (((xs.length:Int))=((ys.length:Int)))))=true ->
 false=(gA xs ys))/\((!(decide (((xs.length:Int))=((ys.length:Int)))))=false ->
 ((∃ k1:Nat,((k1<=xs.length/\xs.length=ys.length/\xs.take k1=ys.take k1)/\((xs=xs/\(ys=ys/\((0:Int)=(k1:Int)/\True)))/\True)))/\(∀ k1:Nat,((k1<=xs.length/\xs.length=ys.length/\xs.take k1=ys.take k1) ->
 (ah ((xs.length:Int)) ->
 (((decide ((k1:Int)<((xs.length:Int))))=true ->
 (aZ (k1:Int) xs.length/\(aZ (k1:Int) ys.length/\(cd (xs.getD k1 zE)<n/\(((!(gA (xs.getD k1 zE) (ys.getD k1 zE)))=true ->
 false=(gA xs ys))/\((!(gA (xs.getD k1 zE) (ys.getD k1 zE)))=false ->
 (ah ((k1:Int)+(1:Int))/\(∃ k2:Nat,((k2<=xs.length/\xs.length=ys.length/\xs.take k2=ys.take k2)/\(xs.length - k2<xs.length - k1/\((xs=xs/\(ys=ys/\(((k1:Int)+(1:Int))=(k2:Int)/\True)))/\True)))))))))))/\((decide ((k1:Int)<((xs.length:Int))))=false ->
 true=(gA xs ys)))))))))))):=by kernel_rfl
theorem Iz(n:Nat)(hE:aR [my n]):bu.Good (lh (n+1)):=by
 refine⟨aB rQ rfl (by decide),?_⟩
 show ∀ (xs:List M) (ys:List M),(cd xs<n+1)->bL prog tG [.val ⟨(.slice (.st .expr)),xs⟩, .val ⟨(.slice (.st .expr)),ys⟩] (·=[⟨.bool,gA xs ys⟩])
 intro xs ys hp
 refine bB (wr:=[]) (cl:=[]) (ro:=[]) hE rQ Es (Ax xs ys) ?_
 rewrite [IN n xs ys]
 refine λ a0=>λ a1=>⟨λ a2=>?_,λ a2=>⟨⟨0,⟨?_,⟨⟨rfl,⟨rfl,⟨?_,trivial⟩⟩⟩,trivial⟩⟩⟩,λ k1 a3=>have U6:=Ac zE xs ys k1;have U7:=rG xs ys k1;have U8:=ct zE xs k1;λ a4=>⟨λ a5=>⟨?_,⟨?_,⟨?_,⟨λ a6=>?_,λ a6=>⟨?_,⟨k1+1,⟨?_,⟨?_,⟨⟨rfl,⟨rfl,⟨?_,trivial⟩⟩⟩,trivial⟩⟩⟩⟩⟩⟩⟩⟩⟩,λ a5=>?_⟩⟩⟩
 all_goals try and_intros
 all_goals first|rfl|trivial|(simp only[a1F,a1L,a2Q,decide_not,a2k,aZ,ah] at *;first|omega|(refine rV λ yl=>?_;subst yl;simp_all;done)|(refine CH (rG _ _ _ (by omega) (by omega) (by simp_all))))|(refine rV λ yl=>?_;subst yl;simp_all;done)|(simp_all;done)|(refine Ac zE _ _ _ (by simp_all;omega) (by simp_all;omega) (by simp_all) ?_;simp_all;done)
theorem FP :∀ n,aR [my n,lh n]
 | 0=>⟨⟨aB pt rfl (by decide),λ _ _ h=>absurd h (a2s _)⟩,⟨aB rQ rfl (by decide),λ _ _ h=>absurd h (a2s _)⟩,trivial⟩
 | n+1=>by
  have ih:=FP  n
  exact⟨Kf n ⟨ih.2.1,trivial⟩,Iz n ⟨ih.1,trivial⟩,trivial⟩
theorem Gw :bu.Good ri :=
 ⟨aB pt rfl (by decide),λ x y hp=>(FP  (cd x+1)).1.2 x y (a2l _)⟩
def mz(n:Nat):bu:=⟨rr,[.v (.st .prog), .v (.st .prog)],λ (x:ai) (y:ai)=>⟨(some (cd x<n),[⟨.bool,gA x y⟩])⟩⟩
def rj:bu:=⟨rr,[.v (.st .prog), .v (.st .prog)],λ (x:ai) (y:ai)=>⟨(none,[⟨.bool,gA x y⟩])⟩⟩
def lj(n:Nat):bu:=⟨tH,[.v (.slice (.st .prog)), .v (.slice (.st .prog))],λ (xs:List ai) (ys:List ai)=>⟨(some (cd xs<n),[⟨.bool,gA xs ys⟩])⟩⟩
def B2(x:ai)(y:ai):Nat->aW:=λ _ => .none
theorem Kr(n:Nat)(x:ai)(y:ai):dd (bz [ri,lj n] [] [] [2,3]) (aD kU) (B2 x y) 0 (bO (bz [ri,lj n] [] [] [2,3]) kU λ r=>bR r [⟨.bool,gA x y⟩]) (aU kU [.val ⟨(.st .prog),x⟩, .val ⟨(.st .prog),y⟩]) =
 ((ah x.af ->
 (ah y.af ->
 (((!(decide (x.af=y.af)))=true ->
 false=(gA x y))/\((!(decide (x.af=y.af)))=false ->
 (ah x.al ->
 (ah y.al ->
 (((!(decide (x.al=y.al)))=true ->
 false=(gA x y))/\((!(decide (x.al=y.al)))=false ->
 (((!(gA x.cond y.cond))=true ->
 false=(gA x y))/\((!(gA x.cond y.cond))=false ->
 (x.J.length<=140737488355328 ->
 (y.J.length<=140737488355328 ->
 (cd x.J<n/\(((!(gA x.J y.J))=true ->
 false=(gA x y))/\((!(gA x.J y.J))=false ->
 true=(gA x y))))))))))))))))):=by kernel_rfl
theorem Kg(n:Nat)(hE:aR [ri,lj n]):bu.Good (mz (n+1)):=by
 refine⟨aB pw rfl (by decide),?_⟩
 show ∀ (x:ai) (y:ai),(cd x<n+1)->bL prog rr [.val ⟨(.st .prog),x⟩, .val ⟨(.st .prog),y⟩] (·=[⟨.bool,gA x y⟩])
 intro x y hp
 refine bB (wr:=[]) (cl:=[]) (ro:=[2,3]) hE pw F4 (B2 x y) ?_
 rewrite [Kr n x y]
 have f0k:=nL x
 refine λ a0=>λ a1=>⟨λ a2=>?_,λ a2=>λ a3=>λ a4=>⟨λ a5=>?_,λ a5=>⟨λ a6=>?_,λ a6=>λ a7=>λ a8=>⟨?_,⟨λ a9=>?_,λ a9=>?_⟩⟩⟩⟩⟩
 all_goals try and_intros
 all_goals first|rfl|trivial|(simp only[a1F,a1L,aZ,ah] at *;omega)|(refine rV λ yl=>?_;subst yl;simp_all)|(refine CH ?_;cases x;cases y;simp_all)
def Ay(xs:List ai)(ys:List ai):Nat->aW:=(λ zb=>if Nat.beq zb 0 then .mk (Nat) (λ k=>k<=xs.length/\xs.length=ys.length/\xs.take k=ys.take k) (λ k=>xs.length - k) [] [2,3,6,7,8,9,10] (λ k=>[(5, .az ⟨(.int .i64),((k:Int):Int)⟩)]) [0,1,4,5,11,12,13,14,15,16,17,18,19,20,21,22,23,24,25,26] (λ k=>[]) [] [] (λ k=>λ _ => .none) else .none)
theorem IP(n:Nat)(xs:List ai)(ys:List ai):dd (bz [mz n]) (aD ju) (Ay xs ys) 0 (bO (bz [mz n]) ju λ r=>bR r [⟨.bool,gA xs ys⟩]) (aU ju [.val ⟨(.slice (.st .prog)),xs⟩, .val ⟨(.slice (.st .prog)),ys⟩]) =
 ((ah ((xs.length:Int)) ->
 (ah ((ys.length:Int)) ->
 (((!(decide (((xs.length:Int))=((ys.length:Int)))))=true ->
 false=(gA xs ys))/\((!(decide (((xs.length:Int))=((ys.length:Int)))))=false ->
 ((∃ k1:Nat,((k1<=xs.length/\xs.length=ys.length/\xs.take k1=ys.take k1)/\((xs=xs/\(ys=ys/\((0:Int)=(k1:Int)/\True)))/\True)))/\(∀ k1:Nat,((k1<=xs.length/\xs.length=ys.length/\xs.take k1=ys.take k1) ->
 (ah ((xs.length:Int)) ->
 (((decide ((k1:Int)<((xs.length:Int))))=true ->
 (aZ (k1:Int) xs.length/\(aZ (k1:Int) ys.length/\(cd (xs.getD k1 zP)<n/\(((!(gA (xs.getD k1 zP) (ys.getD k1 zP)))=true ->
 false=(gA xs ys))/\((!(gA (xs.getD k1 zP) (ys.getD k1 zP)))=false ->
 (ah ((k1:Int)+(1:Int))/\(∃ k2:Nat,((k2<=xs.length/\xs.length=ys.length/\xs.take k2=ys.take k2)/\(xs.length - k2<xs.length - k1/\((xs=xs/\(ys=ys/\(((k1:Int)+(1:Int))=(k2:Int)/\True)))/\True)))))))))))/\((decide ((k1:Int)<((xs.length:Int))))=false ->
 true=(gA xs ys)))))))))))):=by kernel_rfl
theorem IA(n:Nat)(hE:aR [mz n]):bu.Good (lj (n+1)):=by
 refine⟨aB rR rfl (by decide),?_⟩
 show ∀ (xs:List ai) (ys:List ai),(cd xs<n+1)->bL prog tH [.val ⟨(.slice (.st .prog)),xs⟩, .val ⟨(.slice (.st .prog)),ys⟩] (·=[⟨.bool,gA xs ys⟩])
 intro xs ys hp
 refine bB (wr:=[]) (cl:=[]) (ro:=[]) hE rR Et (Ay xs ys) ?_
 rewrite [IP n xs ys]
 refine λ a0=>λ a1=>⟨λ a2=>?_,λ a2=>⟨⟨0,⟨?_,⟨⟨rfl,⟨rfl,⟨?_,trivial⟩⟩⟩,trivial⟩⟩⟩,λ k1 a3=>have U6:=Ac zP xs ys k1;have U7:=rG xs ys k1;have U8:=ct zP xs k1;λ a4=>⟨λ a5=>⟨?_,⟨?_,⟨?_,⟨λ a6=>?_,λ a6=>⟨?_,⟨k1+1,⟨?_,⟨?_,⟨⟨rfl,⟨rfl,⟨?_,trivial⟩⟩⟩,trivial⟩⟩⟩⟩⟩⟩⟩⟩⟩,λ a5=>?_⟩⟩⟩
 all_goals try and_intros
 all_goals first|rfl|trivial|(simp only[a1F,a1L,a2Q,decide_not,a2k,aZ,ah] at *;first|omega|(refine rV λ yl=>?_;subst yl;simp_all;done)|(refine CH (rG _ _ _ (by omega) (by omega) (by simp_all))))|(refine rV λ yl=>?_;subst yl;simp_all;done)|(simp_all;done)|(refine Ac zP _ _ _ (by simp_all;omega) (by simp_all;omega) (by simp_all) ?_;simp_all;done)
theorem FQ :∀ n,aR [mz n,lj n]
 | 0=>⟨⟨aB pw rfl (by decide),λ _ _ h=>absurd h (a2s _)⟩,⟨aB rR rfl (by decide),λ _ _ h=>absurd h (a2s _)⟩,trivial⟩
 | n+1=>by
  have ih:=FQ  n
  exact⟨Kg n ⟨Gw,ih.2.1,trivial⟩,IA n ⟨ih.1,trivial⟩,trivial⟩
theorem Gx :bu.Good rj :=
 ⟨aB pw rfl (by decide),λ x y hp=>(FQ  (cd x+1)).1.2 x y (a2l _)⟩
end
end Go.Proofs.YtaaamahdcpcofaaDoor

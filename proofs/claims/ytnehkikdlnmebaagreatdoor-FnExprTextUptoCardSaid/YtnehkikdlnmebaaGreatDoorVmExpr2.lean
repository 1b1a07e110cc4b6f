/- VmMix, VmDraw4, VmCode, VmFun, VmOwnFun, VmStFun, VmTab, VmNew, VmUse, VmOpen, VmRow, VmLib, VmExpr, VmExpr2. -/
import Derived.Test.YtnehkikdlnmebaaGreatDoorVmFrz
import Derived.Deep.LoopGhost
import Derived.Test.YtnehkikdlnmebaaGreatDoorChecked
import Derived.WalkKit
import Derived.Test.YtnehkikdlnmebaaGreatDoorRows
import Derived.ProofKit
import Derived.OpenShut
import Derived.JoinedCond
import Derived.Carry
import Derived.ChangeSame
import Derived.Shelf.Vars
set_option linter.all false
namespace Go.Proofs.YtnehkikdlnmebaaGreatDoor
def a9I:=@List.map_congr_left
def a8v:=@List.not_mem_nil
def a9C:=@or_false
def a9k:=@forall_eq_or_imp
def a7d:=@Array.getElem?_eq_none
def a5N:=@decide_eq_false_iff_not
def a7e:=@List.mem_filterMap
def a8W:=@List.foldl_nil
def a8N:=@Nat.blt_eq
def a6J:=@true_and
def a8O:=@Array.eq_empty_of_size_eq_zero
def a9l:=@List.filter_cons
def a7s:=@List.mem_of_mem_erase
def a9D:=@List.perm_cons_erase
def a8w:=@List.Sublist.map
def a8X:=@List.erase_sublist
def a7Z:=@List.mem_erase_of_ne
def a9m:=@Option.isSome_iff_exists
def a8P:=@Bool.or_eq_false_iff
def a5Z:=@Bool.not_false
def a7E:=@Bool.true_and
def a9J:=@List.filter_sublist
def a6g:=@Bool.not_true
def a9h:=@Go.wp_mono
def a9y:=@Array.getElem?_toList
def a9S:=@Go.calls_of_wp
def a8a:=@Array.mapM_eq_mapM_toList
def a9u:=@Go.Sem.run_map
def a8x:=@Bool.and_eq_true_iff
def a9M:=@Nat.eq_zero_or_pos
def a6D:=@Nat.not_lt_zero
def a6c:=@Nat.lt_succ_self
theorem vv{α β:Type}{f g:α->β}{l:Array α}(h:∀ x∈l.toList,f x=g x):l.map f=l.map g:=by
 apply a9z
 rw[a7P,a7P]
 exact a9I h
theorem execOp_congr{o:Oper}{ρ YY:Operand->Value}{l:List Operand}(h:QG o.op=some l)(he:∀ x∈l,ρ x=YY x):execOp ρ o=execOp YY o:=by
 have parts:∀ ps:Array (Nat×Operand),l=ps.toList.map (·.2)->(ps.map λ (i,x)=>(i,ρ x))=ps.map λ (i,x)=>(i,YY x):=λ ps hl=>vv λ x hx=>by
  obtain⟨i,x⟩:=x
  simp only
  rw[he x (by rw[hl];exact a5K.2 ⟨(i,x),hx,rfl⟩)]
 unfold QG at h
 split at h
 case h_19=>cases h
 case h_18 c bw =>
  split at h
  case h_3=>cases h
  case h_1 f hc =>
   simp only[a5E] at h
   subst h
   have ha:c.args.map ρ=c.args.map YY:=vv λ x hx=>he x (by simp[hx])
   simp only[execOp,bw,resolve,hc,ha,he f (by simp)]
  case h_2 b hc =>
   simp only[a5E] at h
   subst h
   have ha:c.args.map ρ=c.args.map YY:=vv λ x hx=>he x hx
   simp only[execOp,bw,resolve,hc,ha]
 all_goals
  rename_i bw
  simp only[a5E] at h
  first
   | (have:=parts _ h.symm;simp only[execOp,bw,this];done)
   | (subst h;simp only[execOp,bw];done)
   | (subst h;simp only[execOp,bw,a8M];done)
   | (subst h;simp only[a5P,a8v,a9C,a9k,forall_eq] at he;simp only[execOp,bw,he];done)
   | (subst h;simp only[a5P,a8v,a9C,a9k,forall_eq] at he;simp only[execOp,bw,he.1,he.2];done)
   | (subst h;simp only[a5P,a8v,a9C,a9k,forall_eq] at he;simp only[execOp,bw,he.1,he.2.1,he.2.2];done)
theorem Ta{u v:TV}(h:vO u v):u=v:=by
 unfold vO at h
 split at h
 .rename_i x hx
  have:=TV.bd hx
  rw[this,h]
 .exact h.elim
theorem Kk{v u:AV}(h:Gv v u):v=u:=by
 unfold Gv at h
 split at h
 .rw[Ta h]
 .rw[Ta h]
 .rw[h]
 .rw[h]
 .rw[h.1,h.2]
 .rfl
 .exact h.elim
theorem CD{c:Ctx}{G:Gh}{lk:Nat->Option av}{a:Act}{w:World}{o:Oper}{v:AV}{x:Value}(hr:(execOp a.eval o).run c.P w = .ok (.value x) w)(hv:VR c G lk w v x) :
  ∃ x,(execOp a.eval o).run c.P w = .ok (.value x) w/\VR c G lk w v x:=⟨x,hr,hv⟩
theorem Uu{c:Ctx}{G:Gh}{sl:Nat->AV}{n:Nat}{lk:Nat->Option av}{a:Act}{w:World}(hE:bJ c.P c.E)(hI:bn c G sl n lk a w){lk':Nat->Option av}(cu:∀ id o,lk' id=some o->lk id=some o){ev:Operand->AV}(cY:∀ x,VR c G lk w (ev x) (a.eval x))
  {o:Oper} {vc:Vc} {v:AV} {ob:Option av} (hq:F0 c.E lk' ev o=some (vc,v,ob)) (eJ:vc.ok) (Qp:reads o.op=true) :
  ∃ x,(execOp a.eval o).run c.P w = .ok (.value x) w/\VR c G lk w v x:=by
 unfold F0 at hq
 split at hq
 case h_1 x bw =>
  simp only[a5E,a5H] at hq
  obtain⟨rfl,rfl,rfl⟩:=hq
  exact CD (by simp[execOp,bw]) (cY x)
 case h_8 T ad bw =>
  split at hq
  .rename_i τ r hT
   split at hq
   .rename_i u hu
    simp only[a5E,a5H] at hq
    obtain⟨rfl,rfl,rfl⟩:=hq
    obtain⟨b,o',cs,h1,h2,h3,h4⟩:=rk hI.aH cu hu (cY ad)
    refine CD ?_ h4
    simp only[execOp,bw,h1,a6d,nL hE hT h2 h3,a5S,a6e]
   .cases hq
  .cases hq
 case h_9 x bw =>
  have key:∀ u,ev x=u->(∃ b o,a.eval x = .pointer (some ⟨b,o,none⟩))->vc = .none->v=u->ob=none->∃ x,(execOp a.eval o).run c.P w = .ok (.value x) w/\VR c G lk w v x:=by
   rintro u hu ⟨b,o',hx⟩ _ rfl rfl
   refine CD (x:=a.eval x) ?_ (hu ▸ cY x)
   simp only[execOp,bw,hx,a6e]
  have hx:=cY x
  split at hq
  .rename_i u hu
   simp only[a5E,a5H] at hq
   rw[hu] at hx
   obtain⟨b,o',cs,h1,_⟩:=hx
   exact key _ hu ⟨b,o',h1⟩ hq.1.symm hq.2.1.symm hq.2.2.symm
  .rename_i id off hu
   simp only[a5E,a5H] at hq
   rw[hu] at hx
   obtain⟨b,_,h1,_⟩:=hx
   exact key _ hu ⟨b,off,h1⟩ hq.1.symm hq.2.1.symm hq.2.2.symm
  .rename_i id i off hu
   simp only[a5E,a5H] at hq
   rw[hu] at hx
   obtain⟨b,_,_,_,_,_,_,_,_,h1⟩:=hx
   exact key _ hu ⟨b,_,h1⟩ hq.1.symm hq.2.1.symm hq.2.2.symm
  .cases hq
 case h_10 T x i bw =>
  split at hq
  .rename_i s r hT
   have hx:=cY x
   split at hq
   .rename_i u hu
    rw[hu] at hx
    split at hq
    .rename_i y hy
     have e:=TV.bd hy
     subst e
     split at hq
     .rename_i f hf
      simp only[a5E,a5H] at hq
      obtain⟨rfl,rfl,rfl⟩:=hq
      obtain⟨b,o',cs,h1,h2,h3,h4⟩:=hx
      have bF:i<s.gV.length:=by
       have:=(a5W.1 hf).1
       rw[<-aR.wo s y,a6B];exact this
      refine CD (x := .pointer (some ⟨b,o'+s.fH i,none⟩)) ?_ ?_
      .simp only[execOp,bw,h1,a6d,lX hE hT bF,a5S,a6e]
      .refine⟨b,o'+s.fH i,(cs.drop (s.fH i)).take f.τ.size,rfl,h2,h3.part _ _,?_⟩
       exact BH hf h4
     .cases hq
    .cases hq
   .rename_i id off hu
    rw[hu] at hx
    split at hq
    .rename_i bF
     simp only[a5E,a5H] at hq
     obtain⟨rfl,rfl,rfl⟩:=hq
     have bF:i<s.gV.length:=by simpa [Nat.blt_eq] using bF
     obtain⟨b,h1,h2,h3⟩:=hx
     refine CD (x := .pointer (some ⟨b,off+s.fH i,none⟩)) ?_ ⟨b,h1,rfl,h3⟩
     simp only[execOp,bw,h2,a6d,lX hE hT bF,a5S,a6e]
    .cases hq
   .rename_i id k off hu
    rw[hu] at hx
    split at hq
    .rename_i bF
     simp only[a5E,a5H] at hq
     obtain⟨rfl,rfl,rfl⟩:=hq
     have bF:i<s.gV.length:=by simpa [Nat.blt_eq] using bF
     obtain⟨b,m,cap,e,τ,xs,h1,h2,h3,h4⟩:=hx
     refine CD (x := .pointer (some ⟨b,k * τ.size+(off+s.fH i),none⟩)) ?_ ⟨b,m,cap,e,τ,xs,h1,h2,h3,rfl⟩
     simp only[execOp,bw,h4,a6d,lX hE hT bF,a5S,a6e,a8z]
    .cases hq
   .cases hq
  .cases hq
 case h_12 T x ix bw =>
  split at hq
  .rename_i τ r hT
   split at hq
   .rename_i k i hi
    have tM:=cY ix
    rw[hi] at tM
    obtain⟨tM,_⟩:=tM
    simp only[a5L,a5R] at tM
    have hx:=cY x
    split at hq
    .rename_i u hu
     rw[hu] at hx
     split at hq
     .rename_i xs np
      have e:=TV.bd np
      subst e
      simp only[a5E,a5H] at hq
      obtain⟨rfl,rfl,rfl⟩:=hq
      obtain⟨h0,h1⟩:=eJ
      obtain⟨ad,cap,h2,h3,h4,h5⟩:=nN hx
      rcases h5 with h5|⟨b,o',h5,h6,h7⟩
      .subst h5
       simp only[a6a] at h1
       omega
      .subst h5
       have bF:i.toNat<xs.length:=by omega
       obtain⟨cs,m1,m2,m3⟩:=dr.at_ (n:=τ.size) _ b o' h7 (by
        intro d hd
        obtain⟨y,_,rfl⟩:=a5K.1 hd
        exact Ty.cK τ y) i.toNat (τ.aK (xs.getD i.toNat τ.zero)) (by simp[List.getD,bF])
       refine CD (x := .pointer (some ⟨b,o'+i.toNat * τ.size,none⟩)) ?_ ⟨b,_,cs,rfl, .inl h6,m3,m2⟩
       simp only[execOp,bw,h2,tM,a6d,ru hE hT h0 h1,a5S,a6e]
     .cases hq
    .rename_i id hu
     rw[hu] at hx
     split at hq
     .rename_i e' aZ xs hl
      split at hq
      .rename_i kR
       have kR:=a6f kR
       subst kR
       simp only[a5E,a5H] at hq
       obtain⟨rfl,rfl,rfl⟩:=hq
       obtain⟨h0,h1⟩:=eJ
       obtain⟨h2,_,_⟩:=hx
       have sT:=cu _ _ hl
       obtain⟨l,m1,_,_⟩:=hI.aH _ _ sT
       have bF:i.toNat<xs.length:=by omega
       rcases m1.2 with ⟨_,hn⟩|⟨g,cap,cur,hv,_⟩
       .omega
       .refine CD (x := .pointer (some ⟨g,0+i.toNat * aZ.size,none⟩)) ?_ ⟨g,_,cap,e',aZ,xs,hv,sT,bF,by simp⟩
        simp only[execOp,bw,h2,hv,tM,a6d,ru hE hT h0 h1,a5S,a6e]
      .cases hq
     .cases hq
    .cases hq
   .cases hq
  .cases hq
 case h_24=>cases hq
 all_goals
  rename_i bw
  rw[bw] at Qp
  cases Qp
theorem NQ{c:Ctx}{G:Gh}{s:af}{a:Act}{w:World}(hE:bJ c.P c.E)(h:Inv c G s a w){o:Oper}{vc:Vc}{v:AV}(hq:Wh c.E s o=some (vc,v))(eJ:vc.ok) :
  ∃ x,(execOp a.eval o).run c.P w = .ok (.value x) w/\VR c G s.ae w v x:=by
 unfold Wh at hq
 split at hq
 .rename_i hr
  split at hq
  .rename_i vc' v' Sf
   simp only[a5E,a5H] at hq
   obtain⟨rfl,rfl⟩:=hq
   exact Uu hE h (λ _ _ h=>h) (bp h) Sf eJ hr
  .cases hq
 .cases hq
theorem Kl:∀ {v u:List AV},Mc v u->v=u
 | [],[],_=>rfl
 | a::Z9,b::bs,h=>by rw[Kk h.1,Kl h.2]
 | [],_::_,h=>h.elim
 | _::_,[],h=>h.elim
theorem Tl{v u:AV}(h:PQ v u):v=u:=by
 unfold PQ at h
 split at h
 .rw[Kl h]
 .exact Kk h
structure oD(D:List Nat)(a b:Act):Prop where
 size:a.tmps.size=b.tmps.size
 da:a.defers=[]
 db:b.defers=[]
 at':∀ t,t∉D->a.tmps.getD t undef=b.tmps.getD t undef
theorem oD.put{D D':List Nat}{a b:Act}(h:oD D a b){d:Option Nat}{x:Value}(hD:∀ t,t∈D->t∉D'->d=some t):oD D' (a.put d x) (b.put d x) where
 size:=by cases d<;>simp[Act.put,h.size]
 da:=by cases d<;>exact h.da
 db:=by cases d<;>exact h.db
 at' t ht:=by
  rw[dZ,dZ,h.size]
  by_cases hd:d=some t
  .by_cases hl:t<b.tmps.size
   .rw[a5T ⟨hd,hl⟩,a5T ⟨hd,hl⟩]
   .rw[a5J (λ q=>hl q.2),a5J (λ q=>hl q.2)]
    have h1:a.tmps.getD t undef=undef:=by rw[a6s,a7d (by rw[h.size];omega)];rfl
    have h2:b.tmps.getD t undef=undef:=by rw[a6s,a7d (by omega)];rfl
    rw[h1,h2]
  .rw[a5J (λ q=>hd q.1),a5J (λ q=>hd q.1)]
   refine h.at' t λ hm=>hd (hD t hm ht)
theorem oD.exec{D:List Nat}{a b:Act}(h:oD D a b){o:Oper}(hu:gF D o=true):execOp a.eval o=execOp b.eval o:=by
 unfold gF at hu
 split at hu
 .rename_i l hl
  rw[a6i] at hu
  refine execOp_congr hl λ x hx=>?_
  have:=hu x hx
  cases x with
  | tmp t=>exact h.at' t (by simpa using this)
  | _=>rfl
 .cases hu
theorem oA{D D':List Nat}{o:Oper}(h:gF D o=true)(hs:∀ t∈D',t∈D):gF D' o=true:=by
 unfold gF at h ⊢
 split at h
 .rename_i l hl
  rw[a6i] at h ⊢
  intro x hx
  have:=h x hx
  cases x with
  | tmp t =>
   simp only[a6k,List.contains_eq_mem,a5N] at this ⊢
   exact λ q=>this (hs t q)
  | _=>rfl
 .cases h
section
variable {c:Ctx} {G:Gh} {s:af} {a:Act} {w w':World}
theorem Wv{P:Program}{o:Oper}{b:Act}{N N':Act->World->Prop}{Q:Exit->Act->World->Prop}(he:execOp a.eval o=execOp b.eval o)(hN:∀ x w',N (b.put o.dst x) w'->N' (a.put o.dst x) w')
  (hd:∀ b' w',N b' w'->b'.defers=[]) (h:o.wp P b w N (λ _ _ _=>False)):o.wp P a w N' Q:=by
 unfold Oper.wp at *
 rw[he]
 generalize (execOp b.eval o).run P w=r at *
 cases r with
 | ok n w' =>
  cases n<;>simp only[Oper.upon] at h ⊢
  case value v=>exact hN _ _ h
  case skip=>exact hN _ _ h
  case defer d =>
   have:=hd _ _ h
   cases hh:o.dst<;>simp[Act.put,hh] at this
  case enter f args=>exact Calls.mono h (λ e w'' q=>by cases e<;>first|exact hN _ _ q|exact q.elim λ _ q=>q.elim λ _ q=>q.elim|exact q.elim)
  case row r args=>exact Rows.mono h (λ _ _ q=>hN _ _ q)
 | halt x w'=>cases x<;>simp only[Oper.upon] at h ⊢
theorem exists_least{p:Nat->Prop}:∀ n,p n->∃ k,p k/\∀ j,j<k->¬ p j:=by
 intro n
 induction n using Nat.strongRecOn with
 | _ n ih =>
  intro h
  by_cases hq:∃ j,j<n/\p j
  .obtain⟨j,h1,h2⟩:=hq
   exact ih j h1 h2
  .exact⟨n,h,λ j hj hp=>hq ⟨j,hj,hp⟩⟩
theorem oD.eq{a b:Act}(h:oD [] a b):a=b:=by
 obtain⟨ta,da⟩:=a
 obtain⟨tb,db⟩:=b
 obtain⟨h1,h2,h3,h4⟩:=h
 simp only at h1 h2 h3 h4
 subst h2 h3
 congr 1
 apply Array.ext h1
 intro i hi hj
 have:=h4 i (by simp)
 simpa [Array.getD_eq_getD_getElem?,Array.getElem?_eq_getElem hi,Array.getElem?_eq_getElem hj] using this
theorem gZ{R:List (Nat×Oper)}{t:Nat}:t∈dstsOf R↔∃ r∈R,r.2.dst=some t:=by
 simp[dstsOf,a7e]
theorem Wl(h:Inv c G s a w){d:Nat}{x:Value}(hv:VR c G s.ae w (s.aw.getD d .any) x):Inv c G s (a.put (some d) x) w:=by
 have:=bn.put (d:=some d) h hv
 unfold Inv
 have e:lL s.aw.length s.sl (some d) (s.aw.getD d .any)=s.sl:=by
  funext i
  unfold lL
  split
  .rename_i hi
   obtain⟨h1,_⟩:=hi
   simp only[a5E] at h1
   subst h1
   rfl
  .rfl
 rwa [e] at this
theorem mo{E:Env}{K:Prop}:∀ {R:List (Nat×Oper)},iM E R s K->(∀ r∈R,∃ d vc,r.2.dst=some d/\Wh E s r.2=some (vc,s.aw.getD d .any)/\Vc.ok vc)/\K
 | [],h=>⟨by simp,h⟩
 | r::rs,h=>by
  simp only[iM] at h
  split at h
  .rename_i d vc v hd hr
   have h1:=Vc.lN h
   obtain⟨k1,k2⟩:=mo h1.2.2
   refine⟨λ q hq=>?_,k2⟩
   rcases a5P.1 hq with rfl|hq
   .exact⟨d,vc,hd,by rw[hr,Tl h1.2.1],h1.1⟩
   .exact k1 q hq
  .exact h.elim
theorem KE(hE:bJ c.P c.E){K:af->Prop}:∀ {R:List (Nat×Oper)} {s:af} {a:Act},Inv c G s a w->Gw c.E R K s->∃ t b,Inv c G t b w/\oD (dstsOf R) a b/\K t
 | [],s,a,hI,h=>⟨s,a,hI,⟨rfl,hI.defers,hI.defers,λ _ _=>rfl⟩,h⟩
 | r::rs,s,a,hI,h=>by
  simp only[Gw] at h
  split at h
  .rename_i d vc v hd hr
   have h1:=Vc.lN h
   obtain⟨x,_,hx⟩:=NQ hE hI hr h1.1
   obtain⟨t,b,k1,k2,k3⟩:=KE hE (Inv.put (d:=some d) hI hx) (C8 hx h1.2)
   refine⟨t,b,k1,⟨by rw[<-k2.size];simp[Act.put],hI.defers,k2.db,λ i hi=>?_⟩,k3⟩
   have dU:d≠i:=λ e=>hi (gZ.2 ⟨r,by simp,by rw[hd,e]⟩)
   rw[<-k2.at' i λ hm=>hi (by
    obtain⟨q,hq,hqd⟩:=gZ.1 hm
    exact gZ.2 ⟨q,by simp[hq],hqd⟩),dZ,if_neg (λ q=>dU (by simpa using q.1))]
  .exact h.elim
theorem QQ{E:Env}{o:Oper}{K:af->Prop}{T:TypeId}{d:Nat}{τ:Ty}{r:Nat×Nat}(bw:o.op = .alloc T)(hd:o.dst=some d)(hT:ae E.ty T=some (τ,r)) :
  mM E o K s↔(d<400000/\K (s.lay (some d) (.ptr d 0) (some (.box (zeroCells τ))))):=by
 have h1:mA E s o=[]:=by
  unfold mA
  rw[bw]
  split<;>rfl
 have h2:PU E s o=none:=by
  unfold PU
  rw[hd,bw]
  simp only
  split<;>rfl
 have h3:P2 E s o=none:=by unfold P2;rw[bw]
 have h4:QF E s o=none:=by unfold QF;rw[bw]
 obtain⟨r1,r2⟩:=r
 have h5:F0 E s.ae s.eval o=some (.none, .ptr d 0,some (.box (zeroCells τ))):=by
  unfold F0
  rw[bw]
  simp only[hd,hT]
 unfold mM
 have h6:QX E s o=none:=by unfold QX;rw[hd,bw]
 have h7:QD E s o=none:=by unfold QD;rw[bw]
 simp only[h1,a8W,h6,h2,h3,h4,h7,h5,Vc.and,bw,N5,hd,tI]
 cases hb:Nat.blt d 400000 with
 | true=>simp only[a8N] at hb;simp[hb]
 | false=>simp only[Bool.eq_false_iff,ne_eq,a8N] at hb;simp[hb]
structure PE where
 i:Nat
 d:Nat
 x:Value
 b:Nat
 cs:List AV
noncomputable instance:DecidableEq PE:=λ _ _=>Classical.propDecidable _
structure yX(c:Ctx)(G:Gh)(lk:Nat->Option av)(X:List (Nat×Oper))(a:Act)(w:World)(p:PE):Prop where
 ex:∃ o T τ r,(p.i,o)∈X/\o.op = .alloc T/\o.dst=some p.d/\ae c.E.ty T=some (τ,r)/\p.cs=zeroCells τ
 val:a.tmps.getD p.d undef=if p.d<a.tmps.size then p.x else undef
 ptr:p.x = .pointer (some ⟨p.b,0,none⟩)
 lt:p.d<400000
 new:∃ l t,w.heap[p.b]?=some (.cells l.toArray t (0,0))/\∀ (c:Ctx) (G:Gh) (lk:Nat->Option av) (w:World),aN (C1 c G lk w) p.cs l
 fr:uK c G lk w p.b
theorem yX.put{lk:Nat->Option av}{X:List (Nat×Oper)}{p:PE}(h:yX c G lk X a w p){d:Option Nat}{x:Value}(hd:d≠some p.d):yX c G lk X (a.put d x) w p :=
 ⟨h.ex,by rw[dZ,a5J (λ q=>hd q.1),iC];exact h.val,h.ptr,h.lt,h.new,h.fr⟩
theorem Th(h:Inv c G s a w){p:PE}{X:List (Nat×Oper)}{a2:Act}(hp:yX c G s.ae X a2 w p) :
  Inv c ⟨G.S,λ i=>if i=p.d then p.x else G.η i,G.φ⟩ (s.lay (some p.d) (.ptr p.d 0) (some (.box p.cs))) (a.put (some p.d) p.x) w:=by
 obtain⟨l,t,h1,h2⟩:=hp.new
 refine Inv.Va h hp.lt ⟨p.b,l,t,hp.ptr,h1,h2 _ _ _ _⟩ ⟨_,rfl,rfl⟩ λ b hb=>?_
 rw[hp.ptr] at hb
 simp only[dS,a5E] at hb
 subst hb
 obtain⟨q1,q2,q3,q4,q5⟩:=hp.fr
 exact⟨q1,q2,q3,λ i o' _ ho=>q4 i o' ho,q5⟩
theorem Tg{p:PE}{X:List (Nat×Oper)}{a2:Act}(hp:yX c G s.ae X a2 w p){b:Nat}(hb:uK c G s.ae w b)(dU:b≠p.b) :
  uK c ⟨G.S,λ i=>if i=p.d then p.x else G.η i,G.φ⟩ (s.lay (some p.d) (.ptr p.d 0) (some (.box p.cs))).ae w b:=by
 have cu:(s.lay (some p.d) (.ptr p.d 0) (some (.box p.cs))).ae=λ i=>if i=p.d then some ((av.box p.cs).kill p.d) else (if i=p.d then none else (s.bW p.d).ae i):=by
  funext i
  show ae ((p.d,(av.box p.cs).kill p.d)::bK p.d (s.bW p.d).aH) i=_
  rw[dE,eo]
  rfl
 obtain⟨q1,q2,q3,q4,q5⟩:=hb
 rw[cu]
 refine⟨q1,q2,q3,λ i o ho e=>?_,λ j τ xs hj pL=>?_⟩
 .by_cases hi:i=p.d
  .simp only[a5T hi] at e
   rw[hp.ptr] at e
   simp only[dS,a5E] at e
   exact dU e.symm
  .simp only[a5J hi] at e ho
   rw[dY] at ho
   simp only[a6r] at ho
   obtain⟨o',cM,_⟩:=ho
   exact q4 i o' cM e
 .by_cases hi:j=p.d
  .simp only[a5T hi] at hj
   cases hj
  .simp only[a5J hi] at hj
   rw[dY] at hj
   exact q5 j τ xs (ly hj) pL
theorem PZ(hE:bJ c.P c.E)(h:Inv c G s a w){a2:Act}{o:Oper}{T:TypeId}{d i:Nat}{τ:Ty}{r:Nat×Nat}(bw:o.op = .alloc T)(hd:o.dst=some d)(hT:ae c.E.ty T=some (τ,r))(Fw:d<400000){X:List (Nat×Oper)}(hX:(i,o)∈X) :
  ∃ w' p,p.i=i/\p.d=d/\p.b=w.heap.size/\(execOp a2.eval o).run c.P w = .ok (.value p.x) w'/\Inv c G s a w'/\yX c G s.ae X (a2.put (some d) p.x) w' p/\bX (λ _=>False) w w':=by
 obtain⟨r1,r2⟩:=r
 obtain⟨inf,z,h1,h2,h3,h4⟩:=(hE.info hT).ex
 refine⟨w.alloc (.cells z.cells T),⟨i,d, .pointer (some ⟨w.heap.size,0,none⟩),w.heap.size,zeroCells τ⟩,rfl,rfl,rfl,?_,h.alloc _,?_,fZ w _⟩
 .simp[execOp,bw,Instr.alloc,zeroValue,typeInfo,h1,h3,newVar,newRow]
 .refine⟨⟨o,T,τ,_,hX,bw,hd,hT,rfl⟩,?_,rfl,Fw,⟨z.cells.toList,T,by simpa using heap_alloc_new w _,λ _ _ _ _=>mq h4⟩,?_⟩
  .simp only[dZ,iC,a6J]
   split
   .rfl
   .rename_i bF
    first|rfl|(rw[a6s,a7d (by omega)];rfl)
  .refine⟨.inl h.aM.size,λ q=>by have:=h.dX _ q;simp only at this;omega,by simp,λ j o' hj hb=>by have:=(h.place j o' _ hj hb).2.2;simp only at this;omega,λ j τ xs hj hb=>by have:=(h.aT.pl j τ xs _ hj hb).2.2.1;simp only at this;omega⟩
theorem AR{op:Op}(h:reads op=true):dG op=false:=by
 cases op<;>first|rfl|cases h
theorem Er(bT:List Nat)(x:Nat×Oper):∀ l,(HA bT x l).Perm (x::l)
 | [] => .refl _
 | y::ys=>by
  unfold HA
  split
  .exact .refl _
  .exact ((Er bT x ys).cons y).trans (.swap x y ys)
theorem lJ(bT:List Nat):∀ l,(FH bT l).Perm l
 | [] => .refl _
 | x::xs=>by
  unfold FH
  split
  .exact (Er bT x _).trans ((lJ bT xs).cons x)
  .exact (lJ bT xs).cons x
structure XE where
 i:Nat
 d:Nat
 x:Value
 o:Oper
noncomputable instance:DecidableEq XE:=λ _ _=>Classical.propDecidable _
structure Vy(P:Program)(X:List (Nat×Oper))(a:Act)(e:XE):Prop where
 mem:(e.i,e.o)∈X
 dst:e.o.dst=some e.d
 val:a.tmps.getD e.d undef=if e.d<a.tmps.size then e.x else undef
 run:(lP e.o.op=true/\∀ w,(execOp a.eval e.o).run P w = .ok (.value e.x) w)\/(wD e.o.op=true/\∃ p,e.x = .slice p 0 0)
theorem Vy.lz{P:Program}{X:List (Nat×Oper)}{a:Act}{e:XE}(h:Vy P X a e):dG e.o.op=true:=by
 rcases h.run with ⟨q,_⟩|⟨q,_⟩<;>simp[dG,q]
theorem HG{op:Op}(h:wD op=true):∃ T,op = .buildSlice T 0 #[]:=by
 unfold wD at h
 split at h
 .rename_i T len ps
  simp only[a5I] at h
  have h1:=a5F h.1
  have h2:ps = #[]:=a8O (a5F h.2)
  exact⟨T,by rw[h1,h2]⟩
 .cases h
theorem UD{o:Oper}(h:wD o.op=true)(D:List Nat):gF D o=true:=by
 obtain⟨T,h⟩:=HG h
 simp[gF,QG,h]
theorem Vy.put{P:Program}{X:List (Nat×Oper)}{e:XE}(h:Vy P X a e)(Zw:a.defers=[]){d:Option Nat}{x:Value}(hd:d≠some e.d)(hu:∀ t,d=some t->gF [t] e.o=true):Vy P X (a.put d x) e :=
 ⟨h.mem,h.dst,by rw[dZ,a5J (λ q=>hd q.1),iC];exact h.val,h.run.imp (λ hr=>⟨hr.1,λ w=>by
  cases d with
  | none=>exact hr.2 w
  | some t =>
   have hA:oD [t] (a.put (some t) x) a:=⟨iC a _ x,by rw[lG];exact Zw,Zw,λ u hu=>by rw[dZ,if_neg (λ q=>hu (by simpa using q.1.symm))]⟩
   rw[hA.exec (hu t rfl)]
   exact hr.2 w⟩) id⟩
theorem P3(h:Inv c G s a w){o:Oper}{t:Operand}{i:Nat}(bw:o.op = .extract t i)(hc:wm s o.op=true):∃ x,∀ w',(execOp a.eval o).run c.P w' = .ok (.value x) w':=by
 rw[bw] at hc
 simp only[wm] at hc
 split at hc
 .rename_i vs hv
  have hx:=bp h t
  rw[hv] at hx
  obtain⟨l,h1,h2⟩:=hx
  have bF:i<l.length:=by rw[<-h2.length];exact a6H hc
  refine⟨l[i],λ w'=>?_⟩
  have h3:l[i]?=some l[i]:=a5V bF
  simp[execOp,bw,Instr.extract,h1,h3]
 .cases hc
theorem NT{E:Env}{o:Oper}{K:af->Prop}{t:Operand}{i d:Nat}(bw:o.op = .extract t i)(hd:o.dst=some d)(hr:mM E o K s) :
  ∃ vs v,s.eval t = .j8 vs/\vs[i]?=some v/\known v (K (s.put (some d) v)):=by
 have h1:mA E s o=[]:=by
  unfold mA
  rw[bw]
  split<;>rfl
 have h2:PU E s o=none:=by
  unfold PU
  rw[hd,bw]
  simp only
  split<;>rfl
 have h3:P2 E s o=none:=by unfold P2;rw[bw]
 have h4:QF E s o=none:=by unfold QF;rw[bw]
 have h6:QX E s o=none:=by unfold QX;rw[hd,bw]
 have h7:QD E s o=none:=by unfold QD;rw[bw]
 unfold mM at hr
 split at hr
 .exact hr.elim
 simp only[h1,a8W,h6,h2,h3,h4,h7] at hr
 split at hr
 .rename_i vc v ob hq
  unfold F0 at hq
  rw[bw] at hq
  simp only at hq
  split at hq
  .rename_i vs hv
   split at hq
   .rename_i u hu
    simp only[a5E,a5H] at hq
    obtain⟨rfl,rfl,rfl⟩:=hq
    refine⟨vs,u,hv,hu,?_⟩
    simpa [Vc.and,bw,N5,hd,af.lay] using hr
   .cases hq
  .cases hq
 .exact hr.elim
theorem P4(h:Inv c G s a w){o:Oper}{t:Operand}{i:Nat}(bw:o.op = .extract t i){vs:List AV}{v:AV}(h1:s.eval t = .j8 vs)(h2:vs[i]?=some v){x:Value}(hx:(execOp a.eval o).run c.P w = .ok (.value x) w):VR c G s.ae w v x:=by
 have hv:=bp h t
 rw[h1] at hv
 obtain⟨l,k1,k2⟩:=hv
 obtain⟨y,k3,k4⟩:=k2.at_ i v h2
 have:(execOp a.eval o).run c.P w = .ok (.value y) w:=by simp[execOp,bw,Instr.extract,k1,k3]
 rw[this] at hx
 simp only[Result.ok.injEq,Next.value.injEq,a5R] at hx
 subst hx
 cases v<;>first|exact k4|exact k4.elim|trivial
theorem SP{E:Env}{o:Oper}{K:af->Prop}{d:Nat}(hn:wD o.op=true)(ha:qv E o=true)(hd:o.dst=some d)(hr:mM E o K s) :
  ∃ τ,K (s.put (some d) (.aS ⟨.slice τ,[]⟩)):=by
 obtain⟨T,bw⟩:=HG hn
 unfold qv at ha
 simp only[bw,hd] at ha
 split at ha
 .rename_i d' τ r Hp hT
  simp only[a5E] at Hp
  subst Hp
  have ha:Nat.blt d 400000=true/\E.ro.contains d=true/\E.own.contains d=false:=by
   have ha:(Nat.blt d 400000&&(E.ro.contains d && !E.own.contains d))=true:=ha
   simp only[a5I,a6k] at ha
   exact⟨ha.1,ha.2.1,ha.2.2⟩
  obtain⟨h4,ZL,eM⟩:=ha
  have h1:mA E s o=[]:=by
   unfold mA
   simp only[hd,eM,bw]
   simp
  have h2:PU E s o=none:=by
   unfold PU
   simp only[hd,eM]
  have h3:P2 E s o=none:=by unfold P2;rw[bw]
  have h4':QF E s o=none:=by unfold QF;rw[bw]
  have h6:QX E s o=none:=by unfold QX;rw[hd,bw]
  have h7:QD E s o=none:=by unfold QD;rw[bw]
  obtain⟨r1,r2⟩:=r
  have h8:F0 E s.ae s.eval o=some (.none, .aS ⟨.slice τ,[]⟩,none):=by
   unfold F0
   rw[bw]
   simp only[hd,hT,ZL]
   rfl
  unfold mM at hr
  simp only[h1,a8W,h6,h2,h3,h4',h7,h8,Vc.and,bw,N5,hd,tI,h4] at hr
  exact⟨τ,hr⟩
 .simp at ha
theorem RL(hE:bJ c.P c.E)(h:Inv c G s a w){a2:Act}{o:Oper}{d:Nat}(hn:wD o.op=true)(ha:qv c.E o=true)(hd:o.dst=some d) :
  ∃ w' x,(execOp a2.eval o).run c.P w = .ok (.value x) w'/\Inv c G s a w'/\(∃ p,x = .slice p 0 0)/\bX (λ _=>False) w w':=by
 obtain⟨T,bw⟩:=HG hn
 unfold qv at ha
 simp only[bw,hd] at ha
 split at ha
 .rename_i d' τ r Hp hT
  obtain⟨r1,r2⟩:=r
  obtain⟨k1,_,inf,z,k2,k3,k4,k5,k6⟩:=hE.slice hT
  refine⟨w.alloc (.cells #[] r2), .slice (some ⟨w.heap.size,0,none⟩) 0 0,?_,h.alloc _,⟨_,rfl⟩,fZ w _⟩
  have hz:(Array.range 0).map (λ _=>(default:Value)) = #[]:=by apply a8O;simp
  simp[execOp,bw,Instr.buildSlice,a6x k1,sizeOf,typeInfo,k2,Instr.fill,newRow,hz]
 .simp at ha
theorem nA{X:List (Nat×Oper)}{x:Nat×Oper}{t:Nat}(hx:x∈X)(ha:dG x.2.op=true)(hd:x.2.dst=some t):t∈sF X :=
 a7e.2 ⟨x,hx,by simp[ha,hd]⟩
theorem Pj{E:Env}{bT:List Nat}{n:Nat}{R:List (Nat×Oper)}{K:af->Prop}{s:af}:jA E bT n R [] K s=K s:=by cases n<;>rfl
theorem FM{E:Env}{bT:List Nat}{n:Nat}{R:List (Nat×Oper)}{x:Nat×Oper}{xs:List (Nat×Oper)}{K:af->Prop}{s:af}(h:jA E bT n R (x::xs) K s) :
  ∃ m,QB bT (x::xs) s=true/\(((gF (dstsOf (R.filter λ r => !Nat.testBit (bT.getD x.1 0) r.1)++sF xs) x.2&&xs.all λ y=>dG y.2.op||Nat.testBit (bT.getD y.1 0) x.1)=true /\
    mM E x.2 (λ s'=>iM E (R.filter λ r => !Nat.testBit (bT.getD x.1 0) r.1) s' (jA E bT m (R.filter λ r => !Nat.testBit (bT.getD x.1 0) r.1) xs K s')) s) \/
   (dG x.2.op=false/\xX (Mm bT (x::xs)) (λ y=>match gF (dstsOf (R.filter λ r => !Nat.testBit (bT.getD y.1 0) r.1)++sF ((x::xs).filter λ z => !Nat.beq z.1 y.1)) y.2 with
      | true=>mM E y.2 (λ s'=>iM E (R.filter λ r => !Nat.testBit (bT.getD y.1 0) r.1) s' (jA E bT m (R.filter λ r => !Nat.testBit (bT.getD y.1 0) r.1) ((x::xs).filter λ z => !Nat.beq z.1 y.1) K s')) s
      | false=>False) (x::xs))):=by
 cases n with
 | zero=>exact h.elim
 | succ n =>
  simp only[jA] at h
  refine⟨n,?_⟩
  split at h
  .rename_i h1
   refine⟨h1,?_⟩
   split at h
   .rename_i h2
    exact .inl ⟨h2,h⟩
   .split at h
    .exact h.elim
    .rename_i h3
     exact .inr ⟨h3,h⟩
  .exact h.elim
theorem Nu{E:Env}{bT:List Nat}{n:Nat}{R:List (Nat×Oper)}{x:Nat×Oper}{xs:List (Nat×Oper)}{K:af->Prop}{s:af}(hz:dG x.2.op=true)(h:jA E bT n R (x::xs) K s) :
  ∃ m,mM E x.2 (λ s'=>iM E (R.filter λ r => !Nat.testBit (bT.getD x.1 0) r.1) s' (jA E bT m (R.filter λ r => !Nat.testBit (bT.getD x.1 0) r.1) xs K s')) s:=by
 obtain⟨m,_,h|h⟩:=FM h
 .exact⟨m,h.2⟩
 .rw[hz] at h;cases h.1
theorem zl{p:Nat×Oper->Bool}{f:Nat×Oper->Prop}:∀ {l:List (Nat×Oper)},xX p f l->∀ y∈l,p y=true->f y
 | [],_,y,hy,_=>by cases hy
 | x::l,h,y,hy,hp=>by
  unfold xX at h
  split at h
  .rcases a5P.1 hy with rfl|hy
   .exact h.1
   .exact zl h.2 y hy hp
  .rename_i h0
   rcases a5P.1 hy with rfl|hy
   .rw[hp] at h0;cases h0
   .exact zl h y hy hp
theorem Vb{a b:Nat}:Nat.beq a b=false↔a≠b:=by
 constructor
 .intro h e
  subst e
  rw[a9j] at h
  cases h
 .intro h
  cases hb:Nat.beq a b
  .rfl
  .exact absurd (a5F hb) h
theorem MF{x:Nat×Oper}{xs:List (Nat×Oper)}(h:x.1∉xs.map (·.1)):((x::xs).filter λ z => !Nat.beq z.1 x.1)=xs:=by
 rw[a9l,a5J (by simp)]
 refine List.filter_eq_self.2 λ z hz=>?_
 have:z.1≠x.1:=λ e=>h (a5K.2 ⟨z,hz,e⟩)
 rw[Vb.2 this];rfl
theorem O2{i:Nat}{o:Oper}:∀ {X:List (Nat×Oper)},(i,o)∈X->(X.map (·.1)).Nodup->(X.filter λ z => !Nat.beq z.1 i).length+1=X.length
 | [],h,_=>by cases h
 | x::xs,h,hn=>by
  simp only[a6n,a6m] at hn
  rcases a5P.1 h with e|h
  .subst e
   rw[MF (x:=(i,o)) hn.1];rfl
  .have dU:x.1≠i:=λ e=>hn.1 (a5K.2 ⟨_,h,e.symm⟩)
   rw[a9l,a5T (by rw[Vb.2 dU];rfl),a5O,a5O,O2 h hn.2]
theorem Uj{E:Env}{bT:List Nat}{n:Nat}{R X:List (Nat×Oper)}{y:Nat×Oper}{K:af->Prop}{s:af}(h:jA E bT n R X K s)(hy:y∈X)(dC:(X.map (·.1)).Nodup)(hc:Mm bT X y=true)
  (hh:∀ x xs,X=x::xs->dG x.2.op=true->Nat.testBit (bT.getD y.1 0) x.1=false) :
  ∃ m,gF (dstsOf (R.filter λ r => !Nat.testBit (bT.getD y.1 0) r.1)++sF (X.filter λ z => !Nat.beq z.1 y.1)) y.2=true /\
   mM E y.2 (λ s'=>iM E (R.filter λ r => !Nat.testBit (bT.getD y.1 0) r.1) s' (jA E bT m (R.filter λ r => !Nat.testBit (bT.getD y.1 0) r.1) (X.filter λ z => !Nat.beq z.1 y.1) K s')) s:=by
 match X,hy,dC,hc,hh,h with
 | x::xs,hy,dC,hc,hh,h =>
  obtain⟨m,_,h|h⟩:=FM h
  .obtain⟨h1,h2⟩:=h
   simp only[a5I,a6i,a7x] at h1
   have e:y=x:=by
    rcases a5P.1 hy with e|hy
    .exact e
    .simp only[Mm,a5I,a6k,a6i,a7x] at hc
     rcases h1.2 y hy with q|q
     .rw[hc.1] at q;cases q
     .rcases hc.2 x (by simp) with k|k
      .rw[hh x xs rfl k] at q;cases q
      .rw[k] at q;cases q
   subst e
   simp only[a6n,a6m] at dC
   rw[MF dC.1]
   exact⟨m,h1.1,h2⟩
  .have:=zl h.2 y hy hc
   split at this
   .rename_i hu
    exact⟨m,hu,this⟩
   .exact this.elim
theorem Sy(
          hE:bJ c.P c.E) {ops:Array Oper} {hi:Nat} {Seg:List (Nat×Oper)} (dL:backward ops.toList=true) (hhi:hi<=ops.size)
  (qB:∀ j o,hi<=j->ops.toList[j]?=some o->∀ k,k<hi->Nat.testBit ((bN ops.toList []).getD j 0) k=true)
  (ZB:∀ x∈Seg,x.2.guard=none) (LL:∀ x∈Seg,qv c.E x.2=true) (Xt:∀ x∈Seg,lP x.2.op=true->gF (dstsOf (Seg.filter λ y => !Nat.testBit ((bN ops.toList []).getD x.1 0) y.1)++sF Seg) x.2=true) (Xq:∀ x∈Seg,∀ y∈Seg,∀ t,x.2.dst=some t->y.2.dst=some t->x.1=y.1) {K:af->Prop} {Q':Exit->Act->World->Prop}
  (MX:∀ (fuel:Nat) (G:Gh) (s:af) (a:Act) (w:World) (listed:Array Bool),ops.size=hi+fuel->listed.size=ops.size->(∀ k,k<ops.size->(listed.getD k false=true↔k<hi))->Inv c G s a w->K s->wpAny c.P .any ops Q' fuel listed a w) :
  ∀ (N fuel:Nat) (Rc X:List (Nat×Oper)) (R:List Nat) (PL:List PE) (SL:List XE) (G:Gh) (t:af) (a b:Act) (w:World) (listed:Array Bool),fuel+X.length<=N->fuel+PL.length+SL.length=R.length+X.length+(ops.size - hi)->listed.size=ops.size ->
   (∀ i∈R,i<hi/\∃ o,ops.toList[i]?=some o/\(i,o)∈Rc/\(i,o)∈Seg/\oz (bN ops.toList []) Seg (i,o)=true/\gF (dstsOf (Seg.filter λ y => !Nat.testBit ((bN ops.toList []).getD i 0) y.1)) o=true)->(∀ x∈X,x.1<hi/\ops.toList[x.1]?=some x.2/\x∈Seg)->R.Nodup->(X.map (·.1)).Nodup->(∀ i∈R,∀ x∈X,i≠x.1) ->
   (PL.map PE.i++SL.map XE.i).Nodup->(PL.map PE.b).Nodup->(∀ p∈PL,yX c G t.ae X a w p)->(∀ e∈SL,Vy c.P X a e) ->
   (∀ k,k<ops.size->(listed.getD k false=true↔k<hi/\k∉R/\((∀ x∈X,x.1≠k)\/k∈PL.map PE.i++SL.map XE.i)))->(∀ k,k<ops.size->listed.getD k false=true->∀ o,ops.toList[k]?=some o->∀ e∈o.after.toList,Region.binds .any e=true->listed.getD e.on false=true) ->
   Inv c G t b w->oD (R.filterMap (cj ops.toList)++(PL.map PE.d++SL.map XE.d)) a b->(∀ i∈R,∀ o,ops.toList[i]?=some o->∃ d vc,o.dst=some d/\Wh c.E t o=some (vc,t.aw.getD d .any)/\Vc.ok vc) ->
   ∀ n,jA c.E (bN ops.toList []) n Rc X K t->wpAny c.P .any ops Q' fuel listed a w:=by
 intro N
 induction N with
 | zero =>
  intro fuel Rc X R PL SL G t a b w listed hN hf cz hR hX I9 Hl Hi K4 P9 oh oK hl BV hI hA hs nn hK
  have h2:X=[]:=a6I (by omega)
  subst h2
  have h3:PL=[]:=by
   cases PL with
   | nil=>rfl
   | cons p PL=>obtain⟨o,T,τ,r,hm,_⟩:=(oh p (by simp)).ex;cases hm
  subst h3
  have h4:SL=[]:=by
   cases SL with
   | nil=>rfl
   | cons p SL=>have hm:=(oK p (by simp)).mem;cases hm
  subst h4
  have h1:R=[]:=a6I (by simp at hf;omega)
  subst h1
  have RZ:a=b:=oD.eq (by simpa using hA)
  subst RZ
  exact MX fuel G t a w listed (by simp at hf;omega) cz (λ k hk=>by rw[hl k hk];simp) hI (by rw[Pj] at hK;exact hK)
 | succ N ih =>
  intro fuel Rc X R PL SL G t a b w listed hN hf cz hR hX I9 Hl Hi K4 P9 oh oK hl BV hI hA hs nn hK
  by_cases Fy:R=[]/\X=[]
  .obtain⟨rfl,rfl⟩:=Fy
   have h3:PL=[]:=by
    cases PL with
    | nil=>rfl
    | cons p PL=>obtain⟨o,T,τ,r,hm,_⟩:=(oh p (by simp)).ex;cases hm
   subst h3
   have h4:SL=[]:=by
    cases SL with
    | nil=>rfl
    | cons p SL=>have hm:=(oK p (by simp)).mem;cases hm
   subst h4
   have RZ:a=b:=oD.eq (by simpa using hA)
   subst RZ
   exact MX fuel G t a w listed (by simp at hf;omega) cz (λ k hk=>by rw[hl k hk];simp) hI (by rw[Pj] at hK;exact hK)
  have TQ:∀ i o,i<ops.size->ops.toList[i]?=some o->listed.getD i false=true->∀ k,Nat.testBit ((bN ops.toList []).getD i 0) k=true->listed.getD k false=true/\k<ops.size:=λ i o hi ho hli k hk =>
   Bw (l:=ops.toList) (D:=λ k=>listed.getD k false=true/\k<ops.size) (λ k hk o' cM e he hb=>⟨BV k hk.2 hk.1 o' cM e he hb,by
    have:=bR dL k o' cM e he hb;have:=hk.2;omega⟩) i o ho (λ e he hb=>⟨BV i hi hli o ho e he hb,by
    have:=bR dL i o ho e he hb;omega⟩) k hk
  by_cases LK:∃ x0 xs p,X=x0::xs/\p∈PL/\p.i=x0.1
  .obtain⟨x0,xs,p,rfl,hp,VX⟩:=LK
   obtain⟨o,T,τ,r,hm,bw,FD,hT,mD⟩:=(oh p hp).ex
   have V1:x0=(p.i,o):=by
    have h1:=(hX x0 (by simp)).2.1
    have h2:=(hX _ hm).2.1
    rw[<-VX,h2] at h1
    simp only[a5E] at h1
    rw[h1,VX]
   subst V1
   obtain⟨mm,hK⟩:=Nu (by simp[dG,oV,bw]) hK
   rw[QQ bw FD hT,<-mD] at hK
   obtain⟨k1,k2⟩:=mo hK.2
   have MO:=hX _ hm
   have Xy:listed.getD p.i false=true:=(hl p.i (by have:=MO.1;simp only at this;omega)).2 ⟨MO.1,λ q=>Hi _ q _ hm rfl, .inr (a5G.2 (.inl (a5K.2 ⟨p,hp,rfl⟩)))⟩
   have iX:∀ j∈R,∃ o',ops.toList[j]?=some o'/\(j,o')∈Rc.filter λ r => !Nat.testBit ((bN ops.toList []).getD p.i 0) r.1:=λ j hj=>by
    obtain⟨q1,o',q2,q3,_,_⟩:=hR j hj
    refine⟨o',q2,a6U.2 ⟨q3,?_⟩⟩
    simp only[a6k]
    cases hb:Nat.testBit ((bN ops.toList []).getD p.i 0) j with
    | false=>rfl
    | true=>exact absurd hj ((hl j (by omega)).1 (TQ p.i o (by have:=MO.1;simp only at this;omega) MO.2.1 Xy j hb).1).2.1
   have XC:∀ q∈PL.erase p,q∈PL/\q.i≠p.i/\q.b≠p.b:=λ q hq=>by
    have U5:=a7s hq
    have Je:=a9D hp
    have n1:=(Je.map PE.i).nodup_iff.1 (a5Y.1 K4).1
    have n2:=(Je.map PE.b).nodup_iff.1 P9
    simp only[a6n,a6m] at n1 n2
    exact⟨U5,λ e=>n1.1 (a5K.2 ⟨q,hq,e⟩),λ e=>n2.1 (a5K.2 ⟨q,hq,e⟩)⟩
   have a2j:(PL.erase p).length+1=PL.length:=by
    have:=a7I hp
    have:=a7S hp
    omega
   simp only[a6n,a6m] at Hl
   refine ih fuel _ xs R (PL.erase p) SL _ _ a (b.put (some p.d) p.x) w listed (by simp at hN;omega) (by simp at hf;omega) cz (λ j hj=>?_) (λ y hy=>hX y (by simp[hy])) I9 Hl.2 (λ j hj y hy=>Hi j hj y (by simp[hy])) ?_ ?_ (λ q hq=>?_) (λ e he=>?_) (λ k hk=>?_) BV (Th hI (oh p hp)) ?_ (λ j hj o' cM=>?_) _ k2
   .obtain⟨q1,o',q2,q3,q4,q7⟩:=hR j hj
    obtain⟨o2,q5,q6⟩:=iX j hj
    have e:o'=o2:=by rw[q2] at q5;simpa using q5
    subst e
    exact⟨q1,o',q2,q6,q4,q7⟩
   .exact K4.sublist ((a8w _ a8X).append (List.Sublist.refl _))
   .exact P9.sublist (a8w _ a8X)
   .obtain⟨DS,vh,hq3⟩:=XC q hq
    obtain⟨o2,T2,mr,r2,m1,m2,m3,m4,m5⟩:=(oh q DS).ex
    refine⟨⟨o2,T2,mr,r2,?_,m2,m3,m4,m5⟩,(oh q DS).val,(oh q DS).ptr,(oh q DS).lt,(oh q DS).new,Tg (oh p hp) (oh q DS).fr hq3⟩
    rcases a5P.1 m1 with e|m1
    .simp only[a5H] at e;exact absurd e.1 vh
    .exact m1
   .have h3:=oK e he
    refine⟨?_,h3.dst,h3.val,h3.run⟩
    rcases a5P.1 h3.mem with q|q
    .simp only[a5H] at q
     rcases h3.run with ⟨q',_⟩|⟨q',_⟩<;>(rw[q.2,bw] at q';cases q')
    .exact q
   .rw[hl k hk]
    constructor
    .rintro⟨q1,q2,q3⟩
     refine⟨q1,q2,?_⟩
     by_cases mY:k=p.i
     .subst mY
      exact .inl λ y hy e=>Hl.1 (a5K.2 ⟨y,hy,e⟩)
     .rcases q3 with q3|q3
      .exact .inl λ y hy=>q3 y (by simp[hy])
      .rcases a5G.1 q3 with q3|q3
       .obtain⟨q,hq,rfl⟩:=a5K.1 q3
        exact .inr (a5G.2 (.inl (a5K.2 ⟨q,(a7Z (λ e=>mY (by rw[e]))).2 hq,rfl⟩)))
       .exact .inr (a5G.2 (.inr q3))
    .rintro⟨q1,q2,q3⟩
     refine⟨q1,q2,?_⟩
     by_cases mY:k=p.i
     .subst mY
      exact .inr (a5G.2 (.inl (a5K.2 ⟨p,hp,rfl⟩)))
     .rcases q3 with q3|q3
      .refine .inl λ y hy=>?_
       rcases a5P.1 hy with rfl|hy
       .exact λ e=>mY e.symm
       .exact q3 y hy
      .rcases a5G.1 q3 with q3|q3
       .obtain⟨q,hq,rfl⟩:=a5K.1 q3
        exact .inr (a5G.2 (.inl (a5K.2 ⟨q,a7s hq,rfl⟩)))
       .exact .inr (a5G.2 (.inr q3))
   .refine⟨by rw[iC];exact hA.size,hA.da,by rw[lG];exact hA.db,λ u hu=>?_⟩
    by_cases T9:u=p.d
    .subst T9
     rw[(oh p hp).val,dZ,<-hA.size]
     by_cases bF:p.d<a.tmps.size
     .rw[a5T bF,a5T ⟨rfl,bF⟩]
     .rw[a5J bF,a5J (λ q=>bF q.2),a6s,a7d (by rw[<-hA.size];omega)];rfl
    .rw[dZ,if_neg (λ q=>T9 (by simpa using q.1.symm))]
     refine hA.at' u λ hm=>hu ?_
     rcases a5G.1 hm with hm|hm
     .exact a5G.2 (.inl hm)
     .rcases a5G.1 hm with hm|hm
      .obtain⟨q,hq,rfl⟩:=a5K.1 hm
       exact a5G.2 (.inr (a5G.2 (.inl (a5K.2 ⟨q,(a7Z (λ e=>T9 (by rw[e]))).2 hq,rfl⟩))))
      .exact a5G.2 (.inr (a5G.2 (.inr hm)))
   .obtain⟨o2,q5,q6⟩:=iX j hj
    rw[q5] at cM
    simp only[a5E] at cM
    subst cM
    exact k1 (j,o2) q6
  by_cases Hm:∃ x0 xs e,X=x0::xs/\e∈SL/\e.i=x0.1
  .obtain⟨x0,xs,e,rfl,he,hei⟩:=Hm
   have P8:=oK e he
   have V1:x0=(e.i,e.o):=by
    have h1:=(hX x0 (by simp)).2.1
    have h2:=(hX _ P8.mem).2.1
    rw[<-hei,h2] at h1
    simp only[a5E] at h1
    rw[h1,hei]
   subst V1
   obtain⟨mm,hK⟩:=Nu P8.lz hK
   have MO:=hX _ P8.mem
   have Xy:listed.getD e.i false=true:=(hl e.i (by have:=MO.1;simp only at this;omega)).2 ⟨MO.1,λ q=>Hi _ q _ P8.mem rfl, .inr (a5G.2 (.inr (a5K.2 ⟨e,he,rfl⟩)))⟩
   have Xl:=TQ e.i e.o (by have:=MO.1;simp only at this;omega) MO.2.1 Xy
   have iX:∀ j∈R,∃ o',ops.toList[j]?=some o'/\(j,o')∈Rc.filter λ r => !Nat.testBit ((bN ops.toList []).getD e.i 0) r.1:=λ j hj=>by
    obtain⟨q1,o',q2,q3,_,_⟩:=hR j hj
    refine⟨o',q2,a6U.2 ⟨q3,?_⟩⟩
    simp only[a6k]
    cases hb:Nat.testBit ((bN ops.toList []).getD e.i 0) j with
    | false=>rfl
    | true=>exact absurd hj ((hl j (by omega)).1 (Xl j hb).1).2.1
   have hDu:∀ u,u∈R.filterMap (cj ops.toList)++(PL.map PE.d++SL.map XE.d)->u∈dstsOf (Seg.filter λ y => !Nat.testBit ((bN ops.toList []).getD e.i 0) y.1)++sF Seg:=λ u hu=>by
    rcases a5G.1 hu with hu|hu
    .obtain⟨j,hj,A5⟩:=a7e.1 hu
     obtain⟨q1,o',q2,_,q3,_⟩:=hR j hj
     refine List.mem_append.2 (.inl (gZ.2 ⟨(j,o'),List.mem_filter.2 ⟨q3,?_⟩,by simpa [cj,q2] using A5⟩))
     simp only[a6k]
     cases hb:Nat.testBit ((bN ops.toList []).getD e.i 0) j with
     | false=>rfl
     | true=>exact absurd hj ((hl j (by omega)).1 (Xl j hb).1).2.1
    .rcases a5G.1 hu with hu|hu
     .obtain⟨p,hp,rfl⟩:=a5K.1 hu
      obtain⟨o2,T,τ,r,hm,M0,FD,_⟩:=(oh p hp).ex
      exact a5G.2 (.inr (nA (hX _ hm).2.2 (by simp[dG,oV,M0]) FD))
     .obtain⟨q,hq,rfl⟩:=a5K.1 hu
      exact a5G.2 (.inr (nA (hX _ (oK q hq).mem).2.2 (oK q hq).lz (oK q hq).dst))
   obtain⟨v,M9,hK⟩:∃ v,VR c G t.ae w v e.x/\iM c.E (Rc.filter λ r => !Nat.testBit ((bN ops.toList []).getD e.i 0) r.1) (t.put (some e.d) v) (jA c.E (bN ops.toList []) mm (Rc.filter λ r => !Nat.testBit ((bN ops.toList []).getD e.i 0) r.1) xs K (t.put (some e.d) v)):=by
    rcases P8.run with ⟨hx,hr⟩|⟨hx,p,hp⟩
    .obtain⟨tt,ix,bw⟩:∃ tt ix,e.o.op = .extract tt ix:=by
      have:=hx
      unfold lP at this
      split at this
      .exact⟨_,_,by assumption⟩
      .cases this
     obtain⟨vs,v,hv1,hv2,hK⟩:=NT bw P8.dst hK
     have cS:=hr w
     rw[hA.exec (oA (Xt _ MO.2.2 hx) hDu)] at cS
     have M9:=P4 hI bw hv1 hv2 cS
     exact⟨v,M9,C8 M9 hK⟩
    .obtain⟨τ,hK⟩:=SP hx (LL _ MO.2.2) P8.dst hK
     refine⟨_,?_,hK⟩
     rw[hp]
     exact⟨p,0,rfl,a6b _,by simp[maxLen],by simp, .inl rfl⟩
   obtain⟨k1,k2⟩:=mo hK
   have XC:∀ q∈SL.erase e,q∈SL/\q.i≠e.i:=λ q hq=>by
    have U5:=a7s hq
    have Je:=a9D he
    have n1:=(Je.map XE.i).nodup_iff.1 (a5Y.1 K4).2.1
    simp only[a6n,a6m] at n1
    exact⟨U5,λ q'=>n1.1 (a5K.2 ⟨q,hq,q'⟩)⟩
   have a2j:(SL.erase e).length+1=SL.length:=by
    have:=a7I he
    have:=a7S he
    omega
   simp only[a6n,a6m] at Hl
   refine ih fuel _ xs R PL (SL.erase e) _ _ a (b.put (some e.d) e.x) w listed (by simp at hN;omega) (by simp at hf;omega) cz (λ j hj=>?_) (λ y hy=>hX y (by simp[hy])) I9 Hl.2 (λ j hj y hy=>Hi j hj y (by simp[hy])) ?_ P9 (λ q hq=>?_) (λ q hq=>?_) (λ k hk=>?_) BV (Inv.put (d:=some e.d) hI M9) ?_ (λ j hj o' cM=>?_) _ k2
   .obtain⟨q1,o',q2,q3,q4,q7⟩:=hR j hj
    obtain⟨o2,q5,q6⟩:=iX j hj
    have e:o'=o2:=by rw[q2] at q5;simpa using q5
    subst e
    exact⟨q1,o',q2,q6,q4,q7⟩
   .exact K4.sublist ((List.Sublist.refl _).append (a8w _ a8X))
   .obtain⟨o2,T2,mr,r2,m1,m2,m3,m4,m5⟩:=(oh q hq).ex
    refine⟨⟨o2,T2,mr,r2,?_,m2,m3,m4,m5⟩,(oh q hq).val,(oh q hq).ptr,(oh q hq).lt,(oh q hq).new,(oh q hq).fr⟩
    rcases a5P.1 m1 with e'|m1
    .simp only[a5H] at e'
     rcases P8.run with ⟨q',_⟩|⟨q',_⟩<;>(rw[<-e'.2,m2] at q';cases q')
    .exact m1
   .obtain⟨DS,vh⟩:=XC q hq
    have h3:=oK q DS
    refine⟨?_,h3.dst,h3.val,h3.run⟩
    rcases a5P.1 h3.mem with e'|e'
    .simp only[a5H] at e';exact absurd e'.1 vh
    .exact e'
   .rw[hl k hk]
    constructor
    .rintro⟨q1,q2,q3⟩
     refine⟨q1,q2,?_⟩
     by_cases mY:k=e.i
     .subst mY
      exact .inl λ y hy e=>Hl.1 (a5K.2 ⟨y,hy,e⟩)
     .rcases q3 with q3|q3
      .exact .inl λ y hy=>q3 y (by simp[hy])
      .rcases a5G.1 q3 with q3|q3
       .exact .inr (a5G.2 (.inl q3))
       .obtain⟨q,hq,rfl⟩:=a5K.1 q3
        exact .inr (a5G.2 (.inr (a5K.2 ⟨q,(a7Z (λ e=>mY (by rw[e]))).2 hq,rfl⟩)))
    .rintro⟨q1,q2,q3⟩
     refine⟨q1,q2,?_⟩
     by_cases mY:k=e.i
     .subst mY
      exact .inr (a5G.2 (.inr (a5K.2 ⟨e,he,rfl⟩)))
     .rcases q3 with q3|q3
      .refine .inl λ y hy=>?_
       rcases a5P.1 hy with rfl|hy
       .exact λ e=>mY e.symm
       .exact q3 y hy
      .rcases a5G.1 q3 with q3|q3
       .exact .inr (a5G.2 (.inl q3))
       .obtain⟨q,hq,rfl⟩:=a5K.1 q3
        exact .inr (a5G.2 (.inr (a5K.2 ⟨q,a7s hq,rfl⟩)))
   .refine⟨by rw[iC];exact hA.size,hA.da,by rw[lG];exact hA.db,λ u hu=>?_⟩
    by_cases T9:u=e.d
    .subst T9
     rw[P8.val,dZ,<-hA.size]
     by_cases bF:e.d<a.tmps.size
     .rw[a5T bF,a5T ⟨rfl,bF⟩]
     .rw[a5J bF,a5J (λ q=>bF q.2),a6s,a7d (by rw[<-hA.size];omega)];rfl
    .rw[dZ,if_neg (λ q=>T9 (by simpa using q.1.symm))]
     refine hA.at' u λ hm=>hu ?_
     rcases a5G.1 hm with hm|hm
     .exact a5G.2 (.inl hm)
     .rcases a5G.1 hm with hm|hm
      .exact a5G.2 (.inr (a5G.2 (.inl hm)))
      .obtain⟨q,hq,rfl⟩:=a5K.1 hm
       exact a5G.2 (.inr (a5G.2 (.inr (a5K.2 ⟨q,(a7Z (λ e=>T9 (by rw[e]))).2 hq,rfl⟩))))
   .obtain⟨o2,q5,q6⟩:=iX j hj
    rw[q5] at cM
    simp only[a5E] at cM
    subst cM
    exact k1 (j,o2) q6
  have Xg:∀ p∈PL,∃ x∈X,x.1=p.i:=λ p hp=>by
   obtain⟨o,T,τ,r,hm,_⟩:=(oh p hp).ex
   exact⟨_,hm,rfl⟩
  have RY:∀ p∈SL,∃ x∈X,x.1=p.i:=λ p hp=>⟨_,(oK p hp).mem,rfl⟩
  have hun:∃ k,k<hi/\¬ (listed.getD k false=true):=by
   rcases R with _|⟨i,R⟩
   .rcases X with _|⟨x,X⟩
    .exact absurd ⟨rfl,rfl⟩ Fy
    .have:=(hX x (by simp)).1
     refine⟨x.1,this,λ hh=>((hl x.1 (by omega)).1 hh).2.2.elim (λ q=>q x (by simp) rfl) λ q=>?_⟩
     rcases a5G.1 q with q|q
     .obtain⟨p,hp,e⟩:=a5K.1 q
      exact LK ⟨x,X,p,rfl,hp,e⟩
     .obtain⟨p,hp,e⟩:=a5K.1 q
      exact Hm ⟨x,X,p,rfl,hp,e⟩
   .have:=(hR i (by simp)).1
    exact⟨i,this,λ hh=>((hl i (by omega)).1 hh).2.1 (by simp)⟩
  have Hu:PL.length+SL.length<R.length+X.length:=by
   rcases R with _|⟨i,R⟩
   .rcases X with _|⟨x,X⟩
    .exact absurd ⟨rfl,rfl⟩ Fy
    .have Eo:(PL.map PE.i++SL.map XE.i) ⊆ X.map (·.1):=λ k hk=>by
      rcases a5G.1 hk with hk|hk
      .obtain⟨p,hp,rfl⟩:=a5K.1 hk
       obtain⟨y,hy,e⟩:=Xg p hp
       rcases a5P.1 hy with rfl|hy
       .exact absurd ⟨_,_,p,rfl,hp,e.symm⟩ LK
       .exact a5K.2 ⟨y,hy,e⟩
      .obtain⟨p,hp,rfl⟩:=a5K.1 hk
       obtain⟨y,hy,e⟩:=RY p hp
       rcases a5P.1 hy with rfl|hy
       .exact absurd ⟨_,_,p,rfl,hp,e.symm⟩ Hm
       .exact a5K.2 ⟨y,hy,e⟩
     have:=a8i K4 Eo
     simp at this ⊢;omega
   .have Eo:(PL.map PE.i++SL.map XE.i) ⊆ X.map (·.1):=λ k hk=>by
     rcases a5G.1 hk with hk|hk
     .obtain⟨p,hp,rfl⟩:=a5K.1 hk
      obtain⟨y,hy,e⟩:=Xg p hp
      exact a5K.2 ⟨y,hy,e⟩
     .obtain⟨p,hp,rfl⟩:=a5K.1 hk
      obtain⟨y,hy,e⟩:=RY p hp
      exact a5K.2 ⟨y,hy,e⟩
    have:=a8i K4 Eo
    simp at this ⊢;omega
  obtain⟨fuel,rfl⟩:∃ f,fuel=f+1:=⟨fuel - 1,by omega⟩
  obtain⟨k1,ux⟩:=hun
  obtain⟨k0,⟨U2,uw⟩,Sd⟩:=exists_least (p:=λ k=>k<hi/\¬ (listed.getD k false=true)) k1 ux
  have R9:ops[k0]?=some (ops[k0]'(by omega)):=a6M (by omega)
  constructor
  .intro nm
   have:k0∈Region.ready .any ops listed:=(mem_ready cz).2 ⟨_,R9,by
    cases hb:listed.getD k0 false with
    | false=>rfl
    | true=>exact absurd hb uw,λ e he hb=>by
    have bF:=bR dL k0 ops[k0] (by simp) e he hb
    exact a8C λ hh=>Sd e.on bF ⟨by omega,hh⟩⟩
   rw[nm] at this
   cases this
  .intro i oj
   obtain⟨o,cm,h1,h2⟩:=(mem_ready cz).1 oj
   have En:=(a6Q.1 cm).1
   have eg:ops.toList[i]?=some o:=by simpa using cm
   have Ap:=Bw (l:=ops.toList) (D:=λ k=>listed.getD k false=true/\k<ops.size) (λ k hk o' cM e he hb=>⟨BV k hk.2 hk.1 o' cM e he hb,by
    have:=bR dL k o' cM e he hb;have:=hk.2;omega⟩) i o eg (λ e he hb=>⟨h2 e he hb,by
    have:=bR dL i o eg e he hb;omega⟩)
   have sS:i<hi:=by
    rcases a6w i hi with h|h
    .exact h
    .exact absurd (Ap k0 (qB i o h eg k0 U2)).1 uw
   have Aq:∀ k,(listed.setIfInBounds i true).getD k false=true↔listed.getD k false=true\/k=i:=λ k=>te (by omega)
   have R2:∀ k,k<ops.size->(listed.setIfInBounds i true).getD k false=true->∀ o,ops.toList[k]?=some o->∀ e∈o.after.toList,Region.binds .any e=true->(listed.setIfInBounds i true).getD e.on false=true:=by
    intro k hk Jd o' cM e he hb
    rw[Aq] at Jd ⊢
    rcases Jd with Jd|rfl
    .exact .inl (BV k hk Jd o' cM e he hb)
    .rw[eg] at cM
     simp only[a5E] at cM
     subst cM
     exact .inl (h2 e he hb)
   have XF:¬ (listed.getD i false=true):=by rw[h1];simp
   have U6:=XF
   rw[hl i En] at U6
   have hXi:i∉R->∃ x∈X,x.1=i:=λ Fz=>a8C λ hh=>U6 ⟨sS,Fz, .inl λ x hx e=>hh ⟨x,hx,e⟩⟩
   have O7:∀ p∈PL,p.i≠i:=λ p hp e=>by
    obtain⟨x,hx,hxe⟩:=Xg p hp
    exact U6 ⟨sS,λ q=>Hi i q x hx (by rw[hxe,e]), .inr (a5G.2 (.inl (a5K.2 ⟨p,hp,e⟩)))⟩
   have O8:∀ p∈SL,p.i≠i:=λ p hp e=>by
    obtain⟨x,hx,hxe⟩:=RY p hp
    exact U6 ⟨sS,λ q=>Hi i q x hx (by rw[hxe,e]), .inr (a5G.2 (.inr (a5K.2 ⟨p,hp,e⟩)))⟩
   have Hj:(i,o)∈Seg:=by
    by_cases Fz:i∈R
    .obtain⟨_,o',cM,_,hm,_⟩:=hR i Fz
     rw[eg] at cM
     simp only[a5E] at cM
     subst cM
     exact hm
    .obtain⟨x,hx,Jf⟩:=hXi Fz
     have:=(hX x hx).2.1
     rw[Jf,eg] at this
     simp only[a5E] at this
     have e:x=(i,o):=by rw[<-Jf,this]
     rw[<-e]
     exact (hX x hx).2.2
   have hg:o.guard=none:=ZB _ Hj
   have Xf:∀ p∈PL,o.dst≠some p.d:=λ p hp e=>by
    obtain⟨o2,T,τ,r,hm,bw,FD,_⟩:=(oh p hp).ex
    have ZN:=(hX _ hm).2.2
    exact O7 p hp (Xq _ ZN _ Hj p.d FD e)
   have Xi:∀ p∈SL,o.dst≠some p.d:=λ p hp e=>O8 p hp (Xq _ (hX _ (oK p hp).mem).2.2 _ Hj p.d (oK p hp).dst e)
   have Xj:∀ p∈SL,∀ t,o.dst=some t->gF [t] p.o=true:=λ p hp t ht=>by
    have hm:=hX _ (oK p hp).mem
    have Xy:listed.getD p.i false=true:=(hl p.i (by have:=hm.1;simp only at this;omega)).2 ⟨hm.1,λ q=>Hi _ q _ (oK p hp).mem rfl, .inr (a5G.2 (.inr (a5K.2 ⟨p,hp,rfl⟩)))⟩
    rcases (oK p hp).run with ⟨hex,_⟩|⟨A6,_⟩
    rotate_left
    .exact UD A6 _
    refine oA (Xt _ hm.2.2 hex) λ u hu=>?_
    simp only[a6t] at hu
    subst hu
    refine a5G.2 (.inl (gZ.2 ⟨_,a6U.2 ⟨Hj,?_⟩,ht⟩))
    simp only[a6k]
    cases hb:Nat.testBit ((bN ops.toList []).getD p.i 0) i with
    | false=>rfl
    | true=>exact absurd (TQ p.i p.o (by have:=hm.1;simp only at this;omega) hm.2.1 Xy i hb).1 XF
   have hw:Region.wanted o (yielded ops a.tmps)=true:=by simp[Region.wanted,hg]
   unfold wpOp
   simp only[cm]
   rw[a5T hw]
   refine .inl ?_
   by_cases Fz:i∈R
   ·
    obtain⟨_,o',cM,U5,_,oL,hu⟩:=hR i Fz
    rw[eg] at cM
    simp only[a5E] at cM
    subst cM
    obtain⟨d,vc,hd,hr,eJ⟩:=hs i Fz o eg
    obtain⟨x,hx,hvx⟩:=NQ hE hI hr eJ
    have hu:gF (R.filterMap (cj ops.toList)++(PL.map PE.d++SL.map XE.d)) o=true:=oA hu λ t ht=>by
     rcases a5G.1 ht with ht|ht
     .obtain⟨j,hj,A5⟩:=a7e.1 ht
      obtain⟨q1,o',q2,_,q3,_⟩:=hR j hj
      refine gZ.2 ⟨(j,o'),List.mem_filter.2 ⟨q3,?_⟩,by simpa [cj,q2] using A5⟩
      simp only[a6k]
      cases hb:Nat.testBit ((bN ops.toList []).getD i 0) j with
      | false=>rfl
      | true=>exact absurd hj ((hl j (by omega)).1 (Ap j hb).1).2.1
     .obtain⟨zi,zo,hm,XA,FD⟩:∃ zi zo,(zi,zo)∈X/\dG zo.op=true/\zo.dst=some t:=by
       rcases a5G.1 ht with ht|ht
       .obtain⟨p,hp,rfl⟩:=a5K.1 ht
        obtain⟨o2,T,τ,r,hm,bw,FD,_⟩:=(oh p hp).ex
        exact⟨_,o2,hm,by simp[dG,oV,bw],FD⟩
       .obtain⟨p,hp,rfl⟩:=a5K.1 ht
        exact⟨_,p.o,(oK p hp).mem,(oK p hp).lz,(oK p hp).dst⟩
      have ZN:=(hX _ hm).2.2
      by_cases hb:Nat.testBit ((bN ops.toList []).getD i 0) zi=true
      .simp only[oz,a5I,a6i,a7x,a6k] at oL
       rcases oL.2 _ ZN with q|q
       .rw[AR q] at XA;cases XA
       .rw[hb] at q;cases q
      .exact gZ.2 ⟨_,List.mem_filter.2 ⟨ZN,by simpa using hb⟩,FD⟩
    unfold Oper.wp
    rw[hA.exec hu,hx]
    show wpAny c.P .any ops Q' fuel _ (a.put o.dst x) w
    have Zy:(R.erase i).length+1=R.length:=by
     have:=a7I Fz
     have:=a7S Fz
     omega
    have Eo:∀ t,t∈(R.erase i).filterMap (cj ops.toList)->t∈R.filterMap (cj ops.toList):=λ t ht=>by
     obtain⟨q,hq,hqd⟩:=a7e.1 ht
     exact a7e.2 ⟨q,a7s hq,hqd⟩
    refine ih fuel Rc X (R.erase i) PL SL G t (a.put o.dst x) (b.put o.dst x) w _ (by omega) (by omega) (by rw[a6P];exact cz) (λ j hj=>?_) hX (I9.erase i) Hl (λ j hj=>Hi j (a7s hj)) K4 P9 (λ p hp=>(oh p hp).put (Xf p hp)) (λ e he=>(oK e he).put hA.da (Xi e he) (Xj e he)) (λ k hk=>?_) R2 (by rw[hd];exact Wl hI hvx) (hA.put λ q hq Sf=>?_) (λ j hj=>hs j (a7s hj)) _ hK
    .exact hR j (a7s hj)
    .rw[Aq,hl k hk,I9.mem_erase_iff]
     constructor
     .rintro (⟨q1,q2,q3⟩|rfl)
      .exact⟨q1,λ q=>q2 q.2,q3⟩
      .exact⟨sS,λ q=>q.1 rfl, .inl λ x hx=>(Hi _ Fz x hx).symm⟩
     .rintro⟨q1,q2,q3⟩
      by_cases FB:k=i
      .exact .inr FB
      .exact .inl ⟨q1,λ q=>q2 ⟨FB,q⟩,q3⟩
    .rcases a5G.1 hq with hq|hq
     .obtain⟨j,hj,A5⟩:=a7e.1 hq
      by_cases tN:j=i
      .subst tN
       rw[<-A5]
       simp[cj,eg]
      .exact absurd (a5G.2 (.inl (a7e.2 ⟨j,I9.mem_erase_iff.2 ⟨tN,hj⟩,A5⟩))) Sf
     .exact absurd (a5G.2 (.inr hq)) Sf
   .obtain⟨x,hx,Jf⟩:=hXi Fz
    have hxo:x=(i,o):=by
     have:=(hX x hx).2.1
     rw[Jf,eg] at this
     simp only[a5E] at this
     rw[<-Jf,this]
    subst hxo
    have hZ:∀ b,(∃ p∈PL,p.b=b)->uK c G t.ae w b:=λ b ⟨p,hp,e⟩=>e ▸ (oh p hp).fr
    by_cases VN:oV o.op=true
    ·
     have K5:=LL _ Hj
     obtain⟨T,bw⟩:∃ T,o.op = .alloc T:=by
      unfold oV at VN
      split at VN
      .exact⟨_,by assumption⟩
      .cases VN
     unfold qv at K5
     simp only[bw,a5I,a9m] at K5
     obtain⟨⟨d,hd⟩,Fw,⟨⟨τ,r⟩,hT⟩⟩:=K5
     simp only[hd,tI,a8N] at Fw
     obtain⟨w',p,VX,hpd,hpb,cS,vR,hpo,mY⟩:=PZ hE hI (a2:=a) bw hd hT Fw hx
     unfold Oper.wp
     rw[cS]
     show wpAny c.P .any ops Q' fuel _ (a.put o.dst p.x) w'
     rw[hd]
     refine ih fuel Rc X R (p::PL) SL G t (a.put (some d) p.x) b w' _ (by omega) (by simp;omega) (by rw[a6P];exact cz) hR hX I9 Hl Hi ?_ ?_ (λ q hq=>?_) (λ e he=>(oK e he).put hA.da (by rw[<-hd];exact Xi e he) (by rw[<-hd];exact Xj e he)) (λ k hk=>?_) R2 vR ?_ hs _ hK
     .simp only[a6n,a7g,a6m]
      refine⟨λ hm=>?_,K4⟩
      rcases a5G.1 hm with hm|hm
      .obtain⟨q,hq,e⟩:=a5K.1 hm
       exact O7 q hq (by rw[e,VX])
      .obtain⟨q,hq,e⟩:=a5K.1 hm
       exact O8 q hq (by rw[e,VX])
     .simp only[a6n,a6m]
      refine⟨λ hm=>?_,P9⟩
      obtain⟨q,hq,e⟩:=a5K.1 hm
      have:=(oh q hq).fr.2.2.1
      rw[e,hpb] at this
      exact a7W _ this
     .rcases a5P.1 hq with rfl|hq
      .exact hpo
      .have h3:=(oh q hq).put (d:=some d) (x:=p.x) (by rw[<-hd];exact Xf q hq)
       have bF:=h3.fr.2.2.1
       refine⟨h3.ex,h3.val,h3.ptr,h3.lt,?_,h3.fr.grow mY.size⟩
       obtain⟨l,ty,q1,q2⟩:=h3.new
       exact⟨l,ty,by rw[mY.block q.b bF (λ h=>h)];exact q1,q2⟩
     .rw[Aq,hl k hk,a6n,a7g,a5P,VX]
      constructor
      .rintro (⟨q1,q2,q3⟩|rfl)
       .exact⟨q1,q2,q3.imp id .inr⟩
       .exact⟨sS,Fz, .inr (.inl rfl)⟩
      .rintro⟨q1,q2,q3⟩
       by_cases FB:k=i
       .exact .inr FB
       .exact .inl ⟨q1,q2,q3.imp id λ q=>q.resolve_left FB⟩
     .refine⟨by rw[iC];exact hA.size,by rw[lG];exact hA.da,hA.db,λ u hu=>?_⟩
      simp only[a6n,a7g,a5G,a5P,hpd] at hu
      rw[dZ,if_neg (λ q=>hu (.inr (.inl (by simpa using q.1.symm))))]
      exact hA.at' u λ hm=>hu ((a5G.1 hm).imp id λ q => .inr (a5G.1 q))
    by_cases hex:lP o.op=true
    ·
     obtain⟨tt,ix,bw⟩:∃ tt ix,o.op = .extract tt ix:=by
      have:=hex
      unfold lP at this
      split at this
      .exact⟨_,_,by assumption⟩
      .cases this
     have a4b:wm t o.op=true:=by
      obtain⟨x0,xs,rfl⟩:∃ x0 xs,X=x0::xs:=by
       cases X with
       | nil=>cases hx
       | cons x0 xs=>exact⟨x0,xs,rfl⟩
      obtain⟨_,h3,_⟩:=FM hK
      unfold QB at h3
      rw[a6i] at h3
      have h4:=h3 _ hx
      rw[a7x] at h4
      rcases h4 with h4|h4
      .exact h4
      .rw[List.any_eq_true] at h4
       obtain⟨y,hy,h4⟩:=h4
       rw[a5I,a6k] at h4
       have h5:=(Ap y.1 h4.2).1
       have h6:=(hX y hy).1
       rcases ((hl y.1 (by omega)).1 h5).2.2 with h7|h7
       .exact absurd rfl (h7 y hy)
       .have hyl:dG y.2.op=true:=by
         have e0:=(hX y hy).2.1
         rcases a5G.1 h7 with h7|h7
         .obtain⟨p,hp,e⟩:=a5K.1 h7
          obtain⟨o2,T,τ,r,hm,M0,FD,_⟩:=(oh p hp).ex
          have e1:=(hX _ hm).2.1
          simp only at e1
          rw[e,e0] at e1
          simp only[a5E] at e1
          rw[e1]
          simp[dG,oV,M0]
         .obtain⟨p,hp,e⟩:=a5K.1 h7
          have e1:=(hX _ (oK p hp).mem).2.1
          simp only at e1
          rw[e,e0] at e1
          simp only[a5E] at e1
          rw[e1]
          simp[(oK p hp).lz]
        rw[hyl] at h4
        exact absurd h4.1 (by simp)
     obtain⟨x,cS⟩:=P3 hI bw a4b
     have K5:=Xt _ Hj hex
     obtain⟨d,hd⟩:∃ d,o.dst=some d:=by
      have:=LL _ Hj
      simp only[qv,bw,a9m] at this
      exact this
     have hDu:∀ u,u∈R.filterMap (cj ops.toList)++(PL.map PE.d++SL.map XE.d)->u∈dstsOf (Seg.filter λ y => !Nat.testBit ((bN ops.toList []).getD i 0) y.1)++sF Seg:=λ u hu=>by
      rcases a5G.1 hu with hu|hu
      .obtain⟨j,hj,A5⟩:=a7e.1 hu
       obtain⟨q1,o',q2,_,q3,_⟩:=hR j hj
       refine List.mem_append.2 (.inl (gZ.2 ⟨(j,o'),List.mem_filter.2 ⟨q3,?_⟩,by simpa [cj,q2] using A5⟩))
       simp only[a6k]
       cases hb:Nat.testBit ((bN ops.toList []).getD i 0) j with
       | false=>rfl
       | true=>exact absurd hj ((hl j (by omega)).1 (Ap j hb).1).2.1
      .rcases a5G.1 hu with hu|hu
       .obtain⟨p,hp,rfl⟩:=a5K.1 hu
        obtain⟨o2,T,τ,r,hm,M0,FD,_⟩:=(oh p hp).ex
        exact a5G.2 (.inr (nA (hX _ hm).2.2 (by simp[dG,oV,M0]) FD))
       .obtain⟨q,hq,rfl⟩:=a5K.1 hu
        exact a5G.2 (.inr (nA (hX _ (oK q hq).mem).2.2 (oK q hq).lz (oK q hq).dst))
     have XL:∀ w',(execOp a.eval o).run c.P w' = .ok (.value x) w':=λ w'=>by
      rw[hA.exec (oA K5 hDu)]
      exact cS w'
     have a2k:gF [d] o=true:=oA K5 λ u hu=>by
      simp only[a6t] at hu
      subst hu
      exact a5G.2 (.inr (nA Hj (by simp[dG,hex]) hd))
     unfold Oper.wp
     rw[XL w]
     show wpAny c.P .any ops Q' fuel _ (a.put o.dst x) w
     rw[hd]
     refine ih fuel Rc X R PL (⟨i,d,x,o⟩::SL) G t (a.put (some d) x) b w _ (by omega) (by simp;omega) (by rw[a6P];exact cz) hR hX I9 Hl Hi ?_ P9 (λ q hq=>(oh q hq).put (by rw[<-hd];exact Xf q hq)) (λ e he=>?_) (λ k hk=>?_) R2 hI ?_ hs _ hK
     .rw[a6n]
      refine (List.perm_middle.nodup_iff).2 (a6m.2 ⟨λ hm=>?_,K4⟩)
      rcases a5G.1 hm with hm|hm
      .obtain⟨q,hq,e⟩:=a5K.1 hm
       exact O7 q hq e
      .obtain⟨q,hq,e⟩:=a5K.1 hm
       exact O8 q hq e
     .rcases a5P.1 he with rfl|he
      .refine⟨hx,hd,?_, .inl ⟨hex,λ w'=>?_⟩⟩
       .simp only[dZ,iC,a6J]
        split
        .rfl
        .rename_i bF
         first|rfl|(rw[a6s,a7d (by omega)];rfl)
       .have Xb:oD [d] (a.put (some d) x) a:=⟨iC a _ x,by rw[lG];exact hA.da,hA.da,λ u hu=>by rw[dZ,if_neg (λ q=>hu (by simpa using q.1.symm))]⟩
        show (execOp (a.put (some d) x).eval o).run c.P w'=_
        rw[Xb.exec a2k]
        exact XL w'
      .exact (oK e he).put hA.da (by rw[<-hd];exact Xi e he) (by rw[<-hd];exact Xj e he)
     .rw[Aq,hl k hk,a6n]
      constructor
      .rintro (⟨q1,q2,q3⟩|rfl)
       .refine⟨q1,q2,q3.imp (λ q=>q) λ q=>?_⟩
        rcases a5G.1 q with q|q
        .exact a5G.2 (.inl q)
        .exact a5G.2 (.inr (a7u _ q))
       .exact⟨sS,Fz, .inr (a5G.2 (.inr (a8F ..)))⟩
      .rintro⟨q1,q2,q3⟩
       by_cases FB:k=i
       .exact .inr FB
       .refine .inl ⟨q1,q2,q3.imp (λ q=>q) λ q=>?_⟩
        rcases a5G.1 q with q|q
        .exact a5G.2 (.inl q)
        .exact a5G.2 (.inr ((a5P.1 q).resolve_left FB))
     .refine⟨by rw[iC];exact hA.size,by rw[lG];exact hA.da,hA.db,λ u hu=>?_⟩
      simp only[a6n,a5G,a5P] at hu
      rw[dZ,if_neg (λ q=>hu (.inr (.inr (.inl (by simpa using q.1.symm)))))]
      exact hA.at' u λ hm=>hu ((a5G.1 hm).imp (λ q=>q) λ q=>(a5G.1 q).imp (λ q=>q) .inr)
    by_cases A6:wD o.op=true
    ·
     have K5:=LL _ Hj
     obtain⟨d,hd⟩:∃ d,o.dst=some d:=by
      obtain⟨T,bw⟩:=HG A6
      unfold qv at K5
      rw[bw] at K5
      cases hd:o.dst with
      | some d=>exact⟨d,rfl⟩
      | none=>rw[hd] at K5;simp at K5
     obtain⟨w',x,cS,vR,Ub,mY⟩:=RL hE hI (a2:=a) A6 K5 hd
     unfold Oper.wp
     rw[cS]
     show wpAny c.P .any ops Q' fuel _ (a.put o.dst x) w'
     rw[hd]
     refine ih fuel Rc X R PL (⟨i,d,x,o⟩::SL) G t (a.put (some d) x) b w' _ (by omega) (by simp;omega) (by rw[a6P];exact cz) hR hX I9 Hl Hi ?_ P9 (λ q hq=>?_) (λ e he=>?_) (λ k hk=>?_) R2 vR ?_ hs _ hK
     .rw[a6n]
      refine (List.perm_middle.nodup_iff).2 (a6m.2 ⟨λ hm=>?_,K4⟩)
      rcases a5G.1 hm with hm|hm
      .obtain⟨q,hq,e⟩:=a5K.1 hm
       exact O7 q hq e
      .obtain⟨q,hq,e⟩:=a5K.1 hm
       exact O8 q hq e
     .have h3:=(oh q hq).put (d:=some d) (x:=x) (by rw[<-hd];exact Xf q hq)
      have bF:=h3.fr.2.2.1
      refine⟨h3.ex,h3.val,h3.ptr,h3.lt,?_,h3.fr.grow mY.size⟩
      obtain⟨l,ty,q1,q2⟩:=h3.new
      exact⟨l,ty,by rw[mY.block q.b bF (λ h=>h)];exact q1,q2⟩
     .rcases a5P.1 he with rfl|he
      .refine⟨hx,hd,?_, .inr ⟨A6,Ub⟩⟩
       simp only[dZ,iC,a6J]
       split
       .rfl
       .rename_i bF
        first|rfl|(rw[a6s,a7d (by omega)];rfl)
      .exact (oK e he).put hA.da (by rw[<-hd];exact Xi e he) (by rw[<-hd];exact Xj e he)
     .rw[Aq,hl k hk,a6n]
      constructor
      .rintro (⟨q1,q2,q3⟩|rfl)
       .refine⟨q1,q2,q3.imp (λ q=>q) λ q=>?_⟩
        rcases a5G.1 q with q|q
        .exact a5G.2 (.inl q)
        .exact a5G.2 (.inr (a7u _ q))
       .exact⟨sS,Fz, .inr (a5G.2 (.inr (a8F ..)))⟩
      .rintro⟨q1,q2,q3⟩
       by_cases FB:k=i
       .exact .inr FB
       .refine .inl ⟨q1,q2,q3.imp (λ q=>q) λ q=>?_⟩
        rcases a5G.1 q with q|q
        .exact a5G.2 (.inl q)
        .exact a5G.2 (.inr ((a5P.1 q).resolve_left FB))
     .refine⟨by rw[iC];exact hA.size,by rw[lG];exact hA.da,hA.db,λ u hu=>?_⟩
      simp only[a6n,a5G,a5P] at hu
      rw[dZ,if_neg (λ q=>hu (.inr (.inr (.inl (by simpa using q.1.symm)))))]
      exact hA.at' u λ hm=>hu ((a5G.1 hm).imp (λ q=>q) λ q=>(a5G.1 q).imp (λ q=>q) .inr)
    ·
     have a4p:dG o.op=false:=by
      simp only[dG,a8P]
      exact⟨by simpa using VN,by simpa using hex,by simpa using A6⟩
     have XA:∀ z∈X,Nat.testBit ((bN ops.toList []).getD i 0) z.1=true->dG z.2.op=true/\z.1∈PL.map PE.i++SL.map XE.i:=λ z hz hb=>by
      have h3:=(Ap z.1 hb).1
      have h4:=(hX z hz).1
      rcases ((hl z.1 (by omega)).1 h3).2.2 with h5|h5
      .exact absurd rfl (h5 z hz)
      .refine⟨?_,h5⟩
       have e0:=(hX z hz).2.1
       rcases a5G.1 h5 with h7|h7
       .obtain⟨p,hp,e⟩:=a5K.1 h7
        obtain⟨o2,T,τ,r,hm,M0,FD,_⟩:=(oh p hp).ex
        have e1:=(hX _ hm).2.1
        simp only at e1
        rw[e,e0] at e1
        simp only[a5E] at e1
        rw[e1]
        simp[dG,oV,M0]
       .obtain⟨p,hp,e⟩:=a5K.1 h7
        have e1:=(hX _ (oK p hp).mem).2.1
        simp only at e1
        rw[e,e0] at e1
        simp only[a5E] at e1
        rw[e1]
        exact (oK p hp).lz
     obtain⟨mm,ZQ,hK⟩:=Uj (y:=(i,o)) hK hx Hl (by
      simp only[Mm,a4p,a5Z,a7E,a6i,a7x,a6k]
      intro z hz
      cases hb:Nat.testBit ((bN ops.toList []).getD i 0) z.1 with
      | false=>exact .inr rfl
      | true=>exact .inl (XA z hz hb).1) (λ x0 xs e hz=>by
      cases hb:Nat.testBit ((bN ops.toList []).getD i 0) x0.1 with
      | false=>rfl
      | true =>
       rcases a5G.1 (XA x0 (by rw[e];simp) hb).2 with h5|h5
       .obtain⟨p,hp,e'⟩:=a5K.1 h5
        exact absurd ⟨x0,xs,p,e,hp,e'⟩ LK
       .obtain⟨p,hp,e'⟩:=a5K.1 h5
        exact absurd ⟨x0,xs,p,e,hp,e'⟩ Hm)
     have XP:∀ z,z∈X->z.1≠i->z∈X.filter λ z => !Nat.beq z.1 i:=λ z hz dU=>a6U.2 ⟨hz,by rw[Vb.2 dU];rfl⟩
     have U8:∀ z,z∈(X.filter λ z => !Nat.beq z.1 i)->z∈X/\z.1≠i:=λ z hz=>⟨(List.mem_filter.1 hz).1,Vb.1 (by simpa using (List.mem_filter.1 hz).2)⟩
     have tO:(X.filter λ z => !Nat.beq z.1 i).length+1=X.length:=O2 hx Hl
     generalize np:(X.filter λ z => !Nat.beq z.1 i)=xs at *
     have hxn:(xs.map (·.1)).Nodup:=by rw[<-np];exact Hl.sublist (a8w _ a9J)
     .simp only at ZQ hK
      have iX:∀ j∈R,∃ o',ops.toList[j]?=some o'/\(j,o')∈Rc.filter λ r => !Nat.testBit ((bN ops.toList []).getD i 0) r.1:=λ j hj=>by
       obtain⟨q1,o',q2,q3,_,_⟩:=hR j hj
       refine⟨o',q2,a6U.2 ⟨q3,?_⟩⟩
       simp only[a6k]
       cases hb:Nat.testBit ((bN ops.toList []).getD i 0) j with
       | false=>rfl
       | true=>exact absurd hj ((hl j (by omega)).1 (Ap j hb).1).2.1
      have hu:gF (R.filterMap (cj ops.toList)++(PL.map PE.d++SL.map XE.d)) o=true:=oA ZQ λ t ht=>by
       rcases a5G.1 ht with ht|ht
       .obtain⟨j,hj,A5⟩:=a7e.1 ht
        obtain⟨o',q2,q3⟩:=iX j hj
        exact List.mem_append.2 (.inl (gZ.2 ⟨(j,o'),q3,by simpa [cj,q2] using A5⟩))
       .rcases a5G.1 ht with ht|ht
        .obtain⟨p,hp,rfl⟩:=a5K.1 ht
         obtain⟨o2,T,τ,r,hm,bw,FD,_⟩:=(oh p hp).ex
         exact a5G.2 (.inr (nA (XP _ hm (O7 p hp)) (by simp[dG,oV,bw]) FD))
        .obtain⟨p,hp,rfl⟩:=a5K.1 ht
         exact a5G.2 (.inr (nA (XP _ (oK p hp).mem (O8 p hp)) ((oK p hp).lz) (oK p hp).dst))
      have hIz:=hI.fz hZ
      refine Wv (hA.exec hu) ?_ ?_ (H5 (c:=c.fz w G.S λ b=>∃ p∈PL,p.b=b) hE hIz hK (Q:=λ _ _ _=>False))
      .rintro x w' ⟨G',s',a3P,hsr⟩
       obtain⟨vR,jW⟩:=hI.a4Z hZ a3P
       obtain⟨k1,k2⟩:=mo hsr
       refine ih fuel _ xs R PL SL G' s' (a.put o.dst x) (b.put o.dst x) w' _ (by omega) (by omega) (by rw[a6P];exact cz) (λ j hj=>?_) (λ y hy=>hX y (U8 y hy).1) I9 hxn (λ j hj y hy=>Hi j hj y (U8 y hy).1) K4 P9 (λ p hp=>?_) (λ e he=>?_) (λ k hk=>?_) R2 vR (hA.put λ q hq Sf=>absurd hq Sf) (λ j hj o' cM=>?_) _ k2
       .obtain⟨q1,o',q2,q3,q4,q7⟩:=hR j hj
        obtain⟨o2,q5,q6⟩:=iX j hj
        have e:o'=o2:=by rw[q2] at q5;simpa using q5
        subst e
        exact⟨q1,o',q2,q6,q4,q7⟩
       .have h3:=(oh p hp).put (d:=o.dst) (x:=x) (Xf p hp)
        obtain⟨e1,e2⟩:=jW p.b ⟨p,hp,rfl⟩
        refine⟨?_,h3.val,h3.ptr,h3.lt,?_,e2⟩
        .obtain⟨o2,T,τ,r,hm,m2,m3,m4,m5⟩:=h3.ex
         exact⟨o2,T,τ,r,XP _ hm (O7 p hp),m2,m3,m4,m5⟩
        .obtain⟨l,ty,q1,q2⟩:=h3.new
         exact⟨l,ty,by rw[e1];exact q1,q2⟩
       .have h3:=(oK e he).put (x:=x) hA.da (Xi e he) (Xj e he)
        exact⟨XP _ h3.mem (O8 e he),h3.dst,h3.val,h3.run⟩
       .rw[Aq,hl k hk]
        constructor
        .rintro (⟨q1,q2,q3⟩|rfl)
         .exact⟨q1,q2,q3.imp (λ q y hy=>q y (U8 y hy).1) λ q=>q⟩
         .exact⟨sS,Fz, .inl λ y hy e=>(U8 y hy).2 e⟩
        .rintro⟨q1,q2,q3⟩
         by_cases FB:k=i
         .exact .inr FB
         .refine .inl ⟨q1,q2,q3.imp (λ q y hy=>?_) λ q=>q⟩
          by_cases e:y.1=i
          .rw[e];exact a9Q FB
          .exact q y (XP y hy e)
       .obtain⟨o2,q5,q6⟩:=iX j hj
        rw[q5] at cM
        simp only[a5E] at cM
        subst cM
        exact k1 (j,o2) q6
      .rintro b' w' ⟨G',s',vR,_⟩
       exact vR.defers
end
end Go.Proofs.YtnehkikdlnmebaaGreatDoor

namespace Go.Proofs.YtnehkikdlnmebaaGreatDoor
theorem wC{bT:List Nat}{p:Nat}(h:Nf bT p=true){j k:Nat}(hj:p<=j)(hl:j<bT.length)(hk:k<p):Nat.testBit (bT.getD j 0) k=true:=by
 unfold Nf at h
 rw[a6i] at h
 have hm:bT[j]∈bT.drop p:=by
  rw[List.mem_iff_getElem?]
  refine⟨j - p,?_⟩
  rw[a7y,show p+(j - p)=j by omega,a5V hl]
 have h1:=a5F (h _ hm)
 rw[a6o,a5V hl,a8u]
 have h2:Nat.testBit (bT[j] % 2 ^ p) k=true:=by rw[h1,Nat.testBit_two_pow_sub_one];simpa using hk
 rw[Nat.testBit_mod_two_pow] at h2
 simp only[a5I] at h2
 exact h2.2
theorem Ps{l:List Oper}{es:List II}{lo m bits:Nat}{s0:af}{π π':List Nat}(qC:∀ j k t,lo<=j->j<m->lo<=k->k<m->cj l j=some t->cj l k=some t->j=k)
  (Uc:∀ k∈π,lo<=k/\k<m) (Nc:∀ k∈π',lo<=k/\k<m) (hn:π.Nodup) (uy:π'.Nodup) (ha:∀ k,lo<=k->k<m->Nat.testBit bits k=true->k∈π/\k∈π') (t:Nat) (hh:hidden l m bits t=false) :
  (dR l es s0 π).sl t=(dR l es s0 π').sl t/\(dR l es s0 π).ae t=(dR l es s0 π').ae t:=by
 by_cases hex:∃ k,lo<=k/\k<m/\cj l k=some t
 .obtain⟨k,cu,hk,hd⟩:=hex
  have hb:Nat.testBit bits k=true:=by
   have:=hh
   unfold hidden at this
   rw[a7i] at this
   have:=this k (by simpa using hk)
   simp only[hd] at this
   simp only[a9j] at this
   simpa using this
  obtain⟨h1,h2⟩:=ha k cu hk hb
  obtain⟨e1,e2⟩:=vL l es t k hd π s0 h1 hn (λ j hj dU A5=>dU (qC j k t (Uc j hj).1 (Uc j hj).2 cu hk A5 hd))
  obtain⟨e3,e4⟩:=vL l es t k hd π' s0 h2 uy (λ j hj dU A5=>dU (qC j k t (Nc j hj).1 (Nc j hj).2 cu hk A5 hd))
  exact⟨e1.trans e3.symm,e2.trans e4.symm⟩
 .have l6:∀ k,lo<=k->k<m->cj l k≠some t:=λ k hl hk hd=>hex ⟨k,hl,hk,hd⟩
  obtain⟨e1,e2⟩:=hH l es t π s0 (λ k hk=>l6 k (Uc k hk).1 (Uc k hk).2)
  obtain⟨e3,e4⟩:=hH l es t π' s0 (λ k hk=>l6 k (Nc k hk).1 (Nc k hk).2)
  exact⟨e1.trans e3.symm,e2.trans e4.symm⟩
def fK(lo i:Nat):List Nat:=List.range' lo (i - lo)
theorem yP{lo i k:Nat}:k∈fK lo i↔lo<=k/\k<i:=by
 unfold fK
 rw[List.mem_range'_1]
 omega
theorem F6(lo i:Nat):(fK lo i).Nodup:=List.nodup_range'
theorem Wn{lo i:Nat}(h:lo<=i):fK lo (i+1)=fK lo i++[i]:=by
 unfold fK
 rw[show i+1 - lo=(i - lo)+1 by omega,List.range'_1_concat,show lo+(i - lo)=i by omega]
theorem N8{E:Env}{l:List Oper}{m lo:Nat}{bT:List Nat}{s0:af}:∀ (r:List Oper) (i:Nat) (es xl:List II) (s s':af),Trace E l m bT i r es s s'->(∀ j o,r[j]?=some o->l[i+j]?=some o)->xl.length=i->lo<=i ->
  s=dR l (xl++es) s0 (fK lo i) ->
  (∀ j o,r[j]?=some o->LY E l m (bT.getD (i+j) 0) (dR l (xl++es) s0 (fK lo (i+j))) o ((xl++es).getD (i+j) ⟨false, .any,none⟩))/\s'=dR l (xl++es) s0 (fK lo (i+r.length))
 | [],i,[],xl,s,s',h,_,_,_,hs=>by
  have h:s=s':=h
  subst h
  exact⟨by simp,by simpa using hs⟩
 | o::r,i,e::es,xl,s,s',h,hl,h0,hlo,hs=>by
  obtain⟨h1,h2⟩:=h
  have ho:l[i]?=some o:=hl 0 o rfl
  have R7:(xl++e::es).getD i ⟨false, .any,none⟩=e:=by simp[a6o,<-h0]
  have cp:s.lu o.dst e.v e.ob=dR l ((xl++[e])++es) s0 (fK lo (i+1)):=by
   rw[a6u,Wn hlo,uH,a8o,R7,<-hs]
   simp[cj,ho]
  have ih:=N8 r (i+1) es (xl++[e]) _ s' h2 (λ j p hj=>by
   have:=hl (j+1) p (by simpa using hj)
   rwa [show i+(j+1)=i+1+j by omega] at this) (by simp[h0]) (by omega) cp
  rw[a6u,a8o] at ih
  refine⟨λ j p hj=>?_,by rw[ih.2];congr 2;simp;omega⟩
  cases j with
  | zero =>
   simp at hj
   subst hj
   rw[a7D,R7,<-hs]
   exact h1
  | succ j =>
   have:=ih.1 j p (by simpa using hj)
   rwa [show i+1+j=i+(j+1) by omega] at this
 | [],_,_::_,_,_,_,h,_,_,_,_=>h.elim
 | _::_,_,[],_,_,_,h,_,_,_,_=>h.elim
theorem NA:∀ (l π:List Nat),l.Nodup->(∀ k∈l,k∈π)->l.length<=π.length
 | [],_,_,_=>by simp
 | x::l,π,hn,h=>by
  have uy:=a6m.1 hn
  have hx:=h x (by simp)
  have h1:=NA l (π.erase x) uy.2 (λ k hk=>by
   have dU:k≠x:=λ e=>by subst e;exact uy.1 hk
   exact (a7Z dU).2 (h k (by simp[hk])))
  have h3:=a7I hx
  have:0<π.length:=a7S hx
  simp only[a5O]
  omega
theorem Nz{lo m:Nat}(π:List Nat)(hn:π.Nodup)(h:∀ k∈π,lo<=k/\k<m):π.length<=m - lo:=by
 have h1:(List.range lo++π).Nodup:=by
  rw[a5Y]
  refine⟨a8I,hn,λ x hx y hy e=>?_⟩
  simp at hx
  have:=(h y hy).1
  omega
 have h2:=uG (max lo m) (List.range lo++π) h1 (λ k hk=>by
  rcases a5G.1 hk with hk|hk
  .simp at hk;omega
  .have:=(h k hk).2;omega)
 rw[a5U,List.length_range] at h2
 cases π with
 | nil=>simp
 | cons k r =>
  have:=h k (by simp)
  omega
section
variable {c:Ctx} {G:Gh} {s:af} {a:Act} {w w':World}
theorem Ya(hE:bJ c.P c.E){ops:Array Oper}{j:Nat}(dL:backward ops.toList=true)(hj:j<ops.size)(hcut:∀ i,j<i->i<ops.size->Nat.testBit ((bN ops.toList []).getD i 0) j=true)
  {P:af->Prop} {Q':Exit->Act->World->Prop} {fuel:Nat} {kn:List (Nat×Bool)} {listed:Array Bool} (cz:listed.size=ops.size) (hl:∀ k,k<ops.size->(listed.getD k false=true↔k<j))
  (hI:Inv c G s a w) (hr:fv c.E ops [ops[j]] kn P s)
  (vf:∀ G s a w (listed:Array Bool),listed.size=ops.size->(∀ k,k<ops.size->(listed.getD k false=true↔k<j+1))->Inv c G s a w->P s->wpAny c.P .any ops Q' fuel listed a w):wpAny c.P .any ops Q' (fuel+1) listed a w:=by
 have ho:ops[j]?=some ops[j]:=a6M hj
 constructor
 .intro nm
  have:j∈Region.ready .any ops listed:=(mem_ready cz).2 ⟨_,ho,by
   cases hb:listed.getD j false with
   | false=>rfl
   | true=>have:=(hl j hj).1 hb;omega,λ e he hb=>by
   have:=bR dL j ops[j] (by simp) e he hb
   exact (hl e.on (by omega)).2 this⟩
  rw[nm] at this
  cases this
 .intro i hi
  obtain⟨o,cm,h1,h2⟩:=(mem_ready cz).1 hi
  have En:=(a6Q.1 cm).1
  have Qk:j<=i:=by
   rcases a6w i j with h|h
   .have:=(hl i En).2 h
    rw[h1] at this
    cases this
   .exact h
  have yh:i=j:=by
   rcases a6w j i with h|h
   .have iX:=Bw (l:=ops.toList) (D:=λ k=>k<j) (λ k hk o' cM e he hb=>by
     have:=bR dL k o' cM e he hb;omega) i o (by simpa using cm) (λ e he hb=>by
      have bF:=bR dL i o (by simpa using cm) e he hb
      exact (hl e.on (by omega)).1 (h2 e he hb)) j (hcut i h En)
    omega
   .omega
  subst yh
  have Aq:∀ k,k<ops.size->((listed.setIfInBounds i true).getD k false=true↔k<i+1):=λ k hk=>by
   rw[te (by omega),hl k hk];omega
  unfold wpOp
  simp only[ho]
  have vi:=y8 hE hI hr
  split at vi
  .rename_i hw
   rw[a5T hw]
   exact .inl (a7r (λ a' w' ⟨G',s',pN,h1,h2⟩=>vf G' s' a' w' _ (by rw[a6P];exact cz) Aq h1 h2) (vi Q'))
  .rename_i hw
   rw[a5J hw]
   obtain⟨G',s',pN,h1,h2⟩:=vi
   exact vf G' s' _ w _ (by rw[a6P];exact cz) Aq h1 h2
theorem WN(hE:bJ c.P c.E){ops:Array Oper}{lo m:Nat}{es:List II}{s0:af}(dL:backward ops.toList=true)(hm:m<=ops.size)
  (qB:∀ j o,m<=j->ops.toList[j]?=some o->∀ k,k<m->Nat.testBit ((bN ops.toList []).getD j 0) k=true)
  (a4n:∀ j o,lo<=j->ops.toList[j]?=some o->∀ k,k<lo->Nat.testBit ((bN ops.toList []).getD j 0) k=true)
  (qC:∀ j k t,lo<=j->j<m->k<m->cj ops.toList j=some t->cj ops.toList k=some t->j=k)
  (Xs:∀ i o,lo<=i->i<m->ops.toList[i]?=some o->LY c.E ops.toList m ((bN ops.toList []).getD i 0) (dR ops.toList es s0 (fK lo i)) o (es.getD i ⟨false, .any,none⟩))
  (Fw:∀ i o,lo<=i->i<m->ops.toList[i]?=some o->tI o.dst=true) (rV:∀ i o t,lo<=i->i<m->ops.toList[i]?=some o->uU o.op=true->o.dst=some t->s0.ae t=none)
  {Q':Exit->Act->World->Prop}
  (MX:∀ (fuel:Nat) (G:Gh) (a:Act) (w:World) (listed:Array Bool),ops.size=m+fuel->listed.size=ops.size->(∀ k,k<ops.size->(listed.getD k false=true↔k<m))->Inv c G (dR ops.toList es s0 (fK lo m)) a w->wpAny c.P .any ops Q' fuel listed a w) :
  ∀ (fuel:Nat) (π:List Nat) (G:Gh) (a:Act) (w:World) (listed:Array Bool),ops.size=lo+π.length+fuel->π.Nodup->(∀ k∈π,lo<=k/\k<m)->listed.size=ops.size->(∀ k,k<ops.size->(listed.getD k false=true↔k<lo\/k∈π)) ->
   (∀ k∈π,∀ o,ops.toList[k]?=some o->∀ e∈o.after.toList,Region.binds .any e=true->e.on<lo\/e.on∈π)->lo<=m->Inv c G (dR ops.toList es s0 π) a w->wpAny c.P .any ops Q' fuel listed a w:=by
 have Xr:∀ j k t,lo<=j->j<m->lo<=k->k<m->cj ops.toList j=some t->cj ops.toList k=some t->j=k:=λ j k t h1 h2 _ h4=>qC j k t h1 h2 h4
 have fin:∀ (fuel:Nat) (π:List Nat) (G:Gh) (a:Act) (w:World) (listed:Array Bool),ops.size=lo+π.length+fuel->π.Nodup->(∀ k∈π,lo<=k/\k<m)->listed.size=ops.size->(∀ k,k<ops.size->(listed.getD k false=true↔k<lo\/k∈π)) ->
   lo<=m->(∀ k,lo<=k->k<m->k∈π)->Inv c G (dR ops.toList es s0 π) a w->wpAny c.P .any ops Q' fuel listed a w:=by
  intro fuel π G a w listed hf hn bF cz hl Qm nk hI
  have hlen:=Nz π hn bF
  have Qk:m - lo<=π.length:=by
   have h2:(fK lo m).length<=π.length:=NA (fK lo m) π (F6 lo m) λ k hk=>nk k (yP.1 hk).1 (yP.1 hk).2
   simpa [fK] using h2
  have heq:∀ t,(dR ops.toList es s0 π).sl t=(dR ops.toList es s0 (fK lo m)).sl t/\(dR ops.toList es s0 π).ae t=(dR ops.toList es s0 (fK lo m)).ae t:=λ t =>
   Ps (bits:=2 ^ m - 1) Xr bF (λ k hk=>yP.1 hk) hn (F6 lo m) (λ k cu hk _=>⟨nk k cu hk,yP.2 ⟨cu,hk⟩⟩) t (by
    unfold hidden
    rw[a7i]
    intro k hk
    simp only[a7Q] at hk
    split
    .split
     .simp[a7U,hk]
     .simp
    .simp)
  refine MX fuel G a w listed (by omega) cz (λ k hk=>?_) ?_
  .rw[hl k hk]
   constructor
   .rintro (h|h)
    .omega
    .exact (bF k h).2
   .intro h
    rcases a6w k lo with h'|h'
    .exact .inl h'
    .exact .inr (nk k h' h)
  .unfold Inv at hI ⊢
   rw[HE] at hI ⊢
   rw[<-funext λ t=>(heq t).1,<-funext λ t=>(heq t).2]
   exact hI
 intro fuel
 induction fuel with
 | zero =>
  intro π G a w listed hf hn bF cz hl ve Qm hI
  refine fin 0 π G a w listed hf hn bF cz hl Qm (λ k cu hk=>?_) hI
  cases hb:decide (k∈π) with
  | true=>exact a6f hb
  | false =>
   have:=Nz (lo:=lo) (m:=m) (k::π) (a6m.2 ⟨a7z hb,hn⟩) (λ j hj=>by
    rcases a5P.1 hj with rfl|hj
    .exact⟨cu,hk⟩
    .exact bF j hj)
   simp at this
   omega
 | succ fuel ih =>
  intro π G a w listed hf hn bF cz hl ve Qm hI
  by_cases nk:∀ k,lo<=k->k<m->k∈π
  .exact fin (fuel+1) π G a w listed hf hn bF cz hl Qm nk hI
  ·
   have hex:∃ k,lo<=k/\k<m/\k∉π/\∀ j,lo<=j->j<k->j∈π:=by
    have:∀ n,(∃ k,k<n/\lo<=k/\k<m/\k∉π)->∃ k,lo<=k/\k<m/\k∉π/\∀ j,lo<=j->j<k->j∈π:=by
     intro n
     induction n with
     | zero=>rintro⟨k,hk,_⟩;omega
     | succ n ihn =>
      rintro⟨k,hk,Jd,hkm,mY⟩
      by_cases hs:∃ k,k<n/\lo<=k/\k<m/\k∉π
      .exact ihn hs
      .refine⟨k,Jd,hkm,mY,λ j ZF hj=>?_⟩
       cases hb:decide (j∈π) with
       | true=>exact a6f hb
       | false=>exact absurd ⟨j,by omega,ZF,by omega,a7z hb⟩ hs
    refine this m ?_
    obtain⟨k,hk⟩:=a9B.1 nk
    have h2:=a9g.1 hk
    have h3:=a9g.1 h2.2
    exact⟨k,h3.1,h2.1,h3.1,h3.2⟩
   obtain⟨k0,a5A,U2,uw,Sd⟩:=hex
   have R9:ops[k0]?=some (ops[k0]'(by omega)):=a6M (by omega)
   constructor
   .intro nm
    have:k0∈Region.ready .any ops listed:=(mem_ready cz).2 ⟨_,R9,by
     cases hb:listed.getD k0 false with
     | false=>rfl
     | true =>
      rcases (hl k0 (by omega)).1 hb with h|h
      .omega
      .exact absurd h uw,λ e he hb=>by
     have Kw:=bR dL k0 ops[k0] (by simp) e he hb
     refine (hl e.on (by omega)).2 ?_
     rcases a6w e.on lo with h|h
     .exact .inl h
     .exact .inr (Sd e.on h Kw)⟩
    rw[nm] at this
    cases this
   .intro i hi
    obtain⟨o,cm,h1,h2⟩:=(mem_ready cz).1 hi
    have En:=(a6Q.1 cm).1
    have eg:ops.toList[i]?=some o:=by simpa using cm
    have A6:¬ (i<lo\/i∈π):=λ hh=>by
     have:=(hl i En).2 hh
     rw[h1] at this
     cases this
    have uv:i∉π:=λ h=>A6 (.inr h)
    have ZD:lo<=i:=by
     rcases a6w i lo with h|h
     .exact absurd (.inl h) A6
     .exact h
    have MW:∀ e∈o.after.toList,Region.binds .any e=true->e.on<lo\/e.on∈π:=λ e he hb=>by
     have Kw:=bR dL i o eg e he hb
     exact (hl e.on (by omega)).1 (h2 e he hb)
    have Ap:=Bw (l:=ops.toList) (D:=λ k=>k<lo\/k∈π) (λ k hk o' cM e he hb=>by
     rcases hk with hk|hk
     .have:=bR dL k o' cM e he hb
      exact .inl (by omega)
     .exact ve k hk o' cM e he hb) i o eg MW
    have sS:i<m:=by
     rcases a6w i m with h|h
     .exact h
     .rcases Ap k0 (qB i o h eg k0 U2) with h|h
      .omega
      .exact absurd h uw
    have Hn:=Bw (l:=ops.toList) (D:=λ k=>k<i) (λ k hk o' cM e he hb=>by
     have:=bR dL k o' cM e he hb;omega) i o eg (λ e he hb=>bR dL i o eg e he hb)
    have FE:=λ t hh=>Ps (l:=ops.toList) (es:=es) (s0:=s0) (lo:=lo) (m:=m) (bits:=(bN ops.toList []).getD i 0) (π:=π) (π':=fK lo i) Xr bF (λ k hk=>by have:=yP.1 hk;omega) hn (F6 lo i)
     (λ k cu hk hb=>⟨by
      rcases Ap k hb with h|h
      .omega
      .exact h,yP.2 ⟨cu,Hn k hb⟩⟩) t hh
    obtain⟨hg,cS,T6⟩:=Xs i o ZD sS eg
    have cY:Oo ops.toList m ((bN ops.toList []).getD i 0) (dR ops.toList es s0 (fK lo i))=Oo ops.toList m ((bN ops.toList []).getD i 0) (dR ops.toList es s0 π):=by
     funext x
     cases x with
     | tmp t =>
      simp only[Oo]
      split
      .rfl
      .rename_i hh
       exact ((FE t hh).1).symm
     | _=>rfl
    have cu:Ld ops.toList m ((bN ops.toList []).getD i 0) (dR ops.toList es s0 (fK lo i))=Ld ops.toList m ((bN ops.toList []).getD i 0) (dR ops.toList es s0 π):=by
     funext t
     simp only[Ld]
     split
     .rfl
     .rename_i hh
      exact ((FE t hh).2).symm
    have hg':gJ ops.toList ((bN ops.toList []).getD i 0) (dR ops.toList es s0 π) o (es.getD i ⟨false, .any,none⟩).D0:=by
     unfold gJ at hg ⊢
     split
     .rename_i uy
      simpa [uy] using hg
     .rename_i g want uy
      simp only[uy] at hg
      obtain⟨t,b,q1,q2,q3,q4⟩:=hg
      refine⟨t,b,q1,q2,?_,q4⟩
      have ZA:g<m:=Nat.lt_trans (Hn g q2) sS
      have hh:hidden ops.toList m ((bN ops.toList []).getD i 0) t=false:=by
       unfold hidden
       rw[a7i]
       intro k hk
       simp only[a7Q] at hk
       split
       .rename_i d hd
        split
        .rename_i BW
         have BW:=a5F BW
         subst BW
         rcases a6w k lo with Jd|Jd
         .rw[a4n i o ZD eg k Jd];simp
         .have:=qC k g d Jd hk ZA hd q1
          subst this
          rw[q2];simp
        .simp
       .simp
      exact ((FE t hh).1).trans q3
    have hw:=Em (ops:=ops) rfl hI hg'
    have vf:∀ (G':Gh) (a':Act) (w':World),Inv c G' (dR ops.toList es s0 (π++[i])) a' w'->wpAny c.P .any ops Q' fuel (listed.setIfInBounds i true) a' w':=by
     intro G' a' w' vR
     refine ih (π++[i]) G' a' w' _ (by simp;omega) ?_ ?_ (by rw[a6P];exact cz) ?_ ?_ Qm vR
     .rw[a5Y]
      exact⟨hn,by simp,λ x hx y hy=>by simp at hy;subst hy;exact λ e=>uv (e ▸ hx)⟩
     .intro k hk
      rcases a5G.1 hk with hk|hk
      .exact bF k hk
      .simp at hk;omega
     .intro k hk
      rw[te (by omega),hl k hk]
      simp[or_assoc]
     .intro k hk o' cM e he hb
      rcases a5G.1 hk with hk|hk
      .exact (ve k hk o' cM e he hb).imp id (a7Y _)
      .simp at hk
       subst hk
       rw[eg] at cM
       simp only[a5E] at cM
       subst cM
       exact (MW e he hb).imp id (a7Y _)
    have Jc:cj ops.toList i=o.dst:=by simp[cj,eg]
    unfold wpOp
    simp only[cm]
    cases Hv:(es.getD i ⟨false, .any,none⟩).D0 with
    | true =>
     rw[Hv] at hw
     rw[a5T hw]
     obtain⟨vc,hq,eJ⟩:=cS Hv
     rw[cY,cu] at hq
     refine .inl (a7r ?_ (F4 hE hI (lk':=Ld ops.toList m ((bN ops.toList []).getD i 0) (dR ops.toList es s0 π)) ?_ ?_ hq eJ))
     .intro a' w' hd
      obtain⟨G',sT⟩:=Kz hI (Fw i o ZD sS eg) (λ t ob BW La=>by
       rw[La] at hq
       have MU:=H2 hq
       have h0:=rV i o t ZD sS eg MU BW
       have yj:=(hH ops.toList es t π s0 (λ k hk hkd=>by
        have:=qC k i t (bF k hk).1 (bF k hk).2 sS hkd (by rw[Jc];exact BW)
        subst this
        exact uv hk)).2
       rw[yj,h0]) hd
      refine vf G' a' w' ?_
      rw[uH,Jc]
      exact sT
     .intro id ob aW
      unfold Ld at aW
      split at aW
      .cases aW
      .exact aW
     .intro x
      cases x with
      | tmp t =>
       simp only[Oo]
       split
       .trivial
       .exact bp hI (.tmp t)
      | const v=>exact bp hI (.const v)
      | global g=>exact bp hI (.global g)
      | func f=>exact bp hI (.func f)
    | false =>
     rw[Hv] at hw
     rw[hw]
     obtain⟨hv,La⟩:=T6 Hv
     refine vf G _ w ?_
     rw[uH,Jc,hv,La,Jj]
     exact Inv.put (v := .eC) hI rfl
theorem CM{α:Type}{l:List α}{lo hi j:Nat}{o:α}(h:((l.take hi).drop lo)[j]?=some o):l[lo+j]?=some o/\lo+j<hi:=by
 rw[a7y,a6Y] at h
 split at h
 .rename_i bF;exact⟨h,bF⟩
 .cases h
theorem kM{α:Type}{l:List α}{lo hi i:Nat}{o:α}(h:l[i]?=some o)(h1:lo<=i)(h2:i<hi):((l.take hi).drop lo)[i - lo]?=some o:=by
 rw[a7y,a6Y,show lo+(i - lo)=i by omega,a5T h2,h]
theorem tH:∀ {l:List (Option Nat)},uX l=true->∀ (i j t:Nat),l[i]?=some (some t)->l[j]?=some (some t)->i=j
 | [],_,i,j,t,h,_=>by simp at h
 | none::r,h,i,j,t,hi,hj=>by
  cases i with
  | zero=>simp at hi
  | succ i =>
   cases j with
   | zero=>simp at hj
   | succ j=>rw[tH (l:=r) h i j t (by simpa using hi) (by simpa using hj)]
 | some d::r,h,i,j,t,hi,hj=>by
  simp only[uX] at h
  split at h
  .cases h
  .rename_i R0
   rw[a7i] at R0
   have no:∀ k:Nat,r[k]?=some (some d)->False:=λ k hk=>by
    have:=R0 _ (a6F hk)
    simp at this
   cases i with
   | zero =>
    simp at hi
    subst hi
    cases j with
    | zero=>rfl
    | succ j=>exact (no j (by simpa using hj)).elim
   | succ i =>
    cases j with
    | zero =>
     simp at hj
     subst hj
     exact (no i (by simpa using hi)).elim
    | succ j=>rw[tH (l:=r) h i j t (by simpa using hi) (by simpa using hj)]
theorem El{l:List Oper}{lo hi:Nat}(h:BM l lo hi=true):∀ j k t,lo<=j->j<hi->k<hi->cj l j=some t->cj l k=some t->j=k:=by
 unfold BM at h
 rw[a5I,a5I] at h
 obtain⟨⟨_,h1⟩,h2⟩:=h
 have hd:=tH h1
 have get:∀ j t,cj l j=some t->∃ o,l[j]?=some o/\o.dst=some t:=by
  intro j t h
  unfold cj at h
  simp only[a6W] at h
  exact h
 intro j k t hj hjh hkh Hs hkt
 obtain⟨o,ho,Se⟩:=get j t Hs
 obtain⟨o',cM,a0O⟩:=get k t hkt
 have g1:=kM ho hj hjh
 rcases a6w k lo with hk|hk
 .rw[a6i] at h2
  have hm:o'∈l.take lo:=a6F (by rw[a6Y,a5T hk];exact cM)
  have:=h2 o' hm
  rw[a0O] at this
  simp only[a6k] at this
  rw[a7i] at this
  have:=this o (a6F g1)
  rw[Se] at this
  simp at this
 .have g2:=kM cM hk hkh
  have:=hd (j - lo) (k - lo) t (by rw[a7w,g1];simp[Se]) (by rw[a7w,g2];simp[a0O])
  omega
theorem RR{l:List Oper}{lo hi:Nat}(h:BM l lo hi=true){i:Nat}{o:Oper}(h1:lo<=i)(h2:i<hi)(ho:l[i]?=some o):tI o.dst=true:=by
 unfold BM at h
 rw[a5I,a5I] at h
 exact a6i.1 h.1.1 o (a6F (kM ho h1 h2))
theorem Cp{i:Nat}{o:Oper}:∀ {l:List Oper} {lo:Nat},(i,o)∈mW lo l↔∃ j,i=lo+j/\l[j]?=some o
 | [],lo=>by simp[mW]
 | x::l,lo=>by
  simp only[mW,a5P,a5H,Cp (l:=l)]
  constructor
  .rintro (⟨rfl,rfl⟩|⟨j,rfl,h⟩)
   .exact⟨0,rfl,rfl⟩
   .exact⟨j+1,by omega,by simpa using h⟩
  .rintro⟨j,rfl,h⟩
   cases j with
   | zero=>simp at h;exact .inl ⟨rfl,h.symm⟩
   | succ j=>exact .inr ⟨j,by omega,by simpa using h⟩
theorem EG:∀ (l:List Oper) (lo:Nat),((mW lo l).map (·.1)).Nodup
 | [],lo=>a6T
 | x::l,lo=>by
  simp only[mW,a6n,a6m]
  refine⟨λ h=>?_,EG l (lo+1)⟩
  obtain⟨⟨i,o⟩,h1,h2⟩:=a5K.1 h
  obtain⟨j,h3,_⟩:=Cp.1 h1
  simp only at h2
  omega
theorem oD.mono{D D':List Nat}{a b:Act}(h:oD D a b)(hs:∀ t∈D,t∈D'):oD D' a b:=⟨h.size,h.da,h.db,λ t ht=>h.at' t λ q=>ht (hs t q)⟩
theorem KK:∀ (l:List Oper) (lo:Nat),(mW lo l).length=l.length
 | [],lo=>rfl
 | x::l,lo=>by simp[mW,KK l]
theorem GY{α:Type}(p:α->Bool):∀ l:List α,(l.filter p).length+(l.filter λ x => !p x).length=l.length
 | []=>rfl
 | x::l=>by
  have:=GY p l
  cases h:p x<;>simp[a9l,h]<;>omega
theorem SS(hE:bJ c.P c.E){ops:Array Oper}(dL:backward ops.toList=true){Q:af->Prop}{Q':Exit->Act->World->Prop}(hQ:∀ G s a w,Inv c G s a w->Q s->Q' .normal a w) :
  ∀ (UQ:List Nat) (lo:Nat) (kn:List (Nat×Bool)) (fuel:Nat) (G:Gh) (s:af) (a:Act) (w:World) (listed:Array Bool),ops.size=lo+fuel->listed.size=ops.size->(∀ k,k<ops.size->(listed.getD k false=true↔k<lo))->Inv c G s a w ->
   uP c.E ops ops.toList (bN ops.toList []) UQ lo kn Q s->wpAny c.P .any ops Q' fuel listed a w:=by
 obtain⟨r,ha1,ha2,_⟩:=vV ops.toList []
 have MR:(bN ops.toList []).length=ops.size:=by rw[ha1];simpa using ha2
 intro UQ
 induction UQ with
 | nil =>
  intro lo kn fuel G s a w listed hf cz hl hI hr
  simp only[uP] at hr
  split at hr
  .rename_i hb
   have hb:=a5F hb
   have hlo:lo=ops.size:=by simpa using hb
   have h0:fuel=0:=by omega
   subst h0
   refine⟨?_,hQ _ _ _ _ hI hr⟩
   apply a8j.2
   intro i hi
   obtain⟨o,ho,h1,_⟩:=(mem_ready cz).1 hi
   have bF:=(a6Q.1 ho).1
   have:=(hl i bF).2 (by omega)
   rw[h1] at this
   cases this
  .exact hr.elim
 | cons hi UQ ih =>
  intro lo kn fuel G s a w listed hf cz hl hI hr
  simp only[uP] at hr
  split at hr
  case h_2=>exact hr.elim
  case h_1 hc =>
  simp only[a5I,a8N,Nat.ble_eq,a6y] at hc
  obtain⟨MT,hc0,hc2,hc3⟩:=hc
  split at hr
  .rename_i hb
   have hb:=a5F hb
   subst hb
   have bF:lo<ops.size:=by omega
   obtain⟨fuel,rfl⟩:∃ f,fuel=f+1:=⟨fuel - 1,by omega⟩
   have vg:(ops.toList.take (lo+1)).drop lo=[ops[lo]]:=by
    rw[List.drop_take,show lo+1 - lo=1 by omega,List.drop_eq_getElem_cons (by simpa using bF)]
    simp
   rw[vg] at hr
   refine Ya hE dL bF (λ i h1 h2=>wC MT (by omega) (by omega) (by omega)) cz hl hI hr ?_
   intro G s a w listed cz hl hI hp
   exact ih (lo+1) kn fuel G s a w listed (by omega) cz hl hI hp
  .split at hr
   case h_3=>exact hr.elim
   case h_1 DR VN =>
    unfold UK at hr
    split at hr
    case h_2=>exact hr.elim
    case h_1 lI =>
    have wB:∀ i o,(i,o)∈mW lo ((ops.toList.take hi).drop lo)↔lo<=i/\i<hi/\ops.toList[i]?=some o:=λ i o=>by
     rw[Cp]
     constructor
     .rintro⟨j,rfl,h⟩
      obtain⟨h1,h2⟩:=CM h
      exact⟨by omega,h2,h1⟩
     .rintro⟨h1,h2,h3⟩
      exact⟨i - lo,by omega,kM h3 h1 h2⟩
    have dC:=EG ((ops.toList.take hi).drop lo) lo
    have FF:(mW lo ((ops.toList.take hi).drop lo)).length=hi - lo:=by rw[KK];simp;omega
    have wA:∀ x∈mW lo ((ops.toList.take hi).drop lo),∀ y∈mW lo ((ops.toList.take hi).drop lo),∀ t,x.2.dst=some t->y.2.dst=some t->x.1=y.1:=λ x hx y hy t hxt hyt=>by
     have h1:=(wB x.1 x.2).1 hx
     have h2:=(wB y.1 y.2).1 hy
     exact El DR x.1 y.1 t h1.1 h1.2.1 h2.2.1 (by simp[cj,h1.2.2,hxt]) (by simp[cj,h2.2.2,hyt])
    generalize mW lo ((ops.toList.take hi).drop lo)=fK at *
    simp only[X2,a5I,a6i] at lI
    obtain⟨t,b,q1,q2,q3⟩:=KE hE hI hr
    obtain⟨q4,q5⟩:=mo q3
    have XM:∀ p:Nat×Oper->Bool,((fK.filter p).map (·.1)).Nodup:=λ p=>dC.sublist (a8w _ a9J)
    have a2l:∀ x∈fK,∀ y∈fK,x.1=y.1->x=y:=λ x hx y hy e=>by
     obtain⟨x1,x2⟩:=x
     obtain⟨y1,y2⟩:=y
     simp only at e
     subst e
     have h1:=((wB _ _).1 hx).2.2
     rw[((wB _ _).1 hy).2.2] at h1
     simp only[a5E] at h1
     rw[h1]
    refine Sy hE (hi:=hi) (Seg:=fK) dL hc3 ?_ (λ x hx=>by simpa using (lI.1 x hx).1) (λ x hx=>(lI.1 x hx).2) ?_ wA (λ fuel G s a w listed hf cz hl hI hp=>ih hi kn fuel G s a w listed (by omega) cz hl hI hp) (fuel+(FH (bN ops.toList []) (fK.filter λ r => !oz (bN ops.toList []) fK r)).length) fuel (fK.filter (oz (bN ops.toList []) fK)) (FH (bN ops.toList []) (fK.filter λ r => !oz (bN ops.toList []) fK r))
     ((fK.filter (oz (bN ops.toList []) fK)).map (·.1)) [] [] G t a b w listed (a6b _) ?_ cz ?_ ?_ (XM _) ((((lJ _ _).map (·.1)).nodup_iff).2 (XM _)) ?_ a6T a6T (λ p hp=>by cases hp) (λ p hp=>by cases hp) ?_ ?_ ?_ ?_ ?_ fK.length ?_
    .intro j o hj ho k hk
     have:=(a5W.1 ho).1
     exact wC MT hj (by rw[MR];simpa using this) hk
    .intro x hx he
     have:=lI.2 x hx
     simpa [he] using this
    .rw[a6B,(lJ _ _).length_eq,GY,FF,a6a,a6a];omega
    .intro i oj
     obtain⟨⟨i',o⟩,h1,rfl⟩:=a5K.1 oj
     obtain⟨h2,h3⟩:=a6U.1 h1
     have h4:=(wB _ _).1 h2
     refine⟨h4.2.1,o,h4.2.2,h1,h2,?_⟩
     have:=lI.2 _ h2
     rw[h3] at this
     have dU:lP o.op=false:=by
      have:=AR (op:=o.op) (by simp only[oz,a5I] at h3;exact h3.1)
      simp only[dG,a8P] at this
      exact this.2.1
     exact⟨h3,by simpa [dU] using this⟩
    .intro x hx
     have hx:=(lJ _ _).mem_iff.1 hx
     have h2:=(a6U.1 hx).1
     have h4:=(wB _ _).1 h2
     exact⟨h4.2.1,h4.2.2,h2⟩
    .intro i oj x hx e
     have hx:=(lJ _ _).mem_iff.1 hx
     obtain⟨y,h1,rfl⟩:=a5K.1 oj
     obtain⟨h2,h3⟩:=a6U.1 h1
     obtain⟨h4,h5⟩:=a6U.1 hx
     have:=a2l _ h2 _ h4 e
     subst this
     rw[h3] at h5
     cases h5
    .intro k hk
     rw[hl k hk]
     constructor
     .intro h
      refine⟨by omega,λ hm=>?_, .inl λ x hx e=>?_⟩
      .obtain⟨y,h1,rfl⟩:=a5K.1 hm
       have:=((wB _ _).1 (a6U.1 h1).1).1
       omega
      .have:=((wB _ _).1 (a6U.1 ((lJ _ _).mem_iff.1 hx)).1).1
       omega
     .rintro⟨h1,h2,h3⟩
      have h3:=h3.resolve_right (by simp)
      rcases a6w k lo with h|h
      .exact h
      .have hm:(k,ops[k])∈fK:=(wB _ _).2 ⟨h,h1,by simp⟩
       cases hr:oz (bN ops.toList []) fK (k,ops[k]) with
       | true=>exact absurd (a5K.2 ⟨_,a6U.2 ⟨hm,hr⟩,rfl⟩) h2
       | false=>exact absurd rfl (h3 _ ((lJ _ _).mem_iff.2 (a6U.2 ⟨hm,by simp[hr]⟩)))
    .intro k hk Jd o ho e he hb
     have h1:=bR dL k o ho e he hb
     have h2:=(hl k hk).1 Jd
     exact (hl e.on (by omega)).2 (by omega)
    .exact q1
    .refine q2.mono λ d hd=>?_
     obtain⟨r,h1,h2⟩:=gZ.1 hd
     have h4:=(wB _ _).1 (a6U.1 h1).1
     exact a5G.2 (.inl (a7e.2 ⟨r.1,a5K.2 ⟨r,h1,rfl⟩,by simp[cj,h4.2.2,h2]⟩))
    .intro i oj o ho
     obtain⟨⟨i',o'⟩,h1,rfl⟩:=a5K.1 oj
     have h4:=((wB _ _).1 (a6U.1 h1).1).2.2
     simp only at ho
     rw[h4] at ho
     simp only[a5E] at ho
     subst ho
     exact q4 _ h1
    .exact q5
   case h_2 DR VN =>
   have qC:=El DR
   obtain⟨es,pN,s',vj,hq⟩:=sE hr
   have hlen:((ops.toList.take hi).drop lo).length=hi - lo:=by simp;omega
   obtain⟨ZO,XN⟩:=N8 (lo:=lo) (s0:=((ops.toList.take hi).drop lo).foldl af.fresh s) ((ops.toList.take hi).drop lo) lo es (List.replicate lo ⟨false, .any,none⟩) _ s' vj (λ j o ho=>(CM ho).1) (by simp) (a6b _) (by simp[fK,dR])
   rw[hlen,show lo+(hi - lo)=hi by omega] at XN
   subst XN
   have Xc:Inv c G (((ops.toList.take hi).drop lo).foldl af.fresh s) a w:=zx _ hI
   refine WN hE (lo:=lo) (m:=hi) (es:=List.replicate lo ⟨false, .any,none⟩++es) (s0:=((ops.toList.take hi).drop lo).foldl af.fresh s) dL hc3 ?_ ?_ qC ?_ (λ i o h1 h2 ho=>RR DR h1 h2 ho) ?_ ?_ fuel [] G a w listed (by simp;omega) (by simp) (by simp) cz (by simpa using hl) (by simp) (by omega) Xc
   .intro j o hj ho k hk
    have:=(a5W.1 ho).1
    exact wC MT hj (by rw[MR];simpa using this) hk
   .intro j o hj ho k hk
    have:=(a5W.1 ho).1
    exact wC hc0 hj (by rw[MR];simpa using this) hk
   .intro i o h1 h2 ho
    have:=ZO (i - lo) o (kM ho h1 h2)
    rwa [show lo+(i - lo)=i by omega] at this
   .intro i o t h1 h2 ho MU BW
    exact (xn ((ops.toList.take hi).drop lo) s t).2 o (a6F (kM ho h1 h2)) MU BW
   .intro fuel G a w listed hf cz hl hI
    exact ih hi pN fuel G _ a w listed (by omega) cz hl hI (Nj hI hq)
theorem Me(hE:bJ c.P c.E)(lI:c.P.follows .mixedOrders=true){id:Nat}{ops:Array Oper}{Q:af->Prop}{Q':Exit->Act->World->Prop}(hQ:∀ G s a w,Inv c G s a w->Q s->Q' .normal a w)
  (h:Inv c G s a w) (hd:Md c.E ops Q s):(Code.region id ops true).wp c.P Q' a w:=by
 unfold Md at hd
 simp only at hd
 split at hd
 .exact Mg hE lI hQ h hd
 .split at hd
  case h_2=>exact hd.elim
  case h_1 dL =>
  refine wp_region_any lI ?_
  exact SS hE dL hQ _ 0 [] ops.size G s a _ _ (by simp) (by simp) (by intro k hk;simp[hk]) (bn.drew h) hd
end
end Go.Proofs.YtnehkikdlnmebaaGreatDoor

namespace Go.Proofs.YtnehkikdlnmebaaGreatDoor
theorem l4{u v:TV}(h:vO u v):u=v:=by
 unfold vO at h
 split at h
 .rename_i x hx
  have:=TV.bd hx
  rw[this,h]
 .exact h.elim
theorem zO:∀ {l:List Nat},nodupB l=true->l.Nodup
 | [],_=>a6T
 | a::r,h=>by
  simp only[nodupB] at h
  split at h
  .cases h
  .rename_i hc
   exact List.nodup_cons.2 ⟨by simpa using hc,zO h⟩
theorem xp{α:Type}(f:α->Nat):∀ {l:List α},(l.map f).Nodup->∀ x∈l,∀ y∈l,f x=f y->x=y
 | [],_,x,hx,_,_,_=>by simp at hx
 | a::r,h,x,hx,y,hy,he=>by
  simp only[a6n,a6m] at h
  rcases a5P.1 hx with Na|Na
  .rcases a5P.1 hy with Oz|Oz
   .rw[Na,Oz]
   .exact absurd (a5K.2 ⟨y,Oz,by rw[<-he,Na]⟩) h.1
  .rcases a5P.1 hy with Oz|Oz
   .exact absurd (a5K.2 ⟨x,Na,by rw[he,Oz]⟩) h.1
   .exact xp f h.2 x Na y Oz he
section
variable {c:Ctx} {G:Gh} {s t:af} {a:Act} {w w':World}
def gR(G:Gh)(s t:af)(ρ:List (Nat×Nat))(id:Nat):Value:=match s.ae (du ρ id) with
 | some _=>G.η (du ρ id)
 | none=>match df (t.ae id) with
  | true => .tuple [.slice none 0 0].toArray
  | false => .slice none 0 0
def sA(G:Gh)(s:af)(ρ:List (Nat×Nat))(id:Nat):List Nat:=match s.ae (du ρ id) with
 | some _=>G.φ (du ρ id)
 | none=>[]
theorem pd{ρ:List (Nat×Nat)}{x:Value}{u v:AV}(h:AV.ug ρ s t u v)(hu:C1 c G s.ae w u x):C1 c ⟨G.S,gR G s t ρ,sA G s ρ⟩ t.ae w v x:=by
 unfold AV.ug at h
 split at h
 .trivial
 .split at h
  .have:=l4 h
   subst this
   exact hu
  .split at h
   .subst h
    exact⟨rfl,LG (c:=c) (G:=G) (lk:=s.ae) (τ := .slice _) (v := .nil) rfl (show C1 c G s.ae w .nil x from hu)⟩
   .exact h.elim
  .exact h.elim
 .split at h
  .exact hu
  .exact h.elim
 .split at h
  .have:=l4 h
   subst this
   exact hu
  .exact h.elim
 .split at h
  .split at h
   .rename_i hb
    simp only[a5I] at hb
    have h1:=a5F hb.1.1
    have h2:=a5F hb.1.2
    subst h1 h2
    obtain⟨b,k1,k2,k3⟩:=hu
    refine⟨b,?_,k2,hb.2⟩
    simp only[gR]
    match hl:s.ae (du ρ _),k3 with
    | some o,_=>exact k1
   .exact h.elim
  .exact h.elim
 .split at h
  .split at h
   .rename_i hb
    simp only[a5I] at hb
    have h1:=a5F hb.1
    subst h1
    obtain⟨k1,k2,k3⟩:=hu
    refine⟨?_,hb.2,k3⟩
    simp only[gR]
    match hl:s.ae (du ρ _),k2 with
    | some o,_=>exact k1
   .exact h.elim
  .split at h
   .rename_i hr hn
    refine⟨?_,hr,none,0,0,hu⟩
    simp only[gR,hn,sJ hr]
    exact hu
   .exact h.elim
  .exact h.elim
 .split at h
  .split at h
   .rename_i hb
    simp only[a5I] at hb
    have h1:=a5F hb.1
    subst h1
    obtain⟨k1,l,k2,k3⟩:=hu
    refine⟨hb.2,l,?_,k3⟩
    simp only[gR]
    match hl:s.ae (du ρ _),k1 with
    | some o,_=>exact k2
   .exact h.elim
  .split at h
   .rename_i hr hn
    have hu:x = .slice none 0 0:=hu
    refine⟨hr,[],?_,none,0,0,hu⟩
    simp only[gR,hn,hr]
    rw[hu]
   .exact h.elim
  .exact h.elim
 .split at h
  .split at h
   .rename_i hb
    have h1:=a5F hb
    subst h1
    exact hu
   .exact h.elim
  .exact h.elim
 .split at h
  .split at h
   .rename_i hb
    simp only[a5I] at hb
    have h1:=a5F hb.1
    subst h1
    obtain⟨k1,k2,k3⟩:=hu
    refine⟨?_,hb.2,k3⟩
    simp only[gR]
    match hl:s.ae (du ρ _),k2 with
    | some o,_=>exact k1
   .exact h.elim
  .exact h.elim
 .exact h.elim
theorem BI{ρ:List (Nat×Nat)}:∀ {us vs:List AV} {l:List Value},Ej ρ s t us vs->aN (C1 c G s.ae w) us l->aN (C1 c ⟨G.S,gR G s t ρ,sA G s ρ⟩ t.ae w) vs l
 | [],[],[],_,_=>trivial
 | u::us,v::vs,x::l,h,hu=>by
  simp only[Ej] at h
  split at h
  .exact⟨trivial,BI h hu.2⟩
  .exact⟨pd h.1 hu.1,BI h.2 hu.2⟩
 | [],_::_,_,h,_=>h.elim
 | _::_,[],_,h,_=>h.elim
 | [],[],_::_,_,h=>h.elim
 | _::_,_::_,[],_,h=>h.elim
theorem W3{ρ:List (Nat×Nat)}{x:Value}{u v:AV}(h:AV.a0y ρ s t u v)(hu:CR c G s.ae w u x):CR c ⟨G.S,gR G s t ρ,sA G s ρ⟩ t.ae w v x:=by
 rcases hu.inv with ⟨z,rfl,h1⟩|⟨cs,l,rfl,rfl,h1⟩|h1
 .cases v with
  | any=>trivial
  | aS z' =>
   have:=l4 (show vO z z' from h)
   subst this
   exact hu
  | _=>exact (show False from h).elim
 .cases v with
  | any=>trivial
  | agg vs=>exact⟨l,rfl,BI (show Ej ρ s t cs vs from h) h1⟩
  | _=>exact (show False from h).elim
 .cases u with
  | agg cs=>exact (show False from h1).elim
  | _=>exact (pd (show AV.ug ρ s t _ v by cases v<;>exact h) h1).S8
theorem MH{ρ:List (Nat×Nat)}:∀ {us vs:List AV} {l:List Value},RQ ρ s t us vs->aN (CR c G s.ae w) us l->aN (CR c ⟨G.S,gR G s t ρ,sA G s ρ⟩ t.ae w) vs l
 | [],[],[],_,_=>trivial
 | u::us,v::vs,x::l,h,hu=>by
  simp only[RQ] at h
  split at h
  .exact⟨trivial,MH h hu.2⟩
  .exact⟨W3 h.1 hu.1,MH h.2 hu.2⟩
 | [],_::_,_,h,_=>h.elim
 | _::_,[],_,h,_=>h.elim
 | [],[],_::_,_,h=>h.elim
 | _::_,_::_,[],_,h=>h.elim
theorem TC{u v:FV}(h:UW u v):u=v:=by
 unfold UW at h
 split at h
 .rename_i F hF
  have:=FV.bd hF
  rw[this,h]
 .exact h.elim
theorem Zc{ρ:List (Nat×Nat)}{x:Value}{u v:AV}(h:AV.fit ρ s t u v)(hu:VR c G s.ae w u x):VR c ⟨G.S,gR G s t ρ,sA G s ρ⟩ t.ae w v x:=by
 cases u with
 | agg us =>
  obtain⟨l,h1,h2⟩:=hu
  cases v with
  | any=>trivial
  | agg vs=>exact⟨l,h1,BI (show Ej ρ s t us vs from h) h2⟩
  | aS z =>
   obtain⟨τ,q⟩:=z
   simp only[AV.fit] at h
   split at h
   .rename_i y hy
    have hr:eI w G.S ⟨τ,y⟩ x:=Gt (c:=c) (G:=G) (lk:=s.ae) (w:=w) (x:=x) hy ⟨l,h1,h2⟩
    have h':y=q:=h
    show eI w G.S ⟨τ,q⟩ x
    rw[<-h']
    exact hr
   .exact h.elim
  | _=>exact (show False from h).elim
 | j8 us =>
  cases v with
  | any=>trivial
  | _=>exact (show False from h).elim
 | aS z =>
  cases v with
  | any=>trivial
  | aS z' =>
   have:=l4 (show vO z z' from h)
   subst this
   exact hu
  | _=>exact (show False from h).elim
 | di f us =>
  obtain⟨l,h1,h2⟩:=hu
  cases v with
  | any=>trivial
  | di g vs =>
   simp only[AV.fit] at h
   split at h
   .rename_i hb
    have hb:=a5F hb
    subst hb
    exact⟨l,h1,MH h h2⟩
   .exact h.elim
  | _=>exact (show False from h).elim
 | jE z =>
  cases v with
  | any=>trivial
  | jE z' =>
   have:=TC (show UW z z' from h)
   subst this
   exact hu
  | _=>exact (show False from h).elim
 | any=>cases v<;>first|trivial|exact (show False from h).elim
 | eC=>cases v<;>first|trivial|exact (show False from h).elim
 | nil=>exact (pd (u := .nil) (show AV.ug ρ s t .nil v by cases v<;>exact h) (show C1 c G s.ae w .nil x from hu)).hJ
 | fX z=>exact (pd (u := .fX z) (show AV.ug ρ s t (.fX z) v by cases v<;>exact h) (show C1 c G s.ae w (.fX z) x from hu)).hJ
 | ptr i o=>exact (pd (u := .ptr i o) (show AV.ug ρ s t (.ptr i o) v by cases v<;>exact h) (show C1 c G s.ae w (.ptr i o) x from hu)).hJ
 | row i=>exact (pd (u := .row i) (show AV.ug ρ s t (.row i) v by cases v<;>exact h) (show C1 c G s.ae w (.row i) x from hu)).hJ
 | ei i k o=>exact (pd (u := .ei i k o) (show AV.ug ρ s t (.ei i k o) v by cases v<;>exact h) (show C1 c G s.ae w (.ei i k o) x from hu)).hJ
 | fn f=>exact (pd (u := .fn f) (show AV.ug ρ s t (.fn f) v by cases v<;>exact h) (show C1 c G s.ae w (.fn f) x from hu)).hJ
 | mp i=>exact (pd (u := .mp i) (show AV.ug ρ s t (.mp i) v by cases v<;>exact h) (show C1 c G s.ae w (.mp i) x from hu)).hJ
 | aB i=>exact (pd (u := .aB i) (show AV.ug ρ s t (.aB i) v by cases v<;>exact h) (show C1 c G s.ae w (.aB i) x from hu)).hJ
 | sub i k o z=>exact (pd (u := .sub i k o z) (show AV.ug ρ s t (.sub i k o z) v by cases v<;>exact h) (show C1 c G s.ae w (.sub i k o z) x from hu)).hJ
 | eH i k o z=>exact (pd (u := .eH i k o z) (show AV.ug ρ s t (.eH i k o z) v by cases v<;>exact h) (show C1 c G s.ae w (.eH i k o z) x from hu)).hJ
theorem zw{ρ:List (Nat×Nat)}:∀ {us vs:List AV},x8 ρ s t us vs->us.length=vs.length/\∀ i,vs.getD i .any = .any\/AV.fit ρ s t (us.getD i .any) (vs.getD i .any)
 | [],[],_=>⟨rfl,λ i => .inl (by simp)⟩
 | u::us,v::vs,h=>by
  simp only[x8] at h
  split at h
  .obtain⟨h1,h2⟩:=zw h
   refine⟨by simp[h1],λ i=>?_⟩
   cases i with
   | zero=>exact .inl rfl
   | succ i=>simpa using h2 i
  .obtain⟨h1,h2⟩:=zw h.2
   refine⟨by simp[h1],λ i=>?_⟩
   cases i with
   | zero=>exact .inr h.1
   | succ i=>simpa using h2 i
 | [],_::_,h=>h.elim
 | _::_,[],h=>h.elim
def WJ(aZ:Ty)(ys:List aZ.den)(τ:Ty)(xs:List τ.den):Prop:=∀ (w:World) (η:Value) (fp:List Nat),km w η aZ ys fp->km w η τ xs fp
theorem Ra{aZ:Ty}{ys:List aZ.den}{τ:Ty}{xs:List τ.den}(h:Q9 aZ ys τ xs):WJ aZ ys τ xs:=by
 unfold Q9 at h
 split at h
 .rename_i h1 h2
  have h1:=a6f h1
  have h2:=a6f h2
  subst h1 h2
  have h:=l4 h
  rw[TV.Tk] at h
  cases h
  intro w η fp hT
  obtain⟨v,l,a,cap,q1,q2,q3,q4,q5,q6⟩:=hT
  have e1:(List.map toO ys).length=ys.length:=a6B _
  have e2:((show List O from ys).map toO).map (Ty.aK (.st .oExpr))=ys.map (Ty.aK (.st .expr)):=by
   rw[List.map_map]
   refine a9I λ x _=>?_
   show aR.aK .oExpr (toO x)=aR.aK .expr x
   rw[aR.cr,aR.cr]
   rfl
  refine⟨v,l,a,cap,q1,by rw[q2];exact congrArg (Value.slice a · cap) e1.symm,by exact e1 ▸ q3,q4,by exact e1 ▸ q5,?_⟩
  rcases q6 with ⟨rfl,q7,q8⟩|⟨b,f,t,q7,q8,q9,q10,q11⟩
  .exact .inl ⟨rfl,q7,q8⟩
  .exact .inr ⟨b,f,t,q7,q8,q9,q10,e2 ▸ q11⟩
 .have h:=l4 h
  cases h
  exact λ _ _ _ h=>h
def Y0(ρ:List (Nat×Nat))(s t:af)(id:Nat):av->Prop
 | .box bs=>∃ Z9,s.ae (du ρ id)=some (.box Z9)/\Ej ρ s t Z9 bs
 | .row e τ xs=>s.ae (du ρ id)=some (.row e τ xs)\/(s.ae (du ρ id)=none/\xs=[])
 | .aB τ xs=>(∃ aZ ys,s.ae (du ρ id)=some (.aB aZ ys)/\WJ aZ ys τ xs)\/(s.ae (du ρ id)=none/\xs=[])
 | .map m=>s.ae (du ρ id)=some (.map m)
theorem Sw{a b:MV}(h:Ui a b):a=b:=by
 unfold Ui at h
 split at h
 .rename_i f n hf
  rw[MV.bd hf]
  simp only
  rw[h.1,h.2]
 .exact h.elim
theorem nj{ρ:List (Nat×Nat)}:∀ {l:List (Nat×av)},l5 ρ s t l->∀ id o,(id,o)∈l->Y0 ρ s t id o
 | [],_,id,o,h=>by simp at h
 | (k, .box bs)::r,h,id,o,hm=>by
  simp only[l5] at h
  split at h
  .rename_i Z9 ha
   rcases a5P.1 hm with e|hm
   .simp only[a5H] at e
    obtain⟨rfl,rfl⟩:=e
    exact⟨Z9,ha,h.1⟩
   .exact nj h.2 id o hm
  .exact h.elim
 | (k, .row e τ xs)::r,h,id,o,hm=>by
  simp only[l5] at h
  split at h
  .rename_i e' aZ ys ha
   split at h
   .rename_i he
    have he:=a5F he
    subst he
    rcases a5P.1 hm with e1|hm
    .simp only[a5H] at e1
     obtain⟨rfl,rfl⟩:=e1
     have:=l4 h.1
     cases this
     exact .inl ha
    .exact nj h.2 id o hm
   .exact h.elim
  .rename_i ha
   rcases a5P.1 hm with e1|hm
   .simp only[a5H] at e1
    obtain⟨rfl,rfl⟩:=e1
    exact .inr ⟨ha,h.1⟩
   .exact nj h.2 id o hm
  .exact h.elim
 | (k, .aB τ xs)::r,h,id,o,hm=>by
  simp only[l5] at h
  split at h
  .rename_i aZ ys ha
   rcases a5P.1 hm with e1|hm
   .simp only[a5H] at e1
    obtain⟨rfl,rfl⟩:=e1
    exact .inl ⟨aZ,ys,ha,Ra h.1⟩
   .exact nj h.2 id o hm
  .rename_i ha
   rcases a5P.1 hm with e1|hm
   .simp only[a5H] at e1
    obtain⟨rfl,rfl⟩:=e1
    exact .inr ⟨ha,h.1⟩
   .exact nj h.2 id o hm
  .exact h.elim
 | (k, .map m)::r,h,id,o,hm=>by
  simp only[l5] at h
  split at h
  .rename_i m' ha
   rcases a5P.1 hm with e1|hm
   .simp only[a5H] at e1
    obtain⟨rfl,rfl⟩:=e1
    rw[Sw h.1] at ha
    exact ha
   .exact nj h.2 id o hm
  .exact h.elim
theorem BJ{ρ:List (Nat×Nat)}(h:Inv c G s a w)(hf:Fits ρ s t):∃ G',Inv c G' t a w:=by
 unfold Fits at hf
 split at hf
 case h_2=>exact hf.elim
 case h_1 hb =>
  rw[a5I] at hb
  obtain⟨hb,hb4⟩:=hb
  rw[a5I] at hb
  obtain⟨hb,Qd⟩:=hb
  simp only[a5I] at hb
  obtain⟨hs,ho⟩:=hf
  obtain⟨hlen,M6⟩:=zw hs
  have mT:=nj ho
  have gQ:∀ id b,dS (gR G s t ρ id)=some b->∃ o,s.ae (du ρ id)=some o/\dS (G.η (du ρ id))=some b:=by
   intro id b hb
   unfold gR at hb
   split at hb
   .rename_i o ho;exact⟨o,ho,hb⟩
   .split at hb<;>cases hb
  refine⟨⟨G.S,gR G s t ρ,sA G s ρ⟩,?_⟩
  exact {
   defers:=h.defers
   size:=h.size.trans hlen
   aM:=h.aM,mO:=h.mO,eF:=h.eF,sX:=h.sX,dX:=h.dX
   aw:=λ i=>by
    rcases M6 i with e|e
    .rw[show t.sl i = .any from e];trivial
    .exact Zc e (h.aw i)
   aH:=λ id o aW=>by
    have hof:=mT id o (gC aW)
    cases o with
    | box bs =>
     obtain⟨Z9,h1,h2⟩:=hof
     obtain⟨b,l,ty,k1,k2,k3⟩:=h.aH _ _ h1
     refine⟨b,l,ty,?_,k2,BI h2 k3⟩
     simp only[gR,h1]
     exact k1
    | row e τ xs =>
     rcases hof with h1|⟨h1,rfl⟩
     .obtain⟨l,k1,k2,k3⟩:=h.aH _ _ h1
      refine⟨l,?_,k2,k3⟩
      simp only[gR,h1]
      exact k1
     .refine⟨[],?_,rfl,by simp⟩
      simp only[gR,h1,sJ (show isRow (t.ae id)=true by rw[aW];rfl)]
      exact World.ownsRow_nil w 0 e τ.size
    | aB τ xs=>trivial
    | map m =>
     have h1:s.ae (du ρ id)=some (.map m):=hof
     obtain⟨b,es,clock,k1,k2⟩:=h.aH _ _ h1
     refine⟨b,es,clock,?_,k2⟩
     simp only[gR,h1]
     exact k1
   place:=λ id o b aW jG=>by
    obtain⟨o',h1,h2⟩:=gQ id b jG
    exact h.place _ _ b h1 h2
   apart:=λ id dD o o' b aW B3 jG a3X=>by
    obtain⟨p,h1,h2⟩:=gQ id b jG
    obtain⟨p',h3,h4⟩:=gQ dD b a3X
    have:=h.apart _ _ _ _ b h1 h3 h2 h4
    have Hr:=xp (λ p:Nat×av=>du ρ p.1) (zO hb.2) (id,o) (gC aW) (dD,o') (gC B3) this
    exact congrArg Prod.fst Hr
   aT:=by
    have OA:∀ id b,b∈sA G s ρ id->(∃ o,s.ae (du ρ id)=some o)/\b∈G.φ (du ρ id):=λ id b cw=>by
     unfold sA at cw
     split at cw
     .rename_i o ho;exact⟨⟨o,ho⟩,cw⟩
     .simp at cw
    have vj:∀ id τ xs,t.ae id=some (.aB τ xs)->(∃ aZ ys,s.ae (du ρ id)=some (.aB aZ ys)/\WJ aZ ys τ xs)\/(s.ae (du ρ id)=none/\xs=[]):=λ id τ xs aW=>mT id _ (gC aW)
    have iX:∀ id τ xs b,t.ae id=some (.aB τ xs)->b∈sA G s ρ id->∃ aZ ys,s.ae (du ρ id)=some (.aB aZ ys)/\b∈G.φ (du ρ id):=λ id τ xs b aW cw=>by
     obtain⟨⟨o,ho⟩,h2⟩:=OA id b cw
     rcases vj id τ xs aW with ⟨aZ,ys,h1,_⟩|⟨h1,_⟩
     .exact⟨aZ,ys,h1,h2⟩
     .rw[h1] at ho;cases ho
    exact {
     tr:=λ id τ xs aW=>by
      rcases vj id τ xs aW with ⟨aZ,ys,h1,hle⟩|⟨h1,rfl⟩
      .simp only[gR,sA,h1]
       exact hle _ _ _ (h.aT.tr _ _ _ h1)
      .simp only[gR,sA,h1,show df (t.ae id)=true by rw[aW];rfl]
       exact⟨_,[],none,0,rfl,rfl,by simp,by simp[maxLen],by simp, .inl ⟨rfl,⟨rfl,rfl⟩,rfl⟩⟩
     nd:=λ id τ xs aW=>by
      rcases vj id τ xs aW with ⟨aZ,ys,h1,_⟩|⟨h1,_⟩
      .simp only[sA,h1]
       exact h.aT.nd _ _ _ h1
      .simp only[sA,h1]
       exact a6T
     pl:=λ id τ xs b aW cw=>by
      obtain⟨_,_,h1,h2⟩:=iX id τ xs b aW cw
      obtain⟨q1,q2,q3,q4⟩:=h.aT.pl _ _ _ b h1 h2
      refine⟨q1,q2,q3,λ i o hi vb=>?_⟩
      obtain⟨o',k1,k2⟩:=gQ i b vb
      exact q4 _ o' k1 k2
     ap:=λ id dD τ aZ xs cX b aW B3 zB MS=>by
      obtain⟨_,_,h1,h2⟩:=iX id τ xs b aW zB
      obtain⟨_,_,h3,h4⟩:=iX dD aZ cX b B3 MS
      have:=h.aT.ap _ _ _ _ _ _ b h1 h3 h2 h4
      have Hr:=xp (λ p:Nat×av=>du ρ p.1) (zO hb.2) (id, .aB τ xs) (gC aW) (dD, .aB aZ cX) (gC B3) this
      exact congrArg Prod.fst Hr }
   root:=λ id v hr ht=>by
    have hrg:=h.ka id v hr
    match hl:t.ae id,ht with
    | some (.aB τ xs),_ =>
     have hq:=a6i.1 Qd _ (gC hl)
     simp only[a7x,a5I,a8N,Nat.ble_eq] at hq
     rcases hq with hq|hq|⟨DS,vh⟩
     .omega
     .omega
     .have DS:=a5F DS
      obtain⟨l,h2⟩:=h.root id v hr vh
      refine⟨l,?_⟩
      show gR G s t ρ id=_
      unfold gR
      rw[DS]
      match hs:s.ae id,vh with
      | some (.aB ..),_=>exact h2
   ka:=h.ka
   dF:=λ id v hr ht=>by
    have hrg:=h.fJ id v hr
    match hl:t.ae id,ht with
    | some (.box cs),_ =>
     have hq:=a6i.1 hb4 _ (gC hl)
     simp only[gG,a6g,Bool.false_or,a7x,a5I,a8N] at hq
     rcases hq with hq|⟨DS,vh⟩
     .omega
     .have DS:=a5F DS
      have h2:=h.dF id v hr vh
      show gR G s t ρ id=_
      unfold gR
      rw[DS]
      match hs:s.ae id,vh with
      | some (.box ..),_=>exact h2
   fJ:=h.fJ }
theorem iG(hE:bJ c.P c.E)(lI:c.P.follows .mixedOrders=true):∀ (J:Code) (Λ:Nat->aX) (cur:Nat) (Q:Exit->af->Prop) (G:Gh) (s:af) (a:Act) (w:World),
  Inv c G s a w->cU c.E J Λ cur Q s->J.wp c.P (λ e a w=>∃ G s,Inv c G s a w/\Q e s) a w
 | .skip,Λ,cur,Q,G,s,a,w,h,hr=>wp_skip ⟨G,s,h,hr⟩
 | .region id ops draw,Λ,cur,Q,G,s,a,w,h,hr=>by
  cases draw with
  | true=>exact Me hE lI (Q:=Q .normal) (λ G s a w hI hq=>⟨G,s,hI,hq⟩) h hr
  | false =>
   refine wp_region ?_
   have:=xj hE (ops:=ops) (Q:=Q .normal) (Q':=λ e a w=>∃ G s,Inv c G s a w/\Q e s) (λ G s a w hI hq=>⟨G,s,hI,hq⟩) ops.toList 0 [] G s a w (by simp) h hr
   rw[List.range_eq_range']
   simpa using this
 | .seq x y,Λ,cur,Q,G,s,a,w,h,hr=>by
  simp only[cU] at hr
  split at hr
  case h_2 ι P μ fz dead ins aM os Pq ren sub hL =>
   obtain⟨hx,hy⟩:=hr
   refine wp_seq (a9h (iG hE lI x Λ cur _ G s a w h hx) ?_)
   rintro e a' w' ⟨G',s',hI,hq⟩
   cases e with
   | normal =>
    obtain⟨j,hPj,hF⟩:=hq
    obtain⟨G3,h3⟩:=hI.BL fz
    obtain⟨G4,h4⟩:=BJ h3 hF.ex.choose_spec
    exact iG hE lI y (sub j) cur Q G4 _ a' w' h4 (hy j hPj)
   | _=>exact⟨G',s',hI,hq⟩
  refine wp_seq (a9h (iG hE lI x Λ cur _ G s a w h hr) ?_)
  rintro e a' w' ⟨G',s',hI,hq⟩
  cases e with
  | normal=>exact iG hE lI y Λ cur Q G' s' a' w' hI hq
  | _=>exact⟨G',s',hI,hq⟩
 | .cond x p q,Λ,cur,Q,G,s,a,w,h,hr=>by
  simp only[cU] at hr
  split at hr
  .rename_i t ht
   have hx:=bp h x
   rw[ht] at hx
   have hx:[a.eval x]=[.bool t]:=hx
   simp only[a5L,a5R] at hx
   refine wp_cond hx ?_
   cases t with
   | true=>exact iG hE lI p Λ cur Q G s a w h (hr.1 rfl)
   | false=>exact iG hE lI q Λ cur Q G s a w h (hr.2 rfl)
  .exact hr.elim
 | .block id x,Λ,cur,Q,G,s,a,w,h,hr=>by
  refine wp_block (a9h (iG hE lI x Λ id _ G s a w h hr) ?_)
  rintro e a' w' ⟨G',s',hI,hq⟩
  cases e with
  | exit i =>
   simp only at hq
   simp only[Exit.inBlock]
   split at hq
   .rename_i hi
    rw[a5T (a5F hi)]
    exact⟨G',s',hI,hq⟩
   .rename_i hi
    have:i≠id:=λ e=>by subst e;simp at hi
    rw[a5J this]
    exact⟨G',s',hI,hq⟩
  | _=>exact⟨G',s',hI,hq⟩
 | .loop x,Λ,cur,Q,G,s,a,w,h,hr=>by
  simp only[cU] at hr
  split at hr
  .exact hr.elim
  .rename_i ι P μ fz dead ins aM os Pq ren sub hL
   obtain⟨⟨i0,hP0,hF0⟩,ZM⟩:=hr
   obtain⟨G1,h1⟩:=h.BL fz
   obtain⟨G2,h2⟩:=BJ h1 hF0.ex.choose_spec
   refine wp_loop_ghost (λ n a w=>∃ i G,P i/\μ i=n/\Inv c G (rU s (dead++Code.y7 x) (ins i) aM (os i)) a w) (μ i0) ⟨i0,G2,hP0,rfl,h2⟩ ?_
   rintro n a' w' ⟨i,G',hP,rfl,hI⟩
   refine a9h (iG hE lI x (sub i) cur _ G' _ a' w' hI (ZM i hP)) ?_
   rintro e a'' w'' ⟨G'',s'',a0B,hq⟩
   cases e with
   | normal =>
    obtain⟨j,hPj,bF,hF⟩:=hq
    obtain⟨G3,h3⟩:=a0B.BL fz
    obtain⟨G4,h4⟩:=BJ h3 hF.ex.choose_spec
    exact⟨μ j,bF,j,G4,hPj,rfl,h4⟩
   | _=>exact⟨G'',s'',a0B,hq⟩
 | .exit id,Λ,cur,Q,G,s,a,w,h,hr=>wp_exit ⟨G,s,h,hr⟩
 | .ret,Λ,cur,Q,G,s,a,w,h,hr=>wp_ret ⟨G,s,h,hr⟩
 | .label l,Λ,cur,Q,G,s,a,w,h,hr=>wp_label ⟨G,s,h,hr⟩
 | .rangeFunc ..,_,_,_,_,_,_,_,_,hr=>hr.elim
 | .scope ..,_,_,_,_,_,_,_,_,hr=>hr.elim
 | .goto ..,_,_,_,_,_,_,_,_,hr=>hr.elim
 | .refuse ..,_,_,_,_,_,_,_,_,hr=>hr.elim
end
end Go.Proofs.YtnehkikdlnmebaaGreatDoor

namespace Go.Proofs.YtnehkikdlnmebaaGreatDoor
theorem aN.replicate{α β:Type}{R:α->β->Prop}{a:α}{b:β}(RZ:R a b):∀ n:Nat,aN R (List.replicate n a) (List.replicate n b)
 | 0=>trivial
 | n+1=>⟨RZ,aN.replicate RZ n⟩
theorem aN.vW{α β:Type}{R:α->β->Prop}{Z9:List α}{bs:List β}(h:aN R Z9 bs){a:α}{b:β}(RZ:R a b)(n:Nat):aN R (Z9++List.replicate n a) (bs++List.replicate n b) :=
 h.append (aN.replicate RZ n)
theorem aN.getD{α β:Type}{R:α->β->Prop}{d:α}{e:β}(Xp:R d e):∀ {Z9:List α} {bs:List β},aN R Z9 bs->∀ i:Nat,R (Z9.getD i d) (bs.getD i e)
 | [],[],_,i=>by simpa using Xp
 | a::Z9,b::bs,h,0=>h.1
 | a::Z9,b::bs,h,i+1=>by simpa using aN.getD Xp h.2 i
 | [],_::_,h,_=>h.elim
 | _::_,[],h,_=>h.elim
section
variable {P:Program} {E:Env}
def Wz(P:Program)(w:World)(S:Nat->Prop):Arg->Value->Prop
 | .own _,_=>True
 | .box _,_=>True
 | a,x=>uJ P w S a x
theorem KO{w:World}{S X:Nat->Prop}(hS:oE w S)(hX:∀ b,X b->b<w.heap.size/\¬ S b){fn:Func}{args:List Arg}{cF:List Value}(ha:aN (Wz P w S) args cF)(Kx:(∀ b,¬ X b)\/∀ a∈args,a.F8=true) :
  Inv ⟨P,E,w,X,S,λ _=>none,λ _=>False,λ _=>none⟩ ⟨S,λ _=>undef,λ _=>[]⟩ (aO fn args) { tmps:=cF.toArray++Array.replicate (fn.ntmps - cF.toArray.size) undef,defers:=[] } w:=by
 have hlen:=ha.length
 have M6:∀ v x,v∈args->Wz P w S v x->VR ⟨P,E,w,X,S,λ _=>none,λ _=>False,λ _=>none⟩ ⟨S,λ _=>undef,λ _=>[]⟩ (aO fn args).ae w (L8 v) x:=by
  intro v x hm h
  cases v with
  | val v=>exact h
  | ref v =>
   obtain⟨b,o,cs,h1,h2,h3,h4⟩:=h
   exact⟨b,o,cs,h1, .inr ⟨h2,Kx.elim (λ q=>⟨q b,λ z=>z⟩) λ q=>absurd (q _ hm) (by simp[Arg.F8])⟩,h3,h4⟩
  | fn f=>exact h
  | di v =>
   obtain⟨f,gK,l,h1,h2,h3⟩:=h
   refine⟨f,gK,l,h1,h2,h3.imp λ u y _ hy=>?_⟩
   cases u with
   | val v=>exact hy
   | ref v =>
    obtain⟨b,o,cs,k1,k2,k3,k4⟩:=hy
    exact⟨b,o,cs,k1, .inr ⟨k2,Kx.elim (λ q=>⟨q b,λ z=>z⟩) λ q=>absurd (q _ hm) (by simp[Arg.F8])⟩,k3,k4⟩
   | fn f=>exact hy
   | di v=>exact hy.elim
   | own v=>exact hy.elim
   | box k=>exact hy.elim
  | own v=>trivial
  | box k=>trivial
 exact {
  defers:=rfl
  size:=by simp[aO,hlen]
  aM:=bX.refl _ _
  mO:=⟨λ b h=>(hX b h).1,λ g hg=>⟨(hS.2 g hg).1,λ q=>(hX g q).2 (hS.2 g hg).1,hS.1 g (hS.2 g hg).1,(hS.2 g hg).2⟩⟩
  eF:=λ b _ _=>a7N
  sX:=λ b hs=>hs
  dX:=hS.1
  aw:=λ i=>by
   have h1:aN (λ v x=>VR ⟨P,E,w,X,S,λ _=>none,λ _=>False,λ _=>none⟩ ⟨S,λ _=>undef,λ _=>[]⟩ (aO fn args).ae w v x) (args.map L8) cF:=aN.eB _ (ha.imp λ v x hm h=>M6 v x hm h)
   have h2:=aN.getD (d:=AV.any) (e:=undef) (show VR ⟨P,E,w,X,S,λ _=>none,λ _=>False,λ _=>none⟩ ⟨S,λ _=>undef,λ _=>[]⟩ (aO fn args).ae w .any undef from trivial) (h1.vW (a:=AV.any) (b:=undef) (show VR ⟨P,E,w,X,S,λ _=>none,λ _=>False,λ _=>none⟩ ⟨S,λ _=>undef,λ _=>[]⟩ (aO fn args).ae w .any undef from trivial) (fn.ntmps - args.length)) i
   have e1:(aO fn args).sl i=(args.map L8++List.replicate (fn.ntmps - args.length) AV.any).getD i AV.any:=rfl
   have e2:(cF.toArray++Array.replicate (fn.ntmps - cF.toArray.size) undef).getD i undef=(cF++List.replicate (fn.ntmps - args.length) undef).getD i undef:=by
    rw[a6s,a6o,<-a9y]
    simp[hlen]
   rw[e1,e2]
   exact h2
  aH:=λ id o h=>by cases h
  place:=λ id o b h=>by cases h
  apart:=λ id dD o o' b h=>by cases h
  aT:=⟨(λ id τ xs h=>by cases h),(λ id τ xs h=>by cases h),(λ id τ xs b h=>by cases h),(λ id dD τ aZ xs cX b h=>by cases h)⟩
  root:=λ id v h=>by cases h
  ka:=λ id v h=>by cases h
  dF:=λ id v h=>by cases h
  fJ:=λ id v h=>by cases h }
theorem Uz{w:World}{S:Nat->Prop}(hS:oE w S){fn:Func}{args:List Arg}{cF:List Value}(ha:aN (uJ P w S) args cF) :
  Inv ⟨P,E,w,λ _=>False,S,λ _=>none,λ _=>False,λ _=>none⟩ ⟨S,λ _=>undef,λ _=>[]⟩ (aO fn args) { tmps:=cF.toArray++Array.replicate (fn.ntmps - cF.toArray.size) undef,defers:=[] } w :=
 KO hS (λ _ h=>h.elim) (ha.imp λ v x _ h=>by
  cases v with
  | own v=>trivial
  | box k=>exact h.elim
  | _=>exact h) (.inl λ _ h=>h)
def qq(tmps:Array Value):ResultVar->Sem Value
 | .tmp t=>pure (tmps.getD t undef)
 | .cell a t=>do loadVar t (<-asAddr (tmps.getD a undef))
theorem xd(fn:Func)(tmps:Array Value):results fn tmps=(do
  let vs <-fn.results.mapM (qq tmps)
  pure (if h:vs.size=1 then vs[0] else .tuple vs)):=by
 unfold results
 congr 1
theorem H3(hE:bJ P E){c:Ctx}(Qi:c.P=P)(R1:c.E=E){G:Gh}{s:af}{a:Act}{w:World}(h:Inv c G s a w):∀ {rs:List ResultVar} {Ts:List TypeId} {vs:List TV},JJ E s rs Ts=some vs ->
  ∃ xs,(rs.mapM (qq a.tmps)).run P w = .ok xs w/\aN (eI w (SX G s.ae)) vs xs
 | [],[],vs,hr=>by
  simp only[JJ,a5E] at hr
  subst hr
  exact⟨[],by simp,trivial⟩
 | r::rs,T::Ts,vs,hr=>by
  simp only[JJ] at hr
  split at hr
  .rename_i τ q hT
   split at hr
   .rename_i x hx
    split at hr
    .rename_i l hl
     simp only[a5E] at hr
     subst hr
     obtain⟨xs,h1,h2⟩:=H3 hE Qi R1 h hl
     cases r with
     | tmp t =>
      refine⟨a.tmps.getD t undef::xs,by simp[a8m,qq,h1],y6 h.aT h.aH (Cs λ _ _ h=>h) hx (bp h (.tmp t)),h2⟩
     | cell p t =>
      simp only at hx
      split at hx
      .rename_i hb
       have hb:=a5F hb
       subst hb
       unfold deref at hx
       split at hx
       .rename_i u hu
        obtain⟨b,o,cs,k1,k2,k3,k4⟩:=rk h.aH (Cs λ _ _ h=>h) hu (bp h (.tmp p))
        have cS:=nL hE hT k2 k3
        have k1':a.tmps.getD p undef = .pointer (some ⟨b,o,none⟩):=k1
        refine⟨DW τ cs::xs,?_,y6 h.aT h.aH (Cs λ _ _ h=>h) hx k4,h2⟩
        simp only[Instr.loadAt,Instr.sureAddr,a6d,a6e,a5S] at cS
        simp only[a8m,qq,k1',asAddr,a6d,a6e,a5S,cS,h1]
       .cases hx
      .cases hx
    .cases hr
   .cases hr
  .cases hr
 | [],_::_,_,hr=>by cases hr
 | _::_,[],_,hr=>by cases hr
theorem Yp{w:World}{S:Nat->Prop}:∀ {vs:List TV} {xs:List Value},aN (eI w S) vs xs->D5 w S vs (if h:xs.toArray.size=1 then xs.toArray[0] else .tuple xs.toArray)
 | [],[],_=>⟨[],by simp,trivial⟩
 | [v],[x],h=>by simpa [D5] using h.1
 | v::u::r,x::y::z,h=>⟨x::y::z,by simp,h⟩
 | [],_::_,h=>h.elim
 | _::_,[],h=>h.elim
 | [_],_::_::_,h=>h.2.elim
 | _::_::_,[_],h=>h.2.elim
theorem O4(hE:bJ P E)(lI:P.follows .mixedOrders=true){f:FuncId}{fn:Func}{J:Code}(hf:P.funcs[f]?=some fn)(hb:fn.body=some J)(Λ:Nat->aX){args:List Arg}{post:List TV->Prop}
  (h:cU E J Λ 0 (bC E fn post) (aO fn args)):bD P f args post:=by
 intro w S cF hS ha
 refine a9S hf hb ?_
 have hinv:=Uz (P:=P) (E:=E) (fn:=fn) hS ha
 refine a9h (iG (c:=⟨P,E,w,λ _=>False,S,λ _=>none,λ _=>False,λ _=>none⟩) hE lI J Λ 0 _ _ _ _ w hinv h) ?_
 have fin:∀ (e:Exit) (a:Act) (w':World),(e = .normal\/e = .ret)->(∃ G s,Inv ⟨P,E,w,λ _=>False,S,λ _=>none,λ _=>False,λ _=>none⟩ G s a w'/\bC E fn post e s) ->
   a.defers=[]/\∃ v,(results fn a.tmps).run P w' = .ok v w'/\∃ x S' res,Ending.returned v = .returned x/\post res/\bX (λ _=>False) w w'/\(∀ b,b<w.heap.size->(S' b↔S b))/\(∀ b,S' b->b<w'.heap.size)/\D5 w' S' res x:=by
  rintro e a w' he ⟨G,s,hI,hp⟩
  have Qn:∃ vs,JJ E s fn.results.toList fn.resultTypes.toList=some vs/\post vs:=by
   rcases he with rfl|rfl <;>
   .simp only[bC] at hp
    split at hp
    .rename_i vs zG
     exact⟨vs,zG,hp⟩
    .exact hp.elim
  obtain⟨vs,zG,M3⟩:=Qn
  obtain⟨xs,h1,h2⟩:=H3 hE (c:=⟨P,E,w,λ _=>False,S,λ _=>none,λ _=>False,λ _=>none⟩) rfl rfl hI zG
  refine⟨hI.defers,(if h:xs.toArray.size=1 then xs.toArray[0] else .tuple xs.toArray),?_,_,SX G s.ae,vs,rfl,M3,hI.aM,λ b hb=>?_,λ b hb=>?_,Yp h2⟩
  .rw[xd,a8a]
   simp only[a6d,a9u,h1]
   rfl
  .constructor
   .rintro (hs|⟨id,e',τ,ys,aW,jG⟩|⟨id,τ,ys,aW,jG⟩)
    .exact (hI.eF b hb (λ q=>q)).1 hs
    .rcases (hI.place id _ b aW jG).1 with Qk|hx
     .have:w.heap.size<=b:=Qk
      omega
     .exact hx.elim
    .rcases (hI.aT.pl id _ _ b aW jG).1 with Qk|hx
     .have:w.heap.size<=b:=Qk
      omega
     .exact hx.elim
   .exact λ hs => .inl ((hI.eF b hb (λ q=>q)).2 hs)
  .rcases hb with hs|⟨id,e',τ,ys,aW,jG⟩|⟨id,τ,ys,aW,jG⟩
   .exact hI.dX b hs
   .exact (hI.place id _ b aW jG).2.2
   .exact (hI.aT.pl id _ _ b aW jG).2.2.1
 intro e a w' hq
 cases e with
 | normal=>exact fin .normal a w' (.inl rfl) hq
 | ret=>exact fin .ret a w' (.inr rfl) hq
 | exit i=>obtain⟨_,_,_,hp⟩:=hq;exact hp.elim
 | goto l=>obtain⟨_,_,_,hp⟩:=hq;exact hp.elim
 | panic ch=>obtain⟨_,_,_,hp⟩:=hq;exact hp.elim
 | outgrown=>obtain⟨_,_,_,hp⟩:=hq;exact hp.elim
end
end Go.Proofs.YtnehkikdlnmebaaGreatDoor

namespace Go.Proofs.YtnehkikdlnmebaaGreatDoor
def tB(E:Env)(s:af):List ResultVar->List TypeId->Option (List TV×List Nat)
 | [],[]=>some ([],[])
 | r::rs,T::Ts=>match ae E.ty T with
  | some (
      τ,_)=>match (match r with
    | .tmp t=>Ga s.ae τ (s.eval (.tmp t))
    | .cell p t=>match Nat.beq t T with
     | true=>match sG s.ae τ (s.eval (.tmp p)) with
      | some u=>Ga s.ae τ u
      | none=>none
     | false=>none) with
   | some (x,i)=>match tB E s rs Ts with
    | some (l,j)=>some (⟨τ,x⟩::l,i++j)
    | none=>none
   | none=>none
  | none=>none
 | _,_=>none
def mn(E:Env)(fn:Func)(post:List TV->Prop)(e:Exit)(s:af):Prop :=
 match e with
 | .ret | .normal=>match tB E s fn.results.toList fn.resultTypes.toList with
  | some (vs,ids)=>match nodupB ids with
   | true=>post vs
   | false=>False
  | none=>False
 | _=>False
section
variable {P:Program} {E:Env}
theorem zY{c:Ctx}(hE:bJ c.P c.E)(Qi:c.P=P)(R1:c.E=E){G:Gh}{s:af}{a:Act}{w:World}(h:Inv c G s a w):∀ {rs:List ResultVar} {Ts:List TypeId} {vs:List TV} {ids:List Nat},tB E s rs Ts=some (vs,ids)->ids.Nodup ->
  ∃ xs fp,(rs.mapM (qq a.tmps)).run P w = .ok xs w/\Gl w vs xs fp/\fp.Nodup/\∀ b∈fp,uL G s.ae ids b
 | [],[],vs,ids,hr,_=>by
  simp only[tB,a5E,a5H] at hr
  obtain⟨rfl,rfl⟩:=hr
  exact⟨[],[],by simp,rfl,a6T,by simp⟩
 | r::rs,T::Ts,vs,ids,hr,dC=>by
  simp only[tB] at hr
  split at hr
  case h_2=>cases hr
  case h_1 τ q hT =>
  split at hr
  case h_2=>cases hr
  case h_1 x i hx =>
  split at hr
  case h_2=>cases hr
  case h_1 l j hl =>
  simp only[a5E,a5H] at hr
  obtain⟨rfl,rfl⟩:=hr
  rw[a5Y] at dC
  obtain⟨n1,n2,n3⟩:=dC
  obtain⟨xs,fp,h1,h2,h3,h4⟩:=zY hE Qi R1 h hl n2
  cases r with
  | cell p t =>
   simp only at hx
   split at hx
   case h_2=>cases hx
   case h_1 hb =>
   have hb:=a5F hb
   subst hb
   split at hx
   case h_2=>cases hx
   case h_1 u hu =>
   obtain⟨b,o,cs,q1,q2,q3,q4⟩:=rk h.aH (λ _ _ h=>h) hu (bp h (.tmp p))
   subst Qi R1
   have cS:=nL hE hT q2 q3
   have q1':a.tmps.getD p undef = .pointer (some ⟨b,o,none⟩):=q1
   obtain⟨f1,k1,k2,k3⟩:=tC h hx q4 n1
   refine⟨DW τ cs::xs,f1++fp,?_,⟨f1,fp,rfl,k1,h2⟩,dV k2 h3 λ b hb cw=>h.jX (k3 b hb) (h4 b cw) (λ x hx y hy=>n3 x hx y hy),λ b hb=>?_⟩
   .simp only[Instr.loadAt,Instr.sureAddr,a6d,a6e,a5S] at cS
    simp only[a8m,qq,q1',asAddr,a6d,a6e,a5S,cS,h1]
   .rcases a5G.1 hb with hb|hb
    .exact (k3 b hb).mono λ k hk=>by simp[hk]
    .exact (h4 b hb).mono λ k hk=>by simp[hk]
  | tmp t =>
   obtain⟨f1,k1,k2,k3⟩:=tC h hx (bp h (.tmp t)) n1
   refine⟨a.tmps.getD t undef::xs,f1++fp,by simp[a8m,qq,h1],⟨f1,fp,rfl,k1,h2⟩,dV k2 h3 λ b hb cw=>h.jX (k3 b hb) (h4 b cw) (λ x hx y hy=>n3 x hx y hy),λ b hb=>?_⟩
   rcases a5G.1 hb with hb|hb
   .exact (k3 b hb).mono λ k hk=>by simp[hk]
   .exact (h4 b hb).mono λ k hk=>by simp[hk]
 | [],_::_,_,_,hr,_=>by cases hr
 | _::_,[],_,_,hr,_=>by cases hr
theorem Pk{w:World}:∀ {vs:List TV} {xs:List Value} {fp:List Nat},Gl w vs xs fp->EN w vs (if h:xs.toArray.size=1 then xs.toArray[0] else .tuple xs.toArray) fp
 | [],[],fp,h=>⟨[],by simp,h⟩
 | [v],[x],fp,h=>by
  obtain⟨f1,f2,rfl,h1,h2⟩:=h
  have h2:f2=[]:=h2
  subst h2
  simpa [EN] using h1
 | v::u::r,x::y::z,fp,h=>⟨x::y::z,by simp,h⟩
 | [],_::_,_,h=>h.elim
 | _::_,[],_,h=>h.elim
 | [_],_::_::_,_,h=>by obtain⟨_,_,_,_,h⟩:=h;exact h.elim
 | _::_::_,[_],_,h=>by obtain⟨_,_,_,_,h⟩:=h;exact h.elim
theorem nJ:∀ {us:List TV} {id:Nat} {p:Nat×av},p∈bS id us->id<=p.1/\p.1<id+us.length
 | [],id,p,h=>by cases h
 | u::us,id,p,h=>by
  rcases a5G.1 h with h|h
  .have:=KD h;simp only[a5O];omega
  .have:=nJ h;simp only[a5O];omega
theorem vI:∀ {us:List TV} {id:Nat},((bS id us).map (·.1)).Nodup
 | [],id=>a6T
 | u::us,id=>by
  simp only[bS,a7l]
  refine dV ?_ vI λ x hx yl=>?_
  .obtain⟨τ,y⟩:=u
   cases τ<;>simp[ga]
  .obtain⟨p,hp,rfl⟩:=a5K.1 hx
   obtain⟨q,hq,e⟩:=a5K.1 yl
   have h1:=KD hp
   have h2:=nJ hq
   omega
theorem VA(v:TV):v.cells.length<=100:=by
 obtain⟨τ,y⟩:=v
 cases τ with
 | st s =>
  show (s.cells y).length<=100
  rw[aR.jT]
  exact Ty.size_le (.st s)
 | _=>exact Nat.succ_le_of_lt (Nat.zero_lt_of_lt (by decide:0<100))
theorem xC{c:Ctx}{a:Act}{w:World}{S:Nat->Prop}(hR:∀ j,c.R j=none):∀ {Z9:List Arg} {xs:List Value} {fp:List Nat} {p:Nat} {G:Gh} {s:af},Inv c G s a w->tF P w S Z9 xs fp->fp.Nodup->Fr c G s.ae w fp ->
  (∀ i x,xs[i]?=some x->a.tmps.getD (p+i) undef=x)->p+Z9.length<=s.aw.length->(∀ id o,s.ae id=some o->id<1000000+100 * p)->∃ G',Inv c G' (sC p Z9 s) a w
 | [],xs,fp,p,G,s,h,_,_,_,_,_,_=>⟨G,h⟩
 | b::Z9,[],fp,p,G,s,h,hA,_,_,_,_,_=>hA.elim
 | b::Z9,x::xs,fp,p,G,s,h,hA,dC,hF,hx,hlen,aW=>by
  obtain⟨f1,f2,rfl,hb,hA⟩:=hA
  rw[a5Y] at dC
  obtain⟨n1,n2,n3⟩:=dC
  simp only[a5O] at hlen
  have yl:∀ i y,xs[i]?=some y->a.tmps.getD (p+1+i) undef=y:=λ i y hi=>by
   have:=hx (i+1) y (by simpa using hi)
   rwa [show p+(i+1)=p+1+i by omega] at this
  have other:f1=[]->sC p (b::Z9) s=sC (p+1) Z9 s->∃ G',Inv c G' (sC p (b::Z9) s) a w:=λ hf e=>by
   subst hf
   rw[e]
   exact xC hR h hA n2 (λ q hq=>hF q (by simp[hq])) yl (by omega) λ id o ho=>by have:=aW id o ho;omega
  cases b with
  | own v =>
   have hO:AT w v x f1:=hb
   obtain⟨G1,FJ,l1,i1,e1,t1,TF⟩:=bn.PI (id:=1000000+100 * p) h hO n1 (λ q hq=>hF q (by simp[hq]))
    (λ q hq=>by
     cases vh:s.ae q.1 with
     | none=>rfl
     | some o=>have h1:=aW _ o vh;have h2:=nJ hq;omega) vI (λ j _=>hR j)
   have cu:af.ae { aw:=s.aw.set p (kk (1000000+100 * p) v),aH:=bS (1000000+100 * p) v.cells++s.aH }=FJ:=by
    funext i
    rw[l1 i]
    exact ql _ _ i
   have hI:Inv c G1 { aw:=s.aw.set p (kk (1000000+100 * p) v),aH:=bS (1000000+100 * p) v.cells++s.aH } a w:=by
    unfold Inv
    rw[cu,show af.sl { aw:=s.aw.set p (kk (1000000+100 * p) v),aH:=bS (1000000+100 * p) v.cells++s.aH }=lL s.aw.length s.sl (some p) (kk (1000000+100 * p) v) from rv s.aw p _ _,
     show ({ aw:=s.aw.set p (kk (1000000+100 * p) v),aH:=bS (1000000+100 * p) v.cells++s.aH }:af).aw.length=s.aw.length from by simp]
    exact { i1 with
     aw:=λ i=>by
      unfold lL
      split
      .rename_i hi
       obtain⟨e,_⟩:=hi
       simp only[a5E] at e
       subst e
       rw[show a.tmps.getD p undef=x from hx 0 x rfl]
       exact t1.hJ
      .exact i1.aw i }
   obtain⟨G2,h2⟩:=xC hR hI hA n2 (by
    rw[cu]
    exact TF f2 (λ q hq=>hF q (by simp[hq])) λ q hq Sf=>n3 q Sf q hq rfl) yl (by simp;omega) (λ id o ho=>by
     rw[cu,l1 id] at ho
     unfold iJ at ho
     split at ho
     .rename_i o' cM
      have h1:=nJ (gC cM)
      have h2:=VA v
      simp only at h1
      omega
     .have:=aW id o ho;omega)
   exact⟨G2,h2⟩
  | val v=>exact other hb.1 rfl
  | ref v=>exact other hb.1 rfl
  | fn v=>exact other hb.1 rfl
  | di v=>exact other hb.1 rfl
  | box k=>exact other hb.1 rfl
theorem tF.vU{w:World}{S:Nat->Prop}:∀ {Z9:List Arg} {xs:List Value} {fp:List Nat},tF P w S Z9 xs fp->aN (Wz P w S) Z9 xs
 | [],[],_,_=>trivial
 | a::Z9,x::xs,_,h=>by
  obtain⟨f1,f2,_,h1,h2⟩:=h
  refine⟨?_,tF.vU h2⟩
  cases a with
  | own v=>trivial
  | box k=>exact h1.2.elim
  | _=>exact h1.2
 | [],_::_,_,h=>h.elim
 | _::_,[],_,h=>h.elim
theorem SZ{w:World}{S:Nat->Prop}(hS:oE w S){fn:Func}{args:List Arg}{cF:List Value}{fa:List Nat}(ha:tF P w S args cF fa)(Kx:fa=[]\/∀ a∈args,a.F8=true)(dC:fa.Nodup)(DQ:∀ b∈fa,b<w.heap.size/\¬ S b) :
  ∃ G,Inv ⟨P,E,w,λ b=>b∈fa,S,λ _=>none,λ _=>False,λ _=>none⟩ G (rz fn args) { tmps:=cF.toArray++Array.replicate (fn.ntmps - cF.toArray.size) undef,defers:=[] } w:=by
 have h0:=KO (P:=P) (E:=E) (fn:=fn) hS (X:=λ b=>b∈fa) DQ ha.vU (Kx.imp_left λ e b hb=>by rw[e] at hb;cases hb)
 have hlen:=ha.vU.length
 refine xC (S:=S) (λ _=>rfl) h0 ha dC (λ b hb=>⟨.inr hb,(DQ b hb).2,(DQ b hb).1,λ i o h=>(by cases h),λ j τ xs h=>by cases h⟩) (λ i x hi=>?_) (by simp[aO]<;>omega) (λ id o h=>by cases h)
 rw[Nat.zero_add,Array.getD_eq_getD_getElem?,Array.getElem?_append_left (by simpa using (List.getElem?_eq_some_iff.1 hi).1)]
 simp[hi]
theorem Oq(hE:bJ P E)(lI:P.follows .mixedOrders=true){f:FuncId}{fn:Func}{J:Code}(hf:P.funcs[f]?=some fn)(hb:fn.body=some J)(Λ:Nat->aX){args:List Arg}{res:List TV}{post:List TV->Prop}(M3:∀ vs,post vs->vs=res)
  (h:cU E J Λ 0 (mn E fn post) (rz fn args)):ng P f args res:=by
 intro w S cF fa hS ha Kx tK DQ
 refine a9S hf hb ?_
 obtain⟨G0,hinv⟩:=SZ (P:=P) (E:=E) (fn:=fn) hS ha Kx tK DQ
 refine a9h (iG (c:=⟨P,E,w,λ b=>b∈fa,S,λ _=>none,λ _=>False,λ _=>none⟩) hE lI J Λ 0 _ _ _ _ w hinv h) ?_
 have fin:∀ (e:Exit) (a:Act) (w':World),(e = .normal\/e = .ret)->(∃ G s,Inv ⟨P,E,w,λ b=>b∈fa,S,λ _=>none,λ _=>False,λ _=>none⟩ G s a w'/\mn E fn post e s) ->
   a.defers=[]/\∃ v,(results fn a.tmps).run P w' = .ok v w'/\∃ x fp,Ending.returned v = .returned x/\bX (λ b=>b∈fa) w w'/\EN w' res x fp/\fp.Nodup/\∀ b∈fp,b∈fa\/(w.heap.size<=b/\b<w'.heap.size):=by
  rintro e a w' he ⟨G,s,hI,hp⟩
  have Qn:∃ vs ids,tB E s fn.results.toList fn.resultTypes.toList=some (vs,ids)/\ids.Nodup/\vs=res:=by
   rcases he with rfl|rfl <;>
   .simp only[mn] at hp
    split at hp
    .rename_i vs ids zG
     split at hp
     .rename_i hn
      exact⟨vs,ids,zG,dn hn,M3 vs hp⟩
     .exact hp.elim
    .exact hp.elim
  obtain⟨vs,ids,zG,hn,rfl⟩:=Qn
  obtain⟨xs,fp,h1,h2,h3,h4⟩:=zY (P:=P) (E:=E) (c:=⟨P,E,w,λ b=>b∈fa,S,λ _=>none,λ _=>False,λ _=>none⟩) hE rfl rfl hI zG hn
  refine⟨hI.defers,(if h:xs.toArray.size=1 then xs.toArray[0] else .tuple xs.toArray),?_,_,fp,rfl,hI.aM,Pk h2,h3,λ b hb=>?_⟩
  .rw[xd,a8a]
   simp only[a6d,a9u,h1]
   rfl
  .obtain⟨id,hi,hq⟩:=h4 b hb
   rcases hq with ⟨τ,ys,q1,q2⟩|⟨e',τ,ys,q1,q2⟩
   .obtain⟨p1,_,p3,_⟩:=hI.aT.pl id τ ys b q1 q2
    exact p1.elim (λ q => .inr ⟨q,p3⟩) .inl
   .obtain⟨p1,_,p3⟩:=hI.place id _ b q1 q2
    exact p1.elim (λ q => .inr ⟨q,p3⟩) .inl
 intro e a w' hq
 cases e with
 | normal=>exact fin .normal a w' (.inl rfl) hq
 | ret=>exact fin .ret a w' (.inr rfl) hq
 | exit i=>obtain⟨_,_,_,hp⟩:=hq;exact hp.elim
 | goto l=>obtain⟨_,_,_,hp⟩:=hq;exact hp.elim
 | panic ch=>obtain⟨_,_,_,hp⟩:=hq;exact hp.elim
 | outgrown=>obtain⟨_,_,_,hp⟩:=hq;exact hp.elim
end
end Go.Proofs.YtnehkikdlnmebaaGreatDoor

namespace Go.Proofs.YtnehkikdlnmebaaGreatDoor
def ns:List CK->List TV->Nat->List AV
 | .d _::ks,v::ds,n => .aS v::ns ks ds n
 | .o _::ks,v::ds,n=>mj n v::ns ks ds (n+1)
 | .p j::ks,ds,n => .ptr (400000+j) 0::ns ks ds n
 | _,_,_=>[]
def nr:Nat->List (List CK)->List (List TV)->Nat->List (Nat×av)
 | k,ks::sh,ds::bO,n=>(400000+k, .box (ns ks ds n))::nr (k+1) sh bO (n+(dH ks ds).length)
 | _,_,_,_=>[]
def lO:List (List CK)->List (List TV)->List TV
 | ks::sh,ds::bO=>dH ks ds++lO sh bO
 | _,_=>[]
def PN:Arg->AV
 | .box k => .ptr (400000+k) 0
 | a=>L8 a
def cB(fn:Func)(args:List Arg)(sh:List (List CK))(bO:List (List TV)):af :=
 { aw:=args.map PN++List.replicate (fn.ntmps - args.length) .any,aH:=nr 0 sh bO 1000000++bS 1000000 (lO sh bO) }
def ZV(n:Nat):List (Nat×Nat):=(List.range n).map λ k=>(k,400000+k)
def gS(E:Env)(fn:Func)(sh:List (List CK))(post:List TV->List (List TV)->Prop)(e:Exit)(s:af):Prop :=
 match e with
 | .ret | .normal=>match tB E s fn.results.toList fn.resultTypes.toList with
  | some (vs,ids)=>match jZ s.ae sh 0 (ZV sh.length) with
   | some (bO,B7,m)=>match nodupB (ids++B7)&&Nat.beq m.length sh.length with
    | true=>post vs bO
    | false=>False
   | none=>False
  | none=>False
 | _=>False
theorem V7:∀ (n:Nat) (k:Nat),ae (ZV n) k=if k<n then some (400000+k) else none:=by
 intro n k
 have key:∀ (l:List Nat),l.Nodup->ae (l.map λ k=>(k,400000+k)) k=if k∈l then some (400000+k) else none:=by
  intro l
  induction l with
  | nil=>intro _;rfl
  | cons j l ih =>
   intro hn
   simp only[a6m] at hn
   rw[a6n,qm,ih hn.2]
   by_cases hk:k=j
   .subst hk;simp
   .simp[hk]
 rw[ZV,key _ a8I]
 simp
section
variable {P:Program} {E:Env}
theorem OT{w:World}{S:Nat->Prop}{B:Nat->Nat}:∀ {sh:List (List CK)} {k:Nat} {bO:List (List TV)} {n:Nat} {fa:List Nat},kc w S B k sh bO fa ->
  ∃ xs,dy w ((lO sh bO).map TV.aK) xs fa/\(∀ u∈lO sh bO,u.τ.agg=false) /\
   ∀ p∈nr k sh bO n,∃ j cs l t,p=(400000+j, .box cs)/\k<=j/\j<k+sh.length/\w.heap[B j]?=some (.cells l.toArray t (0,0))/\l.length=cs.length /\
    ∀ (c:Ctx) (G:Gh) (lk:Nat->Option av) (N:Nat),(∀ b,S b->G.S b)->(∀ j,j<N->G.η (400000+j) = .pointer (some ⟨B j,0,none⟩)/\gG (lk (400000+j))=true)->(∀ ks∈sh,∀ j,CK.p j∈ks->j<N) ->
     aN (C1 c G lk w) (ca n (lO sh bO)) xs->aN (C1 c G lk w) cs l
 | [],k,[],n,fa,h=>⟨[],⟨rfl,h⟩,by simp[lO],by simp[nr]⟩
 | ks::sh,k,ds::bO,n,fa,h=>by
  obtain⟨l,t,f1,f2,rfl,hw,hB,hbs⟩:=h
  obtain⟨xs,q1,q2,q3⟩:=OT (n:=n+(dH ks ds).length) hbs
  obtain⟨o1,o2,o3⟩:=hB.uo
  have hlen:∀ (us:List TV) (n:Nat),(ca n us).length=us.length:=λ us=>by
   induction us with
   | nil=>intro n;rfl
   | cons u us ih=>intro n;simp[ca,ih]
  have BV:∀ {ks:List CK} {ds:List TV} {l:List Value} {fp:List Nat} {n:Nat},mP w S B ks ds l fp->l.length=(ns ks ds n).length:=by
   intro ks
   induction ks with
   | nil=>intro ds l fp n h;cases ds<;>cases l<;>first|rfl|cases h
   | cons k0 ks ih =>
    intro ds l fp n h
    cases l with
    | nil=>cases k0<;>cases ds<;>cases h
    | cons x l =>
     cases k0 with
     | d τ =>
      cases ds with
      | nil=>cases h
      | cons v ds=>simp[ns,ih h.2 (n:=n)]
     | o τ =>
      cases ds with
      | nil=>cases h
      | cons v ds=>obtain⟨_,_,_,_,h2⟩:=h;simp[ns,ih h2 (n:=n+1)]
     | p j =>
      have h:x = .pointer (some ⟨B j,0,none⟩)/\mP w S B ks ds l fp:=by cases ds<;>exact h
      simp[ns,ih h.2 (n:=n)]
  have MT:∀ (c:Ctx) (G:Gh) (lk:Nat->Option av) (N:Nat),(∀ b,S b->G.S b)->(∀ j,j<N->G.η (400000+j) = .pointer (some ⟨B j,0,none⟩)/\gG (lk (400000+j))=true) ->
    ∀ {ks:List CK} {ds:List TV} {l:List Value} {fp:List Nat} {n:Nat},mP w S B ks ds l fp->(∀ j,CK.p j∈ks->j<N)->aN (C1 c G lk w) (ca n (dH ks ds)) (mL ks l)->aN (C1 c G lk w) (ns ks ds n) l:=by
   intro c G lk N hS hN ks
   induction ks with
   | nil=>intro ds l fp n h _ _;cases ds<;>cases l<;>first|exact trivial|cases h
   | cons k0 ks ih =>
    intro ds l fp n h hp hc
    cases l with
    | nil=>cases k0<;>cases ds<;>cases h
    | cons x l =>
     cases k0 with
     | d τ =>
      cases ds with
      | nil=>cases h
      | cons v ds =>
       obtain⟨⟨e,h1,h2⟩,h3⟩:=h
       exact⟨⟨by rw[e];exact h1,Rd.aM hS (λ _ _=>rfl) _ h2⟩,ih h3 (λ j hj=>hp j (by simp[hj])) hc⟩
     | o τ =>
      cases ds with
      | nil=>cases h
      | cons v ds =>
       obtain⟨_,_,_,_,h2⟩:=h
       exact⟨hc.1,ih h2 (λ j hj=>hp j (by simp[hj])) hc.2⟩
     | p j =>
      have h:x = .pointer (some ⟨B j,0,none⟩)/\mP w S B ks ds l fp:=by cases ds<;>exact h
      have hc:aN (C1 c G lk w) (ca n (dH ks ds)) (mL ks l):=by cases ds<;>exact hc
      obtain⟨g1,g2⟩:=hN j (hp j (by simp))
      have r:=ih h.2 (λ j hj=>hp j (by simp[hj])) hc
      show aN _ (AV.ptr (400000+j) 0::ns ks ds n) (x::l)
      exact⟨⟨B j,g1,h.1,g2⟩,r⟩
  refine⟨mL ks l++xs,by rw[lO,a7l];exact o1.append q1,λ u hu=>(a5G.1 hu).elim (o2 u) (q2 u),λ p hp=>?_⟩
  have Hw:∀ {c:Ctx} {G':Gh} {lk':Nat->Option av},aN (C1 c G' lk' w) (ca n (lO (ks::sh) (ds::bO))) (mL ks l++xs)->aN (C1 c G' lk' w) (ca n (dH ks ds)) (mL ks l)/\aN (C1 c G' lk' w) (ca (n+(dH ks ds).length) (lO sh bO)) xs:=λ {c G' lk'} q=>by
   rw[lO,sx] at q
   have hl:(ca n (dH ks ds)).length=(mL ks l).length:=by rw[<-o3];exact hlen _ _
   have h1:=q.take (ca n (dH ks ds)).length
   have h2:=q.drop (ca n (dH ks ds)).length
   rw[a7M,hl,a7M] at h1
   rw[a7L,hl,a7L] at h2
   exact⟨h1,h2⟩
  rcases a5P.1 hp with rfl|hp
  .exact⟨k,ns ks ds n,l,t,rfl,a6b _,by simp,hw,BV hB,λ c G lk N h1 h2 h3 h4=>MT c G lk N h1 h2 hB (h3 ks (by simp)) (Hw h4).1⟩
  .obtain⟨j,cs,l',t',g1,g2,g3,g4,g5,g6⟩:=q3 p hp
   exact⟨j,cs,l',t',g1,by omega,by simp;omega,g4,g5,λ c G lk N h1 h2 h3 h4=>g6 c G lk N h1 h2 (λ ks' hk=>h3 ks' (by simp[hk])) (Hw h4).2⟩
 | [],_,_::_,_,_,h=>h.elim
 | _::_,_,[],_,_,h=>h.elim
def Pt(sh:List (List CK)):Bool:=Nat.blt sh.length 1000&&sh.all λ ks=>ks.all λ c=>match c with
 | .p j=>Nat.blt j sh.length
 | _=>true
theorem NZ{sh:List (List CK)}(h:Pt sh=true):∀ ks∈sh,∀ j,CK.p j∈ks->j<sh.length:=λ ks hk j hj=>by
 unfold Pt at h
 rw[a5I] at h
 obtain⟨_,h⟩:=h
 rw[a6i] at h
 have h2:=h ks hk
 rw[a6i] at h2
 exact a6H (h2 _ hj)
theorem mP.congr{w:World}{S:Nat->Prop}{B B':Nat->Nat}{N:Nat}(hB:∀ j,j<N->B j=B' j):∀ {ks:List CK} {ds:List TV} {l:List Value} {fp:List Nat},(∀ j,CK.p j∈ks->j<N)->mP w S B ks ds l fp->mP w S B' ks ds l fp:=by
 intro ks
 induction ks with
 | nil=>intro ds l fp _ h;cases ds<;>cases l<;>exact h
 | cons k0 ks ih =>
  intro ds l fp hp h
  cases l with
  | nil=>cases k0<;>cases ds<;>cases h
  | cons x l =>
   cases k0 with
   | d τ =>
    cases ds with
    | nil=>cases h
    | cons v ds=>exact⟨h.1,ih (λ j hj=>hp j (by simp[hj])) h.2⟩
   | o τ =>
    cases ds with
    | nil=>cases h
    | cons v ds =>
     obtain⟨f1,f2,e,h1,h2⟩:=h
     exact⟨f1,f2,e,h1,ih (λ j hj=>hp j (by simp[hj])) h2⟩
   | p j =>
    have h:x = .pointer (some ⟨B j,0,none⟩)/\mP w S B ks ds l fp:=by cases ds<;>exact h
    have r:=ih (λ j hj=>hp j (by simp[hj])) h.2
    have e:x = .pointer (some ⟨B' j,0,none⟩):=by rw[h.1,hB j (hp j (by simp))]
    cases ds<;>exact⟨e,r⟩
theorem kc.congr{w:World}{S:Nat->Prop}{B B':Nat->Nat}{N:Nat}(hB:∀ j,j<N->B j=B' j):∀ {sh:List (List CK)} {k:Nat} {bO:List (List TV)} {fa:List Nat},k+sh.length<=N->(∀ ks∈sh,∀ j,CK.p j∈ks->j<N)->kc w S B k sh bO fa->kc w S B' k sh bO fa
 | [],k,bO,fa,_,_,h=>by cases bO<;>exact h
 | ks::sh,k,[],fa,_,_,h=>h.elim
 | ks::sh,k,ds::bO,fa,hk,hp,h=>by
  obtain⟨l,t,f1,f2,e,h1,h2,h3⟩:=h
  simp only[a5O] at hk
  exact⟨l,t,f1,f2,e,by rw[<-hB k (by omega)];exact h1,h2.congr hB (hp ks (by simp)),kc.congr hB (by omega) (λ ks' iR=>hp ks' (by simp[iR])) h3⟩
theorem Ep:∀ {sh:List (List CK)} {k:Nat} {bO:List (List TV)} {n:Nat} {j:Nat},sh.length=bO.length->k<=j->j<k+sh.length->∃ cs,ae (nr k sh bO n) (400000+j)=some (.box cs)
 | [],k,bO,n,j,_,h1,h2=>by simp at h2;omega
 | ks::sh,k,[],n,j,hl,_,_=>by simp at hl
 | ks::sh,k,ds::bO,n,j,hl,h1,h2=>by
  rw[nr,qm]
  by_cases hj:j=k
  .subst hj;exact⟨_,a5T rfl⟩
  .rw[a5J (by omega)]
   exact Ep (by simpa using hl) (by omega) (by simp at h2;omega)
theorem kc.len{w:World}{S:Nat->Prop}{B:Nat->Nat}:∀ {sh:List (List CK)} {k:Nat} {bO:List (List TV)} {fa:List Nat},kc w S B k sh bO fa->sh.length=bO.length
 | [],_,[],_,_=>rfl
 | [],_,_::_,_,h=>h.elim
 | _::_,_,[],_,h=>h.elim
 | ks::sh,k,ds::bO,fa,h=>by
  obtain⟨l,t,f1,f2,e,h1,h2,h3⟩:=h
  simp[kc.len h3]
theorem Q4{w:World}{S:Nat->Prop}{B:Nat->Nat}{fn:Func}{args:List Arg}{cF:List Value}{sh:List (List CK)}{bO:List (List TV)}{fa:List Nat}(DU:Pt sh=true)(hS:oE w S)(RX:kc w S B 0 sh bO fa)(R6:fa.Nodup)
  (DQ:∀ b∈fa,b<w.heap.size/\¬ S b/\∀ k,k<sh.length->B k≠b) (hB:∀ k,k<sh.length->B k<w.heap.size/\¬ S (B k)) (Hr:∀ j k,j<sh.length->k<sh.length->B j=B k->j=k) (ha:aN (Rh w S (BX sh.length B fa) B) args cF)
  (Ja:∀ k,Arg.box k∈args->k<sh.length) :
  ∃ G,Inv ⟨P,E,w,BX sh.length B fa,S,λ _=>none,λ _=>False,λ id=>if 400000<=id/\id<400000+sh.length then some (B (id - 400000)) else none⟩ G (cB fn args sh bO) { tmps:=cF.toArray++Array.replicate (fn.ntmps - cF.toArray.size) undef,defers:=[] } w:=by
 have hlen:=ha.length
 let c1:Ctx:=⟨P,E,w,λ b=>b∈fa,S,λ _=>none,λ _=>False,λ _=>none⟩
 have h0:bn c1 ⟨S,λ _=>undef,λ _=>[]⟩ (λ _ => .any) (cB fn args sh bO).aw.length (λ _=>none) { tmps:=cF.toArray++Array.replicate (fn.ntmps - cF.toArray.size) undef,defers:=[] } w:={
  defers:=rfl
  size:=by simp[cB,hlen]
  aM:=bX.refl _ _
  mO:=⟨λ b h=>(DQ b h).1,λ g hg=>⟨(hS.2 g hg).1,λ q=>(DQ g q).2.1 (hS.2 g hg).1,hS.1 g (hS.2 g hg).1,(hS.2 g hg).2⟩⟩
  eF:=λ b _ _=>a7N
  sX:=λ b hs=>hs
  dX:=hS.1
  aw:=λ i=>trivial
  aH:=λ id o h=>by cases h
  place:=λ id o b h=>by cases h
  apart:=λ id dD o o' b h=>by cases h
  aT:=⟨(λ id τ xs h=>by cases h),(λ id τ xs h=>by cases h),(λ id τ xs b h=>by cases h),(λ id dD τ aZ xs cX b h=>by cases h)⟩
  root:=λ id v h=>by cases h
  ka:=λ id v h=>by cases h
  dF:=λ id v h=>by cases h
  fJ:=λ id v h=>by cases h }
 obtain⟨xs,o1,o2,o3⟩:=OT (n:=1000000) RX
 have a5C:sh.length<1000:=by
  unfold Pt at DU
  rw[a5I] at DU
  exact a6H DU.1
 have VM:Fr c1 ⟨S,λ _=>undef,λ _=>[]⟩ (λ _=>none) w fa:=λ b hb=>⟨.inr hb,(DQ b hb).2.1,(DQ b hb).1,(λ i o h=>by cases h),(λ j τ xs h=>by cases h)⟩
 obtain⟨G1,FJ,k1,k2,k3,k4,_⟩:=h0.xF (us:=lO sh bO) (cs:=xs) (id:=1000000) o2 o1 R6 VM (λ p hp=>rfl) vI (λ j _=>rfl)
 have U4:∀ i o,FJ i=some o->1000000<=i/\df (some o)=true:=λ i o ho=>by
  rw[k1 i] at ho
  unfold iJ at ho
  split at ho
  .rename_i o' cM
   simp only[a5E] at ho
   subst ho
   refine⟨(nJ (gC cM)).1,?_⟩
   have:∀ {us:List TV} {id:Nat} {p:Nat×av},p∈bS id us->df (some p.2)=true:=by
    intro us
    induction us with
    | nil=>intro id p hp;cases hp
    | cons u us ih =>
     intro id p hp
     rcases a5G.1 hp with hp|hp
     .obtain⟨τ,y⟩:=u
      cases τ<;>simp[ga] at hp
      subst hp
      rfl
     .exact ih hp
   exact this (gC cM)
  .cases ho
 have Qf:∀ i o,FJ i=some o->dS (G1.η i)=none:=λ i o ho=>by
  obtain⟨_,ht⟩:=U4 i o ho
  match o,ht with
  | .aB τ ys,_ =>
   obtain⟨v,l,_,_,q,_⟩:=k2.aT.tr i τ ys ho
   rw[q];rfl
 let G2:Gh:=⟨S,λ i=>if 400000<=i/\i<400000+sh.length then .pointer (some ⟨B (i - 400000),0,none⟩) else G1.η i,G1.φ⟩
 have Pf:∀ j,j<sh.length->G2.η (400000+j) = .pointer (some ⟨B j,0,none⟩):=λ j hj=>by
  show (if 400000<=400000+j/\400000+j<400000+sh.length then _ else _)=_
  rw[a5T (by omega),a8h]
 have Pe:∀ i,1000000<=i->G2.η i=G1.η i:=λ i hi=>a5J (by omega)
 have hGS:G1.S=S:=k3.S
 have TZ:(cB fn args sh bO).ae=λ i=>match ae (nr 0 sh bO 1000000) i with
   | some o=>some o
   | none=>FJ i:=by
  funext i
  show ae (nr 0 sh bO 1000000++bS 1000000 (lO sh bO)) i=_
  rw[ql]
  unfold iJ
  cases ae (nr 0 sh bO 1000000) i with
  | some o=>rfl
  | none =>
   simp only
   rw[k1 i]
   unfold iJ
   cases ae (bS 1000000 (lO sh bO)) i<;>rfl
 have a4a:∀ j,j<sh.length->∃ cs,(cB fn args sh bO).ae (400000+j)=some (.box cs):=λ j hj=>by
  obtain⟨cs,q⟩:=Ep (n:=1000000) RX.len (Nat.zero_le j) (by simpa using hj)
  exact⟨cs,by rw[TZ];simp only[q]⟩
 have vd:∀ i o,(cB fn args sh bO).ae i=some o->(∃ j cs l t,i=400000+j/\j<sh.length/\o = .box cs/\w.heap[B j]?=some (.cells l.toArray t (0,0)) /\
   ∀ (c:Ctx) (G:Gh) (lk:Nat->Option av),(∀ b,S b->G.S b)->(∀ j,j<sh.length->G.η (400000+j) = .pointer (some ⟨B j,0,none⟩)/\gG (lk (400000+j))=true)->aN (C1 c G lk w) (ca 1000000 (lO sh bO)) xs->aN (C1 c G lk w) cs l) \/
   (FJ i=some o/\1000000<=i):=λ i o ho=>by
  rw[TZ] at ho
  simp only at ho
  cases hl:ae (nr 0 sh bO 1000000) i with
  | some o' =>
   rw[hl] at ho
   simp only[a5E] at ho
   subst ho
   obtain⟨j,cs,l,t,q1,_,q2,q3,_,q4⟩:=o3 _ (fU hl)
   simp only[a5H] at q1
   obtain⟨rfl,rfl⟩:=q1
   exact .inl ⟨j,cs,l,t,rfl,by simpa using q2,rfl,q3,λ c G lk h1 h2 h3=>q4 c G lk sh.length h1 h2 (NZ DU) h3⟩
  | none =>
   rw[hl] at ho
   exact .inr ⟨ho,(U4 i o ho).1⟩
 have gd:∀ i,er (FJ i) ((cB fn args sh bO).ae i):=λ i=>by
  cases hl:FJ i with
  | none=>exact⟨(λ q=>by cases q),(λ e τ xs q=>by cases q),(λ q=>by cases q),λ q=>by cases q⟩
  | some o =>
   have:=(U4 i o hl).1
   have hn:ae (nr 0 sh bO 1000000) i=none:=tf λ p hp e=>by
    obtain⟨j,cs,l,t,q1,_,q2,_⟩:=o3 p hp
    rw[q1] at e
    simp only at e
    omega
   rw[TZ]
   simp only[hn,hl]
   exact er.refl _
 have Zv:aN (C1 ⟨P,E,w,BX sh.length B fa,S,λ _=>none,λ _=>False,λ id=>if 400000<=id/\id<400000+sh.length then some (B (id - 400000)) else none⟩ G2 (cB fn args sh bO).ae w) (ca 1000000 (lO sh bO)) xs:=by
  have:∀ {us:List TV} {n:Nat} {xs:List Value},1000000<=n->aN (C1 c1 G1 FJ w) (ca n us) xs->aN (C1 ⟨P,E,w,BX sh.length B fa,S,λ _=>none,λ _=>False,λ id=>if 400000<=id/\id<400000+sh.length then some (B (id - 400000)) else none⟩ G2 (cB fn args sh bO).ae w) (ca n us) xs:=by
   intro us
   induction us with
   | nil=>intro n xs _ h;cases xs<;>exact h
   | cons u us ih =>
    intro n xs hn h
    cases xs with
    | nil=>exact h.elim
    | cons x xs =>
     refine⟨?_,ih (by omega) h.2⟩
     have h1:C1 c1 G1 FJ w (mj n u) x:=h.1
     obtain⟨τ,y⟩:=u
     have aS:C1 c1 G1 FJ w (.aS ⟨τ,y⟩) x->C1 ⟨P,E,w,BX sh.length B fa,S,λ _=>none,λ _=>False,λ id=>if 400000<=id/\id<400000+sh.length then some (B (id - 400000)) else none⟩ G2 (cB fn args sh bO).ae w (.aS ⟨τ,y⟩) x:=λ q=>⟨q.1,Rd.aM (λ b hb=>by rw[hGS] at hb;exact hb) (λ _ _=>rfl) _ q.2⟩
     cases τ with
     | slice τ =>
      obtain⟨g1,l,g2,g3⟩:=h1
      exact⟨(gd n).2.2.1 g1,l,by rw[Pe n hn];exact g2,g3⟩
     | mv τ=>exact trivial
     | _=>exact aS h1
  exact this (a6b _) k4
 have hN:∀ j,j<sh.length->G2.η (400000+j) = .pointer (some ⟨B j,0,none⟩)/\gG ((cB fn args sh bO).ae (400000+j))=true:=λ j hj=>by
  obtain⟨cs,q⟩:=a4a j hj
  exact⟨Pf j hj,by rw[q];rfl⟩
 have M7:∀ i τ xs,(cB fn args sh bO).ae i=some (.aB τ xs)->FJ i=some (.aB τ xs)/\1000000<=i:=λ i τ ys hi=>by
  rcases vd i _ hi with ⟨_,_,_,_,_,_,q,_⟩|q
  .cases q
  .exact q
 refine⟨G2,?_⟩
 exact {
  defers:=rfl
  size:=by simp[cB,hlen]
  aM:=bX.refl _ _
  mO:=⟨λ b hb=>hb.elim (λ q=>(DQ b q).1) λ ⟨k,hk,e⟩=>(by rw[e];exact (hB k hk).1),λ g hg=>⟨(hS.2 g hg).1,λ q=>q.elim (λ q=>(DQ g q).2.1 (hS.2 g hg).1) λ ⟨k,hk,e⟩=>(hB k hk).2 (e ▸ (hS.2 g hg).1),hS.1 g (hS.2 g hg).1,(hS.2 g hg).2⟩⟩
  eF:=λ b _ _=>a7N
  sX:=λ b hs=>hs
  dX:=hS.1
  aw:=λ i=>by
   have M6:∀ v x,v∈args->Rh w S (BX sh.length B fa) B v x->VR ⟨P,E,w,BX sh.length B fa,S,λ _=>none,λ _=>False,λ id=>if 400000<=id/\id<400000+sh.length then some (B (id - 400000)) else none⟩ G2 (cB fn args sh bO).ae w (PN v) x:=by
    intro v x hm h
    cases v with
    | val v=>exact h
    | ref v =>
     obtain⟨b,o,cs,h1,h2,h3,h4,h5⟩:=h
     exact⟨b,o,cs,h1, .inr ⟨h2,h3,λ z=>z⟩,h4,h5⟩
    | fn f=>exact h
    | di v=>exact h.elim
    | own v=>exact h.elim
    | box k =>
     obtain⟨g1,g2⟩:=hN k (Ja k hm)
     exact⟨B k,g1,h,g2⟩
   have h1:aN (λ v x=>VR ⟨P,E,w,BX sh.length B fa,S,λ _=>none,λ _=>False,λ id=>if 400000<=id/\id<400000+sh.length then some (B (id - 400000)) else none⟩ G2 (cB fn args sh bO).ae w v x) (args.map PN) cF:=aN.eB _ (ha.imp λ v x hm h=>M6 v x hm h)
   have h2:=aN.getD (d:=AV.any) (e:=undef) (show VR ⟨P,E,w,BX sh.length B fa,S,λ _=>none,λ _=>False,λ id=>if 400000<=id/\id<400000+sh.length then some (B (id - 400000)) else none⟩ G2 (cB fn args sh bO).ae w .any undef from trivial) (h1.vW (a:=AV.any) (b:=undef) (show VR ⟨P,E,w,BX sh.length B fa,S,λ _=>none,λ _=>False,λ id=>if 400000<=id/\id<400000+sh.length then some (B (id - 400000)) else none⟩ G2 (cB fn args sh bO).ae w .any undef from trivial) (fn.ntmps - args.length)) i
   have e1:(cB fn args sh bO).sl i=(args.map PN++List.replicate (fn.ntmps - args.length) AV.any).getD i AV.any:=rfl
   have e2:(cF.toArray++Array.replicate (fn.ntmps - cF.toArray.size) undef).getD i undef=(cF++List.replicate (fn.ntmps - args.length) undef).getD i undef:=by
    rw[a6s,a6o,<-a9y]
    simp[hlen]
   rw[e1]
   show VR _ _ _ _ _ ((cF.toArray++Array.replicate (fn.ntmps - cF.toArray.size) undef).getD i undef)
   rw[e2]
   exact h2
  aH:=λ i o ho=>by
   rcases vd i o ho with ⟨j,cs,l,t,rfl,hj,rfl,q3,q4⟩|⟨q1,q2⟩
   .exact⟨B j,l,t,Pf j hj,q3,q4 _ G2 _ (λ b hb=>hb) hN Zv⟩
   .have:=(U4 i o q1).2
    match o,this with
    | .aB τ ys,_=>trivial
  place:=λ i o b ho hb=>by
   rcases vd i o ho with ⟨j,cs,l,t,rfl,hj,rfl,q3,q4⟩|⟨q1,q2⟩
   .rw[Pf j hj] at hb
    simp only[dS,a5E] at hb
    subst hb
    exact⟨.inr (.inr ⟨j,hj,rfl⟩),(hB j hj).2,(hB j hj).1⟩
   .rw[Pe i q2,Qf i o q1] at hb
    cases hb
  apart:=λ i i' o o' b ho cM hb cw=>by
   rcases vd i o ho with ⟨j,cs,l,t,rfl,hj,rfl,q3,q4⟩|⟨q1,q2⟩
   .rcases vd i' o' cM with ⟨j',dJ,l',t',rfl,yi,rfl,_,_⟩|⟨g1,g2⟩
    .rw[Pf j hj] at hb
     rw[Pf j' yi] at cw
     simp only[dS,a5E] at hb cw
     rw[Hr j j' hj yi (hb.trans cw.symm)]
    .rw[Pe i' g2,Qf i' o' g1] at cw
     cases cw
   .rw[Pe i q2,Qf i o q1] at hb
    cases hb
  aT:={
   tr:=λ i τ ys hi=>by
    obtain⟨q1,q2⟩:=M7 i τ ys hi
    rw[Pe i q2]
    exact k2.aT.tr i τ ys q1
   nd:=λ i τ ys hi=>k2.aT.nd i τ ys (M7 i τ ys hi).1
   pl:=λ i τ ys b hi hb=>by
    obtain⟨q1,q2⟩:=M7 i τ ys hi
    obtain⟨p1,p2,p3,p4⟩:=k2.aT.pl i τ ys b q1 hb
    have Ot:b∈fa:=p1.elim (λ q=>absurd p3 (Nat.not_lt.2 q)) id
    refine⟨.inr (.inl Ot),(DQ b Ot).2.1,p3,λ i' o' cM e=>?_⟩
    rcases vd i' o' cM with ⟨j,cs,l,t,rfl,hj,rfl,_,_⟩|⟨g1,g2⟩
    .rw[Pf j hj] at e
     simp only[dS,a5E] at e
     exact (DQ b Ot).2.2 j hj e
    .rw[Pe i' g2,Qf i' o' g1] at e
     cases e
   ap:=λ i i' τ aZ ys ys' b hi oj=>k2.aT.ap i i' τ aZ ys ys' b (M7 i τ ys hi).1 (M7 i' aZ ys' oj).1 }
  root:=λ id v h=>by cases h
  ka:=λ id v h=>by cases h
  dF:=λ id b hr ht=>by
   simp only at hr
   split at hr
   .rename_i hc
    simp only[a5E] at hr
    show (if 400000<=id/\id<400000+sh.length then _ else _)=_
    rw[a5T hc,hr]
   .cases hr
  fJ:=λ id b hr=>by
   simp only at hr
   split at hr
   .rename_i hc;exact hc.1
   .cases hr }
theorem P6(hE:bJ P E)(lI:P.follows .mixedOrders=true){f:FuncId}{fn:Func}{J:Code}(hf:P.funcs[f]?=some fn)(hb:fn.body=some J)(Λ:Nat->aX){args:List Arg}{sh:List (List CK)}{bO:List (List TV)}{res:List TV}{fw:List (List TV)}{post:List TV->List (List TV)->Prop}
  (M3:∀ vs ds,post vs ds->vs=res/\ds=fw) (DU:Pt sh=true) (Ja:∀ k,Arg.box k∈args->k<sh.length) (h:cU E J Λ 0 (gS E fn sh post) (cB fn args sh bO)):p7 P f sh args bO res fw:=by
 intro w S B cF fa hS RX R6 DQ hB Hr ha
 refine a9S hf hb ?_
 obtain⟨G0,hinv⟩:=Q4 (P:=P) (E:=E) (fn:=fn) DU hS RX R6 DQ hB Hr ha Ja
 generalize hc:(⟨P,E,w,BX sh.length B fa,S,λ _=>none,λ _=>False,λ id=>if 400000<=id/\id<400000+sh.length then some (B (id - 400000)) else none⟩:Ctx)=c at *
 have Qi:c.P=P:=by rw[<-hc]
 have R1:c.E=E:=by rw[<-hc]
 have hcw:c.w0=w:=by rw[<-hc]
 have hcX:c.X=BX sh.length B fa:=by rw[<-hc]
 have hcS:c.S0=S:=by rw[<-hc]
 have hcB:∀ j,j<sh.length->c.RB (400000+j)=some (B j):=λ j hj=>by
  rw[<-hc]
  show (if 400000<=400000+j/\400000+j<400000+sh.length then _ else _)=_
  rw[a5T (by omega),a8h]
 have hE':bJ c.P c.E:=by rw[Qi,R1];exact hE
 have cS:=iG (c:=c) hE' (by rw[Qi];exact lI) J Λ 0 (gS E fn sh post) G0 (cB fn args sh bO) _ w hinv (by rw[R1];exact h)
 rw[Qi] at cS
 refine a9h cS ?_
 have fin:∀ (e:Exit) (a:Act) (w':World),(e = .normal\/e = .ret)->(∃ G s,Inv c G s a w'/\gS E fn sh post e s) ->
   a.defers=[]/\∃ v,(results fn a.tmps).run P w' = .ok v w'/\∃ x S' fp I3,Ending.returned v = .returned x/\bX (BX sh.length B fa) w w'/\(∀ b,S b->S' b)/\(∀ b,S' b->b<w'.heap.size)/\(∀ b,b<w.heap.size->¬ BX sh.length B fa b->(S' b↔S b)) /\
    EN w' res x fp/\kc w' S' B 0 sh fw I3/\(fp++I3).Nodup/\(∀ b∈fp++I3,(b∈fa\/(w.heap.size<=b/\b<w'.heap.size))/\¬ S' b/\∀ k,k<sh.length->B k≠b)/\∀ k,k<sh.length->¬ S' (B k):=by
  rintro e a w' he ⟨G,s,hI,hp⟩
  have Qn:∃ vs ids ds B7 m,tB E s fn.results.toList fn.resultTypes.toList=some (vs,ids)/\jZ s.ae sh 0 (ZV sh.length)=some (ds,B7,m)/\(ids++B7).Nodup/\vs=res/\ds=fw:=by
   rcases he with rfl|rfl <;>
   .simp only[gS] at hp
    split at hp
    .rename_i vs ids zG
     split at hp
     .rename_i ds B7 m Jc
      split at hp
      .rename_i hn
       rw[a5I] at hn
       obtain⟨q1,q2⟩:=M3 _ _ hp
       exact⟨vs,ids,ds,B7,m,zG,Jc,dn hn.1,q1,q2⟩
      .exact hp.elim
     .exact hp.elim
    .exact hp.elim
  obtain⟨vs,ids,ds,B7,m,zG,Jc,hn,rfl,rfl⟩:=Qn
  rw[a5Y] at hn
  obtain⟨n1,n2,n3⟩:=hn
  obtain⟨xs,fp,h1,h2,h3,h4⟩:=zY (P:=P) (E:=E) (c:=c) hE' Qi R1 hI zG n1
  obtain⟨x0,Qg,I3,a3N,a2a,a0G⟩:=tZ hI Jc n2
  have U1:∀ k,k<sh.length->∃ cs,s.ae (400000+k)=some (.box cs)/\G.η (400000+k) = .pointer (some ⟨B k,0,none⟩)/\ae m k=some (400000+k):=λ k hk=>by
   obtain⟨id,cs,q1,q2⟩:=Qg k (Nat.zero_le _) (by simpa using hk)
   have q3:=x0 k (400000+k) (by rw[V7,a5T hk])
   rw[q3] at q1
   simp only[a5E] at q1
   subst q1
   exact⟨cs,q2,hI.dF _ _ (hcB k hk) (by rw[q2];rfl),q3⟩
  have hbo:∀ k,k<sh.length->oa G m k=B k:=λ k hk=>by
   obtain⟨cs,_,q2,q3⟩:=U1 k hk
   simp only[oa,q3,q2]
   rfl
  have a3O:=kc.congr (N:=sh.length) hbo (by omega) (NZ DU) (a3N m (mQ.refl m))
  have jW:bX (BX sh.length B fa) w w':=by
   have:=hI.aM
   rwa [hcX,hcw] at this
  have iX:∀ ids b,uL G s.ae ids b->(b∈fa\/(w.heap.size<=b/\b<w'.heap.size))/\¬ G.S b/\∀ k,k<sh.length->B k≠b:=λ ids b hb=>by
   obtain⟨id,hi,hq⟩:=hb
   have hp:(c.w0.heap.size<=b\/c.X b)/\¬ G.S b/\b<w'.heap.size/\∀ k,k<sh.length->B k≠b:=by
    rcases hq with ⟨τ,ys,q1,q2⟩|⟨e',τ,ys,q1,q2⟩
    .obtain⟨p1,p2,p3,p4⟩:=hI.aT.pl id τ ys b q1 q2
     refine⟨p1,p2,p3,λ k hk e=>?_⟩
     obtain⟨cs,g1,g2,_⟩:=U1 k hk
     exact p4 _ _ g1 (by rw[g2,<-e];rfl)
    .obtain⟨p1,p2,p3⟩:=hI.place id _ b q1 q2
     refine⟨p1,p2,p3,λ k hk e=>?_⟩
     obtain⟨cs,g1,g2,_⟩:=U1 k hk
     have:=hI.apart id _ _ _ b q1 g1 q2 (by rw[g2,<-e];rfl)
     subst this
     rw[q1] at g1
     cases g1
   obtain⟨p1,p2,p3,p4⟩:=hp
   refine⟨?_,p2,p4⟩
   rw[hcw,hcX] at p1
   rcases p1 with p1|p1|⟨k,hk,e⟩
   .exact .inr ⟨p1,p3⟩
   .exact .inl p1
   .exact absurd e.symm (p4 k hk)
  refine⟨hI.defers,(if h:xs.toArray.size=1 then xs.toArray[0] else .tuple xs.toArray),?_,_,G.S,fp,I3,rfl,jW,?_,hI.dX,?_,Pk h2,a3O,?_,?_,?_⟩
  .rw[xd,a8a]
   simp only[a6d,a9u,h1]
   rfl
  .intro b hb
   exact hI.sX b (by rw[hcS];exact hb)
  .intro b hb hx
   have:=hI.eF b (by rw[hcw];exact hb) (by rw[hcX];exact hx)
   rwa [hcS] at this
  .exact dV h3 a2a λ b hb cw=>hI.jX (h4 b hb) (a0G b cw) λ x hx y hy=>n3 x hx y hy
  .intro b hb
   rcases a5G.1 hb with hb|hb
   .exact iX ids b (h4 b hb)
   .exact iX B7 b (a0G b hb)
  .intro k hk
   obtain⟨cs,q1,q2,_⟩:=U1 k hk
   exact (hI.place _ _ (B k) q1 (by rw[q2];rfl)).2.1
 intro e a w' hq
 cases e with
 | normal=>exact fin .normal a w' (.inl rfl) hq
 | ret=>exact fin .ret a w' (.inr rfl) hq
 | exit i=>obtain⟨_,_,_,hp⟩:=hq;exact hp.elim
 | goto l=>obtain⟨_,_,_,hp⟩:=hq;exact hp.elim
 | panic ch=>obtain⟨_,_,_,hp⟩:=hq;exact hp.elim
 | outgrown=>obtain⟨_,_,_,hp⟩:=hq;exact hp.elim
end
end Go.Proofs.YtnehkikdlnmebaaGreatDoor

namespace Go.Proofs.YtnehkikdlnmebaaGreatDoor
def z7:List (Nat×Ty×Nat×Nat) :=
 [(2,(.int .i64),0,0),
  (3,(.int .i64),0,0),
  (4, .bool,0,0),
  (5,(.int .u8),0,0),
  (9, .str,0,0),
  (12,(.int .u64),0,0),
  (22,(.slice (.int .u8)),1,5),
  (25,(.st .sig),0,0),
  (26,(.slice (.st .expr)),40,28),
  (28,(.st .expr),0,0),
  (31,(.slice (.int .i64)),8,2),
  (33,(.st .word),0,0),
  (43, .ptr,0,0),
  (56,(.slice .str),16,9),
  (68,(.int .u64),0,0),
  (70,(.st .l00Src),0,0),
  (74,(.st .l01Gen),0,0),
  (85,(.st .reader),0,0),
  (99,(.int .u64),0,0)]
def LQ:List (Nat×Ty) :=
 [(43,(.st .l00Src)),(48,(.st .expr)),(50,(.st .word)),(72,(.st .l01Gen)),(101,(.st .reader)),(109,(.int .u8)),(125,(.slice (.st .expr)))]
def HF:List (Nat×Ty×Ty):=[]
abbrev PH:Nat:=4
abbrev yZ:Nat:=22
noncomputable abbrev prog:Program:=Tryz.prog
theorem Dj(c:Nat->List Arg->Option (Vc×List TV))(wr own:List Nat)(oc:Nat->List Arg->Option (Vc×List TV))(mk:Nat->Option OJ)(cl:Nat->Option D4)(ro:List Nat)(tk:Nat->List Bool)(sk:Nat->Option SK)(sc:Nat->List Arg->List (List TV)->Option (Vc×List TV×List (List TV)))(nc:Nat->List Arg->Option (Vc×Rj)):((z7.all λ r=>sK prog (Env.mk z7 LQ c wr own oc mk cl ro tk sk sc HF nc) r.1 r.2.1 r.2.2.1 r.2.2.2)&&HF.all λ r=>Nr prog (Env.mk z7 LQ c wr own oc mk cl ro tk sk sc HF nc) r.1 r.2.1 r.2.2)=true:=by kernel_rfl
theorem xb:prog.follows .mixedOrders=true:=Checked.mixed Tryz.checked
def aF(f:Func):Code:=match f.body with
 | some c=>c
 | none => .skip
abbrev lU:Nat:=3
noncomputable abbrev fO:Func:=Tryz.f3
theorem ua:prog.funcs[lU]?=some fO:=Tryz.func3
theorem AW:fO.body=some (aF fO):=by kernel_rfl
abbrev vB:Nat:=4
noncomputable abbrev kE:Func:=Tryz.f4
theorem Ag:prog.funcs[vB]?=some kE:=Tryz.func4
theorem GF:kE.body=some (aF kE):=by kernel_rfl
abbrev vC:Nat:=5
noncomputable abbrev kF:Func:=Tryz.f5
theorem Ah:prog.funcs[vC]?=some kF:=Tryz.func5
theorem GG:kF.body=some (aF kF):=by kernel_rfl
abbrev vD:Nat:=6
noncomputable abbrev kG:Func:=Tryz.f6
theorem Ai:prog.funcs[vD]?=some kG:=Tryz.func6
theorem GH:kG.body=some (aF kG):=by kernel_rfl
abbrev r4:Nat:=7
noncomputable abbrev ic:Func:=Tryz.f7
theorem vY:prog.funcs[r4]?=some ic:=Tryz.func7
theorem Dn:ic.body=some (aF ic):=by kernel_rfl
abbrev rZ:Nat:=8
noncomputable abbrev ib:Func:=Tryz.f8
theorem vX:prog.funcs[rZ]?=some ib:=Tryz.func8
theorem Dm:ib.body=some (aF ib):=by kernel_rfl
abbrev r9:Nat:=9
noncomputable abbrev ie:Func:=Tryz.f9
theorem vZ:prog.funcs[r9]?=some ie:=Tryz.func9
theorem Dp:ie.body=some (aF ie):=by kernel_rfl
abbrev sb:Nat:=10
noncomputable abbrev ij:Func:=Tryz.f10
theorem v8:prog.funcs[sb]?=some ij:=Tryz.func10
theorem Dr:ij.body=some (aF ij):=by kernel_rfl
abbrev sg:Nat:=11
noncomputable abbrev iq:Func:=Tryz.f11
theorem we:prog.funcs[sg]?=some iq:=Tryz.func11
theorem Du:iq.body=some (aF iq):=by kernel_rfl
abbrev sn:Nat:=12
noncomputable abbrev iw:Func:=Tryz.f12
theorem wi:prog.funcs[sn]?=some iw:=Tryz.func12
theorem Dx:iw.body=some (aF iw):=by kernel_rfl
abbrev si:Nat:=13
noncomputable abbrev iu:Func:=Tryz.f13
theorem wg:prog.funcs[si]?=some iu:=Tryz.func13
theorem Dv:iu.body=some (aF iu):=by kernel_rfl
abbrev sj:Nat:=14
noncomputable abbrev iv:Func:=Tryz.f14
theorem wh:prog.funcs[sj]?=some iv:=Tryz.func14
theorem Dw:iv.body=some (aF iv):=by kernel_rfl
abbrev py:Nat:=15
noncomputable abbrev K1:Func:=Tryz.f15
theorem IN:prog.funcs[py]?=some K1:=Tryz.func15
abbrev pQ:Nat:=16
noncomputable abbrev fR:Func:=Tryz.f16
theorem ud:prog.funcs[pQ]?=some fR:=Tryz.func16
theorem AZ:fR.body=some (aF fR):=by kernel_rfl
abbrev sq:Nat:=17
noncomputable abbrev iA:Func:=Tryz.f17
theorem wk:prog.funcs[sq]?=some iA:=Tryz.func17
theorem DA:iA.body=some (aF iA):=by kernel_rfl
abbrev pR:Nat:=18
noncomputable abbrev fS:Func:=Tryz.f18
theorem uf:prog.funcs[pR]?=some fS:=Tryz.func18
theorem A0:fS.body=some (aF fS):=by kernel_rfl
abbrev tX:Nat:=19
noncomputable abbrev jl:Func:=Tryz.f19
theorem xN:prog.funcs[tX]?=some jl:=Tryz.func19
theorem E4:jl.body=some (aF jl):=by kernel_rfl
abbrev sa:Nat:=20
noncomputable abbrev ig:Func:=Tryz.f20
theorem v7:prog.funcs[sa]?=some ig:=Tryz.func20
theorem Dq:ig.body=some (aF ig):=by kernel_rfl
abbrev sd:Nat:=21
noncomputable abbrev ik:Func:=Tryz.f21
theorem wa:prog.funcs[sd]?=some ik:=Tryz.func21
theorem Ds:ik.body=some (aF ik):=by kernel_rfl
abbrev rl:Nat:=22
noncomputable abbrev gv:Func:=Tryz.f22
theorem uN:prog.funcs[rl]?=some gv:=Tryz.func22
theorem Bz:gv.body=some (aF gv):=by kernel_rfl
abbrev Cq:Nat:=23
noncomputable abbrev MC:Func:=Tryz.f23
theorem KS:prog.funcs[Cq]?=some MC:=Tryz.func23
abbrev yK:Nat:=24
noncomputable abbrev I2:Func:=Tryz.f24
theorem Gu:prog.funcs[yK]?=some I2:=Tryz.func24
abbrev nG:Nat:=25
noncomputable abbrev ez:Func:=Tryz.f25
theorem rF:prog.funcs[nG]?=some ez:=Tryz.func25
theorem xU:ez.body=some (aF ez):=by kernel_rfl
abbrev vz:Nat:=26
noncomputable abbrev kz:Func:=Tryz.f26
theorem Ae:prog.funcs[vz]?=some kz:=Tryz.func26
theorem GB:kz.body=some (aF kz):=by kernel_rfl
abbrev vx:Nat:=27
noncomputable abbrev kx:Func:=Tryz.f27
theorem Ac:prog.funcs[vx]?=some kx:=Tryz.func27
theorem Gz:kx.body=some (aF kx):=by kernel_rfl
abbrev rm:Nat:=28
noncomputable abbrev gw:Func:=Tryz.f28
theorem uO:prog.funcs[rm]?=some gw:=Tryz.func28
theorem BA:gw.body=some (aF gw):=by kernel_rfl
abbrev sf:Nat:=29
noncomputable abbrev im:Func:=Tryz.f29
theorem wb:prog.funcs[sf]?=some im:=Tryz.func29
theorem Dt:im.body=some (aF im):=by kernel_rfl
abbrev xw:Nat:=30
noncomputable abbrev my:Func:=Tryz.f30
theorem By:prog.funcs[xw]?=some my:=Tryz.func30
theorem IQ:my.body=some (aF my):=by kernel_rfl
abbrev mi:Nat:=31
noncomputable abbrev ji:Func:=Tryz.f31
theorem nU:prog.funcs[mi]?=some ji:=Tryz.func31
theorem E1:ji.body=some (aF ji):=by kernel_rfl
abbrev AP:Nat:=32
noncomputable abbrev K0:Func:=Tryz.f32
theorem IM:prog.funcs[AP]?=some K0:=Tryz.func32
abbrev mh:Nat:=33
noncomputable abbrev jg:Func:=Tryz.f33
theorem nS:prog.funcs[mh]?=some jg:=Tryz.func33
theorem EZ:jg.body=some (aF jg):=by kernel_rfl
abbrev tV:Nat:=34
noncomputable abbrev jd:Func:=Tryz.f34
theorem xL:prog.funcs[tV]?=some jd:=Tryz.func34
theorem EW:jd.body=some (aF jd):=by kernel_rfl
abbrev oP:Nat:=35
noncomputable abbrev eW:Func:=Tryz.f35
theorem sO:prog.funcs[oP]?=some eW:=Tryz.func35
theorem zg:eW.body=some (aF eW):=by kernel_rfl
abbrev kj:Nat:=36
noncomputable abbrev eZ:Func:=Tryz.f36
theorem jz:prog.funcs[kj]?=some eZ:=Tryz.func36
theorem zj:eZ.body=some (aF eZ):=by kernel_rfl
abbrev pO:Nat:=37
noncomputable abbrev fP:Func:=Tryz.f37
theorem ub:prog.funcs[pO]?=some fP:=Tryz.func37
theorem AX:fP.body=some (aF fP):=by kernel_rfl
abbrev oQ:Nat:=38
noncomputable abbrev eY:Func:=Tryz.f38
theorem sP:prog.funcs[oQ]?=some eY:=Tryz.func38
theorem zh:eY.body=some (aF eY):=by kernel_rfl
abbrev nF:Nat:=39
noncomputable abbrev kI:Func:=Tryz.f39
theorem pb:prog.funcs[nF]?=some kI:=Tryz.func39
theorem GJ:kI.body=some (aF kI):=by kernel_rfl
abbrev so:Nat:=40
noncomputable abbrev iy:Func:=Tryz.f40
theorem wj:prog.funcs[so]?=some iy:=Tryz.func40
theorem Dy:iy.body=some (aF iy):=by kernel_rfl
abbrev vE:Nat:=41
noncomputable abbrev kH:Func:=Tryz.f41
theorem Aj:prog.funcs[vE]?=some kH:=Tryz.func41
theorem GI:kH.body=some (aF kH):=by kernel_rfl
abbrev ov:Nat:=42
noncomputable abbrev iB:Func:=Tryz.f42
theorem mS:prog.funcs[ov]?=some iB:=Tryz.func42
theorem DB:iB.body=some (aF iB):=by kernel_rfl
abbrev pD:Nat:=43
noncomputable abbrev jn:Func:=Tryz.f43
theorem nY:prog.funcs[pD]?=some jn:=Tryz.func43
theorem E6:jn.body=some (aF jn):=by kernel_rfl
abbrev vF:Nat:=44
noncomputable abbrev kJ:Func:=Tryz.f44
theorem Ak:prog.funcs[vF]?=some kJ:=Tryz.func44
theorem GK:kJ.body=some (aF kJ):=by kernel_rfl
abbrev xv:Nat:=45
noncomputable abbrev mw:Func:=Tryz.f45
theorem Bx:prog.funcs[xv]?=some mw:=Tryz.func45
theorem IP:mw.body=some (aF mw):=by kernel_rfl
abbrev vA:Nat:=46
noncomputable abbrev kB:Func:=Tryz.f46
theorem Af:prog.funcs[vA]?=some kB:=Tryz.func46
theorem GD:kB.body=some (aF kB):=by kernel_rfl
abbrev ki:Nat:=47
noncomputable abbrev eQ:Func:=Tryz.f47
theorem jy:prog.funcs[ki]?=some eQ:=Tryz.func47
theorem zc:eQ.body=some (aF eQ):=by kernel_rfl
abbrev vw:Nat:=48
noncomputable abbrev kv:Func:=Tryz.f48
theorem Ab:prog.funcs[vw]?=some kv:=Tryz.func48
theorem Gy:kv.body=some (aF kv):=by kernel_rfl
abbrev eE:Nat:=52
noncomputable abbrev cA:Func:=Tryz.f52
theorem iF:prog.funcs[eE]?=some cA:=Tryz.func52
theorem oG:cA.body=some (aF cA):=by kernel_rfl
abbrev tU:Nat:=53
noncomputable abbrev jc:Func:=Tryz.f53
theorem xK:prog.funcs[tU]?=some jc:=Tryz.func53
theorem EV:jc.body=some (aF jc):=by kernel_rfl
abbrev AO:Nat:=54
noncomputable abbrev KZ:Func:=Tryz.f54
theorem IL:prog.funcs[AO]?=some KZ:=Tryz.func54
abbrev pz:Nat:=55
noncomputable abbrev jf:Func:=Tryz.f55
theorem nR:prog.funcs[pz]?=some jf:=Tryz.func55
theorem EY:jf.body=some (aF jf):=by kernel_rfl
abbrev ou:Nat:=56
noncomputable abbrev iz:Func:=Tryz.f56
theorem mR:prog.funcs[ou]?=some iz:=Tryz.func56
theorem Dz:iz.body=some (aF iz):=by kernel_rfl
abbrev pB:Nat:=57
noncomputable abbrev jj:Func:=Tryz.f57
theorem nV:prog.funcs[pB]?=some jj:=Tryz.func57
theorem E2:jj.body=some (aF jj):=by kernel_rfl
abbrev oO:Nat:=58
noncomputable abbrev eV:Func:=Tryz.f58
theorem sN:prog.funcs[oO]?=some eV:=Tryz.func58
theorem ze:eV.body=some (aF eV):=by kernel_rfl
abbrev oR:Nat:=59
noncomputable abbrev e8:Func:=Tryz.f59
theorem sQ:prog.funcs[oR]?=some e8:=Tryz.func59
theorem zk:e8.body=some (aF e8):=by kernel_rfl
abbrev jt:Nat:=60
noncomputable abbrev ef:Func:=Tryz.f60
theorem nX:prog.funcs[jt]?=some ef:=Tryz.func60
theorem uR:ef.body=some (aF ef):=by kernel_rfl
abbrev pP:Nat:=61
noncomputable abbrev fQ:Func:=Tryz.f61
theorem uc:prog.funcs[pP]?=some fQ:=Tryz.func61
theorem AY:fQ.body=some (aF fQ):=by kernel_rfl
abbrev nD:Nat:=62
noncomputable abbrev ew:Func:=Tryz.f62
theorem rD:prog.funcs[nD]?=some ew:=Tryz.func62
theorem xS:ew.body=some (aF ew):=by kernel_rfl
abbrev pC:Nat:=63
noncomputable abbrev jk:Func:=Tryz.f63
theorem nW:prog.funcs[pC]?=some jk:=Tryz.func63
theorem E3:jk.body=some (aF jk):=by kernel_rfl
abbrev pF:Nat:=64
noncomputable abbrev jq:Func:=Tryz.f64
theorem xP:prog.funcs[pF]?=some jq:=Tryz.func64
theorem E8:jq.body=some (aF jq):=by kernel_rfl
abbrev vG:Nat:=65
noncomputable abbrev kL:Func:=Tryz.f65
theorem Al:prog.funcs[vG]?=some kL:=Tryz.func65
theorem GM:kL.body=some (aF kL):=by kernel_rfl
abbrev pA:Nat:=66
noncomputable abbrev jh:Func:=Tryz.f66
theorem nT:prog.funcs[pA]?=some jh:=Tryz.func66
theorem E0:jh.body=some (aF jh):=by kernel_rfl
abbrev pE:Nat:=67
noncomputable abbrev jo:Func:=Tryz.f67
theorem nZ:prog.funcs[pE]?=some jo:=Tryz.func67
theorem E7:jo.body=some (aF jo):=by kernel_rfl
abbrev oN:Nat:=68
noncomputable abbrev eU:Func:=Tryz.f68
theorem sM:prog.funcs[oN]?=some eU:=Tryz.func68
theorem zd:eU.body=some (aF eU):=by kernel_rfl
abbrev oM:Nat:=69
noncomputable abbrev eP:Func:=Tryz.f69
theorem nh:prog.funcs[oM]?=some eP:=Tryz.func69
theorem za:eP.body=some (aF eP):=by kernel_rfl
abbrev zL:Nat:=70
noncomputable abbrev oe:Func:=Tryz.f70
theorem Eb:prog.funcs[zL]?=some oe:=Tryz.func70
theorem KW:oe.body=some (aF oe):=by kernel_rfl
abbrev rn:Nat:=71
noncomputable abbrev kA:Func:=Tryz.f71
theorem o8:prog.funcs[rn]?=some kA:=Tryz.func71
theorem GC:kA.body=some (aF kA):=by kernel_rfl
abbrev tT:Nat:=76
noncomputable abbrev jb:Func:=Tryz.f76
theorem xJ:prog.funcs[tT]?=some jb:=Tryz.func76
theorem EU:jb.body=some (aF jb):=by kernel_rfl
abbrev tR:Nat:=77
noncomputable abbrev ja:Func:=Tryz.f77
theorem xI:prog.funcs[tR]?=some ja:=Tryz.func77
theorem ET:ja.body=some (aF ja):=by kernel_rfl
abbrev tW:Nat:=79
noncomputable abbrev je:Func:=Tryz.f79
theorem xM:prog.funcs[tW]?=some je:=Tryz.func79
theorem EX:je.body=some (aF je):=by kernel_rfl
abbrev jR:Nat:=80
noncomputable abbrev ey:Func:=Tryz.f80
theorem iP:prog.funcs[jR]?=some ey:=Tryz.func80
theorem xT:ey.body=some (aF ey):=by kernel_rfl
abbrev vH:Nat:=81
noncomputable abbrev MD:Func:=Tryz.f81
theorem KU:prog.funcs[vH]?=some MD:=Tryz.func81
abbrev rp:Nat:=82
noncomputable abbrev kK:Func:=Tryz.f82
theorem pc:prog.funcs[rp]?=some kK:=Tryz.func82
theorem GL:kK.body=some (aF kK):=by kernel_rfl
abbrev tY:Nat:=83
noncomputable abbrev jm:Func:=Tryz.f83
theorem xO:prog.funcs[tY]?=some jm:=Tryz.func83
theorem E5:jm.body=some (aF jm):=by kernel_rfl
abbrev zK:Nat:=84
noncomputable abbrev od:Func:=Tryz.f84
theorem Ea:prog.funcs[zK]?=some od:=Tryz.func84
theorem KV:od.body=some (aF od):=by kernel_rfl
abbrev nC:Nat:=85
noncomputable abbrev eu:Func:=Tryz.f85
theorem rC:prog.funcs[nC]?=some eu:=Tryz.func85
theorem xR:eu.body=some (aF eu):=by kernel_rfl
abbrev vy:Nat:=86
noncomputable abbrev ky:Func:=Tryz.f86
theorem Ad:prog.funcs[vy]?=some ky:=Tryz.func86
theorem GA:ky.body=some (aF ky):=by kernel_rfl
abbrev kh:Nat:=87
noncomputable abbrev eO:Func:=Tryz.f87
theorem jx:prog.funcs[kh]?=some eO:=Tryz.func87
theorem y9:eO.body=some (aF eO):=by kernel_rfl
end Go.Proofs.YtnehkikdlnmebaaGreatDoor

set_option maxRecDepth 4000
set_option maxHeartbeats 4000000
namespace Go.Proofs.YtnehkikdlnmebaaGreatDoor
open Go.RowKit Go.Proofs
set_option maxRecDepth 100000 in
theorem TH(a:Option Addr)(n m:Nat)(w:World) :
  Calls prog py #[.slice a n m] w λ e w'=>e = .returned (.pointer (some ⟨w.heap.size,0,none⟩))/\w'=w.alloc (.cells #[.slice a n m, .int .i64 0, .int .u64 0] 70):=by
 go_enter Tryz.func15,Tryz.ntmps15
 go_wp2
 go_ret
 exact⟨rfl,rfl⟩
def wZ:Nat->List Arg->Option (Vc×Rj):=λ f zs=>match Nat.beq f py with
 | true=>match zs with
  | [.val ⟨.slice (.int .u8),J⟩]=>some (.none, .box [⟨.slice (.int .u8),J⟩,⟨.int .i64,(0:Int)⟩,⟨.int .u64,(0:Int)⟩])
  | _=>none
 | false=>none
theorem VH(J:List Int):Tf prog py [.val ⟨.slice (.int .u8),J⟩] (.box [⟨.slice (.int .u8),J⟩,⟨.int .i64,(0:Int)⟩,⟨.int .u64,(0:Int)⟩]):=by
 intro w S cF hS ha
 match cF,ha with
 | [v],ha =>
  have h1:Rd w S (TV.aK ⟨.slice (.int .u8),J⟩) [v]:=ha.1
  obtain⟨a,c,e,_⟩:=id h1
  simp only[a5L,a5R] at e
  rw[show (List.map (Ty.int IntKind.u8).aK J).length=J.length from a6B _] at e
  subst e
  refine (TH a _ c w).mono ?_
  rintro e w' ⟨rfl,rfl⟩
  have hk:=fZ w (.cells #[.slice a J.length c, .int .i64 0, .int .u64 0] 70)
  refine⟨_,S,rfl,hk,λ _ _=>Iff.rfl,λ k iR=>Nat.lt_of_lt_of_le (hS.1 k iR) hk.size,λ b hb=>?_,w.heap.size,[_, .int .i64 0, .int .u64 0],70,rfl,by simpa using heap_alloc_new w _,?_⟩
  .simp only[dS,a5E] at hb
   subst hb
   exact⟨a6b _,by simp,λ q=>a7W _ (hS.1 _ q)⟩
  refine⟨⟨rfl,Rd.aM (λ _ h=>h) (λ b hb=>hk.block b (hS.1 b hb) λ h=>h) _ h1⟩,⟨rfl,?_⟩,⟨rfl,?_⟩,trivial⟩
  .exact⟨rfl,by decide,by decide⟩
  .exact⟨rfl,by decide,by decide⟩
theorem Nx:∀ f args pre cells,wZ f args=some (pre,cells)->pre.ok->oC prog f/\Tf prog f args cells:=by
 intro f args pre cells h _
 unfold wZ at h
 split at h
 .rename_i hf
  have hf:=a5F hf
  subst hf
  split at h
  .simp only[a5E,a5H] at h
   obtain⟨rfl,rfl⟩:=h
   exact⟨⟨_,IN,rfl,by decide⟩,VH _⟩
  .cases h
 .cases h
end Go.Proofs.YtnehkikdlnmebaaGreatDoor

namespace Go.Proofs.YtnehkikdlnmebaaGreatDoor
abbrev cv{α:Type}[SizeOf α](x:α):Nat:=SizeOf.sizeOf x
theorem cR{α:Type}[SizeOf α](d:α):∀ (xs:List α) (i:Nat),i<xs.length->cv (xs.getD i d)<cv xs
 | [],i,h=>by simp at h
 | x::xs,0,h=>by simp[cv];omega
 | x::xs,i+1,h=>by
  have:=cR d xs i (by simpa using h)
  simp[cv] at this ⊢;omega
theorem lA(e:O):cv e.V<cv e:=by
 cases e;simp[cv];omega
inductive PK where
 | v (τ:Ty)
 | r (τ:Ty)
 | f
 | c (ps:List Ty) (r:Ty)
 | o (τ:Ty)
 | b (k:Nat)
@[reducible] def KT:List PK->Type 1
 | []=>ULift (Vc×List TV)
 | .v τ::l=>τ.den->KT l
 | .r τ::l=>τ.den->KT l
 | .f::l=>FuncId->KT l
 | .c ps r::l=>FN ps r->KT l
 | .o τ::l=>τ.den->KT l
 | .b _::l=>KT l
def dh:(l:List PK)->KT l->List Arg->Option (Vc×List TV)
 | [],x,[]=>some x.down
 | .v τ::l,g, .val a::zs=>match a.Z9 τ with
  | some x=>dh l (g x) zs
  | none=>none
 | .r τ::l,g, .ref a::zs=>match a.Z9 τ with
  | some x=>dh l (g x) zs
  | none=>none
 | .f::l,g, .fn a::zs=>dh l (g a) zs
 | .c ps r::l,g, .di a::zs=>match a.Z9 ps r with
  | some x=>dh l (g x) zs
  | none=>none
 | .o τ::l,g, .own a::zs=>match a.Z9 τ with
  | some x=>dh l (g x) zs
  | none=>none
 | _,_,_=>none
def Ri(P:Program)(f:FuncId):(l:List PK)->KT l->List Arg->Prop
 | [],x,acc=>x.down.1.ok->bD P f acc (·=x.down.2)
 | .v τ::l,g,acc=>∀ x,Ri P f l (g x) (acc++[.val ⟨τ,x⟩])
 | .r τ::l,g,acc=>∀ x,Ri P f l (g x) (acc++[.ref ⟨τ,x⟩])
 | .f::l,g,acc=>∀ x,Ri P f l (g x) (acc++[.fn x])
 | .c ps r::l,g,acc=>∀ x,Ri P f l (g x) (acc++[.di ⟨ps,r,x⟩])
 | .o τ::l,g,acc=>∀ x,Ri P f l (g x) (acc++[.own ⟨τ,x⟩])
 | .b _::_,_,_=>True
theorem su{P:Program}{f:FuncId}:∀ (l:List PK) (g:KT l) (acc zs:List Arg) (pre:Vc) (res:List TV),Ri P f l g acc->dh l g zs=some (pre,res)->pre.ok->bD P f (acc++zs) (·=res)
 | [],g,acc,zs,pre,res,h,e,hp=>by
  cases zs with
  | nil =>
   simp only[dh,a5E] at e
   have h':g.down.1.ok->bD P f acc (·=g.down.2):=h
   rw[e] at h'
   rw[a7a]
   exact h' hp
  | cons a zs=>simp[dh] at e
 | .v τ::l,g,acc,zs,pre,res,h,e,hp=>by
  cases zs with
  | nil=>simp[dh] at e
  | cons a zs =>
   cases a with
   | val a =>
    rw[dh] at e
    split at e
    .rename_i x hx
     have:=su l (g x) (acc++[.val ⟨τ,x⟩]) zs pre res (h x) e hp
     rw[TV.bd hx]
     simpa using this
    .cases e
   | ref a=>simp[dh] at e
   | di a=>simp[dh] at e
   | own a=>simp[dh] at e
   | fn a=>simp[dh] at e
   | box a=>simp[dh] at e
 | .r τ::l,g,acc,zs,pre,res,h,e,hp=>by
  cases zs with
  | nil=>simp[dh] at e
  | cons a zs =>
   cases a with
   | ref a =>
    rw[dh] at e
    split at e
    .rename_i x hx
     have:=su l (g x) (acc++[.ref ⟨τ,x⟩]) zs pre res (h x) e hp
     rw[TV.bd hx]
     simpa using this
    .cases e
   | val a=>simp[dh] at e
   | di a=>simp[dh] at e
   | own a=>simp[dh] at e
   | fn a=>simp[dh] at e
   | box a=>simp[dh] at e
 | .f::l,g,acc,zs,pre,res,h,e,hp=>by
  cases zs with
  | nil=>simp[dh] at e
  | cons a zs =>
   cases a with
   | fn a =>
    rw[dh] at e
    have:=su l (g a) (acc++[.fn a]) zs pre res (h a) e hp
    simpa using this
   | val a=>simp[dh] at e
   | di a=>simp[dh] at e
   | own a=>simp[dh] at e
   | ref a=>simp[dh] at e
   | box a=>simp[dh] at e
 | .c ps r::l,g,acc,zs,pre,res,h,e,hp=>by
  cases zs with
  | nil=>simp[dh] at e
  | cons a zs =>
   cases a with
   | di a =>
    rw[dh] at e
    split at e
    .rename_i x hx
     have:=su l (g x) (acc++[.di ⟨ps,r,x⟩]) zs pre res (h x) e hp
     rw[FV.bd hx]
     simpa using this
    .cases e
   | val a=>simp[dh] at e
   | ref a=>simp[dh] at e
   | fn a=>simp[dh] at e
   | own a=>simp[dh] at e
   | box a=>simp[dh] at e
 | .o τ::l,g,acc,zs,pre,res,h,e,hp=>by
  cases zs with
  | nil=>simp[dh] at e
  | cons a zs =>
   cases a with
   | own a =>
    rw[dh] at e
    split at e
    .rename_i x hx
     have:=su l (g x) (acc++[.own ⟨τ,x⟩]) zs pre res (h x) e hp
     rw[TV.bd hx]
     simpa using this
    .cases e
   | val a=>simp[dh] at e
   | ref a=>simp[dh] at e
   | fn a=>simp[dh] at e
   | di a=>simp[dh] at e
   | box a=>simp[dh] at e
 | .b k::l,g,acc,zs,pre,res,h,e,hp=>by
  cases zs<;>simp[dh] at e
structure bb where
 n:Nat
 l:List PK
 g:KT l
def bb.Good(c:bb):Prop:=oC prog c.n/\Ri prog c.n c.l c.g []
def qy:List bb->Nat->List Arg->Option (Vc×List TV)
 | [],_,_=>none
 | c::r,f,zs=>match Nat.beq c.n f with
  | true=>dh c.l c.g zs
  | false=>qy r f zs
def PK.own:PK->Bool
 | .o _=>true
 | _=>false
def Vr:List bb->Nat->List Bool
 | [],_=>[]
 | c::r,f=>match Nat.beq c.n f with
  | true=>match c.l.any PK.own with
   | true=>c.l.map PK.own
   | false=>[]
  | false=>Vr r f
def bo(l:List bb)(wr:List Nat:=[])(cl:List (Nat×D4):=[])(ro:List Nat:=[]):Env:=Env.mk z7 LQ (qy l) wr [] (λ _ _=>none) (λ _=>none) (ae cl) ro (λ _=>[]) (λ _=>none) (λ _ _ _=>none) HF wZ
def aQ:List bb->Prop
 | []=>True
 | c::r=>c.Good/\aQ r
theorem IW:∀ (l:List bb),aQ l->∀ f args pre res,qy l f args=some (pre,res)->pre.ok->oC prog f/\bD prog f args (·=res)
 | [],_,f,args,pre,res,e,_=>by cases e
 | c::r,h,f,args,pre,res,e,hp=>by
  rw[qy] at e
  split at e
  .rename_i hb
   have hb:=a5F hb
   subst hb
   exact⟨h.1.1,su c.l c.g [] args pre res h.1.2 e hp⟩
  .exact IW r h.2 f args pre res e hp
theorem Co{α:Type}:∀ (l:List (Nat×α)) (n:Nat) (v:α),ae l n=some v->(n,v)∈l
 | [],n,v,h=>by cases h
 | (k,u)::r,n,v,h=>by
  rw[ae] at h
  split at h
  .rename_i hb
   cases h
   rw[a5F hb]
   exact a8F ..
  .exact a7u _ (Co r n v h)
theorem IZ{l:List bb}{wr:List Nat}{cl:List (Nat×D4)}{ro:List Nat}(h:aQ l):bJ prog (bo l wr cl ro) where
 ty T τ b e ht:=by
  have h1:=a6i.mp (a8x.1 (Dj (qy l) wr [] (λ _ _=>none) (λ _=>none) (ae cl) ro (λ _=>[]) (λ _=>none) (λ _ _ _=>none) wZ)).1 _ (Co _ _ _ ht)
  exact h1
 Sz T κ ε ht:=by
  have h1:=a6i.mp (a8x.1 (Dj (qy l) wr [] (λ _ _=>none) (λ _=>none) (ae cl) ro (λ _=>[]) (λ _=>none) (λ _ _ _=>none) wZ)).2 _ (Co _ _ _ ht)
  exact h1
 Ut _ _ _:=trivial
 IV:=IW l h
 HI _ _ _ _ h:=by cases h
 mark _ _ h:=by cases h
 Nw:=Nx
 Pr _ _ _ _ _ _ _ h:=by cases h
theorem aG {f:FuncId} {fn:Func} (h:prog.funcs[f]?=some fn) (hb:fn.body.isNone=false) (hn:(fn.name == "runtime.NumGoroutine")=false):oC prog f:=⟨fn,h,hb,hn⟩
theorem p8:∀ {l m:List TV},bH l m->l=m
 | [],[],_=>rfl
 | [v],[u],h=>by rw[l4 h]
 | v::v'::vs,[u],h=>by
  have:=p8 (l:=v'::vs) (m:=[]) h.2
  cases this
 | [v],u::u'::us,h=>by
  have:=p8 (l:=[]) (m:=u'::us) h.2
  cases this
 | v::v'::vs,u::u'::us,h=>by rw[l4 h.1,p8 (l:=v'::vs) (m:=u'::us) h.2]
 | [],u::us,h=>by cases h
 | v::vs,[],h=>by
  cases vs<;>cases h
theorem bD.mono{P:Program}{f:FuncId}{args:List Arg}{p q:List TV->Prop}(h:bD P f args p)(ZJ:∀ r,p r->q r):bD P f args q:=by
 intro w S cF hS ha
 refine (h w S cF hS ha).mono λ e w'=>?_
 rintro⟨x,S',res,h1,h2,h3⟩
 exact⟨x,S',res,h1,ZJ _ h2,h3⟩
theorem bu{f:FuncId}{fn:Func}{J:Code}{l:List bb}{wr:List Nat}{cl:List (Nat×D4)}{ro:List Nat}(hl:aQ l)(hf:prog.funcs[f]?=some fn)(hb:fn.body=some J)(Λ:Nat->aX){args:List Arg}{res:List TV}
  (h:cU (bo l wr cl ro) J Λ 0 (bC (bo l wr cl ro) fn λ r=>bH r res) (aO fn args)):bD prog f args (·=res) :=
 (O4 (IZ hl) xb hf hb Λ h).mono λ _=>p8
def uM(P:Program)(f:FuncId):(l:List PK)->KT l->List Arg->Prop
 | [],x,acc=>x.down.1.ok->ng P f acc x.down.2
 | .v τ::l,g,acc=>∀ x,uM P f l (g x) (acc++[.val ⟨τ,x⟩])
 | .r τ::l,g,acc=>∀ x,uM P f l (g x) (acc++[.ref ⟨τ,x⟩])
 | .f::l,g,acc=>∀ x,uM P f l (g x) (acc++[.fn x])
 | .c ps r::l,g,acc=>∀ x,uM P f l (g x) (acc++[.di ⟨ps,r,x⟩])
 | .o τ::l,g,acc=>∀ x,uM P f l (g x) (acc++[.own ⟨τ,x⟩])
 | .b _::_,_,_=>True
theorem qn{P:Program}{f:FuncId}:∀ (l:List PK) (g:KT l) (acc zs:List Arg) (pre:Vc) (res:List TV),uM P f l g acc->dh l g zs=some (pre,res)->pre.ok->ng P f (acc++zs) res
 | [],g,acc,zs,pre,res,h,e,hp=>by
  cases zs with
  | nil =>
   simp only[dh,a5E] at e
   have h':g.down.1.ok->ng P f acc g.down.2:=h
   rw[e] at h'
   rw[a7a]
   exact h' hp
  | cons a zs=>simp[dh] at e
 | .v τ::l,g,acc,zs,pre,res,h,e,hp=>by
  cases zs with
  | nil=>simp[dh] at e
  | cons a zs =>
   cases a with
   | val a =>
    rw[dh] at e
    split at e
    .rename_i x hx
     have:=qn l (g x) (acc++[.val ⟨τ,x⟩]) zs pre res (h x) e hp
     rw[TV.bd hx]
     simpa using this
    .cases e
   | ref a=>simp[dh] at e
   | di a=>simp[dh] at e
   | own a=>simp[dh] at e
   | fn a=>simp[dh] at e
   | box a=>simp[dh] at e
 | .r τ::l,g,acc,zs,pre,res,h,e,hp=>by
  cases zs with
  | nil=>simp[dh] at e
  | cons a zs =>
   cases a with
   | ref a =>
    rw[dh] at e
    split at e
    .rename_i x hx
     have:=qn l (g x) (acc++[.ref ⟨τ,x⟩]) zs pre res (h x) e hp
     rw[TV.bd hx]
     simpa using this
    .cases e
   | val a=>simp[dh] at e
   | di a=>simp[dh] at e
   | own a=>simp[dh] at e
   | fn a=>simp[dh] at e
   | box a=>simp[dh] at e
 | .f::l,g,acc,zs,pre,res,h,e,hp=>by
  cases zs with
  | nil=>simp[dh] at e
  | cons a zs =>
   cases a with
   | fn a =>
    rw[dh] at e
    have:=qn l (g a) (acc++[.fn a]) zs pre res (h a) e hp
    simpa using this
   | val a=>simp[dh] at e
   | di a=>simp[dh] at e
   | own a=>simp[dh] at e
   | ref a=>simp[dh] at e
   | box a=>simp[dh] at e
 | .c ps r::l,g,acc,zs,pre,res,h,e,hp=>by
  cases zs with
  | nil=>simp[dh] at e
  | cons a zs =>
   cases a with
   | di a =>
    rw[dh] at e
    split at e
    .rename_i x hx
     have:=qn l (g x) (acc++[.di ⟨ps,r,x⟩]) zs pre res (h x) e hp
     rw[FV.bd hx]
     simpa using this
    .cases e
   | val a=>simp[dh] at e
   | ref a=>simp[dh] at e
   | fn a=>simp[dh] at e
   | own a=>simp[dh] at e
   | box a=>simp[dh] at e
 | .o τ::l,g,acc,zs,pre,res,h,e,hp=>by
  cases zs with
  | nil=>simp[dh] at e
  | cons a zs =>
   cases a with
   | own a =>
    rw[dh] at e
    split at e
    .rename_i x hx
     have:=qn l (g x) (acc++[.own ⟨τ,x⟩]) zs pre res (h x) e hp
     rw[TV.bd hx]
     simpa using this
    .cases e
   | val a=>simp[dh] at e
   | ref a=>simp[dh] at e
   | fn a=>simp[dh] at e
   | di a=>simp[dh] at e
   | box a=>simp[dh] at e
 | .b k::l,g,acc,zs,pre,res,h,e,hp=>by
  cases zs<;>simp[dh] at e
def bb.lM(c:bb):Prop:=oC prog c.n/\uM prog c.n c.l c.g []
theorem AT.lW{w:World}{S:Nat->Prop}{v:TV}{x:Value}{fp:List Nat}(h:AT w v x fp)(hb:∀ b∈fp,S b):eI w S v x:=by
 obtain⟨τ,y⟩:=v
 cases τ with
 | st s =>
  obtain⟨cs,h1,h2⟩:=h
  exact⟨cs,h1,h2.rd _ hb⟩
 | _=>exact Ow.rd _ h hb
theorem Gl.lW{w:World}{S:Nat->Prop}:∀ {vs:List TV} {xs:List Value} {fp:List Nat},Gl w vs xs fp->(∀ b∈fp,S b)->aN (eI w S) vs xs
 | [],[],_,_,_=>trivial
 | v::vs,x::xs,fp,h,hb=>by
  obtain⟨f1,f2,rfl,h1,h2⟩:=h
  exact⟨h1.lW λ b cw=>hb b (a7Y _ cw),Gl.lW h2 λ b cw=>hb b (List.mem_append_right _ cw)⟩
 | [],_::_,_,h,_=>h.elim
 | _::_,[],_,h,_=>h.elim
theorem ng.plain{P:Program}{f:FuncId}{args:List Arg}{res:List TV}(h:ng P f args res):bD P f args (·=res):=by
 intro w S cF hS ha
 refine (h w S cF [] hS (tF.NF ha) (.inl rfl) a6T (λ b hb=>by cases hb)).mono ?_
 rintro e w' ⟨x,fp,rfl,hk,hr,_,uu⟩
 have hn:∀ b∈fp,w.heap.size<=b/\b<w'.heap.size:=λ b hb=>(uu b hb).elim (λ q=>by cases q) id
 refine⟨x,λ b=>S b\/b∈fp,res,rfl,rfl,⟨hk.os,hk.tape,hk.output,hk.size,λ b hb _=>hk.block b hb λ q=>by cases q⟩,λ b hb=>⟨λ q=>q.elim id λ q=>absurd (hn b q).1 (by omega), .inl⟩,λ b q=>q.elim (λ q=>a5Q (hS.1 b q) hk.size) λ q=>(hn b q).2,?_⟩
 match res,hr with
 | [v],hr=>exact AT.lW (v:=v) hr λ b hb => .inr hb
 | [],hr =>
  obtain⟨l,h1,h2⟩:=hr
  exact⟨l,h1,h2.lW λ b hb => .inr hb⟩
 | v::u::vs,hr =>
  obtain⟨l,h1,h2⟩:=hr
  exact⟨l,h1,h2.lW λ b hb => .inr hb⟩
theorem uM.plain{P:Program}{f:FuncId}:∀ (l:List PK) (g:KT l) (acc:List Arg),uM P f l g acc->Ri P f l g acc
 | [],_,_,h=>λ hp=>(h hp).plain
 | .v _::l,g,_,h=>λ x=>uM.plain l (g x) _ (h x)
 | .r _::l,g,_,h=>λ x=>uM.plain l (g x) _ (h x)
 | .f::l,g,_,h=>λ x=>uM.plain l (g x) _ (h x)
 | .c _ _::l,g,_,h=>λ x=>uM.plain l (g x) _ (h x)
 | .o _::l,g,_,h=>λ x=>uM.plain l (g x) _ (h x)
 | .b _::_,_,_,_=>trivial
theorem bb.lM.plain{k:bb}(h:k.lM):k.Good:=⟨h.1,uM.plain k.l k.g [] h.2⟩
def iE:List bb->Prop
 | []=>True
 | c::r=>c.lM/\iE r
theorem ND:∀ (l:List bb),iE l->∀ f args pre res,qy l f args=some (pre,res)->pre.ok->oC prog f/\ng prog f args res
 | [],_,f,args,pre,res,e,_=>by cases e
 | c::r,h,f,args,pre,res,e,hp=>by
  rw[qy] at e
  split at e
  .rename_i hb
   have hb:=a5F hb
   subst hb
   exact⟨h.1.1,qn c.l c.g [] args pre res h.1.2 e hp⟩
  .exact ND r h.2 f args pre res e hp
structure MK where
 n:Nat
 m:OJ
def MK.Good(c:MK):Prop:=oC prog c.n/\PG prog c.n c.m
def iS:List MK->Prop
 | []=>True
 | c::r=>c.Good/\iS r
def Db:List MK->Nat->Option OJ
 | [],_=>none
 | c::r,f=>match Nat.beq c.n f with
  | true=>some c.m
  | false=>Db r f
theorem Ns:∀ (l:List MK),iS l->∀ f m,Db l f=some m->oC prog f/\PG prog f m
 | [],_,f,m,e=>by cases e
 | c::r,h,f,m,e=>by
  rw[Db] at e
  split at e
  .rename_i hb
   have hb:=a5F hb
   subst hb
   cases e
   exact h.1
  .exact Ns r h.2 f m e
@[reducible] def WE:List Ty->Type 1->Type 1
 | [],R=>R
 | t::ts,R=>t.den->WE ts R
@[reducible] def Te:List (List Ty)->Type 1
 | []=>ULift (Vc×List TV×List (List TV))
 | ts::D=>WE ts (Te D)
@[reducible] def Oi:List PK->List (List Ty)->Type 1
 | [],D=>Te D
 | .v τ::l,D=>τ.den->Oi l D
 | .r τ::l,D=>τ.den->Oi l D
 | .f::l,D=>FuncId->Oi l D
 | .b _::l,D=>Oi l D
 | .c _ _::l,D=>Oi l D
 | .o _::l,D=>Oi l D
def kC:(ts:List Ty)->(R:Type 1)->WE ts R->List TV->Option R
 | [],_,r,[]=>some r
 | t::ts,R,g,v::vs=>match v.Z9 t with
  | some x=>kC ts R (g x) vs
  | none=>none
 | _,_,_,_=>none
def kD:(D:List (List Ty))->Te D->List (List TV)->Option (Vc×List TV×List (List TV))
 | [],r,[]=>some r.down
 | ts::D,g,vs::bO=>match kC ts (Te D) g vs with
  | some h=>kD D h bO
  | none=>none
 | _,_,_=>none
def kS:(l:List PK)->(D:List (List Ty))->Oi l D->List Arg->List (List TV)->Option (Vc×List TV×List (List TV))
 | [],D,g,[],bO=>kD D g bO
 | .v τ::l,D,g, .val a::zs,bO=>match a.Z9 τ with
  | some x=>kS l D (g x) zs bO
  | none=>none
 | .r τ::l,D,g, .ref a::zs,bO=>match a.Z9 τ with
  | some x=>kS l D (g x) zs bO
  | none=>none
 | .f::l,D,g, .fn a::zs,bO=>kS l D (g a) zs bO
 | .b k::l,D,g, .box j::zs,bO=>match Nat.beq k j with
  | true=>kS l D g zs bO
  | false=>none
 | _,_,_,_,_=>none
def WC:(ts:List Ty)->(R:Type 1)->(R->List TV->Prop)->WE ts R->List TV->Prop
 | [],_,p,r,acc=>p r acc
 | t::ts,R,p,g,acc=>∀ x,WC ts R p (g x) (acc++[⟨t,x⟩])
def WD(q:List (List TV)->Vc×List TV×List (List TV)->Prop):(D:List (List Ty))->Te D->List (List TV)->Prop
 | [],r,acc=>q acc r.down
 | ts::D,g,acc=>WC ts (Te D) (λ h vs=>WD q D h (acc++[vs])) g []
def OI(P:Program)(f:FuncId)(sh:List (List CK)):(l:List PK)->(D:List (List Ty))->Oi l D->List Arg->Prop
 | [],D,g,acc=>WD (λ bO r=>r.1.ok->p7 P f sh acc bO r.2.1 r.2.2) D g []
 | .v τ::l,D,g,acc=>∀ x,OI P f sh l D (g x) (acc++[.val ⟨τ,x⟩])
 | .r τ::l,D,g,acc=>∀ x,OI P f sh l D (g x) (acc++[.ref ⟨τ,x⟩])
 | .f::l,D,g,acc=>∀ x,OI P f sh l D (g x) (acc++[.fn x])
 | .b k::l,D,g,acc=>OI P f sh l D g (acc++[.box k])
 | .c _ _::_,_,_,_=>True
 | .o _::_,_,_,_=>True
theorem XR:∀ (ts:List Ty) (R:Type 1) (p:R->List TV->Prop) (g:WE ts R) (acc vs:List TV) (r:R),WC ts R p g acc->kC ts R g vs=some r->p r (acc++vs)
 | [],R,p,g,acc,vs,r,h,e=>by
  cases vs with
  | nil =>
   simp only[kC,a5E] at e
   subst e
   rw[a7a]
   exact h
  | cons v vs=>simp[kC] at e
 | t::ts,R,p,g,acc,vs,r,h,e=>by
  cases vs with
  | nil=>simp[kC] at e
  | cons v vs =>
   rw[kC] at e
   split at e
   .rename_i x hx
    have:=XR ts R p (g x) (acc++[⟨t,x⟩]) vs r (h x) e
    rw[TV.bd hx]
    simpa using this
   .cases e
theorem XS(q:List (List TV)->Vc×List TV×List (List TV)->Prop):∀ (D:List (List Ty)) (g:Te D) (acc bO:List (List TV)) (r:Vc×List TV×List (List TV)),WD q D g acc->kD D g bO=some r->q (acc++bO) r
 | [],g,acc,bO,r,h,e=>by
  cases bO with
  | nil =>
   simp only[kD,a5E] at e
   subst e
   rw[a7a]
   exact h
  | cons v vs=>simp[kD] at e
 | ts::D,g,acc,bO,r,h,e=>by
  cases bO with
  | nil=>simp[kD] at e
  | cons vs bO =>
   rw[kD] at e
   split at e
   .rename_i k hk
    have h1:=XR ts _ _ g [] vs k h hk
    have:=XS q D k (acc++[vs]) bO r (by simpa using h1) e
    simpa using this
   .cases e
theorem Nh{P:Program}{f:FuncId}{sh:List (List CK)}:∀ (l:List PK) (D:List (List Ty)) (g:Oi l D) (acc zs:List Arg) (bO:List (List TV)) (pre:Vc) (res:List TV) (fw:List (List TV)),OI P f sh l D g acc->kS l D g zs bO=some (pre,res,fw)->pre.ok->p7 P f sh (acc++zs) bO res fw
 | [],D,g,acc,zs,bO,pre,res,fw,h,e,hp=>by
  cases zs with
  | nil =>
   have:=XS _ D g [] bO _ h e
   simpa using this hp
  | cons z zs=>simp[kS] at e
 | .v τ::l,D,g,acc,zs,bO,pre,res,fw,h,e,hp=>by
  cases zs with
  | nil=>simp[kS] at e
  | cons a zs =>
   cases a with
   | val a =>
    rw[kS] at e
    split at e
    .rename_i x hx
     have:=Nh l D (g x) (acc++[.val ⟨τ,x⟩]) zs bO pre res fw (h x) e hp
     rw[TV.bd hx]
     simpa using this
    .cases e
   | _=>simp[kS] at e
 | .r τ::l,D,g,acc,zs,bO,pre,res,fw,h,e,hp=>by
  cases zs with
  | nil=>simp[kS] at e
  | cons a zs =>
   cases a with
   | ref a =>
    rw[kS] at e
    split at e
    .rename_i x hx
     have:=Nh l D (g x) (acc++[.ref ⟨τ,x⟩]) zs bO pre res fw (h x) e hp
     rw[TV.bd hx]
     simpa using this
    .cases e
   | _=>simp[kS] at e
 | .f::l,D,g,acc,zs,bO,pre,res,fw,h,e,hp=>by
  cases zs with
  | nil=>simp[kS] at e
  | cons a zs =>
   cases a with
   | fn a =>
    rw[kS] at e
    have:=Nh l D (g a) (acc++[.fn a]) zs bO pre res fw (h a) e hp
    simpa using this
   | _=>simp[kS] at e
 | .b k::l,D,g,acc,zs,bO,pre,res,fw,h,e,hp=>by
  cases zs with
  | nil=>simp[kS] at e
  | cons a zs =>
   cases a with
   | box j =>
    rw[kS] at e
    split at e
    .rename_i hb
     have hb:=a5F hb
     subst hb
     have:=Nh l D g (acc++[.box k]) zs bO pre res fw h e hp
     simpa using this
    .cases e
   | _=>simp[kS] at e
 | .c _ _::l,D,g,acc,zs,bO,pre,res,fw,h,e,hp=>by cases zs<;>simp[kS] at e
 | .o _::l,D,g,acc,zs,bO,pre,res,fw,h,e,hp=>by cases zs<;>simp[kS] at e
structure fY where
 n:Nat
 sh:List (List CK)
 l:List PK
 D:List (List Ty)
 g:Oi l D
def fY.Good(c:fY):Prop:=oC prog c.n/\OI prog c.n c.sh c.l c.D c.g []
def gU:List fY->Prop
 | []=>True
 | c::r=>c.Good/\gU r
def Yj:List PK->List (Option Nat)
 | []=>[]
 | .b k::l=>some k::Yj l
 | _::l=>none::Yj l
def Pu:List fY->Nat->Option SK
 | [],_=>none
 | c::r,f=>match Nat.beq c.n f with
  | true=>some ⟨Yj c.l,c.sh⟩
  | false=>Pu r f
def Dg:List fY->Nat->List Arg->List (List TV)->Option (Vc×List TV×List (List TV))
 | [],_,_,_=>none
 | c::r,f,zs,bO=>match Nat.beq c.n f with
  | true=>kS c.l c.D c.g zs bO
  | false=>Dg r f zs bO
theorem NW:∀ (l:List fY),gU l->∀ f sk args bO pre res fw,Pu l f=some sk->Dg l f args bO=some (pre,res,fw)->pre.ok->oC prog f/\p7 prog f sk.sh args bO res fw
 | [],_,f,sk,args,bO,pre,res,fw,h,_,_=>by cases h
 | c::r,h,f,sk,args,bO,pre,res,fw,hs,e,hp=>by
  rw[Pu] at hs
  rw[Dg] at e
  split at e
  .rename_i hb
   rw[hb] at hs
   have hb:=a5F hb
   subst hb
   simp only[a5E] at hs
   subst hs
   exact⟨h.1.1,by simpa using Nh c.l c.D c.g [] args bO pre res fw h.1.2 e hp⟩
  .rename_i hb
   rw[hb] at hs
   exact NW r h.2 f sk args bO pre res fw hs e hp
def dj(l:List bb)(ol:List bb)(ml:List MK)(own wr:List Nat)(cl:List (Nat×D4):=[])(ro:List Nat:=[])(sl:List fY:=[]):Env:=Env.mk z7 LQ (qy l) wr own (qy ol) (Db ml) (ae cl) ro (Vr ol) (Pu sl) (Dg sl) HF wZ
theorem My{l ol:List bb}{ml:List MK}{own wr:List Nat}{cl:List (Nat×D4)}{ro:List Nat}{sl:List fY}(h:aQ l)(ho:iE ol)(hm:iS ml)(hs:gU sl):bJ prog (dj l ol ml own wr cl ro sl) where
 ty T τ b e ht:=by
  have h1:=a6i.mp (a8x.1 (Dj (qy l) wr own (qy ol) (Db ml) (ae cl) ro (Vr ol) (Pu sl) (Dg sl) wZ)).1 _ (Co _ _ _ ht)
  exact h1
 Sz T κ ε ht:=by
  have h1:=a6i.mp (a8x.1 (Dj (qy l) wr own (qy ol) (Db ml) (ae cl) ro (Vr ol) (Pu sl) (Dg sl) wZ)).2 _ (Co _ _ _ ht)
  exact h1
 Ut _ _ _:=trivial
 IV:=IW l h
 HI:=ND ol ho
 mark:=Ns ml hm
 Nw:=Nx
 Pr:=NW sl hs
theorem KH{f:FuncId}{fn:Func}{J:Code}{l ol:List bb}{ml:List MK}{own wr:List Nat}{cl:List (Nat×D4)}{ro:List Nat}{sl:List fY}(hl:aQ l)(ho:iE ol)(hm:iS ml)(hs:gU sl)(hf:prog.funcs[f]?=some fn)(hb:fn.body=some J)(Λ:Nat->aX){args:List Arg}{res:List TV}
  (h:cU (dj l ol ml own wr cl ro sl) J Λ 0 (bC (dj l ol ml own wr cl ro sl) fn λ r=>bH r res) (aO fn args)):bD prog f args (·=res) :=
 (O4 (My hl ho hm hs) xb hf hb Λ h).mono λ _=>p8
theorem lK{f:FuncId}{fn:Func}{J:Code}{l ol:List bb}{ml:List MK}{own wr:List Nat}{cl:List (Nat×D4)}{ro:List Nat}{sl:List fY}(hl:aQ l)(ho:iE ol)(hm:iS ml)(hs:gU sl)(hf:prog.funcs[f]?=some fn)(hb:fn.body=some J)(Λ:Nat->aX){args:List Arg}{res:List TV}
  (h:cU (dj l ol ml own wr cl ro sl) J Λ 0 (mn (dj l ol ml own wr cl ro sl) fn λ r=>bH r res) (rz fn args)):ng prog f args res :=
 Oq (My hl ho hm hs) xb hf hb Λ (λ _=>p8) h
def jv:List (List TV)->List (List TV)->Prop
 | [],[]=>True
 | a::r,b::q=>bH a b/\jv r q
 | _,_=>False
theorem L7:∀ {a b:List (List TV)},jv a b->a=b
 | [],[],_=>rfl
 | _::_,_::_,h=>by rw[p8 h.1,L7 h.2]
 | [],_::_,h=>h.elim
 | _::_,[],h=>h.elim
def Mk(args:List Arg)(n:Nat):Bool:=args.all λ a=>match a with
 | .box k=>Nat.blt k n
 | _=>true
theorem Ok{args:List Arg}{n:Nat}(h:Mk args n=true):∀ k,Arg.box k∈args->k<n:=λ k hk=>by
 unfold Mk at h
 rw[a6i] at h
 exact a6H (h _ hk)
theorem eN{f:FuncId}{fn:Func}{J:Code}{l ol:List bb}{ml:List MK}{own wr:List Nat}{cl:List (Nat×D4)}{ro:List Nat}{sl:List fY}(hl:aQ l)(ho:iE ol)(hm:iS ml)(hs:gU sl)(hf:prog.funcs[f]?=some fn)(hb:fn.body=some J)(Λ:Nat->aX){args:List Arg}{sh:List (List CK)}{bO:List (List TV)}{res:List TV}{fw:List (List TV)}
  (DU:Pt sh=true) (Ja:Mk args sh.length=true) (h:cU (dj l ol ml own wr cl ro sl) J Λ 0 (gS (dj l ol ml own wr cl ro sl) fn sh λ r ds=>bH r res/\jv ds fw) (cB fn args sh bO)):p7 prog f sh args bO res fw :=
 P6 (My hl ho hm hs) xb hf hb Λ (λ _ _ q=>⟨p8 q.1,L7 q.2⟩) DU (Ok Ja) h
end Go.Proofs.YtnehkikdlnmebaaGreatDoor

namespace Go.Proofs.YtnehkikdlnmebaaGreatDoor
open Go.ChangeShapes Go.WideShapes Go.ChangeAt Go.RowKit
theorem dq.append{w:World}{S:Nat->Prop}:∀ (ds es:List D) {l m:List Value},dq w S ds l->dq w S es m->dq w S (ds++es) (l++m)
 | [],_,_,_,h,k=>by rw[show _=[] from h];simpa using k
 | d::ds,es,_,m,h,k=>by
  obtain⟨c,r,rfl,h2,h3⟩:=h
  exact⟨c,r++m,by simp,h2,dq.append ds es h3 k⟩
theorem Wf{w:World}{S:Nat->Prop}(t:Ty)(y:t.den){cs:List Value}(h:Rd w S (t.aK y) cs):dq w S ((TV.cells ⟨t,y⟩).map TV.aK) cs:=by
 have one:∀ d:D,d.leaf=true->Rd w S d cs->dq w S [d] cs:=by
  intro d hd h
  obtain⟨v,rfl,_⟩:=Rd.tP hd h
  exact⟨v,[],rfl,h,rfl⟩
 cases t with
 | st s =>
  have h':Rd w S (s.aK y) cs:=h
  rw[aR.cr] at h'
  exact h'
 | int k=>exact one _ rfl h
 | bool=>exact one _ rfl h
 | str=>exact one _ rfl h
 | slice t=>exact one _ rfl h
 | mv t=>exact one _ (Jm _ _ _) h
 | ptr=>exact one _ rfl h
theorem ME{w:World}{S:Nat->Prop}:∀ (ts:List Ty) (cs:List Value),cs.length=(ts.map Ty.size).sum ->
  (∀ i t,ts[i]?=some t->∃ y:t.den,Rd w S (t.aK y) ((cs.drop ((ts.take i).map Ty.size).sum).take t.size)) ->
  ∃ fl:List TV,fl.map TV.τ=ts/\dq w S ((fl.flatMap TV.cells).map TV.aK) cs
 | [],cs,h,_=>⟨[],rfl,by
   have:cs=[]:=by simpa using h
   subst this;exact rfl⟩
 | t::ts,cs,h,k=>by
  obtain⟨y,hy⟩:=k 0 t rfl
  simp only[a8d,a7C,List.sum_nil,a8c] at hy
  simp only[a6n,a9F] at h
  obtain⟨fl,h1,h2⟩:=ME ts (cs.drop t.size) (by simp;omega) (λ i u hu=>by
   obtain⟨z,hz⟩:=k (i+1) u hu
   simp only[a8S,a6n,a9F] at hz
   rw[<-a8b] at hz
   exact⟨z,hz⟩)
  refine⟨⟨t,y⟩::fl,by simp[h1],?_⟩
  simp only[a9e,a7l]
  have:=dq.append _ _ (Wf t y hy) h2
  rwa [a7b] at this
theorem Vg{w:World}{S:Nat->Prop}(t:Ty)(b:Nat):∀ (n o:Nat),(∀ i,i<n->∃ (x:t.den) (cs:List Value),cs.length=t.size/\Rd w S (t.aK x) cs/\bP w b (o+i * t.size) cs) ->
  ∃ xs:List t.den,xs.length=n/\dr w S (xs.map t.aK) b o
 | 0,o,_=>⟨[],rfl,trivial⟩
 | n+1,o,h=>by
  obtain⟨x,cs,h1,h2,h3⟩:=h 0 (by omega)
  obtain⟨xs,h4,h5⟩:=Vg t b n (o+t.size) (λ i hi=>by
   obtain⟨y,c,g1,g2,g3⟩:=h (i+1) (by omega)
   exact⟨y,c,g1,g2,by rw[show o+t.size+i * t.size=o+(i+1) * t.size by rw[a6G];omega];exact g3⟩)
  refine⟨x::xs,by simp[h4],⟨cs,by rw[Ty.cK];exact h1,h2,by simpa using h3⟩,?_⟩
  rw[Ty.cK]
  exact h5
section
variable {H:Type} {enc:TypeId×Value->H} {w:World} {spare:Nat->Bool} {held:Bool}
theorem QE(d:DataW H):1<=Rows.uptoBulk d:=by
 cases d with
 | lit l=>cases l<;>simp[Rows.uptoBulk]
 | nil=>simp[Rows.uptoBulk]
 | ptr d=>simp[Rows.uptoBulk]
 | slice elems spare=>simp[Rows.uptoBulk]
 | agg parts=>simp[Rows.uptoBulk]
 | iface t d=>simp[Rows.uptoBulk]
 | map entries=>simp[Rows.uptoBulk]
 | held h=>simp[Rows.uptoBulk]
theorem NO{d:DataW H}{l:List (DataW H)}(h:d∈l):Rows.uptoBulk d<=Rows.uptoBulkAll l:=by
 induction l with
 | nil=>cases h
 | cons x r ih =>
  simp only[Rows.uptoBulkAll]
  cases a5P.1 h with
  | inl e=>subst e;omega
  | inr e=>have:=ih e;omega
theorem Lc(l:List (DataW H)):l.length<=Rows.uptoBulkAll l:=by
 induction l with
 | nil=>simp[Rows.uptoBulkAll]
 | cons x r ih=>have:=QE x;simp only[Rows.uptoBulkAll,a5O];omega
theorem pV:bJ prog (bo []):=IZ trivial
theorem zp{T b e:Nat}{τ:Ty}(h:ae z7 T=some (τ,b,e)):prog.cellsOf T=τ.size:=by
 obtain⟨i,z,h1,h2,_⟩:=(pV.info (T:=T) (τ:=τ) (b:=b) (e:=e) h).ex
 simp[Program.cellsOf,h1,h2]
theorem SM:∀ (fuel:Nat) (τ:Ty) (T b e:Nat) (cs:List Value) (x:DataW H×List MemPlace),ae z7 T=some (τ,b,e)->DataW.trod enc prog w 0 spare held fuel T cs=some x ->
  Rows.uptoBulk x.1<=1048576->∃ y:τ.den,Rd w (·<w.heap.size) (τ.aK y) cs:=by
 intro fuel
 induction fuel with
 | zero =>
  intro τ T b e cs x ht h hk
  have h':(none:Option (DataW H×List MemPlace))=some x:=h
  cases h'
 | succ fuel ih =>
 intro τ T b e cs x ht h hk
 cases τ with
 | int k =>
  obtain⟨n,rfl,rfl,hw⟩:=DataW.trod_int (pV.int ht) h
  refine⟨n,rfl,?_⟩
  simpa [Lit.wf] using hw
 | bool =>
  obtain⟨n,rfl,rfl⟩:=DataW.trod_bool (pV.bool ht) h
  exact⟨n,rfl⟩
 | str =>
  obtain⟨n,rfl,rfl,hw⟩:=DataW.trod_string (pV.str ht) h
  refine⟨n.data.toList,n,rfl,rfl,?_⟩
  simp[Rows.uptoBulk] at hk
  have:n.size=n.data.size:=rfl
  omega
 | mv t=>exact (pV.X8 ht).elim
 | ptr =>
  obtain⟨t,hu⟩:=pV.ptr ht
  rcases DataW.trod_pointer hu h with ⟨rfl,_⟩|⟨a,_,_,_,_,rfl,_⟩
  .exact⟨(),_,rfl⟩
  .exact⟨(),_,rfl⟩
 | slice t =>
  obtain⟨hu,⟨b',e',he⟩,_⟩:=pV.slice ht
  have hc:=zp he
  rcases DataW.trod_slice hu h with ⟨rfl,rfl⟩|⟨a,len,cap,elems,rest,n,hn,rfl,rfl,hb,hl,hm,hlen,R5,_⟩
  .exact⟨[],none,0,rfl,a6b _,a6N _,a6N _, .inl rfl⟩
  .obtain rfl:n=fuel:=by omega
   rw[hc] at R5
   have TU:∀ (i:Nat) (z:DataW H×List MemPlace),elems[i]?=some z->Rows.uptoBulk z.1<=1048576:=by
    intro i z hz
    have h1:=NO (d:=z.1) (l:=elems.map (·.1)) (a5K.2 ⟨z,a6F hz,rfl⟩)
    simp only[Rows.uptoBulk] at hk
    omega
   have vg:∀ i,i<len->∃ (y:t.den) (c:List Value),c.length=t.size/\Rd w (·<w.heap.size) (t.aK y) c/\(∀ j v,c[j]?=some v->w.cell? ((a.add (i * t.size)).add j)=some v):=by
    intro i hi
    have hz:elems[i]?=some (elems[i]'(by omega)):=a5V (by omega)
    have:=R5 i hi
    rw[hz,a6W] at this
    obtain⟨c,MT,hc2⟩:=this
    obtain⟨y,hy⟩:=ih t e b' e' c _ he hc2 (TU i _ hz)
    obtain⟨_,h5,h6⟩:=World.cells?_some MT
    refine⟨y,c,h5,hy,λ j v hj=>?_⟩
    rw[h6 j (by rw[<-h5];exact (a5W.1 hj).1),hj]
   have hlb:len<=1048576:=by
    have h1:=Lc (elems.map (·.1))
    simp only[Rows.uptoBulk,a6B] at hk h1
    omega
   rcases a9M len with h0|h0
   .subst h0
    exact⟨[],some a,cap,rfl,a6N _,hm,a6N _, .inl rfl⟩
   .have hp:=Ty.size_pos t
    have Qq:a.spot=none:=by
     obtain⟨y,c,g1,g2,g3⟩:=vg 0 h0
     have hj:c[0]?=some (c[0]'(by omega)):=a5V (by omega)
     have:=World.cell?_spot (g3 0 _ hj)
     simpa [Addr.add] using this
    obtain⟨ab,ao,asp⟩:=a
    simp only at Qq
    subst Qq
    have a0D:∀ i j,((⟨ab,ao,none⟩:Addr).add i).add j=⟨ab,ao+i+j,none⟩:=by
     intro i j
     unfold Addr.add
     split<;>split<;>simp_all<;>omega
    obtain⟨xs,h1,h2⟩:=Vg (w:=w) (S:=(·<w.heap.size)) t ab len ao (λ i hi=>by
     obtain⟨y,c,g1,g2,g3⟩:=vg i hi
     exact⟨y,c,g1,g2,λ j v hj=>by rw[<-a0D];exact g3 j v hj⟩)
    have bF:ab<w.heap.size:=by
     obtain⟨y,c,g1,g2,g3⟩:=vg 0 h0
     have hj:c[0]?=some (c[0]'(by omega)):=a5V (by omega)
     have:=g3 0 _ hj
     rw[a0D] at this
     unfold World.cell? at this
     split at this
     .rename_i hh
      exact (a6Q.1 hh).1
     .cases this
    have Qm:(xs.map t.aK).length=len:=by simp[h1]
    refine⟨xs,some ⟨ab,ao,none⟩,cap,by rw[Qm],by rw[Qm];exact hl,hm,by rw[Qm];omega, .inr ⟨ab,ao,rfl,bF,h2⟩⟩
 | st s =>
  obtain⟨fs,hu,cz,hf⟩:=pV.st ht
  obtain⟨xs,n,hn,rfl,BV,tO,hx⟩:=DataW.trod_struct hu h
  obtain rfl:n=fuel:=by omega
  have mD:cs.length=(s.gV.map Ty.size).sum:=by
   rw[BV,zp ht]
   cases s<;>rfl
  obtain⟨fl,h1,h2⟩:=ME (w:=w) (S:=(·<w.heap.size)) s.gV cs mD (λ i t hi=>by
   have bF:i<fs.size:=by rw[cz];exact (a5W.1 hi).1
   obtain⟨t',b',e',g1,g2,g3⟩:=hf i (fs[i]'bF) (a6M bF)
   rw[hi] at g1
   cases g1
   have hy:=hx i (fs[i]'bF) (a6M bF)
   have hz:xs[i]?=some (xs[i]'(by omega)):=a5V (by omega)
   rw[hz,zp g2,g3] at hy
   refine ih t _ b' e' _ _ g2 hy ?_
   have h3:=NO (d:=(xs[i]'(by omega)).1) (l:=xs.map (·.1)) (a5K.2 ⟨_,a8r _,rfl⟩)
   simp only[Rows.uptoBulk] at hk
   omega)
  obtain⟨y,hy⟩:=aR.TA s fl h1
  refine⟨y,?_⟩
  show Rd w _ (s.aK y) cs
  rw[aR.cr,aR.Ee,hy]
  exact h2
end
end Go.Proofs.YtnehkikdlnmebaaGreatDoor

set_option maxRecDepth 100000
namespace Go.Proofs.YtnehkikdlnmebaaGreatDoor
open Go.ChangeShapes Go.WideShapes Go.ChangeAt Go.RowKit
theorem Us:laidOutB prog=true:=by kernel_rfl
theorem We:ownKnob prog.godebug=none:=by kernel_rfl
section
variable {H:Type} {enc:TypeId×Value->H}
theorem EI{W W':World}{sp:Nat->Bool}(hb:Below W.heap.size W W'):∀ (ts:List TypeId) {vs:List Value} {ds:List (DataW H)} {ps:List MemPlace},(∀ t∈ts,prog.readableRec t=true/\t<prog.types.size) ->
  DataW.TrodAll enc prog W 0 (λ _=>true) true ts vs ds ps->(∀ p∈ps,p.block<W.heap.size)->(∀ p∈ps,sp p.block=true)->DataW.TrodAll enc prog W' 0 sp true ts vs ds ps
 | [],[],[],ps,_,h,_,_=>h
 | t::ts,v::vs,d::ds,ps,ht,h,bF,Qq=>by
  obtain⟨p,q,h1,h2,rfl⟩:=h
  refine⟨p,q,?_,?_,rfl⟩
  .exact WideElems.Trod_stays Us (ht t (by simp)).1 (ht t (by simp)).2 h1 (λ x hx=>hb.same (bF x (by simp[hx]))) (λ x hx=>Qq x (by simp[hx]))
  .exact EI hb ts (λ t h=>ht t (by simp[h])) h2 (λ x hx=>bF x (by simp[hx])) (λ x hx=>Qq x (by simp[hx]))
 | [],_::_,_,_,_,h,_,_=>h.elim
 | [],[],_::_,_,_,h,_,_=>h.elim
 | _::_,[],_,_,_,h,_,_=>h.elim
 | _::_,_::_,[],_,_,h,_,_=>h.elim
theorem SJ{f:Func}{s:ChangeSpec}{apart fresh handsOn again:Bool}{W W':World}{args:Array Value}{v:Value}{ds gs:List (DataW H)}{before pa pv:List MemPlace}
  (hW:DataW.Whole enc prog f.params.toList s.vars apart W args.toList ds gs before)
  (U7:∀ (b:Nat) (sp:Nat->Bool) (hd:Bool),DataW.TrodAll enc prog W' b sp hd f.resultTypes.toList (v.resultList f.resultTypes.size) (s.fn H (ds++gs)).results [])
  (gb:∀ sp:Nat->Bool,(∀ p∈before,sp p.block=true)->DataW.TrodAll enc prog W' 0 sp true f.params.toList args.toList (s.fn H (ds++gs)).args pa)
  (M8:∀ sp:Nat->Bool,(∀ p∈before,sp p.block=true)->DataW.TrodVars enc prog W' sp s.vars (s.fn H (ds++gs)).vars pv)
  (ZK:before=pa++pv) (hb:Below W.heap.size W W')
  (hok:∀ (j:Nat) (t:TypeId) (r:Value),f.resultTypes[j]?=some t->(v.resultList f.resultTypes.size)[j]?=some r->Value.okWide prog W' .any 0 t r) :
  s.post enc prog f apart fresh handsOn again W args v W':=by
 have bF:∀ p∈before,p.block<W.heap.size:=λ p hp=>hW.lt p hp
 have hold:∀ p∈before,(λ b=>decide (b<W.heap.size)) p.block=true:=λ p hp=>by simpa using bF p hp
 refine⟨ds,gs,before,[],pa,pv,hW,U7 _ _ _,gb _ hold,M8 _ hold,World.keptBut_mono (λ p hp=>⟨hp,?_⟩) (hb.frame (·∈before)),λ _=>?_⟩
 .rw[ZK,a5G] at hp
  exact Or.inr hp
 .obtain⟨_,_,_,_,_,hz,hn⟩:=hW
  refine⟨hok,_,_,([]++pa)++pv,⟨[]++pa,pv,trodAll_append (gb _ (λ _ _=>rfl)) (U7 _ _ _),M8 _ (λ _ _=>rfl),rfl,?_,?_⟩,?_⟩
  .intro b off hp
   have iX:MemPlace.cell b off∈before:=by rw[ZK];simpa using hp
   rw[hb.frozen (bF _ iX)]
   exact hz b off iX
  .intro ha
   have:=hn ha
   rw[ZK] at this
   simpa using this
  .intro p hp _
   rw[ZK]
   simpa using hp
def SU(τ:Ty)(v:Value):Prop:=match τ with
 | .st _=>∃ cs,v = .agg cs
 | _=>v.cells = #[v]
theorem a0a{w:World}{S:Nat->Prop}(τ:Ty)(y:τ.den){v:Value}(hv:SU τ v)(h:Rd w S (τ.aK y) v.cells.toList):eI w S ⟨τ,y⟩ v:=by
 cases τ with
 | st s =>
  obtain⟨cs,rfl⟩:=hv
  exact⟨cs.toList,by simp,h⟩
 | int k=>simp only[show v.cells = #[v] from hv] at h;exact h
 | bool=>simp only[show v.cells = #[v] from hv] at h;exact h
 | str=>simp only[show v.cells = #[v] from hv] at h;exact h
 | slice t=>simp only[show v.cells = #[v] from hv] at h;exact h
 | mv t=>simp only[show v.cells = #[v] from hv] at h;exact h
 | ptr=>simp only[show v.cells = #[v] from hv] at h;exact h
theorem Rp{w:World}:∀ (ts:List TypeId) (τs:List Ty) {vs:List Value} {ds:List (DataW H)} {ps:List MemPlace},aN (λ T τ=>∃ b e,ae z7 T=some (τ,b,e)) ts τs ->
  DataW.TrodAll enc prog w 0 (λ _=>true) true ts vs ds ps->(∀ d∈ds,Rows.uptoBulk d<=1048576)->(∀ (j:Nat) t v,ts[j]?=some t->vs[j]?=some v->Value.okWide prog w .any 0 t v\/∃ b,Value.okWide prog w .any b t v) ->
  ∃ Ip:List TV,Ip.map TV.τ=τs/\ds.length=τs.length/\aN (uJ prog w (·<w.heap.size)) (Ip.map .val) vs
 | [],[],[],[],_,_,_,_,_=>⟨[],rfl,rfl,trivial⟩
 | T::ts,τ::τs,v::vs,d::ds,ps,ht,h,hk,hv=>by
  obtain⟨p,q,⟨n,h1⟩,h2,rfl⟩:=h
  obtain⟨⟨b,e,hT⟩,T7⟩:=ht
  obtain⟨y,hy⟩:=SM n τ T b e _ _ hT h1 (hk d (by simp))
  obtain⟨Ip,g1,g2,g3⟩:=Rp ts τs T7 h2 (λ d hd=>hk d (by simp[hd])) (λ j t v hj yi=>hv (j+1) t v hj yi)
  refine⟨⟨τ,y⟩::Ip,by simp[g1],by simp[g2],⟨?_,g3⟩⟩
  refine a0a τ y ?_ hy
  have Hx:=hv 0 T v rfl rfl
  have key:∀ b,Value.okWide prog w .any b T v->SU τ v:=by
   intro b' hb
   cases τ with
   | st s =>
    obtain⟨fs,hu,_⟩:=pV.st hT
    simp only[Value.okWide,hu] at hb
    obtain⟨cs,rfl,_⟩:=hb
    exact⟨cs,rfl⟩
   | int k =>
    have hu:=pV.int hT
    simp only[Value.okWide,hu,Cell.okWide,Cell.ok] at hb
    cases v<;>first|rfl|cases hb
   | bool =>
    have hu:=pV.bool hT
    simp only[Value.okWide,hu,Cell.okWide,Cell.ok] at hb
    cases v<;>first|rfl|cases hb
   | str =>
    have hu:=pV.str hT
    simp only[Value.okWide,hu,Cell.okWide,Cell.ok] at hb
    cases v<;>first|rfl|cases hb
   | mv t=>exact (pV.X8 hT).elim
   | ptr =>
    obtain⟨t,hu⟩:=pV.ptr hT
    simp only[Value.okWide,hu,Cell.okWide,Cell.ok] at hb
    cases v<;>first|rfl|cases hb
   | slice t =>
    have hu:=(pV.slice hT).1
    simp only[Value.okWide,hu,Cell.okWide,Cell.ok] at hb
    cases v<;>first|rfl|cases hb
  rcases Hx with h|⟨b',h⟩
  .exact key _ h
  .exact key _ h
 | [],_::_,_,_,_,h,_,_,_=>h.elim
 | _::_,[],_,_,_,h,_,_,_=>h.elim
 | [],[],_::_,_,_,_,h,_,_=>h.elim
 | [],[],[],_::_,_,_,h,_,_=>h.elim
 | _::_,_::_,[],_,_,_,h,_,_=>h.elim
 | _::_,_::_,_::_,[],_,_,h,_,_=>h.elim
noncomputable def a0A(g:Nat):Bool:=g<prog.globals.size&&match ((begin prog (λ _ _=>0) default).world.heap[g]?).bind Obj.row? with
 | some (zero,t)=>zero.size == 1&&prog.buildable t&&(match prog.cellTypes prog.depth t with|some [u]=>u == t|_=>false)&&(match prog.underlying t with|some (.int .i64)=>true|_=>false)
 | none=>false
theorem VK:TJ.all a0A=true:=by kernel_rfl
theorem MN{W:World}(h:W.ShapedOpen prog):oE W (·<W.heap.size):=⟨λ _ h=>h,λ g hg=>by
 have hk:=a6i.1 VK g hg
 unfold a0A at hk
 rw[a5I] at hk
 obtain⟨h1,h2⟩:=hk
 split at h2
 .rename_i zero t h0
  simp only[a5I] at h2
  obtain⟨⟨⟨k1,k2⟩,k3⟩,k4⟩:=h2
  have k3':prog.cellTypes prog.depth t=some [t]:=by
   split at k3
   .rename_i u hu
    rw[hu,eq_of_beq k3]
   .cases k3
  have k4':prog.underlying t=some (.int .i64):=by
   split at k4
   .rename_i hu;exact hu
   .cases k4
  obtain⟨m,hm⟩:=cell_of_shapedOpen_int h (a6f h1) h0 (eq_of_beq k1) k2 k3' k4'
  refine⟨?_,m,hm⟩
  unfold World.cell? at hm
  rcases a6w g W.heap.size with q|q
  .exact q
  .rw[show W.heap[g]?=none from a7d q] at hm
   cases hm
 .cases h2⟩
theorem XT{n:FuncId}{fn:Func}{s:ChangeSpec}{τs:List Ty}{handsOn again:Bool}(ZP:aN (λ T τ=>∃ b e,ae z7 T=some (τ,b,e)) fn.params.toList τs)
  (Qp:∀ t∈fn.params.toList,prog.readableRec t=true/\t<prog.types.size) (hr:fn.resultTypes = #[PH]) (M8:s.vars=[])
  (hs:∀ ds:List (DataW H),ds.length=τs.length->s.fn H ds={ results:=[.lit (.bool true)],args:=ds })
  (a4l:∀ Ip:List TV,Ip.map TV.τ=τs->bD prog n (Ip.map .val) (·=[⟨.bool,true⟩]))
  {W:World} {base:Nat} {args:Array Value} {ds gs:List (DataW H)} {before:List MemPlace}
  (Sh:∀ (j:Nat) t v,fn.params[j]?=some t->args[j]?=some v->Value.okWide prog W .any base t v)
  (hW:DataW.Whole enc prog fn.params.toList s.vars false W args.toList ds gs before) (hk:Rows.uptoSmall H (ds++gs)=true) (DU:oE W (·<W.heap.size)) :
  Calls prog n args W λ e W'=>∃ v,e = .returned v/\s.post enc prog fn false true handsOn again W args v W':=by
 have hW':=hW
 obtain⟨p,q,hA,hV,ZJ,hfz,dC⟩:=hW
 rw[M8] at hV
 obtain⟨rfl,rfl⟩:=trodVars_none hV
 have TU:∀ d∈ds,Rows.uptoBulk d<=1048576:=by
  intro d hd
  have h1:=NO hd
  simp only[Rows.uptoSmall,a7a,a5M] at hk
  omega
 obtain⟨Ip,h1,h2,h3⟩:=Rp fn.params.toList τs ZP hA TU (λ j t v hj yi => .inr ⟨base,Sh j t v (by simpa using hj) (by simpa using yi)⟩)
 have pM:=a4l Ip h1 W (·<W.heap.size) args.toList DU h3
 rw[show args.toList.toArray=args by simp] at pM
 refine pM.mono λ e W'=>?_
 rintro⟨x,S',res,rfl,rfl,jW,Zl,Zm,U7⟩
 have hx:x = .bool true:=by
  have hx:eI W' S' ⟨.bool,true⟩ x:=U7
  have hx:[x]=[Value.bool true]:=hx
  simpa using hx
 subst hx
 have hb:Below W.heap.size W W':=⟨jW.os,jW.tape,jW.output,jW.size,λ k hk=>jW.block k hk (λ h=>h)⟩
 refine⟨_,rfl,SJ (pa:=p) (pv:=[]) hW' ?_ ?_ ?_ ZJ hb ?_⟩
 .intro b sp hd
  rw[hs _ (by simpa using h2),hr]
  exact trodAll_mk1 ⟨1,by
   have hu:prog.underlying PH=some .bool:=by kernel_rfl
   simp only[DataW.trod,Value.cells]
   rw[hu]⟩
 .intro sp Qq
  rw[hs _ (by simpa using h2),List.append_nil]
  have bF:∀ x∈before,x.block<W.heap.size:=λ x hx=>hW'.lt x hx
  rw[ZJ] at bF Qq
  exact EI hb _ Qp hA (λ x hx=>bF x (by simp[hx])) (λ x hx=>Qq x (by simp[hx]))
 .intro sp Qq
  rw[hs _ (by simpa using h2),M8]
  rfl
 .refine ok_one hr rfl ?_
  have hu:prog.underlying PH=some .bool:=by kernel_rfl
  simp[Value.okWide,hu,Cell.okWide,Cell.ok]
end
end Go.Proofs.YtnehkikdlnmebaaGreatDoor

namespace Go.Proofs.YtnehkikdlnmebaaGreatDoor
def cW{α:Type}(f:α->Nat):List α->Nat
 | []=>0
 | x::xs=>f x+cW f xs
section
variable {α:Type} (f:α->Nat)
theorem sD(d:α):∀ (xs:List α) (k:Nat),k<xs.length->cW f (xs.take (k+1))=cW f (xs.take k)+f (xs.getD k d)
 | [],k,h=>by simp at h
 | x::xs,0,h=>by simp[cW]
 | x::xs,k+1,h=>by
  have:=sD d xs k (by simpa using h)
  simp[cW] at this ⊢;omega
theorem gT:∀ (xs:List α) (k:Nat),cW f (xs.take k)<=cW f xs
 | [],k=>by simp
 | x::xs,0=>by simp[cW]
 | x::xs,k+1=>by
  have:=gT xs k
  simp[cW];omega
theorem yV(xs:List α)(k:Nat):xs.length<=k->cW f (xs.take k)=cW f xs:=λ h=>by rw[a6O h]
theorem JP(xs:List α):cW f (xs.take 0)=0:=by simp[cW]
theorem Pw(d:α):∀ (xs:List α) (k:Nat),k<xs.length->f (xs.getD k d)<=cW f xs
 | [],k,h=>by simp at h
 | x::xs,0,h=>by simp[cW]
 | x::xs,k+1,h=>by
  have:=Pw d xs k (by simpa using h)
  simp[cW] at this ⊢;omega
end
def tz(t:Nat)(left:Int):Int:=if (t:Int)<=left then left - t else -1
theorem Di(t:Nat)(left:Int):((t:Int)<=left/\tz t left=left - t)\/(left<(t:Int)/\tz t left = -1):=by
 unfold tz;split
 .exact .inl ⟨by assumption,rfl⟩
 .exact .inr ⟨by omega,rfl⟩
noncomputable def fN{α:Type}(a b:α):Bool := @decide (a=b) (Classical.propDecidable _)
@[simp] theorem RM{α:Type}{a b:α}:fN a b=true↔a=b:=by simp[fN]
@[simp] theorem OZ{α:Type}{a b:α}:fN a b=false↔a≠b:=by simp[fN]
@[simp] theorem a2T{α:Type}{a:α}:fN a a=true:=by simp[fN]
section
variable {α:Type}
theorem pW(d:α):∀ (xs:List α) (k:Nat),k<xs.length->xs.take (k+1)=xs.take k++[xs.getD k d]
 | [],k,h=>by simp at h
 | x::xs,0,h=>by simp
 | x::xs,k+1,h=>by
  have:=pW d xs k (by simpa using h)
  simp at this ⊢;exact this
theorem vN(d:α)(xs ys:List α)(k:Nat)(h1:k<xs.length)(h2:k<ys.length)(h:xs.take k=ys.take k)(e:xs.getD k d=ys.getD k d):xs.take (k+1)=ys.take (k+1):=by
 rw[pW d xs k h1,pW d ys k h2,h,e]
theorem nO(xs ys:List α)(k:Nat)(h1:xs.length<=k)(h2:ys.length<=k)(h:xs.take k=ys.take k):xs=ys:=by
 rwa [a6O h1,a6O h2] at h
def fill(xs:List α)(k:Nat)(z:α):List α:=xs.take k++List.replicate (xs.length - k) z
end
def gY{α:Type}(f:α->Nat):List α->Nat
 | []=>0
 | x::xs=>max (f x) (gY f xs)
section
variable {α:Type} (f:α->Nat)
theorem rY(d:α):∀ (xs:List α) (k:Nat),k<xs.length->gY f (xs.take (k+1))=max (gY f (xs.take k)) (f (xs.getD k d))
 | [],k,h=>by simp at h
 | x::xs,0,h=>by simp[gY]
 | x::xs,k+1,h=>by
  have:=rY d xs k (by simpa using h)
  simp[gY] at this ⊢;omega
theorem jY:∀ (xs:List α) (k:Nat),gY f (xs.take k)<=gY f xs
 | [],k=>by simp
 | x::xs,0=>by simp[gY]
 | x::xs,k+1=>by
  have:=jY xs k
  simp[gY];omega
theorem yJ(xs:List α)(k:Nat):xs.length<=k->gY f (xs.take k)=gY f xs:=λ h=>by rw[a6O h]
theorem Nt(xs:List α):gY f (xs.take 0)=0:=by simp[gY]
theorem FL(d:α):∀ (xs:List α) (k:Nat),k<xs.length->f (xs.getD k d)<=gY f xs
 | [],k,h=>by simp at h
 | x::xs,0,h=>by simp[gY];omega
 | x::xs,k+1,h=>by
  have:=FL d xs k (by simpa using h)
  simp[gY] at this ⊢;omega
end
def b9{α:Type}(f:α->Bool):List α->Bool
 | []=>true
 | x::xs=>f x&&b9 f xs
section
variable {α:Type} (f:α->Bool)
theorem Gq:∀ (xs ys:List α),b9 f (xs++ys)=(b9 f xs&&b9 f ys)
 | [],ys=>by simp[b9]
 | x::xs,ys=>by simp[b9,Gq xs ys,Bool.and_assoc]
theorem cP(d:α)(xs:List α)(k:Nat)(h:k<xs.length):b9 f (xs.take (k+1))=(b9 f (xs.take k)&&f (xs.getD k d)):=by
 rw[pW d xs k h,Gq];simp[b9]
theorem dv(d:α):∀ (xs:List α) (k:Nat),k<xs.length->f (xs.getD k d)=false->b9 f xs=false
 | [],k,h,_=>by simp at h
 | x::xs,0,h,e=>by simp at e;simp[b9,e]
 | x::xs,k+1,h,e=>by
  have:=dv d xs k (by simpa using h) (by simpa using e)
  simp[b9,this]
theorem dd(xs:List α)(k:Nat):xs.length<=k->b9 f (xs.take k)=b9 f xs:=λ h=>by rw[a6O h]
theorem all_zero(xs:List α):b9 f (xs.take 0)=true:=by simp[b9]
theorem CY(d:α):∀ (xs:List α) (k:Nat),k<xs.length->b9 f xs=true->f (xs.getD k d)=true
 | [],k,h,_=>by simp at h
 | x::xs,0,h,e=>by simp[b9] at e;simp[e.1]
 | x::xs,k+1,h,e=>by
  simp only[b9,a5I] at e
  have:=CY d xs k (by simpa using h) e.2
  simpa using this
end
end Go.Proofs.YtnehkikdlnmebaaGreatDoor

set_option maxRecDepth 4000
set_option maxHeartbeats 4000000
namespace Go.Proofs.YtnehkikdlnmebaaGreatDoor
noncomputable section
mutual
def ar:O->Nat
 | ⟨_,_,ks⟩=>1+iK ks
def iK:List O->Nat
 | []=>0
 | k::ks=>ar k+iK ks
end
theorem KG:∀ xs,iK xs=cW ar xs
 | []=>rfl
 | x::xs=>by rw[iK,cW,KG xs]
theorem nH(x:O):ar x=1+cW ar x.V:=by
 cases x;simp[ar,KG]
mutual
def bB:O->Nat
 | ⟨_,_,ks⟩=>1+ni ks
def ni:List O->Nat
 | []=>0
 | k::ks=>max (bB k) (ni ks)
end
theorem Kr:∀ xs,ni xs=gY bB xs
 | []=>rfl
 | x::xs=>by rw[ni,gY,Kr xs]
theorem rR(x:O):bB x=1+gY bB x.V:=by
 cases x;simp[bB,Kr]
mutual
theorem GR:∀ x:O,bB x<=ar x
 | ⟨k,n,ks⟩=>by
  have:=Ef ks
  simp only[bB,ar];omega
theorem Ef:∀ xs:List O,ni xs<=iK xs
 | []=>by simp[ni]
 | x::xs=>by
  have h1:=GR x
  have h2:=Ef xs
  simp only[ni,iK];omega
end
def uT(k:Int):Bool:=decide (k=1)||decide (k=2)||decide (k=3)||decide (k=5)||decide (k=6)||decide (k=7)
mutual
def bG:O->Bool
 | ⟨k,_,ks⟩=>uT k&&zt ks
def zt:List O->Bool
 | []=>true
 | k::ks=>bG k&&zt ks
end
theorem Mp:∀ xs,zt xs=b9 bG xs
 | []=>rfl
 | x::xs=>by rw[zt,b9,Mp xs]
theorem uC(x:O):bG x=(uT x.ah&&b9 bG x.V):=by
 cases x;simp[bG,Mp]
def cf(k:Int):Int:=if k=1\/k=2\/k=3\/k=4 then 0 else if k=5\/k=8 then 1 else if k=6\/k=7 then 2 else -1
def dM:bb:=⟨vA,[.v (.int .i64), .v (.int .i64), .v (.int .i64)],λ (n:Int) (least:Int) (most:Int)=>⟨(none,[⟨.bool,decide (least<=n/\n<=most)⟩])⟩⟩
def Cf(n:Int)(least:Int)(most:Int):Nat->aX:=λ _ => .none
theorem Lx(n:Int)(least:Int)(most:Int):cU (bo []) (aF kB) (Cf n least most) 0 (bC (bo []) kB λ r=>bH r [⟨.bool,decide (least<=n/\n<=most)⟩]) (aO kB [.val ⟨(.int .i64),n⟩, .val ⟨(.int .i64),least⟩, .val ⟨(.int .i64),most⟩]) =
 ((((decide (least<=n))=true ->
 ((decide (n<=most))=(decide (least<=n/\n<=most))))/\((decide (least<=n))=(!true) ->
 (false=(decide (least<=n/\n<=most)))))):=by kernel_rfl
theorem Lj(hE:aQ []):bb.Good dM:=by
 refine⟨aG Af rfl (by decide),?_⟩
 show ∀ (n:Int) (least:Int) (most:Int),True->bD prog vA [.val ⟨(.int .i64),n⟩, .val ⟨(.int .i64),least⟩, .val ⟨(.int .i64),most⟩] (·=[⟨.bool,decide (least<=n/\n<=most)⟩])
 intro n least most _
 refine bu (wr:=[]) (cl:=[]) (ro:=[]) hE Af GD (Cf n least most) ?_
 rewrite [Lx n least most]
 refine⟨λ a0=>?_,λ a0=>?_⟩
 all_goals try and_intros
 all_goals first|rfl|trivial|(simp_all;done)|(simp_all;omega)
theorem qz:bb.Good dM:=Lj trivial
def cN:bb:=⟨xv,[.v (.int .i64), .v (.int .i64), .v (.int .i64)],λ (n:Int) (low:Int) (high:Int)=>⟨(none,[⟨.bool,decide (low<=n/\n<=high)⟩])⟩⟩
def Et(n:Int)(low:Int)(high:Int):Nat->aX:=λ _ => .none
theorem Oa(n:Int)(low:Int)(high:Int):cU (bo []) (aF mw) (Et n low high) 0 (bC (bo []) mw λ r=>bH r [⟨.bool,decide (low<=n/\n<=high)⟩]) (aO mw [.val ⟨(.int .i64),n⟩, .val ⟨(.int .i64),low⟩, .val ⟨(.int .i64),high⟩]) =
 ((((decide (low<=n))=true ->
 ((decide (n<=high))=(decide (low<=n/\n<=high))))/\((decide (low<=n))=(!true) ->
 (false=(decide (low<=n/\n<=high)))))):=by kernel_rfl
theorem NG(hE:aQ []):bb.Good cN:=by
 refine⟨aG Bx rfl (by decide),?_⟩
 show ∀ (n:Int) (low:Int) (high:Int),True->bD prog xv [.val ⟨(.int .i64),n⟩, .val ⟨(.int .i64),low⟩, .val ⟨(.int .i64),high⟩] (·=[⟨.bool,decide (low<=n/\n<=high)⟩])
 intro n low high _
 refine bu (wr:=[]) (cl:=[]) (ro:=[]) hE Bx IP (Et n low high) ?_
 rewrite [Oa n low high]
 refine⟨λ a0=>?_,λ a0=>?_⟩
 all_goals try and_intros
 all_goals first|rfl|trivial|(simp_all;done)|(simp_all;omega)
theorem kO:bb.Good cN:=NG trivial
def dN:bb:=⟨vE,[.v (.int .i64), .v (.int .i64)],λ (a:Int) (b:Int)=>⟨(none,[⟨(.int .i64),max a b⟩])⟩⟩
def Ci(a:Int)(b:Int):Nat->aX:=λ _ => .none
theorem LA(a:Int)(b:Int):cU (bo []) (aF kH) (Ci a b) 0 (bC (bo []) kH λ r=>bH r [⟨(.int .i64),max a b⟩]) (aO kH [.val ⟨(.int .i64),a⟩, .val ⟨(.int .i64),b⟩]) =
 ((((decide (b<a))=true ->
 a=(max a b))/\((decide (b<a))=false ->
 b=(max a b)))):=by kernel_rfl
theorem Lm(hE:aQ []):bb.Good dN:=by
 refine⟨aG Aj rfl (by decide),?_⟩
 show ∀ (a:Int) (b:Int),True->bD prog vE [.val ⟨(.int .i64),a⟩, .val ⟨(.int .i64),b⟩] (·=[⟨(.int .i64),max a b⟩])
 intro a b _
 refine bu (wr:=[]) (cl:=[]) (ro:=[]) hE Aj GI (Ci a b) ?_
 rewrite [LA a b]
 refine⟨λ a0=>?_,λ a0=>?_⟩
 all_goals try and_intros
 all_goals first|rfl|trivial|(simp_all;omega)
theorem qA:bb.Good dN:=Lm trivial
def nw:bb:=⟨vy,[.v (.int .i64)],λ (k:Int)=>⟨(none,[⟨(.int .i64),cf k⟩])⟩⟩
def Cc(k:Int):Nat->aX:=λ _ => .none
abbrev ym(k:Int):Prop:=(((decide (k=(6:Int)))=true ->
 (((decide (k=(6:Int)))=true ->
 (2:Int)=(cf k))/\((decide (k=(6:Int)))=false ->
 (-1:Int)=(cf k))))/\((decide (k=(6:Int)))=false ->
 (((decide (k=(7:Int)))=true ->
 (2:Int)=(cf k))/\((decide (k=(7:Int)))=false ->
 (-1:Int)=(cf k)))))
abbrev om(k:Int):Prop:=(((decide (k=(5:Int)))=true ->
 (((decide (k=(5:Int)))=true ->
 (1:Int)=(cf k))/\((decide (k=(5:Int)))=false ->
 (ym k))))/\((decide (k=(5:Int)))=false ->
 (((decide (k=(8:Int)))=true ->
 (1:Int)=(cf k))/\((decide (k=(8:Int)))=false ->
 (ym k)))))
theorem Lu(k:Int):cU (bo []) (aF ky) (Cc k) 0 (bC (bo []) ky λ r=>bH r [⟨(.int .i64),cf k⟩]) (aO ky [.val ⟨(.int .i64),k⟩]) =
 ((((decide (k=(1:Int)))=true ->
 (((decide (k=(1:Int)))=true ->
 (0:Int)=(cf k))/\((decide (k=(1:Int)))=false ->
 (om k))))/\((decide (k=(1:Int)))=false ->
 (((decide (k=(2:Int)))=true ->
 (((decide (k=(2:Int)))=true ->
 (0:Int)=(cf k))/\((decide (k=(2:Int)))=false ->
 (om k))))/\((decide (k=(2:Int)))=false ->
 (((decide (k=(3:Int)))=true ->
 (((decide (k=(3:Int)))=true ->
 (0:Int)=(cf k))/\((decide (k=(3:Int)))=false ->
 (om k))))/\((decide (k=(3:Int)))=false ->
 (((decide (k=(4:Int)))=true ->
 (0:Int)=(cf k))/\((decide (k=(4:Int)))=false ->
 (om k)))))))))):=by kernel_rfl
theorem Lg(hE:aQ []):bb.Good nw:=by
 refine⟨aG Ad rfl (by decide),?_⟩
 show ∀ (k:Int),True->bD prog vy [.val ⟨(.int .i64),k⟩] (·=[⟨(.int .i64),cf k⟩])
 intro k _
 refine bu (wr:=[]) (cl:=[]) (ro:=[]) hE Ad GA (Cc k) ?_
 rewrite [Lu k]
 refine⟨λ a0=>⟨λ a1=>?_,λ a1=>⟨λ a2=>⟨λ a3=>?_,λ a3=>⟨λ a4=>⟨λ a5=>?_,λ a5=>?_⟩,λ a4=>⟨λ a5=>?_,λ a5=>?_⟩⟩⟩,λ a2=>⟨λ a3=>?_,λ a3=>⟨λ a4=>⟨λ a5=>?_,λ a5=>?_⟩,λ a4=>⟨λ a5=>?_,λ a5=>?_⟩⟩⟩⟩⟩,λ a0=>⟨λ a1=>⟨λ a2=>?_,λ a2=>⟨λ a3=>⟨λ a4=>?_,λ a4=>⟨λ a5=>⟨λ a6=>?_,λ a6=>?_⟩,λ a5=>⟨λ a6=>?_,λ a6=>?_⟩⟩⟩,λ a3=>⟨λ a4=>?_,λ a4=>⟨λ a5=>⟨λ a6=>?_,λ a6=>?_⟩,λ a5=>⟨λ a6=>?_,λ a6=>?_⟩⟩⟩⟩⟩,λ a1=>⟨λ a2=>⟨λ a3=>?_,λ a3=>⟨λ a4=>⟨λ a5=>?_,λ a5=>⟨λ a6=>⟨λ a7=>?_,λ a7=>?_⟩,λ a6=>⟨λ a7=>?_,λ a7=>?_⟩⟩⟩,λ a4=>⟨λ a5=>?_,λ a5=>⟨λ a6=>⟨λ a7=>?_,λ a7=>?_⟩,λ a6=>⟨λ a7=>?_,λ a7=>?_⟩⟩⟩⟩⟩,λ a2=>⟨λ a3=>?_,λ a3=>⟨λ a4=>⟨λ a5=>?_,λ a5=>⟨λ a6=>⟨λ a7=>?_,λ a7=>?_⟩,λ a6=>⟨λ a7=>?_,λ a7=>?_⟩⟩⟩,λ a4=>⟨λ a5=>?_,λ a5=>⟨λ a6=>⟨λ a7=>?_,λ a7=>?_⟩,λ a6=>⟨λ a7=>?_,λ a7=>?_⟩⟩⟩⟩⟩⟩⟩⟩
 all_goals try and_intros
 all_goals first|rfl|trivial|(simp only[decide_eq_true_eq,decide_eq_false_iff_not] at *;simp[cf, *];done)|(simp only[decide_eq_true_eq,decide_eq_false_iff_not] at *;unfold cf;repeat (first|omega|split))
theorem Ha:bb.Good nw:=Lg trivial
def mb:bb:=⟨tW,[.v (.int .i64)],λ (k:Int)=>⟨(none,[⟨(.int .i64),cf k⟩])⟩⟩
def Aw(k:Int):Nat->aX:=λ _ => .none
abbrev wF(k:Int):Prop:=(((decide (k=(6:Int)))=true ->
 (((decide (k=(6:Int)))=true ->
 (2:Int)=(cf k))/\((decide (k=(6:Int)))=false ->
 (-1:Int)=(cf k))))/\((decide (k=(6:Int)))=false ->
 (((decide (k=(7:Int)))=true ->
 (2:Int)=(cf k))/\((decide (k=(7:Int)))=false ->
 (-1:Int)=(cf k)))))
abbrev mV(k:Int):Prop:=(((decide (k=(5:Int)))=true ->
 (((decide (k=(5:Int)))=true ->
 (1:Int)=(cf k))/\((decide (k=(5:Int)))=false ->
 (wF k))))/\((decide (k=(5:Int)))=false ->
 (((decide (k=(8:Int)))=true ->
 (1:Int)=(cf k))/\((decide (k=(8:Int)))=false ->
 (wF k)))))
theorem JW(k:Int):cU (bo []) (aF je) (Aw k) 0 (bC (bo []) je λ r=>bH r [⟨(.int .i64),cf k⟩]) (aO je [.val ⟨(.int .i64),k⟩]) =
 ((((decide (k=(1:Int)))=true ->
 (((decide (k=(1:Int)))=true ->
 (0:Int)=(cf k))/\((decide (k=(1:Int)))=false ->
 (mV k))))/\((decide (k=(1:Int)))=false ->
 (((decide (k=(2:Int)))=true ->
 (((decide (k=(2:Int)))=true ->
 (0:Int)=(cf k))/\((decide (k=(2:Int)))=false ->
 (mV k))))/\((decide (k=(2:Int)))=false ->
 (((decide (k=(3:Int)))=true ->
 (((decide (k=(3:Int)))=true ->
 (0:Int)=(cf k))/\((decide (k=(3:Int)))=false ->
 (mV k))))/\((decide (k=(3:Int)))=false ->
 (((decide (k=(4:Int)))=true ->
 (0:Int)=(cf k))/\((decide (k=(4:Int)))=false ->
 (mV k)))))))))):=by kernel_rfl
theorem Jt(hE:aQ []):bb.Good mb:=by
 refine⟨aG xM rfl (by decide),?_⟩
 show ∀ (k:Int),True->bD prog tW [.val ⟨(.int .i64),k⟩] (·=[⟨(.int .i64),cf k⟩])
 intro k _
 refine bu (wr:=[]) (cl:=[]) (ro:=[]) hE xM EX (Aw k) ?_
 rewrite [JW k]
 refine⟨λ a0=>⟨λ a1=>?_,λ a1=>⟨λ a2=>⟨λ a3=>?_,λ a3=>⟨λ a4=>⟨λ a5=>?_,λ a5=>?_⟩,λ a4=>⟨λ a5=>?_,λ a5=>?_⟩⟩⟩,λ a2=>⟨λ a3=>?_,λ a3=>⟨λ a4=>⟨λ a5=>?_,λ a5=>?_⟩,λ a4=>⟨λ a5=>?_,λ a5=>?_⟩⟩⟩⟩⟩,λ a0=>⟨λ a1=>⟨λ a2=>?_,λ a2=>⟨λ a3=>⟨λ a4=>?_,λ a4=>⟨λ a5=>⟨λ a6=>?_,λ a6=>?_⟩,λ a5=>⟨λ a6=>?_,λ a6=>?_⟩⟩⟩,λ a3=>⟨λ a4=>?_,λ a4=>⟨λ a5=>⟨λ a6=>?_,λ a6=>?_⟩,λ a5=>⟨λ a6=>?_,λ a6=>?_⟩⟩⟩⟩⟩,λ a1=>⟨λ a2=>⟨λ a3=>?_,λ a3=>⟨λ a4=>⟨λ a5=>?_,λ a5=>⟨λ a6=>⟨λ a7=>?_,λ a7=>?_⟩,λ a6=>⟨λ a7=>?_,λ a7=>?_⟩⟩⟩,λ a4=>⟨λ a5=>?_,λ a5=>⟨λ a6=>⟨λ a7=>?_,λ a7=>?_⟩,λ a6=>⟨λ a7=>?_,λ a7=>?_⟩⟩⟩⟩⟩,λ a2=>⟨λ a3=>?_,λ a3=>⟨λ a4=>⟨λ a5=>?_,λ a5=>⟨λ a6=>⟨λ a7=>?_,λ a7=>?_⟩,λ a6=>⟨λ a7=>?_,λ a7=>?_⟩⟩⟩,λ a4=>⟨λ a5=>?_,λ a5=>⟨λ a6=>⟨λ a7=>?_,λ a7=>?_⟩,λ a6=>⟨λ a7=>?_,λ a7=>?_⟩⟩⟩⟩⟩⟩⟩⟩
 all_goals try and_intros
 all_goals first|rfl|trivial|(simp only[decide_eq_true_eq,decide_eq_false_iff_not] at *;simp[cf, *];done)|(simp only[decide_eq_true_eq,decide_eq_false_iff_not] at *;unfold cf;repeat (first|omega|split))
theorem Fj:bb.Good mb:=Jt trivial
def gl(n:Nat):bb:=⟨kh,[.v (.st .expr)],λ (x:O)=>⟨(some (cv x<n),[⟨.bool,bG x⟩])⟩⟩
def kg:bb:=⟨kh,[.v (.st .expr)],λ (x:O)=>⟨(none,[⟨.bool,bG x⟩])⟩⟩
def ui(x:O):Nat->aX:=(λ zb=>if Nat.beq zb 1 then .mk (Nat) (λ k=>k<=x.V.length/\b9 bG (x.V.take k)=true) (λ k=>x.V.length - k) [] [0,1,3,5,6,7,8,9,10,11,12,13,14] (λ k=>[(17, .aS ⟨(.int .i64),((k:Int):Int)⟩)]) [2,4,15,16,17,18,19,20,21,22,23,24] (λ k=>[]) [] [] (λ k=>λ _ => .none) else .none)
abbrev eb(n:Nat)(x:O):Prop:=(x.V.length<=140737488355328 ->
 (ag ((x.V.length:Int)) ->
 ((∃ k1:Nat,((k1<=x.V.length/\b9 bG (x.V.take k1)=true)/\((x.V=x.V/\(((x.V.length:Int))=((x.V.length:Int))/\((0:Int)=(k1:Int)/\True)))/\True)))/\(∀ k1:Nat,((k1<=x.V.length/\b9 bG (x.V.take k1)=true) ->
 (((decide ((k1:Int)<((x.V.length:Int))))=true ->
 (aV (k1:Int) x.V.length/\(cv (aC (x.V.getD k1 zE))<n/\(((!(bG (aC (x.V.getD k1 zE))))=true ->
 false=(bG x))/\((!(bG (aC (x.V.getD k1 zE))))=false ->
 (ag ((k1:Int)+(1:Int))/\(∃ k2:Nat,((k2<=x.V.length/\b9 bG (x.V.take k2)=true)/\(x.V.length - k2<x.V.length - k1/\((x.V=x.V/\(((x.V.length:Int))=((x.V.length:Int))/\(((k1:Int)+(1:Int))=(k2:Int)/\True)))/\True))))))))))/\((decide ((k1:Int)<((x.V.length:Int))))=false ->
 true=(bG x))))))))
theorem CQ(n:Nat)(x:O):cU (bo [gl n] [] [] [1]) (aF eO) (ui x) 0 (bC (bo [gl n] [] [] [1]) eO λ r=>bH r [⟨.bool,bG x⟩]) (aO eO [.val ⟨(.st .expr),x⟩]) =
 ((ag x.ah ->
 (((decide (x.ah=(1:Int)))=true ->
 (((decide (x.ah=(1:Int)))=true ->
 (eb n x))/\((decide (x.ah=(1:Int)))=false ->
 false=(bG x))))/\((decide (x.ah=(1:Int)))=false ->
 (((decide (x.ah=(2:Int)))=true ->
 (((decide (x.ah=(2:Int)))=true ->
 (eb n x))/\((decide (x.ah=(2:Int)))=false ->
 false=(bG x))))/\((decide (x.ah=(2:Int)))=false ->
 (((decide (x.ah=(3:Int)))=true ->
 (((decide (x.ah=(3:Int)))=true ->
 (eb n x))/\((decide (x.ah=(3:Int)))=false ->
 false=(bG x))))/\((decide (x.ah=(3:Int)))=false ->
 (((decide (x.ah=(5:Int)))=true ->
 (((decide (x.ah=(5:Int)))=true ->
 (eb n x))/\((decide (x.ah=(5:Int)))=false ->
 false=(bG x))))/\((decide (x.ah=(5:Int)))=false ->
 (((decide (x.ah=(6:Int)))=true ->
 (((decide (x.ah=(6:Int)))=true ->
 (eb n x))/\((decide (x.ah=(6:Int)))=false ->
 false=(bG x))))/\((decide (x.ah=(6:Int)))=false ->
 (((decide (x.ah=(7:Int)))=true ->
 (eb n x))/\((decide (x.ah=(7:Int)))=false ->
 false=(bG x))))))))))))))):=by kernel_rfl
theorem Cy(n:Nat)(hE:aQ [gl n]):bb.Good (gl (n+1)):=by
 refine⟨aG jx rfl (by decide),?_⟩
 show ∀ (x:O),(cv x<n+1)->bD prog kh [.val ⟨(.st .expr),x⟩] (·=[⟨.bool,bG x⟩])
 intro x hp
 refine bu (wr:=[]) (cl:=[]) (ro:=[1]) hE jx y9 (ui x) ?_
 rewrite [CQ n x]
 have f0:=lA x
 have f1:=all_zero bG x.V
 refine λ a0=>⟨λ a1=>⟨λ a2=>λ a3=>λ a4=>⟨⟨0,⟨?_,⟨⟨rfl,⟨rfl,⟨?_,trivial⟩⟩⟩,trivial⟩⟩⟩,λ k1 a5=>have a0s:=cP bG zE x.V k1;have a0t:=dv bG zE x.V k1;have a0u:=dd bG x.V k1;have a3h:=cR zE x.V k1;⟨λ a6=>⟨?_,⟨?_,⟨λ a7=>?_,λ a7=>⟨?_,⟨k1+1,⟨?_,⟨?_,⟨⟨rfl,⟨rfl,⟨?_,trivial⟩⟩⟩,trivial⟩⟩⟩⟩⟩⟩⟩⟩,λ a6=>?_⟩⟩,λ a2=>?_⟩,λ a1=>⟨λ a2=>⟨λ a3=>λ a4=>λ a5=>⟨⟨0,⟨?_,⟨⟨rfl,⟨rfl,⟨?_,trivial⟩⟩⟩,trivial⟩⟩⟩,λ k1 a6=>have a3i:=cP bG zE x.V k1;have a3j:=dv bG zE x.V k1;have a5o:=dd bG x.V k1;have a5p:=cR zE x.V k1;⟨λ a7=>⟨?_,⟨?_,⟨λ a8=>?_,λ a8=>⟨?_,⟨k1+1,⟨?_,⟨?_,⟨⟨rfl,⟨rfl,⟨?_,trivial⟩⟩⟩,trivial⟩⟩⟩⟩⟩⟩⟩⟩,λ a7=>?_⟩⟩,λ a3=>?_⟩,λ a2=>⟨λ a3=>⟨λ a4=>λ a5=>λ a6=>⟨⟨0,⟨?_,⟨⟨rfl,⟨rfl,⟨?_,trivial⟩⟩⟩,trivial⟩⟩⟩,λ k1 a7=>have Rr:=cP bG zE x.V k1;have Rs:=dv bG zE x.V k1;have Rt:=dd bG x.V k1;have UL:=cR zE x.V k1;⟨λ a8=>⟨?_,⟨?_,⟨λ a9=>?_,λ a9=>⟨?_,⟨k1+1,⟨?_,⟨?_,⟨⟨rfl,⟨rfl,⟨?_,trivial⟩⟩⟩,trivial⟩⟩⟩⟩⟩⟩⟩⟩,λ a8=>?_⟩⟩,λ a4=>?_⟩,λ a3=>⟨λ a4=>⟨λ a5=>λ a6=>λ a7=>⟨⟨0,⟨?_,⟨⟨rfl,⟨rfl,⟨?_,trivial⟩⟩⟩,trivial⟩⟩⟩,λ k1 a8=>have a5q:=cP bG zE x.V k1;have a5r:=dv bG zE x.V k1;have a5s:=dd bG x.V k1;have a5t:=cR zE x.V k1;⟨λ a9=>⟨?_,⟨?_,⟨λ dt=>?_,λ dt=>⟨?_,⟨k1+1,⟨?_,⟨?_,⟨⟨rfl,⟨rfl,⟨?_,trivial⟩⟩⟩,trivial⟩⟩⟩⟩⟩⟩⟩⟩,λ a9=>?_⟩⟩,λ a5=>?_⟩,λ a4=>⟨λ a5=>⟨λ a6=>λ a7=>λ a8=>⟨⟨0,⟨?_,⟨⟨rfl,⟨rfl,⟨?_,trivial⟩⟩⟩,trivial⟩⟩⟩,λ k1 a9=>have UM:=cP bG zE x.V k1;have UN:=dv bG zE x.V k1;have UO:=dd bG x.V k1;have WS:=cR zE x.V k1;⟨λ dt=>⟨?_,⟨?_,⟨λ dP=>?_,λ dP=>⟨?_,⟨k1+1,⟨?_,⟨?_,⟨⟨rfl,⟨rfl,⟨?_,trivial⟩⟩⟩,trivial⟩⟩⟩⟩⟩⟩⟩⟩,λ dt=>?_⟩⟩,λ a6=>?_⟩,λ a5=>⟨λ a6=>λ a7=>λ a8=>⟨⟨0,⟨?_,⟨⟨rfl,⟨rfl,⟨?_,trivial⟩⟩⟩,trivial⟩⟩⟩,λ k1 a9=>have UM:=cP bG zE x.V k1;have UN:=dv bG zE x.V k1;have UO:=dd bG x.V k1;have WS:=cR zE x.V k1;⟨λ dt=>⟨?_,⟨?_,⟨λ dP=>?_,λ dP=>⟨?_,⟨k1+1,⟨?_,⟨?_,⟨⟨rfl,⟨rfl,⟨?_,trivial⟩⟩⟩,trivial⟩⟩⟩⟩⟩⟩⟩⟩,λ dt=>?_⟩⟩,λ a6=>?_⟩⟩⟩⟩⟩⟩
 all_goals try and_intros
 all_goals try simp only[O.eta,bE] at *
 all_goals try rw[uC x]
 all_goals first|rfl|trivial|(simp only[a5M,a5N,aV,ag] at *;omega)|(simp_all [uT];done)|(simp_all [uT,aV,ag];omega)
theorem Kb :∀ n,aQ [gl n]
 | 0=>⟨⟨aG jx rfl (by decide),λ _ h=>absurd h (a6D _)⟩,trivial⟩
 | n+1=>by
  have ih:=Kb  n
  exact⟨Cy n ⟨ih.1,trivial⟩,trivial⟩
theorem zz :bb.Good kg :=
 ⟨aG jx rfl (by decide),λ x hp=>(Kb  (cv x+1)).1.2 x (a6c _)⟩
def fB(n:Nat):bb:=⟨jR,[.r (.st .expr)],λ (x:O)=>⟨(some (cv x<n),[⟨.bool,bG x⟩])⟩⟩
def dO:bb:=⟨jR,[.r (.st .expr)],λ (x:O)=>⟨(none,[⟨.bool,bG x⟩])⟩⟩
def sZ(x:O):Nat->aX:=(λ zb=>if Nat.beq zb 0 then .mk (Nat) (λ k=>k<=x.V.length/\b9 bG (x.V.take k)=true) (λ k=>x.V.length - k) [] [1,4,5,6,7,8,9,10,11,12,13,14,15,16] (λ k=>[(3, .aS ⟨(.int .i64),((k:Int):Int)⟩)]) [0,2,3,17,18,19,20,21,22,23,24,25,26,27,28,29,30,31,32,33] (λ k=>[]) [] [] (λ k=>λ _ => .none) else .none)
abbrev qG(n:Nat)(x:O):Prop:=((∃ k1:Nat,((k1<=x.V.length/\b9 bG (x.V.take k1)=true)/\((x=x/\((0:Int)=(k1:Int)/\True))/\True)))/\(∀ k1:Nat,((k1<=x.V.length/\b9 bG (x.V.take k1)=true) ->
 (x.V.length<=140737488355328 ->
 (ag ((x.V.length:Int)) ->
 (((decide ((k1:Int)<((x.V.length:Int))))=true ->
 (x.V.length<=140737488355328 ->
 (aV (k1:Int) x.V.length/\(cv (x.V.getD k1 zE)<n/\(((!(bG (x.V.getD k1 zE)))=true ->
 false=(bG x))/\((!(bG (x.V.getD k1 zE)))=false ->
 (ag ((k1:Int)+(1:Int))/\(∃ k2:Nat,((k2<=x.V.length/\b9 bG (x.V.take k2)=true)/\(x.V.length - k2<x.V.length - k1/\((x=x/\(((k1:Int)+(1:Int))=(k2:Int)/\True))/\True)))))))))))/\((decide ((k1:Int)<((x.V.length:Int))))=false ->
 true=(bG x))))))))
theorem Bl(n:Nat)(x:O):cU (bo [fB n,cN]) (aF ey) (sZ x) 0 (bC (bo [fB n,cN]) ey λ r=>bH r [⟨.bool,bG x⟩]) (aO ey [.ref ⟨(.st .expr),x⟩]) =
 ((ag x.ah ->
 ((((!(decide ((1:Int)<=x.ah/\x.ah<=(7:Int))))=false) ->
 (ag x.ah ->
 (((decide (x.ah=(4:Int)))=true ->
 false=(bG x))/\((decide (x.ah=(4:Int)))=false ->
 (qG n x)))))/\(((!(decide ((1:Int)<=x.ah/\x.ah<=(7:Int))))=(!false)) ->
 ((true=true ->
 false=(bG x))/\(true=false ->
 (qG n x))))))):=by kernel_rfl
theorem Ba(n:Nat)(hE:aQ [fB n,cN]):bb.Good (fB (n+1)):=by
 refine⟨aG iP rfl (by decide),?_⟩
 show ∀ (x:O),(cv x<n+1)->bD prog jR [.ref ⟨(.st .expr),x⟩] (·=[⟨.bool,bG x⟩])
 intro x hp
 refine bu (wr:=[]) (cl:=[]) (ro:=[]) hE iP xT (sZ x) ?_
 rewrite [Bl n x]
 have f0:=lA x
 have f1:=all_zero bG x.V
 refine λ a0=>⟨λ a1=>λ a2=>⟨λ a3=>?_,λ a3=>⟨⟨0,⟨?_,⟨⟨rfl,⟨?_,trivial⟩⟩,trivial⟩⟩⟩,λ k1 a4=>have a3e:=cP bG zE x.V k1;have a3f:=dv bG zE x.V k1;have a3g:=dd bG x.V k1;have a5n:=cR zE x.V k1;λ a5=>λ a6=>⟨λ a7=>λ a8=>⟨?_,⟨?_,⟨λ a9=>?_,λ a9=>⟨?_,⟨k1+1,⟨?_,⟨?_,⟨⟨rfl,⟨?_,trivial⟩⟩,trivial⟩⟩⟩⟩⟩⟩⟩⟩,λ a7=>?_⟩⟩⟩,λ a1=>⟨λ a2=>?_,λ a2=>⟨⟨0,⟨?_,⟨⟨rfl,⟨?_,trivial⟩⟩,trivial⟩⟩⟩,λ k1 a3=>have a0q:=cP bG zE x.V k1;have a0r:=dv bG zE x.V k1;have a3c:=dd bG x.V k1;have a3d:=cR zE x.V k1;λ a4=>λ a5=>⟨λ a6=>λ a7=>⟨?_,⟨?_,⟨λ a8=>?_,λ a8=>⟨?_,⟨k1+1,⟨?_,⟨?_,⟨⟨rfl,⟨?_,trivial⟩⟩,trivial⟩⟩⟩⟩⟩⟩⟩⟩,λ a6=>?_⟩⟩⟩⟩
 all_goals try and_intros
 all_goals try rw[uC x]
 all_goals first|rfl|trivial|(simp only[a5M,a5N,aV,ag] at *;omega)|(simp_all [uT];done)|(simp_all [uT,aV,ag];omega)
theorem Kc :∀ n,aQ [fB n]
 | 0=>⟨⟨aG iP rfl (by decide),λ _ h=>absurd h (a6D _)⟩,trivial⟩
 | n+1=>by
  have ih:=Kc  n
  exact⟨Ba n ⟨ih.1,kO,trivial⟩,trivial⟩
theorem qe :bb.Good dO :=
 ⟨aG iP rfl (by decide),λ x hp=>(Kc  (cv x+1)).1.2 x (a6c _)⟩
def qD(t a:Int)(x:O):Bool:=decide (cf x.ah=(x.V.length:Int)) &&
 (if x.ah=3 then decide (0<=x.bc/\x.bc<=t) else if x.ah=4 then decide (0<=x.bc/\x.bc<=a) else decide (x.bc=0)) &&
 (!decide (x.ah=5)||bG (x.V.getD 0 ⟨0,0,[]⟩))
mutual
def bL(t a:Int):O->Bool
 | ⟨k,n,ks⟩=>qD t a ⟨k,n,ks⟩&&sI t a ks
def sI(t a:Int):List O->Bool
 | []=>true
 | k::ks=>bL t a k&&sI t a ks
end
theorem N9(t a:Int):∀ xs,sI t a xs=b9 (bL t a) xs
 | []=>rfl
 | x::xs=>by rw[sI,b9,N9 t a xs]
theorem mB(t a:Int)(x:O):bL t a x=(qD t a x&&b9 (bL t a) x.V):=by
 cases x;simp[bL,N9]
def aJ(n:Int):Int:=IntKind.wrap .i64 (n - 1)
theorem sy(n:Int)(h : -9223372036854775807<=n/\n<=9223372036854775807):aJ n=n - 1:=by
 simp[aJ,IntKind.wrap,IntKind.signed,IntKind.bits];omega
def la(n:Nat):bb:=⟨pz,[.r (.st .expr), .v (.int .i64)],λ (x:O) (left:Int)=>⟨(some (cv x<n/\0<=left/\left<=1048576),[⟨(.int .i64),tz (ar x) left⟩])⟩⟩
def pf:bb:=⟨pz,[.r (.st .expr), .v (.int .i64)],λ (x:O) (left:Int)=>⟨(some (0<=left/\left<=1048576),[⟨(.int .i64),tz (ar x) left⟩])⟩⟩
def Ax(x:O)(left:Int):Nat->aX:=(λ zb=>if Nat.beq zb 0 then .mk (Nat) (λ k=>k<=x.V.length) (λ k=>x.V.length - k) [] [2,3,6,7] (λ k=>[(5, .aS ⟨(.int .i64),((k:Int):Int)⟩),(1, .aS ⟨(.int .i64),(tz (1+cW ar (x.V.take k)) left:Int)⟩)]) [0,1,4,5,8,9,10,11,12,13,14,15,16,17,18,19,20,21,22,23,24,25,26,27,28,29] (λ k=>[]) [] [] (λ k=>λ _ => .none) else .none)
abbrev wH(n:Nat)(x:O)(left:Int)(k1:Nat):Prop:=(x.V.length<=140737488355328 ->
 (aV (k1:Int) x.V.length/\((cv (x.V.getD k1 zE)<n/\0<=(tz (1+cW ar (x.V.take k1)) left)/\(tz (1+cW ar (x.V.take k1)) left)<=1048576)/\(ag (tz (ar (x.V.getD k1 zE)) (tz (1+cW ar (x.V.take k1)) left)) ->
 (ag ((k1:Int)+(1:Int))/\(∃ k2:Nat,(k2<=x.V.length/\(x.V.length - k2<x.V.length - k1/\((x=x/\((tz (ar (x.V.getD k1 zE)) (tz (1+cW ar (x.V.take k1)) left))=(tz (1+cW ar (x.V.take k2)) left)/\((0:Int)=(0:Int)/\(((k1:Int)+(1:Int))=(k2:Int)/\True))))/\True)))))))))
theorem JX(n:Nat)(x:O)(left:Int):cU (bo [la n]) (aF jf) (Ax x left) 0 (bC (bo [la n]) jf λ r=>bH r [⟨(.int .i64),tz (ar x) left⟩]) (aO jf [.ref ⟨(.st .expr),x⟩, .val ⟨(.int .i64),left⟩]) =
 ((ag (left - (1:Int))/\((∃ k1:Nat,(k1<=x.V.length/\((x=x/\((left - (1:Int))=(tz (1+cW ar (x.V.take k1)) left)/\((0:Int)=(0:Int)/\((0:Int)=(k1:Int)/\True))))/\True)))/\(∀ k1:Nat,(k1<=x.V.length ->
 (x.V.length<=140737488355328 ->
 (ag ((x.V.length:Int)) ->
 (((decide ((k1:Int)<((x.V.length:Int))))=true ->
 (((decide ((0:Int)<=(tz (1+cW ar (x.V.take k1)) left)))=true ->
 (wH n x left k1))/\((decide ((0:Int)<=(tz (1+cW ar (x.V.take k1)) left)))=false ->
 (tz (1+cW ar (x.V.take k1)) left)=(tz (ar x) left))))/\((decide ((k1:Int)<((x.V.length:Int))))=(!true) ->
 ((false=true ->
 (wH n x left k1))/\(false=false ->
 (tz (1+cW ar (x.V.take k1)) left)=(tz (ar x) left)))))))))))):=by kernel_rfl
theorem Ju(n:Nat)(hE:aQ [la n]):bb.Good (la (n+1)):=by
 refine⟨aG nR rfl (by decide),?_⟩
 show ∀ (x:O) (left:Int),(cv x<n+1/\0<=left/\left<=1048576)->bD prog pz [.ref ⟨(.st .expr),x⟩, .val ⟨(.int .i64),left⟩] (·=[⟨(.int .i64),tz (ar x) left⟩])
 intro x left hp
 refine bu (wr:=[]) (cl:=[]) (ro:=[]) hE nR EY (Ax x left) ?_
 rewrite [JX n x left]
 have f0:=lA x
 have f1:=JP ar x.V
 have f2:=Di (1+cW ar (x.V.take 0)) left
 refine⟨?_,⟨⟨0,⟨?_,⟨⟨rfl,⟨?_,⟨rfl,⟨?_,trivial⟩⟩⟩⟩,trivial⟩⟩⟩,λ k1 a0=>have WR:=sD ar zE x.V k1;have a0l:=gT ar x.V k1;have a0m:=gT ar x.V (k1+1);have a0n:=yV ar x.V k1;have a0o:=cR zE x.V k1;have a2X:=Di (1+cW ar (x.V.take k1)) left;have a5j:=Di (1+cW ar (x.V.take (k1+1))) left;have a5k:=Di (ar (x.V.getD k1 zE)) (tz (1+cW ar (x.V.take k1)) left);have a5l:=Di (1+cW ar x.V) left;λ a1=>λ a2=>⟨λ a3=>⟨λ a4=>λ a5=>⟨?_,⟨?_,λ a6=>⟨?_,⟨k1+1,⟨?_,⟨?_,⟨⟨rfl,⟨?_,⟨rfl,⟨?_,trivial⟩⟩⟩⟩,trivial⟩⟩⟩⟩⟩⟩⟩,λ a4=>?_⟩,λ a3=>⟨λ a4=>λ a5=>⟨?_,⟨?_,λ a6=>⟨?_,⟨k1+1,⟨?_,⟨?_,⟨⟨rfl,⟨?_,⟨rfl,⟨?_,trivial⟩⟩⟩⟩,trivial⟩⟩⟩⟩⟩⟩⟩,λ a4=>?_⟩⟩⟩⟩
 all_goals try and_intros
 all_goals try rw[nH x]
 all_goals first|rfl|trivial|omega|(simp only[a5M,a5N,aV,ag,cq,iW,jQ,cE] at *;omega)|(simp[aV,ag] at *;omega)|grind
theorem Kd :∀ n,aQ [la n]
 | 0=>⟨⟨aG nR rfl (by decide),λ _ _ h=>absurd h.1 (a6D _)⟩,trivial⟩
 | n+1=>by
  have ih:=Kd  n
  exact⟨Ju n ⟨ih.1,trivial⟩,trivial⟩
theorem Fk :bb.Good pf :=
 ⟨aG nR rfl (by decide),λ x left hp=>(Kd  (cv x+1)).1.2 x left (⟨a6c _,hp⟩)⟩
def jK(n:Nat):bb:=⟨ou,[.r (.st .expr)],λ (x:O)=>⟨(some (cv x<n/\bB x<=1048576),[⟨(.int .i64),(bB x:Int)⟩])⟩⟩
def oq:bb:=⟨ou,[.r (.st .expr)],λ (x:O)=>⟨(some (bB x<=1048576),[⟨(.int .i64),(bB x:Int)⟩])⟩⟩
def yG(x:O):Nat->aX:=(λ zb=>if Nat.beq zb 0 then .mk (Nat) (λ k=>k<=x.V.length) (λ k=>x.V.length - k) [] [1] (λ k=>[(4, .aS ⟨(.int .i64),((k:Int):Int)⟩),(3, .aS ⟨(.int .i64),((gY bB (x.V.take k):Int):Int)⟩)]) [0,2,3,4,5,6,7,8,9,10,11,12,13,14,15,16,17,18,19,20,21,22,23,24] (λ k=>[]) [] [] (λ k=>λ _ => .none) else .none)
theorem IB(n:Nat)(x:O):cU (bo [jK n,dN]) (aF iz) (yG x) 0 (bC (bo [jK n,dN]) iz λ r=>bH r [⟨(.int .i64),(bB x:Int)⟩]) (aO iz [.ref ⟨(.st .expr),x⟩]) =
 (((∃ k1:Nat,(k1<=x.V.length/\((x=x/\((0:Int)=(0:Int)/\((0:Int)=(gY bB (x.V.take k1):Int)/\((0:Int)=(k1:Int)/\True))))/\True)))/\(∀ k1:Nat,(k1<=x.V.length ->
 (x.V.length<=140737488355328 ->
 (ag ((x.V.length:Int)) ->
 (((decide ((k1:Int)<((x.V.length:Int))))=true ->
 (x.V.length<=140737488355328 ->
 (aV (k1:Int) x.V.length/\((cv (x.V.getD k1 zE)<n/\bB (x.V.getD k1 zE)<=1048576)/\(ag ((bB (x.V.getD k1 zE):Int)) ->
 (ag (max (gY bB (x.V.take k1):Int) ((bB (x.V.getD k1 zE):Int))) ->
 (ag ((k1:Int)+(1:Int))/\(∃ k2:Nat,(k2<=x.V.length/\(x.V.length - k2<x.V.length - k1/\((x=x/\((0:Int)=(0:Int)/\((max (gY bB (x.V.take k1):Int) ((bB (x.V.getD k1 zE):Int)))=(gY bB (x.V.take k2):Int)/\(((k1:Int)+(1:Int))=(k2:Int)/\True))))/\True)))))))))))/\((decide ((k1:Int)<((x.V.length:Int))))=false ->
 (ag ((gY bB (x.V.take k1):Int)+(1:Int))/\((gY bB (x.V.take k1):Int)+(1:Int))=(bB x:Int)))))))))):=by kernel_rfl
theorem HS(n:Nat)(hE:aQ [jK n,dN]):bb.Good (jK (n+1)):=by
 refine⟨aG mR rfl (by decide),?_⟩
 show ∀ (x:O),(cv x<n+1/\bB x<=1048576)->bD prog ou [.ref ⟨(.st .expr),x⟩] (·=[⟨(.int .i64),(bB x:Int)⟩])
 intro x hp
 refine bu (wr:=[]) (cl:=[]) (ro:=[]) hE mR Dz (yG x) ?_
 rewrite [IB n x]
 rw[rR x] at hp
 have f0:=lA x
 have f1:=Nt bB x.V
 refine⟨⟨0,⟨?_,⟨⟨rfl,⟨rfl,⟨?_,⟨?_,trivial⟩⟩⟩⟩,trivial⟩⟩⟩,λ k1 a0=>have WR:=rY bB zE x.V k1;have a0l:=jY bB x.V k1;have a0m:=jY bB x.V (k1+1);have a0n:=yJ bB x.V k1;have a0o:=cR zE x.V k1;have a2X:=FL bB zE x.V k1;λ a1=>λ a2=>⟨λ a3=>λ a4=>⟨?_,⟨?_,λ a5=>λ a6=>⟨?_,⟨k1+1,⟨?_,⟨?_,⟨⟨rfl,⟨rfl,⟨?_,⟨?_,trivial⟩⟩⟩⟩,trivial⟩⟩⟩⟩⟩⟩⟩,λ a3=>⟨?_,?_⟩⟩⟩
 all_goals try and_intros
 all_goals try rw[rR x]
 all_goals first|rfl|trivial|omega|(simp only[a5M,a5N,aV,ag,cq,iW,jQ,cE] at *;omega)|(simp[aV,ag] at *;omega)|grind
theorem Gr :∀ n,aQ [jK n]
 | 0=>⟨⟨aG mR rfl (by decide),λ _ h=>absurd h.1 (a6D _)⟩,trivial⟩
 | n+1=>by
  have ih:=Gr  n
  exact⟨HS n ⟨ih.1,qA,trivial⟩,trivial⟩
theorem DO :bb.Good oq :=
 ⟨aG mR rfl (by decide),λ x hp=>(Gr  (cv x+1)).1.2 x (⟨a6c _,hp⟩)⟩
def lh(n:Nat):bb:=⟨pB,[.v (.st .sig), .r (.st .expr)],λ (gg:aD) (x:O)=>⟨(some (cv x<n),[⟨.bool,bL (aJ gg.aE) (aJ gg.ai) x⟩])⟩⟩
def pn:bb:=⟨pB,[.v (.st .sig), .r (.st .expr)],λ (gg:aD) (x:O)=>⟨(none,[⟨.bool,bL (aJ gg.aE) (aJ gg.ai) x⟩])⟩⟩
def AB(gg:aD)(x:O):Nat->aX:=(λ zb=>if Nat.beq zb 1 then .mk (Nat) (λ k=>k<=x.V.length/\b9 (bL (aJ gg.aE) (aJ gg.ai)) (x.V.take k)=true) (λ k=>x.V.length - k) [] [0,3,6,7,8,9,10,11,12,13,14,15,16,17,18,19,20,21,22,23,24,25,26,27,28,29,30,31,32,33,34,35,36,37,38,39,40,41,42,43,44,45,46,47,48,49,50,51,52,53,54,55,56,57,58,59,60,61] (λ k=>[(5, .aS ⟨(.int .i64),((k:Int):Int)⟩)]) [1,2,4,5,62,63,64,65,66,67,68,69,70,71,72,73,74,75,76,77,78,79] (λ k=>[]) [] [] (λ k=>λ _ => .none) else .none)
abbrev qI(n:Nat)(gg:aD)(x:O):Prop:=((∃ k1:Nat,((k1<=x.V.length/\b9 (bL (aJ gg.aE) (aJ gg.ai)) (x.V.take k1)=true)/\((x=x/\(gg=gg/\((0:Int)=(k1:Int)/\True)))/\True)))/\(∀ k1:Nat,((k1<=x.V.length/\b9 (bL (aJ gg.aE) (aJ gg.ai)) (x.V.take k1)=true) ->
 (x.V.length<=140737488355328 ->
 (ag ((x.V.length:Int)) ->
 (((decide ((k1:Int)<((x.V.length:Int))))=true ->
 (aV (k1:Int) x.V.length/\(x.V.length<=140737488355328 ->
 (cv (x.V.getD k1 zE)<n/\(((!(bL (aJ gg.aE) (aJ gg.ai) (x.V.getD k1 zE)))=true ->
 false=(bL (aJ gg.aE) (aJ gg.ai) x))/\((!(bL (aJ gg.aE) (aJ gg.ai) (x.V.getD k1 zE)))=false ->
 (ag ((k1:Int)+(1:Int))/\(∃ k2:Nat,((k2<=x.V.length/\b9 (bL (aJ gg.aE) (aJ gg.ai)) (x.V.take k2)=true)/\(x.V.length - k2<x.V.length - k1/\((x=x/\(gg=gg/\(((k1:Int)+(1:Int))=(k2:Int)/\True)))/\True)))))))))))/\((decide ((k1:Int)<((x.V.length:Int))))=false ->
 true=(bL (aJ gg.aE) (aJ gg.ai) x))))))))
theorem J1(n:Nat)(gg:aD)(x:O):cU (bo [lh n,mb,cN,dO] [29,39] [] [2]) (aF jj) (AB gg x) 0 (bC (bo [lh n,mb,cN,dO] [29,39] [] [2]) jj λ r=>bH r [⟨.bool,bL (aJ gg.aE) (aJ gg.ai) x⟩]) (aO jj [.val ⟨(.st .sig),gg⟩, .ref ⟨(.st .expr),x⟩]) =
 ((x.V.length<=140737488355328 ->
 (ag ((x.V.length:Int)) ->
 (ag x.ah ->
 (ag (cf x.ah) ->
 (((!(decide (((x.V.length:Int))=(cf x.ah))))=true ->
 false=(bL (aJ gg.aE) (aJ gg.ai) x))/\((!(decide (((x.V.length:Int))=(cf x.ah))))=false ->
 (ag x.ah ->
 (((decide (x.ah=(3:Int)))=true ->
 (ag x.bc ->
 (ag gg.aE ->
 ((decide ((0:Int)<=x.bc/\x.bc<=(IntKind.wrap .i64 (gg.aE - (1:Int)))))=(bL (aJ gg.aE) (aJ gg.ai) x)))))/\((decide (x.ah=(3:Int)))=false ->
 (((decide (x.ah=(4:Int)))=true ->
 (ag x.bc ->
 (ag gg.ai ->
 ((decide ((0:Int)<=x.bc/\x.bc<=(IntKind.wrap .i64 (gg.ai - (1:Int)))))=(bL (aJ gg.aE) (aJ gg.ai) x)))))/\((decide (x.ah=(4:Int)))=false ->
 (ag x.bc ->
 (((!(decide (x.bc=(0:Int))))=false ->
 (ag x.ah ->
 (((decide (x.ah=(5:Int)))=true ->
 (x.V.length<=140737488355328 ->
 (aV (0:Int) x.V.length/\(((!(bG (x.V.getD 0 zE)))=true ->
 false=(bL (aJ gg.aE) (aJ gg.ai) x))/\((!(bG (x.V.getD 0 zE)))=false ->
 (qI n gg x))))))/\((decide (x.ah=(5:Int)))=(!true) ->
 ((false=true ->
 false=(bL (aJ gg.aE) (aJ gg.ai) x))/\(false=false ->
 (qI n gg x)))))))/\((!(decide (x.bc=(0:Int))))=(!false) ->
 ((true=true ->
 false=(bL (aJ gg.aE) (aJ gg.ai) x))/\(true=false ->
 (qI n gg x)))))))))))))))))):=by kernel_rfl
theorem Jy(n:Nat)(hE:aQ [lh n,mb,cN,dO]):bb.Good (lh (n+1)):=by
 refine⟨aG nV rfl (by decide),?_⟩
 show ∀ (gg:aD) (x:O),(cv x<n+1)->bD prog pB [.val ⟨(.st .sig),gg⟩, .ref ⟨(.st .expr),x⟩] (·=[⟨.bool,bL (aJ gg.aE) (aJ gg.ai) x⟩])
 intro gg x hp
 refine bu (wr:=[29,39]) (cl:=[]) (ro:=[2]) hE nV E2 (AB gg x) ?_
 rewrite [J1 n gg x]
 have f0:=lA x
 have f1:=all_zero (bL (aJ gg.aE) (aJ gg.ai)) x.V
 refine λ a0=>λ a1=>λ a2=>λ a3=>⟨λ a4=>?_,λ a4=>λ a5=>⟨λ a6=>λ a7=>λ a8=>?_,λ a6=>⟨λ a7=>λ a8=>λ a9=>?_,λ a7=>λ a8=>⟨λ a9=>λ dt=>⟨λ dP=>λ a12=>⟨?_,⟨λ dK=>?_,λ dK=>⟨⟨0,⟨?_,⟨⟨rfl,⟨rfl,⟨?_,trivial⟩⟩⟩,trivial⟩⟩⟩,λ k1 eK=>have a5b:=cP (bL (aJ gg.aE) (aJ gg.ai)) zE x.V k1;have a5c:=dv (bL (aJ gg.aE) (aJ gg.ai)) zE x.V k1;have a5d:=dd (bL (aJ gg.aE) (aJ gg.ai)) x.V k1;have a5e:=cR zE x.V k1;λ fi=>λ ju=>⟨λ Gm=>⟨?_,λ WK=>⟨?_,⟨λ a19=>?_,λ a19=>⟨?_,⟨k1+1,⟨?_,⟨?_,⟨⟨rfl,⟨rfl,⟨?_,trivial⟩⟩⟩,trivial⟩⟩⟩⟩⟩⟩⟩⟩,λ Gm=>?_⟩⟩⟩⟩,λ dP=>⟨λ a12=>?_,λ a12=>⟨⟨0,⟨?_,⟨⟨rfl,⟨rfl,⟨?_,trivial⟩⟩⟩,trivial⟩⟩⟩,λ k1 dK=>have a1E:=cP (bL (aJ gg.aE) (aJ gg.ai)) zE x.V k1;have a1F:=dv (bL (aJ gg.aE) (aJ gg.ai)) zE x.V k1;have a1G:=dd (bL (aJ gg.aE) (aJ gg.ai)) x.V k1;have a1H:=cR zE x.V k1;λ eK=>λ fi=>⟨λ ju=>⟨?_,λ Gm=>⟨?_,⟨λ WK=>?_,λ WK=>⟨?_,⟨k1+1,⟨?_,⟨?_,⟨⟨rfl,⟨rfl,⟨?_,trivial⟩⟩⟩,trivial⟩⟩⟩⟩⟩⟩⟩⟩,λ ju=>?_⟩⟩⟩⟩,λ a9=>⟨λ dt=>?_,λ dt=>⟨⟨0,⟨?_,⟨⟨rfl,⟨rfl,⟨?_,trivial⟩⟩⟩,trivial⟩⟩⟩,λ k1 dP=>have PR:=cP (bL (aJ gg.aE) (aJ gg.ai)) zE x.V k1;have PS:=dv (bL (aJ gg.aE) (aJ gg.ai)) zE x.V k1;have PT:=dd (bL (aJ gg.aE) (aJ gg.ai)) x.V k1;have Tm:=cR zE x.V k1;λ a12=>λ dK=>⟨λ eK=>⟨?_,λ fi=>⟨?_,⟨λ ju=>?_,λ ju=>⟨?_,⟨k1+1,⟨?_,⟨?_,⟨⟨rfl,⟨rfl,⟨?_,trivial⟩⟩⟩,trivial⟩⟩⟩⟩⟩⟩⟩⟩,λ eK=>?_⟩⟩⟩⟩⟩⟩⟩
 all_goals try and_intros
 all_goals try rw[mB _ _ x]
 all_goals first|rfl|trivial|(simp only[decide_eq_true_eq,decide_eq_false_iff_not,aV,ag] at *;omega)|(simp_all [qD,aJ];done)|(simp_all [qD,aJ,aV,ag];omega)|grind [qD,aJ,cf,aV,ag]
theorem Kg :∀ n,aQ [lh n]
 | 0=>⟨⟨aG nV rfl (by decide),λ _ _ h=>absurd h (a6D _)⟩,trivial⟩
 | n+1=>by
  have ih:=Kg  n
  exact⟨Jy n ⟨ih.1,Fj,kO,qe,trivial⟩,trivial⟩
theorem Fm :bb.Good pn :=
 ⟨aG nV rfl (by decide),λ gg x hp=>(Kg  (cv x+1)).1.2 gg x (a6c _)⟩
end
end Go.Proofs.YtnehkikdlnmebaaGreatDoor

set_option maxRecDepth 4000
set_option maxHeartbeats 4000000
namespace Go.Proofs.YtnehkikdlnmebaaGreatDoor
noncomputable section
def aY(gg:aD):Bool:=decide (0<=gg.aE/\gg.aE<=3)&&decide (0<=gg.ai/\gg.ai<=4)
def vS(gg:aD)(x:O)(bj depth:Int):Bool:=bL (aJ gg.aE) (aJ gg.ai) x&&decide ((ar x:Int)<=bj)&&decide ((bB x:Int)<=depth)
def zW(gg:aD)(x:O)(bj depth:Int):Int:=bif vS gg x bj depth then bj - ar x else 0
def cG:bb:=⟨sa,[.v (.st .sig)],λ (gg:aD)=>⟨(none,[⟨.bool,aY gg⟩])⟩⟩
def yy(gg:aD):Nat->aX:=λ _ => .none
theorem It(gg:aD):cU (bo [dM] [] [] [1]) (aF ig) (yy gg) 0 (bC (bo [dM] [] [] [1]) ig λ r=>bH r [⟨.bool,aY gg⟩]) (aO ig [.val ⟨(.st .sig),gg⟩]) =
 ((ag gg.aE ->
 ((((decide ((0:Int)<=gg.aE/\gg.aE<=(3:Int)))=true) ->
 (ag gg.ai ->
 ((decide ((0:Int)<=gg.ai/\gg.ai<=(4:Int)))=(aY gg))))/\(((decide ((0:Int)<=gg.aE/\gg.aE<=(3:Int)))=(!true)) ->
 false=(aY gg))))):=by kernel_rfl
theorem HK(hE:aQ [dM]):bb.Good cG:=by
 refine⟨aG v7 rfl (by decide),?_⟩
 show ∀ (gg:aD),True->bD prog sa [.val ⟨(.st .sig),gg⟩] (·=[⟨.bool,aY gg⟩])
 intro gg _
 refine bu (wr:=[]) (cl:=[]) (ro:=[1]) hE v7 Dq (yy gg) ?_
 rewrite [It gg]
 refine λ a0=>⟨λ a1=>λ a2=>?_,λ a1=>?_⟩
 all_goals try and_intros
 all_goals first|rfl|trivial|(simp_all [aY];done)|(simp_all [aY];omega)
theorem kd:bb.Good cG:=HK ⟨qz,trivial⟩
def gi:bb:=⟨vF,[.v (.st .sig)],λ (gg:aD)=>⟨(none,[⟨.bool,aY gg⟩])⟩⟩
def Cj(gg:aD):Nat->aX:=λ _ => .none
theorem LB(gg:aD):cU (bo [cN] [] [] [1]) (aF kJ) (Cj gg) 0 (bC (bo [cN] [] [] [1]) kJ λ r=>bH r [⟨.bool,aY gg⟩]) (aO kJ [.val ⟨(.st .sig),gg⟩]) =
 ((ag gg.aE ->
 ((((decide ((0:Int)<=gg.aE/\gg.aE<=(3:Int)))=true) ->
 (ag gg.ai ->
 ((decide ((0:Int)<=gg.ai/\gg.ai<=(4:Int)))=(aY gg))))/\(((decide ((0:Int)<=gg.aE/\gg.aE<=(3:Int)))=(!true)) ->
 false=(aY gg))))):=by kernel_rfl
theorem Ln(hE:aQ [cN]):bb.Good gi:=by
 refine⟨aG Ak rfl (by decide),?_⟩
 show ∀ (gg:aD),True->bD prog vF [.val ⟨(.st .sig),gg⟩] (·=[⟨.bool,aY gg⟩])
 intro gg _
 refine bu (wr:=[]) (cl:=[]) (ro:=[1]) hE Ak GK (Cj gg) ?_
 rewrite [LB gg]
 refine λ a0=>⟨λ a1=>λ a2=>?_,λ a1=>?_⟩
 all_goals try and_intros
 all_goals first|rfl|trivial|(simp_all [aY];done)|(simp_all [aY];omega)
theorem wy:bb.Good gi:=Ln ⟨kO,trivial⟩
end
end Go.Proofs.YtnehkikdlnmebaaGreatDoor

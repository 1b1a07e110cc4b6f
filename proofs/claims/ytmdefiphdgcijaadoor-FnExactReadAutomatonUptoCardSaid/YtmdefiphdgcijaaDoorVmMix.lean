/- Operations whose order is open, among them such as make memory of one's own: what only looks may come at any time. -/
import Derived.Test.YtmdefiphdgcijaaDoorVmFrz
set_option linter.unusedVariables false
set_option linter.unusedSimpArgs false
namespace Go.Proofs.YtmdefiphdgcijaaDoor
theorem b7y{α β:Type}{f g:α→β}{l:Array α}(h:∀ x∈l.toList,f x=g x):l.map f=l.map g:=by
 apply Array.ext'
 rw[Array.toList_map,Array.toList_map]
 exact List.map_congr_left h
theorem e0y{o:Oper}{ρ ρ':Operand→Value}{l:List Operand}(h:e0i o.op=some l)(he:∀ x∈l,ρ x=ρ' x):execOp ρ o=execOp ρ' o:=by
 have parts:∀ ps:Array (Nat×Operand),l=ps.toList.map (·.2)→(ps.map fun (i,x)=>(i,ρ x))=ps.map fun (i,x)=>(i,ρ' x):=fun ps hl=>b7y fun x hx=>by
  obtain⟨i,x⟩:=x
  simp only
  rw[he x (by rw[hl];exact List.mem_map.2 ⟨(i,x),hx,rfl⟩)]
 unfold e0i at h
 split at h
 case h_19=>cases h
 case h_18 c hop =>
  split at h
  case h_3=>cases h
  case h_1 f hc =>
   simp only[Option.some.injEq] at h
   subst h
   have ha:c.args.map ρ=c.args.map ρ':=b7y fun x hx=>he x (by simp[hx])
   simp only[execOp,hop,resolve,hc,ha,he f (by simp)]
  case h_2 b hc =>
   simp only[Option.some.injEq] at h
   subst h
   have ha:c.args.map ρ=c.args.map ρ':=b7y fun x hx=>he x hx
   simp only[execOp,hop,resolve,hc,ha]
 all_goals
  rename_i hop
  simp only[Option.some.injEq] at h
  first
   | (have:=parts _ h.symm;simp only[execOp,hop,this];done)
   | (subst h;simp only[execOp,hop];done)
   | (subst h;simp only[execOp,hop,Option.map_none];done)
   | (subst h;simp only[List.mem_cons,List.not_mem_nil,or_false,forall_eq_or_imp,forall_eq] at he;simp only[execOp,hop,he];done)
   | (subst h;simp only[List.mem_cons,List.not_mem_nil,or_false,forall_eq_or_imp,forall_eq] at he;simp only[execOp,hop,he.1,he.2];done)
   | (subst h;simp only[List.mem_cons,List.not_mem_nil,or_false,forall_eq_or_imp,forall_eq] at he;simp only[execOp,hop,he.1,he.2.1,he.2.2];done)
theorem e3h{u v:TV}(h:b3t u v):u=v:=by
 unfold b3t at h
 split at h
 ·rename_i x hx
  have:=TV.as_some hx
  rw[this,h]
 ·exact h.elim
theorem d5b{v u:AV}(h:d1h v u):v=u:=by
 unfold d1h at h
 split at h
 ·rw[e3h h]
 ·rw[e3h h]
 ·rw[h]
 ·rw[h]
 ·rw[h.1,h.2]
 ·rfl
 ·exact h.elim
theorem c2k{c:Ctx}{G:Gh}{lk:Nat→Option a0d}{a:Act}{w:World}{o:Oper}{v:AV}{x:Value}(hr:(execOp a.eval o).run c.P w = .ok (.value x) w)(hv:VR c G lk w v x) :
  ∃ x,(execOp a.eval o).run c.P w = .ok (.value x) w∧VR c G lk w v x:=⟨x,hr,hv⟩
theorem e6l{c:Ctx}{G:Gh}{sl:Nat→AV}{n:Nat}{lk:Nat→Option a0d}{a:Act}{w:World}(hE:a0r c.P c.E)(hI:a0l c G sl n lk a w){lk':Nat→Option a0d}(hlk:∀ id o,lk' id=some o→lk id=some o){ev:Operand→AV}(hev:∀ x,VR c G lk w (ev x) (a.eval x))
  {o:Oper} {vc:Vc} {v:AV} {ob:Option a0d} (hq:qop c.E lk' ev o=some (vc,v,ob)) (hvc:vc.ok) (hread:d1u o.op=true) :
  ∃ x,(execOp a.eval o).run c.P w = .ok (.value x) w∧VR c G lk w v x:=by
 unfold qop at hq
 split at hq
 case h_1 x hop =>
  simp only[Option.some.injEq,Prod.mk.injEq] at hq
  obtain⟨rfl,rfl,rfl⟩:=hq
  exact c2k (by simp[execOp,hop]) (hev x)
 case h_8 T ad hop =>
  split at hq
  ·rename_i τ r hT
   split at hq
   ·rename_i u hu
    simp only[Option.some.injEq,Prod.mk.injEq] at hq
    obtain⟨rfl,rfl,rfl⟩:=hq
    obtain⟨b,o',cs,h1,h2,h3,h4⟩:=b2r hI.objs hlk hu (hev ad)
    refine c2k ?_ h4
    simp only[execOp,hop,h1,Sem.run_bind,b1i hE hT h2 h3,Result.andThen_ok,Sem.run_pure]
   ·cases hq
  ·cases hq
 case h_9 x hop =>
  have key:∀ u,ev x=u→(∃ b o,a.eval x = .pointer (some ⟨b,o,none⟩))→vc = .none→v=u→ob=none→∃ x,(execOp a.eval o).run c.P w = .ok (.value x) w∧VR c G lk w v x:=by
   rintro u hu ⟨b,o',hx⟩ _ rfl rfl
   refine c2k (x:=a.eval x) ?_ (hu ▸ hev x)
   simp only[execOp,hop,hx,Sem.run_pure]
  have hx:=hev x
  split at hq
  ·rename_i u hu
   simp only[Option.some.injEq,Prod.mk.injEq] at hq
   rw[hu] at hx
   obtain⟨b,o',cs,h1,_⟩:=hx
   exact key _ hu ⟨b,o',h1⟩ hq.1.symm hq.2.1.symm hq.2.2.symm
  ·rename_i id off hu
   simp only[Option.some.injEq,Prod.mk.injEq] at hq
   rw[hu] at hx
   obtain⟨b,_,h1,_⟩:=hx
   exact key _ hu ⟨b,off,h1⟩ hq.1.symm hq.2.1.symm hq.2.2.symm
  ·rename_i id i off hu
   simp only[Option.some.injEq,Prod.mk.injEq] at hq
   rw[hu] at hx
   obtain⟨b,_,_,_,_,_,_,_,_,h1⟩:=hx
   exact key _ hu ⟨b,_,h1⟩ hq.1.symm hq.2.1.symm hq.2.2.symm
  ·cases hq
 case h_10 T x i hop =>
  split at hq
  ·rename_i s r hT
   have hx:=hev x
   split at hq
   ·rename_i u hu
    rw[hu] at hx
    split at hq
    ·rename_i y hy
     have e:=TV.as_some hy
     subst e
     split at hq
     ·rename_i f hf
      simp only[Option.some.injEq,Prod.mk.injEq] at hq
      obtain⟨rfl,rfl,rfl⟩:=hq
      obtain⟨b,o',cs,h1,h2,h3,h4⟩:=hx
      have hlt:i<s.ftys.length:=by
       have:=(List.getElem?_eq_some_iff.1 hf).1
       rw[←a0h.fields_tys s y,List.length_map];exact this
      refine c2k (x := .pointer (some ⟨b,o'+s.offs i,none⟩)) ?_ ?_
      ·simp only[execOp,hop,h1,Sem.run_bind,a8l hE hT hlt,Result.andThen_ok,Sem.run_pure]
      ·refine⟨b,o'+s.offs i,(cs.drop (s.offs i)).take f.τ.size,rfl,h2,h3.part _ _,?_⟩
       exact c6d hf h4
     ·cases hq
    ·cases hq
   ·rename_i id off hu
    rw[hu] at hx
    split at hq
    ·rename_i hlt
     simp only[Option.some.injEq,Prod.mk.injEq] at hq
     obtain⟨rfl,rfl,rfl⟩:=hq
     have hlt:i<s.ftys.length:=by simpa [Nat.blt_eq] using hlt
     obtain⟨b,h1,h2,h3⟩:=hx
     refine c2k (x := .pointer (some ⟨b,off+s.offs i,none⟩)) ?_ ⟨b,h1,rfl,h3⟩
     simp only[execOp,hop,h2,Sem.run_bind,a8l hE hT hlt,Result.andThen_ok,Sem.run_pure]
    ·cases hq
   ·rename_i id k off hu
    rw[hu] at hx
    split at hq
    ·rename_i hlt
     simp only[Option.some.injEq,Prod.mk.injEq] at hq
     obtain⟨rfl,rfl,rfl⟩:=hq
     have hlt:i<s.ftys.length:=by simpa [Nat.blt_eq] using hlt
     obtain⟨b,m,cap,e,τ,xs,h1,h2,h3,h4⟩:=hx
     refine c2k (x := .pointer (some ⟨b,k * τ.size+(off+s.offs i),none⟩)) ?_ ⟨b,m,cap,e,τ,xs,h1,h2,h3,rfl⟩
     simp only[execOp,hop,h4,Sem.run_bind,a8l hE hT hlt,Result.andThen_ok,Sem.run_pure,Nat.add_assoc]
    ·cases hq
   ·cases hq
  ·cases hq
 case h_12 T x ix hop =>
  split at hq
  ·rename_i τ r hT
   split at hq
   ·rename_i k i hi
    have hix:=hev ix
    rw[hi] at hix
    obtain⟨hix,_⟩:=hix
    simp only[List.cons.injEq,and_true] at hix
    have hx:=hev x
    split at hq
    ·rename_i u hu
     rw[hu] at hx
     split at hq
     ·rename_i xs hxs
      have e:=TV.as_some hxs
      subst e
      simp only[Option.some.injEq,Prod.mk.injEq] at hq
      obtain⟨rfl,rfl,rfl⟩:=hq
      obtain⟨h0,h1⟩:=hvc
      obtain⟨ad,cap,h2,h3,h4,h5⟩:=a9z hx
      rcases h5 with h5|⟨b,o',h5,h6,h7⟩
      ·subst h5
       simp only[List.length_nil] at h1
       omega
      ·subst h5
       have hlt:i.toNat<xs.length:=by omega
       obtain⟨cs,m1,m2,m3⟩:=a1q.at_ (n:=τ.size) _ b o' h7 (by
        intro d hd
        obtain⟨y,_,rfl⟩:=List.mem_map.1 hd
        exact Ty.size_toD τ y) i.toNat (τ.toD (xs.getD i.toNat τ.zero)) (by simp[List.getD,hlt])
       refine c2k (x := .pointer (some ⟨b,o'+i.toNat * τ.size,none⟩)) ?_ ⟨b,_,cs,rfl, .inl h6,m3,m2⟩
       simp only[execOp,hop,h2,hix,Sem.run_bind,b2u hE hT h0 h1,Result.andThen_ok,Sem.run_pure]
     ·cases hq
    ·rename_i id hu
     rw[hu] at hx
     split at hq
     ·rename_i e' τ' xs hl
      split at hq
      ·rename_i hτ
       have hτ:=of_decide_eq_true hτ
       subst hτ
       simp only[Option.some.injEq,Prod.mk.injEq] at hq
       obtain⟨rfl,rfl,rfl⟩:=hq
       obtain⟨h0,h1⟩:=hvc
       obtain⟨h2,_,_⟩:=hx
       have hl':=hlk _ _ hl
       obtain⟨l,m1,_,_⟩:=hI.objs _ _ hl'
       have hlt:i.toNat<xs.length:=by omega
       rcases m1.2 with ⟨_,hn⟩|⟨g,cap,cur,hv,_⟩
       ·omega
       ·refine c2k (x := .pointer (some ⟨g,0+i.toNat * τ'.size,none⟩)) ?_ ⟨g,_,cap,e',τ',xs,hv,hl',hlt,by simp⟩
        simp only[execOp,hop,h2,hv,hix,Sem.run_bind,b2u hE hT h0 h1,Result.andThen_ok,Sem.run_pure]
      ·cases hq
     ·cases hq
    ·cases hq
   ·cases hq
  ·cases hq
 case h_24=>cases hq
 all_goals
  rename_i hop
  rw[hop] at hread
  cases hread
theorem d9e{c:Ctx}{G:Gh}{s:a0c}{a:Act}{w:World}(hE:a0r c.P c.E)(h:Inv c G s a w){o:Oper}{vc:Vc}{v:AV}(hq:rop c.E s o=some (vc,v))(hvc:vc.ok) :
  ∃ x,(execOp a.eval o).run c.P w = .ok (.value x) w∧VR c G s.look w v x:=by
 unfold rop at hq
 split at hq
 ·rename_i hr
  split at hq
  ·rename_i vc' v' hq'
   simp only[Option.some.injEq,Prod.mk.injEq] at hq
   obtain⟨rfl,rfl⟩:=hq
   exact e6l hE h (fun _ _ h=>h) (a0p h) hq' hvc hr
  ·cases hq
 ·cases hq
theorem d5c:∀ {v u:List AV},d7h v u→v=u
 | [],[],_=>rfl
 | a::as,b::bs,h=>by rw[d5b h.1,d5c h.2]
 | [],_::_,h=>h.elim
 | _::_,[],h=>h.elim
theorem e5a{v u:AV}(h:e0r v u):v=u:=by
 unfold e0r at h
 split at h
 ·rw[d5c h]
 ·exact d5b h
structure a8s(D:List Nat)(a b:Act):Prop where
 size:a.tmps.size=b.tmps.size
 da:a.defers=[]
 db:b.defers=[]
 at':∀ t,t∉D→a.tmps.getD t undef=b.tmps.getD t undef
theorem a8s.put{D D':List Nat}{a b:Act}(h:a8s D a b){d:Option Nat}{x:Value}(hD:∀ t,t∈D→t∉D'→d=some t):a8s D' (a.put d x) (b.put d x) where
 size:=by cases d<;>simp[Act.put,h.size]
 da:=by cases d<;>exact h.da
 db:=by cases d<;>exact h.db
 at' t ht:=by
  rw[a2x,a2x,h.size]
  by_cases hd:d=some t
  ·by_cases hl:t<b.tmps.size
   ·rw[if_pos ⟨hd,hl⟩,if_pos ⟨hd,hl⟩]
   ·rw[if_neg (fun q=>hl q.2),if_neg (fun q=>hl q.2)]
    have h1:a.tmps.getD t undef=undef:=by rw[Array.getD_eq_getD_getElem?,Array.getElem?_eq_none (by rw[h.size];omega)];rfl
    have h2:b.tmps.getD t undef=undef:=by rw[Array.getD_eq_getD_getElem?,Array.getElem?_eq_none (by omega)];rfl
    rw[h1,h2]
  ·rw[if_neg (fun q=>hd q.1),if_neg (fun q=>hd q.1)]
   refine h.at' t fun hm=>hd (hD t hm ht)
theorem a8s.exec{D:List Nat}{a b:Act}(h:a8s D a b){o:Oper}(hu:a4k D o=true):execOp a.eval o=execOp b.eval o:=by
 unfold a4k at hu
 split at hu
 ·rename_i l hl
  rw[List.all_eq_true] at hu
  refine e0y hl fun x hx=>?_
  have:=hu x hx
  cases x with
  | tmp t=>exact h.at' t (by simpa using this)
  | _=>rfl
 ·cases hu
theorem b0l{D D':List Nat}{o:Oper}(h:a4k D o=true)(hs:∀ t∈D',t∈D):a4k D' o=true:=by
 unfold a4k at h ⊢
 split at h
 ·rename_i l hl
  rw[List.all_eq_true] at h ⊢
  intro x hx
  have:=h x hx
  cases x with
  | tmp t =>
   simp only[Bool.not_eq_true',List.contains_eq_mem,decide_eq_false_iff_not] at this ⊢
   exact fun q=>this (hs t q)
  | _=>rfl
 ·cases h
section
variable {c:Ctx} {G:Gh} {s:a0c} {a:Act} {w w':World}
theorem e8q{P:Program}{o:Oper}{b:Act}{N N':Act→World→Prop}{Q:Exit→Act→World→Prop}(he:execOp a.eval o=execOp b.eval o)(hN:∀ x w',N (b.put o.dst x) w'→N' (a.put o.dst x) w')
  (hd:∀ b' w',N b' w'→b'.defers=[]) (h:o.wp P b w N (fun _ _ _=>False)):o.wp P a w N' Q:=by
 unfold Oper.wp at *
 rw[he]
 generalize (execOp b.eval o).run P w=r at *
 cases r with
 | ok n w' =>
  cases n<;>simp only[Oper.upon] at h ⊢
  case value v=>exact hN _ _ h
  case skip=>exact hN _ _ h
  case defer d =>
   have:=hd _ _ h
   cases hh:o.dst<;>simp[Act.put,hh] at this
  case enter f args=>exact Calls.mono h (fun e w'' q=>by cases e<;>first|exact hN _ _ q|exact q.elim fun _ q=>q.elim fun _ q=>q.elim|exact q.elim)
  case row r args=>exact Rows.mono h (fun _ _ q=>hN _ _ q)
 | halt x w'=>cases x<;>simp only[Oper.upon] at h ⊢
theorem e0z{p:Nat→Prop}:∀ n,p n→∃ k,p k∧∀ j,j<k→¬ p j:=by
 intro n
 induction n using Nat.strongRecOn with
 | _ n ih =>
  intro h
  by_cases hq:∃ j,j<n∧p j
  ·obtain⟨j,h1,h2⟩:=hq
   exact ih j h1 h2
  ·exact⟨n,h,fun j hj hp=>hq ⟨j,hj,hp⟩⟩
theorem a8s.eq{a b:Act}(h:a8s [] a b):a=b:=by
 obtain⟨ta,da⟩:=a
 obtain⟨tb,db⟩:=b
 obtain⟨h1,h2,h3,h4⟩:=h
 simp only at h1 h2 h3 h4
 subst h2 h3
 congr 1
 apply Array.ext h1
 intro i hi hj
 have:=h4 i (by simp)
 simpa [Array.getD_eq_getD_getElem?,Array.getElem?_eq_getElem hi,Array.getElem?_eq_getElem hj] using this
theorem a5n{R:List (Nat×Oper)}{t:Nat}:t∈a8x R↔∃ r∈R,r.2.dst=some t:=by
 simp[a8x,List.mem_filterMap]
theorem e8k(h:Inv c G s a w){d:Nat}{x:Value}(hv:VR c G s.look w (s.slots.getD d .any) x):Inv c G s (a.put (some d) x) w:=by
 have:=a0l.put (d:=some d) h hv
 unfold Inv
 have e:a5y s.slots.length s.sl (some d) (s.slots.getD d .any)=s.sl:=by
  funext i
  unfold a5y
  split
  ·rename_i hi
   obtain⟨h1,_⟩:=hi
   simp only[Option.some.injEq] at h1
   subst h1
   rfl
  ·rfl
 rwa [e] at this
theorem a9j{E:Env}{K:Prop}:∀ {R:List (Nat×Oper)},a5v E R s K→(∀ r∈R,∃ d vc,r.2.dst=some d∧rop E s r.2=some (vc,s.slots.getD d .any)∧Vc.ok vc)∧K
 | [],h=>⟨by simp,h⟩
 | r::rs,h=>by
  simp only[a5v] at h
  split at h
  ·rename_i d vc v hd hr
   have h1:=Vc.and_ok h
   obtain⟨k1,k2⟩:=a9j h1.2.2
   refine⟨fun q hq=>?_,k2⟩
   rcases List.mem_cons.1 hq with rfl|hq
   ·exact⟨d,vc,hd,by rw[hr,e5a h1.2.1],h1.1⟩
   ·exact k1 q hq
  ·exact h.elim
theorem d6j(hE:a0r c.P c.E){K:a0c→Prop}:∀ {R:List (Nat×Oper)} {s:a0c} {a:Act},Inv c G s a w→d1i c.E R K s→∃ t b,Inv c G t b w∧a8s (a8x R) a b∧K t
 | [],s,a,hI,h=>⟨s,a,hI,⟨rfl,hI.defers,hI.defers,fun _ _=>rfl⟩,h⟩
 | r::rs,s,a,hI,h=>by
  simp only[d1i] at h
  split at h
  ·rename_i d vc v hd hr
   have h1:=Vc.and_ok h
   obtain⟨x,_,hx⟩:=d9e hE hI hr h1.1
   obtain⟨t,b,k1,k2,k3⟩:=d6j hE (Inv.put (d:=some d) hI hx) (c6o hx h1.2)
   refine⟨t,b,k1,⟨by rw[←k2.size];simp[Act.put],hI.defers,k2.db,fun i hi=>?_⟩,k3⟩
   have hne:d≠i:=fun e=>hi (a5n.2 ⟨r,by simp,by rw[hd,e]⟩)
   rw[←k2.at' i fun hm=>hi (by
    obtain⟨q,hq,hqd⟩:=a5n.1 hm
    exact a5n.2 ⟨q,by simp[hq],hqd⟩),a2x,if_neg (fun q=>hne (by simpa using q.1))]
  ·exact h.elim
theorem e2o{E:Env}{o:Oper}{K:a0c→Prop}{T:TypeId}{d:Nat}{τ:Ty}{r:Nat×Nat}(hop:o.op = .alloc T)(hd:o.dst=some d)(hT:a0f E.ty T=some (τ,r)) :
  a7g E o K s↔(d<400000∧K (s.lay (some d) (.ptr d 0) (some (.box (a4z τ))))):=by
 have h1:a8n E s o=[]:=by
  unfold a8n
  rw[hop]
  split<;>rfl
 have h2:bop E s o=none:=by
  unfold bop
  rw[hd,hop]
  simp only
  split<;>rfl
 have h3:eop E s o=none:=by unfold eop;rw[hop]
 have h4:oop E s o=none:=by unfold oop;rw[hop]
 obtain⟨r1,r2⟩:=r
 have h5:qop E s.look s.eval o=some (.none, .ptr d 0,some (.box (a4z τ))):=by
  unfold qop
  rw[hop]
  simp only[hd,hT]
 unfold a7g
 have h6:sop E s o=none:=by unfold sop;rw[hd,hop]
 have h7:nop E s o=none:=by unfold nop;rw[hop]
 simp only[h1,List.foldl_nil,h6,h2,h3,h4,h7,h5,Vc.and,hop,d7a,hd,b3a]
 cases hb:Nat.blt d 400000 with
 | true=>simp only[Nat.blt_eq] at hb;simp[hb]
 | false=>simp only[Bool.eq_false_iff,ne_eq,Nat.blt_eq] at hb;simp[hb]
structure PE where
 i:Nat
 d:Nat
 x:Value
 b:Nat
 cs:List AV
noncomputable instance:DecidableEq PE:=fun _ _=>Classical.propDecidable _
structure b9q(c:Ctx)(G:Gh)(lk:Nat→Option a0d)(X:List (Nat×Oper))(a:Act)(w:World)(p:PE):Prop where
 ex:∃ o T τ r,(p.i,o)∈X∧o.op = .alloc T∧o.dst=some p.d∧a0f c.E.ty T=some (τ,r)∧p.cs=a4z τ
 val:a.tmps.getD p.d undef=if p.d<a.tmps.size then p.x else undef
 ptr:p.x = .pointer (some ⟨p.b,0,none⟩)
 lt:p.d<400000
 new:∃ l t,w.heap[p.b]?=some (.cells l.toArray t (0,0))∧∀ (c:Ctx) (G:Gh) (lk:Nat→Option a0d) (w:World),a0g (C1 c G lk w) p.cs l
 fr:FrB c G lk w p.b
theorem b9q.put{lk:Nat→Option a0d}{X:List (Nat×Oper)}{p:PE}(h:b9q c G lk X a w p){d:Option Nat}{x:Value}(hd:d≠some p.d):b9q c G lk X (a.put d x) w p :=
 ⟨h.ex,by rw[a2x,if_neg (fun q=>hd q.1),a5i];exact h.val,h.ptr,h.lt,h.new,h.fr⟩
theorem e4x(h:Inv c G s a w){p:PE}{X:List (Nat×Oper)}{a2:Act}(hp:b9q c G s.look X a2 w p) :
  Inv c ⟨G.S,fun i=>if i=p.d then p.x else G.η i,G.φ⟩ (s.lay (some p.d) (.ptr p.d 0) (some (.box p.cs))) (a.put (some p.d) p.x) w:=by
 obtain⟨l,t,h1,h2⟩:=hp.new
 refine Inv.layObj h hp.lt ⟨p.b,l,t,hp.ptr,h1,h2 _ _ _ _⟩ ⟨_,rfl,rfl⟩ fun b hb=>?_
 rw[hp.ptr] at hb
 simp only[blk,Option.some.injEq] at hb
 subst hb
 obtain⟨q1,q2,q3,q4,q5⟩:=hp.fr
 exact⟨q1,q2,q3,fun i o' _ ho=>q4 i o' ho,q5⟩
theorem e4w{p:PE}{X:List (Nat×Oper)}{a2:Act}(hp:b9q c G s.look X a2 w p){b:Nat}(hb:FrB c G s.look w b)(hne:b≠p.b) :
  FrB c ⟨G.S,fun i=>if i=p.d then p.x else G.η i,G.φ⟩ (s.lay (some p.d) (.ptr p.d 0) (some (.box p.cs))).look w b:=by
 have hlk:(s.lay (some p.d) (.ptr p.d 0) (some (.box p.cs))).look=fun i=>if i=p.d then some ((a0d.box p.cs).kill p.d) else (if i=p.d then none else (s.sweep p.d).look i):=by
  funext i
  show a0f ((p.d,(a0d.box p.cs).kill p.d)::a0v p.d (s.sweep p.d).objs) i=_
  rw[a2j,a3f]
  rfl
 obtain⟨q1,q2,q3,q4,q5⟩:=hb
 rw[hlk]
 refine⟨q1,q2,q3,fun i o ho e=>?_,fun j τ xs hj hbj=>?_⟩
 ·by_cases hi:i=p.d
  ·simp only[if_pos hi] at e
   rw[hp.ptr] at e
   simp only[blk,Option.some.injEq] at e
   exact hne e.symm
  ·simp only[if_neg hi] at e ho
   rw[a2z] at ho
   simp only[Option.map_eq_some_iff] at ho
   obtain⟨o',ho',_⟩:=ho
   exact q4 i o' ho' e
 ·by_cases hi:j=p.d
  ·simp only[if_pos hi] at hj
   cases hj
  ·simp only[if_neg hi] at hj
   rw[a2z] at hj
   exact q5 j τ xs (a7r hj) hbj
theorem e2i(hE:a0r c.P c.E)(h:Inv c G s a w){a2:Act}{o:Oper}{T:TypeId}{d i:Nat}{τ:Ty}{r:Nat×Nat}(hop:o.op = .alloc T)(hd:o.dst=some d)(hT:a0f c.E.ty T=some (τ,r))(hd4:d<400000){X:List (Nat×Oper)}(hX:(i,o)∈X) :
  ∃ w' p,p.i=i∧p.d=d∧p.b=w.heap.size∧(execOp a2.eval o).run c.P w = .ok (.value p.x) w'∧Inv c G s a w'∧b9q c G s.look X (a2.put (some d) p.x) w' p∧a1p (fun _=>False) w w':=by
 obtain⟨r1,r2⟩:=r
 obtain⟨inf,z,h1,h2,h3,h4⟩:=(hE.info hT).ex
 refine⟨w.alloc (.cells z.cells T),⟨i,d, .pointer (some ⟨w.heap.size,0,none⟩),w.heap.size,a4z τ⟩,rfl,rfl,rfl,?_,h.alloc _,?_,a5m w _⟩
 ·simp[execOp,hop,Instr.alloc,zeroValue,typeInfo,h1,h3,newVar,newRow]
 ·refine⟨⟨o,T,τ,_,hX,hop,hd,hT,rfl⟩,?_,rfl,hd4,⟨z.cells.toList,T,by simpa using heap_alloc_new w _,fun _ _ _ _=>a9k h4⟩,?_⟩
  ·simp only[a2x,a5i,true_and]
   split
   ·rfl
   ·rename_i hlt
    first|rfl|(rw[Array.getD_eq_getD_getElem?,Array.getElem?_eq_none (by omega)];rfl)
  ·refine⟨.inl h.keep.size,fun q=>by have:=h.sLt _ q;simp only at this;omega,by simp,fun j o' hj hb=>by have:=(h.place j o' _ hj hb).2.2;simp only at this;omega,fun j τ xs hj hb=>by have:=(h.trees.pl j τ xs _ hj hb).2.2.1;simp only at this;omega⟩
theorem c5i{op:Op}(h:d1u op=true):a2g op=false:=by
 cases op<;>first|rfl|cases h
theorem c9p(anc:List Nat)(x:Nat×Oper):∀ l,(d1l anc x l).Perm (x::l)
 | [] => .refl _
 | y::ys=>by
  unfold d1l
  split
  ·exact .refl _
  ·exact ((c9p anc x ys).cons y).trans (.swap x y ys)
theorem a8c(anc:List Nat):∀ l,(c6p anc l).Perm l
 | [] => .refl _
 | x::xs=>by
  unfold c6p
  split
  ·exact (c9p anc x _).trans ((a8c anc xs).cons x)
  ·exact (a8c anc xs).cons x
structure XE where
 i:Nat
 d:Nat
 x:Value
 o:Oper
noncomputable instance:DecidableEq XE:=fun _ _=>Classical.propDecidable _
structure XOk(P:Program)(X:List (Nat×Oper))(a:Act)(e:XE):Prop where
 mem:(e.i,e.o)∈X
 dst:e.o.dst=some e.d
 val:a.tmps.getD e.d undef=if e.d<a.tmps.size then e.x else undef
 run:(a7w e.o.op=true∧∀ w,(execOp a.eval e.o).run P w = .ok (.value e.x) w)∨(b7m e.o.op=true∧∃ p,e.x = .slice p 0 0)
theorem XOk.lz{P:Program}{X:List (Nat×Oper)}{a:Act}{e:XE}(h:XOk P X a e):a2g e.o.op=true:=by
 rcases h.run with ⟨q,_⟩|⟨q,_⟩<;>simp[a2g,q]
theorem d1o{op:Op}(h:b7m op=true):∃ T,op = .buildSlice T 0 #[]:=by
 unfold b7m at h
 split at h
 ·rename_i T len ps
  simp only[Bool.and_eq_true] at h
  have h1:=Nat.eq_of_beq_eq_true h.1
  have h2:ps = #[]:=Array.eq_empty_of_size_eq_zero (Nat.eq_of_beq_eq_true h.2)
  exact⟨T,by rw[h1,h2]⟩
 ·cases h
theorem e7a{o:Oper}(h:b7m o.op=true)(D:List Nat):a4k D o=true:=by
 obtain⟨T,h⟩:=d1o h
 simp[a4k,e0i,h]
theorem XOk.put{P:Program}{X:List (Nat×Oper)}{e:XE}(h:XOk P X a e)(hda:a.defers=[]){d:Option Nat}{x:Value}(hd:d≠some e.d)(hu:∀ t,d=some t→a4k [t] e.o=true):XOk P X (a.put d x) e :=
 ⟨h.mem,h.dst,by rw[a2x,if_neg (fun q=>hd q.1),a5i];exact h.val,h.run.imp (fun hr=>⟨hr.1,fun w=>by
  cases d with
  | none=>exact hr.2 w
  | some t =>
   have hA:a8s [t] (a.put (some t) x) a:=⟨a5i a _ x,by rw[a7u];exact hda,hda,fun u hu=>by rw[a2x,if_neg (fun q=>hu (by simpa using q.1.symm))]⟩
   rw[hA.exec (hu t rfl)]
   exact hr.2 w⟩) id⟩
theorem e2j(h:Inv c G s a w){o:Oper}{t:Operand}{i:Nat}(hop:o.op = .extract t i)(hc:b8t s o.op=true):∃ x,∀ w',(execOp a.eval o).run c.P w' = .ok (.value x) w':=by
 rw[hop] at hc
 simp only[b8t] at hc
 split at hc
 ·rename_i vs hv
  have hx:=a0p h t
  rw[hv] at hx
  obtain⟨l,h1,h2⟩:=hx
  have hlt:i<l.length:=by rw[←h2.length];exact Nat.le_of_ble_eq_true hc
  refine⟨l[i],fun w'=>?_⟩
  have h3:l[i]?=some l[i]:=List.getElem?_eq_getElem hlt
  simp[execOp,hop,Instr.extract,h1,h3]
 ·cases hc
theorem e0a{E:Env}{o:Oper}{K:a0c→Prop}{t:Operand}{i d:Nat}(hop:o.op = .extract t i)(hd:o.dst=some d)(hr:a7g E o K s) :
  ∃ vs v,s.eval t = .tup vs∧vs[i]?=some v∧d1m v (K (s.put (some d) v)):=by
 have h1:a8n E s o=[]:=by
  unfold a8n
  rw[hop]
  split<;>rfl
 have h2:bop E s o=none:=by
  unfold bop
  rw[hd,hop]
  simp only
  split<;>rfl
 have h3:eop E s o=none:=by unfold eop;rw[hop]
 have h4:oop E s o=none:=by unfold oop;rw[hop]
 have h6:sop E s o=none:=by unfold sop;rw[hd,hop]
 have h7:nop E s o=none:=by unfold nop;rw[hop]
 unfold a7g at hr
 split at hr
 ·exact hr.elim
 simp only[h1,List.foldl_nil,h6,h2,h3,h4,h7] at hr
 split at hr
 ·rename_i vc v ob hq
  unfold qop at hq
  rw[hop] at hq
  simp only at hq
  split at hq
  ·rename_i vs hv
   split at hq
   ·rename_i u hu
    simp only[Option.some.injEq,Prod.mk.injEq] at hq
    obtain⟨rfl,rfl,rfl⟩:=hq
    refine⟨vs,u,hv,hu,?_⟩
    simpa [Vc.and,hop,d7a,hd,a0c.lay] using hr
   ·cases hq
  ·cases hq
 ·exact hr.elim
theorem e2k(h:Inv c G s a w){o:Oper}{t:Operand}{i:Nat}(hop:o.op = .extract t i){vs:List AV}{v:AV}(h1:s.eval t = .tup vs)(h2:vs[i]?=some v){x:Value}(hx:(execOp a.eval o).run c.P w = .ok (.value x) w):VR c G s.look w v x:=by
 have hv:=a0p h t
 rw[h1] at hv
 obtain⟨l,k1,k2⟩:=hv
 obtain⟨y,k3,k4⟩:=k2.at_ i v h2
 have:(execOp a.eval o).run c.P w = .ok (.value y) w:=by simp[execOp,hop,Instr.extract,k1,k3]
 rw[this] at hx
 simp only[Result.ok.injEq,Next.value.injEq,and_true] at hx
 subst hx
 cases v<;>first|exact k4|exact k4.elim|trivial
theorem e4o{E:Env}{o:Oper}{K:a0c→Prop}{d:Nat}(hn:b7m o.op=true)(ha:b1f E o=true)(hd:o.dst=some d)(hr:a7g E o K s) :
  ∃ τ,K (s.put (some d) (.imm ⟨.slice τ,[]⟩)):=by
 obtain⟨T,hop⟩:=d1o hn
 unfold b1f at ha
 simp only[hop,hd] at ha
 split at ha
 ·rename_i d' τ r hd' hT
  simp only[Option.some.injEq] at hd'
  subst hd'
  have ha:Nat.blt d 400000=true∧E.ro.contains d=true∧E.own.contains d=false:=by
   have ha:(Nat.blt d 400000&&(E.ro.contains d && !E.own.contains d))=true:=ha
   simp only[Bool.and_eq_true,Bool.not_eq_true'] at ha
   exact⟨ha.1,ha.2.1,ha.2.2⟩
  obtain⟨h4,hro,hown⟩:=ha
  have h1:a8n E s o=[]:=by
   unfold a8n
   simp only[hd,hown,hop]
   simp
  have h2:bop E s o=none:=by
   unfold bop
   simp only[hd,hown]
  have h3:eop E s o=none:=by unfold eop;rw[hop]
  have h4':oop E s o=none:=by unfold oop;rw[hop]
  have h6:sop E s o=none:=by unfold sop;rw[hd,hop]
  have h7:nop E s o=none:=by unfold nop;rw[hop]
  obtain⟨r1,r2⟩:=r
  have h8:qop E s.look s.eval o=some (.none, .imm ⟨.slice τ,[]⟩,none):=by
   unfold qop
   rw[hop]
   simp only[hd,hT,hro]
   rfl
  unfold a7g at hr
  simp only[h1,List.foldl_nil,h6,h2,h3,h4',h7,h8,Vc.and,hop,d7a,hd,b3a,h4] at hr
  exact⟨τ,hr⟩
 ·simp at ha
theorem e3x(hE:a0r c.P c.E)(h:Inv c G s a w){a2:Act}{o:Oper}{d:Nat}(hn:b7m o.op=true)(ha:b1f c.E o=true)(hd:o.dst=some d) :
  ∃ w' x,(execOp a2.eval o).run c.P w = .ok (.value x) w'∧Inv c G s a w'∧(∃ p,x = .slice p 0 0)∧a1p (fun _=>False) w w':=by
 obtain⟨T,hop⟩:=d1o hn
 unfold b1f at ha
 simp only[hop,hd] at ha
 split at ha
 ·rename_i d' τ r hd' hT
  obtain⟨r1,r2⟩:=r
  obtain⟨k1,_,inf,z,k2,k3,k4,k5,k6⟩:=hE.slice hT
  refine⟨w.alloc (.cells #[] r2), .slice (some ⟨w.heap.size,0,none⟩) 0 0,?_,h.alloc _,⟨_,rfl⟩,a5m w _⟩
  have hz:(Array.range 0).map (fun _=>(default:Value)) = #[]:=by apply Array.eq_empty_of_size_eq_zero;simp
  simp[execOp,hop,Instr.buildSlice,run_underlying k1,sizeOf,typeInfo,k2,Instr.fill,newRow,hz]
 ·simp at ha
theorem a9v{X:List (Nat×Oper)}{x:Nat×Oper}{t:Nat}(hx:x∈X)(ha:a2g x.2.op=true)(hd:x.2.dst=some t):t∈b2p X :=
 List.mem_filterMap.2 ⟨x,hx,by simp[ha,hd]⟩
theorem e1q{E:Env}{anc:List Nat}{n:Nat}{R:List (Nat×Oper)}{K:a0c→Prop}{s:a0c}:a5z E anc n R [] K s=K s:=by cases n<;>rfl
theorem d0b{E:Env}{anc:List Nat}{n:Nat}{R:List (Nat×Oper)}{x:Nat×Oper}{xs:List (Nat×Oper)}{K:a0c→Prop}{s:a0c}(h:a5z E anc n R (x::xs) K s) :
  ∃ m,e1m anc (x::xs) s=true∧(((a4k (a8x (R.filter fun r => !Nat.testBit (anc.getD x.1 0) r.1)++b2p xs) x.2&&xs.all fun y=>a2g y.2.op||Nat.testBit (anc.getD y.1 0) x.1)=true ∧
    a7g E x.2 (fun s'=>a5v E (R.filter fun r => !Nat.testBit (anc.getD x.1 0) r.1) s' (a5z E anc m (R.filter fun r => !Nat.testBit (anc.getD x.1 0) r.1) xs K s')) s) ∨
   (a2g x.2.op=false∧b9k (d5j anc (x::xs)) (fun y=>match a4k (a8x (R.filter fun r => !Nat.testBit (anc.getD y.1 0) r.1)++b2p ((x::xs).filter fun z => !Nat.beq z.1 y.1)) y.2 with
      | true=>a7g E y.2 (fun s'=>a5v E (R.filter fun r => !Nat.testBit (anc.getD y.1 0) r.1) s' (a5z E anc m (R.filter fun r => !Nat.testBit (anc.getD y.1 0) r.1) ((x::xs).filter fun z => !Nat.beq z.1 y.1) K s')) s
      | false=>False) (x::xs))):=by
 cases n with
 | zero=>exact h.elim
 | succ n =>
  simp only[a5z] at h
  refine⟨n,?_⟩
  split at h
  ·rename_i h1
   refine⟨h1,?_⟩
   split at h
   ·rename_i h2
    exact .inl ⟨h2,h⟩
   ·split at h
    ·exact h.elim
    ·rename_i h3
     exact .inr ⟨h3,h⟩
  ·exact h.elim
theorem d8x{E:Env}{anc:List Nat}{n:Nat}{R:List (Nat×Oper)}{x:Nat×Oper}{xs:List (Nat×Oper)}{K:a0c→Prop}{s:a0c}(hz:a2g x.2.op=true)(h:a5z E anc n R (x::xs) K s) :
  ∃ m,a7g E x.2 (fun s'=>a5v E (R.filter fun r => !Nat.testBit (anc.getD x.1 0) r.1) s' (a5z E anc m (R.filter fun r => !Nat.testBit (anc.getD x.1 0) r.1) xs K s')) s:=by
 obtain⟨m,_,h|h⟩:=d0b h
 ·exact⟨m,h.2⟩
 ·rw[hz] at h;cases h.1
theorem c2u{p:Nat×Oper→Bool}{f:Nat×Oper→Prop}:∀ {l:List (Nat×Oper)},b9k p f l→∀ y∈l,p y=true→f y
 | [],_,y,hy,_=>by cases hy
 | x::l,h,y,hy,hp=>by
  unfold b9k at h
  split at h
  ·rcases List.mem_cons.1 hy with rfl|hy
   ·exact h.1
   ·exact c2u h.2 y hy hp
  ·rename_i h0
   rcases List.mem_cons.1 hy with rfl|hy
   ·rw[hp] at h0;cases h0
   ·exact c2u h y hy hp
theorem e4i{a b:Nat}:Nat.beq a b=false↔a≠b:=by
 constructor
 ·intro h e
  subst e
  rw[Nat.beq_refl] at h
  cases h
 ·intro h
  cases hb:Nat.beq a b
  ·rfl
  ·exact absurd (Nat.eq_of_beq_eq_true hb) h
theorem d8o{x:Nat×Oper}{xs:List (Nat×Oper)}(h:x.1∉xs.map (·.1)):((x::xs).filter fun z => !Nat.beq z.1 x.1)=xs:=by
 rw[List.filter_cons,if_neg (by simp)]
 refine List.filter_eq_self.2 fun z hz=>?_
 have:z.1≠x.1:=fun e=>h (List.mem_map.2 ⟨z,hz,e⟩)
 rw[e4i.2 this];rfl
theorem e1a{i:Nat}{o:Oper}:∀ {X:List (Nat×Oper)},(i,o)∈X→(X.map (·.1)).Nodup→(X.filter fun z => !Nat.beq z.1 i).length+1=X.length
 | [],h,_=>by cases h
 | x::xs,h,hn=>by
  simp only[List.map_cons,List.nodup_cons] at hn
  rcases List.mem_cons.1 h with e|h
  ·subst e
   rw[d8o (x:=(i,o)) hn.1];rfl
  ·have hne:x.1≠i:=fun e=>hn.1 (List.mem_map.2 ⟨_,h,e.symm⟩)
   rw[List.filter_cons,if_pos (by rw[e4i.2 hne];rfl),List.length_cons,List.length_cons,e1a h hn.2]
theorem e6b{E:Env}{anc:List Nat}{n:Nat}{R X:List (Nat×Oper)}{y:Nat×Oper}{K:a0c→Prop}{s:a0c}(h:a5z E anc n R X K s)(hy:y∈X)(hnd:(X.map (·.1)).Nodup)(hc:d5j anc X y=true)
  (hh:∀ x xs,X=x::xs→a2g x.2.op=true→Nat.testBit (anc.getD y.1 0) x.1=false) :
  ∃ m,a4k (a8x (R.filter fun r => !Nat.testBit (anc.getD y.1 0) r.1)++b2p (X.filter fun z => !Nat.beq z.1 y.1)) y.2=true ∧
   a7g E y.2 (fun s'=>a5v E (R.filter fun r => !Nat.testBit (anc.getD y.1 0) r.1) s' (a5z E anc m (R.filter fun r => !Nat.testBit (anc.getD y.1 0) r.1) (X.filter fun z => !Nat.beq z.1 y.1) K s')) s:=by
 match X,hy,hnd,hc,hh,h with
 | x::xs,hy,hnd,hc,hh,h =>
  obtain⟨m,_,h|h⟩:=d0b h
  ·obtain⟨h1,h2⟩:=h
   simp only[Bool.and_eq_true,List.all_eq_true,Bool.or_eq_true] at h1
   have e:y=x:=by
    rcases List.mem_cons.1 hy with e|hy
    ·exact e
    ·simp only[d5j,Bool.and_eq_true,Bool.not_eq_true',List.all_eq_true,Bool.or_eq_true] at hc
     rcases h1.2 y hy with q|q
     ·rw[hc.1] at q;cases q
     ·rcases hc.2 x (by simp) with k|k
      ·rw[hh x xs rfl k] at q;cases q
      ·rw[k] at q;cases q
   subst e
   simp only[List.map_cons,List.nodup_cons] at hnd
   rw[d8o hnd.1]
   exact⟨m,h1.1,h2⟩
  ·have:=c2u h.2 y hy hc
   split at this
   ·rename_i hu
    exact⟨m,hu,this⟩
   ·exact this.elim
theorem e4h(hE:a0r c.P c.E){ops:Array Oper}{hi:Nat}{Seg:List (Nat×Oper)}(hback:a8h ops.toList=true)(hhi:hi≤ops.size)
  (hchain:∀ j o,hi≤j→ops.toList[j]?=some o→∀ k,k<hi→Nat.testBit ((a0u ops.toList []).getD j 0) k=true)
  (hguard:∀ x∈Seg,x.2.guard=none) (halloc:∀ x∈Seg,b1f c.E x.2=true) (hext:∀ x∈Seg,a7w x.2.op=true→a4k (a8x (Seg.filter fun y => !Nat.testBit ((a0u ops.toList []).getD x.1 0) y.1)++b2p Seg) x.2=true) (hdist:∀ x∈Seg,∀ y∈Seg,∀ t,x.2.dst=some t→y.2.dst=some t→x.1=y.1) {K:a0c→Prop} {Q':Exit→Act→World→Prop}
  (hend:∀ (fuel:Nat) (G:Gh) (s:a0c) (a:Act) (w:World) (listed:Array Bool),ops.size=hi+fuel→listed.size=ops.size→(∀ k,k<ops.size→(listed.getD k false=true↔k<hi))→Inv c G s a w→K s→wpAny c.P .any ops Q' fuel listed a w) :
  ∀ (N fuel:Nat) (Rc X:List (Nat×Oper)) (R:List Nat) (PL:List PE) (SL:List XE) (G:Gh) (t:a0c) (a b:Act) (w:World) (listed:Array Bool),fuel+X.length≤N→fuel+PL.length+SL.length=R.length+X.length+(ops.size - hi)→listed.size=ops.size →
   (∀ i∈R,i<hi∧∃ o,ops.toList[i]?=some o∧(i,o)∈Rc∧(i,o)∈Seg∧a9i (a0u ops.toList []) Seg (i,o)=true∧a4k (a8x (Seg.filter fun y => !Nat.testBit ((a0u ops.toList []).getD i 0) y.1)) o=true)→(∀ x∈X,x.1<hi∧ops.toList[x.1]?=some x.2∧x∈Seg)→R.Nodup→(X.map (·.1)).Nodup→(∀ i∈R,∀ x∈X,i≠x.1) →
   (PL.map PE.i++SL.map XE.i).Nodup→(PL.map PE.b).Nodup→(∀ p∈PL,b9q c G t.look X a w p)→(∀ e∈SL,XOk c.P X a e) →
   (∀ k,k<ops.size→(listed.getD k false=true↔k<hi∧k∉R∧((∀ x∈X,x.1≠k)∨k∈PL.map PE.i++SL.map XE.i)))→(∀ k,k<ops.size→listed.getD k false=true→∀ o,ops.toList[k]?=some o→∀ e∈o.after.toList,Region.binds .any e=true→listed.getD e.on false=true) →
   Inv c G t b w→a8s (R.filterMap (a1f ops.toList)++(PL.map PE.d++SL.map XE.d)) a b→(∀ i∈R,∀ o,ops.toList[i]?=some o→∃ d vc,o.dst=some d∧rop c.E t o=some (vc,t.slots.getD d .any)∧Vc.ok vc) →
   ∀ n,a5z c.E (a0u ops.toList []) n Rc X K t→wpAny c.P .any ops Q' fuel listed a w:=by
 intro N
 induction N with
 | zero =>
  intro fuel Rc X R PL SL G t a b w listed hN hf hsz hR hX hRn hXn hRX hPi hPb hPL hSL hl hcl hI hA hs nn hK
  have h2:X=[]:=List.eq_nil_of_length_eq_zero (by omega)
  subst h2
  have h3:PL=[]:=by
   cases PL with
   | nil=>rfl
   | cons p PL=>obtain⟨o,T,τ,r,hm,_⟩:=(hPL p (by simp)).ex;cases hm
  subst h3
  have h4:SL=[]:=by
   cases SL with
   | nil=>rfl
   | cons p SL=>have hm:=(hSL p (by simp)).mem;cases hm
  subst h4
  have h1:R=[]:=List.eq_nil_of_length_eq_zero (by simp at hf;omega)
  subst h1
  have hab:a=b:=a8s.eq (by simpa using hA)
  subst hab
  exact hend fuel G t a w listed (by simp at hf;omega) hsz (fun k hk=>by rw[hl k hk];simp) hI (by rw[e1q] at hK;exact hK)
 | succ N ih =>
  intro fuel Rc X R PL SL G t a b w listed hN hf hsz hR hX hRn hXn hRX hPi hPb hPL hSL hl hcl hI hA hs nn hK
  by_cases hdone:R=[]∧X=[]
  ·obtain⟨rfl,rfl⟩:=hdone
   have h3:PL=[]:=by
    cases PL with
    | nil=>rfl
    | cons p PL=>obtain⟨o,T,τ,r,hm,_⟩:=(hPL p (by simp)).ex;cases hm
   subst h3
   have h4:SL=[]:=by
    cases SL with
    | nil=>rfl
    | cons p SL=>have hm:=(hSL p (by simp)).mem;cases hm
   subst h4
   have hab:a=b:=a8s.eq (by simpa using hA)
   subst hab
   exact hend fuel G t a w listed (by simp at hf;omega) hsz (fun k hk=>by rw[hl k hk];simp) hI (by rw[e1q] at hK;exact hK)
  have hancL:∀ i o,i<ops.size→ops.toList[i]?=some o→listed.getD i false=true→∀ k,Nat.testBit ((a0u ops.toList []).getD i 0) k=true→listed.getD k false=true∧k<ops.size:=fun i o hi ho hli k hk =>
   c1o (l:=ops.toList) (D:=fun k=>listed.getD k false=true∧k<ops.size) (fun k hk o' ho' e he hb=>⟨hcl k hk.2 hk.1 o' ho' e he hb,by
    have:=a1e hback k o' ho' e he hb;have:=hk.2;omega⟩) i o ho (fun e he hb=>⟨hcl i hi hli o ho e he hb,by
    have:=a1e hback i o ho e he hb;omega⟩) k hk
  by_cases hadopt:∃ x0 xs p,X=x0::xs∧p∈PL∧p.i=x0.1
  ·obtain⟨x0,xs,p,rfl,hp,hpi⟩:=hadopt
   obtain⟨o,T,τ,r,hm,hop,hod,hT,hcs⟩:=(hPL p hp).ex
   have hx0:x0=(p.i,o):=by
    have h1:=(hX x0 (by simp)).2.1
    have h2:=(hX _ hm).2.1
    rw[←hpi,h2] at h1
    simp only[Option.some.injEq] at h1
    rw[h1,hpi]
   subst hx0
   obtain⟨mm,hK⟩:=d8x (by simp[a2g,b0h,hop]) hK
   rw[e2o hop hod hT,←hcs] at hK
   obtain⟨k1,k2⟩:=a9j hK.2
   have hPX:=hX _ hm
   have hlp:listed.getD p.i false=true:=(hl p.i (by have:=hPX.1;simp only at this;omega)).2 ⟨hPX.1,fun q=>hRX _ q _ hm rfl, .inr (List.mem_append.2 (.inl (List.mem_map.2 ⟨p,hp,rfl⟩)))⟩
   have hin:∀ j∈R,∃ o',ops.toList[j]?=some o'∧(j,o')∈Rc.filter fun r => !Nat.testBit ((a0u ops.toList []).getD p.i 0) r.1:=fun j hj=>by
    obtain⟨q1,o',q2,q3,_,_⟩:=hR j hj
    refine⟨o',q2,List.mem_filter.2 ⟨q3,?_⟩⟩
    simp only[Bool.not_eq_true']
    cases hb:Nat.testBit ((a0u ops.toList []).getD p.i 0) j with
    | false=>rfl
    | true=>exact absurd hj ((hl j (by omega)).1 (hancL p.i o (by have:=hPX.1;simp only at this;omega) hPX.2.1 hlp j hb).1).2.1
   have hnin:∀ q∈PL.erase p,q∈PL∧q.i≠p.i∧q.b≠p.b:=fun q hq=>by
    have hmem:=List.mem_of_mem_erase hq
    have hperm:=List.perm_cons_erase hp
    have n1:=(hperm.map PE.i).nodup_iff.1 (List.nodup_append.1 hPi).1
    have n2:=(hperm.map PE.b).nodup_iff.1 hPb
    simp only[List.map_cons,List.nodup_cons] at n1 n2
    exact⟨hmem,fun e=>n1.1 (List.mem_map.2 ⟨q,hq,e⟩),fun e=>n2.1 (List.mem_map.2 ⟨q,hq,e⟩)⟩
   have hplen:(PL.erase p).length+1=PL.length:=by
    have:=List.length_erase_of_mem hp
    have:=List.length_pos_of_mem hp
    omega
   simp only[List.map_cons,List.nodup_cons] at hXn
   refine ih fuel _ xs R (PL.erase p) SL _ _ a (b.put (some p.d) p.x) w listed (by simp at hN;omega) (by simp at hf;omega) hsz (fun j hj=>?_) (fun y hy=>hX y (by simp[hy])) hRn hXn.2 (fun j hj y hy=>hRX j hj y (by simp[hy])) ?_ ?_ (fun q hq=>?_) (fun e he=>?_) (fun k hk=>?_) hcl (e4x hI (hPL p hp)) ?_ (fun j hj o' ho'=>?_) _ k2
   ·obtain⟨q1,o',q2,q3,q4,q7⟩:=hR j hj
    obtain⟨o2,q5,q6⟩:=hin j hj
    have e:o'=o2:=by rw[q2] at q5;simpa using q5
    subst e
    exact⟨q1,o',q2,q6,q4,q7⟩
   ·exact hPi.sublist ((List.Sublist.map _ List.erase_sublist).append (List.Sublist.refl _))
   ·exact hPb.sublist (List.Sublist.map _ List.erase_sublist)
   ·obtain⟨hq1,hq2,hq3⟩:=hnin q hq
    obtain⟨o2,T2,τ2,r2,m1,m2,m3,m4,m5⟩:=(hPL q hq1).ex
    refine⟨⟨o2,T2,τ2,r2,?_,m2,m3,m4,m5⟩,(hPL q hq1).val,(hPL q hq1).ptr,(hPL q hq1).lt,(hPL q hq1).new,e4w (hPL p hp) (hPL q hq1).fr hq3⟩
    rcases List.mem_cons.1 m1 with e|m1
    ·simp only[Prod.mk.injEq] at e;exact absurd e.1 hq2
    ·exact m1
   ·have h3:=hSL e he
    refine⟨?_,h3.dst,h3.val,h3.run⟩
    rcases List.mem_cons.1 h3.mem with q|q
    ·simp only[Prod.mk.injEq] at q
     rcases h3.run with ⟨q',_⟩|⟨q',_⟩<;>(rw[q.2,hop] at q';cases q')
    ·exact q
   ·rw[hl k hk]
    constructor
    ·rintro⟨q1,q2,q3⟩
     refine⟨q1,q2,?_⟩
     by_cases hkp:k=p.i
     ·subst hkp
      exact .inl fun y hy e=>hXn.1 (List.mem_map.2 ⟨y,hy,e⟩)
     ·rcases q3 with q3|q3
      ·exact .inl fun y hy=>q3 y (by simp[hy])
      ·rcases List.mem_append.1 q3 with q3|q3
       ·obtain⟨q,hq,rfl⟩:=List.mem_map.1 q3
        exact .inr (List.mem_append.2 (.inl (List.mem_map.2 ⟨q,(List.mem_erase_of_ne (fun e=>hkp (by rw[e]))).2 hq,rfl⟩)))
       ·exact .inr (List.mem_append.2 (.inr q3))
    ·rintro⟨q1,q2,q3⟩
     refine⟨q1,q2,?_⟩
     by_cases hkp:k=p.i
     ·subst hkp
      exact .inr (List.mem_append.2 (.inl (List.mem_map.2 ⟨p,hp,rfl⟩)))
     ·rcases q3 with q3|q3
      ·refine .inl fun y hy=>?_
       rcases List.mem_cons.1 hy with rfl|hy
       ·exact fun e=>hkp e.symm
       ·exact q3 y hy
      ·rcases List.mem_append.1 q3 with q3|q3
       ·obtain⟨q,hq,rfl⟩:=List.mem_map.1 q3
        exact .inr (List.mem_append.2 (.inl (List.mem_map.2 ⟨q,List.mem_of_mem_erase hq,rfl⟩)))
       ·exact .inr (List.mem_append.2 (.inr q3))
   ·refine⟨by rw[a5i];exact hA.size,hA.da,by rw[a7u];exact hA.db,fun u hu=>?_⟩
    by_cases hud:u=p.d
    ·subst hud
     rw[(hPL p hp).val,a2x,←hA.size]
     by_cases hlt:p.d<a.tmps.size
     ·rw[if_pos hlt,if_pos ⟨rfl,hlt⟩]
     ·rw[if_neg hlt,if_neg (fun q=>hlt q.2),Array.getD_eq_getD_getElem?,Array.getElem?_eq_none (by rw[←hA.size];omega)];rfl
    ·rw[a2x,if_neg (fun q=>hud (by simpa using q.1.symm))]
     refine hA.at' u fun hm=>hu ?_
     rcases List.mem_append.1 hm with hm|hm
     ·exact List.mem_append.2 (.inl hm)
     ·rcases List.mem_append.1 hm with hm|hm
      ·obtain⟨q,hq,rfl⟩:=List.mem_map.1 hm
       exact List.mem_append.2 (.inr (List.mem_append.2 (.inl (List.mem_map.2 ⟨q,(List.mem_erase_of_ne (fun e=>hud (by rw[e]))).2 hq,rfl⟩))))
      ·exact List.mem_append.2 (.inr (List.mem_append.2 (.inr hm)))
   ·obtain⟨o2,q5,q6⟩:=hin j hj
    rw[q5] at ho'
    simp only[Option.some.injEq] at ho'
    subst ho'
    exact k1 (j,o2) q6
  by_cases hadopt2:∃ x0 xs e,X=x0::xs∧e∈SL∧e.i=x0.1
  ·obtain⟨x0,xs,e,rfl,he,hei⟩:=hadopt2
   have hE3:=hSL e he
   have hx0:x0=(e.i,e.o):=by
    have h1:=(hX x0 (by simp)).2.1
    have h2:=(hX _ hE3.mem).2.1
    rw[←hei,h2] at h1
    simp only[Option.some.injEq] at h1
    rw[h1,hei]
   subst hx0
   obtain⟨mm,hK⟩:=d8x hE3.lz hK
   have hPX:=hX _ hE3.mem
   have hlp:listed.getD e.i false=true:=(hl e.i (by have:=hPX.1;simp only at this;omega)).2 ⟨hPX.1,fun q=>hRX _ q _ hE3.mem rfl, .inr (List.mem_append.2 (.inr (List.mem_map.2 ⟨e,he,rfl⟩)))⟩
   have hancE:=hancL e.i e.o (by have:=hPX.1;simp only at this;omega) hPX.2.1 hlp
   have hin:∀ j∈R,∃ o',ops.toList[j]?=some o'∧(j,o')∈Rc.filter fun r => !Nat.testBit ((a0u ops.toList []).getD e.i 0) r.1:=fun j hj=>by
    obtain⟨q1,o',q2,q3,_,_⟩:=hR j hj
    refine⟨o',q2,List.mem_filter.2 ⟨q3,?_⟩⟩
    simp only[Bool.not_eq_true']
    cases hb:Nat.testBit ((a0u ops.toList []).getD e.i 0) j with
    | false=>rfl
    | true=>exact absurd hj ((hl j (by omega)).1 (hancE j hb).1).2.1
   have hDu:∀ u,u∈R.filterMap (a1f ops.toList)++(PL.map PE.d++SL.map XE.d)→u∈a8x (Seg.filter fun y => !Nat.testBit ((a0u ops.toList []).getD e.i 0) y.1)++b2p Seg:=fun u hu=>by
    rcases List.mem_append.1 hu with hu|hu
    ·obtain⟨j,hj,hjd⟩:=List.mem_filterMap.1 hu
     obtain⟨q1,o',q2,_,q3,_⟩:=hR j hj
     refine List.mem_append.2 (.inl (a5n.2 ⟨(j,o'),List.mem_filter.2 ⟨q3,?_⟩,by simpa [a1f,q2] using hjd⟩))
     simp only[Bool.not_eq_true']
     cases hb:Nat.testBit ((a0u ops.toList []).getD e.i 0) j with
     | false=>rfl
     | true=>exact absurd hj ((hl j (by omega)).1 (hancE j hb).1).2.1
    ·rcases List.mem_append.1 hu with hu|hu
     ·obtain⟨p,hp,rfl⟩:=List.mem_map.1 hu
      obtain⟨o2,T,τ,r,hm,hop2,hod,_⟩:=(hPL p hp).ex
      exact List.mem_append.2 (.inr (a9v (hX _ hm).2.2 (by simp[a2g,b0h,hop2]) hod))
     ·obtain⟨q,hq,rfl⟩:=List.mem_map.1 hu
      exact List.mem_append.2 (.inr (a9v (hX _ (hSL q hq).mem).2.2 (hSL q hq).lz (hSL q hq).dst))
   obtain⟨v,hvr,hK⟩:∃ v,VR c G t.look w v e.x∧a5v c.E (Rc.filter fun r => !Nat.testBit ((a0u ops.toList []).getD e.i 0) r.1) (t.put (some e.d) v) (a5z c.E (a0u ops.toList []) mm (Rc.filter fun r => !Nat.testBit ((a0u ops.toList []).getD e.i 0) r.1) xs K (t.put (some e.d) v)):=by
    rcases hE3.run with ⟨hx,hr⟩|⟨hx,p,hp⟩
    ·obtain⟨tt,ix,hop⟩:∃ tt ix,e.o.op = .extract tt ix:=by
      have:=hx
      unfold a7w at this
      split at this
      ·exact⟨_,_,by assumption⟩
      ·cases this
     obtain⟨vs,v,hv1,hv2,hK⟩:=e0a hop hE3.dst hK
     have hrun:=hr w
     rw[hA.exec (b0l (hext _ hPX.2.2 hx) hDu)] at hrun
     have hvr:=e2k hI hop hv1 hv2 hrun
     exact⟨v,hvr,c6o hvr hK⟩
    ·obtain⟨τ,hK⟩:=e4o hx (halloc _ hPX.2.2) hE3.dst hK
     refine⟨_,?_,hK⟩
     rw[hp]
     exact⟨p,0,rfl,Nat.le_refl _,by simp[maxLen],by simp, .inl rfl⟩
   obtain⟨k1,k2⟩:=a9j hK
   have hnin:∀ q∈SL.erase e,q∈SL∧q.i≠e.i:=fun q hq=>by
    have hmem:=List.mem_of_mem_erase hq
    have hperm:=List.perm_cons_erase he
    have n1:=(hperm.map XE.i).nodup_iff.1 (List.nodup_append.1 hPi).2.1
    simp only[List.map_cons,List.nodup_cons] at n1
    exact⟨hmem,fun q'=>n1.1 (List.mem_map.2 ⟨q,hq,q'⟩)⟩
   have hplen:(SL.erase e).length+1=SL.length:=by
    have:=List.length_erase_of_mem he
    have:=List.length_pos_of_mem he
    omega
   simp only[List.map_cons,List.nodup_cons] at hXn
   refine ih fuel _ xs R PL (SL.erase e) _ _ a (b.put (some e.d) e.x) w listed (by simp at hN;omega) (by simp at hf;omega) hsz (fun j hj=>?_) (fun y hy=>hX y (by simp[hy])) hRn hXn.2 (fun j hj y hy=>hRX j hj y (by simp[hy])) ?_ hPb (fun q hq=>?_) (fun q hq=>?_) (fun k hk=>?_) hcl (Inv.put (d:=some e.d) hI hvr) ?_ (fun j hj o' ho'=>?_) _ k2
   ·obtain⟨q1,o',q2,q3,q4,q7⟩:=hR j hj
    obtain⟨o2,q5,q6⟩:=hin j hj
    have e:o'=o2:=by rw[q2] at q5;simpa using q5
    subst e
    exact⟨q1,o',q2,q6,q4,q7⟩
   ·exact hPi.sublist ((List.Sublist.refl _).append (List.Sublist.map _ List.erase_sublist))
   ·obtain⟨o2,T2,τ2,r2,m1,m2,m3,m4,m5⟩:=(hPL q hq).ex
    refine⟨⟨o2,T2,τ2,r2,?_,m2,m3,m4,m5⟩,(hPL q hq).val,(hPL q hq).ptr,(hPL q hq).lt,(hPL q hq).new,(hPL q hq).fr⟩
    rcases List.mem_cons.1 m1 with e'|m1
    ·simp only[Prod.mk.injEq] at e'
     rcases hE3.run with ⟨q',_⟩|⟨q',_⟩<;>(rw[←e'.2,m2] at q';cases q')
    ·exact m1
   ·obtain⟨hq1,hq2⟩:=hnin q hq
    have h3:=hSL q hq1
    refine⟨?_,h3.dst,h3.val,h3.run⟩
    rcases List.mem_cons.1 h3.mem with e'|e'
    ·simp only[Prod.mk.injEq] at e';exact absurd e'.1 hq2
    ·exact e'
   ·rw[hl k hk]
    constructor
    ·rintro⟨q1,q2,q3⟩
     refine⟨q1,q2,?_⟩
     by_cases hkp:k=e.i
     ·subst hkp
      exact .inl fun y hy e=>hXn.1 (List.mem_map.2 ⟨y,hy,e⟩)
     ·rcases q3 with q3|q3
      ·exact .inl fun y hy=>q3 y (by simp[hy])
      ·rcases List.mem_append.1 q3 with q3|q3
       ·exact .inr (List.mem_append.2 (.inl q3))
       ·obtain⟨q,hq,rfl⟩:=List.mem_map.1 q3
        exact .inr (List.mem_append.2 (.inr (List.mem_map.2 ⟨q,(List.mem_erase_of_ne (fun e=>hkp (by rw[e]))).2 hq,rfl⟩)))
    ·rintro⟨q1,q2,q3⟩
     refine⟨q1,q2,?_⟩
     by_cases hkp:k=e.i
     ·subst hkp
      exact .inr (List.mem_append.2 (.inr (List.mem_map.2 ⟨e,he,rfl⟩)))
     ·rcases q3 with q3|q3
      ·refine .inl fun y hy=>?_
       rcases List.mem_cons.1 hy with rfl|hy
       ·exact fun e=>hkp e.symm
       ·exact q3 y hy
      ·rcases List.mem_append.1 q3 with q3|q3
       ·exact .inr (List.mem_append.2 (.inl q3))
       ·obtain⟨q,hq,rfl⟩:=List.mem_map.1 q3
        exact .inr (List.mem_append.2 (.inr (List.mem_map.2 ⟨q,List.mem_of_mem_erase hq,rfl⟩)))
   ·refine⟨by rw[a5i];exact hA.size,hA.da,by rw[a7u];exact hA.db,fun u hu=>?_⟩
    by_cases hud:u=e.d
    ·subst hud
     rw[hE3.val,a2x,←hA.size]
     by_cases hlt:e.d<a.tmps.size
     ·rw[if_pos hlt,if_pos ⟨rfl,hlt⟩]
     ·rw[if_neg hlt,if_neg (fun q=>hlt q.2),Array.getD_eq_getD_getElem?,Array.getElem?_eq_none (by rw[←hA.size];omega)];rfl
    ·rw[a2x,if_neg (fun q=>hud (by simpa using q.1.symm))]
     refine hA.at' u fun hm=>hu ?_
     rcases List.mem_append.1 hm with hm|hm
     ·exact List.mem_append.2 (.inl hm)
     ·rcases List.mem_append.1 hm with hm|hm
      ·exact List.mem_append.2 (.inr (List.mem_append.2 (.inl hm)))
      ·obtain⟨q,hq,rfl⟩:=List.mem_map.1 hm
       exact List.mem_append.2 (.inr (List.mem_append.2 (.inr (List.mem_map.2 ⟨q,(List.mem_erase_of_ne (fun e=>hud (by rw[e]))).2 hq,rfl⟩))))
   ·obtain⟨o2,q5,q6⟩:=hin j hj
    rw[q5] at ho'
    simp only[Option.some.injEq] at ho'
    subst ho'
    exact k1 (j,o2) q6
  have hPlt:∀ p∈PL,∃ x∈X,x.1=p.i:=fun p hp=>by
   obtain⟨o,T,τ,r,hm,_⟩:=(hPL p hp).ex
   exact⟨_,hm,rfl⟩
  have hSlt:∀ p∈SL,∃ x∈X,x.1=p.i:=fun p hp=>⟨_,(hSL p hp).mem,rfl⟩
  have hun:∃ k,k<hi∧¬ (listed.getD k false=true):=by
   rcases R with _|⟨i,R⟩
   ·rcases X with _|⟨x,X⟩
    ·exact absurd ⟨rfl,rfl⟩ hdone
    ·have:=(hX x (by simp)).1
     refine⟨x.1,this,fun hh=>((hl x.1 (by omega)).1 hh).2.2.elim (fun q=>q x (by simp) rfl) fun q=>?_⟩
     rcases List.mem_append.1 q with q|q
     ·obtain⟨p,hp,e⟩:=List.mem_map.1 q
      exact hadopt ⟨x,X,p,rfl,hp,e⟩
     ·obtain⟨p,hp,e⟩:=List.mem_map.1 q
      exact hadopt2 ⟨x,X,p,rfl,hp,e⟩
   ·have:=(hR i (by simp)).1
    exact⟨i,this,fun hh=>((hl i (by omega)).1 hh).2.1 (by simp)⟩
  have hpos:PL.length+SL.length<R.length+X.length:=by
   rcases R with _|⟨i,R⟩
   ·rcases X with _|⟨x,X⟩
    ·exact absurd ⟨rfl,rfl⟩ hdone
    ·have hsub:(PL.map PE.i++SL.map XE.i) ⊆ X.map (·.1):=fun k hk=>by
      rcases List.mem_append.1 hk with hk|hk
      ·obtain⟨p,hp,rfl⟩:=List.mem_map.1 hk
       obtain⟨y,hy,e⟩:=hPlt p hp
       rcases List.mem_cons.1 hy with rfl|hy
       ·exact absurd ⟨_,_,p,rfl,hp,e.symm⟩ hadopt
       ·exact List.mem_map.2 ⟨y,hy,e⟩
      ·obtain⟨p,hp,rfl⟩:=List.mem_map.1 hk
       obtain⟨y,hy,e⟩:=hSlt p hp
       rcases List.mem_cons.1 hy with rfl|hy
       ·exact absurd ⟨_,_,p,rfl,hp,e.symm⟩ hadopt2
       ·exact List.mem_map.2 ⟨y,hy,e⟩
     have:=List.Nodup.length_le_of_subset hPi hsub
     simp at this ⊢;omega
   ·have hsub:(PL.map PE.i++SL.map XE.i) ⊆ X.map (·.1):=fun k hk=>by
     rcases List.mem_append.1 hk with hk|hk
     ·obtain⟨p,hp,rfl⟩:=List.mem_map.1 hk
      obtain⟨y,hy,e⟩:=hPlt p hp
      exact List.mem_map.2 ⟨y,hy,e⟩
     ·obtain⟨p,hp,rfl⟩:=List.mem_map.1 hk
      obtain⟨y,hy,e⟩:=hSlt p hp
      exact List.mem_map.2 ⟨y,hy,e⟩
    have:=List.Nodup.length_le_of_subset hPi hsub
    simp at this ⊢;omega
  obtain⟨fuel,rfl⟩:∃ f,fuel=f+1:=⟨fuel - 1,by omega⟩
  obtain⟨k1,hk1⟩:=hun
  obtain⟨k0,⟨hk0m,hk0⟩,hmin⟩:=e0z (p:=fun k=>k<hi∧¬ (listed.getD k false=true)) k1 hk1
  have hk0o:ops[k0]?=some (ops[k0]'(by omega)):=Array.getElem?_eq_getElem (by omega)
  constructor
  ·intro hnil
   have:k0∈Region.ready .any ops listed:=(a4h hsz).2 ⟨_,hk0o,by
    cases hb:listed.getD k0 false with
    | false=>rfl
    | true=>exact absurd hb hk0,fun e he hb=>by
    have hlt:=a1e hback k0 ops[k0] (by simp) e he hb
    exact Classical.byContradiction fun hh=>hmin e.on hlt ⟨by omega,hh⟩⟩
   rw[hnil] at this
   cases this
  ·intro i hi'
   obtain⟨o,hio,h1,h2⟩:=(a4h hsz).1 hi'
   have hilt:=(Array.getElem?_eq_some_iff.1 hio).1
   have hio':ops.toList[i]?=some o:=by simpa using hio
   have hanc:=c1o (l:=ops.toList) (D:=fun k=>listed.getD k false=true∧k<ops.size) (fun k hk o' ho' e he hb=>⟨hcl k hk.2 hk.1 o' ho' e he hb,by
    have:=a1e hback k o' ho' e he hb;have:=hk.2;omega⟩) i o hio' (fun e he hb=>⟨h2 e he hb,by
    have:=a1e hback i o hio' e he hb;omega⟩)
   have him:i<hi:=by
    rcases Nat.lt_or_ge i hi with h|h
    ·exact h
    ·exact absurd (hanc k0 (hchain i o h hio' k0 hk0m)).1 hk0
   have hset:∀ k,(listed.setIfInBounds i true).getD k false=true↔listed.getD k false=true∨k=i:=fun k=>b5b (by omega)
   have hcl':∀ k,k<ops.size→(listed.setIfInBounds i true).getD k false=true→∀ o,ops.toList[k]?=some o→∀ e∈o.after.toList,Region.binds .any e=true→(listed.setIfInBounds i true).getD e.on false=true:=by
    intro k hk hkl o' ho' e he hb
    rw[hset] at hkl ⊢
    rcases hkl with hkl|rfl
    ·exact .inl (hcl k hk hkl o' ho' e he hb)
    ·rw[hio'] at ho'
     simp only[Option.some.injEq] at ho'
     subst ho'
     exact .inl (h2 e he hb)
   have hnot0:¬ (listed.getD i false=true):=by rw[h1];simp
   have hnot:=hnot0
   rw[hl i hilt] at hnot
   have hXi:i∉R→∃ x∈X,x.1=i:=fun hiR=>Classical.byContradiction fun hh=>hnot ⟨him,hiR, .inl fun x hx e=>hh ⟨x,hx,e⟩⟩
   have hPi':∀ p∈PL,p.i≠i:=fun p hp e=>by
    obtain⟨x,hx,hxe⟩:=hPlt p hp
    exact hnot ⟨him,fun q=>hRX i q x hx (by rw[hxe,e]), .inr (List.mem_append.2 (.inl (List.mem_map.2 ⟨p,hp,e⟩)))⟩
   have hSi':∀ p∈SL,p.i≠i:=fun p hp e=>by
    obtain⟨x,hx,hxe⟩:=hSlt p hp
    exact hnot ⟨him,fun q=>hRX i q x hx (by rw[hxe,e]), .inr (List.mem_append.2 (.inr (List.mem_map.2 ⟨p,hp,e⟩)))⟩
   have hSeg:(i,o)∈Seg:=by
    by_cases hiR:i∈R
    ·obtain⟨_,o',ho',_,hm,_⟩:=hR i hiR
     rw[hio'] at ho'
     simp only[Option.some.injEq] at ho'
     subst ho'
     exact hm
    ·obtain⟨x,hx,hxi⟩:=hXi hiR
     have:=(hX x hx).2.1
     rw[hxi,hio'] at this
     simp only[Option.some.injEq] at this
     have e:x=(i,o):=by rw[←hxi,this]
     rw[←e]
     exact (hX x hx).2.2
   have hg:o.guard=none:=hguard _ hSeg
   have hPd:∀ p∈PL,o.dst≠some p.d:=fun p hp e=>by
    obtain⟨o2,T,τ,r,hm,hop,hod,_⟩:=(hPL p hp).ex
    have hsg:=(hX _ hm).2.2
    exact hPi' p hp (hdist _ hsg _ hSeg p.d hod e)
   have hSd:∀ p∈SL,o.dst≠some p.d:=fun p hp e=>hSi' p hp (hdist _ (hX _ (hSL p hp).mem).2.2 _ hSeg p.d (hSL p hp).dst e)
   have hSu:∀ p∈SL,∀ t,o.dst=some t→a4k [t] p.o=true:=fun p hp t ht=>by
    have hm:=hX _ (hSL p hp).mem
    have hlp:listed.getD p.i false=true:=(hl p.i (by have:=hm.1;simp only at this;omega)).2 ⟨hm.1,fun q=>hRX _ q _ (hSL p hp).mem rfl, .inr (List.mem_append.2 (.inr (List.mem_map.2 ⟨p,hp,rfl⟩)))⟩
    rcases (hSL p hp).run with ⟨hex,_⟩|⟨hnl,_⟩
    rotate_left
    ·exact e7a hnl _
    refine b0l (hext _ hm.2.2 hex) fun u hu=>?_
    simp only[List.mem_singleton] at hu
    subst hu
    refine List.mem_append.2 (.inl (a5n.2 ⟨_,List.mem_filter.2 ⟨hSeg,?_⟩,ht⟩))
    simp only[Bool.not_eq_true']
    cases hb:Nat.testBit ((a0u ops.toList []).getD p.i 0) i with
    | false=>rfl
    | true=>exact absurd (hancL p.i p.o (by have:=hm.1;simp only at this;omega) hm.2.1 hlp i hb).1 hnot0
   have hw:Region.wanted o (yielded ops a.tmps)=true:=by simp[Region.wanted,hg]
   unfold wpOp
   simp only[hio]
   rw[if_pos hw]
   refine .inl ?_
   by_cases hiR:i∈R
   ·
    obtain⟨_,o',ho',hmem,_,hrd,hu⟩:=hR i hiR
    rw[hio'] at ho'
    simp only[Option.some.injEq] at ho'
    subst ho'
    obtain⟨d,vc,hd,hr,hvc⟩:=hs i hiR o hio'
    obtain⟨x,hx,hvx⟩:=d9e hE hI hr hvc
    have hu:a4k (R.filterMap (a1f ops.toList)++(PL.map PE.d++SL.map XE.d)) o=true:=b0l hu fun t ht=>by
     rcases List.mem_append.1 ht with ht|ht
     ·obtain⟨j,hj,hjd⟩:=List.mem_filterMap.1 ht
      obtain⟨q1,o',q2,_,q3,_⟩:=hR j hj
      refine a5n.2 ⟨(j,o'),List.mem_filter.2 ⟨q3,?_⟩,by simpa [a1f,q2] using hjd⟩
      simp only[Bool.not_eq_true']
      cases hb:Nat.testBit ((a0u ops.toList []).getD i 0) j with
      | false=>rfl
      | true=>exact absurd hj ((hl j (by omega)).1 (hanc j hb).1).2.1
     ·obtain⟨zi,zo,hm,hlz,hod⟩:∃ zi zo,(zi,zo)∈X∧a2g zo.op=true∧zo.dst=some t:=by
       rcases List.mem_append.1 ht with ht|ht
       ·obtain⟨p,hp,rfl⟩:=List.mem_map.1 ht
        obtain⟨o2,T,τ,r,hm,hop,hod,_⟩:=(hPL p hp).ex
        exact⟨_,o2,hm,by simp[a2g,b0h,hop],hod⟩
       ·obtain⟨p,hp,rfl⟩:=List.mem_map.1 ht
        exact⟨_,p.o,(hSL p hp).mem,(hSL p hp).lz,(hSL p hp).dst⟩
      have hsg:=(hX _ hm).2.2
      by_cases hb:Nat.testBit ((a0u ops.toList []).getD i 0) zi=true
      ·simp only[a9i,Bool.and_eq_true,List.all_eq_true,Bool.or_eq_true,Bool.not_eq_true'] at hrd
       rcases hrd.2 _ hsg with q|q
       ·rw[c5i q] at hlz;cases hlz
       ·rw[hb] at q;cases q
      ·exact a5n.2 ⟨_,List.mem_filter.2 ⟨hsg,by simpa using hb⟩,hod⟩
    unfold Oper.wp
    rw[hA.exec hu,hx]
    show wpAny c.P .any ops Q' fuel _ (a.put o.dst x) w
    have hfl:(R.erase i).length+1=R.length:=by
     have:=List.length_erase_of_mem hiR
     have:=List.length_pos_of_mem hiR
     omega
    have hsub:∀ t,t∈(R.erase i).filterMap (a1f ops.toList)→t∈R.filterMap (a1f ops.toList):=fun t ht=>by
     obtain⟨q,hq,hqd⟩:=List.mem_filterMap.1 ht
     exact List.mem_filterMap.2 ⟨q,List.mem_of_mem_erase hq,hqd⟩
    refine ih fuel Rc X (R.erase i) PL SL G t (a.put o.dst x) (b.put o.dst x) w _ (by omega) (by omega) (by rw[Array.size_setIfInBounds];exact hsz) (fun j hj=>?_) hX (hRn.erase i) hXn (fun j hj=>hRX j (List.mem_of_mem_erase hj)) hPi hPb (fun p hp=>(hPL p hp).put (hPd p hp)) (fun e he=>(hSL e he).put hA.da (hSd e he) (hSu e he)) (fun k hk=>?_) hcl' (by rw[hd];exact e8k hI hvx) (hA.put fun q hq hq'=>?_) (fun j hj=>hs j (List.mem_of_mem_erase hj)) _ hK
    ·exact hR j (List.mem_of_mem_erase hj)
    ·rw[hset,hl k hk,hRn.mem_erase_iff]
     constructor
     ·rintro (⟨q1,q2,q3⟩|rfl)
      ·exact⟨q1,fun q=>q2 q.2,q3⟩
      ·exact⟨him,fun q=>q.1 rfl, .inl fun x hx=>(hRX _ hiR x hx).symm⟩
     ·rintro⟨q1,q2,q3⟩
      by_cases hki:k=i
      ·exact .inr hki
      ·exact .inl ⟨q1,fun q=>q2 ⟨hki,q⟩,q3⟩
    ·rcases List.mem_append.1 hq with hq|hq
     ·obtain⟨j,hj,hjd⟩:=List.mem_filterMap.1 hq
      by_cases hji:j=i
      ·subst hji
       rw[←hjd]
       simp[a1f,hio']
      ·exact absurd (List.mem_append.2 (.inl (List.mem_filterMap.2 ⟨j,hRn.mem_erase_iff.2 ⟨hji,hj⟩,hjd⟩))) hq'
     ·exact absurd (List.mem_append.2 (.inr hq)) hq'
   ·obtain⟨x,hx,hxi⟩:=hXi hiR
    have hxo:x=(i,o):=by
     have:=(hX x hx).2.1
     rw[hxi,hio'] at this
     simp only[Option.some.injEq] at this
     rw[←hxi,this]
    subst hxo
    have hZ:∀ b,(∃ p∈PL,p.b=b)→FrB c G t.look w b:=fun b ⟨p,hp,e⟩=>e ▸ (hPL p hp).fr
    by_cases hal:b0h o.op=true
    ·
     have hao:=halloc _ hSeg
     obtain⟨T,hop⟩:∃ T,o.op = .alloc T:=by
      unfold b0h at hal
      split at hal
      ·exact⟨_,by assumption⟩
      ·cases hal
     unfold b1f at hao
     simp only[hop,Bool.and_eq_true,Option.isSome_iff_exists] at hao
     obtain⟨⟨d,hd⟩,hd4,⟨⟨τ,r⟩,hT⟩⟩:=hao
     simp only[hd,b3a,Nat.blt_eq] at hd4
     obtain⟨w',p,hpi,hpd,hpb,hrun,hI',hpo,hkp⟩:=e2i hE hI (a2:=a) hop hd hT hd4 hx
     unfold Oper.wp
     rw[hrun]
     show wpAny c.P .any ops Q' fuel _ (a.put o.dst p.x) w'
     rw[hd]
     refine ih fuel Rc X R (p::PL) SL G t (a.put (some d) p.x) b w' _ (by omega) (by simp;omega) (by rw[Array.size_setIfInBounds];exact hsz) hR hX hRn hXn hRX ?_ ?_ (fun q hq=>?_) (fun e he=>(hSL e he).put hA.da (by rw[←hd];exact hSd e he) (by rw[←hd];exact hSu e he)) (fun k hk=>?_) hcl' hI' ?_ hs _ hK
     ·simp only[List.map_cons,List.cons_append,List.nodup_cons]
      refine⟨fun hm=>?_,hPi⟩
      rcases List.mem_append.1 hm with hm|hm
      ·obtain⟨q,hq,e⟩:=List.mem_map.1 hm
       exact hPi' q hq (by rw[e,hpi])
      ·obtain⟨q,hq,e⟩:=List.mem_map.1 hm
       exact hSi' q hq (by rw[e,hpi])
     ·simp only[List.map_cons,List.nodup_cons]
      refine⟨fun hm=>?_,hPb⟩
      obtain⟨q,hq,e⟩:=List.mem_map.1 hm
      have:=(hPL q hq).fr.2.2.1
      rw[e,hpb] at this
      exact Nat.lt_irrefl _ this
     ·rcases List.mem_cons.1 hq with rfl|hq
      ·exact hpo
      ·have h3:=(hPL q hq).put (d:=some d) (x:=p.x) (by rw[←hd];exact hPd q hq)
       have hlt:=h3.fr.2.2.1
       refine⟨h3.ex,h3.val,h3.ptr,h3.lt,?_,h3.fr.grow hkp.size⟩
       obtain⟨l,ty,q1,q2⟩:=h3.new
       exact⟨l,ty,by rw[hkp.block q.b hlt (fun h=>h)];exact q1,q2⟩
     ·rw[hset,hl k hk,List.map_cons,List.cons_append,List.mem_cons,hpi]
      constructor
      ·rintro (⟨q1,q2,q3⟩|rfl)
       ·exact⟨q1,q2,q3.imp id .inr⟩
       ·exact⟨him,hiR, .inr (.inl rfl)⟩
      ·rintro⟨q1,q2,q3⟩
       by_cases hki:k=i
       ·exact .inr hki
       ·exact .inl ⟨q1,q2,q3.imp id fun q=>q.resolve_left hki⟩
     ·refine⟨by rw[a5i];exact hA.size,by rw[a7u];exact hA.da,hA.db,fun u hu=>?_⟩
      simp only[List.map_cons,List.cons_append,List.mem_append,List.mem_cons,hpd] at hu
      rw[a2x,if_neg (fun q=>hu (.inr (.inl (by simpa using q.1.symm))))]
      exact hA.at' u fun hm=>hu ((List.mem_append.1 hm).imp id fun q => .inr (List.mem_append.1 q))
    by_cases hex:a7w o.op=true
    ·
     obtain⟨tt,ix,hop⟩:∃ tt ix,o.op = .extract tt ix:=by
      have:=hex
      unfold a7w at this
      split at this
      ·exact⟨_,_,by assumption⟩
      ·cases this
     have hcan:b8t t o.op=true:=by
      obtain⟨x0,xs,rfl⟩:∃ x0 xs,X=x0::xs:=by
       cases X with
       | nil=>cases hx
       | cons x0 xs=>exact⟨x0,xs,rfl⟩
      obtain⟨_,h3,_⟩:=d0b hK
      unfold e1m at h3
      rw[List.all_eq_true] at h3
      have h4:=h3 _ hx
      rw[Bool.or_eq_true] at h4
      rcases h4 with h4|h4
      ·exact h4
      ·rw[List.any_eq_true] at h4
       obtain⟨y,hy,h4⟩:=h4
       rw[Bool.and_eq_true,Bool.not_eq_true'] at h4
       have h5:=(hanc y.1 h4.2).1
       have h6:=(hX y hy).1
       rcases ((hl y.1 (by omega)).1 h5).2.2 with h7|h7
       ·exact absurd rfl (h7 y hy)
       ·have hyl:a2g y.2.op=true:=by
         have e0:=(hX y hy).2.1
         rcases List.mem_append.1 h7 with h7|h7
         ·obtain⟨p,hp,e⟩:=List.mem_map.1 h7
          obtain⟨o2,T,τ,r,hm,hop2,hod,_⟩:=(hPL p hp).ex
          have e1:=(hX _ hm).2.1
          simp only at e1
          rw[e,e0] at e1
          simp only[Option.some.injEq] at e1
          rw[e1]
          simp[a2g,b0h,hop2]
         ·obtain⟨p,hp,e⟩:=List.mem_map.1 h7
          have e1:=(hX _ (hSL p hp).mem).2.1
          simp only at e1
          rw[e,e0] at e1
          simp only[Option.some.injEq] at e1
          rw[e1]
          simp[(hSL p hp).lz]
        rw[hyl] at h4
        exact absurd h4.1 (by simp)
     obtain⟨x,hrun⟩:=e2j hI hop hcan
     have hao:=hext _ hSeg hex
     obtain⟨d,hd⟩:∃ d,o.dst=some d:=by
      have:=halloc _ hSeg
      simp only[b1f,hop,Option.isSome_iff_exists] at this
      exact this
     have hDu:∀ u,u∈R.filterMap (a1f ops.toList)++(PL.map PE.d++SL.map XE.d)→u∈a8x (Seg.filter fun y => !Nat.testBit ((a0u ops.toList []).getD i 0) y.1)++b2p Seg:=fun u hu=>by
      rcases List.mem_append.1 hu with hu|hu
      ·obtain⟨j,hj,hjd⟩:=List.mem_filterMap.1 hu
       obtain⟨q1,o',q2,_,q3,_⟩:=hR j hj
       refine List.mem_append.2 (.inl (a5n.2 ⟨(j,o'),List.mem_filter.2 ⟨q3,?_⟩,by simpa [a1f,q2] using hjd⟩))
       simp only[Bool.not_eq_true']
       cases hb:Nat.testBit ((a0u ops.toList []).getD i 0) j with
       | false=>rfl
       | true=>exact absurd hj ((hl j (by omega)).1 (hanc j hb).1).2.1
      ·rcases List.mem_append.1 hu with hu|hu
       ·obtain⟨p,hp,rfl⟩:=List.mem_map.1 hu
        obtain⟨o2,T,τ,r,hm,hop2,hod,_⟩:=(hPL p hp).ex
        exact List.mem_append.2 (.inr (a9v (hX _ hm).2.2 (by simp[a2g,b0h,hop2]) hod))
       ·obtain⟨q,hq,rfl⟩:=List.mem_map.1 hu
        exact List.mem_append.2 (.inr (a9v (hX _ (hSL q hq).mem).2.2 (hSL q hq).lz (hSL q hq).dst))
     have hrun2:∀ w',(execOp a.eval o).run c.P w' = .ok (.value x) w':=fun w'=>by
      rw[hA.exec (b0l hao hDu)]
      exact hrun w'
     have hself:a4k [d] o=true:=b0l hao fun u hu=>by
      simp only[List.mem_singleton] at hu
      subst hu
      exact List.mem_append.2 (.inr (a9v hSeg (by simp[a2g,hex]) hd))
     unfold Oper.wp
     rw[hrun2 w]
     show wpAny c.P .any ops Q' fuel _ (a.put o.dst x) w
     rw[hd]
     refine ih fuel Rc X R PL (⟨i,d,x,o⟩::SL) G t (a.put (some d) x) b w _ (by omega) (by simp;omega) (by rw[Array.size_setIfInBounds];exact hsz) hR hX hRn hXn hRX ?_ hPb (fun q hq=>(hPL q hq).put (by rw[←hd];exact hPd q hq)) (fun e he=>?_) (fun k hk=>?_) hcl' hI ?_ hs _ hK
     ·rw[List.map_cons]
      refine (List.perm_middle.nodup_iff).2 (List.nodup_cons.2 ⟨fun hm=>?_,hPi⟩)
      rcases List.mem_append.1 hm with hm|hm
      ·obtain⟨q,hq,e⟩:=List.mem_map.1 hm
       exact hPi' q hq e
      ·obtain⟨q,hq,e⟩:=List.mem_map.1 hm
       exact hSi' q hq e
     ·rcases List.mem_cons.1 he with rfl|he
      ·refine⟨hx,hd,?_, .inl ⟨hex,fun w'=>?_⟩⟩
       ·simp only[a2x,a5i,true_and]
        split
        ·rfl
        ·rename_i hlt
         first|rfl|(rw[Array.getD_eq_getD_getElem?,Array.getElem?_eq_none (by omega)];rfl)
       ·have hA':a8s [d] (a.put (some d) x) a:=⟨a5i a _ x,by rw[a7u];exact hA.da,hA.da,fun u hu=>by rw[a2x,if_neg (fun q=>hu (by simpa using q.1.symm))]⟩
        show (execOp (a.put (some d) x).eval o).run c.P w'=_
        rw[hA'.exec hself]
        exact hrun2 w'
      ·exact (hSL e he).put hA.da (by rw[←hd];exact hSd e he) (by rw[←hd];exact hSu e he)
     ·rw[hset,hl k hk,List.map_cons]
      constructor
      ·rintro (⟨q1,q2,q3⟩|rfl)
       ·refine⟨q1,q2,q3.imp (fun q=>q) fun q=>?_⟩
        rcases List.mem_append.1 q with q|q
        ·exact List.mem_append.2 (.inl q)
        ·exact List.mem_append.2 (.inr (List.mem_cons_of_mem _ q))
       ·exact⟨him,hiR, .inr (List.mem_append.2 (.inr (List.mem_cons_self ..)))⟩
      ·rintro⟨q1,q2,q3⟩
       by_cases hki:k=i
       ·exact .inr hki
       ·refine .inl ⟨q1,q2,q3.imp (fun q=>q) fun q=>?_⟩
        rcases List.mem_append.1 q with q|q
        ·exact List.mem_append.2 (.inl q)
        ·exact List.mem_append.2 (.inr ((List.mem_cons.1 q).resolve_left hki))
     ·refine⟨by rw[a5i];exact hA.size,by rw[a7u];exact hA.da,hA.db,fun u hu=>?_⟩
      simp only[List.map_cons,List.mem_append,List.mem_cons] at hu
      rw[a2x,if_neg (fun q=>hu (.inr (.inr (.inl (by simpa using q.1.symm)))))]
      exact hA.at' u fun hm=>hu ((List.mem_append.1 hm).imp (fun q=>q) fun q=>(List.mem_append.1 q).imp (fun q=>q) .inr)
    by_cases hnl:b7m o.op=true
    ·
     have hao:=halloc _ hSeg
     obtain⟨d,hd⟩:∃ d,o.dst=some d:=by
      obtain⟨T,hop⟩:=d1o hnl
      unfold b1f at hao
      rw[hop] at hao
      cases hd:o.dst with
      | some d=>exact⟨d,rfl⟩
      | none=>rw[hd] at hao;simp at hao
     obtain⟨w',x,hrun,hI',hxv,hkp⟩:=e3x hE hI (a2:=a) hnl hao hd
     unfold Oper.wp
     rw[hrun]
     show wpAny c.P .any ops Q' fuel _ (a.put o.dst x) w'
     rw[hd]
     refine ih fuel Rc X R PL (⟨i,d,x,o⟩::SL) G t (a.put (some d) x) b w' _ (by omega) (by simp;omega) (by rw[Array.size_setIfInBounds];exact hsz) hR hX hRn hXn hRX ?_ hPb (fun q hq=>?_) (fun e he=>?_) (fun k hk=>?_) hcl' hI' ?_ hs _ hK
     ·rw[List.map_cons]
      refine (List.perm_middle.nodup_iff).2 (List.nodup_cons.2 ⟨fun hm=>?_,hPi⟩)
      rcases List.mem_append.1 hm with hm|hm
      ·obtain⟨q,hq,e⟩:=List.mem_map.1 hm
       exact hPi' q hq e
      ·obtain⟨q,hq,e⟩:=List.mem_map.1 hm
       exact hSi' q hq e
     ·have h3:=(hPL q hq).put (d:=some d) (x:=x) (by rw[←hd];exact hPd q hq)
      have hlt:=h3.fr.2.2.1
      refine⟨h3.ex,h3.val,h3.ptr,h3.lt,?_,h3.fr.grow hkp.size⟩
      obtain⟨l,ty,q1,q2⟩:=h3.new
      exact⟨l,ty,by rw[hkp.block q.b hlt (fun h=>h)];exact q1,q2⟩
     ·rcases List.mem_cons.1 he with rfl|he
      ·refine⟨hx,hd,?_, .inr ⟨hnl,hxv⟩⟩
       simp only[a2x,a5i,true_and]
       split
       ·rfl
       ·rename_i hlt
        first|rfl|(rw[Array.getD_eq_getD_getElem?,Array.getElem?_eq_none (by omega)];rfl)
      ·exact (hSL e he).put hA.da (by rw[←hd];exact hSd e he) (by rw[←hd];exact hSu e he)
     ·rw[hset,hl k hk,List.map_cons]
      constructor
      ·rintro (⟨q1,q2,q3⟩|rfl)
       ·refine⟨q1,q2,q3.imp (fun q=>q) fun q=>?_⟩
        rcases List.mem_append.1 q with q|q
        ·exact List.mem_append.2 (.inl q)
        ·exact List.mem_append.2 (.inr (List.mem_cons_of_mem _ q))
       ·exact⟨him,hiR, .inr (List.mem_append.2 (.inr (List.mem_cons_self ..)))⟩
      ·rintro⟨q1,q2,q3⟩
       by_cases hki:k=i
       ·exact .inr hki
       ·refine .inl ⟨q1,q2,q3.imp (fun q=>q) fun q=>?_⟩
        rcases List.mem_append.1 q with q|q
        ·exact List.mem_append.2 (.inl q)
        ·exact List.mem_append.2 (.inr ((List.mem_cons.1 q).resolve_left hki))
     ·refine⟨by rw[a5i];exact hA.size,by rw[a7u];exact hA.da,hA.db,fun u hu=>?_⟩
      simp only[List.map_cons,List.mem_append,List.mem_cons] at hu
      rw[a2x,if_neg (fun q=>hu (.inr (.inr (.inl (by simpa using q.1.symm)))))]
      exact hA.at' u fun hm=>hu ((List.mem_append.1 hm).imp (fun q=>q) fun q=>(List.mem_append.1 q).imp (fun q=>q) .inr)
    ·
     have hnlz:a2g o.op=false:=by
      simp only[a2g,Bool.or_eq_false_iff]
      exact⟨by simpa using hal,by simpa using hex,by simpa using hnl⟩
     have hlz:∀ z∈X,Nat.testBit ((a0u ops.toList []).getD i 0) z.1=true→a2g z.2.op=true∧z.1∈PL.map PE.i++SL.map XE.i:=fun z hz hb=>by
      have h3:=(hanc z.1 hb).1
      have h4:=(hX z hz).1
      rcases ((hl z.1 (by omega)).1 h3).2.2 with h5|h5
      ·exact absurd rfl (h5 z hz)
      ·refine⟨?_,h5⟩
       have e0:=(hX z hz).2.1
       rcases List.mem_append.1 h5 with h7|h7
       ·obtain⟨p,hp,e⟩:=List.mem_map.1 h7
        obtain⟨o2,T,τ,r,hm,hop2,hod,_⟩:=(hPL p hp).ex
        have e1:=(hX _ hm).2.1
        simp only at e1
        rw[e,e0] at e1
        simp only[Option.some.injEq] at e1
        rw[e1]
        simp[a2g,b0h,hop2]
       ·obtain⟨p,hp,e⟩:=List.mem_map.1 h7
        have e1:=(hX _ (hSL p hp).mem).2.1
        simp only at e1
        rw[e,e0] at e1
        simp only[Option.some.injEq] at e1
        rw[e1]
        exact (hSL p hp).lz
     obtain⟨mm,hu0,hK⟩:=e6b (y:=(i,o)) hK hx hXn (by
      simp only[d5j,hnlz,Bool.not_false,Bool.true_and,List.all_eq_true,Bool.or_eq_true,Bool.not_eq_true']
      intro z hz
      cases hb:Nat.testBit ((a0u ops.toList []).getD i 0) z.1 with
      | false=>exact .inr rfl
      | true=>exact .inl (hlz z hz hb).1) (fun x0 xs e hz=>by
      cases hb:Nat.testBit ((a0u ops.toList []).getD i 0) x0.1 with
      | false=>rfl
      | true =>
       rcases List.mem_append.1 (hlz x0 (by rw[e];simp) hb).2 with h5|h5
       ·obtain⟨p,hp,e'⟩:=List.mem_map.1 h5
        exact absurd ⟨x0,xs,p,e,hp,e'⟩ hadopt
       ·obtain⟨p,hp,e'⟩:=List.mem_map.1 h5
        exact absurd ⟨x0,xs,p,e,hp,e'⟩ hadopt2)
     have hxm:∀ z,z∈X→z.1≠i→z∈X.filter fun z => !Nat.beq z.1 i:=fun z hz hne=>List.mem_filter.2 ⟨hz,by rw[e4i.2 hne];rfl⟩
     have hxm':∀ z,z∈(X.filter fun z => !Nat.beq z.1 i)→z∈X∧z.1≠i:=fun z hz=>⟨(List.mem_filter.1 hz).1,e4i.1 (by simpa using (List.mem_filter.1 hz).2)⟩
     have hxl:(X.filter fun z => !Nat.beq z.1 i).length+1=X.length:=e1a hx hXn
     generalize hxs:(X.filter fun z => !Nat.beq z.1 i)=xs at *
     have hxn:(xs.map (·.1)).Nodup:=by rw[←hxs];exact hXn.sublist (List.Sublist.map _ List.filter_sublist)
     ·simp only at hu0 hK
      have hin:∀ j∈R,∃ o',ops.toList[j]?=some o'∧(j,o')∈Rc.filter fun r => !Nat.testBit ((a0u ops.toList []).getD i 0) r.1:=fun j hj=>by
       obtain⟨q1,o',q2,q3,_,_⟩:=hR j hj
       refine⟨o',q2,List.mem_filter.2 ⟨q3,?_⟩⟩
       simp only[Bool.not_eq_true']
       cases hb:Nat.testBit ((a0u ops.toList []).getD i 0) j with
       | false=>rfl
       | true=>exact absurd hj ((hl j (by omega)).1 (hanc j hb).1).2.1
      have hu:a4k (R.filterMap (a1f ops.toList)++(PL.map PE.d++SL.map XE.d)) o=true:=b0l hu0 fun t ht=>by
       rcases List.mem_append.1 ht with ht|ht
       ·obtain⟨j,hj,hjd⟩:=List.mem_filterMap.1 ht
        obtain⟨o',q2,q3⟩:=hin j hj
        exact List.mem_append.2 (.inl (a5n.2 ⟨(j,o'),q3,by simpa [a1f,q2] using hjd⟩))
       ·rcases List.mem_append.1 ht with ht|ht
        ·obtain⟨p,hp,rfl⟩:=List.mem_map.1 ht
         obtain⟨o2,T,τ,r,hm,hop,hod,_⟩:=(hPL p hp).ex
         exact List.mem_append.2 (.inr (a9v (hxm _ hm (hPi' p hp)) (by simp[a2g,b0h,hop]) hod))
        ·obtain⟨p,hp,rfl⟩:=List.mem_map.1 ht
         exact List.mem_append.2 (.inr (a9v (hxm _ (hSL p hp).mem (hSi' p hp)) ((hSL p hp).lz) (hSL p hp).dst))
      have hIz:=hI.fz hZ
      refine e8q (hA.exec hu) ?_ ?_ (d3c (c:=c.fz w G.S fun b=>∃ p∈PL,p.b=b) hE hIz hK (Q:=fun _ _ _=>False))
      ·rintro x w' ⟨G',s',hIz',hsr⟩
       obtain⟨hI',hkeep⟩:=hI.unfz hZ hIz'
       obtain⟨k1,k2⟩:=a9j hsr
       refine ih fuel _ xs R PL SL G' s' (a.put o.dst x) (b.put o.dst x) w' _ (by omega) (by omega) (by rw[Array.size_setIfInBounds];exact hsz) (fun j hj=>?_) (fun y hy=>hX y (hxm' y hy).1) hRn hxn (fun j hj y hy=>hRX j hj y (hxm' y hy).1) hPi hPb (fun p hp=>?_) (fun e he=>?_) (fun k hk=>?_) hcl' hI' (hA.put fun q hq hq'=>absurd hq hq') (fun j hj o' ho'=>?_) _ k2
       ·obtain⟨q1,o',q2,q3,q4,q7⟩:=hR j hj
        obtain⟨o2,q5,q6⟩:=hin j hj
        have e:o'=o2:=by rw[q2] at q5;simpa using q5
        subst e
        exact⟨q1,o',q2,q6,q4,q7⟩
       ·have h3:=(hPL p hp).put (d:=o.dst) (x:=x) (hPd p hp)
        obtain⟨e1,e2⟩:=hkeep p.b ⟨p,hp,rfl⟩
        refine⟨?_,h3.val,h3.ptr,h3.lt,?_,e2⟩
        ·obtain⟨o2,T,τ,r,hm,m2,m3,m4,m5⟩:=h3.ex
         exact⟨o2,T,τ,r,hxm _ hm (hPi' p hp),m2,m3,m4,m5⟩
        ·obtain⟨l,ty,q1,q2⟩:=h3.new
         exact⟨l,ty,by rw[e1];exact q1,q2⟩
       ·have h3:=(hSL e he).put (x:=x) hA.da (hSd e he) (hSu e he)
        exact⟨hxm _ h3.mem (hSi' e he),h3.dst,h3.val,h3.run⟩
       ·rw[hset,hl k hk]
        constructor
        ·rintro (⟨q1,q2,q3⟩|rfl)
         ·exact⟨q1,q2,q3.imp (fun q y hy=>q y (hxm' y hy).1) fun q=>q⟩
         ·exact⟨him,hiR, .inl fun y hy e=>(hxm' y hy).2 e⟩
        ·rintro⟨q1,q2,q3⟩
         by_cases hki:k=i
         ·exact .inr hki
         ·refine .inl ⟨q1,q2,q3.imp (fun q y hy=>?_) fun q=>q⟩
          by_cases e:y.1=i
          ·rw[e];exact Ne.symm hki
          ·exact q y (hxm y hy e)
       ·obtain⟨o2,q5,q6⟩:=hin j hj
        rw[q5] at ho'
        simp only[Option.some.injEq] at ho'
        subst ho'
        exact k1 (j,o2) q6
      ·rintro b' w' ⟨G',s',hI',_⟩
       exact hI'.defers
end
end Go.Proofs.YtmdefiphdgcijaaDoor

/- VmEff, VmTree, VmMark, VmOwnOps, VmBuild, VmBuild2, VmSt, VmStep, VmDraw, VmDraw2. -/
import Derived.Test.YtofnjfpeimhifaaGreatDoorVmOps
import Derived.Eval
set_option linter.all false
namespace Go.Proofs.YtofnjfpeimhifaaGreatDoor
def a9h:=@List.getD_eq_getElem?_getD
def b1w:=@Array.eq_empty_of_size_eq_zero
def b3v:=@Go.setRow_heap
def b2M:=@Nat.min_eq_left
def b1c:=@List.drop_eq_nil_of_le
def b1x:=@List.length_set
def b2t:=@List.size_toArray
def b0p:=@List.map_append
def b0x:=@Go.Value.tuple.injEq
def b2z:=@List.toArray_inj
def a9s:=@List.nodup_append
def a9X:=@List.cons_append
def b0c:=@List.nodup_nil
def a9z:=@List.nodup_cons
def b0r:=@List.take_append_drop
def b2A:=@List.map_set
def b1E:=@List.set_append_right
def b0B:=@Bool.or_eq_true
def b1t:=@Nat.lt_irrefl
def b3h:=@Array.toList_append
def b1f:=@List.mem_cons_self
def b1L:=@Classical.byContradiction
def b1U:=@List.nodup_range
def b1y:=@List.Nodup.length_le_of_subset
def b0v:=@Go.Oper.wp_mono
def b1g:=@List.getElem?_eq_none
def b1b:=@Option.getD_some
def b0C:=@List.foldl_cons
def b1h:=@List.foldl_append
def b1F:=@List.singleton_append
def b0V:=@List.length_erase_of_mem
def b1d:=@List.length_pos_of_mem
theorem Ee(f:av->av):∀ (l:List (Nat×av)) (j:Nat),af (l.map λ p=>(p.1,f p.2)) j=(af l j).map f
 | [],_=>rfl
 | (k,o)::r,j=>by
  simp only[a9x,af];split
  .rfl
  .exact Ee f r j
theorem dZ(id:Nat):∀ (l:List (Nat×av)) (j:Nat),af (bB id l) j=if j=id then none else af l j
 | [],_=>by simp[bB,af]
 | (k,o)::r,j=>by
  simp only[bB];split
  .rename_i h;have h:=a8W h;subst h;rw[dZ k r j];by_cases hj:j=k
   .simp[hj]
   .rw[a9c hj,a9c hj];simp only[af];split
    .rename_i h;exact absurd (a8W h).symm hj
    .rfl
  .rename_i h;have hk:k≠id:=λ e=>by subst e;simp at h
   simp only[af];split
   .rename_i h';have h':=a8W h';subst h';rw[a9c hk]
   .exact dZ id r j
theorem dn(k:Nat)(o:av)(l:List (Nat×av))(j:Nat):af ((k,o)::l) j=if j=k then some o else af l j:=by
 simp only[af];split
 .rename_i h;rw[a9l (a8W h).symm]
 .rename_i h;have:j≠k:=λ e=>by subst e;simp at h
  rw[a9c this]
theorem oI(l:List AV)(d:Nat)(v:AV)(o:List (Nat×av)):ag.sl ⟨l.set d v,o⟩=iO l.length (ag.sl ⟨l,o⟩) (some d) v:=by
 funext i;simp only[ag.sl,iO,a9h,List.getElem?_set,a8V];by_cases h:d=i
 .subst h;by_cases hl:d<l.length
  .simp[hl]
  .simp[hl]
 .simp[h]
theorem YB(s:ag)(d:Option Nat)(v:AV):(s.put d v).sl=iO s.aw.length s.sl d v:=by
 cases d with
 | none=>funext i;simp[ag.put,iO]
 | some d=>exact oI s.aw d v s.aH
theorem R3(s:ag)(d:Option Nat)(v:AV):(s.put d v).af=s.af:=by cases d<;>rfl
theorem Md(s:ag)(d:Option Nat)(v:AV):(s.put d v).aw.length=s.aw.length:=by cases d<;>simp[ag.put]
theorem Sg(s:ag)(id:Nat):(s.bP id).sl=λ i=>(s.sl i).kill id:=by
 funext i;simp only[ag.sl,ag.bP,a9h,b0w];cases s.aw[i]?<;>simp[AV.kill,AV.refs]
theorem dQ(s:ag)(id:Nat):(s.bP id).af=λ i=>(s.af i).map (av.kill id):=by
 funext i;exact Ee _ _ _
section
variable {c:Ctx} {G:Gh} {s:ag} {a:Act} {w w':World}
theorem Inv.put(h:Inv c G s a w){d:Option Nat}{v:AV}{x:Value}(hv:VR c G s.af w v x):Inv c G (s.put d v) (a.put d x) w:=by
 unfold Inv;rw[YB,R3,Md];exact bd.put h hv
theorem Inv.clear(h:Inv c G s a w)(id:Nat):bd c G (s.bP id).sl s.aw.length (λ i=>if i=id then none else (s.bP id).af i) a w /\
  (∀ i,((s.bP id).sl i).refs id=false)/\∀ i o,(s.bP id).af i=some o->o.refs id=false:=by
 have h1:=bd.bP h id;have hs:∀ i,((s.bP id).sl i).refs id=false:=λ i=>by rw[Sg];exact AE id _
 have ho:∀ i o,(s.bP id).af i=some o->o.refs id=false:=λ i o cg=>by
  rw[dQ] at cg;simp only[a9D] at cg;obtain⟨o',_,rfl⟩:=cg;cases o' with
  | box cs=>exact DL id cs
  | row e τ xs=>rfl
  | aC τ xs=>rfl
  | map m=>rfl
 refine⟨?_,hs,ho⟩;rw[Sg,dQ];exact bd.a2L h1 id (λ i=>AE id _) (λ i o cg _=>by
  have:=ho i o (by rw[dQ];exact cg);exact this)
theorem Q3(id:Nat)(o:av):(o.kill id).refs id=false:=by
 cases o with
 | box cs=>exact DL id cs
 | row e τ xs=>rfl
 | aC τ xs=>rfl
 | map m=>rfl
theorem Inv.Yo(h:Inv c G s a w){id:Nat}{v:AV}{o:av}{x:Value}(bj:id<400000)(hN:XQ c G s.af w x o)(hL:LV (some id) v o)
  (hblk:∀ b,dk x=some b->(c.w0.heap.size<=b\/c.X b)/\¬ G.S b/\b<w.heap.size/\(∀ i o',i≠id->s.af i=some o'->dk (G.η i)≠some b)/\∀ j τ xs,s.af j=some (.aC τ xs)->b∉G.φ j) :
  Inv c ⟨G.S,λ i=>if i=id then x else G.η i,G.φ⟩ (s.lay (some id) v (some o)) (a.put (some id) x) w:=by
 obtain⟨h1,h2,h3⟩:=h.clear id;have bS:(s.lay (some id) v (some o)).af=λ i=>if i=id then some (o.kill id) else (if i=id then none else (s.bP id).af i):=by
  funext i;show af ((id,o.kill id)::bB id (s.bP id).aH) i=_;rw[dn,dZ];rfl
 have B5:(s.lay (some id) v (some o)).sl=iO s.aw.length (s.bP id).sl (some id) v:=by
  have:=oI (s.bP id).aw id v ((id,o.kill id)::bB id (s.bP id).aH);rw[show (s.bP id).aw.length=s.aw.length from by simp[ag.bP]] at this;exact this
 have hlen:(s.lay (some id) v (some o)).aw.length=s.aw.length:=by simp[ag.lay,ag.bP]
 have oU:OR c ⟨G.S,λ i=>if i=id then x else G.η i,G.φ⟩ (λ i=>if i=id then some (o.kill id) else (if i=id then none else (s.bP id).af i)) w id (o.kill id):=by
  cases o with
  | box cs =>
   obtain⟨b,l,t,k1,k2,k3⟩:=hN;refine⟨b,l,t,by simp[k1],k2,aM.dH _ (k3.imp λ u y _ hy=>?_)⟩;refine (hy.kill id).mono (λ j hj=>?_) (λ _ h=>h) (λ _ _=>rfl);have dv:j≠id:=λ e=>by subst e;rw[AE] at hj;cases hj
   simp only[a9c dv];exact⟨by rw[dQ];exact Hm id _,U⟩
  | row e τ xs =>
   obtain⟨l,k1,k2,k3⟩:=hN;exact⟨l,by simpa using k1,k2,k3⟩
  | aC τ xs=>exact hN.elim
  | map m =>
   obtain⟨b,es,clock,k1,k2,k3⟩:=hN;exact⟨b,es,clock,by simp[k1],k2,k3⟩
 have U3:cP (some (o.kill id))=false:=by
  cases o with
  | aC τ xs=>exact hN.elim
  | _=>rfl
 have h4:=bd.newObj h1 id (o.kill id) x (by simp) h2 (λ i p te=>by
  by_cases hi:i=id
  .simp[hi] at te
  .rw[a9c hi] at te;exact h3 i p te) (Q3 id o) oU U3 (.inr bj) (λ b hb=>by
  obtain⟨q1,q2,q3,q4,q5⟩:=hblk b hb;refine⟨q1,q2,q3,λ i p te=>?_,λ j τ xs hj=>?_⟩
  .by_cases hi:i=id
   .simp[hi] at te
   .rw[a9c hi,dQ] at te;simp only[a9D] at te;obtain⟨p',Tj,_⟩:=te;exact q4 i p' hi Tj
  .by_cases hi:j=id
   .simp[hi] at hj
   .rw[a9c hi,dQ] at hj;exact q5 j τ xs (iA hj))
 unfold Inv;rw[B5,bS,hlen];refine bd.put h4 ?_;cases o with
 | box cs =>
  obtain⟨i,hi,rfl⟩:=hL;simp only[a8V] at hi;subst hi;obtain⟨b,l,t,k1,k2,k3⟩:=hN;exact⟨b,by simp[k1],k1,by simp[av.kill,fw]⟩
 | row e τ xs =>
  obtain⟨i,hi,rfl⟩:=hL;simp only[a8V] at hi;subst hi;obtain⟨l,k1,k2,k3⟩:=hN;refine⟨by simp,by simp[av.kill,isRow],?_⟩;rcases k1.2 with ⟨rfl,_⟩|⟨g,cap,cur,rfl,_⟩
  .exact⟨_,_,_,rfl⟩
  .exact⟨_,_,_,rfl⟩
 | aC τ xs=>exact hN.elim
 | map m =>
  obtain⟨i,hi,rfl⟩:=hL;simp only[a8V] at hi;subst hi;obtain⟨b,es,clock,k1,k2,k3⟩:=hN;exact⟨by simp,by simp[av.kill,GZ],b,k1⟩
theorem PC(h0:Inv c G s a w){d:Option Nat}(GO:rf d=true){v:AV}{ob:Option av}{a':Act}(h:vY c G s.sl s.aw.length s.af d a w v ob a' w'):∃ G',Inv c G' (s.lay d v ob) a' w':=by
 obtain⟨x,S',rfl,hI,hx⟩:=h;cases ob with
 | none=>exact⟨_,by cases d<;>exact Inv.put (s:=s) hI hx⟩
 | some o =>
  obtain⟨hL,hN,hb⟩:=hx;have hd:∃ i,d=some i:=by cases o<;>first|exact⟨_,hL.choose_spec.1⟩|exact hL.elim
  obtain⟨i,rfl⟩:=hd;refine⟨_,Inv.Yo (s:=s) hI (a9V GO) hN hL λ b C2=>?_⟩;obtain⟨h1,h2,h3⟩:=hb b C2;have hle:=h0.aL.size;refine⟨by omega,h3,h2,λ j o' _ hj MP=>?_,λ j τ xs hj MP=>?_⟩
  .have:=(h0.place j o' b hj MP).2.2;omega
  .have:=(h0.aO.pl j τ xs b hj MP).2.2.1;omega
theorem Ux{k:IntKind}{n:Int}(h:Oy k n=true):k.min<=n/\n<=k.max:=by
 unfold Oy at h;split at h
 .rename_i m;split at h<;>have h:=a9V h<;>try (simp[IntKind.min,IntKind.max,IntKind.signed,IntKind.bits];omega)
  cases k<;>simp_all [IntKind.min,IntKind.max,IntKind.signed,IntKind.bits]<;>omega
 .rename_i m;split at h
  .have h:=a9V h;simp[IntKind.min,IntKind.max,IntKind.signed,IntKind.bits];omega
  .cases h
theorem Fh(lk:Nat->Option av)(v:Value):C1 c G lk w (H8 v) v:=by
 unfold H8;split
 .split
  .rename_i h;exact⟨rfl,rfl,Ux h⟩
  .trivial
 .exact⟨rfl,rfl⟩
 .split
  .rename_i sv _ h;have h:=a9V h;exact⟨rfl,sv,rfl,rfl,by have:sv.size=sv.data.size:=rfl;omega⟩
  .trivial
 .rfl
 .trivial
theorem aW(h:Inv c G s a w)(x:Operand):VR c G s.af w (s.eval x) (a.eval x):=by
 cases x with
 | tmp t=>exact h.aw t
 | const v =>
  simp only[ag.eval,Act.eval];unfold Uw;split
  .rename_i cs;refine⟨cs.toList,rfl,aM.dH _ ?_⟩;have:∀ l:List Value,aM (λ u y=>C1 c G s.af w (H8 u) y) l l:=by
    intro l;induction l with
    | nil=>trivial
    | cons u r ih=>exact⟨Fh _ u,ih⟩
   exact this _
  .rename_i cs;split
   .rename_i hz;have:cs = #[]:=b1w (a8W hz);subst this;exact rfl
   .trivial
  .exact (Fh _ v).ft
 | global g=>trivial
 | func f=>rfl
theorem kU{g:Nat}{Zs cs:Array Value}{t:TypeId}{fr:Nat×Nat}(w:World)(hg:w.heap[g]?=some (.cells Zs t fr))(k:Nat)(hk:k≠g):(w.setRow g cs).heap[k]?=w.heap[k]?:=setRow_other w g k cs hk
theorem AS(hE:bn c.P c.E){T:TypeId}{τ:Ty}{b e:Nat}(hT:af c.E.ty T=some (τ,b,e)){g o:Nat}{l:List Value}{t:TypeId}{x:Value}(hg:w.heap[g]?=some (.cells l.toArray t (0,0)))
  (hx:x.cells.toList.length=τ.size) (h1:∀ u∈x.cells.toList,u.oneCell'=true) (C5:o+τ.size<=l.length) :
  (Instr.storeAt T (.pointer (some ⟨g,o,none⟩)) x).run c.P w = .ok () (w.setRow g (l.take o++x.cells.toList++l.drop (o+τ.size)).toArray):=by
 have hn:¬ (x.cells.size≠τ.size):=by simpa using hx
 simp only[Instr.storeAt,Instr.sureAddr,storeVar,Sem.run_bind,Sem.run_pure,Result.andThen_ok,hE.sizeOf hT,if_neg hn];have:=run_storeCells_at c.P g o t x.cells.toList 0 l.toArray w hg (by simp at hx ⊢;omega) h1;simpa [hx] using this
theorem Rb{cs new du:List AV}{off:Nat}(h:putCells cs off new=some du):off+new.length<=cs.length/\du=cs.take off++(new++cs.drop (off+new.length)):=by
 unfold putCells at h;split at h
 .rename_i hb;simp only[a8V] at h;exact⟨a9V hb,h.symm⟩
 .cases h
theorem Inv.store(hE:bn c.P c.E)(h:Inv c G s a w){T:TypeId}{τ:Ty}{bt e:Nat}(hT:af c.E.ty T=some (τ,bt,e)){id off:Nat}{cs new du:List AV}{x p:Value}(aS:s.af id=some (.box cs))(hp:VR c G s.af w (.ptr id off) p)
  (oU:∃ v,cellsOf τ v=some new/\VR c G s.af w v x) (yM:putCells cs off new=some du) :
  ∃ w',(Instr.storeAt T p x).run c.P w = .ok () w'/\Inv c G { s with aH:=(id, .box du)::bB id s.aH } a w':=by
 obtain⟨v,hv,hx⟩:=oU;obtain⟨h1,h2,h3⟩:=xE hv hx;obtain⟨h4,rfl⟩:=Rb yM;obtain⟨b,k1,rfl,_⟩:=hp;obtain⟨b',l,t,k2,k3,k4⟩:=h.aH id _ aS;rw[k1] at k2;simp only[b1q,a8V,b0M,a9q] at k2;subst k2;have hlen:=h1.length;have Y9:=k4.length;have cz:=AS (c:=c) hE hT (o:=off) (x:=x) k3 (by omega) h2 (by omega);refine⟨_,cz,?_⟩;have B5:ag.sl { s with aH:=(id, .box (cs.take off++(new++cs.drop (off+new.length))))::bB id s.aH }=s.sl:=rfl;have bS:ag.af { s with aH:=(id, .box (cs.take off++(new++cs.drop (off+new.length))))::bB id s.aH }=λ i=>if i=id then some (.box (cs.take off++(new++cs.drop (off+new.length)))) else s.af i:=by
  funext i;show af (_::bB id s.aH) i=_;rw[dn,dZ];by_cases hi:i=id
  .simp[hi]
  .simp[hi];rfl
 unfold Inv;rw[B5,bS];have cd:∀ k,St c G.S k->(w.setRow b (l.take off++x.cells.toList++l.drop (off+τ.size)).toArray).heap[k]?=w.heap[k]?:=λ k hk=>kU w k3 k λ e=>by
  subst e;obtain⟨q1,q2,q3⟩:=h.place id _ k aS (by rw[k1];rfl);rcases hk with hk|hk
  .exact q2 hk
  .exact q1.elim (λ q=>by omega) hk.2.1
 have eY:∀ j,eb (s.af j) ((λ i=>if i=id then some (av.box (cs.take off++(new++cs.drop (off+new.length)))) else s.af i) j):=λ j=>by
  by_cases hj:j=id
  .subst hj;simp only[b0Y];exact⟨λ _=>rfl,(λ e τ xs hh=>by rw[aS] at hh;cases hh),(λ hh=>by rw[aS] at hh;cases hh),λ hh=>by rw[aS] at hh;cases hh⟩
  .simp only[a9c hj];exact eb.refl _
 refine bd.TJ h id _ _ b aS (by rw[k1];rfl) ⟨λ _=>rfl,(λ e τ xs hh=>by cases hh),(λ hh=>by cases hh),λ hh=>by cases hh⟩ rfl (λ k hk=>kU w k3 k hk) rfl rfl rfl (by simp[World.setRow]) ?_;refine⟨b,_,t,k1,b3v w b _ _ t _ k3,?_⟩;have key:aM (C1 c G s.af w) (cs.take off++(new++cs.drop (off+new.length))) (l.take off++x.cells.toList++l.drop (off+τ.size)):=by
  rw[a9B,<-h3];exact aM.append (k4.take off) (aM.append h1 (k4.drop _))
 exact key.imp λ u y _ hy=>hy.mono (λ j _=>⟨eY j,rfl⟩) (λ _ h=>h) cd
theorem PG(cur bV:List Value)(o sz N:Nat)(hv:bV.length=sz)(hN:o+sz<=N)(hc:N<=cur.length) :
  (cur.take o++bV++cur.drop (o+sz)).take N=(cur.take N).take o++bV++(cur.take N).drop (o+sz):=by
 have h1:(cur.take o++bV).length=o+sz:=by simp[hv];omega
 rw[b2y,h1,a9A (by omega),List.take_take,b2M (by omega),List.drop_take]
theorem cZ.a4x{S:Nat->Prop}{n:Nat}{d':D}{c':List Value}(hd:Rd w S d' c')(tf:c'.length=n):∀ (ds:List D) {l:List Value} (i:Nat),cZ w S ds l->(∀ d∈ds,d.size=n)->i<ds.length->cZ w S (ds.set i d') (l.take (i * n)++c'++l.drop (i * n+n))
 | [],l,i,_,_,hi=>by simp at hi
 | e::ds,l,0,h,hn,_=>by
  obtain⟨c1,r,rfl,h2,h3⟩:=h;have hc:c1.length=n:=by rw[Rd.length _ h2];exact hn _ (by simp)
  refine⟨c',r,?_,hd,h3⟩;simp only[b1W,b1a,a9L,b0t];rw[<-hc,b1l]
 | e::ds,l,i+1,h,hn,hi=>by
  obtain⟨c1,r,rfl,h2,h3⟩:=h;have hc:c1.length=n:=by rw[Rd.length _ h2];exact hn _ (by simp)
  refine⟨c1,r.take (i * n)++c'++r.drop (i * n+n),?_,h2,cZ.a4x hd tf ds i h3 (λ d hd=>hn d (by simp[hd])) (by simpa using hi)⟩;have e1:(i+1) * n=c1.length+i * n:=by rw[Nat.add_mul,hc];omega
  rw[e1,b2y,a9A (by omega),show c1.length+i * n - c1.length=i * n by omega,b2o,List.drop_append,b1c (by omega),a9L,
   show c1.length+(i * n+n) - c1.length=i * n+n by omega]
  simp
theorem Inv.ZL(hE:bn c.P c.E)(h:Inv c G s a w){T:TypeId}{τ:Ty}{bt e:Nat}(hT:af c.E.ty T=some (τ,bt,e)){id i:Nat}{e':TypeId}{xs:List τ.den}{v:AV}{y:τ.den}{x p:Value}(aS:s.af id=some (.row e' τ xs))
  (hp:VR c G s.af w (.dX id i 0) p) (hx:VR c G s.af w v x) (hy:qt (λ _=>none) τ v=some y) :
  ∃ w',(Instr.storeAt T p x).run c.P w = .ok () w'/\Inv c G { s with aH:=(id, .row e' τ (xs.set i y))::bB id s.aH } a w':=by
 obtain⟨b,n,cap,e1,Nw,QG,k1,k2,k3,rfl⟩:=hp;rw[aS] at k2;simp only[a8V,av.row.injEq] at k2;obtain⟨rfl,rfl,k2⟩:=k2;have k2:=b1V k2;subst k2;have hr:=(yh hy hx).cells;have qF:x.cells.toList.length=τ.size:=by
  have:=Rd.length _ hr;rwa [show TV.aE ⟨τ,y⟩=τ.aE y from rfl,Ty.cq] at this
 have uM:∀ u∈x.cells.toList,u.oneCell'=true:=Rd.jt (x:=y) hr;obtain⟨l,m1,m2,m3⟩:=h.aH id _ aS;have bZ:∀ d∈xs.map τ.aE,d.size=τ.size:=by
  intro d hd;obtain⟨z,_,rfl⟩:=a9b.1 hd;exact Ty.cq τ z
 have Y9:=cZ.length _ m2 bZ;simp only[a9M] at Y9;have C5:i * τ.size+τ.size<=xs.length * τ.size:=by
  have:=b0H τ.size (show i+1<=xs.length by omega);rw[a9Y] at this;omega
 rcases m1.2 with ⟨hv,_⟩|⟨g,Ot,cur,hv,_,hh,QY,WU,iG,htk⟩
 .rw[k1] at hv;cases hv
 .rw[k1] at hv;simp only[b0J,a8V,b0M,a9q] at hv;obtain⟨rfl,rfl,rfl⟩:=hv;have uI:xs.length * τ.size<=cur.toList.length:=by
   rw[a9P (xs:=cur),iG];exact b0H _ QY
  have cz:=AS (c:=c) (l:=cur.toList) hE hT (o:=i * τ.size+0) (x:=x) (by simpa using hh) qF uM (by omega);refine⟨_,cz,?_⟩;have bS:ag.af { s with aH:=(id, .row e' τ (xs.set i y))::bB id s.aH }=λ j=>if j=id then some (.row e' τ (xs.set i y)) else s.af j:=by
   funext j;show af (_::bB id s.aH) j=_;rw[dn,dZ];by_cases hj:j=id
   .simp[hj]
   .simp[hj];rfl
  unfold Inv;rw[bS];refine bd.TJ h id _ _ b aS (by rw[k1];rfl) ⟨λ hh=>(by cases hh),λ e2 je lF hh=>?_,(λ hh=>by cases hh),λ hh=>by cases hh⟩ rfl (λ k hk=>kU w hh k hk) rfl rfl rfl (by simp[World.setRow]) ?_
  .simp only[a8V,av.row.injEq] at hh;obtain⟨rfl,rfl,hh⟩:=hh;have hh:=b1V hh;subst hh;exact⟨_,_,rfl,by simp⟩
  .refine⟨(l.take (i * τ.size)++x.cells.toList++l.drop (i * τ.size+τ.size)),⟨?_, .inr ⟨b,cap,_,by simpa using k1,Nat.zero_le _,setRow_heap w b cur _ e' _ hh,by simpa using QY,WU,?_,?_⟩⟩,?_,by simpa using m3⟩
   .rw[b1x,a9i,a9i,a9W,b0h,qF,Y9];omega
   .rw[b2t,a9i,a9i,a9W,b0h,qF,<-iG,<-a9P (xs:=cur)];omega
   .simp only[b0P,b1x];rw[PG _ _ _ _ _ qF C5 uI,htk]
   .rw[List.map_set];have:=cZ.a4x hr (by rw[qF]) _ i m2 bZ (by simpa using k3);refine cZ.aL (λ _ h=>h) (λ k hk=>kU w hh k λ e=>?_) _ this;subst e;exact (h.place id _ k aS (by rw[k1];rfl)).2.1 hk
theorem Inv.Ef(hE:bn c.P c.E)(h:Inv c G s a w){T:TypeId}{κ ε:Ty}(hT:af c.E.K3 T=some (κ,ε)){id:Nat}{f:κ.den->Option ε.den}{n:Nat}(aS:s.af id=some (.map ⟨κ,ε,f,n⟩))
  {k:κ.den} {x:ε.den} {p y z:Value} (hp:VR c G s.af w (.mp id) p) (hy:dC w G.S ⟨κ,k⟩ y) (hz:dC w G.S ⟨ε,x⟩ z) (hn:n<1000000000) :
  ∃ w',(Instr.mapUpdate T p y z).run c.P w = .ok () w'/\Inv c G { s with aH:=(id, .map ⟨κ,ε,qO f k x,qN (f k) n⟩)::bB id s.aH } a w':=by
 obtain⟨kT,eT,u1,u2,u3,u4,_⟩:=hE.map hT w;obtain⟨b,es,clock,k1,k2,k3⟩:=h.aH id _ aS;have sc:∀ {τ:Ty} {q:τ.den} {v:Value},τ.key=true->dC w G.S ⟨τ,q⟩ v->nI τ q v:=λ {τ q v} hs hv=>by
  refine nI.of (w:=w) (S:=G.S) hs ?_;cases τ with
  | int _=>exact hv
  | bool=>exact hv
  | str=>exact hv
  | _=>cases hs
 obtain⟨UG,NA,m1,m2⟩:=k3.store (P:=c.P) u1 u2 k2 (zD.of u3 hy) (sc u4 hz) hn;obtain⟨QZ,_⟩:=hp;refine⟨_,by rw[QZ,k1];exact m1,?_⟩;have bS:ag.af { s with aH:=(id, .map ⟨κ,ε,qO f k x,qN (f k) n⟩)::bB id s.aH }=λ i=>if i=id then some (.map ⟨κ,ε,qO f k x,qN (f k) n⟩) else s.af i:=by
  funext i;show af ((id,_)::bB id s.aH) i=_;rw[dn,dZ];by_cases hi:i=id
  .simp[hi]
  .simp[hi];rfl
 unfold Inv;rw[bS];obtain⟨q1,q2⟩:=MapKept.heap_set (o' := .map UG NA) k2;refine bd.TJ h id _ _ b aS (by rw[k1];rfl) ⟨λ hh=>(by cases hh),(λ e τ xs hh=>by cases hh),(λ hh=>by cases hh),λ _=>rfl⟩ rfl q2 rfl rfl rfl (by simp) ?_;exact⟨b,UG,NA,k1,q1,m2⟩
theorem Inv.append(hE:bn c.P c.E)(h:Inv c G s a w){T:TypeId}{τ:Ty}{bt e id d:Nat}(hT:af c.E.ty T=some (.slice τ,bt,e)){xs ys:List τ.den}{y:AV}{v z:Value}(aS:s.af id=some (.row e τ xs))
  (hv:VR c G s.af w (.row id) v) (hz:VR c G s.af w y z) (hy:iH (Jj s.af) (.slice τ) y=some ys) (Ap:bz (xs.length+ys.length) bt) (ty:TypeId) :
  ∃ v' w' G',(Builtin.append_ #[T,T] ty #[v,z]).run c.P w = .ok v' w' /\
   Inv c G' { aw:=(s.bP id).aw.set d (.row id),aH:=(id, .row e τ (xs++ys))::bB id (s.bP id).aH } (a.put (some d) v') w':=by
 obtain⟨rfl,_,_⟩:=hv;have hzc:C1 c G s.af w y z:=by
  refine hz.Si ?_;cases y with
  | aN u =>
   have e:=TV.aQ hy;subst e;rfl
  | nil=>rfl
  | row i=>rfl
  | aC i=>rfl
  | _=>cases hy
 obtain⟨l,m1,m2,m3⟩:=h.aH id _ aS;obtain⟨v',w',news,k1,k2,k3,k4,k5,k6⟩:=LG (w:=w) (base:=0) hE hT m1 (a9F _) (XT h.aH (DF λ _ _ h=>h) Vs hy hzc) Ap ty;have MU:=pY m1;have a4m:=pY k2;obtain⟨h1,h2,h3⟩:=h.clear id;have eW:∀ b,dk (G.η id)=some b->(c.w0.heap.size<=b\/c.X b)/\¬ G.S b/\b<w.heap.size:=λ b hb=>h.place id _ b aS hb;have hw:∀ b,b<w.heap.size->dk (G.η id)≠some b->w'.heap[b]?=w.heap[b]?:=λ b hb dv=>k3.block b hb (by rw[MU];exact λ e=>dv e.symm);have cd:∀ b,St c G.S b->w'.heap[b]?=w.heap[b]?:=λ b hb=>by
  refine hw b ?_ λ e=>?_
  .rcases hb with hb|hb
   .exact h.dI b hb
   .exact a9g hb.1 h.aL.size
  .obtain⟨q1,q2,q3⟩:=eW b e;rcases hb with hb|hb
   .exact q2 hb
   .exact q1.elim (λ q=>by omega) hb.2.1
 have a7l:∀ j τ xs b,s.af j=some (.aC τ xs)->b∈G.φ j->w'.heap[b]?=w.heap[b]?:=λ j τ xs b hj hb =>
  hw b (h.aO.pl j τ xs b hj hb).2.2.1 ((h.aO.pl j τ xs b hj hb).2.2.2 id _ aS)
 have yL:∀ j o b,j≠id->s.af j=some o->dk (G.η j)=some b->w'.heap[b]?=w.heap[b]?:=λ j o b hj ho hb=>by
  refine hw b (h.place j o b ho hb).2.2 λ e=>?_;exact hj (h.apart j id o _ b ho aS hb e)
 have h4:bd c ⟨G.S,G.η,G.φ⟩ (s.bP id).sl s.aw.length (λ i=>if i=id then none else (s.bP id).af i) a w':=by
  refine h1.world (S':=G.S) ⟨k3.os,k3.tape,k3.output,k3.size,λ b hb hx=>hw b hb λ e=>hx (eW b e).1⟩ (λ _ h=>h) (λ _ _=>b0X) h1.sX (λ b hb=>a9g (h1.dI b hb) k3.size) cd ?_ (λ j τ xs b hj hb=>by
   by_cases rM:j=id
   .simp[rM] at hj
   .rw[a9c rM,dQ] at hj;exact a7l j τ xs b (iA hj) hb)
  intro j o b hj hb;by_cases rM:j=id
  .simp[rM] at hj
  .rw[a9c rM,dQ] at hj;simp only[a9D] at hj;obtain⟨o',cE,_⟩:=hj;exact yL j o' b rM cE hb
 have a5q:((xs++ys).length)=xs.length+ys.length:=by simp
 have h5:=bd.newObj h4 id (.row e τ (xs++ys)) v' (by simp) h2 (λ i p te=>by
  by_cases hi:i=id
  .simp[hi] at te
  .rw[if_neg hi] at te;exact h3 i p te) rfl ⟨l++news,by simpa using k2,by
    rw[b0p];exact cZ.append _ _ (cZ.aL (λ _ h=>h) (λ b hb=>cd b (.inl hb)) _ m2) (cZ.aL (λ _ h=>h) (λ b hb=>cd b (.inl hb)) _ k5),by rw[a5q];exact k6⟩ rfl (.inl rfl) (λ b hb=>by
  have bj:=(k2.lt b (a4m.trans hb)).2;have uH:dk (G.η id)=some b\/b=w.heap.size:=by
   rw[<-a4m,] at hb;rcases k4 with q|q
   .left;rw[<-MU,<-q];exact hb
   .right;rw[q] at hb;exact (b0g hb).symm
  refine⟨?_,?_,bj,λ j p Y7 MP=>?_,λ j je lF IS MP=>?_⟩
  .rcases uH with q|q
   .exact (eW b q).1
   .have:=h.aL.size;omega
  .rcases uH with q|q
   .exact (eW b q).2.1
   .intro hs;have:=h.dI b hs;omega
  .by_cases rM:j=id
   .simp[rM] at Y7
   .rw[a9c rM,dQ] at Y7;simp only[a9D] at Y7;obtain⟨o',cE,_⟩:=Y7;rcases uH with q|q
    .exact rM (h.apart j id o' _ b cE aS MP q)
    .have:=(h.place j o' b cE MP).2.2;omega
  .by_cases rM:j=id
   .simp[rM] at IS
   .rw[a9c rM,dQ] at IS;obtain⟨_,_,q3,q4⟩:=h.aO.pl j je lF b (iA IS) MP;rcases uH with q|q
    .exact q4 id _ aS q
    .omega)
 refine⟨v',w',⟨G.S,λ i=>if i=id then v' else G.η i,G.φ⟩,k1,?_⟩;unfold Inv;have bS:ag.af { aw:=(s.bP id).aw.set d (.row id),aH:=(id, .row e τ (xs++ys))::bB id (s.bP id).aH }=λ i=>if i=id then some (.row e τ (xs++ys)) else (if i=id then none else (s.bP id).af i):=by
  funext i;show af (_::bB id (s.bP id).aH) i=_;rw[dn,dZ];rfl
 have B5:ag.sl { aw:=(s.bP id).aw.set d (.row id),aH:=(id, .row e τ (xs++ys))::bB id (s.bP id).aH }=iO s.aw.length (s.bP id).sl (some d) (.row id):=by
  have:=oI (s.bP id).aw d (.row id) ((id, .row e τ (xs++ys))::bB id (s.bP id).aH);rw[show (s.bP id).aw.length=s.aw.length from by simp[ag.bP]] at this;exact this
 rw[B5,bS,show ({ aw:=(s.bP id).aw.set d (.row id),aH:=(id, .row e τ (xs++ys))::bB id (s.bP id).aH }:ag).aw.length=s.aw.length from by simp[ag.bP]];refine bd.put h5 ⟨by simp,by simp[isRow],?_⟩;rcases k2.2 with ⟨rfl,_⟩|⟨g,cap,cur,rfl,_⟩
 .exact⟨_,_,_,rfl⟩
 .exact⟨_,_,_,rfl⟩
end
section
variable {c:Ctx} {G:Gh} {sl:Nat->AV} {n:Nat} {lk:Nat->Option av} {a:Act} {w w':World}
theorem bd.PV(h:bd c G sl n lk a w)(id:Nat)(τ:Ty)(xs:List τ.den)(ZU:Value)(fp:List Nat)(aS:lk id=none)(hs:∀ i,(sl i).refs id=false)(ho:∀ i o,lk i=some o->o.refs id=false)
  (a6E:c.R id=none) (hT:ic w ZU τ xs fp) (dj:fp.Nodup) (Zd:∀ b∈fp,(c.w0.heap.size<=b\/c.X b)/\¬ G.S b/\b<w.heap.size/\(∀ i o,lk i=some o->dk (G.η i)≠some b)/\∀ j τ xs,lk j=some (.aC τ xs)->b∉G.φ j) :
  bd c ⟨G.S,λ i=>if i=id then ZU else G.η i,λ i=>if i=id then fp else G.φ i⟩ sl n (λ i=>if i=id then some (.aC τ xs) else lk i) a w:=by
 have eY:∀ j,j≠id->eb (lk j) ((λ i=>if i=id then some (av.aC τ xs) else lk i) j)/\(if j=id then ZU else G.η j)=G.η j:=λ j hj=>by simp only[a9c hj];exact⟨eb.refl _,U⟩
 have CY:dk ZU=none:=by
  obtain⟨v,l,_,_,h1,_⟩:=hT;rw[h1];rfl
 have hblk:∀ i b,dk (if i=id then ZU else G.η i)=some b->i≠id/\dk (G.η i)=some b:=λ i b hb=>by
  by_cases hi:i=id
  .rw[a9l hi,CY] at hb;cases hb
  .rw[a9c hi] at hb;exact⟨hi,hb⟩
 have hold:∀ j aT cM,(if j=id then some (av.aC τ xs) else lk j)=some (.aC aT cM)->j≠id->lk j=some (.aC aT cM):=λ j aT cM k hj=>by rwa [a9c hj] at k
 exact {
  defers:=h.defers,size:=h.size,aL:=h.aL,jE:=h.jE,ej:=h.ej,sX:=h.sX,dI:=h.dI
  aw:=λ i=>(h.aw i).mono (λ j hj=>eY j (λ e=>by subst e;rw[hs i] at hj;cases hj)) (λ _ h=>h) (λ _ _=>rfl)
  aH:=λ i o' cg=>by
   by_cases hi:i=id
   .subst hi;simp only[b0Y,a8V] at cg;subst cg;trivial
   .simp only[a9c hi] at cg;exact (h.aH i o' cg).mono (by simp only[a9c hi]) (λ _ _=>rfl) (λ j hj=>eY j (λ e=>by subst e;rw[ho i o' cg] at hj;cases hj)) (λ _ h=>h) (λ _ _=>rfl)
  place:=λ i o' b cg hb=>by
   obtain⟨hi,hb⟩:=hblk i b hb;simp only[a9c hi] at cg;exact h.place i o' b cg hb
  apart:=λ i j o1 o2 b cg GR hb cm=>by
   obtain⟨hi,hb⟩:=hblk i b hb;obtain⟨hj,cm⟩:=hblk j b cm;simp only[a9c hi] at cg;simp only[a9c hj] at GR;exact h.apart i j o1 o2 b cg GR hb cm
  aO:={
   tr:=λ j aT cM k=>by
    by_cases hj:j=id
    .subst hj;simp only[b0Y,a8V,av.aC.injEq] at k ⊢;obtain⟨rfl,k⟩:=k;have k:=b1V k;subst k;exact hT
    .simp only[a9c hj];exact h.aO.tr j aT cM (hold j aT cM k hj)
   nd:=λ j aT cM k=>by
    by_cases hj:j=id
    .simp only[a9l hj];exact dj
    .simp only[a9c hj];exact h.aO.nd j aT cM (hold j aT cM k hj)
   pl:=λ j aT cM b k hb=>by
    have fin:(∀ i o,lk i=some o->dk (G.η i)≠some b)->∀ i o,(if i=id then some (av.aC τ xs) else lk i)=some o->dk (if i=id then ZU else G.η i)≠some b:=λ hh i o cg e=>by
     obtain⟨hi,e⟩:=hblk i b e;rw[a9c hi] at cg;exact hh i o cg e
    by_cases hj:j=id
    .simp only[a9l hj] at hb;obtain⟨q1,q2,q3,q4,q5⟩:=Zd b hb;exact⟨q1,q2,q3,fin q4⟩
    .simp only[a9c hj] at hb;obtain⟨q1,q2,q3,q4⟩:=h.aO.pl j aT cM b (hold j aT cM k hj) hb;exact⟨q1,q2,q3,fin q4⟩
   ap:=λ j j' Nw je QG lF b k k' hb cm=>by
    by_cases hj:j=id
    .by_cases yK:j'=id
     .rw[hj,yK]
     .simp only[a9l hj] at hb;simp only[a9c yK] at cm;exact absurd cm ((Zd b hb).2.2.2.2 j' je lF (hold j' je lF k' yK))
    .by_cases yK:j'=id
     .simp only[a9c hj] at hb;simp only[a9l yK] at cm;exact absurd hb ((Zd b cm).2.2.2.2 j Nw QG (hold j Nw QG k hj))
     .simp only[a9c hj] at hb;simp only[a9c yK] at cm;exact h.aO.ap j j' Nw je QG lF b (hold j Nw QG k hj) (hold j' je lF k' yK) hb cm }
  root:=λ j v hr ht=>by
   have dv:j≠id:=λ e=>by subst e;rw[a6E] at hr;cases hr
   simp only[a9c dv] at ht ⊢;exact h.root j v hr ht
  gX:=h.gX
  dq:=λ j v hr ht=>by
   by_cases hj:j=id
   .simp only[a9l hj] at ht;cases ht
   .simp only[a9c hj] at ht ⊢;exact h.dq j v hr ht
  eF:=h.eF }
def tF(c:Ctx)(G:Gh)(lk:Nat->Option av)(w:World)(b:Nat):Prop :=
 (c.w0.heap.size<=b\/c.X b)/\¬ G.S b/\b<w.heap.size/\(∀ i o,lk i=some o->dk (G.η i)≠some b)/\∀ j τ xs,lk j=some (.aC τ xs)->b∉G.φ j
structure Fa(c:Ctx)(G:Gh)(lk lk':Nat->Option av)(w w':World)(oR:Nat->Value)(ni:Nat->List Nat)(I:Nat->Prop):Prop where
 same:∀ id,¬ I id->lk' id=lk id/\oR id=G.η id/\ni id=G.φ id
 aC:∀ id,I id->∃ τ xs cM v l l',lk id=some (.aC τ xs)/\lk' id=some (.aC τ cM)/\G.η id = .tuple (v::l).toArray/\oR id = .tuple (v::l').toArray/\ic w' (oR id) τ cM (ni id)/\(ni id).Nodup
 a3W:∀ id b,I id->b∈ni id->(∃ dm,I dm/\b∈G.φ dm)\/tF c G lk w' b
 apart:∀ id dm b,I id->I dm->b∈ni id->b∈ni dm->id=dm
 heap:∀ b,b<w.heap.size->(∀ id,I id->b∉G.φ id)->w'.heap[b]?=w.heap[b]?
 os:w'.os=w.os
 tape:w'.tape=w.tape
 output:w'.output=w.output
 size:w.heap.size<=w'.heap.size
theorem tF.grow{lk:Nat->Option av}{b:Nat}(h:tF c G lk w b)(hs:w.heap.size<=w'.heap.size):tF c G lk w' b :=
 ⟨h.1,h.2.1,a9g h.2.2.1 hs,h.2.2.2⟩
theorem Fa.a5K{oR:Nat->Value}{ni:Nat->List Nat}{I:Nat->Prop}{lk':Nat->Option av}(t:Fa c G lk lk' w w' oR ni I)(id:Nat):eb (lk id) (lk' id):=by
 by_cases hi:I id
 .obtain⟨τ,xs,cM,_,_,_,h1,h2,_⟩:=t.aC id hi;rw[h1,h2];exact⟨λ h=>(by cases h),(λ e τ xs h=>by cases h),(λ _=>rfl),λ hh=>by cases hh⟩
 .rw[(t.same id hi).1];exact eb.refl _
theorem C1.ew{oR:Nat->Value}{ni:Nat->List Nat}{I:Nat->Prop}{lk':Nat->Option av}(t:Fa c G lk lk' w w' oR ni I)(cd:∀ b,St c G.S b->w'.heap[b]?=w.heap[b]?){u:AV}{x:Value}(hu:u.JG=false)(h:C1 c G lk w u x):C1 c ⟨G.S,oR,ni⟩ lk' w' u x:=by
 have key:(∀ id,u.refs id=true->¬ I id)->C1 c ⟨G.S,oR,ni⟩ lk' w' u x:=λ hk=>h.mono (λ id aS=>⟨t.a5K id,(t.same id (hk id aS)).2.1⟩) (λ _ h=>h) cd;have noT:∀ id,cP (lk id)=false->¬ I id:=λ id hn hi=>by
  obtain⟨τ,xs,_,_,_,_,h1,_⟩:=t.aC id hi;rw[h1] at hn;cases hn
 cases u with
 | aC id =>
  obtain⟨h1,l,h2,h3⟩:=h;by_cases hi:I id
  .obtain⟨τ,xs,cM,v,l0,l',k1,k2,k3,k4,_⟩:=t.aC id hi;rw[k3] at h2;simp only[b0x,b2z,a9a] at h2;obtain⟨rfl,_⟩:=h2;exact⟨by rw[k2];rfl,l',k4,h3⟩
  .exact key λ j hj=>by
    have:=a8W (show Nat.beq id j=true from hj);subst this;exact hi
 | eo id i off sz =>
  obtain⟨h1,b,n,cap,l,h2,h3⟩:=h;by_cases hi:I id
  .obtain⟨τ,xs,cM,v,l0,l',k1,k2,k3,k4,_⟩:=t.aC id hi;rw[k3] at h2;simp only[b0x,b2z,a9a] at h2;obtain⟨rfl,_⟩:=h2;exact⟨by rw[k2];rfl,b,n,cap,l',k4,h3⟩
  .exact key λ j hj=>by
    have:=a8W (show Nat.beq id j=true from hj);subst this;exact hi
 | sub id i off sz=>cases hu
 | ptr id off =>
  refine key λ j hj=>?_;have:=a8W (show Nat.beq id j=true from hj);subst this;obtain⟨_,_,_,h3⟩:=h;exact noT id (by match hl:lk id,h3 with|some (.box _),_=>rfl)
 | row id =>
  refine key λ j hj=>?_;have:=a8W (show Nat.beq id j=true from hj);subst this;exact noT id (qo h.2.1)
 | dX id i off =>
  refine key λ j hj=>?_;have:=a8W (show Nat.beq id j=true from hj);subst this;obtain⟨_,_,_,_,_,_,_,h3,_⟩:=h;exact noT id (by rw[h3];rfl)
 | mp id =>
  refine key λ j hj=>?_;have:=a8W (show Nat.beq id j=true from hj);subst this;exact noT id (FC h.2.1)
 | agg cs=>exact h.elim
 | gb cs=>exact h.elim
 | cN f cs=>exact h.elim
 | _=>exact key λ j hj=>by cases hj
theorem ng:∀ {cs:List AV} {v:AV},AV.nf cs=false->v∈cs->v.JG=false
 | u::r,v,h,hm=>by
  simp only[AV.nf] at h;split at h
  .cases h
  .rename_i hu;rcases a9k.1 hm with rfl|hm
   .exact hu
   .exact ng h hm
theorem CR.ew{oR:Nat->Value}{ni:Nat->List Nat}{I:Nat->Prop}{lk':Nat->Option av}(t:Fa c G lk lk' w w' oR ni I)(cd:∀ b,St c G.S b->w'.heap[b]?=w.heap[b]?){u:AV}{x:Value}(hu:u.JG=false)(h:CR c G lk w u x):CR c ⟨G.S,oR,ni⟩ lk' w' u x:=by
 cases u with
 | aN v=>exact dC.mono (G:=G) (G':=⟨G.S,oR,ni⟩) h (λ _ h=>h) (λ b hb=>cd b (.inl hb))
 | agg cs =>
  obtain⟨l,h1,h2⟩:=h;exact⟨l,h1,h2.imp λ u y hm hy=>hy.ew t cd (ng (show AV.nf cs=false from hu) hm)⟩
 | _=>exact C1.V5 (C1.ew t cd hu h)
theorem VR.ew{oR:Nat->Value}{ni:Nat->List Nat}{I:Nat->Prop}{lk':Nat->Option av}(t:Fa c G lk lk' w w' oR ni I)(cd:∀ b,St c G.S b->w'.heap[b]?=w.heap[b]?){u:AV}{x:Value}(hu:u.JG=false)(h:VR c G lk w u x):VR c ⟨G.S,oR,ni⟩ lk' w' u x:=by
 cases u with
 | aN v=>exact dC.mono (G:=G) (G':=⟨G.S,oR,ni⟩) h (λ _ h=>h) (λ b hb=>cd b (.inl hb))
 | agg cs =>
  obtain⟨l,h1,h2⟩:=h;exact⟨l,h1,h2.imp λ u y hm hy=>hy.ew t cd (ng (show AV.nf cs=false from hu) hm)⟩
 | gb vs =>
  obtain⟨l,h1,h2⟩:=h;refine⟨l,h1,h2.imp λ u y hm hy=>?_⟩;have To:=ng (show AV.nf vs=false from hu) hm;cases u with
  | any=>trivial
  | aN v=>exact dC.mono (G:=G) (G':=⟨G.S,oR,ni⟩) hy (λ _ h=>h) (λ b hb=>cd b (.inl hb))
  | aC i=>exact C1.ew (u := .aC i) t cd rfl hy
  | cS v=>exact C1.ew (u := .cS v) t cd rfl hy
  | agg cs =>
   obtain⟨l,h1,h2⟩:=hy;exact⟨l,h1,h2.imp λ u y hm hy=>hy.ew t cd (ng (show AV.nf cs=false from To) hm)⟩
  | _=>exact hy.elim
 | any=>trivial
 | dR=>exact h
 | nil=>exact (C1.ew (u := .nil) t cd hu h).ft
 | cS u=>exact (C1.ew (u := .cS u) t cd hu h).ft
 | ptr i o=>exact (C1.ew (u := .ptr i o) t cd hu h).ft
 | row i=>exact (C1.ew (u := .row i) t cd hu h).ft
 | dX i k o=>exact (C1.ew (u := .dX i k o) t cd hu h).ft
 | fn f=>exact (C1.ew (u := .fn f) t cd hu h).ft
 | aC i=>exact (C1.ew (u := .aC i) t cd hu h).ft
 | sub i k o z=>cases hu
 | mp i=>exact (C1.ew (u := .mp i) t cd hu h).ft
 | eo i k o z=>exact (C1.ew (u := .eo i k o z) t cd hu h).ft
 | gv v=>exact (C1.ew (u := .gv v) t cd hu h).ft
 | cN f cs =>
  obtain⟨l,h1,h2⟩:=h;exact⟨l,h1,h2.imp λ u y hm hy=>hy.ew t cd (ng (show AV.nf cs=false from hu) hm)⟩
theorem bd.ew(h:bd c G sl n lk a w){oR:Nat->Value}{ni:Nat->List Nat}{I:Nat->Prop}{lk':Nat->Option av}(t:Fa c G lk lk' w w' oR ni I)(hs:∀ i,(sl i).JG=false)(C2:∀ id cs,lk id=some (.box cs)->AV.nf cs=false) :
  bd c ⟨G.S,oR,ni⟩ sl n lk' a w':=by
 have pl:∀ id b,I id->b∈G.φ id->(c.w0.heap.size<=b\/c.X b)/\¬ G.S b/\b<w.heap.size/\∀ i o,lk i=some o->dk (G.η i)≠some b:=λ id b hi hb=>by
  obtain⟨τ,xs,_,_,_,_,h1,_⟩:=t.aC id hi;exact h.aO.pl id τ xs b h1 hb
 have Yf:∀ b,b<w.heap.size->((c.w0.heap.size<=b\/c.X b)->False)->w'.heap[b]?=w.heap[b]?:=λ b hb hn=>t.heap b hb λ id hi gB=>hn (pl id b hi gB).1;have cd:∀ b,St c G.S b->w'.heap[b]?=w.heap[b]?:=λ b hb=>by
  rcases hb with hb|hb
  .exact t.heap b (h.dI b hb) λ id hi gB=>(pl id b hi gB).2.1 hb
  .exact Yf b (a9g hb.1 h.aL.size) λ hn=>hn.elim (λ q=>by omega) hb.2.1
 have hblk:∀ id o b,lk id=some o->dk (G.η id)=some b->w'.heap[b]?=w.heap[b]?:=λ id o b ho hb =>
  t.heap b (h.place id o b ho hb).2.2 λ j hj gB=>(pl j b hj gB).2.2.2 id o ho hb
 have fg:∀ id b,dk (oR id)=some b->¬ I id/\dk (G.η id)=some b:=λ id b hb=>by
  by_cases hi:I id
  .obtain⟨_,_,_,_,_,_,_,_,_,h4,_⟩:=t.aC id hi;rw[h4] at hb;cases hb
  .rw[(t.same id hi).2.1] at hb;exact⟨hi,hb⟩
 have oN:∀ id τ xs b,lk' id=some (.aC τ xs)->b∈ni id->(∃ dm aT cM,lk dm=some (.aC aT cM)/\b∈G.φ dm/\(¬ I id->dm=id)/\(I id->I dm))\/(I id/\tF c G lk w' b):=λ id τ xs b aS hb=>by
  by_cases hi:I id
  .rcases t.a3W id b hi hb with ⟨dm,gI,cm⟩|Te
   .obtain⟨aT,cM,_,_,_,_,h1,_⟩:=t.aC dm gI;exact .inl ⟨dm,aT,cM,h1,cm,λ hn=>absurd hi hn,λ _=>gI⟩
   .exact .inr ⟨hi,Te⟩
  .obtain⟨h1,h2,h3⟩:=t.same id hi;rw[h1] at aS;rw[h3] at hb;exact .inl ⟨id,τ,xs,aS,hb,λ _=>rfl,λ gI=>absurd gI hi⟩
 exact {
  defers:=h.defers,size:=h.size
  aL:=h.aL.trans (Y:=λ b=>c.w0.heap.size<=b\/c.X b) ⟨t.os,t.tape,t.output,t.size,λ b hb hn=>Yf b hb hn⟩ λ i hi hy=>hy.elim (λ q=>by omega) id
  jE:=h.jE,ej:=h.ej,sX:=h.sX
  dI:=λ b hb=>a9g (h.dI b hb) t.size
  aw:=λ i=>(h.aw i).ew t cd (hs i)
  aH:=λ id o aS=>by
   by_cases hi:I id
   .obtain⟨τ,xs,cM,_,_,_,_,h2,_⟩:=t.aC id hi;rw[h2] at aS;simp only[a8V] at aS;subst aS;trivial
   .obtain⟨h1,h2,h3⟩:=t.same id hi;rw[h1] at aS;have ho:=h.aH id o aS;cases o with
    | box cs =>
     obtain⟨b,l,ty,k1,k2,k3⟩:=ho;refine⟨b,l,ty,h2.trans k1,?_,k3.imp λ u y hm hy=>hy.ew t cd (ng (C2 id cs aS) hm)⟩;rw[hblk id _ b aS (by rw[k1];rfl)];exact k2
    | row e τ xs =>
     obtain⟨l,k1,k2,k3⟩:=ho;refine⟨l,?_,cZ.aL (λ _ h=>h) (λ b hb=>cd b (.inl hb)) _ k2,k3⟩;rw[show (⟨G.S,oR,ni⟩:Gh).η id=G.η id from h2];exact FH k1 λ b hb=>hblk id _ b aS hb
    | aC τ xs=>trivial
    | map m =>
     obtain⟨b,es,clock,k1,k2,k3⟩:=ho;exact⟨b,es,clock,h2.trans k1,(hblk id _ b aS (by rw[k1];rfl)).trans k2,k3⟩
  place:=λ id o b aS hb=>by
   obtain⟨hi,hb⟩:=fg id b hb;rw[(t.same id hi).1] at aS;obtain⟨q1,q2,q3⟩:=h.place id o b aS hb;exact⟨q1,q2,a9g q3 t.size⟩
  apart:=λ id dm o o' b aS C6 hb cm=>by
   obtain⟨hi,hb⟩:=fg id b hb;obtain⟨gI,cm⟩:=fg dm b cm;rw[(t.same id hi).1] at aS;rw[(t.same dm gI).1] at C6;exact h.apart id dm o o' b aS C6 hb cm
  aO:={
   tr:=λ id τ xs aS=>by
    by_cases hi:I id
    .obtain⟨τ0,xs0,cM,v,l,l',h1,h2,h3,h4,h5,h6⟩:=t.aC id hi;rw[h2] at aS;simp only[a8V,av.aC.injEq] at aS;obtain⟨rfl,aS⟩:=aS;have aS:=b1V aS;subst aS;exact h5
    .obtain⟨h1,h2,h3⟩:=t.same id hi;rw[h1] at aS;rw[show (⟨G.S,oR,ni⟩:Gh).η id=G.η id from h2,show (⟨G.S,oR,ni⟩:Gh).φ id=G.φ id from h3];exact (h.aO.tr id τ xs aS).aL λ b hb=>t.heap b (h.aO.pl id τ xs b aS hb).2.2.1 λ j hj gB=>by
      obtain⟨aT,cM,_,_,_,_,k1,_⟩:=t.aC j hj;have:=h.aO.ap id j τ aT xs cM b aS k1 hb gB;subst this;exact hi hj
   nd:=λ id τ xs aS=>by
    by_cases hi:I id
    .obtain⟨_,_,_,_,_,_,_,_,_,_,_,h6⟩:=t.aC id hi;exact h6
    .obtain⟨h1,h2,h3⟩:=t.same id hi;rw[h1] at aS;rw[show (⟨G.S,oR,ni⟩:Gh).φ id=G.φ id from h3];exact h.aO.nd id τ xs aS
   pl:=λ id τ xs b aS hb=>by
    have hq:(c.w0.heap.size<=b\/c.X b)/\¬ G.S b/\b<w'.heap.size/\∀ i o,lk i=some o->dk (G.η i)≠some b:=by
     rcases oN id τ xs b aS hb with ⟨dm,aT,cM,k1,k2,_⟩|⟨_,f1,f2,f3,f4,_⟩
     .obtain⟨f1,f2,f3,f4⟩:=h.aO.pl dm aT cM b k1 k2;exact⟨f1,f2,a9g f3 t.size,f4⟩
     .exact⟨f1,f2,f3,f4⟩
    obtain⟨q1,q2,q3,q4⟩:=hq;refine⟨q1,q2,q3,λ i o cg uG=>?_⟩;obtain⟨hi,uG⟩:=fg i b uG;rw[(t.same i hi).1] at cg;exact q4 i o cg uG
   ap:=λ id dm τ aT xs cM b aS C6 hb cm=>by
    by_cases hi:I id
    .by_cases gI:I dm
     .exact t.apart id dm b hi gI hb cm
     .rcases oN dm aT cM b C6 cm with ⟨j',je,lF,m1,m2,m3,_⟩|⟨q,_⟩
      .rcases oN id τ xs b aS hb with ⟨j,Nw,QG,k1,k2,_,k4⟩|⟨_,Te⟩
       .have:=h.aO.ap j j' _ _ _ _ b k1 m1 k2 m2;have e:=m3 gI;subst e this;exact absurd (k4 hi) gI
       .exact absurd m2 (Te.2.2.2.2 j' je lF m1)
      .exact absurd q gI
    .by_cases gI:I dm
     .rcases oN id τ xs b aS hb with ⟨j,Nw,QG,k1,k2,k3,_⟩|⟨q,_⟩
      .rcases oN dm aT cM b C6 cm with ⟨j',je,lF,m1,m2,_,m4⟩|⟨_,Te⟩
       .have:=h.aO.ap j j' _ _ _ _ b k1 m1 k2 m2;have e:=k3 hi;subst e this;exact absurd (m4 gI) hi
       .exact absurd k2 (Te.2.2.2.2 j Nw QG k1)
      .exact absurd q hi
     .rcases oN id τ xs b aS hb with ⟨j,Nw,QG,k1,k2,k3,_⟩|⟨q,_⟩
      .rcases oN dm aT cM b C6 cm with ⟨j',je,lF,m1,m2,m3,_⟩|⟨q,_⟩
       .have:=h.aO.ap j j' _ _ _ _ b k1 m1 k2 m2;exact (k3 hi).symm.trans (this.trans (m3 gI))
       .exact absurd q gI
      .exact absurd q hi }
  root:=λ id v hr ht=>by
   by_cases hi:I id
   .obtain⟨τ,xs,cM,v0,l,l',k1,k2,k3,k4,_⟩:=t.aC id hi;obtain⟨l2,h2⟩:=h.root id v hr (by rw[k1];rfl);rw[k3] at h2;simp only[b0x,b2z,a9a] at h2;obtain⟨rfl,_⟩:=h2;exact⟨l',k4⟩
   .obtain⟨h1,h2,_⟩:=t.same id hi;rw[h1] at ht;rw[show (⟨G.S,oR,ni⟩:Gh).η id=G.η id from h2];exact h.root id v hr ht
  gX:=h.gX
  dq:=λ id v hr ht=>by
   by_cases hi:I id
   .obtain⟨τ,xs,cM,v0,l,l',k1,k2,k3,k4,_⟩:=t.aC id hi;rw[k2] at ht;cases ht
   .obtain⟨h1,h2,_⟩:=t.same id hi;rw[h1] at ht;rw[show (⟨G.S,oR,ni⟩:Gh).η id=G.η id from h2];exact h.dq id v hr ht
  eF:=h.eF }
theorem bd.PZ(h:bd c G sl n lk a w){d:Nat}(hd:lk d=none):(∀ i,(sl i).refs d=false)/\∀ i o,lk i=some o->o.refs d=false:=by
 have c1:∀ (v:AV) (x:Value),C1 c G lk w v x->v.refs d=true->False:=λ v x hv hr=>by
  have iv:∀ i,Nat.beq i d=true->fw (lk i)=false/\isRow (lk i)=false/\cP (lk i)=false/\∀ e τ xs,lk i≠some (.row e τ xs):=λ i hi=>by
   have:=a8W hi;subst this;rw[hd];exact⟨rfl,rfl,rfl,λ _ _ _=>by simp⟩
  cases v with
  | ptr i o=>obtain⟨_,_,_,h3⟩:=hv;rw[(iv i hr).1] at h3;cases h3
  | row i=>obtain⟨_,h3,_⟩:=hv;rw[(iv i hr).2.1] at h3;cases h3
  | dX i k o=>obtain⟨_,_,_,_,_,_,_,h3,_⟩:=hv;exact (iv i hr).2.2.2 _ _ _ h3
  | aC i=>have h3:=hv.1;rw[(iv i hr).2.2.1] at h3;cases h3
  | sub i k o z=>have h3:=hv.1;rw[(iv i hr).2.2.1] at h3;cases h3
  | eo i k o z=>have h3:=hv.1;rw[(iv i hr).2.2.1] at h3;cases h3
  | mp i =>
   have h3:=hv.2.1;have:=a8W (show Nat.beq i d=true from hr);subst this;rw[hd] at h3;cases h3
  | agg cs=>exact hv
  | gb cs=>exact hv
  | cN f cs=>exact hv
  | _=>cases hr
 have cL:∀ (cs:List AV) (l:List Value),aM (C1 c G lk w) cs l->AV.fB d cs=true->False:=by
  intro cs;induction cs with
  | nil=>intro l _ hr;cases hr
  | cons v r ih =>
   intro l hl hr;match l,hl with
   | x::l,hl =>
    simp only[AV.fB] at hr;split at hr
    .rename_i hv;exact c1 v x hl.1 hv
    .exact ih l hl.2 hr
 refine⟨λ i=>?_,λ i o ho=>?_⟩
 .cases hr:(
        sl i).refs d with
  | false=>rfl
  | true =>
   have hv:=h.aw i;revert hv hr;generalize a.tmps.getD i undef=x;cases sl i with
   | aN u=>intro hr;cases hr
   | agg cs =>
    intro hr hv;obtain⟨l,_,hl⟩:=hv;exact (cL cs l hl hr).elim
   | gb vs =>
    intro hr hv;obtain⟨l,_,hl⟩:=hv;have:∀ (
         vs:List AV) (l:List Value),aM (TR c G lk w) vs l->AV.fB d vs=true->False:=by
     intro vs;induction vs with
     | nil=>intro l _ hr;cases hr
     | cons v r ih =>
      intro l hl hr;match l,hl with
      | x::l,hl =>
       simp only[AV.fB] at hr;split at hr
       .rename_i hv;have h1:=hl.1;cases v with
        | aC i=>exact c1 (.aC i) x h1 hv
        | agg cs =>
         obtain⟨l',_,oj⟩:=h1;exact cL cs l' oj hv
        | aN u=>cases hv
        | cS u=>cases hv
        | any=>cases hv
        | _=>exact h1
       .exact ih l hl.2 hr
    exact (this vs l hl hr).elim
   | cN f vs =>
    intro hr hv;obtain⟨l,_,hl⟩:=hv;have:∀ (vs:List AV) (l:List Value),aM (CR c G lk w) vs l->AV.fB d vs=true->False:=by
     intro vs;induction vs with
     | nil=>intro l _ hr;cases hr
     | cons v r ih =>
      intro l hl hr;match l,hl with
      | x::l,hl =>
       simp only[AV.fB] at hr;split at hr
       .rename_i hv;rcases hl.1.inv with ⟨u,rfl,_⟩|⟨cs,l',rfl,_,oj⟩|h1
        .cases hv
        .exact cL cs l' oj hv
        .exact c1 _ x h1 hv
       .exact ih l hl.2 hr
    exact (this vs l hl hr).elim
   | any=>intro hr;cases hr
   | dR=>intro hr;cases hr
   | nil=>intro hr;cases hr
   | cS u=>intro hr;cases hr
   | fn f=>intro hr;cases hr
   | gv v=>intro hr;cases hr
   | ptr i o=>intro hr hv;exact (c1 (.ptr i o) x hv hr).elim
   | row i=>intro hr hv;exact (c1 (.row i) x hv hr).elim
   | dX i k o=>intro hr hv;exact (c1 (.dX i k o) x hv hr).elim
   | aC i=>intro hr hv;exact (c1 (.aC i) x hv hr).elim
   | sub i k o z=>intro hr hv;exact (c1 (.sub i k o z) x hv hr).elim
   | eo i k o z=>intro hr hv;exact (c1 (.eo i k o z) x hv hr).elim
   | mp i=>intro hr hv;exact (c1 (.mp i) x hv hr).elim
 .cases hr:o.refs d with
  | false=>rfl
  | true =>
   cases o with
   | row e τ xs=>cases hr
   | aC τ xs=>cases hr
   | map m=>cases hr
   | box cs =>
    obtain⟨b,l,t,_,_,k3⟩:=h.aH i _ ho;exact (cL cs l k3 hr).elim
structure Ext(G:Gh)(lk:Nat->Option av)(G':Gh)(lk':Nat->Option av):Prop where
 S:G'.S=G.S
 Zs:∀ i o,lk i=some o->lk' i=some o/\G'.η i=G.η i/\G'.φ i=G.φ i
theorem Ext.refl(G:Gh)(lk:Nat->Option av):Ext G lk G lk:=⟨rfl,λ _ _ h=>⟨h,rfl,rfl⟩⟩
theorem Ext.trans{G1 G2 G3:Gh}{l1 l2 l3:Nat->Option av}(h:Ext G1 l1 G2 l2)(k:Ext G2 l2 G3 l3):Ext G1 l1 G3 l3 :=
 ⟨k.S.trans h.S,λ i o ho=>by
  obtain⟨a1,a2,a3⟩:=h.Zs i o ho;obtain⟨b1,b2,b3⟩:=k.Zs i o a1;exact⟨b1,b2.trans a2,b3.trans a3⟩⟩
theorem C1.ext{G':Gh}{lk':Nat->Option av}(e:Ext G lk G' lk'){v:AV}{x:Value}(h:C1 c G lk w v x):C1 c G' lk' w v x:=by
 refine h.mono (λ id aS=>?_) (λ b hb=>by rw[e.S];exact hb) (λ _ _=>rfl);have dv:lk id≠none:=λ hn=>by
  cases v with
  | ptr i o=>have:=a8W (show Nat.beq i id=true from aS);subst this;obtain⟨_,_,_,h3⟩:=h;rw[hn] at h3;cases h3
  | row i=>have:=a8W (show Nat.beq i id=true from aS);subst this;obtain⟨_,h3,_⟩:=h;rw[hn] at h3;cases h3
  | dX i k o=>have:=a8W (show Nat.beq i id=true from aS);subst this;obtain⟨_,_,_,_,_,_,_,h3,_⟩:=h;rw[hn] at h3;cases h3
  | aC i=>have:=a8W (show Nat.beq i id=true from aS);subst this;have h3:=h.1;rw[hn] at h3;cases h3
  | sub i k o z=>have:=a8W (show Nat.beq i id=true from aS);subst this;have h3:=h.1;rw[hn] at h3;cases h3
  | eo i k o z=>have:=a8W (show Nat.beq i id=true from aS);subst this;have h3:=h.1;rw[hn] at h3;cases h3
  | mp i=>have:=a8W (show Nat.beq i id=true from aS);subst this;have h3:=h.2.1;rw[hn] at h3;cases h3
  | agg cs=>exact h
  | gb cs=>exact h
  | cN f cs=>exact h
  | _=>cases aS
 match hl:lk id,dv with
 | some o,_ =>
  obtain⟨h1,h2,_⟩:=e.Zs id o hl;rw[h1];exact⟨eb.refl _,h2⟩
def Fr(c:Ctx)(G:Gh)(lk:Nat->Option av)(w:World)(fp:List Nat):Prop :=
 ∀ b∈fp,(c.w0.heap.size<=b\/c.X b)/\¬ G.S b/\b<w.heap.size/\(∀ i o,lk i=some o->dk (G.η i)≠some b)/\∀ j τ xs,lk j=some (.aC τ xs)->b∉G.φ j
def fQ(news:List (Nat×av))(lk:Nat->Option av)(i:Nat):Option av:=match af news i with
 | some o=>some o
 | none=>lk i
theorem a1q(lk:Nat->Option av):fQ [] lk=lk:=rfl
theorem Zm(id:Nat)(o:av)(r:List (Nat×av))(lk:Nat->Option av)(hr:af r id=none):fQ r (λ i=>if i=id then some o else lk i)=fQ ((id,o)::r) lk:=by
 funext i;unfold fQ;rw[dn];by_cases hi:i=id
 .subst hi;rw[hr];simp
 .simp[hi]
theorem Me:∀ (r r':List (Nat×av)) (lk:Nat->Option av),fQ (r++r') lk=fQ r (fQ r' lk)
 | [],r',lk=>rfl
 | (id,o)::r,r',lk=>by
  funext i;have:=congrFun (Me r r' lk) i;unfold fQ at this ⊢;rw[List.cons_append,dn,dn];by_cases hi:i=id
  .simp[hi]
  .simpa [hi] using this
theorem ic.a1C{τ:Ty}{xs:List τ.den}{x:Value}{fp:List Nat}(h:Ow w (.slice τ.size (xs.map τ.aE)) [x] fp):∃ l,ic w (.tuple (x::l).toArray) τ xs fp/\∃ a n m,x = .slice a n m:=by
 obtain⟨a',cap,h1,h2,h3,h4,h5⟩:=h;simp only[a9a,a9q,a9M] at h1 h2 h4;subst h1;rcases h5 with ⟨hx,ha,hf⟩|⟨b,f,l,t,ha,hf,k1,k2⟩
 .refine⟨[],⟨_,[],a',cap,rfl,rfl,h2,h3,h4, .inl ⟨?_,ha,hf⟩⟩,_,_,_,rfl⟩;simpa using hx
 .exact⟨l,⟨_,l,a',cap,rfl,rfl,h2,h3,h4, .inr ⟨b,f,t,ha,hf,k1,k2⟩⟩,_,_,_,rfl⟩
theorem Ow.a5E{η:Value}{τ:Ty}{xs:List τ.den}{fp:List Nat}(h:ic w η τ xs fp){x:Value}{l:List Value}(hx:η = .tuple (x::l).toArray):Ow w (.slice τ.size (xs.map τ.aE)) [x] fp:=by
 obtain⟨v,l',a',cap,h1,h2,h3,h4,h5,h6⟩:=h;rw[hx] at h1;simp only[Value.tuple.injEq,List.toArray_inj,List.cons.injEq] at h1;obtain⟨rfl,rfl⟩:=h1;refine⟨a',cap,by simp[h2],by simpa using h3,h4,by simpa using h5,?_⟩;rcases h6 with ⟨rfl,q1,q2⟩|⟨b,f,t,q1,q2,q3,q4⟩
 .exact .inl ⟨rfl,q1,q2⟩
 .exact .inr ⟨b,f,l,t,q1,q2,q3,q4⟩
theorem fi:∀ {l:List (Nat×av)} {id:Nat} {o:av},af l id=some o->(id,o)∈l
 | (k,p)::r,id,o,h=>by
  simp only[af] at h;split at h
  .rename_i hk;have hk:=a8W hk;simp only[a8V] at h;subst hk h;simp
  .exact b0u _ (fi h)
theorem bd.a0d(h:bd c G sl n lk a w){u:TV}(hu:u.τ.agg=false){x:Value}{fp:List Nat}{id:Nat}(hO:Ow w u.aE [x] fp)(dj:fp.Nodup)(hF:Fr c G lk w fp)(aS:∀ p∈eU id u,lk p.1=none)(hR:c.R id=none) :
  ∃ G',bd c G' sl n (fQ (eU id u) lk) a w/\Ext G lk G' (fQ (eU id u) lk)/\C1 c G' (fQ (eU id u) lk) w (jn id u) x /\
   ∀ fq,Fr c G lk w fq->(∀ b∈fq,b∉fp)->Fr c G' (fQ (eU id u) lk) w fq:=by
 have sY:(eU id u=[]/\jn id u = .aN u)->∃ G',bd c G' sl n (fQ (eU id u) lk) a w/\Ext G lk G' (fQ (eU id u) lk)/\C1 c G' (fQ (eU id u) lk) w (jn id u) x /\
   ∀ fq,Fr c G lk w fq->(∀ b∈fq,b∉fp)->Fr c G' (fQ (eU id u) lk) w fq:=by
  rintro⟨e1,e2⟩;rw[e1,e2];exact⟨G,h,Ext.refl _ _,⟨hu,hO.rd (S:=λ b=>b∈fp) _ (λ _ h=>h) |> λ hr=>by
   obtain⟨τ,y⟩:=u;cases τ with
   | slice t=>simp[eU] at e1
   | mv t=>simp[jn] at e2
   | ptr=>exact hr
   | st s=>cases hu
   | int k=>exact hr
   | bool=>exact hr
   | str=>exact hr⟩,λ fq hq _=>hq⟩
 obtain⟨τ,y⟩:=u;cases τ with
 | mv t=>exact⟨G,h,Ext.refl _ _,U,λ fq hq _=>hq⟩
 | slice t =>
  obtain⟨l,hT,B5⟩:=ic.a1C (τ:=t) (xs:=y) hO;have hn:lk id=none:=aS (id, .aC t y) (by simp[eU]);obtain⟨Q0,vV⟩:=h.PZ hn;have hI:=h.PV id t y _ fp hn Q0 vV hR hT dj hF;have bS:fQ (eU id ⟨.slice t,y⟩) lk=λ i=>if i=id then some (.aC t y) else lk i:=by
   rw[<-a1q (λ i=>if i=id then some (av.aC t y) else lk i),Zm id _ [] lk rfl];rfl
  rw[bS];refine⟨_,hI,⟨rfl,λ i o ho=>?_⟩,⟨by simp[cP],l,by simp,B5⟩,λ fq hq wD b hb=>?_⟩
  .have hi:i≠id:=λ e=>by subst e;rw[hn] at ho;cases ho
   simp[hi,ho]
  .obtain⟨q1,q2,q3,q4,q5⟩:=hq b hb;refine⟨q1,q2,q3,λ i o cg e=>?_,λ j τ xs hj=>?_⟩
   .by_cases hi:i=id
    .simp only[a9l hi] at e;cases e
    .simp only[a9c hi] at cg e;exact q4 i o cg e
   .by_cases hi:j=id
    .simp only[a9l hi];exact wD b hb
    .simp only[a9c hi] at hj ⊢;exact q5 j τ xs hj
 | st s=>cases hu
 | ptr=>exact sY ⟨rfl,rfl⟩
 | int k=>exact sY ⟨rfl,rfl⟩
 | bool=>exact sY ⟨rfl,rfl⟩
 | str=>exact sY ⟨rfl,rfl⟩
theorem Mg{id:Nat}{u:TV}{p:Nat×av}(h:p∈eU id u):p.1=id:=by
 obtain⟨τ,y⟩:=u;cases τ<;>simp[eU] at h;rw[h]
theorem PH{r:List (Nat×av)}{i:Nat}(h:∀ p∈r,p.1≠i):af r i=none:=by
 induction r with
 | nil=>rfl
 | cons p r ih =>
  obtain⟨k,o⟩:=p;rw[dn,a9c (λ e=>h (k,o) (by simp) e.symm)];exact ih λ q hq=>h q (by simp[hq])
theorem bd.yf:∀ {us:List TV} {cs:List Value} {fp:List Nat} {id:Nat} {G:Gh} {lk:Nat->Option av},bd c G sl n lk a w->(∀ u∈us,u.τ.agg=false)->cV w (us.map TV.aE) cs fp->fp.Nodup->Fr c G lk w fp ->
  (∀ p∈bL id us,lk p.1=none)->((bL id us).map (·.1)).Nodup->(∀ j,id<=j->c.R j=none) ->
  ∃ G' lk',(∀ i,lk' i=fQ (bL id us) lk i)/\bd c G' sl n lk' a w/\Ext G lk G' lk'/\aM (C1 c G' lk' w) (bT id us) cs/\∀ fq,Fr c G lk w fq->(∀ b∈fq,b∉fp)->Fr c G' lk' w fq
 | [],cs,fp,id,G,lk,h,_,hO,_,_,_,_,_=>by
  obtain⟨rfl,rfl⟩:=hO;exact⟨G,lk,λ _=>rfl,h,Ext.refl _ _,U,λ fq hq _=>hq⟩
 | u::us,cs,fp,id,G,lk,h,hu,hO,dj,hF,aS,oT,hR=>by
  obtain⟨v,r,f1,f2,rfl,rfl,h1,h2⟩:=hO;rw[a9s] at dj;obtain⟨nd1,nd2,nd3⟩:=dj;simp only[bL,b0p] at oT;rw[a9s] at oT;obtain⟨d1,d2,d3⟩:=oT;obtain⟨G1,i1,e1,c1,WD⟩:=h.a0d (id:=id) (hu u (by simp)) h1 nd1 (λ b hb=>hF b (by simp[hb])) (λ p hp=>aS p (by simp[bL,hp])) (hR id (a9n _));have dv:∀ p∈bL (id+1) us,af (eU id u) p.1=none:=λ p hp=>PH λ q hq e=>d3 q.1 (a9b.2 ⟨q,hq,rfl⟩) p.1 (a9b.2 ⟨p,hp,rfl⟩) e;obtain⟨G2,lk2,k1,k2,k3,k4,k5⟩:=bd.yf (us:=us) (cs:=r) (fp:=f2) (id:=id+1) i1 (λ u To=>hu u (by simp[To])) h2 nd2
   (WD f2 (λ b hb=>hF b (by simp[hb])) (λ b hb cm=>nd3 b cm b hb rfl)) (λ p hp=>by unfold fQ;rw[dv p hp];exact aS p (by simp[bL,hp])) d2 (λ j hj=>hR j (by omega))
  refine⟨G2,lk2,λ i=>?_,k2,e1.trans k3,⟨c1.ext k3,k4⟩,λ fq hq wD=>k5 fq (WD fq hq λ b hb cm=>wD b hb (by simp[cm])) λ b hb cm=>wD b hb (by simp[cm])⟩;rw[k1 i];simp only[bL];unfold fQ;have a6G:∀ (r r':List (Nat×av)) (j:Nat),af (r++r') j=match af r j with|some o=>some o|none=>af r' j:=by
   intro r r' j;induction r with
   | nil=>rfl
   | cons p r ih =>
    obtain⟨k,o⟩:=p;rw[a9X,dn,dn];by_cases hj:j=k
    .simp[hj]
    .simpa [hj] using ih
  rw[a6G];cases hx:af (bL (id+1) us) i with
  | none=>simp only[];cases af (eU id u) i<;>rfl
  | some o =>
   simp only[];have hm:=fi hx;rw[dv _ hm]
theorem N3(s:aG)(y:s.den):∀ u∈s.cells y,u.τ.agg=false:=λ u hu=>by
 have:=aG.nz s y u hu;obtain⟨aT,z'⟩:=u;cases aT with
 | st s'=>simp[TV.aE,Ty.aE,aG.bQ,D.leaf] at this
 | _=>rfl
theorem TR.ext{G':Gh}{lk':Nat->Option av}(e:Ext G lk G' lk'){v:AV}{x:Value}(h:TR c G lk w v x):TR c G' lk' w v x:=by
 cases v with
 | any=>trivial
 | aN v=>exact dC.mono (G:=G) (G':=G') h (λ b hb=>by rw[e.S];exact hb) (λ _ _=>rfl)
 | aC i=>exact C1.ext (c:=c) (w:=w) (v := .aC i) e h
 | cS v=>exact C1.ext (c:=c) (w:=w) (v := .cS v) e h
 | agg cs =>
  obtain⟨l,h1,h2⟩:=h;exact⟨l,h1,h2.imp λ u y _ hy=>hy.ext e⟩
 | _=>exact h.elim
theorem TR.ft{v:AV}{x:Value}(h:TR c G lk w v x):VR c G lk w v x:=by
 cases v with
 | any=>trivial
 | aN v=>exact h
 | aC i=>exact h
 | cS v=>exact h
 | agg cs=>exact h
 | _=>exact h.elim
theorem C1.a7H{id:Nat}{u:TV}{x:Value}(h:C1 c G lk w (jn id u) x)(hu:u.τ.agg=false):TR c G lk w (jn id u) x:=by
 obtain⟨τ,y⟩:=u;cases τ with
 | slice t=>exact h
 | mv t=>exact h
 | ptr=>exact h.2
 | st s=>cases hu
 | int k=>exact h.2
 | bool=>exact h.2
 | str=>exact h.2
theorem bd.Sv{v:TV}{x:Value}{fp:List Nat}{id:Nat}{G:Gh}{lk:Nat->Option av}(h:bd c G sl n lk a w)(hO:BN w v x fp)(dj:fp.Nodup)(hF:Fr c G lk w fp)
  (aS:∀ p∈bL id v.cells,lk p.1=none) (oT:((bL id v.cells).map (·.1)).Nodup) (hR:∀ j,id<=j->c.R j=none) :
  ∃ G' lk',(∀ i,lk' i=fQ (bL id v.cells) lk i)/\bd c G' sl n lk' a w/\Ext G lk G' lk'/\TR c G' lk' w (hU id v) x/\∀ fq,Fr c G lk w fq->(∀ b∈fq,b∉fp)->Fr c G' lk' w fq:=by
 have one:v.τ.agg=false->v.cells=[v]->hU id v=jn id v->Ow w v.aE [x] fp->∃ G' lk',(∀ i,lk' i=fQ (bL id v.cells) lk i)/\bd c G' sl n lk' a w/\Ext G lk G' lk'/\TR c G' lk' w (hU id v) x/\∀ fq,Fr c G lk w fq->(∀ b∈fq,b∉fp)->Fr c G' lk' w fq:=by
  intro hv hc hov hO;rw[hc] at aS oT;obtain⟨G',lk',k1,k2,k3,k4,k5⟩:=h.yf (us:=[v]) (cs:=[x]) (fp:=fp) (by simpa using hv) ⟨x,[],fp,[],rfl,by simp,hO,rfl,rfl⟩ dj hF aS oT hR;rw[hc,hov];exact⟨G',lk',k1,k2,k3,C1.a7H k4.1 hv,k5⟩
 obtain⟨τ,y⟩:=v;cases τ with
 | st s =>
  obtain⟨cs,rfl,hO⟩:=hO;rw[aG.bQ] at hO;obtain⟨G',lk',k1,k2,k3,k4,k5⟩:=h.yf (us:=s.cells y) (cs:=cs) (fp:=fp) (N3 s y) hO dj hF aS oT hR;exact⟨G',lk',k1,k2,k3,⟨cs,rfl,k4⟩,k5⟩
 | slice t=>exact one rfl rfl rfl hO
 | mv t=>exact one rfl rfl rfl hO
 | ptr=>exact one rfl rfl rfl hO
 | int k=>exact one rfl rfl rfl hO
 | bool=>exact one rfl rfl rfl hO
 | str=>exact one rfl rfl rfl hO
theorem Zl{r r':List (Nat×av)}(hd:∀ p∈r',af r p.1=none)(lk:Nat->Option av)(i:Nat):fQ r' (fQ r lk) i=fQ (r++r') lk i:=by
 rw[Me];unfold fQ;cases hx:af r' i with
 | none=>rfl
 | some o =>
  have:=hd _ (fi hx);simp only[] at this ⊢;rw[this]
theorem bd.HG:∀ {vs:List TV} {xs:List Value} {fp:List Nat} {id:Nat} {G:Gh} {lk:Nat->Option av},bd c G sl n lk a w->HC w vs xs fp->fp.Nodup->Fr c G lk w fp ->
  (∀ p∈bc id vs,lk p.1=none)->((bc id vs).map (·.1)).Nodup->(∀ j,id<=j->c.R j=none) ->
  ∃ G' lk',(∀ i,lk' i=fQ (bc id vs) lk i)/\bd c G' sl n lk' a w/\Ext G lk G' lk'/\aM (TR c G' lk' w) (Jp id vs) xs/\∀ fq,Fr c G lk w fq->(∀ b∈fq,b∉fp)->Fr c G' lk' w fq
 | [],[],fp,id,G,lk,h,_,_,_,_,_,_=>⟨G,lk,λ _=>rfl,h,Ext.refl _ _,U,λ fq hq _=>hq⟩
 | v::vs,x::xs,fp,id,G,lk,h,hO,dj,hF,aS,oT,hR=>by
  obtain⟨f1,f2,rfl,h1,h2⟩:=hO;rw[a9s] at dj;obtain⟨nd1,nd2,nd3⟩:=dj;simp only[bc,b0p] at oT;rw[a9s] at oT;obtain⟨d1,d2,d3⟩:=oT;obtain⟨G1,G8,l1,i1,e1,c1,WD⟩:=h.Sv (id:=id) h1 nd1 (λ b hb=>hF b (by simp[hb])) (λ p hp=>aS p (by simp[bc,hp])) d1 hR;have dv:∀ p∈bc (id+20) vs,af (bL id v.cells) p.1=none:=λ p hp=>PH λ q hq e=>d3 q.1 (a9b.2 ⟨q,hq,rfl⟩) p.1 (a9b.2 ⟨p,hp,rfl⟩) e;obtain⟨G2,lk2,k1,k2,k3,k4,k5⟩:=bd.HG (vs:=vs) (xs:=xs) (fp:=f2) (id:=id+20) i1 h2 nd2
   (WD f2 (λ b hb=>hF b (by simp[hb])) (λ b hb cm=>nd3 b cm b hb rfl)) (λ p hp=>by rw[l1 p.1];unfold fQ;rw[dv p hp];exact aS p (by simp[bc,hp])) d2 (λ j hj=>hR j (by omega))
  refine⟨G2,lk2,λ i=>?_,k2,e1.trans k3,⟨c1.ext k3,k4⟩,λ fq hq wD=>k5 fq (WD fq hq λ b hb cm=>wD b hb (by simp[cm])) λ b hb cm=>wD b hb (by simp[cm])⟩;rw[k1 i,show G8=fQ (bL id v.cells) lk from funext l1];exact Zl dv lk i
 | [],_::_,_,_,_,_,_,hO,_,_,_,_,_=>hO.elim
 | _::_,[],_,_,_,_,_,hO,_,_,_,_,_=>hO.elim
theorem nA(r r':List (Nat×av))(i:Nat):af (r++r') i=fQ r (af r') i:=by
 unfold fQ;induction r with
 | nil=>rfl
 | cons p r ih =>
  obtain⟨k,o⟩:=p;rw[a9X,dn,dn];by_cases hj:i=k
  .simp[hj]
  .simpa [hj] using ih
theorem Hg{id:Nat}{res:List TV}{x:Value}{fp:List Nat}(h:FX w res x fp):∃ xs,HC w res xs fp/\∀ (G:Gh) (lk:Nat->Option av),aM (TR c G lk w) (Jp id res) xs->VR c G lk w (jb id res) x:=by
 match res,h with
 | [v],h=>exact⟨[x],⟨fp,[],by simp,h,rfl⟩,λ G lk ha=>ha.1.ft⟩
 | [],h =>
  obtain⟨l,h1,h2⟩:=h;exact⟨l,h2,λ G lk ha=>⟨l,h1,ha⟩⟩
 | v::u::r,h =>
  obtain⟨l,h1,h2⟩:=h;exact⟨l,h2,λ G lk ha=>⟨l,h1,ha⟩⟩
end
section
variable {c:Ctx} {G:Gh} {s:ag} {a:Act} {w w':World}
theorem cX:∀ {l:List Nat},nodupB l=true->l.Nodup
 | [],_=>b0c
 | a::r,h=>by
  simp only[nodupB] at h;split at h
  .cases h
  .rename_i hc;exact List.nodup_cons.2 ⟨by simpa using hc,cX h⟩
theorem P4(hE:bn c.P c.E)(h:Inv c G s a w){o:Oper}{f:FuncId}{Ts:List TypeId}{vs:List AV}{xs:List Value}{Z9:List Arg}{pre:Vc}{res:List TV}{d b:Nat}{Q:Exit->Act->World->Prop}
  (has:kx c.E s.af Ts vs=some Z9) (iU:aM (VR c G s.af w) vs xs) (hc:c.E.Jl f Z9=some (pre,res)) (Pb:pre.ok) (hd:o.dst=some d)
  (rL:∀ p∈bc b res,s.af p.1=none) (oT:((bc b res).map (·.1)).Nodup) (hR:100<=b)
  (cz:lG c.P f->(execOp a.eval o).run c.P w = .ok (.enter f xs.toArray) w) :
  o.wp c.P a w (λ a' w'=>∃ G',Inv c G' { aw:=s.aw.set d (jb b res),aH:=bc b res++s.aH } a' w') Q:=by
 obtain⟨rK,lU⟩:=hE.Jl f Z9 pre res hc Pb;unfold Oper.wp;rw[cz rK];simp only[Oper.upon];refine (lU w (SX G s.af) xs [] ?_ (.P2 (gh hE h (λ _ _ h=>h) (λ _ h => .inl h) (λ τ v x y h1 h2=>wg h.aO h.aH (λ _ _ h=>h) h1 h2) has iU)) (.inl rfl) List.nodup_nil (by simp)).mono ?_
 .exact h.V0
 .rintro e w' ⟨x,fp,rfl,hk,hO,dj,oN⟩;have hk:bI (λ _=>False) w w':=⟨hk.os,hk.tape,hk.output,hk.size,λ b hb _=>hk.block b hb (by simp)⟩;have oN:∀ b∈fp,w.heap.size<=b/\b<w'.heap.size:=λ b hb=>(oN b hb).resolve_left (by simp);have hI:=bd.grow h hk (S':=G.S) (λ _ _=>b0X) (λ b hb=>a9g (h.dI b hb) hk.size);obtain⟨ys,xR,Ph⟩:=Hg (c:=c) (id:=b) hO;have hF:Fr c ⟨G.S,G.η,G.φ⟩ s.af w' fp:=λ b hb=>by
   obtain⟨h1,h2⟩:=oN b hb;have:=h.aL.size;refine⟨.inl (by omega),λ hs=>?_,h2,λ i o' hi uG=>?_,λ j τ zs hj na=>?_⟩
   .have:=h.dI b hs;omega
   .have:=(h.place i o' b hi uG).2.2;omega
   .have:=(h.aO.pl j τ zs b hj na).2.2.1;omega
  obtain⟨G',lk',k1,k2,k3,k4,_⟩:=hI.HG (id:=b) xR dj hF rL oT (λ j hj=>by
   cases hr:c.R j with
   | none=>rfl
   | some v=>have:=h.gX j v hr;omega)
  refine⟨G',?_⟩;have bS:ag.af { aw:=s.aw.set d (jb b res),aH:=bc b res++s.aH }=lk':=by
   funext i;rw[k1 i];exact nA _ _ i
  unfold Inv;rw[bS,hd,show ag.sl { aw:=s.aw.set d (jb b res),aH:=bc b res++s.aH }=iO s.aw.length s.sl (some d) (jb b res) from oI s.aw d _ _,
   show ({ aw:=s.aw.set d (jb b res),aH:=bc b res++s.aH }:ag).aw.length=s.aw.length from by simp]
  exact bd.put k2 (Ph G' lk' k4)
end
theorem eL{α:Type}:∀ {l:List (Nat×α)} {id:Nat} {o:α},af l id=some o->(id,o)∈l
 | (k,p)::r,id,o,h=>by
  simp only[af] at h;split at h
  .rename_i hk;have hk:=a8W hk;simp only[a8V] at h;subst hk h;simp
  .exact b0u _ (eL h)
theorem th{α:Type}:∀ {l:List (Nat×α)} {id:Nat} {o:α},(l.map (·.1)).Nodup->(id,o)∈l->af l id=some o
 | (k,p)::r,id,o,hd,h=>by
  simp only[a9x,a9z] at hd;simp only[af];rcases a9k.1 h with e|h
  .simp only[a8Y] at e;obtain⟨rfl,rfl⟩:=e;simp
  .split
   .rename_i hk;have hk:=a8W hk;subst hk;exact absurd (a9b.2 ⟨_,h,rfl⟩) hd.1
   .exact th hd.2 h
section
variable {c:Ctx} {G:Gh} {sl:Nat->AV} {n:Nat} {lk:Nat->Option av} {a:Act} {w w':World}
abbrev TE:=Value×List Nat×av
def DV(A:List (Nat×TE))(G:Gh)(i:Nat):Value:=match af A i with
 | some e=>e.1
 | none=>G.η i
def xr(A:List (Nat×TE))(G:Gh)(i:Nat):List Nat:=match af A i with
 | some e=>e.2.1
 | none=>G.φ i
def V3(A:List (Nat×TE))(lk:Nat->Option av)(i:Nat):Option av:=match af A i with
 | some e=>some e.2.2
 | none=>lk i
structure Z7(G:Gh)(lk:Nat->Option av)(w':World)(id:Nat)(e:TE):Prop where
 ex:∃ τ xs cM v l l',lk id=some (.aC τ xs)/\e.2.2 = .aC τ cM/\G.η id = .tuple (v::l).toArray/\e.1 = .tuple (v::l').toArray/\ic w' e.1 τ cM e.2.1/\e.2.1.Nodup
theorem Fa.ofList{A:List (Nat×TE)}(hA:∀ p∈A,Z7 G lk w' p.1 p.2)(WY:∀ p∈A,∀ b∈p.2.2.1,(∃ q∈A,b∈G.φ q.1)\/tF c G lk w' b)(S7:∀ p∈A,∀ q∈A,∀ b∈p.2.2.1,b∈q.2.2.1->p.1=q.1)(dj:(A.map (·.1)).Nodup)
  (a5o:∀ b,b<w.heap.size->(∀ p∈A,b∉G.φ p.1)->w'.heap[b]?=w.heap[b]?) (hos:w'.os=w.os) (W7:w'.tape=w.tape) (R0:w'.output=w.output) (xS:w.heap.size<=w'.heap.size) :
  Fa c G lk (V3 A lk) w w' (DV A G) (xr A G) (λ i=>∃ e,af A i=some e) where
 same id hi:=by
  have:af A id=none:=by
   cases hx:af A id with
   | none=>rfl
   | some e=>exact absurd ⟨e,hx⟩ hi
  simp[V3,DV,xr,this]
 aC id:=by
  rintro⟨e,he⟩;obtain⟨τ,xs,cM,v,l,l',h1,h2,h3,h4,h5,h6⟩:=(hA _ (eL he)).ex;refine⟨τ,xs,cM,v,l,l',h1,?_,h3,?_,?_,?_⟩
  .simp only[V3,he];rw[<-h2]
  .simp only[DV,he];exact h4
  .simp only[DV,xr,he];exact h5
  .simp only[xr,he];exact h6
 a3W id b:=by
  rintro⟨e,he⟩ hb;simp only[xr,he] at hb;rcases WY _ (eL he) b hb with ⟨q,hq,hbq⟩|Te
  .exact .inl ⟨q.1,⟨q.2,th dj hq⟩,hbq⟩
  .exact .inr Te
 apart id dm b:=by
  rintro⟨e,he⟩ ⟨e',yJ⟩ hb cm;simp only[xr,he] at hb;simp only[xr,yJ] at cm;exact S7 _ (eL he) _ (eL yJ) b hb cm
 heap b hb hn:=a5o b hb λ p hp=>hn p.1 ⟨p.2,th dj hp⟩
 os:=hos
 tape:=W7
 output:=R0
 size:=xS
def tH(G:Gh)(lk:Nat->Option av)(ids:List Nat)(b:Nat):Prop :=
 ∃ id∈ids,(∃ τ xs,lk id=some (.aC τ xs)/\b∈G.φ id)\/∃ e τ xs,lk id=some (.row e τ xs)/\dk (G.η id)=some b
theorem tH.mono{ids Da:List Nat}{b:Nat}(h:tH G lk ids b)(hs:∀ i∈ids,i∈Da):tH G lk Da b:=by
 obtain⟨id,hi,h⟩:=h;exact⟨id,hs id hi,h⟩
theorem bd.gK(h:bd c G sl n lk a w){i j:List Nat}{b:Nat}(hi:tH G lk i b)(hj:tH G lk j b)(hd:∀ x∈i,∀ y∈j,x≠y):False:=by
 obtain⟨x,hx,h1⟩:=hi;obtain⟨y,hy,h2⟩:=hj;rcases h1 with ⟨τ,xs,k1,k2⟩|⟨e,τ,xs,k1,k2⟩<;>rcases h2 with ⟨aT,cM,m1,m2⟩|⟨e',aT,cM,m1,m2⟩
 .exact hd x hx y hy (h.aO.ap x y τ aT xs cM b k1 m1 k2 m2)
 .exact (h.aO.pl x τ xs b k1 k2).2.2.2 y _ m1 m2
 .exact (h.aO.pl y aT cM b m1 m2).2.2.2 x _ k1 k2
 .exact hd x hx y hy (h.apart x y _ _ b k1 m1 k2 m2)
theorem qQ{τ:Ty}(h:τ.sY=true)(y:τ.den):(τ.aE y).light=true:=by
 cases τ<;>first|rfl|cases h
theorem PF:∀ {l:List D},(∀ d∈l,d.light=true)->D.Ed l=true
 | [],_=>rfl
 | d::ds,h=>by
  simp only[D.Ed,a9e];exact⟨h d (by simp),PF λ e he=>h e (b0u _ he)⟩
theorem TS{τ:Ty}(h:τ.plain=true)(y:τ.den):(τ.aE y).light=true:=by
 cases τ with
 | st s =>
  show (s.aE y).light=true;rw[aG.bQ];refine PF λ d hd=>?_;obtain⟨u,hu,rfl⟩:=a9b.1 hd;have ht:u.τ∈s.nr:=by rw[<-aG.iQ s y];exact a9b.2 ⟨u,hu,rfl⟩
  exact qQ (a9H.1 h _ ht) u.x
 | slice t=>cases h
 | mv t=>cases h
 | ptr=>rfl
 | int k=>rfl
 | bool=>rfl
 | str=>rfl
theorem xq(h:bd c G sl n lk a w){τ:Ty}{v:AV}{x:Value}{y:τ.den}{ids:List Nat}(ht:eB lk τ v=some (y,ids))(hv:C1 c G lk w v x):∃ fp,Ow w (τ.aE y) [x] fp/\fp.Nodup/\∀ b∈fp,tH G lk ids b:=by
 cases v with
 | aN u =>
  simp only[eB] at ht;split at ht
  .rename_i y' hs hy;simp only[a8V,a8Y] at ht;obtain⟨rfl,rfl⟩:=ht;have e:=TV.aQ hy;subst e;exact⟨[],Ow.ey _ (qQ hs _) hv.2,b0c,by simp⟩
  .cases ht
 | nil =>
  cases τ with
  | slice t =>
   simp only[eB,a8V,a8Y] at ht;obtain⟨rfl,rfl⟩:=ht;exact⟨[],⟨none,0,by rw[show x=_ from hv];rfl,by simp,by simp[maxLen],by simp, .inl ⟨rfl,⟨rfl,rfl⟩,rfl⟩⟩,b0c,by simp⟩
  | _=>cases ht
 | aC id =>
  simp only[eB] at ht;split at ht
  .rename_i aT xs hl;split at ht
   .rename_i y' hy;simp only[a8V,a8Y] at ht;obtain⟨rfl,rfl⟩:=ht;have e:=TV.aQ hy;cases e;obtain⟨_,l,h2,_⟩:=hv;exact⟨G.φ id,Ow.a5E (h.aO.tr id aT xs hl) h2,h.aO.nd id aT xs hl,λ b hb=>⟨id,by simp, .inl ⟨aT,xs,hl,hb⟩⟩⟩
   .cases ht
  .cases ht
 | row id =>
  simp only[eB] at ht;split at ht
  .rename_i e aT xs hl;split at ht
   .rename_i y' hp hy;simp only[a8V,a8Y] at ht;obtain⟨rfl,rfl⟩:=ht;have e1:=TV.aQ hy;cases e1;obtain⟨hx,_,_⟩:=hv;obtain⟨l,h1,h2,h3⟩:=h.aH id _ hl;have a3a:∀ d∈xs.map aT.aE,d.light=true:=λ d hd=>by
     obtain⟨z,_,rfl⟩:=a9b.1 hd;exact TS hp z
    rcases h1.2 with ⟨Tp,hn⟩|⟨g,cap,cur,Tp,_,hh,QY,WU,iG,htk⟩
    .have iU:xs=[]:=b0d hn;subst iU;exact⟨[],⟨none,0,by rw[hx,Tp];rfl,by simp,by simp[maxLen],by simp, .inl ⟨rfl,⟨rfl,rfl⟩,rfl⟩⟩,b0c,by simp⟩
    .refine⟨[g],⟨some ⟨g,0,none⟩,cap,by rw[hx,Tp];simp,by simpa using QY,WU,by simpa using h3, .inr ⟨g,[],cur.toList,e,rfl,rfl,by simpa using hh,?_⟩⟩,by simp,λ b hb=>?_⟩
     .have hr:=bJ.ey (w:=w) (S:=G.S) (xs.map aT.aE) (l:=l) (m:=cur.toList.drop (xs.length * aT.size)) a3a h2;rw[<-htk,b0r] at hr;exact⟨by rw[a9P];exact iG,hr⟩
     .simp only[a9w] at hb;subst hb;exact⟨id,by simp, .inr ⟨e,aT,xs,hl,by rw[Tp];rfl⟩⟩
   .cases ht
  .cases ht
 | _=>cases ht
theorem dL{l1 l2:List Nat}(h1:l1.Nodup)(h2:l2.Nodup)(h3:∀ x∈l1,x∉l2):(l1++l2).Nodup:=by
 rw[a9s];exact⟨h1,h2,λ x hx y hy e=>h3 x hx (e ▸ hy)⟩
theorem JL(h:bd c G sl n lk a w):∀ {cs:List AV} {ts:List Ty} {us:List TV} {ids:List Nat} {l:List Value},JK lk cs ts=some (us,ids)->aM (C1 c G lk w) cs l->ids.Nodup ->
  ∃ fp,cV w (us.map TV.aE) l fp/\fp.Nodup/\(∀ b∈fp,tH G lk ids b)/\us.map TV.τ=ts
 | [],[],us,ids,l,ht,hl,_=>by
  simp only[JK,a8V,a8Y] at ht;obtain⟨rfl,rfl⟩:=ht;match l,hl with
  | [],_=>exact⟨[],⟨rfl,rfl⟩,b0c,by simp,rfl⟩
 | cc::cs,t::ts,us,ids,l,ht,hl,dj=>by
  simp only[JK] at ht;split at ht
  .rename_i x i hx;split at ht
   .rename_i r j hr;simp only[a8V,a8Y] at ht;obtain⟨rfl,rfl⟩:=ht;match l,hl with
    | v::l,hl =>
     rw[a9s] at dj;obtain⟨n1,n2,n3⟩:=dj;obtain⟨f1,a1,a2,a3⟩:=xq h hx hl.1;obtain⟨f2,b1,b2,b3,b4⟩:=JL h hr hl.2 n2;refine⟨f1++f2,⟨v,l,f1,f2,rfl,rfl,a1,b1⟩,dL a2 b2 λ b hb cm=>h.gK (a3 b hb) (b3 b cm) (λ x hx y hy=>n3 x hx y hy),λ b hb=>?_,by simp[b4]⟩;rcases a8X.1 hb with hb|hb
     .exact (a3 b hb).mono λ k hk=>by simp[hk]
     .exact (b3 b hb).mono λ k hk=>by simp[hk]
   .cases ht
  .cases ht
 | [],_::_,_,_,_,ht,_,_=>by cases ht
 | _::_,[],_,_,_,ht,_,_=>by cases ht
theorem qU(h:bd c G sl n lk a w){τ:Ty}{v:AV}{x:Value}{y:τ.den}{ids:List Nat}(ht:Hw lk τ v=some (y,ids))(hv:VR c G lk w v x)(dj:ids.Nodup):∃ fp,BN w ⟨τ,y⟩ x fp/\fp.Nodup/\∀ b∈fp,tH G lk ids b:=by
 have one:(∀ cs,v ≠ .agg cs)->eB lk τ v=some (y,ids)->∃ fp,BN w ⟨τ,y⟩ x fp/\fp.Nodup/\∀ b∈fp,tH G lk ids b:=by
  intro hna ht;have cd:∀ s,τ ≠ .st s:=λ s e=>by
   subst e;cases v with
   | aN u=>simp[eB,Ty.sY] at ht
   | nil=>simp[eB] at ht
   | aC id =>
    simp only[eB] at ht;split at ht
    .split at ht
     .rename_i hy;have e:=TV.aQ hy;cases e
     .cases ht
    .cases ht
   | row id =>
    simp only[eB] at ht;split at ht
    .split at ht
     .rename_i hy;have e:=TV.aQ hy;cases e
     .cases ht
    .cases ht
   | _=>cases ht
  have hc:C1 c G lk w v x:=by
   refine hv.Si ?_;cases v with
   | aN u =>
    simp only[eB] at ht;split at ht
    .rename_i hy;have e:=TV.aQ hy;subst e;cases τ<;>first|rfl|exact absurd rfl (cd _)
    .cases ht
   | nil=>rfl
   | aC id=>rfl
   | row id=>rfl
   | _=>cases ht
  obtain⟨fp,h1,h2,h3⟩:=xq h ht hc;refine⟨fp,?_,h2,h3⟩;cases τ with
  | st s=>exact absurd rfl (cd s)
  | _=>exact h1
 cases v with
 | agg cs =>
  cases τ with
  | st s =>
   simp only[Hw] at ht;split at ht
   .rename_i us i iG;split at ht
    .rename_i y' hy;simp only[a8V,a8Y] at ht;obtain⟨rfl,rfl⟩:=ht;obtain⟨l,rfl,hl⟩:=hv;obtain⟨fp,h1,h2,h3,_⟩:=JL h iG hl dj;refine⟨fp,⟨l,rfl,?_⟩,h2,h3⟩;rw[aG.bQ,aG.mA hy];exact h1
    .cases ht
   .cases ht
  | _=>cases ht
 | _=>exact one (by intro cs;simp) ht
theorem cV.split:∀ (ds:List D) {l:List Value} {fp:List Nat} (i:Nat) (d:D),cV w ds l fp->ds[i]?=some d ->
  ∃ v f0 f1 f2,fp=f0++f1++f2/\l[i]?=some v/\Ow w d [v] f1/\∀ (w':World) (d':D) (v':Value) (ij:List Nat),(∀ b∈f0++f2,w'.heap[b]?=w.heap[b]?)->Ow w' d' [v'] ij->cV w' (ds.set i d') (l.set i v') (f0++ij++f2)
 | [],_,_,_,_,_,hi=>by simp at hi
 | e::ds,_,_,0,d,h,hi=>by
  obtain⟨v,r,f1,f2,rfl,rfl,h3,h4⟩:=h;simp at hi;subst hi;exact⟨v,[],f1,f2,by simp,rfl,h3,λ w' d' v' ij hw hd=>⟨v',r,ij,f2,rfl,by simp,hd,cV.aL ds h4 λ b hb=>hw b (by simp[hb])⟩⟩
 | e::ds,_,_,i+1,d,h,hi=>by
  obtain⟨v,r,g1,g2,rfl,rfl,h3,h4⟩:=h;obtain⟨u,f0,f1,f2,rfl,k1,k2,k3⟩:=cV.split ds i d h4 (by simpa using hi);refine⟨u,g1++f0,f1,f2,by simp,by simpa using k1,k2,λ w' d' v' ij hw hd=>?_⟩;exact⟨v,r.set i v',g1,f0++ij++f2,rfl,by simp,Ow.aL e h3 λ b hb=>hw b (by simp[hb]),k3 w' d' v' ij (λ b hb=>hw b (by simp at hb ⊢;rcases hb with hb|hb<;>simp[hb])) hd⟩
theorem Mb(v:AV):v.cR=v\/v.cR = .any:=by unfold AV.cR;split<;>simp
theorem Fw(v:AV):v.cR.JG=false:=by
 unfold AV.cR;split
 .rfl
 .assumption
theorem Mr:∀ cs:List AV,AV.nf (cs.map AV.cR)=false
 | []=>rfl
 | v::r=>by simp only[a9x,AV.nf,Fw];exact Mr r
theorem C1.cR{v:AV}{x:Value}(h:C1 c G lk w v x):C1 c G lk w v.cR x:=by
 rcases Mb v with e|e
 .rw[e];exact h
 .rw[e];trivial
theorem FM(o:Option av):eb o (o.map av.cR):=by
 refine⟨λ h=>?_,λ e τ xs h=>⟨e,xs,by rw[h];rfl,a9n _⟩,λ h=>?_,λ h=>?_⟩
 .match o,h with
  | some (.box cs),_=>rfl
 .match o,h with
  | some (.aC τ xs),_=>rfl
 .match o,h with
  | some (.map m),_=>rfl
theorem xc{o:Option av}{τ:Ty}{xs:List τ.den}(h:o.map av.cR=some (.aC τ xs)):o=some (.aC τ xs):=by
 match o,h with
 | some (.aC aT cM),h=>exact h
 | some (.box _),h=>cases h
 | some (.row ..),h=>cases h
theorem bd.cw(h:bd c G sl n lk a w):bd c G (λ i=>(sl i).cR) n (λ i=>(lk i).map av.cR) a w:=by
 have h1:bd c G (λ i=>(sl i).cR) n lk a w:=h.forget λ i=>Mb (sl i);exact {
  defers:=h1.defers,size:=h1.size,aL:=h1.aL,jE:=h1.jE,ej:=h1.ej,sX:=h1.sX,dI:=h1.dI
  aw:=λ i=>(h1.aw i).mono (λ j _=>⟨FM _,rfl⟩) (λ _ h=>h) (λ _ _=>rfl)
  aH:=λ i o ho=>by
   rw[a9D] at ho;obtain⟨o',cE,rfl⟩:=ho;have hk:OR c G lk w i o'.cR:=by
    have:=h1.aH i o' cE;cases o' with
    | box cs =>
     obtain⟨b,l,t,k1,k2,k3⟩:=this;exact⟨b,l,t,k1,k2,aM.dH _ (k3.imp λ u y _ hy=>hy.cR)⟩
    | row e τ xs=>exact this
    | aC τ xs=>exact this
    | map m=>exact this
   exact hk.mono rfl (λ _ _=>rfl) (λ j _=>⟨FM _,rfl⟩) (λ _ h=>h) (λ _ _=>rfl)
  place:=λ i o b ho hb=>by
   rw[a9D] at ho;obtain⟨o',cE,rfl⟩:=ho;exact h1.place i o' b cE hb
  apart:=λ i j o o' b ho cE hb cm=>by
   rw[a9D] at ho cE;obtain⟨p,hp,rfl⟩:=ho;obtain⟨q,hq,rfl⟩:=cE;exact h1.apart i j p q b hp hq hb cm
  aO:=h1.aO.sub (λ i τ xs k=>xc k) (λ i o k=>by
   rw[a9D] at k;obtain⟨p,hp,_⟩:=k;exact⟨p,hp⟩)
  root:=λ i v hr ht=>h1.root i v hr (by
   match hl:lk i,ht with
   | some (.aC ..),_=>rfl
   | some (.box _),ht=>simp[hl,av.cR,cP] at ht
   | some (.row ..),ht=>simp[hl,av.cR,cP] at ht
   | none,ht=>simp[hl,cP] at ht)
  gX:=h1.gX
  dq:=λ i v hr ht=>h1.dq i v hr (by
   match hl:lk i,ht with
   | some (.box _),_=>rfl
   | some (.aC ..),ht=>simp[hl,av.cR,fw] at ht
   | some (.row ..),ht=>simp[hl,av.cR,fw] at ht
   | none,ht=>simp[hl,fw] at ht)
  eF:=h1.eF }
end
section
variable {c:Ctx} {G:Gh} {s:ag} {a:Act} {w w':World}
theorem Qo(s:ag):s.cw.sl=λ i=>(s.sl i).cR:=by
 funext i;simp only[ag.sl,ag.cw,a9h,b0w];cases s.aw[i]?<;>rfl
theorem ja(s:ag):s.cw.af=λ i=>(s.af i).map av.cR:=by
 funext i;exact Ee _ _ _
theorem Inv.cw(h:Inv c G s a w):Inv c G s.cw a w/\(∀ i,(s.cw.sl i).JG=false)/\∀ id cs,s.cw.af id=some (.box cs)->AV.nf cs=false:=by
 refine⟨?_,λ i=>by rw[Qo];exact Fw _,λ id cs aS=>?_⟩
 .unfold Inv;rw[Qo,ja,show s.cw.aw.length=s.aw.length from by simp[ag.cw]];exact bd.cw h
 .rw[ja] at aS;simp only[a9D] at aS;obtain⟨o,_,ho⟩:=aS;cases o with
  | box du=>cases ho;exact Mr du
  | row e τ xs=>cases ho
  | aC τ xs=>cases ho
  | map m=>cases ho
theorem Inv.a3s(h:Inv c G s a w){A:List (Nat×TE)}(hA:∀ p∈A,Z7 G s.af w' p.1 p.2)(WY:∀ p∈A,∀ b∈p.2.2.1,(∃ q∈A,b∈G.φ q.1)\/tF c G s.af w' b)(S7:∀ p∈A,∀ q∈A,∀ b∈p.2.2.1,b∈q.2.2.1->p.1=q.1)(dj:(A.map (·.1)).Nodup)
  {F:Nat->Prop} (hk:bI F w w') (hF:∀ b,F b->∃ p∈A,b∈G.φ p.1) {t:ag} (Pf:t.aw=s.cw.aw) (B6:∀ i,t.af i=V3 A s.cw.af i) {d:Option Nat} {v:AV} {x:Value} (hv:∀ G' lk,VR c G' lk w' v x) :
  ∃ G',Inv c G' (t.put d v) (a.put d x) w':=by
 obtain⟨h1,h2,h3⟩:=h.cw;have hA':∀ p∈A,Z7 G s.cw.af w' p.1 p.2:=λ p hp=>by
  obtain⟨τ,xs,cM,v,l,l',k1,k2⟩:=(hA p hp).ex;exact⟨τ,xs,cM,v,l,l',by rw[ja];simp[k1,av.cR],k2⟩
 have a2X:∀ p∈A,∀ b∈p.2.2.1,(∃ q∈A,b∈G.φ q.1)\/tF c G s.cw.af w' b:=λ p hp b hb=>(WY p hp b hb).imp id λ ⟨q1,q2,q3,q4,q5⟩ =>
  ⟨q1,q2,q3,λ i o hi=>by
   rw[ja] at hi;simp only[a9D] at hi;obtain⟨o',cE,_⟩:=hi;exact q4 i o' cE,λ j τ xs hj=>q5 j τ xs (by rw[ja] at hj;exact xc hj)⟩
 have T:=Fa.ofList (c:=c) (w:=w) hA' a2X S7 dj (λ b hb hn=>hk.block b hb λ hf=>by
  obtain⟨p,hp,hbp⟩:=hF b hf;exact hn p hp hbp) hk.os hk.tape hk.output hk.size
 have hI:=bd.ew h1 T h2 h3;refine⟨_,Inv.put (G:=⟨G.S,DV A G,xr A G⟩) ?_ (hv _ _)⟩;unfold Inv;rw[show t.sl=s.cw.sl from by funext i;simp only[ag.sl,Pf],show t.af=V3 A s.cw.af from funext B6,Pf];exact hI
theorem V4(id:Nat)(e:TE)(lk:Nat->Option av)(i:Nat):V3 [(id,e)] lk i=if i=id then some e.2.2 else lk i:=by
 unfold V3;simp only[af];by_cases hi:i=id
 .subst hi;simp
 .have:Nat.beq id i=false:=by
   cases hb:Nat.beq id i with
   | false=>rfl
   | true=>exact absurd (a8W hb).symm hi
  simp[this,hi]
theorem mz(s:ag)(id:Nat)(τ:Ty)(xs:List τ.den)(i:Nat):(s.iE id τ xs).af i=if i=id then some (.aC τ xs) else s.af i:=by
 show af ((id,_)::bB id s.aH) i=_;rw[dn,dZ];by_cases hi:i=id
 .simp[hi]
 .simp[hi];rfl
theorem a3n{lk:Nat->Option av}{k:Int}(h:ai k):VR c G lk w (.aN ⟨.int .i64,k⟩) (.int .i64 k):=by
 refine⟨rfl,?_⟩;simp only[IntKind.min,IntKind.max,IntKind.signed,IntKind.bits,b0Y];obtain⟨q1,q2⟩:=h;constructor<;>omega
theorem xj{f0 f1 f2 ij:List Nat}(h:(f0++f1++f2).Nodup)(h1:ij.Nodup)(hs:∀ b∈ij,b∈f1\/(b∉f0/\b∉f2)):(f0++ij++f2).Nodup:=by
 rw[a9s,a9s] at h;obtain⟨⟨a1,a2,a3⟩,a4,a5⟩:=h;refine dL (dL a1 h1 λ x hx uP=>(hs x uP).elim (λ q=>a3 x hx x q rfl) λ q=>q.1 hx) a4 λ x hx uP=>?_;rcases a8X.1 hx with hx|hx
 .exact a5 x (by simp[hx]) x uP rfl
 .exact (hs x hx).elim (λ q=>a5 x (by simp[q]) x uP rfl) λ q=>q.2 uP
theorem Mk{w:World}{τ ZV:Ty}{x:τ.den}{off:Nat}{u:TV}(hu:TV.part ⟨τ,x⟩ off ZV=some u)(cd:ZV.agg=false){ce:List Value}{fp:List Nat}(hO:Ow w (τ.aE x) ce fp) :
  ∃ v f0 f1 f2,fp=f0++f1++f2/\ce[off]?=some v/\Ow w u.aE [v] f1/\∀ (w':World) (u':TV) (y:τ.den) (v':Value) (ij:List Nat),mB τ x off u'=some y->(∀ b∈f0++f2,w'.heap[b]?=w.heap[b]?)->Ow w' u'.aE [v'] ij->Ow w' (τ.aE y) (ce.set off v') (f0++ij++f2):=by
 cases τ with
 | st s =>
  have fD:(s.cells x)[off]?=some u:=by
   unfold TV.part at hu;split at hu
   .rename_i hb;simp only[a9e] at hb;have:=a9y hb.2;have e:Ty.st s=ZV:=this;subst e;cases cd
   .split at hu
    .rename_i z hz;split at hu
     .simp only[a8V] at hu;subst hu;exact hz
     .cases hu
    .cases hu
  rw[show Ty.aE (.st s) x=s.aE x from rfl,aG.bQ] at hO;obtain⟨v,f0,f1,f2,h1,h2,h3,h4⟩:=cV.split _ off u.aE hO (by rw[b0w,fD];rfl);refine⟨v,f0,f1,f2,h1,h2,h3,λ w' u' y v' ij hp hw xR=>?_⟩;simp only[mB,fD] at hp;split at hp
  .have hy:=aG.mA hp;rw[show Ty.aE (.st s) y=s.aE y from rfl,aG.bQ,hy,b2A];exact h4 w' u'.aE v' ij hw xR
  .cases hp
 | slice t =>
  have om:off=0/\u=⟨.slice t,x⟩:=by
   unfold TV.part at hu;split at hu
   .rename_i hb;simp only[a9e] at hb;simp only[a8V] at hu;exact⟨a8W hb.1,hu.symm⟩
   .split at hu
    .rename_i z hz;cases off with
     | zero=>simp[TV.cells] at hz;subst hz;split at hu<;>simp_all
     | succ k=>simp[TV.cells] at hz
    .cases hu
  obtain⟨rfl,rfl⟩:=om;have hl:=Ow.length _ hO;match ce,hl with
  | [v],_ =>
   refine⟨v,[],fp,[],by simp,rfl,hO,λ w' u' y v' ij hp _ xR=>?_⟩;simp only[mB] at hp;have e:=TV.aQ hp;subst e;rw[a9L,a9U];exact xR
 | mv t =>
  have om:off=0/\u=⟨.mv t,x⟩:=by
   unfold TV.part at hu;split at hu
   .rename_i hb;simp only[a9e] at hb;simp only[a8V] at hu;exact⟨a8W hb.1,hu.symm⟩
   .split at hu
    .rename_i z hz;cases off with
     | zero=>simp[TV.cells] at hz;subst hz;split at hu<;>simp_all
     | succ k=>simp[TV.cells] at hz
    .cases hu
  obtain⟨rfl,rfl⟩:=om;have hl:=Ow.length _ hO;rw[Ty.cq] at hl;match ce,hl with
  | [v],_ =>
   refine⟨v,[],fp,[],by simp,rfl,hO,λ w' u' y v' ij hp _ xR=>?_⟩;simp only[mB] at hp;have e:=TV.aQ hp;subst e;rw[a9L,a9U];exact xR
 | ptr =>
  have om:off=0/\u=⟨.ptr,x⟩:=by
   unfold TV.part at hu;split at hu
   .rename_i hb;simp only[a9e] at hb;simp only[a8V] at hu;exact⟨a8W hb.1,hu.symm⟩
   .split at hu
    .rename_i z hz;cases off with
     | zero=>simp[TV.cells] at hz;subst hz;split at hu<;>simp_all
     | succ k=>simp[TV.cells] at hz
    .cases hu
  obtain⟨rfl,rfl⟩:=om;have hl:=Ow.length _ hO;rw[Ty.cq] at hl;match ce,hl with
  | [v],_ =>
   refine⟨v,[],fp,[],by simp,rfl,hO,λ w' u' y v' ij hp _ xR=>?_⟩;simp only[mB] at hp;have e:=TV.aQ hp;subst e;rw[a9L,a9U];exact xR
 | int k =>
  have om:off=0/\u=⟨.int k,x⟩:=by
   unfold TV.part at hu;split at hu
   .rename_i hb;simp only[a9e] at hb;simp only[a8V] at hu;exact⟨a8W hb.1,hu.symm⟩
   .split at hu
    .rename_i z hz;cases off with
     | zero=>simp[TV.cells] at hz;subst hz;split at hu<;>simp_all
     | succ k=>simp[TV.cells] at hz
    .cases hu
  obtain⟨rfl,rfl⟩:=om;have hl:=Ow.length _ hO;match ce,hl with
  | [v],_ =>
   refine⟨v,[],fp,[],by simp,rfl,hO,λ w' u' y v' ij hp _ xR=>?_⟩;simp only[mB] at hp;have e:=TV.aQ hp;subst e;rw[a9L,a9U];exact xR
 | bool =>
  have om:off=0/\u=⟨.bool,x⟩:=by
   unfold TV.part at hu;split at hu
   .rename_i hb;simp only[a9e] at hb;simp only[a8V] at hu;exact⟨a8W hb.1,hu.symm⟩
   .split at hu
    .rename_i z hz;cases off with
     | zero=>simp[TV.cells] at hz;subst hz;split at hu<;>simp_all
     | succ k=>simp[TV.cells] at hz
    .cases hu
  obtain⟨rfl,rfl⟩:=om;have hl:=Ow.length _ hO;match ce,hl with
  | [v],_ =>
   refine⟨v,[],fp,[],by simp,rfl,hO,λ w' u' y v' ij hp _ xR=>?_⟩;simp only[mB] at hp;have e:=TV.aQ hp;subst e;rw[a9L,a9U];exact xR
 | str =>
  have om:off=0/\u=⟨.str,x⟩:=by
   unfold TV.part at hu;split at hu
   .rename_i hb;simp only[a9e] at hb;simp only[a8V] at hu;exact⟨a8W hb.1,hu.symm⟩
   .split at hu
    .rename_i z hz;cases off with
     | zero=>simp[TV.cells] at hz;subst hz;split at hu<;>simp_all
     | succ k=>simp[TV.cells] at hz
    .cases hu
  obtain⟨rfl,rfl⟩:=om;have hl:=Ow.length _ hO;match ce,hl with
  | [v],_ =>
   refine⟨v,[],fp,[],by simp,rfl,hO,λ w' u' y v' ij hp _ xR=>?_⟩;simp only[mB] at hp;have e:=TV.aQ hp;subst e;rw[a9L,a9U];exact xR
theorem VN(l:List Value)(o n k:Nat)(v:Value)(hk:k<n)(hl:o+n<=l.length):l.take o++((l.drop o).take n).set k v++l.drop (o+n)=l.set (o+k) v:=by
 conv=>rhs;rw[<-b0r o l]
 rw[b1E _ _ (by simp;omega),a9B];congr 1;have e:o+k - (List.take o l).length=k:=by rw[a9W];omega
 rw[e];conv=>rhs;rw[<-b0r n (l.drop o)]
 rw[List.set_append_left _ _ (by rw[a9W,b0h];omega),b2h]
theorem XI{w:World}{η:Value}{τ ZV:Ty}{xs:List τ.den}{fp:List Nat}(hT:ic w η τ xs fp)(dj:fp.Nodup){a0:Option Addr}{n cap:Nat}{l:List Value}(fg:η = .tuple (.slice a0 n cap::l).toArray){i off:Nat}(hi:i<n){u:TV}
  (hu:TV.part ⟨τ,xs.getD i τ.zero⟩ off ZV=some u) (cd:ZV.agg=false) (om:off<τ.size):n=xs.length /\
  ∃ v f1,l[i * τ.size+off]?=some v/\Ow w u.aE [v] f1/\f1.Nodup/\(∀ b∈f1,b∈fp)/\∀ (w':World) (u':TV) (y:τ.den) (v':Value) (ij:List Nat),mB τ (xs.getD i τ.zero) off u'=some y->(∀ b∈fp,b∉f1->(a0=some ⟨b,0,none⟩->∃ t,w'.heap[b]?=some (.cells (l.set (i * τ.size+off) v').toArray t (0,0)))/\(a0≠some ⟨b,0,none⟩->w'.heap[b]?=w.heap[b]?))->Ow w' u'.aE [v'] ij->ij.Nodup->(∀ b∈ij,b∈f1\/b∉fp) ->
   ∃ WC,ic w' (.tuple (.slice a0 n cap::l.set (i * τ.size+off) v').toArray) τ (xs.set i y) WC/\WC.Nodup/\∀ b∈WC,b∈fp\/b∈ij:=by
 obtain⟨v0,l0,a1,RD,h1,h2,h3,h4,h5,h6⟩:=hT;rw[fg] at h1;simp only[b0x] at h1;have h1:(Value.slice a0 n cap::l)=v0::l0:=congrArg Array.toList h1;simp only[a9a] at h1;obtain⟨hq,uN⟩:=h1;subst uN;rw[h2] at hq;simp only[b0J] at hq;obtain⟨rfl,rfl,rfl⟩:=hq;rcases h6 with ⟨rfl,_,_⟩|⟨b,f,t,rfl,rfl,k1,k0,k2⟩
 .simp at hi
 .have bZ:∀ d∈xs.map τ.aE,d.size=τ.size:=by
   intro d hd;obtain⟨z,_,rfl⟩:=a9b.1 hd;exact Ty.cq τ z
  obtain⟨g0,g1,g2,rfl,hlen,m1,m2⟩:=bJ.split (xs.map τ.aE) i (τ.aE (xs.getD i τ.zero)) k2 bZ (by simp[List.getD,hi]);obtain⟨v,p0,p1,p2,rfl,q1,q2,q3⟩:=Mk hu cd m1;have hvl:l[i * τ.size+off]?=some v:=by
   rw[b0i,a9l om,b1e] at q1;exact q1
  rw[a9z] at dj;obtain⟨hb,dj⟩:=dj;have RZ:(p0++p1++p2).Nodup:=by
   rw[a9s,a9s] at dj;exact dj.1.2.1
  have QZ:p1.Nodup:=by
   rw[a9s,a9s] at RZ;exact RZ.1.2.1
  refine⟨rfl,v,p1,hvl,q2,QZ,λ b hb=>by simp[hb],λ w' u' y v' ij hp hw xR tf Zf=>?_⟩;have dis:∀ c∈g0++(p0++p1++p2)++g2,c∉p1->w'.heap[c]?=w.heap[c]?:=λ c hc hn=>(hw c (b0u _ hc) hn).2 λ e=>by
   simp only[a8V,b0M,a9q] at e;subst e;exact hb hc
  have fe:∀ c,c∈p1->c∈p0++p1++p2:=λ c hc=>by simp[hc]
  rw[a9s,a9s] at dj;obtain⟨⟨n1,n2,n3⟩,n4,n5⟩:=dj;have h0:∀ c∈g0++g2,c∉p1:=λ c hc Kv=>by
   rcases a8X.1 hc with hc|hc
   .exact n3 c hc c (fe c Kv) rfl
   .exact n5 c (a8X.2 (.inr (fe c Kv))) c hc rfl
  have h00:∀ c∈p0++p2,c∉p1:=λ c hc Kv=>by
   rw[a9s,a9s] at RZ;rcases a8X.1 hc with hc|hc
   .exact RZ.1.2.2 c hc c Kv rfl
   .exact RZ.2.2 c (by simp[Kv]) c hc rfl
  have hy:=q3 w' u' y v' ij hp (λ c hc=>dis c (by simp at hc ⊢;rcases hc with hc|hc<;>simp[hc]) (h00 c hc)) xR;have eW:=m2 w' (τ.aE y) _ (p0++ij++p2) (λ c hc=>dis c (by simp at hc ⊢;rcases hc with hc|hc<;>simp[hc]) (h0 c hc)) (by simp only[List.length_set,List.length_take,List.length_drop];omega) hy;rw[VN l _ _ _ v' om hlen,<-List.map_set] at eW;obtain⟨t',W6⟩:=(hw b (by simp) λ hc=>hb (by simp[hc])).1 rfl;refine⟨b::(g0++(p0++ij++p2)++g2),⟨_,_,_,cap,rfl,by simp,by simpa using h3,h4,by simpa using h5, .inr ⟨b,_,t',rfl,rfl,W6,by rw[List.length_set];exact k0,eW⟩⟩,?_,?_⟩
  .have Te:∀ c∈ij,c∈p1\/(c∉p0/\c∉p2):=λ c hc=>(Zf c hc).imp id λ q=>⟨λ q'=>q (by simp[q']),λ q'=>q (by simp[q'])⟩;have Fs:∀ c∈p0++ij++p2,c∈p0++p1++p2\/(c∉g0/\c∉g2):=λ c hc=>by
    simp only[a8X] at hc;rcases hc with (hc|hc)|hc
    .exact .inl (by simp[hc])
    .rcases Zf c hc with q|q
     .exact .inl (by simp[q])
     .exact .inr ⟨λ q'=>q (by simp[q']),λ q'=>q (by simp[q'])⟩
    .exact .inl (by simp[hc])
   rw[a9z];refine⟨λ hc=>?_,xj (f1:=p0++p1++p2) (dL (dL n1 n2 λ x hx uP=>n3 x hx x uP rfl) n4 λ x hx uP=>n5 x hx x uP rfl) (xj RZ tf Te) Fs⟩;simp only[a8X] at hc;rcases hc with (hc|(hc|hc)|hc)|hc
   .exact hb (by simp[hc])
   .exact hb (by simp[hc])
   .rcases Zf b hc with q|q
    .exact hb (by simp[q])
    .exact q (by simp)
   .exact hb (by simp[hc])
   .exact hb (by simp[hc])
  .intro c hc;simp only[a9k,a8X] at hc;rcases hc with hc|(hc|(hc|hc)|hc)|hc
   .exact .inl (by simp[hc])
   .exact .inl (by simp[hc])
   .exact .inl (by simp[hc])
   .exact .inr hc
   .exact .inl (by simp[hc])
   .exact .inl (by simp[hc])
end
section
variable {c:Ctx} {G:Gh} {s:ag} {a:Act} {w w':World}
theorem zq(h:Inv c G s a w){o:Oper}{v:AV}{x:Value}{Q:Exit->Act->World->Prop}(hr:(execOp a.eval o).run c.P w = .ok (.value x) w)(hv:VR c G s.af w v x) :
  o.wp c.P a w (λ a' w'=>∃ G',Inv c G' (s.put o.dst v) a' w') Q:=by
 unfold Oper.wp;rw[hr];exact⟨G,Inv.put h hv⟩
theorem tC{η:Value}{τ:Ty}{xs:List τ.den}{fp:List Nat}(hT:ic w η τ xs fp){a0:Option Addr}{n cap:Nat}{l:List Value}(fg:η = .tuple (.slice a0 n cap::l).toArray){i:Nat}(hi:i<n) :
  n=xs.length/\∃ b f t,a0=some ⟨b,0,none⟩/\fp=b::f/\w.heap[b]?=some (.cells l.toArray t (0,0))/\bJ w (xs.map τ.aE) l f:=by
 obtain⟨v0,l0,a1,RD,h1,h2,h3,h4,h5,h6⟩:=hT;rw[fg] at h1;simp only[b0x] at h1;have h1:(Value.slice a0 n cap::l)=v0::l0:=congrArg Array.toList h1;simp only[a9a] at h1;obtain⟨hq,uN⟩:=h1;subst uN;rw[h2] at hq;simp only[b0J] at hq;obtain⟨rfl,rfl,rfl⟩:=hq;rcases h6 with ⟨rfl,_,_⟩|⟨b,f,t,q1,q2,q3,q4⟩
 .simp at hi
 .exact⟨rfl,b,f,t,q1,q2,q3,q4.2⟩
theorem JU{t:Ty}{x:Value}(h:C1 c G s.af w (zeroCell t) x)(ht:t.agg=false):Ow w (t.aE t.zero) [x] []:=by
 cases t with
 | slice t' =>
  have h:x = .slice none 0 0:=h;subst h;exact⟨none,0,rfl,a9n _,by simp[maxLen],a9F _, .inl ⟨rfl,⟨rfl,rfl⟩,rfl⟩⟩
 | st s=>cases ht
 | mv t=>exact Ow.ey (S:=G.S) _ rfl h.2
 | ptr=>exact Ow.ey (S:=G.S) _ rfl h.2
 | int k=>exact Ow.ey (S:=G.S) _ rfl h.2
 | bool=>exact Ow.ey (S:=G.S) _ rfl h.2
 | str=>exact Ow.ey (S:=G.S) _ rfl h.2
theorem YR(s:aG):∀ t∈s.nr,t.agg=false:=λ t ht=>by
 rw[<-aG.iQ s s.zero] at ht;obtain⟨u,hu,rfl⟩:=a9b.1 ht;exact N3 s _ u hu
theorem a2y{c:Ctx}{G:Gh}{s:ag}{τ:Ty}{z:Value}(h:xv τ z=true):Ow w (τ.aE τ.zero) z.cells.toList []:=by
 have h1:=gf (c:=c) (G:=G) (lk:=s.af) (w:=w) h;cases τ with
 | st st =>
  simp only[zeroCells] at h1;show Ow w (st.aE st.zero) _ [];rw[aG.bQ];have hz:(st.cells st.zero).map TV.aE=st.nr.map λ t=>t.aE t.zero:=by cases st<;>rfl
  rw[hz];have h2:=aM.of_map _ h1;have:∀ (ts:List Ty) (vs:List Value),aM (λ t x=>Ow w (t.aE t.zero) [x] []) ts vs->cV w (ts.map λ t=>t.aE t.zero) vs []:=by
   intro ts;induction ts with
   | nil=>intro vs h;cases vs<;>first|exact⟨rfl,rfl⟩|cases h
   | cons t ts ih =>
    intro vs h;cases vs with
    | nil=>cases h
    | cons v vs=>exact⟨v,vs,[],[],rfl,rfl,h.1,ih vs h.2⟩
  exact this _ _ (h2.imp λ t x ht hx=>JU hx (YR st t ht))
 | _ =>
  simp only[zeroCells] at h1;match hc:z.cells.toList,h1 with
  | [x],h1=>exact JU h1.1 rfl
theorem bJ.Up:∀ (ds:List D) {es:List D} {l m:List Value} {n:Nat},bJ w ds l []->(∀ d∈ds,d.size=n)->l.length=ds.length * n->bJ w es m []->bJ w (ds++es) (l++m) []
 | [],es,l,m,n,_,_,hl,h=>by
  have:l=[]:=List.eq_nil_of_length_eq_zero (by simpa using hl);subst this;simpa using h
 | d::ds,es,l,m,n,h,hn,hl,h'=>by
  obtain⟨cc,r,f1,f2,rfl,hf,h3,h4⟩:=h;have hf:=(List.append_eq_nil_iff.1 hf.symm);obtain⟨rfl,rfl⟩:=hf;have hc:cc.length=n:=by rw[Ow.length _ h3];exact hn d (by simp)
  refine⟨cc,r++m,[],[],by simp,rfl,h3,bJ.Up ds h4 (λ d hd=>hn d (by simp[hd])) ?_ h'⟩;simp only[a9i,a9f,a9Y,Nat.one_mul] at hl;omega
theorem bJ.more:∀ (ds:List D) {l:List Value} {fp:List Nat} (m:List Value),bJ w ds l fp->bJ w ds (l++m) fp
 | [],_,_,_,h=>h
 | d::ds,_,_,m,h=>by
  obtain⟨cc,r,f1,f2,rfl,hf,h3,h4⟩:=h;exact⟨cc,r++m,f1,f2,by simp,hf,h3,bJ.more ds m h4⟩
theorem Fz{d:D}{z:Array Value}(h:Ow w d z.toList []):∀ k:Nat,bJ w (List.replicate k d) (madeCells z (k * z.size)).toList []
 | 0=>rfl
 | k+1=>by
  have hz:d.size=z.size:=by have:=Ow.length _ h;simpa using this.symm
  rw[Bu,b2S];refine bJ.Up (n:=z.size) _ (Fz h k) (λ e he=>by rw[List.eq_of_mem_replicate he];exact hz) (by simp[madeCells]) ⟨z.toList,[],[],[],by simp,rfl,h,rfl⟩
theorem Ko(h:Inv c G s a w)(id:Nat):Inv c G (s.gone id) a w:=by
 obtain⟨h1,_,_⟩:=h.clear id;have bS:(s.gone id).af=λ i=>if i=id then none else (s.bP id).af i:=by
  funext i;exact dZ id _ i
 unfold Inv;show bd c G (s.bP id).sl (s.bP id).aw.length (s.gone id).af a w;rw[bS,show (s.bP id).aw.length=s.aw.length from by simp[ag.bP]];exact h1
theorem AI(s:ag)(id i:Nat):(s.gone id).af i=if i=id then none else (s.af i).map (av.kill id):=by
 show af (bB id (s.bP id).aH) i=_;rw[dZ,<-congrFun (dQ s id) i];rfl
theorem uA:∀ (ids:List Nat) {s:ag},Inv c G s a w->Inv c G (ids.foldl ag.gone s) a w
 | [],_,h=>h
 | id::r,_,h=>uA r (Ko h id)
theorem Xe(id:Nat){τ:Ty}{xs:List τ.den}{o:Option av}(h:o=some (.aC τ xs)):o.map (av.kill id)=some (.aC τ xs):=by subst h;rfl
theorem L4:∀ (ids:List Nat) {s:ag} {id:Nat} {τ:Ty} {xs:List τ.den},s.af id=some (.aC τ xs)->id∉ids->(ids.foldl ag.gone s).af id=some (.aC τ xs)
 | [],_,_,_,_,h,_=>h
 | i::r,s,id,τ,xs,h,hn=>by
  refine L4 r ?_ (λ hh=>hn (by simp[hh]));rw[AI,a9c (λ e=>hn (by simp[e]))];exact Xe i h
theorem Gu:∀ (ids:List Nat) {s:ag} {i:Nat} {o:av},(ids.foldl ag.gone s).af i=some o->i∉ids/\∃ o',s.af i=some o'/\∀ τ xs,o = .aC τ xs->o' = .aC τ xs
 | [],s,i,o,h=>⟨by simp,o,h,λ _ _ e=>e⟩
 | id::r,s,i,o,h=>by
  obtain⟨h1,o',h2,h3⟩:=Gu r h;rw[AI] at h2;split at h2
  .cases h2
  .rename_i dv;simp only[a9D] at h2;obtain⟨p,hp,hk⟩:=h2;refine⟨by simp[dv,h1],p,hp,λ τ xs e=>?_⟩;have:=h3 τ xs e;subst this;have hm:(some p).map (av.kill id)=some (.aC τ xs):=by rw[<-hk];rfl
   have:=iA hm;simpa using this
theorem DO{o:Oper}{T:TypeId}{ad x:Operand}(bf:o.op = .store T ad x){w':World}{s':ag}{G':Gh}(hr:(Instr.storeAt T (a.eval ad) (a.eval x)).run c.P w = .ok () w')(hI:Inv c G' (s'.put none .any) a w'){Q:Exit->Act->World->Prop} :
  o.wp c.P a w (λ a' w'=>∃ G',Inv c G' (s'.put o.dst .any) a' w') Q:=by
 unfold Oper.wp;have:(execOp a.eval o).run c.P w = .ok .skip w':=by simp only[execOp,bf,Sem.run_bind,hr,Result.andThen_ok,Sem.run_pure]
 rw[this];exact⟨G',Inv.put (s:=s') hI trivial⟩
theorem Qu(hE:bn c.P c.E)(h:Inv c G s a w){T:TypeId}{τ aT:Ty}{bt e:Nat}(hT:af c.E.ty T=some (τ,bt,e)){id i off:Nat}{xs:List aT.den}(aS:s.af id=some (.aC aT xs)){p x:Value}(hp:VR c G s.af w (.eo id i off aT.size) p)(om:off+τ.size<=aT.size)
  (qF:x.cells.toList.length=τ.size) (uM:∀ u∈x.cells.toList,u.oneCell'=true) {y:aT.den}
  (hO:∀ (b:Nat) (f:List Nat) (l:List Value) (w':World),G.φ id=b::f->l.length>=i * aT.size+aT.size->bJ w (xs.map aT.aE) l f->(∀ k,k≠b->w'.heap[k]?=w.heap[k]?) ->
   ∃ f',bJ w' ((xs.set i y).map aT.aE) (l.take (i * aT.size+off)++x.cells.toList++l.drop (i * aT.size+off+τ.size)) f'/\f'.Nodup/\b∉f'/\∀ k∈f',k∈f\/tF c G s.af w k) :
  ∃ w' G',(Instr.storeAt T p x).run c.P w = .ok () w'/\Inv c G' (s.cw.iE id aT (xs.set i y)) a w':=by
 obtain⟨_,b,n,cap,l,fg,hi,rfl⟩:=hp;obtain⟨rfl,b',f,t,e1,oN,hh,eW⟩:=tC (h.aO.tr id aT xs aS) fg hi;simp only[a8V,b0M,a9q] at e1;subst e1;have bZ:∀ d∈xs.map aT.aE,d.size=aT.size:=by
  intro d hd;obtain⟨z,_,rfl⟩:=a9b.1 hd;exact Ty.cq aT z
 obtain⟨_,_,_,_,hlen,_,_⟩:=bJ.split (xs.map aT.aE) i (aT.aE (xs.getD i aT.zero)) eW bZ (by simp[List.getD,hi]);have cz:=AS (c:=c) (l:=l) hE hT (o:=i * aT.size+off) (x:=x) hh qF uM (by omega);have yL:∀ k,k≠b->(w.setRow b (l.take (i * aT.size+off)++x.cells.toList++l.drop (i * aT.size+off+τ.size)).toArray).heap[k]?=w.heap[k]?:=λ k hk=>kU w hh k hk;obtain⟨f',k1,k2,k3,k4⟩:=hO b f l _ oN hlen eW yL;have oU:=b3v w b l.toArray (l.take (i * aT.size+off)++x.cells.toList++l.drop (i * aT.size+off+τ.size)).toArray t (0,0) hh;have UQ:ic (w.setRow b (l.take (i * aT.size+off)++x.cells.toList++l.drop (i * aT.size+off+τ.size)).toArray) (.tuple (.slice (some ⟨b,0,none⟩) xs.length cap::(l.take (i * aT.size+off)++x.cells.toList++l.drop (i * aT.size+off+τ.size))).toArray) aT (xs.set i y) (b::f'):=by
  obtain⟨v0,l0,a1,RD,h1,h2,h3,h4,h5,h6⟩:=h.aO.tr id aT xs aS;rw[fg] at h1;simp only[b0x] at h1;have h1:(Value.slice (some ⟨b,0,none⟩) xs.length cap::l)=v0::l0:=congrArg Array.toList h1;simp only[a9a] at h1;obtain⟨hq,uN⟩:=h1;rw[h2] at hq;simp only[b0J] at hq;obtain⟨rfl,_,rfl⟩:=hq;have C3:l.length=cap * aT.size:=by
   rw[uN];rcases h6 with ⟨_,h',_⟩|⟨_,_,_,_,_,_,k0,_⟩
   .cases h'.1
   .exact k0
  exact⟨_,_,_,cap,rfl,by simp,by simpa using h3,h4,by simpa using h5, .inr ⟨b,f',t,rfl,rfl,oU,by rw[<-C3];simp only[List.length_append,List.length_take,List.length_drop,qF];omega,k1⟩⟩
 have Zd:=h.aO.pl id aT xs;have:=h.a3s (w':=w.setRow b (l.take (i * aT.size+off)++x.cells.toList++l.drop (i * aT.size+off+τ.size)).toArray) (t:=s.cw.iE id aT (xs.set i y)) (F:=λ k=>k=b)
  (A:=[(id,(.tuple (.slice (some ⟨b,0,none⟩) xs.length cap::(l.take (i * aT.size+off)++x.cells.toList++l.drop (i * aT.size+off+τ.size))).toArray,b::f', .aC aT (xs.set i y)))]) ?_ ?_ ?_ (by simp)
  ⟨rfl,rfl,rfl,by simp[World.setRow],λ k hk dv=>yL k dv⟩ (λ k hk=>⟨_,a9w.2 rfl,by rw[oN,hk];simp⟩) rfl (λ j=>?_) (d:=none) (v := .any) (x:=undef) (λ _ _=>trivial)
 .obtain⟨G',hG⟩:=this;exact⟨_,G',cz,hG⟩
 .intro p hp;simp only[a9w] at hp;subst hp;exact⟨aT,xs,_,_,l,_,aS,rfl,fg,rfl,UQ,a9z.2 ⟨k3,k2⟩⟩
 .intro p hp k hk;simp only[a9w] at hp;subst hp;rcases a9k.1 hk with rfl|hk
  .exact .inl ⟨_,a9w.2 rfl,by rw[oN];simp⟩
  .rcases k4 k hk with hk|hk
   .exact .inl ⟨_,a9w.2 rfl,by rw[oN];simp[hk]⟩
   .exact .inr (hk.grow (by simp[World.setRow]))
 .intro p hp q hq k _ _;simp only[a9w] at hp hq;rw[hp,hq]
 .rw[V4,mz]
theorem BN.cells{w:World}{τ:Ty}{y:τ.den}{x:Value}{fp:List Nat}(h:BN w ⟨τ,y⟩ x fp):Ow w (τ.aE y) x.cells.toList fp:=by
 cases τ with
 | st s =>
  obtain⟨cs,rfl,h⟩:=h;exact h
 | slice t =>
  obtain⟨a',cap,h1,_⟩:=id h;simp only[a9a,a9q] at h1;subst h1;exact h
 | mv t =>
  have h1:=Ow.length _ (show Ow w (mvD t.size t.aE y) [x] fp from h);cases hy:(show Option (List t.den) from y) with
  | none =>
   have e:y=(none:Option (List t.den)):=hy;subst e;obtain⟨⟨a',n,m,h1⟩,_⟩:=id h;simp only[a9a,a9q] at h1;subst h1;exact h
  | some l =>
   have e:y=(some l:Option (List t.den)):=hy;subst e;obtain⟨a',cap,h1,_⟩:=id h;simp only[a9a,a9q] at h1;subst h1;exact h
 | ptr=>obtain⟨⟨p,h1⟩,_⟩:=id h;simp only[a9a,a9q] at h1;subst h1;exact h
 | int k=>obtain⟨⟨h1,_⟩,_⟩:=id h;simp only[a9a,a9q] at h1;subst h1;exact h
 | bool=>have h1:=h.1;simp only[a9a,a9q] at h1;subst h1;exact h
 | str=>obtain⟨⟨z,h1,_⟩,_⟩:=id h;simp only[a9a,a9q] at h1;subst h1;exact h
theorem Ql(l:List Value)(k:Nat)(v:Value)(h:k<l.length):l.take k++[v]++l.drop (k+1)=l.set k v:=by
 rw[List.set_eq_take_append_cons_drop,a9l h,a9B];rfl
theorem Iu(h:Inv c G s a w){ids:List Nat}{b:Nat}(hb:tH G s.af ids b):tF c G (ids.foldl ag.gone s).af w b:=by
 obtain⟨id,hi,hq⟩:=hb;have hp:(c.w0.heap.size<=b\/c.X b)/\¬ G.S b/\b<w.heap.size:=by
  rcases hq with ⟨τ,xs,q1,q2⟩|⟨e,τ,xs,q1,q2⟩
  .obtain⟨p1,p2,p3,_⟩:=h.aO.pl id τ xs b q1 q2;exact⟨p1,p2,p3⟩
  .obtain⟨p1,p2,p3⟩:=h.place id _ b q1 q2;exact⟨p1,p2,p3⟩
 refine⟨hp.1,hp.2.1,hp.2.2,λ i o cg uG=>?_,λ j τ xs hj na=>?_⟩
 .obtain⟨h1,o',h2,_⟩:=Gu ids cg;rcases hq with ⟨τ,xs,q1,q2⟩|⟨e,τ,xs,q1,q2⟩
  .exact (h.aO.pl id τ xs b q1 q2).2.2.2 i o' h2 uG
  .have:=h.apart i id o' _ b h2 q1 uG q2;subst this;exact h1 hi
 .obtain⟨h1,o',h2,h3⟩:=Gu ids hj;have:=h3 τ xs rfl;subst this;rcases hq with ⟨aT,cM,q1,q2⟩|⟨e,aT,cM,q1,q2⟩
  .have:=h.aO.ap j id _ _ _ _ b h2 q1 na q2;subst this;exact h1 hi
  .exact (h.aO.pl j τ xs b h2 na).2.2.2 id _ q1 q2
theorem a2E{l:List Operand}{u v:AV}(h:Inv c G s a w)(hl:l.map s.eval=[u,v]):∃ x y,l.map a.eval=[x,y]/\VR c G s.af w u x/\VR c G s.af w v y:=by
 have:=aM.jQ (aW h) l;rw[hl] at this;match hx:l.map a.eval,this with
 | [x,y],hh=>exact⟨x,y,rfl,hh.1,hh.2.1⟩
theorem CH{lk:Nat->Option av}{id i sz:Nat}(hit:cP (lk id)=true){a0:Option Addr}{n cap:Nat}{l:List Value}(fg:G.η id = .tuple (.slice a0 n cap::l).toArray)(fe:i<n):∀ (us:List TV) (j:Nat) (cs:List Value) (fp:List Nat),(∀ u∈us,Ww u.τ=true) ->
  cV w (us.map TV.aE) cs fp->(∀ k x,cs[k]?=some x->l[i * sz+(j+k)]?=some x)->aM (C1 c G lk w) (Ki id i sz j us) cs
 | [],j,cs,fp,_,h,_=>by
  obtain⟨rfl,_⟩:=h;trivial
 | ⟨τ,y⟩::us,j,cs,fp,Zb,h,hl=>by
  obtain⟨v,r,f1,f2,rfl,rfl,h3,h4⟩:=h;have ih:=CH hit fg fe us (j+1) r f2 (λ u hu=>Zb u (List.mem_cons_of_mem _ hu)) h4 (λ k x hk=>by have:=hl (k+1) x (by simpa using hk);rwa [show j+(k+1)=j+1+k by omega] at this);have ho:Ww τ=true:=Zb ⟨τ,y⟩ (by simp);have hv:=hl 0 v rfl;refine⟨?_,ih⟩;cases τ with
  | slice t =>
   refine⟨hit,_,_,_,_,fg,fe,hv,?_⟩;obtain⟨a',Ot,q,_⟩:=h3;simp only[a9a,a9q] at q;exact⟨_,_,_,q⟩
  | mv t=>cases ho
  | st s=>cases ho
  | int k=>exact⟨rfl,h3.1⟩
  | bool=>exact⟨rfl,h3.1⟩
  | str=>exact⟨rfl,h3.1⟩
  | ptr=>exact⟨rfl,h3.1⟩
theorem Xo(hE:bn c.P c.E)(h:Inv c G s a w){o:Oper}{vc:Vc}{s':ag}(hq:TO c.E s o=some (vc,s'))(dY:vc.ok){Q:Exit->Act->World->Prop} :
  o.wp c.P a w (λ a' w'=>∃ G',Inv c G' s' a' w') Q:=by
 unfold TO at hq;split at hq;case h_1 T x ix bf =>
  split at hq;case h_2=>cases hq
  case h_1 τ r hT =>
  split at hq;case h_2=>cases hq
  case h_1 k i id hi hx =>
  split at hq;case h_2=>cases hq
  case h_1 aT xs aS =>
  split at hq;case h_2=>cases hq
  case h_1 ep =>
  have bZ:aT.size=τ.size:=by
   simp only[b0B] at ep;rcases ep with ep|ep
   .rw[a9y ep]
   .unfold Ty.a4r at ep;split at ep
    .rename_i p q;have e:=congrArg List.length (a9y ep);rw[a9M] at e;have e1:=congrArg List.length (aG.iQ p p.zero);have e2:=congrArg List.length (aG.iQ q q.zero);rw[a9M,aG.fF] at e1 e2;simp only[Ty.size];omega
    .cases ep
  simp only[a8V,a8Y] at hq;obtain⟨rfl,rfl⟩:=hq;have ga:=aW h ix;rw[hi] at ga;obtain⟨ga,_⟩:=ga;simp only[a9a,a9q] at ga;have hv:=aW h x;rw[hx] at hv;obtain⟨hit,l,fg,ad,m,cap,B5⟩:=hv;obtain⟨h0,h1⟩:=dY;have hTr:=h.aO.tr id aT xs aS;rw[B5] at fg;have hm:m=xs.length:=by
   obtain⟨v0,l0,a1,RD,q1,q2,_⟩:=hTr;rw[fg] at q1;simp only[b0x] at q1;have q1:(Value.slice ad m cap::l)=v0::l0:=congrArg Array.toList q1;simp only[a9a] at q1;rw[q2] at q1;simp only[b0J] at q1;exact q1.1.2.1
  subst hm;obtain⟨_,b,f,t,e1,_⟩:=tC hTr fg (i:=i.toNat) (by omega);subst e1;refine zq h (x := .pointer (some ⟨b,0+i.toNat * τ.size,none⟩)) ?_ ⟨hit,b,_,cap,l,fg,by omega,by simp⟩;simp only[execOp,bf,B5,ga,a9r,oG hE hT h0 h1,a9m,a9u]
 case h_2 T x i bf =>
  split at hq;case h_2=>cases hq
  case h_1 st r hT =>
  split at hq;case h_2=>cases hq
  case h_1 id k off sz hx =>
  split at hq;case h_2=>cases hq
  case h_1 bj =>
  simp only[Option.some.injEq,Prod.mk.injEq] at hq;obtain⟨rfl,rfl⟩:=hq;simp only[Bool.and_eq_true,Bool.not_eq_true'] at bj;have ha:=bj.1;have bj:i<st.dc.length:=by simpa [Nat.blt_eq] using bj.2
  have hv:=aW h x;rw[hx] at hv;obtain⟨h1,b,m,cap,l,h2,h3,h4⟩:=hv;refine zq h (x := .pointer (some ⟨b,k * sz+(off+st.dx i),none⟩)) ?_ ⟨h1,b,m,cap,l,h2,h3,rfl⟩;simp only[execOp,bf,h4,a9r,AR hE hT ha bj,a9m,a9u,b2o]
 case h_3 T ad bf =>
  split at hq;case h_2=>cases hq
  case h_1 τ r hT =>
  split at hq;case h_2=>cases hq
  case h_1 id i off sz hx =>
  split at hq;case h_2=>cases hq
  case h_1 aT xs aS =>
  split at hq;case h_2 =>
   unfold Vm at hq;split at hq;case h_2=>cases hq
   case h_1 q iv =>
   clear iv;split at hq;case h_2=>cases hq
   case h_1 y hb hy =>
   simp only[a8V,a8Y] at hq;obtain⟨rfl,rfl⟩:=hq;have Ze:aT = .st q/\HEq (xs.getD i aT.zero) y:=by
    have e:=TV.aQ hy;simp only[TV.mk.injEq] at e;exact e
   obtain⟨rfl,e2⟩:=Ze;have e2:=b1V e2;simp only[a9e] at hb;obtain⟨rJ,CZ,Kt⟩:=hb;have rJ:=a8W rJ;have CZ:=a8W CZ;subst rJ CZ;have hv:=aW h ad;rw[hx] at hv;obtain⟨h1,b,m,cap,l,h2,h3,h4⟩:=hv;have UQ:=h.aO.tr id _ xs aS;obtain⟨hn,b',f,t,e1,Pm,hh,eW⟩:=tC UQ h2 h3;simp only[a8V,b0M,a9q] at e1;subst e1;have EX:i<xs.length:=by omega
   have C3:l.length=cap * q.size/\xs.length<=cap:=by
    obtain⟨v0,l0,a1,RD,k1,k2,k3,k4,k5,k6⟩:=UQ;rw[h2] at k1;simp only[b0x] at k1;have k1:(Value.slice (some ⟨b,0,none⟩) m cap::l)=v0::l0:=congrArg Array.toList k1;simp only[a9a] at k1;obtain⟨k7,rfl⟩:=k1;rw[k2] at k7;simp only[b0J] at k7;obtain⟨_,_,rfl⟩:=k7;rcases k6 with ⟨rfl,_,_⟩|⟨_,_,_,_,_,_,k8,_⟩
    .simp at EX
    .exact⟨k8,k3⟩
   have bZ:∀ d∈xs.map (Ty.aE (.st q)),d.size=q.size:=λ d hd=>by
    obtain⟨z,_,rfl⟩:=a9b.1 hd;exact Ty.cq (.st q) z
   obtain⟨f0,f1,f2,hf,m0,m1,m2⟩:=bJ.split (xs.map (Ty.aE (.st q))) i (Ty.aE (.st q) (xs.getD i (Ty.zero (.st q)))) eW bZ (by simp[List.getD,EX]);have sL:((l.drop (i * q.size)).take q.size).length=q.size:=by
    rw[a9W,b0h,C3.1];have:i * q.size+q.size<=cap * q.size:=by rw[<-Nat.succ_mul];exact b0H _ (by omega)
    omega
   have m1:cV w ((q.cells y).map TV.aE) ((l.drop (i * q.size)).take q.size) f1:=by
    have:=m1;rw[show Ty.aE (.st q) (xs.getD i (Ty.zero (.st q)))=q.aE (xs.getD i (Ty.zero (.st q))) from rfl,aG.bQ] at this;rw[<-e2];exact this
   have L7:∀ k x,((l.drop (i * q.size)).take q.size)[k]?=some x->l[i * q.size+k]?=some x:=λ k x hk=>by
    rw[b0i] at hk;split at hk
    .rwa [b1e] at hk
    .cases hk
   have fD:bm w b (i * q.size+0) ((l.drop (i * q.size)).take q.size):=λ j z hj=>by
    simp[World.cell?,hh,L7 j z hj]
   refine zq h (x := .agg ((l.drop (i * q.size)).take q.size).toArray) ?_ ⟨_,rfl,CH h1 h2 h3 (q.cells y) 0 _ f1 (λ u hu=>?_) m1 (λ k x hk=>by rw[b0t];exact L7 k x hk)⟩
   .simp only[execOp,bf,h4,a9r,gF hE hT fD sL,a9m,a9u];rfl
   .have:u.τ∈q.nr:=by rw[<-aG.iQ q y];exact a9b.2 ⟨u,hu,rfl⟩
    exact a9H.1 Kt _ this
  case h_1 u hu hb =>
  simp only[Bool.and_eq_true,Bool.not_eq_true'] at hb;obtain⟨rJ,CZ,Kt⟩:=hb;have rJ:=Nat.eq_of_beq_eq_true rJ;subst rJ;have Kt:off<aT.size:=by simpa [Nat.blt_eq] using Kt
  have hv:=aW h ad;rw[hx] at hv;obtain⟨h1,b,m,cap,l,h2,h3,h4⟩:=hv;obtain⟨rfl,v,f1,p1,p2,_⟩:=XI (h.aO.tr id aT xs aS) (h.aO.nd id aT xs aS) h2 h3 hu CZ Kt;obtain⟨_,b',f,t,e1,_,hh,_⟩:=tC (h.aO.tr id aT xs aS) h2 h3;simp only[a8V,b0M,a9q] at e1;subst e1;have fD:bm w b (i * aT.size+off) [v]:=λ j z hj=>by
   cases j with
   | zero =>
    simp at hj;subst hj;simp[World.cell?,hh,p1]
   | succ j=>simp at hj
  have W4:τ.size=1:=Ty.eN CZ;have cz:(execOp a.eval o).run c.P w = .ok (.value (yZ τ [v])) w:=by
   simp only[execOp,bf,h4,a9r,gF hE hT fD (by rw[W4];rfl),a9m,a9u]
  have hmk:yZ τ [v]=v:=by cases τ<;>first|rfl|cases CZ
  rw[hmk] at cz;have Zh:u.τ=τ:=by
   unfold TV.part at hu;split at hu
   .rename_i gB;simp only[a9e] at gB;simp only[a8V] at hu;rw[<-hu];exact a9y gB.2
   .split at hu
    .split at hu
     .rename_i hd;simp only[a8V] at hu;rw[<-hu];exact a9y hd
     .cases hu
    .cases hu
  split at hq;case h_1 Aq =>
   simp only[a8V,a8Y] at hq;obtain⟨rfl,rfl⟩:=hq;refine zq h cz ?_;obtain⟨Wb,yu⟩:=u;have Zh:Wb=τ:=Zh;subst Zh;have hl:(Ty.aE Wb yu).light=true:=qQ Aq yu;have hr:Rd w G.S (Ty.aE Wb yu) [v]:=by
    cases Wb with
    | int k=>exact p2.1
    | bool=>exact p2.1
    | str=>exact p2.1
    | slice t=>cases Aq
    | mv t=>cases Aq
    | ptr=>exact p2.1
    | st s=>cases Aq
   cases Wb with
   | mv t=>cases Aq
   | st s=>cases Aq
   | slice t=>cases Aq
   | _=>exact hr
  case h_2 Aq =>
   simp only[a8V,a8Y] at hq;obtain⟨rfl,rfl⟩:=hq;refine zq h cz ⟨h1,_,_,cap,l,h2,h3,p1,?_⟩;obtain⟨Wb,yu⟩:=u;have Zh:Wb=τ:=Zh;subst Zh;cases Wb with
   | slice t =>
    obtain⟨a',Ot,q,_⟩:=p2;simp only[a9a,a9q] at q;exact⟨_,_,_,q⟩
   | st s=>cases CZ
   | mv t =>
    cases hy:(show Option (List t.den) from yu) with
    | none =>
     have e:yu=(none:Option (List t.den)):=hy;subst e;obtain⟨⟨a',n,m,q⟩,_⟩:=p2;simp only[a9a,a9q] at q;exact⟨_,_,_,q⟩
    | some l =>
     have e:yu=(some l:Option (List t.den)):=hy;subst e;obtain⟨a',Ot,q,_⟩:=p2;simp only[a9a,a9q] at q;exact⟨_,_,_,q⟩
   | int k=>cases Aq
   | bool=>cases Aq
   | str=>cases Aq
   | ptr=>cases Aq
 case h_4 T ad x bf =>
  split at hq;case h_2=>cases hq
  case h_1 τ r hT =>
  split at hq;case h_2=>cases hq
  case h_1 id i off sz hx =>
  split at hq;case h_2=>cases hq
  case h_1 aT xs aS =>
  split at hq;case h_2=>cases hq
  case h_1 hb =>
  simp only[Bool.and_eq_true] at hb;obtain⟨rJ,Kt⟩:=hb;have rJ:=Nat.eq_of_beq_eq_true rJ;subst rJ;have Kt:off<aT.size:=by simpa [Nat.blt_eq] using Kt
  have hp:=aW h ad;rw[hx] at hp;have Tq:=aW h x;have fe:i<xs.length:=by
   obtain⟨_,b,m,cap,l,h2,h3,_⟩:=hp;obtain⟨h4,_⟩:=tC (h.aO.tr id aT xs aS) h2 h3;omega
  split at hq;case h_1 Aq =>
   split at hq;case h_2=>cases hq
   case h_1 u j hu =>
   split at hq;case h_2=>cases hq
   case h_1 u0 y hu0 hy =>
   simp only[a8V,a8Y] at hq;obtain⟨rfl,rfl⟩:=hq;have uF:τ.agg=false:=by cases τ<;>first|rfl|cases Aq
   have W4:τ.size=1:=Ty.eN uF;have fD:(a.eval x).cells.toList=[a.eval x]/\(a.eval x).oneCell'=true/\Ow w (τ.aE u) [a.eval x] []:=by
    have hc:C1 c G s.af w (s.eval x) (a.eval x)/\(s.eval x).cell=true:=by
     have hcc:(s.eval x).cell=true:=by
      revert hu;cases cD:s.eval x with
      | aN v =>
       intro hu;simp only[eB] at hu;split at hu
       .rename_i Pj;have e:=TV.aQ Pj;subst e;cases τ<;>first|rfl|cases uF
       .cases hu
      | nil=>intro hu;cases τ<;>first|(cases Aq;done)|(cases hu;done)
      | aC id=>intro hu;simp[eB] at hu
      | row id=>intro hu;simp[eB] at hu
      | _=>intro hu;cases hu
     exact⟨Tq.Si hcc,hcc⟩
    obtain⟨q1,q2⟩:=hc.1.leaf hc.2;refine⟨by rw[q2],q1,?_⟩;revert hu;have Kw:=hc.1;revert Kw;cases s.eval x with
    | aN v =>
     intro Kw hu;simp only[eB] at hu;split at hu
     .rename_i a7i Pj;have e:=TV.aQ Pj;subst e;simp only[a8V,a8Y] at hu;rw[<-hu.1];exact Ow.ey (S:=G.S) _ (qQ a7i _) Kw.2
     .cases hu
    | nil=>intro _ hu;cases τ<;>first|(cases Aq;done)|(cases hu;done)
    | aC id=>intro _ hu;simp[eB] at hu
    | row id=>intro _ hu;simp[eB] at hu
    | _=>intro _ hu;cases hu
   obtain⟨c1,c2,c3⟩:=fD;obtain⟨w',G',k1,k2⟩:=Qu hE h hT aS hp (y:=y) (x:=a.eval x) (by omega) (by rw[c1,W4];rfl) (by rw[c1];simpa using c2) (λ b f l w' Pm hlen eW yL=>by
    have bZ:∀ d∈xs.map aT.aE,d.size=aT.size:=by
     intro d hd;obtain⟨z,_,rfl⟩:=a9b.1 hd;exact Ty.cq aT z
    have dj:=h.aO.nd id aT xs aS;rw[Pm,a9z] at dj;obtain⟨QS,O8⟩:=dj;have gJ:∀ k∈f,w'.heap[k]?=w.heap[k]?:=λ k hk=>yL k λ e=>QS (e ▸ hk);obtain⟨g0,g1,g2,rfl,_,m1,m2⟩:=bJ.split (xs.map aT.aE) i (aT.aE (xs.getD i aT.zero)) eW bZ (by simp[List.getD,fe]);obtain⟨v,p0,p1,p2,rfl,q1,q2,q3⟩:=Mk hu0 uF m1;have hy2:=q3 w' ⟨τ,u⟩ y (a.eval x) [] hy (λ k hk=>gJ k (by simp at hk ⊢;rcases hk with hk|hk<;>simp[hk])) (c3.aL _ (by simp));have hr:=m2 w' (aT.aE y) _ (p0++[]++p2) (λ k hk=>gJ k (by simp at hk ⊢;rcases hk with hk|hk<;>simp[hk])) (by simp only[b1x,a9W,b0h];omega) hy2;rw[VN l _ _ _ _ Kt hlen,<-b2A] at hr;refine⟨_,by rw[c1,W4,Ql _ _ _ (by omega)];exact hr,?_,λ hk=>QS ?_,λ k hk => .inl ?_⟩
    .refine xj (f1:=p0++p1++p2) O8 (xj (f1:=p1) ?_ b0c (by simp)) (λ k hk => .inl (by simp at hk ⊢;rcases hk with hk|hk<;>simp[hk]));rw[a9s,a9s] at O8;exact O8.1.2.1
    .simp at hk ⊢;rcases hk with hk|hk|hk|hk<;>simp[hk]
    .simp at hk ⊢;rcases hk with hk|hk|hk|hk<;>simp[hk])
   exact DO bf k1 k2
  case h_2 Aq =>
   split at hq;case h_2=>cases hq
   case h_1 y ids om ht =>
   split at hq;case h_2=>cases hq
   case h_1 y' dj Pj =>
   simp only[a8V,a8Y] at hq;obtain⟨rfl,rfl⟩:=hq;have om:=a8W om;subst om;have e:=TV.aQ Pj;have et:τ=aT:=congrArg TV.τ e;subst et;cases e;have dj:=cX dj;rw[a9z] at dj;obtain⟨a4j,a2Z⟩:=dj;obtain⟨fq,o1,o2,o3⟩:=qU h ht Tq a2Z;have iG:=BN.cells o1;have hlen:=Ow.length _ iG;rw[Ty.cq] at hlen;have h1:=uA ids h;have RX:=L4 ids aS a4j;obtain⟨_,b0,m0,a6k,l0,a7n,QW,hp0⟩:=hp;obtain⟨w',G',k1,k2⟩:=Qu hE h1 hT RX (i:=i) (off:=0) (p:=a.eval ad) ⟨by rw[RX];rfl,b0,m0,a6k,l0,a7n,QW,hp0⟩ (y:=y) (x:=a.eval x) (by omega) hlen
    (Rd.jt (S:=λ b=>b∈fq) (x:=y) (Ow.rd _ iG λ b hb=>hb)) (λ b f l w' Pm a7X eW yL=>by
    have bZ:∀ d∈xs.map τ.aE,d.size=τ.size:=by
     intro d hd;obtain⟨z,_,rfl⟩:=a9b.1 hd;exact Ty.cq τ z
    have a4l:=h.aO.nd id τ xs aS;rw[Pm,a9z] at a4l;obtain⟨QS,O8⟩:=a4l;have gJ:∀ k∈f,w'.heap[k]?=w.heap[k]?:=λ k hk=>yL k λ e=>QS (e ▸ hk);have wD:∀ k∈fq,k∉b::f:=λ k hk eK=>by
     refine h.gK (o3 k hk) (j:=[id]) ⟨id,by simp, .inl ⟨τ,xs,aS,by rw[Pm];exact eK⟩⟩ λ x1 EW y1 Q2 e=>?_;simp only[a9w] at Q2;exact a4j (by rw[<-Q2,<-e];exact EW)
    obtain⟨g0,g1,g2,rfl,_,m1,m2⟩:=bJ.split (xs.map τ.aE) i (τ.aE (xs.getD i τ.zero)) eW bZ (by simp[List.getD,fe]);have hr:=m2 w' (τ.aE y) (a.eval x).cells.toList fq (λ k hk=>gJ k (by simp at hk ⊢;rcases hk with hk|hk<;>simp[hk])) hlen (iG.aL _ λ k hk=>yL k λ e=>wD k hk (by simp[e]));rw[<-b2A] at hr;refine⟨g0++fq++g2,by rw[b0P];exact hr,?_,λ hk=>?_,λ k hk=>?_⟩
    .rw[a9s,a9s] at O8;obtain⟨⟨n1,n2,n3⟩,n4,n5⟩:=O8;refine dL (dL n1 o2 λ k hk eK=>wD k eK (by simp[hk])) n4 λ k hk eK=>?_;rcases a8X.1 hk with hk|hk
     .exact n5 k (a8X.2 (.inl hk)) k eK rfl
     .exact wD k hk (by simp[eK])
    .rcases a8X.1 hk with hk|hk
     .rcases a8X.1 hk with hk|hk
      .exact QS (by simp[hk])
      .exact wD b hk (by simp)
     .exact QS (by simp[hk])
    .rcases a8X.1 hk with hk|hk
     .rcases a8X.1 hk with hk|hk
      .exact .inl (by simp[hk])
      .exact .inr (Iu h (o3 k hk))
     .exact .inl (by simp[hk]))
   exact DO bf k1 k2
 case h_5 T l cc bf =>
  split at hq;case h_2=>cases hq
  case h_1 d τ b e hd hT =>
  split at hq;case h_2=>cases hq
  case h_1 dF =>
  have a6T:d<50\/100<=d:=by
   simp only[a9e,b0B] at dF;rcases dF.2 with q|q
   .exact .inl (by simpa [Nat.blt_eq] using q)
   .exact .inr (a9V q)
  split at hq;case h_2=>cases hq
  case h_1 n m hn hm =>
  simp only[a8V,a8Y] at hq;obtain⟨rfl,rfl⟩:=hq;have hl:=aW h l;have hc:=aW h cc;rw[hn] at hl;rw[hm] at hc;obtain⟨hl,_⟩:=hl;obtain⟨hc,_⟩:=hc;simp only[a9a,a9q] at hl hc;obtain⟨v1,v2,v3,v4⟩:=Mf dY;obtain⟨h1,_,i,z,h3,h4,h5,h6,h7⟩:=hE.slice hT;have hzo:=a2y (c:=c) (G:=G) (s:=s) (w:=w.alloc (.cells (madeCells z.cells (m.toNat * i.size)) e)) h7;have Zi:=Ow.length _ hzo;rw[Ty.cq,a9P] at Zi;have hr:=run_make (P:=c.P) w T e i z h1 h3 h6 .i64 .i64 n m v1 v2 (by rw[h5];omega) (by omega);have hI:=bd.alloc (Ko h d) (.cells (madeCells z.cells (m.toNat * i.size)) e);have pJ:(s.gone d).af d=none:=by rw[AI,a9l rfl]
  obtain⟨r1,r2⟩:=hI.PZ pJ;have eW:bJ (w.alloc (.cells (madeCells z.cells (m.toNat * i.size)) e)) ((List.replicate n.toNat τ.zero).map τ.aE) (madeCells z.cells (m.toNat * i.size)).toList []:=by
   rw[b3n];have hle:n.toNat * z.cells.size<=m.toNat * i.size:=by rw[h4,Zi];exact b0H _ (by omega)
   have:=bJ.more _ ((madeCells z.cells (m.toNat * i.size)).toList.drop (n.toNat * z.cells.size)) (Fz hzo n.toNat);rwa [<-Bv _ _ _ hle,b0r] at this
  have UQ:ic (w.alloc (.cells (madeCells z.cells (m.toNat * i.size)) e)) (.tuple (.slice (some ⟨w.heap.size,0,none⟩) n.toNat m.toNat::(madeCells z.cells (m.toNat * i.size)).toList).toArray) τ (List.replicate n.toNat τ.zero) [w.heap.size] :=
   ⟨_,_,some ⟨w.heap.size,0,none⟩,m.toNat,rfl,by simp,by simp;omega,by simp only[maxLen];omega,by simp;omega, .inr ⟨w.heap.size,[],e,rfl,rfl,by simpa using heap_alloc_new w (.cells (madeCells z.cells (m.toNat * i.size)) e),by simp[madeCells,h4],eW⟩⟩
  have hN:=hI.PV d τ (List.replicate n.toNat τ.zero) _ [w.heap.size] pJ r1 r2 (by
   cases hr:c.R d with
   | none=>rfl
   | some v =>
    have h1:=h.gX d v hr;rcases a6T with q|q
    .exact absurd h1.1 (Nat.not_le.2 q)
    .exact absurd h1.2 (Nat.not_lt.2 q)) UQ (by simp) (λ k hk=>by
   simp only[a9w] at hk;subst hk;have hg:=Ko h d;refine⟨.inl h.aL.size,λ hs=>b1t _ (h.dI _ hs),by simp,λ i o cg uG=>?_,λ j je lF hj na=>?_⟩
   .exact b1t _ (hg.place i o _ cg uG).2.2
   .exact b1t _ (hg.aO.pl j je lF _ hj na).2.2.1)
  unfold Oper.wp;have cz:(execOp a.eval o).run c.P w = .ok (.value (.slice (some ⟨w.heap.size,0,none⟩) n.toNat m.toNat)) (w.alloc (.cells (madeCells z.cells (m.toNat * i.size)) e)):=by
   simp only[execOp,bf,hl,hc,a9r,hr,a9m,a9u]
  rw[cz];have key:=bd.put (d:=some d) (v := .aC d) (x := .slice (some ⟨w.heap.size,0,none⟩) n.toNat m.toNat) hN ⟨by simp[cP],_,by simp;rfl,_,_,_,rfl⟩;have bS:ag.af { aw:=(s.gone d).aw.set d (.aC d),aH:=(d, .aC τ (List.replicate n.toNat τ.zero))::(s.gone d).aH }=λ i=>if i=d then some (.aC τ (List.replicate n.toNat τ.zero)) else (s.gone d).af i:=by
   funext i;exact dn _ _ _ _
  have conv:∀ G',bd c G' (iO (s.gone d).aw.length (s.gone d).sl (some d) (.aC d)) (s.gone d).aw.length (λ i=>if i=d then some (.aC τ (List.replicate n.toNat τ.zero)) else (s.gone d).af i) (a.put (some d) (.slice (some ⟨w.heap.size,0,none⟩) n.toNat m.toNat)) (w.alloc (.cells (madeCells z.cells (m.toNat * i.size)) e))->Inv c G' { aw:=(s.gone d).aw.set d (.aC d),aH:=(d, .aC τ (List.replicate n.toNat τ.zero))::(s.gone d).aH } (a.put o.dst (.slice (some ⟨w.heap.size,0,none⟩) n.toNat m.toNat)) (w.alloc (.cells (madeCells z.cells (m.toNat * i.size)) e)):=by
   intro G' hh;unfold Inv;rw[bS,hd,show ag.sl { aw:=(s.gone d).aw.set d (.aC d),aH:=(d, .aC τ (List.replicate n.toNat τ.zero))::(s.gone d).aH }=iO (s.gone d).aw.length (s.gone d).sl (some d) (.aC d) from oI _ d _ _,
    show ({ aw:=(s.gone d).aw.set d (.aC d),aH:=(d, .aC τ (List.replicate n.toNat τ.zero))::(s.gone d).aH }:ag).aw.length=(s.gone d).aw.length from by simp]
   exact hh
  exact⟨_,conv _ key⟩
 case h_6 cl bf =>
  split at hq;case h_1 fY =>
   split at hq;case h_2=>cases hq
   case h_1 T id O1 xT =>
   split at hq;case h_2=>cases hq
   case h_1 t r _ τ xs hT aS =>
   simp only[a8V,a8Y] at hq;obtain⟨rfl,rfl⟩:=hq;have dU:=aM.jQ (aW h) cl.args.toList;rw[xT] at dU;match iU:cl.args.toList.map a.eval,dU with
   | [x],dU =>
    obtain⟨_,l,fg,ad,m,cap,B5⟩:=dU.1;have hm:m=xs.length/\xs.length<=140737488355328:=by
     obtain⟨v0,l0,a1,RD,q1,q2,_,_,q5,_⟩:=h.aO.tr id τ xs aS;rw[fg,B5] at q1;simp only[b0x] at q1;have q1:(Value.slice ad m cap::l)=v0::l0:=congrArg Array.toList q1;simp only[a9a] at q1;rw[q2] at q1;simp only[b0J] at q1;exact⟨q1.1.2.1,q5⟩
    obtain⟨rfl,hmx⟩:=hm;have II:cl.argTypes = #[T]:=by rw[<-a9T (xs:=cl.argTypes),O1]
    have C9:cl.args.map a.eval = #[x]:=by rw[<-a9T (xs:=cl.args.map a.eval),b0S,iU]
    have O5:(execOp a.eval o)=(do let d <-resolve a.eval cl o.type;invoke d.target d.args):=by simp[execOp,bf]
    have IN:(execOp a.eval o).run c.P w=((Builtin.len_ #[T] o.type #[x]).run c.P w).andThen λ v w => .ok (.value v) w:=by
     rw[O5];simp[resolve,fY,invoke,builtin,II,C9]
    obtain⟨k1,_,_⟩:=hE.slice hT;have QT:∃ q,c.P.elem T=q/\c.P.underlying T=some (.slice q):=⟨_,by simp[Program.elem,k1],k1⟩;obtain⟨q,QT,k1⟩:=QT;refine zq h (x := .int .i64 xs.length) ?_ (a3n ⟨by omega,by omega⟩);rw[IN,B5,run_len_slice w T o.type ad xs.length cap (by rw[QT];exact k1)];rfl
  case h_2 f fY =>
   split at hq;case h_2=>cases hq
   case h_1 d hd =>
   split at hq;case h_2=>cases hq
   split at hq;case h_1 m hm =>
    cases hq
   case h_2 hm =>
    split at hq;case h_2=>cases hq
    case h_1 Z9 has =>
    split at hq;case h_2=>cases hq
    case h_1 pre res hc =>
    split at hq;case h_2=>cases hq
    case h_1 hb =>
    simp only[Option.some.injEq,Prod.mk.injEq] at hq;obtain⟨rfl,rfl⟩:=hq;simp only[Bool.and_eq_true,List.all_eq_true] at hb;exact P4 hE h has (aM.jQ (aW h) cl.args.toList) hc dY hd (λ p hp=>by simpa using hb.1 p hp) (cX hb.2) (by omega) (λ rK=>iD bf fY rfl rK)
  case h_3=>cases hq
 case h_7=>cases hq
end
section
variable {w:World}
theorem bJ.join{n:Nat}:∀ (ds:List D) {l:List Value} {fp:List Nat},bJ w ds l fp->(∀ d∈ds,d.size=n) ->
  ds.length * n<=l.length/\∀ (es:List D) (m:List Value) (f2:List Nat),bJ w es m f2->bJ w (ds++es) (l.take (ds.length * n)++m) (fp++f2)
 | [],l,fp,h,_=>by
  have h:fp=[]:=h;subst h;exact⟨by simp,λ es m f2 k=>by simpa using k⟩
 | d::ds,l,fp,h,hn=>by
  obtain⟨c,r,f1,f2,rfl,rfl,h3,h4⟩:=h;have hc:c.length=n:=by rw[Ow.length d h3];exact hn d (by simp)
  obtain⟨k1,k2⟩:=bJ.join ds h4 λ d hd=>hn d (by simp[hd]);have e:(d::ds).length * n=c.length+ds.length * n:=by rw[a9f,a9Y,hc];omega
  refine⟨by rw[e,a9i];omega,λ es m f3 k=>?_⟩;refine⟨c,r.take (ds.length * n)++m,f1,f2++f3,?_,by simp,h3,k2 es m f3 k⟩;rw[e,ya,a9B]
theorem bJ.rdL{n:Nat}:∀ (ds:List D) {l:List Value} {fp:List Nat},bJ w ds l fp->(∀ d∈ds,d.size=n)->cZ w (λ _=>True) ds (l.take (ds.length * n))
 | [],l,fp,h,_=>by simp[cZ]
 | d::ds,l,fp,h,hn=>by
  obtain⟨c,r,f1,f2,rfl,rfl,h3,h4⟩:=h;have hc:c.length=n:=by rw[Ow.length d h3];exact hn d (by simp)
  have e:(d::ds).length * n=c.length+ds.length * n:=by rw[a9f,a9Y,hc];omega
  exact⟨c,r.take (ds.length * n),by rw[e,ya],Ow.rd d h3 λ _ _=>trivial,bJ.rdL ds h4 λ d hd=>hn d (by simp[hd])⟩
theorem Ha{τ:Ty}(xs:List τ.den):∀ d∈xs.map τ.aE,d.size=τ.size:=by
 intro d hd;obtain⟨z,_,rfl⟩:=a9b.1 hd;exact Ty.cq τ z
theorem LU{g k:Nat}{l:List Value}{t:TypeId}(h:w.heap[g]?=some (.cells l.toArray t (0,0))):∀ j v,(l.take k)[j]?=some v->w.cell? ((⟨g,0,none⟩:Addr).add j)=some v:=by
 intro j v hj;rw[Addr.add_lit];have:=CA (w:=w) (b:=g) (p:=[]) (c:=l.take k) (r:=l.drop k) (t:=t) (by simpa using h) j v hj;simpa using this
theorem Jz{P:Program}(t ty e:TypeId)(i:TypeInfo)(ht:P.underlying t=some (.slice e))(hi:P.info? e=some i)
  (g Qi a1O:Nat) (cur:Array Value) (t2:TypeId) (hg:w.heap[g]?=some (.cells cur t2 (0,0)))
  (a:Addr) (m c:Nat) (news:List Value) (hl:news.length=m * i.size) (Am:∀ j u,news[j]?=some u->w.cell? (a.add j)=some u) (h1:∀ u∈news,u.oneCell'=true)
  (Ap:Qi+m<=a1O) (C5:Qi * i.size+news.length<=cur.size) :
  (Builtin.append_ #[t,t] ty #[.slice (some ⟨g,0,none⟩) Qi a1O, .slice (some a) m c]).run P w =
   .ok (.slice (some ⟨g,0,none⟩) (Qi+m) a1O) (w.setRow g (cur.toList.take (Qi * i.size)++news++cur.toList.drop (Qi * i.size+news.length)).toArray):=by
 have hf:=run_firstCells_some (P:=P) w i.size m a m c news hl Am;have cd:=run_storeCells_at P g (Qi * i.size) t2 news 0 cur w hg (by simpa using C5) h1;simp only[Nat.add_zero] at cd;simp[Builtin.append_,run_underlying ht,sizeOf,typeInfo,hi,Builtin.lenOf,Ap,hf,Addr.add_lit,cd]
theorem RR{τ:Ty}{zs:List τ.den}{q:List Value}{fp:List Nat}{z:Array Value}{cap:Nat}{e:TypeId}(hq:bJ w (zs.map τ.aE) q fp)(hql:q.length=zs.length * τ.size)(Pk:z.size=τ.size)
  (hc:zs.length<=cap) (hm:cap<=maxLen) (h47:zs.length<=140737488355328) (bj:∀ b∈fp,b<w.heap.size) :
  ic (w.drew.alloc (.cells (q.toArray++Builtin.zeroCells z (cap - zs.length)) e)) (.tuple (.slice (some ⟨w.heap.size,0,none⟩) zs.length cap::(q.toArray++Builtin.zeroCells z (cap - zs.length)).toList).toArray) τ zs (w.heap.size::fp):=by
 refine⟨_,_,some ⟨w.heap.size,0,none⟩,cap,rfl,rfl,hc,hm,h47, .inr ⟨w.heap.size,fp,e,rfl,rfl,?_,?_,?_⟩⟩
 .rw[a9T];exact b0k w.drew _
 .simp only[b3h,a9i,hql,a9P,size_zeroCells,Pk];rw[<-a9Y];congr 1;omega
 .rw[b3h];have hk:∀ b∈fp,(w.drew.alloc (.cells (q.toArray++Builtin.zeroCells z (cap - zs.length)) e)).heap[b]?=w.heap[b]?:=λ b hb=>heap_alloc_old w.drew _ b (bj b hb);have:=bJ.aL _ hq hk;have more:∀ (ds:List D) {l:List Value} {f:List Nat} (m:List Value),bJ (w.drew.alloc (.cells (q.toArray++Builtin.zeroCells z (cap - zs.length)) e)) ds l f->bJ (w.drew.alloc (.cells (q.toArray++Builtin.zeroCells z (cap - zs.length)) e)) ds (l++m) f:=by
   intro ds;induction ds with
   | nil=>intro l f m h;exact h
   | cons d ds ih =>
    intro l f m h;obtain⟨cc,r,f1,f2,rfl,hf,h3,h4⟩:=h;exact⟨cc,r++m,f1,f2,by simp,hf,h3,ih m h4⟩
  exact more _ _ this
end
section
variable {c:Ctx} {G:Gh} {sl:Nat->AV} {n:Nat} {lk:Nat->Option av} {a:Act} {w w':World}
theorem Sy(hE:bn c.P c.E){T:TypeId}{τ:Ty}{b e:Nat}(hT:af c.E.ty T=some (.slice τ,b,e)){xs ys:List τ.den}{x y:Value}{fx fy:List Nat}
  (hx:Ow w (.slice τ.size (xs.map τ.aE)) [x] fx) (hy:Ow w (.slice τ.size (ys.map τ.aE)) [y] fy) (QX:∀ k∈fx,k<w.heap.size) (hly:∀ k∈fy,k<w.heap.size) (vU:fx.Nodup) (hny:fy.Nodup) (hd:∀ k∈fx,k∉fy)
  (Ap:bz (xs.length+ys.length) b) (ty:TypeId) :
  ∃ v' w' fp l,(Builtin.append_ #[T,T] ty #[x,y]).run c.P w = .ok v' w'/\ic w' (.tuple (v'::l).toArray) τ (xs++ys) fp/\(∃ a n m,v' = .slice a n m)/\fp.Nodup/\(∀ k∈fp,k∈fx\/k∈fy\/(w.heap.size<=k/\k<w'.heap.size))/\bI (λ k=>k∈fx) w w':=by
 obtain⟨k1,⟨b',e',k2⟩,i,zv,k3,k4,k5,k6,k7⟩:=hE.slice hT;have Pk:zv.cells.size=τ.size:=by
  have:=Rd.length _ (JW (w:=w) (S:=λ _=>True) k7);rwa [Ty.cq,a9P] at this
 have C7:=τ.size_pos;have Q0:(xs.length+ys.length) * b<=140737488355328/\xs.length+ys.length<=140737488355328:=by
  unfold bz at Ap;rw[Nat.mul_add,Nat.mul_one] at Ap;omega
 have IT:xs.length+ys.length<=maxLen:=by simp only[maxLen];omega
 obtain⟨lx,hxT,_⟩:=ic.a1C hx;have KB:=hx;obtain⟨ax,Fg,x1,x2,x3,x4,x5⟩:=hx;obtain⟨ay,Uv,y1,y2,y3,y4,y5⟩:=hy;simp only[a9a,a9q,a9M] at x1 x2 x4 y1 y2 y4;subst x1 y1;have same:(Builtin.append_ #[T,T] ty #[.slice ax xs.length Fg, .slice ay ys.length Uv]).run c.P w = .ok (.slice ax xs.length Fg) w->ys=[]->∃ v' w' fp l,(Builtin.append_ #[T,T] ty #[.slice ax xs.length Fg, .slice ay ys.length Uv]).run c.P w = .ok v' w'/\ic w' (.tuple (v'::l).toArray) τ (xs++ys) fp/\(∃ a n m,v' = .slice a n m)/\fp.Nodup/\(∀ k∈fp,k∈fx\/k∈fy\/(w.heap.size<=k/\k<w'.heap.size))/\bI (λ k=>k∈fx) w w':=by
  intro hr he;subst he;exact⟨_,w,fx,lx,hr,by simpa using hxT,⟨_,_,_,rfl⟩,vU,λ k hk => .inl hk,bI.refl _ _⟩
 rcases y5 with ⟨q1,⟨q2,q3⟩,q4⟩|⟨gy,f2,l2,t2,q1,q2,q3,q4,q5⟩
 .have B7:ys=[]:=by simpa using q1
  subst B7;refine same ?_ rfl;subst q2;simp[Builtin.append_,a9I k1,sizeOf,typeInfo,k3,Builtin.lenOf,Builtin.firstCells,x2,storeCells];cases ax<;>rfl
 .subst q1 q2;have hsy:=Ha ys;obtain⟨j1,_⟩:=bJ.join _ q5 hsy;rw[a9M] at j1;have An:(l2.take (ys.length * τ.size)).length=ys.length * τ.size:=by rw[a9W];omega
  have uM:∀ u∈l2.take (ys.length * τ.size),u.oneCell'=true:=by
   have:=bJ.rdL _ q5 hsy;rw[a9M] at this;exact cZ.jt this
  have Am:=LU (w:=w) (k:=ys.length * τ.size) q3;have a1g:bJ w (ys.map τ.aE) (l2.take (ys.length * τ.size)) f2:=by
   have:=(bJ.join _ q5 hsy).2 [] [] [] rfl;simpa using this
  rcases x5 with ⟨p1,⟨p2,p3⟩,p4⟩|⟨gx,f1,l1,t1,p1,p2,p3,p4,p5⟩
  .have iU:xs=[]:=by simpa using p1
   subst iU p2 p3 p4;by_cases hm:ys=[]
   .refine same ?_ hm;subst hm;simp[Builtin.append_,a9I k1,sizeOf,typeInfo,k3,Builtin.lenOf,Builtin.firstCells,loadCells,loadCellsFrom]
   .have hm0:0<ys.length:=List.length_pos_iff.2 hm;have hr:=run_append_nil (P:=c.P) w T ty e i zv k1 k3 k6 ⟨gy,0,none⟩ ys.length Uv (l2.take (ys.length * τ.size)) (by rw[An,k4]) Am hm0 (by omega) (by rw[k5];have:=Q0.1;simp only[List.length_nil,Nat.zero_add] at this;omega);have hg:=RR (w:=w) (e:=e) (zs:=ys) (cap:=grownCap w ys.length 0 e) a1g An Pk (grownCap_ge w ys.length 0 e) (grownCap_le_maxLen w ys.length 0 e (by simpa using IT)) (by omega) (λ k hk=>hly k (by simp[hk]));refine⟨.slice (some ⟨w.heap.size,0,none⟩) ys.length (grownCap w ys.length 0 e),w.drew.alloc (.cells ((l2.take (ys.length * τ.size)).toArray++Builtin.zeroCells zv.cells (grownCap w ys.length 0 e - ys.length)) e),w.heap.size::f2,_,hr,hg,⟨_,_,_,rfl⟩,?_,?_,⟨rfl,rfl,rfl,by simp,λ k hk _=>heap_alloc_old w.drew _ k hk⟩⟩
    .rw[a9z] at hny ⊢;exact⟨λ hh=>b1t _ (hly _ (by simp[hh])),hny.2⟩
    .intro k hk;rcases a9k.1 hk with rfl|hk
     .exact .inr (.inr ⟨a9n _,by simp⟩)
     .exact .inr (.inl (by simp[hk]))
  .subst p1 p2;have hsx:=Ha xs;obtain⟨i1,i2⟩:=bJ.join _ p5 hsx;rw[a9M] at i1 i2;have qF:(l1.take (xs.length * τ.size)).length=xs.length * τ.size:=by rw[a9W];omega
   have O8:(f1++f2).Nodup/\gx∉f1++f2:=by
    rw[a9z] at vU hny;refine⟨a9s.2 ⟨vU.2,hny.2,λ k hk k' eK e=>?_⟩,λ hh=>?_⟩
    .subst e;exact hd k (by simp[hk]) (by simp[eK])
    .rcases a8X.1 hh with hh|hh
     .exact vU.1 hh
     .exact hd gx (by simp) (by simp[hh])
   have eW:=i2 (ys.map τ.aE) _ f2 a1g;rw[<-b0p] at eW;by_cases C5:xs.length+ys.length<=Fg
   .have iG:xs.length * i.size+(l2.take (ys.length * τ.size)).length<=l1.toArray.size:=by
     rw[An,k4,<-a9Y,b2t,p4];exact b0H _ C5
    have hr:=Jz (P:=c.P) (w:=w) T ty e i k1 k3 gx xs.length Fg l1.toArray t1 p3 ⟨gy,0,none⟩ ys.length Uv (l2.take (ys.length * τ.size)) (by rw[An,k4]) Am uM C5 iG;have gJ:∀ k,k≠gx->(w.setRow gx (l1.toArray.toList.take (xs.length * i.size)++l2.take (ys.length * τ.size)++l1.toArray.toList.drop (xs.length * i.size+(l2.take (ys.length * τ.size)).length)).toArray).heap[k]?=w.heap[k]?:=λ k hk=>kU w p3 k hk;refine⟨_,_,gx::(f1++f2),(l1.take (xs.length * τ.size)++l2.take (ys.length * τ.size)++l1.drop (xs.length * τ.size+ys.length * τ.size)),hr,?_,⟨_,_,_,rfl⟩,a9z.2 ⟨O8.2,O8.1⟩,?_,⟨rfl,rfl,rfl,by simp[World.setRow],λ k hk dv=>gJ k λ e=>dv (by simp[e])⟩⟩
    .refine⟨_,_,some ⟨gx,0,none⟩,Fg,rfl,by simp,by simpa using C5,x3,by simp;omega, .inr ⟨gx,f1++f2,t1,rfl,rfl,?_,?_,?_⟩⟩
     .have:=b3v w gx l1.toArray (l1.toArray.toList.take (xs.length * i.size)++l2.take (ys.length * τ.size)++l1.toArray.toList.drop (xs.length * i.size+(l2.take (ys.length * τ.size)).length)).toArray t1 (0,0) p3;rw[this,An,k4]
     .simp only[a9i,qF,An,b0h,p4];have:xs.length * τ.size+ys.length * τ.size<=Fg * τ.size:=by rw[<-a9Y];exact b0H _ C5
      omega
     .have hk:∀ k∈f1++f2,(w.setRow gx (l1.toArray.toList.take (xs.length * i.size)++l2.take (ys.length * τ.size)++l1.toArray.toList.drop (xs.length * i.size+(l2.take (ys.length * τ.size)).length)).toArray).heap[k]?=w.heap[k]?:=λ k hk=>gJ k λ e=>O8.2 (e ▸ hk);have h2:=bJ.aL _ eW hk;have more:∀ (w2:World) (ds:List D) {l:List Value} {f:List Nat} (m:List Value),bJ w2 ds l f->bJ w2 ds (l++m) f:=by
       intro w2 ds;induction ds with
       | nil=>intro l f m h;exact h
       | cons d ds ih =>
        intro l f m h;obtain⟨cc,r,f1,f2,rfl,hf,h3,h4⟩:=h;exact⟨cc,r++m,f1,f2,by simp,hf,h3,ih m h4⟩
      exact more _ _ _ h2
    .intro k hk;rcases a9k.1 hk with rfl|hk
     .exact .inl (by simp)
     .rcases a8X.1 hk with hk|hk
      .exact .inl (by simp[hk])
      .exact .inr (.inl (by simp[hk]))
   .have hr:=run_append_grow (P:=c.P) w T ty e i zv k1 k3 k6 ⟨gx,0,none⟩ xs.length Fg (l1.take (xs.length * τ.size)) (by rw[qF,k4]) (LU p3) ⟨gy,0,none⟩ ys.length Uv (l2.take (ys.length * τ.size)) (by rw[An,k4]) Am (by omega) (by omega) (by rw[k5];exact growslice_fits (by omega) Q0.1);have hql:(l1.take (xs.length * τ.size)++l2.take (ys.length * τ.size)).length=(xs++ys).length * τ.size:=by rw[a9i,qF,An,a9i,a9Y]
    have hle:(xs++ys).length=xs.length+ys.length:=a9i;have bj:∀ k∈f1++f2,k<w.heap.size:=λ k hk=>by
     rcases a8X.1 hk with hk|hk
     .exact QX k (by simp[hk])
     .exact hly k (by simp[hk])
    have hg:=RR (w:=w) (e:=e) (zs:=xs++ys) (cap:=grownCap w (xs.length+ys.length) Fg e) eW hql Pk (by rw[hle];exact grownCap_ge w _ _ e) (grownCap_le_maxLen w _ _ e IT) (by omega) bj;rw[hle] at hg;refine⟨_,w.drew.alloc (.cells ((l1.take (xs.length * τ.size)).toArray++(l2.take (ys.length * τ.size)).toArray++Builtin.zeroCells zv.cells (grownCap w (xs.length+ys.length) Fg e - (xs.length+ys.length))) e),w.heap.size::(f1++f2),_,hr,by simpa [hle] using hg,⟨_,_,_,rfl⟩,?_,?_,⟨rfl,rfl,rfl,by simp,λ k hk _=>heap_alloc_old w.drew _ k hk⟩⟩
    .exact a9z.2 ⟨λ hh=>b1t _ (bj _ hh),O8.1⟩
    .intro k hk;rcases a9k.1 hk with rfl|hk
     .exact .inr (.inr ⟨a9n _,by simp⟩)
     .rcases a8X.1 hk with hk|hk
      .exact .inl (by simp[hk])
      .exact .inr (.inl (by simp[hk]))
end
section
variable {c:Ctx} {G:Gh} {s:ag} {a:Act} {w w':World}
theorem Inv.built(h:Inv c G s a w){ids:List Nat}{d:Nat}{τ:Ty}{zs:List τ.den}{fp:List Nat}{v':Value}{l:List Value}(hk:bI (λ b=>tH G s.af ids b) w w')(hT:ic w' (.tuple (v'::l).toArray) τ zs fp)
  (hv:∃ a n m,v' = .slice a n m) (dj:fp.Nodup) (oN:∀ b∈fp,tH G s.af ids b\/(w.heap.size<=b/\b<w'.heap.size)) (pJ:(ids.foldl ag.gone s).af (bE d)=none) :
  ∃ G',Inv c G' ((ids.foldl ag.gone s).qs d τ zs) (a.put (some d) v') w':=by
 have h1:Inv c G (ids.foldl ag.gone s) a w:=uA ids h;have hF:∀ b,tH G s.af ids b->tF c G (ids.foldl ag.gone s).af w b:=λ b hb=>Iu h hb;generalize W4:ids.foldl ag.gone s=s1 at *
 have hblk:∀ b,b<w.heap.size->¬ tH G s.af ids b->w'.heap[b]?=w.heap[b]?:=λ b hb hn=>hk.block b hb hn;have h2:bd c G s1.sl s1.aw.length s1.af a w':=by
  refine bd.world (S':=G.S) h1 ⟨hk.os,hk.tape,hk.output,hk.size,λ b hb hn=>hblk b hb λ hi=>hn (hF b hi).1⟩ (λ _ h=>h) (λ _ _=>b0X) h1.sX (λ b hb=>a9g (h1.dI b hb) hk.size) ?_ ?_ ?_
  .intro b hb;rcases hb with hb|hb
   .exact hblk b (h1.dI b hb) λ hi=>(hF b hi).2.1 hb
   .exact hblk b (a9g hb.1 h1.aL.size) λ hi=>(hF b hi).1.elim (λ q=>by omega) hb.2.1
  .intro id o b ho hb;exact hblk b (h1.place id o b ho hb).2.2 λ hi=>(hF b hi).2.2.2.1 id o ho hb
  .intro id aT cM b ht hb;exact hblk b (h1.aO.pl id aT cM b ht hb).2.2.1 λ hi=>(hF b hi).2.2.2.2 id aT cM ht hb
 obtain⟨r1,r2⟩:=h2.PZ pJ;have hR:c.R (bE d)=none:=by
  cases hr:c.R (bE d) with
  | none=>rfl
  | some v=>have:=(h.gX _ v hr).2;unfold bE at this;omega
 have h3:=h2.PV (bE d) τ zs _ fp pJ r1 r2 hR hT dj (λ b hb=>by
  rcases oN b hb with hi|⟨q1,q2⟩
  .obtain⟨f1,f2,f3,f4,f5⟩:=hF b hi;exact⟨f1,f2,a9g f3 hk.size,f4,f5⟩
  .refine⟨.inl (b0b h1.aL.size q1),λ hs=>?_,q2,λ i o cg uG=>?_,λ j je lF hj na=>?_⟩
   .have:=h1.dI b hs;omega
   .have:=(h1.place i o b cg uG).2.2;omega
   .have:=(h1.aO.pl j je lF b hj na).2.2.1;omega)
 have key:=bd.put (d:=some d) (v := .aC (bE d)) (x:=v') h3 ⟨by simp[cP],l,by simp,hv⟩;have bS:(s1.qs d τ zs).af=λ i=>if i=bE d then some (.aC τ zs) else s1.af i:=by
  funext i;exact dn _ _ _ _
 have conv:∀ G',bd c G' (iO s1.aw.length s1.sl (some d) (.aC (bE d))) s1.aw.length (λ i=>if i=bE d then some (.aC τ zs) else s1.af i) (a.put (some d) v') w'->Inv c G' (s1.qs d τ zs) (a.put (some d) v') w':=by
  intro G' hh;unfold Inv;rw[bS,show (s1.qs d τ zs).sl=iO s1.aw.length s1.sl (some d) (.aC (bE d)) from oI _ d _ _,show (s1.qs d τ zs).aw.length=s1.aw.length from by simp[ag.qs]];exact hh
 exact⟨_,conv _ key⟩
theorem Inv.over{s1:ag}{X:Nat->Prop}(h1:Inv c G s1 a w)(hF:∀ b,X b->tF c G s1.af w b)(hk:bI X w w'):bd c G s1.sl s1.aw.length s1.af a w':=by
 have hblk:∀ b,b<w.heap.size->¬ X b->w'.heap[b]?=w.heap[b]?:=λ b hb hn=>hk.block b hb hn;refine bd.world (S':=G.S) h1 ⟨hk.os,hk.tape,hk.output,hk.size,λ b hb hn=>hblk b hb λ hi=>hn (hF b hi).1⟩ (λ _ h=>h) (λ _ _=>b0X) h1.sX (λ b hb=>a9g (h1.dI b hb) hk.size) ?_ ?_ ?_
 .intro b hb;rcases hb with hb|hb
  .exact hblk b (h1.dI b hb) λ hi=>(hF b hi).2.1 hb
  .exact hblk b (a9g hb.1 h1.aL.size) λ hi=>(hF b hi).1.elim (λ q=>by omega) hb.2.1
 .intro id o b ho hb;exact hblk b (h1.place id o b ho hb).2.2 λ hi=>(hF b hi).2.2.2.1 id o ho hb
 .intro id aT cM b ht hb;exact hblk b (h1.aO.pl id aT cM b ht hb).2.2.1 λ hi=>(hF b hi).2.2.2.2 id aT cM ht hb
theorem tF.a3i{lk:Nat->Option av}{b:Nat}(h:tF c G lk w b):¬ SX G lk b:=by
 rintro (hb|⟨id,e,τ,ys,aS,hb⟩|⟨id,τ,ys,aS,hb⟩)
 .exact h.2.1 hb
 .exact h.2.2.2.1 id _ aS hb
 .exact h.2.2.2.2 id τ ys aS hb
theorem vL(h:Inv c G s a w):∀ {fl:List Bool} {Ts:List TypeId} {vs:List AV} {xs:List Value} {own:List (Option TV)} {ids:List Nat},fM c.E s.af fl Ts vs=some (own,ids)->ids.Nodup->aM (VR c G s.af w) vs xs ->
  ∃ xL:List (List Nat),aM (λ (o:Option TV) (q:Value×List Nat)=>match o with
   | some v=>BN w v q.1 q.2
   | none=>q.2=[]) own (xs.zip xL)/\xL.length=xs.length/\xL.flatten.Nodup/\∀ b∈xL.flatten,tH G s.af ids b
 | [],[],[],[],own,ids,ht,_,_=>by
  simp only[fM,a8V,a8Y] at ht;obtain⟨rfl,rfl⟩:=ht;exact⟨[],U,rfl,by simp,by simp⟩
 | true::fl,T::Ts,v::vs,x::xs,own,ids,ht,hn,hv=>by
  simp only[fM] at ht;split at ht;case h_2=>cases ht
  case h_1 τ q hT =>
  split at ht;case h_2=>cases ht
  case h_1 y i hy =>
  split at ht;case h_2=>cases ht
  case h_1 r j hr =>
  simp only[a8V,a8Y] at ht;obtain⟨rfl,rfl⟩:=ht;rw[a9s] at hn;obtain⟨n1,n2,n3⟩:=hn;obtain⟨f1,o1,o2,o3⟩:=qU h hy hv.1 n1;obtain⟨xL,p1,p2,p3,p4⟩:=vL h hr n2 hv.2;refine⟨f1::xL,⟨o1,p1⟩,by simp[p2],?_,?_⟩
  .rw[List.flatten_cons];exact dL o2 p3 λ b hb cm=>h.gK (o3 b hb) (p4 b cm) (λ x hx y hy=>n3 x hx y hy)
  .intro b hb;rw[List.flatten_cons] at hb;rcases a8X.1 hb with hb|hb
   .exact (o3 b hb).mono λ i hi=>by simp[hi]
   .exact (p4 b hb).mono λ i hi=>by simp[hi]
 | false::fl,T::Ts,v::vs,x::xs,own,ids,ht,hn,hv=>by
  simp only[fM] at ht;split at ht;case h_2=>cases ht
  case h_1 r j hr =>
  simp only[Option.some.injEq,Prod.mk.injEq] at ht;obtain⟨rfl,rfl⟩:=ht;obtain⟨xL,p1,p2,p3,p4⟩:=vL h hr hn hv.2;exact⟨[]::xL,⟨rfl,p1⟩,by simp[p2],by simpa using p3,by simpa using p4⟩
 | [],_::_,_,_,_,_,ht,_,_=>by simp[fM] at ht
 | [],[],_::_,_,_,_,ht,_,_=>by simp[fM] at ht
 | [],[],[],_::_,_,_,_,_,hv=>hv.elim
 | true::_,[],_,_,_,_,ht,_,_=>by simp[fM] at ht
 | false::_,[],_,_,_,_,ht,_,_=>by simp[fM] at ht
 | true::_,_::_,[],_,_,_,ht,_,_=>by simp[fM] at ht
 | false::_,_::_,[],_,_,_,ht,_,_=>by simp[fM] at ht
 | _,_,_::_,[],_,_,_,_,hv=>hv.elim
theorem sb(hE:bn c.P c.E)(h:Inv c G s a w):∀ {own:List (Option TV)} {Ts:List TypeId} {vs:List AV} {xs:List Value} {xL:List (List Nat)} {Z9:List Arg},eM c.E s.af own Ts vs=some Z9 ->
  aM (λ (o:Option TV) (q:Value×List Nat)=>match o with
   | some v=>BN w v q.1 q.2
   | none=>q.2=[]) own (xs.zip xL)->xL.length=xs.length->aM (VR c G s.af w) vs xs->qW c.P w (SX G s.af) Z9 xs xL.flatten/\∀ a∈Z9,a.Hq=true
 | [],[],[],[],xL,Z9,hm,hO,hl,hv=>by
  simp only[eM,Option.some.injEq] at hm;subst hm;have:xL=[]:=List.eq_nil_of_length_eq_zero (by simpa using hl);subst this;exact⟨rfl,by simp⟩
 | some y::own,T::Ts,v::vs,x::xs,f::xL,Z9,hm,hO,hl,hv=>by
  simp only[eM] at hm;split at hm;case h_2=>cases hm
  case h_1 r hr =>
  simp only[Option.some.injEq] at hm;subst hm;obtain⟨q1,q2⟩:=sb hE h hr hO.2 (by simpa using hl) hv.2;refine⟨⟨f,xL.flatten,by simp,hO.1,q1⟩,λ a ha=>?_⟩;rcases List.mem_cons.1 ha with rfl|ha
  .rfl
  .exact q2 a ha
 | none::own,T::Ts,v::vs,x::xs,f::xL,Z9,hm,hO,hl,hv=>by
  simp only[eM] at hm;split at hm;case h_2=>cases hm
  case h_1 y hy =>
  split at hm;case h_2=>cases hm
  case h_1 r L9 hr =>
  simp only[Option.some.injEq] at hm;subst hm;obtain⟨q1,q2⟩:=sb hE h hr hO.2 (by simpa using hl) hv.2;have hf:f=[]:=hO.1;subst hf;have h1:=gh hE h (λ _ _ h=>h) (λ _ h => .inl h) (λ τ v x y h1 h2=>wg h.aO h.aH (λ _ _ h=>h) h1 h2) (Ts:=[T]) (vs:=[v]) (Z9:=[y]) (xs:=[x]) (by simp only[kx,hy]) ⟨hv.1,U⟩;refine⟨⟨[],xL.flatten,by simp,?_,q1⟩,λ a ha=>?_⟩
  .have h1:=h1.1;cases y with
   | own v=>exact h1.elim
   | box k=>exact h1.elim
   | _=>exact⟨rfl,h1⟩
  .rcases a9k.1 ha with rfl|ha
   .exact L9
   .exact q2 a ha
 | [],[],[],_::_,_,_,_,_,_,hv=>hv.elim
 | _,_,_::_,[],_,_,_,_,_,hv=>hv.elim
 | [],_::_,_,_,_,_,hm,_,_,_=>by simp[eM] at hm
 | [],[],_::_,_,_,_,hm,_,_,_=>by simp[eM] at hm
 | some _::_,[],_,_,_,_,hm,_,_,_=>by simp[eM] at hm
 | none::_,[],_,_,_,_,hm,_,_,_=>by simp[eM] at hm
 | some _::_,_::_,[],_,_,_,hm,_,_,_=>by simp[eM] at hm
 | none::_,_::_,[],_,_,_,hm,_,_,_=>by simp[eM] at hm
 | _::_,_::_,_::_,_::_,[],_,_,_,hl,_=>by simp at hl
theorem Qx{lk:Nat->Option av}{τ:Ty}:∀ {ps:List (Nat×AV)} {n:Nat} {xs:List τ.den} {ids:List Nat},DS lk τ n ps=some (xs,ids)->xs.length=ps.length
 | [],n,xs,ids,h=>by
  simp only[DS,a8V,a8Y] at h;obtain⟨rfl,_⟩:=h;rfl
 | (i,v)::ps,n,xs,ids,h=>by
  simp only[DS] at h;split at h
  .split at h
   .split at h
    .rename_i q;simp only[a8V,a8Y] at h;obtain⟨rfl,_⟩:=h;simp[Qx q]
    .cases h
   .cases h
  .cases h
theorem Mt(h:Inv c G s a w){τ:Ty}{place:Nat->Option (Nat×Nat)}(hp:∀ i,place i=some (i * τ.size,τ.size)) :
  ∀ {ps:List (Nat×AV)} {vs:List (Nat×Value)} {n:Nat} {xs:List τ.den} {ids:List Nat} {l:List Value},DS s.af τ n ps=some (xs,ids)->aM (λ p q=>p.1=q.1/\VR c G s.af w p.2 q.2) ps vs->ids.Nodup ->
   (n+ps.length) * τ.size=l.length->∃ r fp,Instr.fill place l.toArray vs=some (l.take (n * τ.size)++r).toArray/\bJ w (xs.map τ.aE) r fp/\r.length=xs.length * τ.size/\fp.Nodup/\∀ b∈fp,tH G s.af ids b
 | [],[],n,xs,ids,l,h1,_,_,hl=>by
  simp only[DS,a8V,a8Y] at h1;obtain⟨rfl,rfl⟩:=h1;refine⟨[],[],?_,rfl,by simp,b0c,by simp⟩;simp only[a9v,b0P] at hl;rw[hl,b1T,a9U];rfl
 | (i,v)::ps,(j,x)::vs,n,xs,ids,l,h1,hv,dj,hl=>by
  obtain⟨⟨uK,hx⟩,Pc⟩:=hv;have uK:i=j:=uK;subst uK;simp only[DS] at h1;split at h1
  .rename_i fe;have fe:=a8W fe;subst fe;split at h1
   .rename_i y i1 hy;split at h1
    .rename_i ys js B7;simp only[a8V,a8Y] at h1;obtain⟨rfl,rfl⟩:=h1;rw[a9s] at dj;obtain⟨n1,n2,n3⟩:=dj;obtain⟨f1,o1,o2,o3⟩:=qU h hy hx n1;have hr:=BN.cells o1;have bZ:x.cells.size=τ.size:=by
      have:=Ow.length _ hr;rw[Ty.cq] at this;simpa using this
     simp only[a9f] at hl;have C7:=τ.size_pos;have e1:(i+(ps.length+1)) * τ.size=i * τ.size+τ.size+ps.length * τ.size:=by
      rw[a9Y,a9Y];omega
     rw[Km place i _ _ x vs l (hp i) bZ (by omega)];obtain⟨r,f2,q1,q2,q3,q4,q5⟩:=Mt h hp (l:=l.take (i * τ.size)++x.cells.toList++l.drop (i * τ.size+τ.size)) B7 Pc n2 (by
      simp[bZ];rw[show (i+1+ps.length) * τ.size=i * τ.size+τ.size+ps.length * τ.size by rw[a9Y,a9Y];omega];omega)
     refine⟨x.cells.toList++r,f1++f2,?_,⟨_,_,f1,f2,rfl,rfl,hr,q2⟩,?_,?_,?_⟩
     .rw[q1];congr 2;rw[show (i+1) * τ.size=i * τ.size+τ.size by rw[a9Y];omega];have ht:(l.take (i * τ.size)++x.cells.toList).length=i * τ.size+τ.size:=by simp[bZ];omega
      rw[<-ht,b0Z,a9B]
     .simp only[a9i,a9f,a9P,bZ,q3,a9Y];omega
     .exact dL o2 q4 λ b hb cm=>h.gK (o3 b hb) (q5 b cm) (λ x hx y hy=>n3 x hx y hy)
     .intro b hb;rcases a8X.1 hb with hb|hb
      .exact (o3 b hb).mono λ i hi=>by simp[hi]
      .exact (q5 b hb).mono λ i hi=>by simp[hi]
    .cases h1
   .cases h1
  .cases h1
 | [],_::_,_,_,_,_,_,hv,_,_=>hv.elim
 | _::_,[],_,_,_,_,_,hv,_,_=>hv.elim
theorem bI.a1z{X Y:Nat->Prop}{w w':World}(h:bI X w w')(hXY:∀ b,X b->Y b):bI Y w w':=⟨h.os,h.tape,h.output,h.size,λ b hb hn=>h.block b hb λ hx=>hn (hXY b hx)⟩
theorem Tt(h:Inv c G s a w){ids:List Nat}{b:Nat}(hb:tH G s.af ids b):b<w.heap.size:=(Iu h hb).2.2.1
theorem V1{lk:Nat->Option av}{τ:Ty}{v:AV}{r:τ.den×List Nat}(h:eB lk τ v=some r):v.cell=true\/∃ s x,v = .aN ⟨.st s,x⟩:=by
 cases v with
 | aN u =>
  obtain⟨aT,x⟩:=u;cases aT with
  | st s=>exact .inr ⟨s,x,rfl⟩
  | _=>exact .inl rfl
 | nil=>exact .inl rfl
 | aC id=>exact .inl rfl
 | row id=>exact .inl rfl
 | _=>simp[eB] at h
theorem a2n(h:Inv c G s a w){τ:Ty}{v:AV}{x:Value}{xs:List τ.den}{ids:List Nat}(ht:eB s.af (.slice τ) v=some (xs,ids))(hv:VR c G s.af w v x):∃ fp,Ow w (.slice τ.size (xs.map τ.aE)) [x] fp/\fp.Nodup/\∀ b∈fp,tH G s.af ids b:=by
 rcases V1 ht with hc|⟨st,y,rfl⟩
 .exact xq h ht (hv.Si hc)
 .simp[eB,Ty.sY] at ht
theorem iJ:∀ {us:List TV} {cs:List Value} {fp:List Nat},cV w (us.map TV.aE) cs fp->yg us->cV w ((us.map WH).map TV.aE) cs fp
 | [],_,_,h,_=>h
 | ⟨τ,x⟩::us,cs,fp,h,hf=>by
  obtain⟨v,r,f1,f2,rfl,rfl,h3,h4⟩:=h;cases τ with
  | mv t =>
   have hf:Option.isSome (α:=List t.den) x=true/\yg us:=hf;refine⟨v,r,f1,f2,rfl,rfl,?_,iJ h4 hf.2⟩;match x,hf.1,h3 with
   | some l,_,h3=>exact h3
  | ptr=>exact⟨v,r,f1,f2,rfl,rfl,h3,iJ h4 hf⟩
  | int k=>exact⟨v,r,f1,f2,rfl,rfl,h3,iJ h4 hf⟩
  | bool=>exact⟨v,r,f1,f2,rfl,rfl,h3,iJ h4 hf⟩
  | str=>exact⟨v,r,f1,f2,rfl,rfl,h3,iJ h4 hf⟩
  | slice t=>exact⟨v,r,f1,f2,rfl,rfl,h3,iJ h4 hf⟩
  | st q=>exact⟨v,r,f1,f2,rfl,rfl,h3,iJ h4 hf⟩
theorem Ij:∀ {us:List TV} {cs:List Value} {fp:List Nat},cV w (us.map TV.aE) cs fp->(∀ u∈us,u.τ.NI=true)->cV w ((us.map SS).map TV.aE) cs []
 | [],_,_,h,_=>⟨h.1,rfl⟩
 | ⟨τ,x⟩::us,cs,fp,h,hf=>by
  obtain⟨v,r,f1,f2,rfl,rfl,h3,h4⟩:=h;have hr:=Ij h4 λ u hu=>hf u (by simp[hu]);have sc:τ.sY=true->Ow w (τ.aE x) [v] []:=λ hs=>Ow.ey (S:=λ _=>True) _ (qQ hs x) (Ow.rd _ h3 λ _ _=>trivial);have hm:τ.NI=true:=hf ⟨τ,x⟩ (by simp);cases τ with
  | mv t =>
   refine⟨v,r,[],[],rfl,rfl,?_,hr⟩;match x,h3 with
   | some l,h3=>obtain⟨a',cap,k1,_⟩:=h3;exact⟨⟨_,_,_,k1⟩,rfl⟩
   | none,h3=>exact⟨h3.1,rfl⟩
  | int k=>exact⟨v,r,[],[],rfl,rfl,sc rfl,hr⟩
  | bool=>exact⟨v,r,[],[],rfl,rfl,sc rfl,hr⟩
  | str=>exact⟨v,r,[],[],rfl,rfl,sc rfl,hr⟩
  | slice t=>cases hm
  | ptr=>exact⟨v,r,[],[],rfl,rfl,sc rfl,hr⟩
  | st q=>cases hm
theorem ZE(l:List Value)(k n:Nat):l.take k++(l.drop k).take n++l.drop (k+n)=l:=by
 rw[a9B,<-b2h,b0r,b0r]
theorem Inv.a5A(h:Inv c G s a w){id i:Nat}{p q:aG}{xs:List (Ty.den (.st p))}{y:p.den}{z:q.den}(aS:s.af id=some (.aC (.st p) xs))
  (hy:p.e8 ((p.cells (xs.getD i (Ty.zero (.st p)))).map SS)=some y) (hz:q.e8 ((p.cells (xs.getD i (Ty.zero (.st p)))).map WH)=some z) (Aq:p.nr.all Ty.NI=true)
  (a5n:yg (p.cells (xs.getD i (Ty.zero (.st p))))) {a0:Option Addr} {n cap:Nat} {l:List Value} (fg:G.η id = .tuple (.slice a0 n cap::l).toArray) (hi:i<n) :
  ∃ G' f1 b,a0=some ⟨b,0,none⟩/\bm w b (i * p.size) ((l.drop (i * p.size)).take p.size)/\((l.drop (i * p.size)).take p.size).length=p.size/\Inv c G' (s.cw.iE id (.st p) (xs.set i y)) a w /\
   Ow w (q.aE z) ((l.drop (i * p.size)).take p.size) f1/\f1.Nodup/\Fr c G' (s.cw.iE id (.st p) (xs.set i y)).af w f1:=by
 have hT:=h.aO.tr id _ xs aS;obtain⟨hn,b,f,t,e1,Pm,hh,eW⟩:=tC hT fg hi;have EX:i<xs.length:=by omega
 have C3:l.length=cap * p.size/\xs.length<=cap/\cap<=maxLen/\xs.length<=140737488355328:=by
  obtain⟨v0,l0,a1,RD,k1,k2,k3,k4,k5,k6⟩:=hT;rw[fg] at k1;simp only[b0x] at k1;have k1:(Value.slice a0 n cap::l)=v0::l0:=congrArg Array.toList k1;simp only[a9a] at k1;obtain⟨k7,rfl⟩:=k1;rw[k2] at k7;simp only[b0J] at k7;obtain⟨_,_,rfl⟩:=k7;rcases k6 with ⟨rfl,_,_⟩|⟨_,_,_,_,_,_,k8,_⟩
  .simp at EX
  .exact⟨k8,k3,k4,k5⟩
 have bZ:∀ d∈xs.map (Ty.aE (.st p)),d.size=p.size:=Ha (τ := .st p) xs;obtain⟨f0,f1,f2,hf,m0,m1,m2⟩:=bJ.split (xs.map (Ty.aE (.st p))) i (Ty.aE (.st p) (xs.getD i (Ty.zero (.st p)))) eW bZ (by simp[List.getD,EX]);have sL:((l.drop (i * p.size)).take p.size).length=p.size:=by rw[a9W,b0h];omega
 have m1:Ow w (.agg ((p.cells (xs.getD i (Ty.zero (.st p)))).map TV.aE)) ((l.drop (i * p.size)).take p.size) f1:=by
  have:=m1;rwa [show Ty.aE (.st p) (xs.getD i (Ty.zero (.st p)))=p.aE (xs.getD i (Ty.zero (.st p))) from rfl,aG.bQ] at this
 have hz':Ow w (q.aE z) ((l.drop (i * p.size)).take p.size) f1:=by
  rw[aG.bQ,aG.mA hz];exact iJ m1 a5n
 have Pj:Ow w (p.aE y) ((l.drop (i * p.size)).take p.size) []:=by
  rw[aG.bQ,aG.mA hy];refine Ij m1 λ u hu=>?_;have:u.τ∈p.nr:=by rw[<-aG.iQ p (xs.getD i (Ty.zero (.st p)))];exact a9b.2 ⟨u,hu,rfl⟩
  exact a9H.1 Aq _ this
 have hr:=m2 w (p.aE y) _ [] (λ _ _=>rfl) sL Pj;rw[ZE,a9U] at hr;have dj:=h.aO.nd id _ xs aS;rw[Pm,a9z,hf] at dj;obtain⟨CY,dj⟩:=dj;have a8P:=dj;rw[a9s,a9s] at dj;obtain⟨⟨d0,d1,d01⟩,d2,a3P⟩:=dj;have UQ:ic w (G.η id) (.st p) (xs.set i y) (b::(f0++f2)):=by
  refine⟨_,l,a0,cap,fg,by rw[hn,b1x],by rw[b1x];exact C3.2.1,C3.2.2.1,by rw[b1x];exact C3.2.2.2, .inr ⟨b,f0++f2,t,e1,rfl,hh,C3.1,?_⟩⟩;rw[b2A];exact hr
 have Fs:∀ k∈b::(f0++f2),k∈G.φ id:=λ k hk=>by
  rw[Pm,hf];simp only[a9k,a8X] at hk ⊢;rcases hk with hk|hk|hk<;>simp[hk]
 have a7e:(b::(f0++f2)).Nodup:=by
  refine a9z.2 ⟨λ hk=>CY ?_,dL d0 d2 λ x hx uP=>a3P x (by simp[hx]) x uP rfl⟩;simp only[a8X] at hk ⊢;rcases hk with hk|hk<;>simp[hk]
 have hf1:∀ k∈f1,k∈G.φ id/\k∉b::(f0++f2):=λ k hk=>by
  refine⟨by rw[Pm,hf];simp[hk],λ hm=>?_⟩;simp only[a9k,a8X] at hm;rcases hm with rfl|hm|hm
  .exact CY (by simp[hk])
  .exact d01 k hm k hk rfl
  .exact a3P k (by simp[hk]) k hm rfl
 obtain⟨g1,g2,g3⟩:=h.cw;have RX:s.cw.af id=some (.aC (.st p) xs):=by rw[ja];simp[aS,av.cR]
 let A:List (Nat×TE):=[(id,(G.η id,b::(f0++f2), .aC (.st p) (xs.set i y)))];have T:=Fa.ofList (c:=c) (G:=G) (lk:=s.cw.af) (w:=w) (w':=w) (A:=A) (λ e he=>by
  simp only[A,a9w] at he;subst he;exact⟨_,xs,_,_,l,l,RX,rfl,fg,fg,UQ,a7e⟩) (λ e he k hk=>by
  simp only[A,a9w] at he;subst he;exact .inl ⟨_,a9w.2 rfl,Fs k hk⟩) (λ e he e' yJ _ _ _=>by
  simp only[A,a9w] at he yJ;rw[he,yJ]) (by simp[A]) (λ _ _ _=>rfl) rfl rfl rfl (a9n _)
 have hI:=bd.ew g1 T g2 g3;have bS:(s.cw.iE id (.st p) (xs.set i y)).af=V3 A s.cw.af:=by
  funext j;rw[mz,V4]
 refine⟨⟨G.S,DV A G,xr A G⟩,f1,b,e1,?_,sL,?_,hz',d1,?_⟩
 .have:=(bm.of_heap hh).part (i * p.size) p.size;rwa [b0t] at this
 .unfold Inv;rw[bS];exact hI
 .intro k hk;obtain⟨k1,k2⟩:=hf1 k hk;obtain⟨q1,q2,q3,q4⟩:=g1.aO.pl id _ xs k RX k1;refine⟨q1,q2,q3,λ j o hj na=>?_,λ j τ ys hj na=>?_⟩
  .have na:dk (DV A G j)=some k:=na;rw[mz] at hj;by_cases rM:j=id
   .subst rM;have:DV A G j=G.η j:=by simp[DV,A,af]
    rw[this,fg] at na;cases na
   .rw[a9c rM] at hj;have:DV A G j=G.η j:=by
     have dv:Nat.beq id j=false:=by
      cases hb:Nat.beq id j with
      | false=>rfl
      | true=>exact absurd (a8W hb).symm rM
     simp[DV,A,af,dv]
    rw[this] at na;exact q4 j o hj na
  .have na:k∈xr A G j:=na;rw[mz] at hj;by_cases rM:j=id
   .subst rM;have:xr A G j=b::(f0++f2):=by simp[xr,A,af]
    rw[this] at na;exact k2 na
   .rw[a9c rM] at hj;have:xr A G j=G.φ j:=by
     have dv:Nat.beq id j=false:=by
      cases hb:Nat.beq id j with
      | false=>rfl
      | true=>exact absurd (a8W hb).symm rM
     simp[xr,A,af,dv]
    rw[this] at na;exact rM (g1.aO.ap j id _ _ _ _ k hj RX na k1)
theorem Ws(hE:bn c.P c.E)(h:Inv c G s a w){o:Oper}{vc:Vc}{s':ag}(hq:SG c.E s o=some (vc,s'))(dY:vc.ok){Q:Exit->Act->World->Prop} :
  o.wp c.P a w (λ a' w'=>∃ G',Inv c G' s' a' w') Q:=by
 unfold SG at hq;split at hq;case h_2=>cases hq
 case h_1 d hd =>
 split at hq;case h_2=>cases hq
 case h_1 dF =>
 split at hq;case h_4=>cases hq
 case h_1 T len parts bf =>
  split at hq;case h_2=>cases hq
  case h_1 τ p hT =>
  obtain⟨b,e⟩:=p;split at hq;case h_2=>cases hq
  case h_1 hlen =>
  split at hq;case h_2=>cases hq
  case h_1 xs ids iU =>
  split at hq;case h_2=>cases hq
  case h_1 hb pJ =>
  simp only[a8V,a8Y] at hq;obtain⟨rfl,rfl⟩:=hq;simp only[a9e] at hlen;have MR:=a8W hlen.1;have hl2:=a9V hlen.2;subst MR;obtain⟨h1,⟨b',e',h2⟩,i,z,h3,h4,h5,h6,h7⟩:=hE.slice hT;have C7:=τ.size_pos;have IT:τ.size<=100:=Ty.size_le τ;have a6N:parts.size * τ.size<=16777216:=b0b (Nat.mul_le_mul hl2 IT) (by decide);obtain⟨r,fp,h8,h9,h10,h11,h12⟩:=Mt (place:=λ i=>some (i * τ.size,τ.size)) h (λ _=>rfl) (l:=((Array.range (parts.size * τ.size)).map (λ j=>((if parts.size * τ.size=0 then #[] else z.cells:Array Value)[j % (if parts.size * τ.size=0 then #[] else z.cells:Array Value).size]!))).toList) iU (aM.zp (aW h) _) (cX hb) (by simp);have qF:=Qx iU;simp only[a9M,a9P] at qF;rw[qF] at h10;simp only[b1W,b1a,a9L,a9T] at h8;have cz:(execOp a.eval o).run c.P w = .ok (.value (.slice (some ⟨w.heap.size,0,none⟩) parts.size parts.size)) (w.alloc (.cells r.toArray e)):=by
   have e2:(parts.map λ (i,x)=>(i,a.eval x)).toList=parts.toList.map λ p=>(p.1,a.eval p.2):=by simp
   have iv:¬ (parts.size * τ.size>2 ^ 24):=by omega
   simp only[execOp,bf,Instr.buildSlice,a9r,a9I h1,a9m,hE.sizeOf h2,a9c iv,a9u];by_cases h0:parts.size * τ.size=0
   .simp only[h0,b0Y,a9r,a9u,a9m,e2] at h8 ⊢;rw[h8];simp[newRow]
   .simp only[h0,b1M,a9r,zeroValue,typeInfo,run_program,a9m,h3,h6,a9u,e2] at h8 ⊢;rw[h8];simp[newRow]
  unfold Oper.wp;rw[cz];show ∃ G',Inv c G' _ (a.put o.dst _) _;rw[hd];have bj:∀ k∈fp,k<w.heap.size:=λ k hk=>Tt h (h12 k hk);have eW:bJ (w.alloc (.cells r.toArray e)) (xs.map τ.aE) r fp:=bJ.aL _ h9 λ k hk=>heap_alloc_old w _ k (bj k hk);refine Inv.built h (zs:=xs) (fp:=w.heap.size::fp) (l:=r) ((eS w _).a1z λ _ k=>k.elim) ⟨_,_,some ⟨w.heap.size,0,none⟩,parts.size,rfl,by rw[qF],by rw[qF];omega,by simp only[maxLen];omega,by rw[qF];omega, .inr ⟨w.heap.size,fp,e,rfl,rfl,heap_alloc_new w _,h10,eW⟩⟩ ⟨_,_,_,rfl⟩ (List.nodup_cons.2 ⟨λ hh=>Nat.lt_irrefl _ (bj _ hh),h11⟩) (λ k hk=>?_) pJ;rcases List.mem_cons.1 hk with rfl|hk
  .exact .inr ⟨a9n _,by simp⟩
  .exact .inl (h12 k hk)
 case h_2 T ad bf =>
  split at hq;case h_2=>cases hq
  case h_1 q r id i sz hT hx =>
  split at hq;case h_2=>cases hq
  case h_1 p xs aS =>
  split at hq;case h_2=>cases hq
  case h_1 y z hb hy hz =>
  split at hq;case h_2=>cases hq
  case h_1 EU =>
  simp only[a8V,a8Y] at hq;obtain⟨rfl,rfl⟩:=hq;simp only[a9e] at hb EU;have bZ:=a8W hb.1;subst bZ;have hp:=aW h ad;rw[hx] at hp;obtain⟨_,b,n,cap,l,fg,hi,hp⟩:=hp;obtain⟨G1,f1,b',e1,fD,hlen,hI,hO,dj,hF⟩:=h.a5A aS hy hz hb.2 dY fg hi;simp only[a8V,b0M,a9q] at e1;subst e1;have hqs:q.size=p.size:=by
   have e:=Ow.length _ hO;rw[show (q.aE z).size=q.size from Ty.cq (.st q) z] at e;omega
  have cz:(execOp a.eval o).run c.P w = .ok (.value (.agg ((l.drop (i * p.size)).take p.size).toArray)) w:=by
   simp only[execOp,bf,hp,b0P,a9r,gF hE hT fD (by rw[hlen];exact hqs.symm),a9m,a9u];rfl
  unfold Oper.wp;rw[cz];show ∃ G',Inv c G' _ (a.put o.dst _) _;rw[hd];have rL:∀ e∈bL (bE d) (TV.cells ⟨.st q,z⟩),(s.cw.iE id (.st p) (xs.set i y)).af e.1=none:=λ e he=>by
   have h0:(s.af e.1).isNone=true:=a9H.1 EU.1 e he;have dv:e.1≠id:=λ hh=>by rw[hh,aS] at h0;cases h0
   rw[mz,a9c dv,ja];show Option.map av.cR (s.af e.1)=none;cases hl:s.af e.1 with
   | none=>rfl
   | some o=>rw[hl] at h0;cases h0
  obtain⟨G2,lk',k1,k2,k3,k4,_⟩:=bd.Sv (v:=⟨.st q,z⟩) (id:=bE d) hI ⟨_,rfl,hO⟩ dj hF rL (cX EU.2) (λ j hj=>by
   cases hr:c.R j with
   | none=>rfl
   | some v=>have:=h.gX j v hr;unfold bE at hj;omega)
  refine⟨G2,?_⟩;have bS:ag.af { aw:=s.cw.aw.set d (hU (bE d) ⟨.st q,z⟩),aH:=bL (bE d) (q.cells z)++(s.cw.iE id (.st p) (xs.set i y)).aH }=lk':=by
   funext j;rw[k1 j];exact nA _ _ j
  unfold Inv;rw[bS,show ag.sl { aw:=s.cw.aw.set d (hU (bE d) ⟨.st q,z⟩),aH:=bL (bE d) (q.cells z)++(s.cw.iE id (.st p) (xs.set i y)).aH }=iO s.cw.aw.length s.cw.sl (some d) (hU (bE d) ⟨.st q,z⟩) from oI s.cw.aw d _ _,
   show ({ aw:=s.cw.aw.set d (hU (bE d) ⟨.st q,z⟩),aH:=bL (bE d) (q.cells z)++(s.cw.iE id (.st p) (xs.set i y)).aH }:ag).aw.length=s.cw.aw.length from by simp]
  exact bd.put k2 k4.ft
 case h_3 cl bf =>
  split at hq;case h_3=>cases hq
  case h_2 f fY =>
   split at hq;case h_1=>cases hq
   case h_2 fl _ _ =>
   split at hq;case h_2=>cases hq
   case h_1 own ids ht =>
   split at hq;case h_2=>cases hq
   case h_1 Z9 hb has =>
   split at hq;case h_2=>cases hq
   case h_1 pre res hc =>
   split at hq;case h_2=>cases hq
   case h_1 EU =>
   simp only[Option.some.injEq,Prod.mk.injEq] at hq;obtain⟨rfl,rfl⟩:=hq;simp only[Bool.and_eq_true,List.all_eq_true] at EU;have rL:∀ p∈bc (bE d) res,(ids.foldl ag.gone s).af p.1=none:=λ p hp=>by simpa using EU.1 p hp
   have oT:=cX EU.2;obtain⟨rK,lU⟩:=hE.Jl f Z9 pre res hc dY;obtain⟨xL,t1,t2,t3,t4⟩:=vL h ht (cX hb) (aM.jQ (aW h) _);have h1:Inv c G (ids.foldl ag.gone s) a w:=uA ids h;have hF:∀ b,b∈xL.flatten->tF c G (ids.foldl ag.gone s).af w b:=λ b hb=>Iu h (t4 b hb);obtain⟨m1,m2⟩:=sb hE h1 has t1 t2 (aM.jQ (aW h1) _);generalize W4:ids.foldl ag.gone s=s1 at *
   unfold Oper.wp;rw[iD bf fY rfl rK];simp only[Oper.upon];refine (lU w (SX G s1.af) _ xL.flatten ?_ m1 (.inr m2) t3 (λ b hb=>⟨(hF b hb).2.2.1,(hF b hb).a3i⟩)).mono ?_
   .exact h1.V0
   .rintro e w' ⟨x,fp,rfl,hk,hO,dj,oN⟩;have hI:=Inv.over h1 hF hk;obtain⟨ys,xR,Ph⟩:=Hg (c:=c) (id:=bE d) hO;have Y1:Fr c G s1.af w' fp:=λ b hb=>by
     rcases oN b hb with hi|⟨q1,q2⟩
     .obtain⟨f1,f2,f3,f4,f5⟩:=hF b hi;exact⟨f1,f2,a9g f3 hk.size,f4,f5⟩
     .refine⟨.inl (b0b h1.aL.size q1),λ hs=>?_,q2,λ i o' hi uG=>?_,λ j τ zs hj na=>?_⟩
      .have:=h1.dI b hs;omega
      .have:=(h1.place i o' b hi uG).2.2;omega
      .have:=(h1.aO.pl j τ zs b hj na).2.2.1;omega
    obtain⟨G',lk',k1,k2,k3,k4,_⟩:=hI.HG (id:=bE d) xR dj Y1 rL oT (λ j hj=>by
     cases hr:c.R j with
     | none=>rfl
     | some v=>have:=h.gX j v hr;unfold bE at hj;omega)
    refine⟨G',?_⟩;have bS:ag.af { aw:=s1.aw.set d (jb (bE d) res),aH:=bc (bE d) res++s1.aH }=lk':=by
     funext i;rw[k1 i];exact nA _ _ i
    unfold Inv;rw[bS,hd,show ag.sl { aw:=s1.aw.set d (jb (bE d) res),aH:=bc (bE d) res++s1.aH }=iO s1.aw.length s1.sl (some d) (jb (bE d) res) from oI s1.aw d _ _,
     show ({ aw:=s1.aw.set d (jb (bE d) res),aH:=bc (bE d) res++s1.aH }:ag).aw.length=s1.aw.length from by simp]
    exact bd.put k2 (Ph G' lk' k4)
  case h_1 fY =>
  split at hq;case h_2=>cases hq
  case h_1 T T' O1 =>
  split at hq;case h_2=>cases hq
  case h_1 τ b e OZ hT =>
  have OZ:=a8W OZ;subst OZ;split at hq;case h_2=>cases hq
  case h_1 x y dU =>
  split at hq;case h_2=>cases hq
  case h_1 xs i ys j hx hy =>
  split at hq;case h_2=>cases hq
  case h_1 hb pJ =>
  simp only[a8V,a8Y] at hq;obtain⟨rfl,rfl⟩:=hq;obtain⟨v,z,e1,e2,e3⟩:=a2E h dU;have hb:=cX hb;rw[a9s] at hb;obtain⟨n1,n2,n3⟩:=hb;obtain⟨fx,o1,o2,o3⟩:=a2n h hx e2;obtain⟨fy,p1,p2,p3⟩:=a2n h hy e3;obtain⟨v',w',fp,l,k1,k2,k3,k4,k5,k6⟩:=Sy (c:=c) (w:=w) hE hT o1 p1 (λ k hk=>Tt h (o3 k hk)) (λ k hk=>Tt h (p3 k hk)) o2 p2
   (λ k hk eK=>h.gK (o3 k hk) (p3 k eK) λ x hx y hy=>n3 x hx y hy) dY o.type
  have II:cl.argTypes = #[T,T]:=by rw[<-a9T (xs:=cl.argTypes),O1]
  have C9:cl.args.map a.eval = #[v,z]:=by rw[<-a9T (xs:=cl.args.map a.eval),b0S,e1]
  have O5:(execOp a.eval o)=(do let d <-resolve a.eval cl o.type;invoke d.target d.args):=by simp[execOp,bf]
  have IN:(execOp a.eval o).run c.P w=((Builtin.append_ #[T,T] o.type #[v,z]).run c.P w).andThen λ v w => .ok (.value v) w:=by
   rw[O5];simp[resolve,fY,invoke,builtin,II,C9]
  unfold Oper.wp;rw[IN,k1];show ∃ G',Inv c G' _ (a.put o.dst _) _;rw[hd];refine Inv.built h (zs:=xs++ys) (fp:=fp) (l:=l) (k6.a1z λ k hk=>(o3 k hk).mono λ i hi=>by simp[hi]) k2 k3 k4 (λ k hk=>?_) pJ;rcases k5 k hk with hk|hk|hk
  .exact .inl ((o3 k hk).mono λ i hi=>by simp[hi])
  .exact .inl ((p3 k hk).mono λ i hi=>by simp[hi])
  .exact .inr hk
end
def a5I:Value->Nat
 | .pointer (some a)=>a.block
 | _=>0
def jw(G:Gh)(m:List (Nat×Nat))(k:Nat):Nat:=match af m k with
 | some id=>a5I (G.η id)
 | none=>0
def jF(m m':List (Nat×Nat)):Prop:=∀ k id,af m k=some id->af m' k=some id
theorem jF.refl(m:List (Nat×Nat)):jF m m:=λ _ _ h=>h
theorem jF.trans{a b c:List (Nat×Nat)}(h:jF a b)(k:jF b c):jF a c:=λ i id q=>k i id (h i id q)
theorem nC{α:Type}(k:Nat)(o:α)(l:List (Nat×α))(j:Nat):af ((k,o)::l) j=if j=k then some o else af l j:=by
 have e:af ((k,o)::l) j=match Nat.beq k j with
  | true=>some o
  | false=>af l j:=rfl
 rw[e];cases hb:Nat.beq k j with
 | true=>rw[a9l (a8W hb).symm]
 | false=>rw[a9c (λ e=>by subst e;rw[Nat.beq_refl] at hb;cases hb)]
theorem OK{m:List (Nat×Nat)}{k id:Nat}(h:af m k=none):jF m ((k,id)::m):=λ i j q=>by
 rw[nC];by_cases hi:i=k
 .subst hi;rw[h] at q;cases q
 .rw[a9c hi];exact q
theorem PI{m:List (Nat×Nat)}{k id:Nat}:af ((k,id)::m) k=some id:=by rw[nC,a9l rfl]
section
variable {c:Ctx} {G:Gh} {s:ag} {a:Act} {w w':World}
theorem a0h{lk:Nat->Option av}{τ:Ty}{v:AV}{x:Value}{y:τ.den}(h:iH (λ _=>none) τ v=some y)(hv:C1 c G lk w v x):Rd w G.S (τ.aE y) [x]:=HN h hv
theorem mR{sl:Nat->AV}{n:Nat}{lk:Nat->Option av}(h:bd c G sl n lk a w):∀ {ks:List CK} {cs:List AV} {m m':List (Nat×Nat)} {ds:List TV} {ids:List Nat} {l:List Value},cO lk ks cs m=some (ds,ids,m')->ids.Nodup->aM (C1 c G lk w) cs l ->
  jF m m'/\∃ fp,(∀ mf,jF m' mf->gU w G.S (jw G mf) ks ds l fp)/\fp.Nodup/\∀ b∈fp,tH G lk ids b
 | [],[],m,m',ds,ids,l,ht,_,hv=>by
  simp only[cO,a8V,a8Y] at ht;obtain⟨rfl,rfl,rfl⟩:=ht;match l,hv with
  | [],_=>exact⟨jF.refl _,[],λ _ _=>rfl,b0c,by simp⟩
 | .d τ::ks,v::cs,m,m',ds,ids,l,ht,hn,hv=>by
  simp only[cO] at ht;split at ht;case h_2=>cases ht
  case h_1 y hy uF =>
  split at ht;case h_2=>cases ht
  case h_1 ds1 U8 m1 hr =>
  simp only[a8V,a8Y] at ht;obtain⟨rfl,rfl,rfl⟩:=ht;match l,hv with
  | x::l,hv =>
   obtain⟨e1,fp,e2,e3,e4⟩:=mR h hr hn hv.2;exact⟨e1,fp,λ mf hm=>⟨⟨rfl,uF,a0h hy hv.1⟩,e2 mf hm⟩,e3,e4⟩
 | .o τ::ks,v::cs,m,m',ds,ids,l,ht,hn,hv=>by
  simp only[cO] at ht;split at ht;case h_2=>cases ht
  case h_1 y i hy uF =>
  split at ht;case h_2=>cases ht
  case h_1 ds1 U8 m1 hr =>
  simp only[a8V,a8Y] at ht;obtain⟨rfl,rfl,rfl⟩:=ht;rw[a9s] at hn;obtain⟨n1,n2,n3⟩:=hn;match l,hv with
  | x::l,hv =>
   obtain⟨e1,fp,e2,e3,e4⟩:=mR h hr n2 hv.2;obtain⟨f1,o1,o2,o3⟩:=xq h hy hv.1;refine⟨e1,f1++fp,λ mf hm=>⟨f1,fp,rfl,⟨rfl,uF,o1⟩,e2 mf hm⟩,dL o2 e3 λ b hb cm=>h.gK (o3 b hb) (e4 b cm) λ x hx y hy=>n3 x hx y hy,λ b hb=>?_⟩;rcases a8X.1 hb with hb|hb
   .exact (o3 b hb).mono λ k hk=>by simp[hk]
   .exact (e4 b hb).mono λ k hk=>by simp[hk]
 | .p j::ks,v::cs,m,m',ds,ids,l,ht,hn,hv=>by
  simp only[cO] at ht;split at ht;case h_2=>cases ht
  case h_1 id =>
  match l,hv with
  | x::l,hv =>
   have key:∀ m1,cO lk ks cs m1=some (ds,ids,m')->jF m m1->af m1 j=some id->jF m m'/\∃ fp,(∀ mf,jF m' mf->gU w G.S (jw G mf) (.p j::ks) ds (x::l) fp)/\fp.Nodup/\∀ b∈fp,tH G lk ids b:=λ m1 hr hx hj=>by
    obtain⟨e1,fp,e2,e3,e4⟩:=mR h hr hn hv.2;refine⟨hx.trans e1,fp,λ mf hm=>?_,e3,e4⟩;have hv1:C1 c G lk w (.ptr id 0) x:=hv.1;obtain⟨b,h1,h2,_⟩:=hv1;have:jw G mf j=b:=by
     simp only[jw,hm j id (e1 j id hj),h1];rfl
    cases ds with
    | nil=>exact⟨by rw[this];exact h2,e2 mf hm⟩
    | cons d ds=>exact⟨by rw[this];exact h2,e2 mf hm⟩
   split at ht
   .rename_i i hi;split at ht
    .rename_i hb;have hb:=a8W hb;subst hb;exact key m ht (jF.refl _) hi
    .cases ht
   .rename_i iv;exact key _ ht (OK iv) PI
 | [],_::_,_,_,_,_,_,ht,_,_=>by simp[cO] at ht
 | .d _::_,[],_,_,_,_,_,ht,_,_=>by simp[cO] at ht
 | .o _::_,[],_,_,_,_,_,ht,_,_=>by simp[cO] at ht
 | .p _::_,[],_,_,_,_,_,ht,_,_=>by simp[cO] at ht
def a4K(lk:Nat->Option av)(m:List (Nat×Nat))(k0 n:Nat):Prop:=∀ k,k0<=k->k<k0+n->∃ id cs,af m k=some id/\lk id=some (.box cs)
theorem sB{sl:Nat->AV}{n:Nat}{lk:Nat->Option av}(h:bd c G sl n lk a w):∀ {sh:List (List CK)} {k:Nat} {m m':List (Nat×Nat)} {bu:List (List TV)} {ids:List Nat},gS lk sh k m=some (bu,ids,m')->ids.Nodup ->
  jF m m'/\a4K lk m' k sh.length/\∃ fp,(∀ mf,jF m' mf->eO w G.S (jw G mf) k sh bu fp)/\fp.Nodup/\∀ b∈fp,tH G lk ids b
 | [],k,m,m',bu,ids,ht,_=>by
  simp only[gS,a8V,a8Y] at ht;obtain⟨rfl,rfl,rfl⟩:=ht;exact⟨jF.refl _,λ j h1 h2=>by simp at h2;omega,[],λ _ _=>rfl,b0c,by simp⟩
 | ks::sh,k,m,m',bu,ids,ht,hn=>by
  simp only[gS] at ht;split at ht;case h_2=>cases ht
  case h_1 id aS =>
  split at ht;case h_2=>cases ht
  case h_1 cs iG =>
  split at ht;case h_2=>cases ht
  case h_1 ds i m1 hr =>
  split at ht;case h_2=>cases ht
  case h_1 a6n U8 m2 vV =>
  simp only[a8V,a8Y] at ht;obtain⟨rfl,rfl,rfl⟩:=ht;rw[a9s] at hn;obtain⟨n1,n2,n3⟩:=hn;obtain⟨b,l,t,q1,q2,q3⟩:=h.aH id _ iG;obtain⟨e1,f1,e2,e3,e4⟩:=mR h hr n1 q3;obtain⟨g1,g0,f2,g2,g3,g4⟩:=sB h vV n2;refine⟨e1.trans g1,λ j h1 h2=>?_,f1++f2,λ mf hm=>⟨l,t,f1,f2,rfl,?_,e2 mf (g1.trans hm),g2 mf hm⟩,dL e3 g3 λ b hb cm=>h.gK (e4 b hb) (g4 b cm) λ x hx y hy=>n3 x hx y hy,λ b hb=>?_⟩
  .by_cases hj:j=k
   .subst hj;exact⟨id,cs,(e1.trans g1) j id aS,iG⟩
   .exact g0 j (by omega) (by simp at h2;omega)
  .have:jw G mf k=b:=by
    simp only[jw,hm k id ((e1.trans g1) k id aS),q1];rfl
   rw[this];exact q2
  .rcases a8X.1 hb with hb|hb
   .exact (e4 b hb).mono λ k hk=>by simp[hk]
   .exact (g4 b hb).mono λ k hk=>by simp[hk]
theorem tV:∀ {fl:List (Option Nat)} {vs:List AV} {m m':List (Nat×Nat)},ie fl vs m=some m'->jF m m'/\∀ (i k:Nat),fl[i]?=some (some k)->∃ id,vs[i]?=some (AV.ptr id 0)/\af m' k=some id
 | [],[],m,m',h=>by
  simp only[ie,a8V] at h;subst h;exact⟨jF.refl _,λ i k q=>by simp at q⟩
 | none::fl,v::vs,m,m',h=>by
  obtain⟨h1,h2⟩:=tV (fl:=fl) (vs:=vs) h;refine⟨h1,λ i k q=>?_⟩;cases i with
  | zero=>simp at q
  | succ i=>exact h2 i k (by simpa using q)
 | some k::fl,v::vs,m,m',h=>by
  simp only[ie] at h;split at h;case h_2=>cases h
  case h_1 id =>
  have key:∀ m1,jF m m1->af m1 k=some id->ie fl vs m1=some m'->jF m m'/\∀ (i k':Nat),(some k::fl)[i]?=some (some k')->∃ dm,(AV.ptr id 0::vs)[i]?=some (AV.ptr dm 0)/\af m' k'=some dm:=λ m1 e1 e2 e3=>by
   obtain⟨h1,h2⟩:=tV e3;refine⟨e1.trans h1,λ i k' q=>?_⟩;cases i with
   | zero =>
    simp only[b1N,a8V] at q;subst q;exact⟨id,rfl,h1 k id e2⟩
   | succ i=>exact h2 i k' (by simpa using q)
  split at h
  .rename_i i hi;split at h
   .rename_i hb;have hb:=a8W hb;subst hb;exact key m (jF.refl _) hi h
   .cases h
  .rename_i iv;exact key _ (OK iv) PI h
 | [],_::_,_,_,h=>by simp[ie] at h
 | some _::_,[],_,_,h=>by simp[ie] at h
 | none::_,[],_,_,h=>by simp[ie] at h
theorem R5{lk:Nat->Option av}{ids:List Nat}{id:Nat}{o:av}(h:Xn lk ids id=some o):lk id=some o/\id∉ids/\∃ cs,o = .box cs:=by
 unfold Xn at h;split at h
 .cases h
 .rename_i hc;split at h
  .rename_i cs iG;simp only[Option.some.injEq] at h;subst h;exact⟨iG,by simpa using hc,cs,rfl⟩
  .cases h
theorem YW{S S':Nat->Prop}{τ:Ty}{y:τ.den}{x:Value}(hf:(match CK.d τ with | .d (.slice _)=>false | .d (.mv _)=>false|_=>true)=true)(ha:τ.agg=false)(h:Rd w S (τ.aE y) [x]):Rd w S' (τ.aE y) [x]:=by
 cases τ with
 | slice t=>cases hf
 | mv t=>cases hf
 | st s=>cases ha
 | _=>exact h
theorem gU.flat{S S':Nat->Prop}{B:Nat->Nat}:∀ {ks:List CK} {ds:List TV} {l:List Value} {fp:List Nat},(ks.all λ k=>match k with | .d (.slice _)=>false | .d (.mv _)=>false|_=>true)=true->gU w S B ks ds l fp->gU w S' B ks ds l fp:=by
 intro ks;induction ks with
 | nil=>intro ds l fp _ h;cases ds<;>cases l<;>exact h
 | cons k0 ks ih =>
  intro ds l fp hf h;rw[List.all_cons,a9e] at hf;cases l with
  | nil=>cases k0<;>cases ds<;>cases h
  | cons x l =>
   cases k0 with
   | d τ =>
    cases ds with
    | nil=>cases h
    | cons v ds =>
     obtain⟨⟨e,h1,h2⟩,h3⟩:=h;refine⟨⟨e,h1,?_⟩,ih hf.2 h3⟩;obtain⟨aT,y⟩:=v;simp only at e;subst e;exact YW hf.1 h1 h2
   | o τ =>
    cases ds with
    | nil=>cases h
    | cons v ds =>
     obtain⟨f1,f2,e,h1,h2⟩:=h;exact⟨f1,f2,e,h1,ih hf.2 h2⟩
   | p j =>
    have h:x = .pointer (some ⟨B j,0,none⟩)/\gU w S B ks ds l fp:=by cases ds<;>exact h
    have r:=ih hf.2 h.2;cases ds<;>exact⟨h.1,r⟩
theorem eO.flat{S S':Nat->Prop}{B:Nat->Nat}:∀ {sh:List (List CK)} {k:Nat} {bu:List (List TV)} {fa:List Nat},Iq sh=true->eO w S B k sh bu fa->eO w S' B k sh bu fa
 | [],k,bu,fa,_,h=>by cases bu<;>exact h
 | ks::sh,k,[],fa,_,h=>h.elim
 | ks::sh,k,ds::bu,fa,hf,h=>by
  obtain⟨l,t,f1,f2,e,h1,h2,h3⟩:=h;unfold Iq at hf;rw[List.all_cons,Bool.and_eq_true] at hf;exact⟨l,t,f1,f2,e,h1,h2.flat hf.1,eO.flat hf.2 h3⟩
theorem HB.more{P:Program}{f:FuncId}{sh:List (List CK)}{args:List Arg}{bu:List (List TV)}{res:List TV}{dw:List (List TV)}(h:HB P f sh args bu res dw)(QU:Iq sh=true){S T:Nat->Prop}{B:Nat->Nat}{bV:List Value}{fa:List Nat}(hT:jf w T)(hST:∀ b,S b->T b)
  (hX:∀ b,BX sh.length B fa b->¬ T b) (OX:eO w S B 0 sh bu fa) (L6:fa.Nodup) (Al:∀ b∈fa,b<w.heap.size/\¬ S b/\∀ k,k<sh.length->B k≠b) (hB:∀ k,k<sh.length->B k<w.heap.size/\¬ S (B k))
  (Bh:∀ j k,j<sh.length->k<sh.length->B j=B k->j=k) (ha:aM (Rl P w T (BX sh.length B fa) B) args bV):Sq P f sh res dw w S B bV fa:=by
 refine (h w T B bV fa hT (OX.flat QU) L6 (λ b hb=>⟨(Al b hb).1,hX b (.inl hb),(Al b hb).2.2⟩) (λ k hk=>⟨(hB k hk).1,hX _ (.inr ⟨k,hk,rfl⟩)⟩) Bh ha).mono ?_;rintro e w' ⟨x,S',fp,Gr,rfl,hk,WN,Y2,hS3,hO,hB',dj,oN,hBS⟩;refine⟨x,λ b=>S' b/\(T b->S b),fp,Gr,rfl,hk,λ b hb=>⟨WN b (hST b hb),λ _=>hb⟩,λ b hb=>Y2 b hb.1,λ b hb hx=>?_,hO,hB'.flat QU,dj,λ b hb=>⟨(oN b hb).1,λ q=>(oN b hb).2.1 q.1,(oN b hb).2.2⟩,λ k hk q=>hBS k hk q.1⟩;have:=hS3 b hb hx;exact⟨λ q=>q.2 (this.1 q.1),λ q=>⟨this.2 (hST b q),λ _=>q⟩⟩
theorem JB{sh:List (List CK)}{lk:Nat->Option av}{ids:List Nat}{id:Nat}{o:av}(h:ZB sh lk ids id=some o):lk id=some o/\id∉ids:=by
 unfold ZB at h;split at h
 .split at h
  .cases h
  .rename_i hc;exact⟨h,by simpa using hc⟩
 .obtain⟨h1,h2,_⟩:=R5 h;exact⟨h1,h2⟩
theorem P9(h1:Inv c G s a w){S1 X:Nat->Prop}{lk':Nat->Option av}(bS:∀ id o,lk' id=some o->s.af id=some o)(ff:∀ (τ:Ty) v x (y:τ.den),qt lk' τ v=some y->VR c G s.af w v x->dC w S1 ⟨τ,y⟩ x)
  (sK:∀ b,X b->¬ St c G.S b) (kc:∀ id o b,lk' id=some o->dk (G.η id)=some b->¬ X b) {τ:Ty} {v:AV} {x:Value} {y:τ.den} (hy:deref lk' τ v=some y) (hx:VR c G s.af w v x) :
  ∃ b o cs,x = .pointer (some ⟨b,o,none⟩)/\b<w.heap.size/\¬ X b/\bm w b o cs/\Rd w S1 (τ.aE y) cs:=by
 obtain⟨b,o,cs,k1,k2,k3,k4⟩:=CD (S:=S1) h1 bS ff hy hx;refine⟨b,o,cs,k1,k2,?_,k3,k4⟩;unfold deref at hy;split at hy;case h_2=>cases hy
 case h_1 u hu =>
 cases v with
 | cS z =>
  obtain⟨b',o',du,q1,q2,_⟩:=hx;rw[k1] at q1;simp only[b1q,a8V,b0M] at q1;obtain⟨rfl,_⟩:=q1;exact λ hb=>sK _ hb q2
 | ptr id off =>
  obtain⟨b',q1,q2,_⟩:=hx;rw[k1] at q2;simp only[b1q,a8V,b0M] at q2;obtain⟨rfl,_⟩:=q2;simp only[ql] at hu;split at hu
  .rename_i UA iG;exact kc id _ _ iG (by rw[q1];rfl)
  .cases hu
 | dX id i off =>
  obtain⟨b',n',Ot,e',aT,cM,q1,q2,q3,q4⟩:=hx;rw[k1] at q4;simp only[b1q,a8V,b0M] at q4;obtain⟨rfl,_⟩:=q4;simp only[ql] at hu;split at hu
  .rename_i hr;exact kc id _ _ hr (by rw[q1];rfl)
  .cases hu
 | _=>simp[ql] at hu
theorem Cy(h1:Inv c G s a w){S1 X:Nat->Prop}{lk':Nat->Option av}(bS:∀ id o,lk' id=some o->s.af id=some o)(ff:∀ (τ:Ty) v x (y:τ.den),qt lk' τ v=some y->VR c G s.af w v x->dC w S1 ⟨τ,y⟩ x)
  (sK:∀ b,X b->¬ St c G.S b) (kc:∀ id o b,lk' id=some o->dk (G.η id)=some b->¬ X b):∀ {ks:List (Bool×Ty)} {vs:List AV} {Z9:List Arg} {xs:List Value},nR lk' ks vs=some Z9->aM (CR c G s.af w) vs xs->aM (a3x w S1 X) Z9 xs
 | [],[],Z9,xs,h,hv=>by
  simp only[nR,a8V] at h;subst h;match xs,hv with
  | [],_=>trivial
 | (true,τ)::ks,v::vs,Z9,xs,h,hv=>by
  simp only[nR] at h;split at h
  .rename_i y hy;split at h
   .rename_i r hr;simp only[a8V] at h;subst h;match xs,hv with
    | x::xs,hv=>exact⟨P9 h1 bS ff sK kc hy hv.1.ft,Cy h1 bS ff sK kc hr hv.2⟩
   .cases h
  .cases h
 | (false,τ)::ks,v::vs,Z9,xs,h,hv=>by
  simp only[nR] at h;split at h
  .rename_i y hy;split at h
   .rename_i r hr;simp only[a8V] at h;subst h;match xs,hv with
    | x::xs,hv=>exact⟨ff _ _ _ _ hy hv.1.ft,Cy h1 bS ff sK kc hr hv.2⟩
   .cases h
  .cases h
 | [],_::_,_,_,h,_=>by cases h
 | (true,_)::_,[],_,_,h,_=>by cases h
 | (false,_)::_,[],_,_,h,_=>by cases h
theorem Wu(hE:bn c.P c.E)(h1:Inv c G s a w){S1 X:Nat->Prop}(MM:∀ b,G.S b->S1 b){lk':Nat->Option av}(bS:∀ id o,lk' id=some o->s.af id=some o)(ff:∀ (τ:Ty) v x (y:τ.den),qt lk' τ v=some y->VR c G s.af w v x->dC w S1 ⟨τ,y⟩ x)
  (sK:∀ b,X b->¬ St c G.S b) (kc:∀ id o b,lk' id=some o->dk (G.η id)=some b->¬ X b) {g:AV} {x:Value} {q:FV} {B:Nat->Nat} (h:zW c.E lk' g=some q) (hx:VR c G s.af w g x):Rl c.P w S1 X B (.cN q) x:=by
 unfold zW at h;split at h
 .rename_i f cs;split at h
  .rename_i k _;split at h
   .rename_i Z9 has;simp only[a8V] at h;subst h;obtain⟨l,k1,k2⟩:=hx;exact⟨f,Z9,l,k1,tZ hE _ _ _,Cy h1 bS ff sK kc has k2⟩
   .cases h
  .cases h
 .simp only[a8V] at h;subst h;obtain⟨f,ei,l,k1,k2,k3⟩:=hx;refine⟨f,ei,l,k1,k2,k3.imp λ u y _ hy=>?_⟩;cases u with
  | val v=>exact dC.mono (G:=G) (G':=⟨S1,G.η,G.φ⟩) hy MM (λ _ _=>rfl)
  | ref v =>
   obtain⟨b,o,cs,k1,k2,k3,k4⟩:=hy;refine⟨b,o,cs,k1,?_,λ hb=>sK b hb k2,k3,Rd.aL MM (λ _ _=>rfl) _ k4⟩;exact k2.elim (h1.dI b) λ k=>a9g k.1 h1.aL.size
  | fn f=>exact hy
  | _=>exact hy.elim
 .rename_i f;split at h
  .rename_i k _;split at h
   .simp only[a8V] at h;subst h;exact⟨f,[],[],hx,tZ hE _ _ _,U⟩
   .cases h
  .cases h
 .cases h
theorem xo(hE:bn c.P c.E)(h1:Inv c G s a w){mf:List (Nat×Nat)}{S1 X:Nat->Prop}(MM:∀ b,G.S b->S1 b){lk':Nat->Option av}(bS:∀ id o,lk' id=some o->s.af id=some o)
  (ff:∀ (τ:Ty) v x (y:τ.den),qt lk' τ v=some y->VR c G s.af w v x->dC w S1 ⟨τ,y⟩ x) (sK:∀ b,X b->¬ St c G.S b) (kc:∀ id o b,lk' id=some o->dk (G.η id)=some b->¬ X b) {lk0:Nat->Option av} :
  ∀ {fl:List (Option Nat)} {Ts:List TypeId} {vs Uh:List AV} {xs:List Value} {Z9:List Arg},qc c.E lk' fl Ts vs=some Z9->aM (VR c G s.af w) vs xs->aM (VR c G lk0 w) Uh xs ->
   (∀ (i k:Nat),fl[i]?=some (some k)->∃ id,Uh[i]?=some (AV.ptr id 0)/\af mf k=some id)->aM (Rl c.P w S1 X (jw G mf)) Z9 xs
 | [],[],[],Uh,xs,Z9,h,hv,_,_=>by
  simp only[qc,a8V] at h;subst h;match xs,hv with
  | [],_=>trivial
 | some k::fl,T::Ts,v::vs,Uh,xs,Z9,h,hv,IW,hb=>by
  simp only[qc] at h;split at h;case h_2=>cases h
  case h_1 r hr =>
  simp only[a8V] at h;subst h;match xs,Uh,hv,IW with
  | x::xs,v0::Uh,hv,IW =>
   obtain⟨id,q1,q2⟩:=hb 0 k rfl;simp only[List.getElem?_cons_zero,Option.some.injEq] at q1;subst q1;have hp:VR c G lk0 w (.ptr id 0) x:=IW.1;obtain⟨b,k1,k2,_⟩:=hp;refine⟨?_,xo hE h1 MM bS ff sK kc hr hv.2 IW.2 λ i k' q=>by simpa using hb (i+1) k' (by simpa using q)⟩;show x = .pointer (some ⟨jw G mf k,0,none⟩);simp only[jw,q2,k1];exact k2
  | x::xs,[],_,IW=>exact IW.elim
 | none::fl,T::Ts,v::vs,Uh,xs,Z9,h,hv,IW,hb=>by
  simp only[qc] at h;split at h;case h_2=>cases h
  case h_1 z hz =>
  split at h;case h_2=>cases h
  case h_1 r hr =>
  simp only[a8V] at h;subst h;match xs,Uh,hv,IW with
  | x::xs,v0::Uh,hv,IW =>
   refine⟨?_,xo hE h1 MM bS ff sK kc hr hv.2 IW.2 λ i k' q=>by simpa using hb (i+1) k' (by simpa using q)⟩;unfold Oa at hz;split at hz
   .rename_i τ q hT;split at hz
    .rename_i y hy;simp only[a8V] at hz;subst hz;exact ff _ _ _ _ hy hv.1
    .cases hz
   .split at hz
    .rename_i τ hT;split at hz
     .rename_i y hy;simp only[a8V] at hz;subst hz;exact P9 h1 bS ff sK kc hy hv.1
     .cases hz
    .split at hz
     .rename_i q hq;simp only[a8V] at hz;subst hz;exact Wu hE h1 MM bS ff sK kc hq hv.1
     .split at hz
      .rename_i f;simp only[a8V] at hz;subst hz;exact hv.1
      .cases hz
  | x::xs,[],_,IW=>exact IW.elim
 | [],_::_,_,_,_,_,h,_,_,_=>by simp[qc] at h
 | [],[],_::_,_,_,_,h,_,_,_=>by simp[qc] at h
 | some _::_,[],_,_,_,_,h,_,_,_=>by simp[qc] at h
 | none::_,[],_,_,_,_,h,_,_,_=>by simp[qc] at h
 | some _::_,_::_,[],_,_,_,h,_,_,_=>by simp[qc] at h
 | none::_,_::_,[],_,_,_,h,_,_,_=>by simp[qc] at h
def dt:List CK->List TV->List TV
 | .d _::ks,_::ds=>dt ks ds
 | .o _::ks,v::ds=>v::dt ks ds
 | .p _::ks,ds=>dt ks ds
 | _,_=>[]
def jB:List CK->List Value->List Value
 | .o _::ks,x::xs=>x::jB ks xs
 | _::ks,_::xs=>jB ks xs
 | _,_=>[]
theorem gU.sW{S:Nat->Prop}{B:Nat->Nat}:∀ {ks:List CK} {ds:List TV} {l:List Value} {fp:List Nat},gU w S B ks ds l fp->cV w ((dt ks ds).map TV.aE) (jB ks l) fp/\(∀ u∈dt ks ds,u.τ.agg=false)/\(dt ks ds).length=(jB ks l).length
 | [],[],[],fp,h=>⟨⟨rfl,h⟩,by simp[dt],rfl⟩
 | .d τ::ks,v::ds,x::xs,fp,h=>by
  obtain⟨_,h2⟩:=h;obtain⟨k1,k2,k3⟩:=gU.sW h2;exact⟨k1,k2,k3⟩
 | .o τ::ks,v::ds,x::xs,fp,h=>by
  obtain⟨f1,f2,rfl,⟨e,h1,h2⟩,h3⟩:=h;obtain⟨k1,k2,k3⟩:=gU.sW h3;refine⟨⟨x,jB ks xs,f1,f2,rfl,rfl,h2,k1⟩,λ u hu=>?_,by simp[dt,jB,k3]⟩;rcases a9k.1 hu with rfl|hu
  .rw[e];exact h1
  .exact k2 u hu
 | .p j::ks,ds,x::xs,fp,h=>by
  have h:x = .pointer (some ⟨B j,0,none⟩)/\gU w S B ks ds xs fp:=by cases ds<;>exact h
  obtain⟨k1,k2,k3⟩:=gU.sW h.2;refine⟨?_,?_,?_⟩<;>cases ds<;>first|exact k1|exact k2|exact k3
 | [],_::_,_,_,h=>h.elim
 | [],[],_::_,_,h=>h.elim
 | .d _::_,[],_,_,h=>by cases h
 | .o _::_,[],_,_,h=>by cases h
 | .d _::_,_::_,[],_,h=>by cases h
 | .o _::_,_::_,[],_,h=>by cases h
 | .p _::_,ds,[],_,h=>by cases ds<;>cases h
theorem BG:∀ (n:Nat) (a b:List TV),bL n (a++b)=bL n a++bL (n+a.length) b
 | n,[],b=>by simp[bL]
 | n,u::a,b=>by
  have:=BG (n+1) a b;simp only[a9X,bL,this,a9B,a9f];rw[show n+1+a.length=n+(a.length+1) by omega]
theorem pZ:∀ (n:Nat) (a b:List TV),bT n (a++b)=bT n a++bT (n+a.length) b
 | n,[],b=>by simp[bT]
 | n,u::a,b=>by
  have:=pZ (n+1) a b;simp only[a9X,bT,this,a9f];rw[show n+1+a.length=n+(a.length+1) by omega]
theorem cV.append:∀ {a b:List D} {x y:List Value} {f g:List Nat},cV w a x f->cV w b y g->cV w (a++b) (x++y) (f++g)
 | [],b,x,y,f,g,h,k=>by
  obtain⟨rfl,rfl⟩:=h;exact k
 | d::a,b,x,y,f,g,h,k=>by
  obtain⟨v,r,f1,f2,rfl,rfl,h3,h4⟩:=h;exact⟨v,r++y,f1,f2++g,rfl,by simp,h3,h4.append k⟩
theorem oC{m:List (Nat×Nat)}{S:Nat->Prop}{B:Nat->Nat}{G':Gh}{lk':Nat->Option av}(hS:∀ b,S b->G'.S b)(hB:∀ j id,af m j=some id->G'.η id = .pointer (some ⟨B j,0,none⟩)/\fw (lk' id)=true) :
  ∀ {ks:List CK} {cs:List AV} {ds:List TV} {n n':Nat} {r:List AV} {os:List (Nat×av)} {l:List Value} {fp:List Nat},bN m ks cs ds n=some (r,os,n')->gU w S B ks ds l fp->aM (C1 c G' lk' w) (bT n (dt ks ds)) (jB ks l) ->
   aM (C1 c G' lk' w) r l
 | [],[],[],n,n',r,os,l,fp,h,hb,hc=>by
  simp only[bN,a8V,a8Y] at h;obtain⟨rfl,rfl,rfl⟩:=h;match l,hb with
  | [],_=>trivial
 | .d τ::ks,c0::cs,v::ds,n,n',r,os,l,fp,h,hb,hc=>by
  simp only[bN] at h;split at h;case h_2=>cases h
  case h_1 hv =>
  split at h;case h_2=>cases h
  case h_1 r1 Vx n1 hr =>
  simp only[a8V,a8Y] at h;obtain⟨rfl,rfl,rfl⟩:=h;match l,hb with
  | x::l,hb =>
   obtain⟨⟨e,h1,h2⟩,h3⟩:=hb;exact⟨⟨by rw[e];exact h1,Rd.aL hS (λ _ _=>rfl) _ h2⟩,oC hS hB hr h3 hc⟩
 | .o τ::ks,c0::cs,v::ds,n,n',r,os,l,fp,h,hb,hc=>by
  simp only[bN] at h;split at h;case h_2=>cases h
  case h_1 hv =>
  split at h;case h_2=>cases h
  case h_1 r1 Vx n1 hr =>
  simp only[a8V,a8Y] at h;obtain⟨rfl,rfl,rfl⟩:=h;match l,hb with
  | x::l,hb =>
   obtain⟨f1,f2,rfl,⟨e,h1,h2⟩,h3⟩:=hb;exact⟨hc.1,oC hS hB hr h3 hc.2⟩
 | .p j::ks,c0::cs,ds,n,n',r,os,l,fp,h,hb,hc=>by
  simp only[bN] at h;split at h;case h_2=>cases h
  case h_1 id =>
  split at h;case h_2=>cases h
  case h_1 i hi =>
  split at h;case h_2=>cases h
  case h_1 r1 Vx n1 hbe hr =>
  have hbe:=a8W hbe;subst hbe;simp only[a8V,a8Y] at h;obtain⟨rfl,rfl,rfl⟩:=h;match l,hb with
  | x::l,hb =>
   have hb:x = .pointer (some ⟨B j,0,none⟩)/\gU w S B ks ds l fp:=by cases ds<;>exact hb
   have hc:aM (C1 c G' lk' w) (bT n (dt ks ds)) (jB ks l):=by cases ds<;>exact hc
   obtain⟨q1,q2⟩:=hB j i hi;exact⟨⟨B j,q1,hb.1,q2⟩,oC hS hB hr hb.2 hc⟩
  | [],hb=>cases ds<;>cases hb
 | [],_::_,_,_,_,_,_,_,_,h,_,_=>by simp[bN] at h
 | [],[],_::_,_,_,_,_,_,_,h,_,_=>by simp[bN] at h
 | .d _::_,[],_,_,_,_,_,_,_,h,_,_=>by simp[bN] at h
 | .o _::_,[],_,_,_,_,_,_,_,h,_,_=>by simp[bN] at h
 | .p _::_,[],ds,_,_,_,_,_,_,h,_,_=>by cases ds<;>simp[bN] at h
 | .d _::_,_::_,[],_,_,_,_,_,_,h,_,_=>by simp[bN] at h
 | .o _::_,_::_,[],_,_,_,_,_,_,h,_,_=>by simp[bN] at h
theorem tj{m:List (Nat×Nat)}:∀ {ks:List CK} {cs:List AV} {ds:List TV} {n n':Nat} {r:List AV} {os:List (Nat×av)},bN m ks cs ds n=some (r,os,n')->os=bL n (dt ks ds)/\n'=n+(dt ks ds).length
 | [],[],[],n,n',r,os,h=>by
  simp only[bN,a8V,a8Y] at h;obtain⟨rfl,rfl,rfl⟩:=h;exact⟨rfl,rfl⟩
 | .d τ::ks,c0::cs,v::ds,n,n',r,os,h=>by
  simp only[bN] at h;split at h;case h_2=>cases h
  case h_1 hv =>
  split at h;case h_2=>cases h
  case h_1 r1 Vx n1 hr =>
  simp only[a8V,a8Y] at h;obtain⟨rfl,rfl,rfl⟩:=h;obtain⟨e1,e2⟩:=tj hr;exact⟨e1,e2⟩
 | .o τ::ks,c0::cs,v::ds,n,n',r,os,h=>by
  simp only[bN] at h;split at h;case h_2=>cases h
  case h_1 hv =>
  split at h;case h_2=>cases h
  case h_1 r1 Vx n1 hr =>
  simp only[a8V,a8Y] at h;obtain⟨rfl,rfl,rfl⟩:=h;obtain⟨e1,e2⟩:=tj hr;exact⟨by rw[e1];rfl,by rw[e2];simp[dt];omega⟩
 | .p j::ks,c0::cs,ds,n,n',r,os,h=>by
  simp only[bN] at h;split at h;case h_2=>cases h
  case h_1 id =>
  split at h;case h_2=>cases h
  case h_1 i hi =>
  split at h;case h_2=>cases h
  case h_1 r1 Vx n1 hbe hr =>
  simp only[a8V,a8Y] at h;obtain⟨rfl,rfl,rfl⟩:=h;obtain⟨e1,e2⟩:=tj hr;cases ds<;>exact⟨e1,e2⟩
 | [],_::_,_,_,_,_,_,h=>by simp[bN] at h
 | [],[],_::_,_,_,_,_,h=>by simp[bN] at h
 | .d _::_,[],_,_,_,_,_,h=>by simp[bN] at h
 | .o _::_,[],_,_,_,_,_,h=>by simp[bN] at h
 | .p _::_,[],ds,_,_,_,_,h=>by cases ds<;>simp[bN] at h
 | .d _::_,_::_,[],_,_,_,_,h=>by simp[bN] at h
 | .o _::_,_::_,[],_,_,_,_,h=>by simp[bN] at h
theorem Inv.a2C{s1:ag}(h1:Inv c G s1 a w){S' X:Nat->Prop}{Dj:Nat->Option av}(hk:bI X w w')(hX:∀ b,X b->c.w0.heap.size<=b\/c.X b)(hXS:∀ b,X b->¬ G.S b)
  (hS:∀ b,G.S b->S' b) (UP:∀ b,S' b->b<w'.heap.size) (WO:∀ b,b<w.heap.size->¬ X b->(S' b↔G.S b))
  (ji:∀ id,(Dj id=s1.af id/\∀ o b,s1.af id=some o->dk (G.η id)=some b->¬ X b) \/
   ∃ cs du,s1.af id=some (.box cs)/\Dj id=some (.box du)/\(∀ b,dk (G.η id)=some b->¬ S' b)/\∃ b l t,G.η id = .pointer (some ⟨b,0,none⟩)/\w'.heap[b]?=some (.cells l.toArray t (0,0))/\∀ (G:Gh) (lk:Nat->Option av),aM (C1 c G lk w') du l)
  (oP:∀ id τ xs b,s1.af id=some (.aC τ xs)->b∈G.φ id->¬ X b):bd c ⟨S',G.η,G.φ⟩ s1.sl s1.aw.length Dj a w':=by
 have eY:∀ id,eb (s1.af id) (Dj id):=λ id=>by
  rcases ji id with ⟨e,_⟩|⟨cs,du,e1,e2,_⟩
  .rw[e];exact eb.refl _
  .rw[e1,e2];exact⟨λ _=>rfl,(λ e τ xs q=>by cases q),(λ q=>by cases q),λ q=>by cases q⟩
 have cd:∀ b,St c G.S b->w'.heap[b]?=w.heap[b]?:=λ b hb=>by
  rcases hb with hb|hb
  .exact hk.block b (h1.dI b hb) λ q=>hXS b q hb
  .exact hk.block b (a9g hb.1 h1.aL.size) λ q=>(hX b q).elim (λ q=>by omega) hb.2.1
 have hold:∀ id o,Dj id=some o->∃ o',s1.af id=some o'/\(∀ τ xs,o = .aC τ xs->o' = .aC τ xs):=λ id o ho=>by
  rcases ji id with ⟨e,_⟩|⟨cs,du,e1,e2,_⟩
  .exact⟨o,by rw[<-e];exact ho,λ τ xs q=>q⟩
  .rw[e2] at ho;simp only[a8V] at ho;exact⟨_,e1,λ τ xs q=>by rw[q] at ho;cases ho⟩
 have B6:∀ id τ xs,Dj id=some (.aC τ xs)->s1.af id=some (.aC τ xs):=λ id τ xs ht=>by
  obtain⟨o',q1,q2⟩:=hold id _ ht;rw[q1,q2 τ xs rfl]
 exact {
  defers:=h1.defers,size:=h1.size
  aL:=h1.aL.trans hk λ i hi hy=>(hX i hy).elim (λ q=>by omega) id
  jE:=h1.jE
  ej:=λ b hb hx=>(WO b (a9g hb h1.aL.size) λ q=>(hX b q).elim (λ q=>by omega) hx).trans (h1.ej b hb hx)
  sX:=λ b hb=>hS b (h1.sX b hb)
  dI:=UP
  aw:=λ i=>(h1.aw i).mono (λ id _=>⟨eY id,rfl⟩) hS cd
  aH:=λ id o ho=>by
   rcases ji id with ⟨e,e'⟩|⟨cs,du,e1,e2,_,b,l,t,e3,e4,e5⟩
   .rw[e] at ho;exact (h1.aH id o ho).mono rfl (λ b hb=>hk.block b (h1.place id o b ho hb).2.2 (e' o b ho hb)) (λ j _=>⟨eY j,rfl⟩) hS cd
   .rw[e2] at ho;simp only[a8V] at ho;subst ho;exact⟨b,l,t,e3,e4,e5 _ _⟩
  place:=λ id o b ho hb=>by
   obtain⟨o',q1,_⟩:=hold id o ho;obtain⟨p1,p2,p3⟩:=h1.place id o' b q1 hb;refine⟨p1,?_,a9g p3 hk.size⟩;rcases ji id with ⟨e,e'⟩|⟨cs,du,e1,e2,e3,_⟩
   .exact λ q=>p2 ((WO b p3 (e' o' b q1 hb)).1 q)
   .exact e3 b hb
  apart:=λ id dm o o' b ho cE hb cm=>by
   obtain⟨p,q1,_⟩:=hold id o ho;obtain⟨p',q2,_⟩:=hold dm o' cE;exact h1.apart id dm p p' b q1 q2 hb cm
  aO:={
   tr:=λ id τ xs ht=>(h1.aO.tr id τ xs (B6 id τ xs ht)).aL λ b hb=>hk.block b (h1.aO.pl id τ xs b (B6 id τ xs ht) hb).2.2.1 (oP id τ xs b (B6 id τ xs ht) hb)
   nd:=λ id τ xs ht=>h1.aO.nd id τ xs (B6 id τ xs ht)
   pl:=λ id τ xs b ht hb=>by
    obtain⟨p1,p2,p3,p4⟩:=h1.aO.pl id τ xs b (B6 id τ xs ht) hb;refine⟨p1,λ q=>p2 ((WO b p3 (oP id τ xs b (B6 id τ xs ht) hb)).1 q),a9g p3 hk.size,λ i o ho=>?_⟩;obtain⟨o',q1,_⟩:=hold i o ho;exact p4 i o' q1
   ap:=λ id dm τ aT xs cM b ht W6=>h1.aO.ap id dm τ aT xs cM b (B6 id τ xs ht) (B6 dm aT cM W6) }
  root:=λ id v hr ht=>h1.root id v hr (by
   match hl:Dj id,ht with
   | some (.aC τ xs),_=>rw[B6 id τ xs hl];rfl)
  gX:=h1.gX
  dq:=λ id v hr ht=>h1.dq id v hr (by
   rcases ji id with ⟨e,_⟩|⟨cs,du,e1,e2,_⟩
   .rw[<-e];exact ht
   .rw[e1];rfl)
  eF:=h1.eF }
theorem bd.a7s{sl:Nat->AV}{n:Nat}{lk lk2:Nat->Option av}(h:bd c G sl n lk a w)(ji:∀ id,lk2 id=lk id\/∃ cs du,lk id=some (.box cs)/\lk2 id=some (.box du)/\∃ b l t,G.η id = .pointer (some ⟨b,0,none⟩)/\w.heap[b]?=some (.cells l.toArray t (0,0))/\aM (C1 c G lk2 w) du l) :
  bd c G sl n lk2 a w:=by
 have eY:∀ id,eb (lk id) (lk2 id):=λ id=>by
  rcases ji id with e|⟨cs,du,e1,e2,_⟩
  .rw[e];exact eb.refl _
  .rw[e1,e2];exact⟨λ _=>rfl,(λ e τ xs q=>by cases q),(λ q=>by cases q),λ q=>by cases q⟩
 have hold:∀ id o,lk2 id=some o->∃ o',lk id=some o'/\(∀ τ xs,o = .aC τ xs->o' = .aC τ xs):=λ id o ho=>by
  rcases ji id with e|⟨cs,du,e1,e2,_⟩
  .exact⟨o,by rw[<-e];exact ho,λ τ xs q=>q⟩
  .rw[e2] at ho;simp only[a8V] at ho;exact⟨_,e1,λ τ xs q=>by rw[q] at ho;cases ho⟩
 have B6:∀ id τ xs,lk2 id=some (.aC τ xs)->lk id=some (.aC τ xs):=λ id τ xs ht=>by
  obtain⟨o',q1,q2⟩:=hold id _ ht;rw[q1,q2 τ xs rfl]
 exact {
  defers:=h.defers,size:=h.size,aL:=h.aL,jE:=h.jE,ej:=h.ej,sX:=h.sX,dI:=h.dI
  aw:=λ i=>(h.aw i).mono (λ id _=>⟨eY id,rfl⟩) (λ _ q=>q) (λ _ _=>rfl)
  aH:=λ id o ho=>by
   rcases ji id with e|⟨cs,du,e1,e2,b,l,t,e3,e4,e5⟩
   .rw[e] at ho;exact (h.aH id o ho).mono rfl (λ _ _=>rfl) (λ j _=>⟨eY j,rfl⟩) (λ _ q=>q) (λ _ _=>rfl)
   .rw[e2] at ho;simp only[a8V] at ho;subst ho;exact⟨b,l,t,e3,e4,e5⟩
  place:=λ id o b ho hb=>by
   obtain⟨o',q1,_⟩:=hold id o ho;exact h.place id o' b q1 hb
  apart:=λ id dm o o' b ho cE hb cm=>by
   obtain⟨p,q1,_⟩:=hold id o ho;obtain⟨p',q2,_⟩:=hold dm o' cE;exact h.apart id dm p p' b q1 q2 hb cm
  aO:={
   tr:=λ id τ xs ht=>h.aO.tr id τ xs (B6 id τ xs ht)
   nd:=λ id τ xs ht=>h.aO.nd id τ xs (B6 id τ xs ht)
   pl:=λ id τ xs b ht hb=>by
    obtain⟨p1,p2,p3,p4⟩:=h.aO.pl id τ xs b (B6 id τ xs ht) hb;refine⟨p1,p2,p3,λ i o ho=>?_⟩;obtain⟨o',q1,_⟩:=hold i o ho;exact p4 i o' q1
   ap:=λ id dm τ aT xs cM b ht W6=>h.aO.ap id dm τ aT xs cM b (B6 id τ xs ht) (B6 dm aT cM W6) }
  root:=λ id v hr ht=>h.root id v hr (by
   match hl:lk2 id,ht with
   | some (.aC τ xs),_=>rw[B6 id τ xs hl];rfl)
  gX:=h.gX
  dq:=λ id v hr ht=>h.dq id v hr (by
   rcases ji id with e|⟨cs,du,e1,e2,_⟩
   .rw[<-e];exact ht
   .rw[e1];rfl)
  eF:=h.eF }
theorem DE{m:List (Nat×Nat)}{S:Nat->Prop}{B:Nat->Nat}{lk:Nat->Option av}:∀ {sh:List (List CK)} {k:Nat} {bu:List (List TV)} {n:Nat} {bs ts:List (Nat×av)} {fp:List Nat},pW lk m sh k bu n=some (bs,ts)->eO w S B k sh bu fp ->
  ∃ sW xs,ts=bL n sW/\cV w (sW.map TV.aE) xs fp/\(∀ u∈sW,u.τ.agg=false) /\
   (∀ j,k<=j->j<k+sh.length->∃ (id:Nat) (du:List AV) (l:List Value) (t:TypeId),af m j=some id/\(id,av.box du)∈bs/\w.heap[B j]?=some (.cells l.toArray t (0,0))/\l.length=du.length) /\
   (∀ p∈bs,∃ (j:Nat) (du:List AV) (l:List Value) (t:TypeId),k<=j/\j<k+sh.length/\af m j=some p.1/\p.2 = .box du/\w.heap[B j]?=some (.cells l.toArray t (0,0))/\l.length=du.length /\
    ∀ (G':Gh) (lk':Nat->Option av),(∀ b,S b->G'.S b)->(∀ j id,af m j=some id->G'.η id = .pointer (some ⟨B j,0,none⟩)/\fw (lk' id)=true)->aM (C1 c G' lk' w) (bT n sW) xs->aM (C1 c G' lk' w) du l)
 | [],k,[],n,bs,ts,fp,h,hb=>by
  simp only[pW,a8V,a8Y] at h;obtain⟨rfl,rfl⟩:=h;exact⟨[],[],rfl,⟨rfl,hb⟩,by simp,λ j h1 h2=>by simp at h2;omega,by simp⟩
 | ks::sh,k,ds::bu,n,bs,ts,fp,h,hb=>by
  simp only[pW] at h;split at h;case h_2=>cases h
  case h_1 id aS =>
  split at h;case h_2=>cases h
  case h_1 cs iG =>
  split at h;case h_2=>cases h
  case h_1 r os n1 hr =>
  split at h;case h_2=>cases h
  case h_1 bs1 ts1 vV =>
  simp only[a8V,a8Y] at h;obtain⟨rfl,rfl⟩:=h;obtain⟨l,t,f1,f2,rfl,hw,hB,hbs⟩:=hb;obtain⟨e1,e2⟩:=tj hr;obtain⟨sW,xs,q1,q2,q3,q4,q5⟩:=DE vV hbs;obtain⟨o1,o2,o3⟩:=hB.sW;have IV:∀ {G':Gh} {lk':Nat->Option av},aM (C1 c G' lk' w) (bT n (dt ks ds++sW)) (jB ks l++xs)->aM (C1 c G' lk' w) (bT n (dt ks ds)) (jB ks l)/\aM (C1 c G' lk' w) (bT n1 sW) xs:=λ {G' lk'} q=>by
   rw[pZ,<-e2] at q;have hl:(bT n (dt ks ds)).length=(jB ks l).length:=by
    rw[<-o3];have:∀ (us:List TV) (n:Nat),(bT n us).length=us.length:=λ us=>by
     induction us with
     | nil=>intro n;rfl
     | cons u us ih=>intro n;simp[bT,ih]
    exact this _ _
   have h1:=q.take (bT n (dt ks ds)).length;have h2:=q.drop (bT n (dt ks ds)).length;rw[b0Z,hl,b0Z] at h1;rw[b1l,hl,b1l] at h2;exact⟨h1,h2⟩
  have hrl:l.length=r.length:=by
   have:∀ {ks:List CK} {cs:List AV} {ds:List TV} {n n':Nat} {r:List AV} {os:List (Nat×av)} {l:List Value} {fp:List Nat},bN m ks cs ds n=some (r,os,n')->gU w S B ks ds l fp->l.length=r.length:=by
    intro ks;induction ks with
    | nil =>
     intro cs ds n n' r os l fp h hb;cases cs<;>cases ds<;>simp[bN] at h;obtain⟨rfl,_⟩:=h;cases l with
     | nil=>rfl
     | cons x l=>cases hb
    | cons k0 ks ih =>
     intro cs ds n n' r os l fp h hb;cases l with
     | nil=>cases k0<;>cases ds<;>cases hb
     | cons x l =>
      cases k0 with
      | d τ =>
       cases cs with
       | nil=>simp[bN] at h
       | cons c0 cs =>
        cases ds with
        | nil=>cases hb
        | cons v ds =>
         simp only[bN] at h;split at h;case h_2=>cases h
         case h_1 hv =>
         split at h;case h_2=>cases h
         case h_1 r1 Vx n1 hr =>
         simp only[a8V,a8Y] at h;obtain⟨rfl,rfl,rfl⟩:=h;obtain⟨_,h2⟩:=hb;simp[ih hr h2]
      | o τ =>
       cases cs with
       | nil=>simp[bN] at h
       | cons c0 cs =>
        cases ds with
        | nil=>cases hb
        | cons v ds =>
         simp only[bN] at h;split at h;case h_2=>cases h
         case h_1 hv =>
         split at h;case h_2=>cases h
         case h_1 r1 Vx n1 hr =>
         simp only[a8V,a8Y] at h;obtain⟨rfl,rfl,rfl⟩:=h;obtain⟨_,_,_,_,h2⟩:=hb;simp[ih hr h2]
      | p j =>
       cases cs with
       | nil=>cases ds<;>simp[bN] at h
       | cons c0 cs =>
        have hb:x = .pointer (some ⟨B j,0,none⟩)/\gU w S B ks ds l fp:=by cases ds<;>exact hb
        simp only[bN] at h;split at h;case h_2=>cases h
        case h_1 id =>
        split at h;case h_2=>cases h
        case h_1 i hi =>
        split at h;case h_2=>cases h
        case h_1 r1 Vx n1 hbe hr =>
        simp only[a8V,a8Y] at h;obtain⟨rfl,rfl,rfl⟩:=h;simp[ih hr hb.2]
   exact this hr hB
  refine⟨dt ks ds++sW,jB ks l++xs,by rw[BG,e1,q1,e2],by rw[b0p];exact o1.append q2,λ u hu=>(a8X.1 hu).elim (o2 u) (q3 u),λ j h1 h2=>?_,λ p hp=>?_⟩
  .by_cases hj:j=k
   .subst hj;exact⟨id,r,l,t,aS,b1f ..,hw,hrl⟩
   .obtain⟨dm,du,l',t',g1,g2,g3,g4⟩:=q4 j (by omega) (by simp at h2;omega);exact⟨dm,du,l',t',g1,b0u _ g2,g3,g4⟩
  .rcases a9k.1 hp with rfl|hp
   .exact⟨k,r,l,t,a9n _,by simp,aS,rfl,hw,hrl,λ G' lk' h1 h2 h3=>oC h1 h2 hr hB (IV h3).1⟩
   .obtain⟨j,du,l',t',g1,g2,g3,g4,g5,g7,g6⟩:=q5 p hp;exact⟨j,du,l',t',by omega,by simp;omega,g3,g4,g5,g7,λ G' lk' h1 h2 h3=>g6 G' lk' h1 h2 (IV h3).2⟩
 | [],_,_::_,_,_,_,_,h,_=>by simp[pW] at h
 | _::_,_,[],_,_,_,_,h,_=>by simp[pW] at h
theorem qM{α:Type}:∀ {l:List (Nat×α)} {k:Nat},(∀ p∈l,p.1≠k)->af l k=none
 | [],k,_=>rfl
 | (j,o)::l,k,h=>by
  rw[nC,a9c (λ e=>h (j,o) (by simp) e.symm)];exact qM λ p hp=>h p (by simp[hp])
theorem Dk:∀ (ids:List Nat) (l:List (Nat×av)) (i:Nat),af (fJ ids l) i=if i∈ids then none else af l i
 | [],l,i=>by simp[fJ]
 | id::r,l,i=>by
  rw[fJ,Dk r,dZ];by_cases h1:i∈r
  .simp[h1]
  .by_cases h2:i=id
   .simp[h1,h2]
   .simp[h1,h2]
theorem Eb{m:List (Nat×Nat)}(h2:(m.map (·.2)).Nodup){j k id:Nat}(hj:af m j=some id)(hk:af m k=some id):j=k:=by
 have e1:=eL hj;have e2:=eL hk;have:(j,id)=(k,id):=by
  clear hj hk;induction m with
  | nil=>cases e1
  | cons p m ih =>
   simp only[a9x,a9z] at h2;rcases a9k.1 e1 with q1|e1
   .rcases a9k.1 e2 with q2|e2
    .rw[q1,q2]
    .exact absurd (a9b.2 ⟨(k,id),e2,by rw[<-q1]⟩) h2.1
   .rcases a9k.1 e2 with q2|e2
    .exact absurd (a9b.2 ⟨(j,id),e1,by rw[<-q2]⟩) h2.1
    .exact ih h2.2 e1 e2
 exact congrArg Prod.fst this
theorem xY{m:List (Nat×Nat)}{k id:Nat}(h:af m k=some id):id∈m.map (·.2):=a9b.2 ⟨_,eL h,rfl⟩
theorem Zn{m:List (Nat×Nat)}{n:Nat}(h1:(m.map (·.1)).Nodup)(hl:m.length=n)(hk:∀ k,k<n->∃ id,af m k=some id):∀ p∈m,p.1<n:=by
 have Fs:List.range n ⊆ m.map (·.1):=λ k eK=>by
  obtain⟨id,q⟩:=hk k (List.mem_range.1 eK);exact a9b.2 ⟨_,eL q,rfl⟩
 have KA:(m.map (·.1)) ⊆ List.range n:=by
  intro x hx;refine b1L λ hn=>?_;have h3:(x::List.range n).Nodup:=a9z.2 ⟨hn,b1U⟩;have h4:(x::List.range n) ⊆ m.map (·.1):=λ y hy=>(a9k.1 hy).elim (λ e=>e ▸ hx) (λ hy=>Fs hy);have:=b1y h3 h4;simp at this;omega
 exact λ p hp=>List.mem_range.1 (KA (a9b.2 ⟨p,hp,rfl⟩))
theorem XA(hE:bn c.P c.E)(h:Inv c G s a w){o:Oper}{vc:Vc}{s':ag}(hq:T4 c.E s o=some (vc,s'))(dY:vc.ok){Q:Exit->Act->World->Prop} :
  o.wp c.P a w (λ a' w'=>∃ G',Inv c G' s' a' w') Q:=by
 unfold T4 at hq;split at hq;case h_2=>cases hq
 case h_1 d hd =>
 split at hq;case h_2=>cases hq
 case h_1 cl bf =>
 split at hq;case h_2=>cases hq
 case h_1 f fY =>
 split at hq;case h_2 =>
   cases hq
 case h_1 sk hsk =>
 split at hq;case h_2=>cases hq
 case h_1 m0 hm0 =>
 split at hq;case h_2=>cases hq
 case h_1 bu ids m hm =>
 split at hq;case h_2=>cases hq
 case h_1 a4e =>
 split at hq;case h_2=>cases hq
 case h_1 Z9 has =>
 split at hq;case h_2=>cases hq
 case h_1 pre res dw hc =>
 split at hq;case h_2=>cases hq
 case h_1 bs ts oU =>
 split at hq;case h_2=>cases hq
 case h_1 EU =>
 simp only[Option.some.injEq,Prod.mk.injEq] at hq;obtain⟨rfl,rfl⟩:=hq;simp only[Bool.and_eq_true] at a4e;obtain⟨MS,O7,Za,hn4⟩:=a4e;have MS:=cX MS;have O7:=cX O7;have Za:=cX Za;have hn4:=Nat.eq_of_beq_eq_true hn4;simp only[Bool.and_eq_true,List.all_eq_true] at EU;have rL:∀ p∈bc (bE d) res++ts,(ids.foldl ag.gone s).af p.1=none:=λ p hp=>by simpa using EU.1 p hp
 have oT:=cX EU.2;obtain⟨rK,lU⟩:=hE.Se f sk Z9 bu pre res dw hsk hc dY;obtain⟨_,S8⟩:=tV hm0;obtain⟨KB,Ta,fa,OX,L6,a6V⟩:=sB h hm MS;have OX:=OX m (jF.refl m);have S8:∀ (i k:Nat),sk.ps[i]?=some (some k)->∃ id,(cl.args.toList.map s.eval)[i]?=some (AV.ptr id 0)/\af m k=some id:=λ i k q=>by
  obtain⟨id,q1,q2⟩:=S8 i k q;exact⟨id,q1,KB k id q2⟩
 have h1:Inv c G (ids.foldl ag.gone s) a w:=uA ids h;have hF:∀ b,b∈fa->tF c G (ids.foldl ag.gone s).af w b:=λ b hb=>Iu h (a6V b hb);have Ak:∀ k,k<sk.sh.length->∃ (id:Nat) (cs:List AV),af m k=some id/\(ids.foldl ag.gone s).af id=some (.box cs):=λ k hk=>by
  obtain⟨id,cs,q1,q2⟩:=Ta k (Nat.zero_le _) (by simpa using hk);refine⟨id,?_⟩;have aS:id∉ids:=λ hi=>by
   have:∀ {sh:List (List CK)} {k:Nat} {m m':List (Nat×Nat)} {bu:List (List TV)} {ids:List Nat},gS s.af sh k m=some (bu,ids,m')->∀ i∈ids,∀ cs,s.af i≠some (.box cs):=by
    have fD:∀ {ks:List CK} {cs:List AV} {m m':List (Nat×Nat)} {ds:List TV} {ids:List Nat},cO s.af ks cs m=some (ds,ids,m')->∀ i∈ids,∀ cs,s.af i≠some (.box cs):=by
     intro ks;induction ks with
     | nil =>
      intro cs m m' ds ids ht;cases cs<;>simp[cO] at ht;obtain⟨_,rfl,_⟩:=ht;simp
     | cons k0 ks ih =>
      intro cs m m' ds ids ht;cases cs with
      | nil=>cases k0<;>simp[cO] at ht
      | cons v cs =>
       cases k0 with
       | d τ =>
        simp only[cO] at ht;split at ht;case h_2=>cases ht
        case h_1 y hy uF =>
        split at ht;case h_2=>cases ht
        case h_1 ds1 U8 m1 hr =>
        simp only[a8V,a8Y] at ht;obtain⟨_,rfl,_⟩:=ht;exact ih hr
       | o τ =>
        simp only[cO] at ht;split at ht;case h_2=>cases ht
        case h_1 y i hy uF =>
        split at ht;case h_2=>cases ht
        case h_1 ds1 U8 m1 hr =>
        simp only[a8V,a8Y] at ht;obtain⟨_,rfl,_⟩:=ht;intro j hj UA;rcases a8X.1 hj with hj|hj
        .unfold eB at hy;split at hy
         .split at hy
          .simp only[a8V,a8Y] at hy;obtain⟨_,rfl⟩:=hy;cases hj
          .cases hy
         .split at hy
          .simp only[a8V,a8Y] at hy;obtain⟨_,rfl⟩:=hy;cases hj
          .cases hy
         .split at hy
          .rename_i hl;split at hy
           .simp only[a8V,a8Y] at hy;obtain⟨_,rfl⟩:=hy;simp only[a9w] at hj;subst hj;rw[hl];simp
           .cases hy
          .cases hy
         .split at hy
          .rename_i hl;split at hy
           .simp only[a8V,a8Y] at hy;obtain⟨_,rfl⟩:=hy;simp only[a9w] at hj;subst hj;rw[hl];simp
           .cases hy
          .cases hy
         .cases hy
        .exact ih hr j hj UA
       | p j =>
        simp only[cO] at ht;split at ht;case h_2=>cases ht
        case h_1 id =>
        split at ht
        .split at ht
         .exact ih ht
         .cases ht
        .exact ih ht
    intro sh;induction sh with
    | nil =>
     intro k m m' bu ids ht;simp only[gS,a8V,a8Y] at ht;obtain⟨_,rfl,_⟩:=ht;simp
    | cons ks sh ih =>
     intro k m m' bu ids ht;simp only[gS] at ht;split at ht;case h_2=>cases ht
     case h_1 id aS =>
     split at ht;case h_2=>cases ht
     case h_1 cs iG =>
     split at ht;case h_2=>cases ht
     case h_1 ds i m1 hr =>
     split at ht;case h_2=>cases ht
     case h_1 a6n U8 m2 vV =>
     simp only[a8V,a8Y] at ht;obtain⟨_,rfl,_⟩:=ht;intro j hj UA;rcases a8X.1 hj with hj|hj
     .exact fD hr j hj UA
     .exact ih vV j hj UA
   exact this hm id hi cs q2
  have:∀ (ids:List Nat) (s:ag) (cs:List AV),id∉ids->s.af id=some (.box cs)->∃ du,(ids.foldl ag.gone s).af id=some (.box du):=by
   intro ids;induction ids with
   | nil=>intro s cs _ hs;exact⟨cs,hs⟩
   | cons i ids ih =>
    intro s cs hi hs;have dv:id≠i:=λ e=>hi (by simp[e]);refine ih (s.gone i) (cs.map (AV.kill i)) (λ q=>hi (by simp[q])) ?_;rw[AI,a9c dv,hs];rfl
  obtain⟨du,q3⟩:=this ids s cs aS q2;exact⟨du,q1,q3⟩
 generalize W4:ids.foldl ag.gone s=s1 at *
 have fg:∀ k id,af m k=some id->k<sk.sh.length->G.η id = .pointer (some ⟨jw G m k,0,none⟩)/\dk (G.η id)=some (jw G m k):=λ k id hk bj=>by
  obtain⟨dm,cs,q1,q2⟩:=Ak k bj;rw[hk] at q1;simp only[a8V] at q1;subst q1;obtain⟨b,l,t,k1,_⟩:=h1.aH id _ q2;have:jw G m k=b:=by
   simp only[jw,hk,k1];rfl
  rw[this,k1];exact⟨rfl,rfl⟩
 have iu:=Zn O7 hn4 (λ k hk=>by obtain⟨id,_,q,_⟩:=Ak k hk;exact⟨id,q⟩);have Yi:∀ id,id∈m.map (·.2)->∃ k cs,k<sk.sh.length/\af m k=some id/\s1.af id=some (.box cs):=λ id aS=>by
  obtain⟨⟨k,dm⟩,hp,rfl⟩:=a9b.1 aS;have hk:=iu _ hp;have hl:=th O7 hp;obtain⟨id2,cs,q1,q2⟩:=Ak k hk;rw[hl] at q1;simp only[a8V] at q1;subst q1;exact⟨k,cs,hk,hl,q2⟩
 have Bh:∀ j k,j<sk.sh.length->k<sk.sh.length->jw G m j=jw G m k->j=k:=λ j k hj hk e=>by
  obtain⟨idj,csj,j1,j2⟩:=Ak j hj;obtain⟨idk,csk,k1,k2⟩:=Ak k hk;have:=h1.apart idj idk _ _ (jw G m j) j2 k2 (fg j idj j1 hj).2 (by rw[e];exact (fg k idk k1 hk).2);subst this;exact Eb Za j1 k1
 have RS:∀ k,k<sk.sh.length->(c.w0.heap.size<=jw G m k\/c.X (jw G m k))/\¬ G.S (jw G m k)/\jw G m k<w.heap.size:=λ k hk=>by
  obtain⟨id,cs,k1,k2⟩:=Ak k hk;exact h1.place id _ _ k2 (fg k id k1 hk).2
 have a4g:∀ b∈fa,∀ k,k<sk.sh.length->jw G m k≠b:=λ b hb k hk e=>by
  obtain⟨id,cs,k1,k2⟩:=Ak k hk;exact (hF b hb).2.2.2.1 id _ k2 (by rw[<-e];exact (fg k id k1 hk).2)
 have hXo:∀ b,BX sk.sh.length (jw G m) fa b->(c.w0.heap.size<=b\/c.X b)/\¬ G.S b:=λ b hb=>by
  rcases hb with hb|⟨k,hk,rfl⟩
  .exact⟨(hF b hb).1,(hF b hb).2.1⟩
  .exact⟨(RS k hk).1,(RS k hk).2.1⟩
 have sK:∀ b,BX sk.sh.length (jw G m) fa b->¬ St c G.S b:=λ b hb q=>by
  obtain⟨q1,q2⟩:=hXo b hb;rcases q with q|⟨q,q3,_⟩
  .exact q2 q
  .exact q1.elim (λ q=>by omega) q3
 have kc:∀ id o b,id∉m.map (·.2)->s1.af id=some o->dk (G.η id)=some b->¬ BX sk.sh.length (jw G m) fa b:=λ id o b aS ho hb q=>by
  rcases q with q|⟨k,hk,rfl⟩
  .exact (hF b q).2.2.2.1 id _ ho hb
  .obtain⟨dm,cs,k1,k2⟩:=Ak k hk;have:=h1.apart id dm _ _ _ ho k2 hb (fg k dm k1 hk).2;subst this;exact aS (xY k1)
 have a4a:∀ id τ xs b,s1.af id=some (.aC τ xs)->b∈G.φ id->¬ BX sk.sh.length (jw G m) fa b:=λ id τ xs b ht hb q=>by
  rcases q with q|⟨k,hk,rfl⟩
  .exact (hF b q).2.2.2.2 id τ xs ht hb
  .obtain⟨dm,cs,k1,k2⟩:=Ak k hk;exact (h1.aO.pl id τ xs _ ht hb).2.2.2 dm _ k2 (fg k dm k1 hk).2
 have B5:∀ id o b,ZB sk.sh s1.af (m.map (·.2)) id=some o->dk (G.η id)=some b->¬ BX sk.sh.length (jw G m) fa b:=λ id o b ho hb=>kc id o b (JB ho).2 (JB ho).1 hb;have a2T:Sq c.P f sk.sh res dw w G.S (jw G m) (cl.args.toList.map a.eval) fa:=by
  cases QU:Iq sk.sh with
  | false =>
   have iv:∀ id o,ZB sk.sh s1.af (m.map (·.2)) id=some o->∃ cs,o = .box cs:=λ id o q=>by
    unfold ZB at q;rw[QU] at q;exact (R5 q).2.2
   have dU:=xo hE h1 (mf:=m) (λ _ q=>q) (λ id o ho=>(JB ho).1) (λ τ v x y q1 q2=>Co (λ id e τ xs q=>by obtain⟨cs,e⟩:=iv _ _ q;cases e) (λ id τ xs q=>by obtain⟨cs,e⟩:=iv _ _ q;cases e) q1 q2) sK B5 (lk0:=s.af) has (aM.jQ (aW h1) cl.args.toList) (aM.jQ (aW h) cl.args.toList) S8;exact lU w G.S (jw G m) _ fa h1.ZC OX L6 (λ b hb=>⟨(hF b hb).2.2.1,(hF b hb).2.1,a4g b hb⟩) (λ k hk=>⟨(RS k hk).2.2,(RS k hk).2.1⟩) Bh dU
  | true =>
   have dU:=xo hE h1 (mf:=m) (S1:=SX G s1.af) (λ _ q => .inl q) (λ id o ho=>(JB ho).1) (λ τ v x y q1 q2=>wg h1.aO h1.aH (λ id o ho=>(JB ho).1) q1 q2) sK B5 (lk0:=s.af) has (aM.jQ (aW h1) cl.args.toList) (aM.jQ (aW h) cl.args.toList) S8;refine lU.more QU h1.V0 (λ _ q => .inl q) (λ b hb q=>?_) OX L6 (λ b hb=>⟨(hF b hb).2.2.1,(hF b hb).2.1,a4g b hb⟩) (λ k hk=>⟨(RS k hk).2.2,(RS k hk).2.1⟩) Bh dU;rcases q with q|⟨id,e,τ,xs,q1,q2⟩|⟨id,τ,xs,q1,q2⟩
   .exact (hXo b hb).2 q
   .refine kc id _ b (λ aS=>?_) q1 q2 hb;obtain⟨_,cs,_,_,q3⟩:=Yi id aS;rw[q1] at q3;cases q3
   .exact a4a id τ xs b q1 q2 hb
 unfold Oper.wp;rw[iD bf fY rfl rK];simp only[Oper.upon];refine Calls.mono (show Sq c.P f sk.sh res dw w G.S (jw G m) (cl.args.toList.map a.eval) fa from a2T) ?_;rintro e w' ⟨x,S',fp,Gr,rfl,hk,WN,Y2,hS3,hO,hB',dj,oN,hBS⟩;obtain⟨sW,xs,e1,e2,e3,e4,e5⟩:=DE oU hB';let Dj:Nat->Option av:=λ i=>match af bs i with
  | some (.box cs)=>some (.box (List.replicate cs.length .any))
  | _=>s1.af i
 have Tb:∀ id,id∈m.map (·.2)->∃ (k:Nat) (du:List AV),k<sk.sh.length/\af m k=some id/\af bs id=some (.box du)/\∃ (l:List Value) (t:TypeId),w'.heap[jw G m k]?=some (.cells l.toArray t (0,0))/\l.length=du.length:=λ id aS=>by
  obtain⟨k,cs,k1,k2,k3⟩:=Yi id aS;obtain⟨dm,du,l,t,g1,g2,g3,g4⟩:=e4 k (Nat.zero_le _) (by simpa using k1);rw[k2] at g1;simp only[Option.some.injEq] at g1;subst g1;have bS:∃ o,af bs id=some o:=by
   cases hl:af bs id with
   | some o=>exact⟨o,rfl⟩
   | none =>
    exfalso;have:∀ {l:List (Nat×av)} {k:Nat},af l k=none->∀ p∈l,p.1≠k:=by
     intro l;induction l with
     | nil=>intro k _ p hp;cases hp
     | cons q l ih =>
      intro k hq p hp;obtain⟨j,o⟩:=q;rw[nC] at hq;split at hq
      .cases hq
      .rename_i dv;rcases a9k.1 hp with rfl|hp
       .exact λ e=>dv e.symm
       .exact ih hq p hp
    exact this hl _ g2 rfl
  obtain⟨o,ho⟩:=bS;obtain⟨j,UA,l2,t2,_,j2,j3,j4,j5,j6,_⟩:=e5 _ (eL ho);have:j=k:=Eb Za j3 k2;subst this;simp only at j4;subst j4;exact⟨j,UA,k1,k2,ho,l2,t2,j5,j6⟩
 have a4d:∀ id,id∉m.map (·.2)->af bs id=none:=λ id aS=>qM λ p hp e=>by
  obtain⟨j,_,_,_,_,_,j3,_⟩:=e5 p hp;exact aS (e ▸ xY j3)
 have RY:∀ id,id∉m.map (·.2)->Dj id=s1.af id:=λ id aS=>by simp only[Dj,a4d id aS]
 have a0W:∀ id k du,af m k=some id->af bs id=some (.box du)->Dj id=some (.box (List.replicate du.length .any)):=λ id k du _ hb=>by simp only[Dj,hb]
 have hA:bd c ⟨S',G.η,G.φ⟩ s1.sl s1.aw.length Dj a w':=by
  refine Inv.a2C h1 (X:=BX sk.sh.length (jw G m) fa) hk (λ b hb=>(hXo b hb).1) (λ b hb=>(hXo b hb).2) WN Y2 hS3 (λ id=>?_) a4a;by_cases aS:id∈m.map (·.2)
  .obtain⟨k,du,q1,q2,q3,l,t,q4,q5⟩:=Tb id aS;obtain⟨_,cs,_,_,q6⟩:=Yi id aS;obtain⟨g1,g2⟩:=fg k id q2 q1;refine .inr ⟨cs,_,q6,a0W id k du q2 q3,λ b hb=>?_,jw G m k,l,t,g1,q4,λ G' lk'=>?_⟩
   .rw[g2] at hb;simp only[a8V] at hb;subst hb;exact hBS k q1
   .have:∀ (l:List Value),aM (C1 c G' lk' w') (List.replicate l.length .any) l:=λ l=>by
     induction l with
     | nil=>exact trivial
     | cons x l ih=>exact⟨U,ih⟩
    rw[<-q5];exact this l
  .exact .inl ⟨RY id aS,λ o b ho hb=>kc id o b aS ho hb⟩
 have a0Z:∀ p∈bc (bE d) res++ts,p.1∉m.map (·.2):=λ p hp aS=>by
  obtain⟨_,cs,_,_,q⟩:=Yi p.1 aS;rw[rL p hp] at q;cases q
 rw[a9s] at dj;obtain⟨nd1,nd2,nd3⟩:=dj;rw[b0p,a9s] at oT;obtain⟨dd1,dd2,dd3⟩:=oT;have Y1:Fr c ⟨S',G.η,G.φ⟩ Dj w' (fp++Gr):=λ b hb=>by
  obtain⟨q1,q2,q3⟩:=oN b hb;have uG:∀ i o,Dj i=some o->dk (G.η i)≠some b:=λ i o cg e=>by
   by_cases aS:i∈m.map (·.2)
   .obtain⟨k,du,g1,g2,_⟩:=Tb i aS;rw[(fg k i g2 g1).2] at e;simp only[a8V] at e;exact q3 k g1 e
   .rw[RY i aS] at cg;rcases q1 with q1|⟨q1,_⟩
    .exact (hF b q1).2.2.2.1 i o cg e
    .have:=(h1.place i o b cg e).2.2;omega
  have hbt:∀ j τ zs,Dj j=some (.aC τ zs)->b∉G.φ j:=λ j τ zs hj na=>by
   by_cases aS:j∈m.map (·.2)
   .obtain⟨k,du,g1,g2,g3,_⟩:=Tb j aS;rw[a0W j k du g2 g3] at hj;cases hj
   .rw[RY j aS] at hj;rcases q1 with q1|⟨q1,_⟩
    .exact (hF b q1).2.2.2.2 j τ zs hj na
    .have:=(h1.aO.pl j τ zs b hj na).2.2.1;omega
  rcases q1 with q1|⟨q1,q1'⟩
  .exact⟨(hF b q1).1,q2,a9g (hF b q1).2.2.1 hk.size,uG,hbt⟩
  .exact⟨.inl (b0b h1.aL.size q1),q2,q1',uG,hbt⟩
 have Kr:∀ j,bE d<=j->c.R j=none:=λ j hj=>by
  cases hr:c.R j with
  | none=>rfl
  | some v=>have:=h.gX j v hr;unfold bE at hj;omega
 obtain⟨ys,xR,Ph⟩:=Hg (c:=c) (id:=bE d) hO;obtain⟨G1,G8,k1,k2,k3,k4,k5⟩:=hA.HG (id:=bE d) xR nd1 (λ b hb=>Y1 b (by simp[hb])) (λ p hp=>by
  rw[RY p.1 (a0Z p (by simp[hp]))];exact rL p (by simp[hp])) dd1 Kr
 rw[e1] at dd2 dd3 rL a0Z;obtain⟨G2,lk2,p1,p2,p3,p4,_⟩:=k2.yf (us:=sW) (cs:=xs) (fp:=Gr) (id:=bE d+60) e3 e2 nd2 (k5 Gr (λ b hb=>Y1 b (by simp[hb])) λ b hb cm=>nd3 b cm b hb rfl) (λ p hp=>by
  rw[k1 p.1];unfold fQ;rw[qM (l:=bc (bE d) res) λ q hq e=>dd3 q.1 (List.mem_map.2 ⟨q,hq,rfl⟩) p.1 (List.mem_map.2 ⟨p,hp,rfl⟩) e];simp only;rw[RY p.1 (a0Z p (by simp[hp]))];exact rL p (by simp[hp])) dd2 (λ j hj=>Kr j (by omega))
 have a7m:VR c G2 lk2 w' (jb (bE d) res) x:=Ph G2 lk2 (k4.imp λ u y _ hy=>hy.ext p3);have yM:=bd.put (d:=some d) p2 a7m;have a4h:∀ i,ag.af { aw:=s1.aw.set d (jb (bE d) res),aH:=bs++(bc (bE d) res++ts)++fJ (m.map (·.2)) s1.aH } i=fQ bs (fQ (bc (bE d) res) (fQ ts (λ i=>if i∈m.map (·.2) then none else s1.af i))) i:=λ i=>by
  show af (bs++(bc (bE d) res++ts)++fJ (m.map (·.2)) s1.aH) i=_;rw[a9B,nA,show af (bc (bE d) res++ts++fJ (m.map (·.2)) s1.aH)=fQ (bc (bE d) res) (fQ ts (λ i=>if i∈m.map (·.2) then none else s1.af i)) from funext λ j=>by
   rw[a9B,nA,show af (ts++fJ (m.map (·.2)) s1.aH)=fQ ts (λ i=>if i∈m.map (·.2) then none else s1.af i) from funext λ j=>by
    rw[nA,show af (fJ (m.map (·.2)) s1.aH)=(λ i=>if i∈m.map (·.2) then none else s1.af i) from funext λ j=>Dk _ _ j]]]
 generalize cd:({ aw:=s1.aw.set d (jb (bE d) res),aH:=bs++(bc (bE d) res++ts)++fJ (m.map (·.2)) s1.aH }:ag)=s2 at *
 have a7c:∀ i,lk2 i=fQ ts (fQ (bc (bE d) res) Dj) i:=λ i=>by
  rw[p1 i,e1];unfold fQ;rw[k1 i];rfl
 have R0:∀ i,i∉m.map (·.2)->s2.af i=lk2 i:=λ i aS=>by
  rw[a4h i,a7c i];unfold fQ;rw[a4d i aS,RY i aS];simp only[if_neg aS];cases hV:af (bc (bE d) res) i with
  | none=>rfl
  | some o =>
   rw[qM (l:=ts) λ q hq e=>dd3 i (a9b.2 ⟨(i,o),eL hV,rfl⟩) q.1 (a9b.2 ⟨q,by rw[<-e1];exact hq,rfl⟩) e.symm]
 have fe:∀ i,i∈m.map (·.2)->∃ k du,k<sk.sh.length/\af m k=some i/\af bs i=some (.box du)/\lk2 i=some (.box (List.replicate du.length .any))/\s2.af i=some (.box du)/\G2.η i = .pointer (some ⟨jw G m k,0,none⟩):=λ i aS=>by
  obtain⟨k,du,q1,q2,q3,_⟩:=Tb i aS;have hA':=a0W i k du q2 q3;obtain⟨r1,r2,_⟩:=(k3.trans p3).Zs i _ hA';refine⟨k,du,q1,q2,q3,r1,?_,by rw[r2];exact (fg k i q2 q1).1⟩;rw[a4h i];unfold fQ;rw[q3]
 have eY:∀ i,eb (lk2 i) (s2.af i):=λ i=>by
  by_cases aS:i∈m.map (·.2)
  .obtain⟨k,du,_,_,_,q4,q5,_⟩:=fe i aS;rw[q4,q5];exact⟨λ _=>rfl,(λ e τ xs q=>by cases q),(λ q=>by cases q),λ q=>by cases q⟩
  .rw[R0 i aS];exact eb.refl _
 have a5p:=bd.a7s (lk2:=s2.af) yM (λ i=>by
  by_cases aS:i∈m.map (·.2)
  .obtain⟨k,du,q1,q2,q3,q4,q5,q6⟩:=fe i aS;obtain⟨j,UA,l,t,_,j2,j3,j4,j5,_,j7⟩:=e5 _ (eL q3);have:j=k:=Eb Za j3 q2;subst this;simp only[av.box.injEq] at j4;subst j4;refine .inr ⟨_,_,q4,q5,jw G m j,l,t,q6,j5,?_⟩;refine j7 G2 s2.af (λ b hb=>by rw[p3.S,k3.S];exact hb) (λ j' id yK=>?_) (p4.imp λ u y _ hy=>hy.mono (λ i _=>⟨eY i,rfl⟩) (λ _ q=>q) (λ _ _=>rfl));obtain⟨k',a8D,g1,g2,_,_,g5,g6⟩:=fe id (xY yK);have:j'=k':=Eb Za yK g2;subst this;exact⟨g6,by rw[g5];rfl⟩
  .exact .inl (R0 i aS))
 refine⟨G2,?_⟩;unfold Inv;rw[hd,<-cd,show ag.sl { aw:=s1.aw.set d (jb (bE d) res),aH:=bs++(bc (bE d) res++ts)++fJ (m.map (·.2)) s1.aH }=iO s1.aw.length s1.sl (some d) (jb (bE d) res) from oI s1.aw d _ _,
  show ({ aw:=s1.aw.set d (jb (bE d) res),aH:=bs++(bc (bE d) res++ts)++fJ (m.map (·.2)) s1.aH }:ag).aw.length=s1.aw.length from by simp,cd]
 exact a5p
end
theorem yG(id:Nat)(u:AV):∀ l:List AV,AV.OU id u l=l.map (AV.EK id u)
 | []=>rfl
 | v::r=>congrArg _ (yG id u r)
section
variable {c:Ctx} {G:Gh} {s:ag} {a:Act} {w w':World}
theorem a1L{lk:Nat->Option av}{id:Nat}{e:TypeId}{τ:Ty}{xs:List τ.den}(ho:OR c G lk w id (.row e τ xs)){S':Nat->Prop}(hS:∀ b,G.S b->S' b)(hb:∀ b,dk (G.η id)=some b->S' b) :
  Rd w S' (Ty.aE (.slice τ) xs) [G.η id]:=by
 obtain⟨l,h1,h2,h3⟩:=ho;exact R8 h1 h2 h3 hS hb
theorem C1.EK{lk lk':Nat->Option av}{id:Nat}{e:TypeId}{τ:Ty}{xs:List τ.den}(aS:lk id=some (.row e τ xs))(ho:OR c G lk w id (.row e τ xs)){S':Nat->Prop}(hS:∀ b,G.S b->S' b)(hb:∀ b,dk (G.η id)=some b->S' b)
  (bS:∀ j,j≠id->eb (lk j) (lk' j)) {v:AV} {x:Value} (h:C1 c G lk w v x):C1 c ⟨S',G.η,G.φ⟩ lk' w (AV.EK id (.aN ⟨.slice τ,xs⟩) v) x:=by
 have aL:(∀ j,v.refs j=true->j≠id)->C1 c ⟨S',G.η,G.φ⟩ lk' w v x:=λ hr=>h.mono (λ j hj=>⟨bS j (hr j hj),rfl⟩) hS (λ _ _=>rfl);cases v with
 | row i =>
  simp only[AV.EK];split
  .rename_i hi;have hi:=a8W hi;subst hi;refine⟨rfl,?_⟩;rw[h.1];exact a1L ho hS hb
  .rename_i hi;refine aL λ j hj=>?_;simp only[AV.refs] at hj;have:=a8W hj;intro e;subst this e;simp at hi
 | dX i k off =>
  simp only[AV.EK];split
  .trivial
  .rename_i hi;refine aL λ j hj=>?_;simp only[AV.refs] at hj;have:=a8W hj;intro e;subst this e;simp at hi
 | ptr i off =>
  refine aL λ j hj=>?_;simp only[AV.refs] at hj;have:=a8W hj;intro e;subst this e;obtain⟨b,_,_,h3⟩:=h;rw[aS] at h3;cases h3
 | agg cs=>exact h.elim
 | gb cs=>exact h.elim
 | cN f cs=>exact h.elim
 | gv v=>exact aL λ j hj=>by cases hj
 | any=>trivial
 | dR=>exact h
 | aN u=>exact aL λ j hj=>by cases hj
 | nil=>exact aL λ j hj=>by cases hj
 | cS u=>exact aL λ j hj=>by cases hj
 | fn f=>exact aL λ j hj=>by cases hj
 | mp i =>
  refine aL λ j hj=>?_;simp only[AV.refs] at hj;have:=a8W hj;intro e;subst this e;have h3:=h.2.1;rw[aS] at h3;cases h3
 | aC i =>
  refine aL λ j hj=>?_;simp only[AV.refs] at hj;have:=a8W hj;intro e;subst this e;have h1:=h.1;rw[aS] at h1;cases h1
 | sub i k o z =>
  refine aL λ j hj=>?_;simp only[AV.refs] at hj;have:=a8W hj;intro e;subst this e;have h1:=h.1;rw[aS] at h1;cases h1
 | eo i k o z =>
  refine aL λ j hj=>?_;simp only[AV.refs] at hj;have:=a8W hj;intro e;subst this e;have h1:=h.1;rw[aS] at h1;cases h1
theorem yF(id:Nat)(u:AV):∀ l:List AV,AV.OT id u l=l.map (AV.BV id u)
 | []=>rfl
 | v::r=>congrArg _ (yF id u r)
theorem C1.BV{lk lk':Nat->Option av}{id:Nat}{τ:Ty}{xs:List τ.den}(aS:lk id=some (.aC τ xs))(hT:ic w (G.η id) τ xs (G.φ id)){S':Nat->Prop}(hS:∀ b,G.S b->S' b)(hb:∀ b∈G.φ id,S' b)
  (bS:∀ j,j≠id->eb (lk j) (lk' j)) {v:AV} {x:Value} (h:C1 c G lk w v x):C1 c ⟨S',G.η,G.φ⟩ lk' w (AV.BV id (.aN ⟨.slice τ,xs⟩) v) x:=by
 have aL:(∀ j,v.refs j=true->j≠id)->C1 c ⟨S',G.η,G.φ⟩ lk' w v x:=λ hr=>h.mono (λ j hj=>⟨bS j (hr j hj),rfl⟩) hS (λ _ _=>rfl);have other:∀ i:Nat,(Nat.beq i id=false\/cP (lk i)=false)->(∀ j,v.refs j=true->Nat.beq i j=true)->C1 c ⟨S',G.η,G.φ⟩ lk' w v x:=λ i hi hr=>aL λ j hj e=>by
  have q:=a8W (hr j hj);subst q;subst e;rcases hi with hi|hi
  .simp at hi
  .rw[aS] at hi;cases hi
 cases v with
 | aC i =>
  simp only[AV.BV];split
  .rename_i hi;have hi:=a8W hi;subst hi;obtain⟨_,l,h2,_⟩:=h;exact⟨rfl,hT.rd h2 hb⟩
  .rename_i hi;exact other i (.inl hi) λ j hj=>hj
 | sub i k o z =>
  simp only[AV.BV];split
  .trivial
  .rename_i hi;exact other i (.inl hi) λ j hj=>hj
 | eo i k o z =>
  simp only[AV.BV];split
  .trivial
  .rename_i hi;exact other i (.inl hi) λ j hj=>hj
 | row i=>exact other i (.inr (qo h.2.1)) λ j hj=>hj
 | dX i k off =>
  refine other i (.inr ?_) λ j hj=>hj;obtain⟨b,n,cap,e,aT,cM,_,h3,_⟩:=h;rw[h3];rfl
 | ptr i off =>
  refine other i (.inr ?_) λ j hj=>hj;obtain⟨b,_,_,h3⟩:=h;match hl:lk i,h3 with
  | some (.box _),_=>rfl
 | mp i=>exact other i (.inr (FC h.2.1)) λ j hj=>hj
 | agg cs=>exact h.elim
 | gb cs=>exact h.elim
 | cN f cs=>exact h.elim
 | gv v=>exact aL λ j hj=>by cases hj
 | any=>trivial
 | dR=>exact h
 | aN u=>exact aL λ j hj=>by cases hj
 | nil=>exact aL λ j hj=>by cases hj
 | cS u=>exact aL λ j hj=>by cases hj
 | fn f=>exact aL λ j hj=>by cases hj
structure Fx(F:AV->AV):Prop where
 aN:∀ v,F (.aN v) = .aN v
 agg:∀ cs,F (.agg cs) = .agg (cs.map F)
 gb:∀ cs,F (.gb cs) = .gb (cs.map F)
 cN:∀ f cs,F (.cN f cs) = .cN f (cs.map F)
 any:F .any = .any
 aC:∀ i,(∃ u,F (.aC i) = .aN u)\/F (.aC i) = .aC i
 cS:∀ v,F (.cS v) = .cS v
section
variable {F:AV->AV} {G':Gh} {lk lk':Nat->Option av} (hF:Fx F) (hC:∀ v x,C1 c G lk w v x->C1 c G' lk' w (F v) x) (hS:∀ b,G.S b->G'.S b)
include hF hC hS
theorem CR.fx{v:AV}{x:Value}(h:CR c G lk w v x):CR c G' lk' w (F v) x:=by
 rcases h.inv with ⟨u,rfl,h1⟩|⟨cs,l,rfl,rfl,h1⟩|h1
 .rw[hF.aN];exact dC.mono h1 hS (λ _ _=>rfl)
 .rw[hF.agg];exact⟨l,rfl,aM.dH _ (h1.imp λ u y _ hy=>hC u y hy)⟩
 .exact (hC _ _ h1).V5
theorem VR.fx{v:AV}{x:Value}(h:VR c G lk w v x):VR c G' lk' w (F v) x:=by
 have key:C1 c G lk w v x->VR c G' lk' w (F v) x:=λ q=>(hC v x q).ft;cases v with
 | aN u=>rw[hF.aN];exact dC.mono h hS (λ _ _=>rfl)
 | agg cs =>
  obtain⟨l,rfl,h2⟩:=h;rw[hF.agg];exact⟨l,rfl,aM.dH _ (h2.imp λ u y _ hy=>hC u y hy)⟩
 | gb vs =>
  obtain⟨l,rfl,h2⟩:=h;rw[hF.gb];refine⟨l,rfl,aM.dH _ (h2.imp λ u y _ hy=>?_)⟩;cases u with
  | any=>rw[hF.any];trivial
  | aN v=>rw[hF.aN];exact dC.mono hy hS (λ _ _=>rfl)
  | aC i =>
   have q:=hC (.aC i) y hy;rcases hF.aC i with ⟨u,e⟩|e<;>rw[e] at q ⊢
   .exact q.ft
   .exact q
  | agg cs =>
   obtain⟨l,rfl,h2⟩:=hy;rw[hF.agg];exact⟨l,rfl,aM.dH _ (h2.imp λ u y _ hy=>hC u y hy)⟩
  | cS v =>
   have q:=hC (.cS v) y hy;rw[hF.cS] at q ⊢;exact q
  | _=>exact hy.elim
 | cN f cs =>
  obtain⟨l,rfl,h2⟩:=h;rw[hF.cN];exact⟨l,rfl,aM.dH _ (h2.imp λ u y _ hy=>CR.fx hF hC hS hy)⟩
 | any=>rw[hF.any];trivial
 | _=>exact key h
end
theorem a2S(id:Nat)(u:TV):Fx (AV.EK id (.aN u)):=⟨λ _=>rfl,λ cs=>by rw[AV.EK,yG],λ cs=>by rw[AV.EK,yG],λ f cs=>by rw[AV.EK,yG],rfl,λ i => .inr rfl,λ _=>rfl⟩
theorem a2R(id:Nat)(u:TV):Fx (AV.BV id (.aN u)):=⟨λ _=>rfl,λ cs=>by rw[AV.BV,yF],λ cs=>by rw[AV.BV,yF],λ f cs=>by rw[AV.BV,yF],rfl,λ i=>by
 simp only[AV.BV];split
 .exact .inl ⟨u,rfl⟩
 .exact .inr rfl,λ _=>rfl⟩
def av.ew(F:AV->AV):av->av
 | .box cs => .box (cs.map F)
 | o=>o
theorem Inv.fix(h:Inv c G s a w)(id:Nat)(F:AV->AV)(hF:Fx F)(B:Nat->Prop)(hB:∀ b,B b->(c.w0.heap.size<=b\/c.X b)/\b<w.heap.size/\(∀ i o,i≠id->s.af i=some o->dk (G.η i)≠some b)/\∀ i τ xs,i≠id->s.af i=some (.aC τ xs)->b∉G.φ i)
  (hC:∀ lk',(∀ j,j≠id->eb (s.af j) (lk' j))->∀ v x,C1 c G s.af w v x->C1 c ⟨λ b=>G.S b\/B b,G.η,G.φ⟩ lk' w (F v) x) :
  Inv c ⟨λ b=>G.S b\/B b,G.η,G.φ⟩ { aw:=s.aw.map F,aH:=(bB id s.aH).map λ p=>(p.1,p.2.ew F) } a w:=by
 have hS:∀ b,G.S b->G.S b\/B b:=λ b hb => .inl hb;have bS:∀ i,ag.af { aw:=s.aw.map F,aH:=(bB id s.aH).map λ p=>(p.1,p.2.ew F) } i=(if i=id then none else s.af i).map (av.ew F):=by
  intro i;show af ((bB id s.aH).map _) i=_;rw[Ee,dZ];rfl
 have eY:∀ j,j≠id->eb (s.af j) (ag.af { aw:=s.aw.map F,aH:=(bB id s.aH).map λ p=>(p.1,p.2.ew F) } j):=by
  intro j hj;rw[bS,a9c hj];refine⟨λ hh=>?_,λ e τ xs hh=>⟨e,xs,by rw[hh];rfl,a9n _⟩,λ hh=>?_,λ hh=>?_⟩
  .match hq:s.af j,hh with
   | some (.box cs),_=>rfl
  .match hq:s.af j,hh with
   | some (.aC τ xs),_=>rfl
  .match hq:s.af j,hh with
   | some (.map m),_=>rfl
 have hC:=hC _ eY;have hinv:∀ i o,ag.af { aw:=s.aw.map F,aH:=(bB id s.aH).map λ p=>(p.1,p.2.ew F) } i=some o->i≠id/\∃ o',s.af i=some o'/\o=o'.ew F:=λ i o cg=>by
  rw[bS] at cg;simp only[a9D] at cg;obtain⟨o',cg,rfl⟩:=cg;by_cases hi:i=id
  .simp[hi] at cg
  .rw[a9c hi] at cg;exact⟨hi,o',cg,rfl⟩
 exact {
  defers:=h.defers
  size:=by rw[h.size];simp
  aL:=h.aL
  jE:=h.jE
  ej:=λ b hbl hx=>⟨λ hh=>by
   rcases hh with hh|hh
   .exact (h.ej b hbl hx).1 hh
   .exact (hB b hh).1.elim (λ q=>by omega) (λ q=>absurd q hx),λ hh => .inl ((h.ej b hbl hx).2 hh)⟩
  sX:=λ b hh => .inl (h.sX b hh)
  dI:=λ b hh=>by
   rcases hh with hh|hh
   .exact h.dI b hh
   .exact (hB b hh).2.1
  aw:=λ i=>by
   have he:ag.sl { aw:=s.aw.map F,aH:=(bB id s.aH).map λ p=>(p.1,p.2.ew F) } i=F (s.sl i):=by
    simp only[ag.sl,a9h,b0w];cases s.aw[i]? with
    | none=>exact hF.any.symm
    | some v=>rfl
   rw[he];exact VR.fx hF hC hS (h.aw i)
  aH:=λ i o cg=>by
   obtain⟨hi,o',dW,rfl⟩:=hinv i o cg;have cE:=h.aH i o' dW;cases o' with
   | box cs =>
    obtain⟨b,l,t,k1,k2,k3⟩:=cE;exact⟨b,l,t,k1,k2,aM.dH _ (k3.imp λ u y _ hy=>hC u y hy)⟩
   | row e2 je lF =>
    obtain⟨l,k1,k2,k3⟩:=cE;exact⟨l,k1,cZ.aL hS (λ _ _=>rfl) _ k2,k3⟩
   | aC je lF=>trivial
   | map m=>exact cE
  place:=λ i o b cg gB=>by
   obtain⟨hi,o',dW,rfl⟩:=hinv i o cg;obtain⟨q1,q2,q3⟩:=h.place i o' b dW gB;exact⟨q1,λ hs=>hs.elim q2 λ hs=>(hB b hs).2.2.1 i o' hi dW gB,q3⟩
  apart:=λ i j o o2 b cg GR uG na=>by
   obtain⟨_,o',dW,rfl⟩:=hinv i o cg;obtain⟨_,o2',a6Z,rfl⟩:=hinv j o2 GR;exact h.apart i j o' o2' b dW a6Z uG na
  aO:=by
   have hold:∀ j je lF,ag.af { aw:=s.aw.map F,aH:=(bB id s.aH).map λ p=>(p.1,p.2.ew F) } j=some (.aC je lF)->j≠id/\s.af j=some (.aC je lF):=λ j je lF k=>by
    obtain⟨hj,o',GR,e⟩:=hinv j _ k;refine⟨hj,?_⟩;match o',e with
    | .aC ..,e=>rw[GR,e];rfl
    | .box _,e=>cases e
    | .row ..,e=>cases e
    | .map _,e=>cases e
   exact {
    tr:=λ j je lF k=>h.aO.tr j je lF (hold j je lF k).2
    nd:=λ j je lF k=>h.aO.nd j je lF (hold j je lF k).2
    pl:=λ j je lF b k cm=>by
     obtain⟨hj,k⟩:=hold j je lF k;obtain⟨q1,q2,q3,q4⟩:=h.aO.pl j je lF b k cm;refine⟨q1,λ hs=>hs.elim q2 λ hs=>(hB b hs).2.2.2 j je lF hj k cm,q3,λ i o cg=>?_⟩;obtain⟨_,o',dW,rfl⟩:=hinv i o cg;exact q4 i o' dW
    ap:=λ j j' je a4J lF a4H b k k'=>h.aO.ap j j' je a4J lF a4H b (hold j je lF k).2 (hold j' a4J a4H k').2 }
  root:=λ i v hr ht=>h.root i v hr (by
   match hl:ag.af { aw:=s.aw.map F,aH:=(bB id s.aH).map λ p=>(p.1,p.2.ew F) } i,ht with
   | some (.aC ..),_ =>
    obtain⟨_,o',cg,e⟩:=hinv i _ hl;match o',e with
    | .aC ..,e=>rw[cg];rfl
    | .box _,e=>cases e
    | .row ..,e=>cases e
    | .map _,e=>cases e)
  gX:=h.gX
  dq:=λ i v hr ht=>h.dq i v hr (by
   match hl:ag.af { aw:=s.aw.map F,aH:=(bB id s.aH).map λ p=>(p.1,p.2.ew F) } i,ht with
   | some (.box _),_ =>
    obtain⟨_,o',cg,e⟩:=hinv i _ hl;match o',e with
    | .box _,e=>rw[cg];rfl
    | .aC ..,e=>cases e
    | .row ..,e=>cases e
    | .map _,e=>cases e)
  eF:=h.eF }
theorem YZ(id:Nat)(u:AV)(o:av):o.EK id u=o.ew (AV.EK id u):=by
 cases o<;>simp[av.EK,av.ew,yG]
theorem YY(id:Nat)(u:AV)(o:av):o.BV id u=o.ew (AV.BV id u):=by
 cases o<;>simp[av.BV,av.ew,yF]
theorem Inv.freeze(h:Inv c G s a w)(id:Nat):∃ G',Inv c G' (s.freeze id) a w:=by
 unfold ag.freeze;split
 .rename_i e τ xs aS;have ho:=h.aH id _ aS;rw[yG];simp only[YZ];exact⟨_,h.fix id _ (a2S id _) (λ b=>dk (G.η id)=some b) (λ b hb=>by
   obtain⟨q1,_,q3⟩:=h.place id _ b aS hb;exact⟨q1,q3,λ i o hi cg uG=>hi (h.apart i id o _ b cg aS uG hb),λ i τ xs _ k q=>(h.aO.pl i τ xs b k q).2.2.2 id _ aS hb⟩)
   λ lk' hs v x hv=>C1.EK aS ho (λ _ hb => .inl hb) (λ _ hb => .inr hb) hs hv⟩
 .rename_i τ xs aS;rw[yF];simp only[YY];exact⟨_,h.fix id _ (a2R id _) (λ b=>b∈G.φ id) (λ b hb=>by
   obtain⟨q1,_,q3,q4⟩:=h.aO.pl id _ _ b aS hb;exact⟨q1,q3,λ i o _ cg=>q4 i o cg,λ i τ xs hi k q=>hi (h.aO.ap i id _ _ _ _ b k aS q hb)⟩)
   λ lk' hs v x hv=>C1.BV aS (h.aO.tr id _ _ aS) (λ _ hb => .inl hb) (λ _ hb => .inr hb) hs hv⟩
 .exact⟨G,h⟩
theorem Inv.CO:∀ (l:List Nat) {G:Gh} {s:ag},Inv c G s a w->∃ G',Inv c G' (l.foldl ag.freeze s) a w
 | [],G,s,h=>⟨G,h⟩
 | i::r,G,s,h=>by
  obtain⟨G',h'⟩:=h.freeze i;exact Inv.CO r h'
theorem Ec{lk:Nat->Option av}{v:AV}{x:Value}{K:Prop}(hv:VR c G lk w v x)(h:known v K):K:=by
 unfold known at h;split at h
 .rename_i n;obtain⟨_,h1,h2⟩:=hv;refine h ⟨?_,?_⟩
  .have:=h1;simp only[IntKind.min,IntKind.signed,IntKind.bits,b0Y] at this;omega
  .have:=h2;simp only[IntKind.max,IntKind.signed,IntKind.bits,b0Y] at this;omega
 .rename_i t xs;obtain⟨_,_,_,_,h1,_⟩:=iM hv;exact h h1
 .rename_i xs;obtain⟨s,_,h2,h3⟩:=hv;subst h2;exact h (by rw[a9P];exact h3)
 .exact h
theorem a4O{l:List Operand}{u v:AV}{ev:Operand->AV}(h:l.map ev=[u,v]){lk:Nat->Option av}(cD:∀ x,VR c G lk w (ev x) (a.eval x)):∃ x y,l.map a.eval=[x,y]/\VR c G lk w u x/\VR c G lk w v y:=by
 have:=aM.jQ cD l;rw[h] at this;match hl:l.map a.eval,this with
 | [x,y],hh=>exact⟨x,y,rfl,hh.1,hh.2.1⟩
theorem FB(hE:bn c.P c.E)(h:Inv c G s a w){o:Oper}{T:TypeId}{m k x:Operand}(bf:o.op = .mapUpdate T m k x\/o.op = .insert T m k x){vc:Vc}{s':ag}(he:Ef c.E s o.dst T m k x=some (vc,s'))(dY:vc.ok){Q:Exit->Act->World->Prop} :
  o.wp c.P a w (λ a' w'=>∃ G',Inv c G' s' a' w') Q:=by
 unfold Ef at he;split at he
 .rename_i κ ε hT;split at he
  .rename_i id v hm hx;split at he
   .rename_i m' k' x' aS hku Tq;split at he
    .rename_i f n hmm;simp only[Option.some.injEq,Prod.mk.injEq] at he;obtain⟨rfl,rfl⟩:=he;have e1:=MV.aQ hmm;subst e1;have e3:=TV.aQ Tq;subst e3;have q1:=aW h m;rw[hm] at q1;have q2:=yh hku (aW h k);have q3:=aW h x;rw[hx] at q3;obtain⟨w',r1,r2⟩:=h.Ef hE hT aS q1 q2 q3 dY;unfold Oper.wp;have:(execOp a.eval o).run c.P w = .ok .skip w':=by
      rcases bf with bf|bf<;>simp only[execOp,bf,a9r,r1,a9m,a9u]
     rw[this];exact⟨G,Inv.put r2 trivial⟩
    .cases he
   .cases he
  .cases he
 .cases he
theorem Wx(hE:bn c.P c.E)(h:Inv c G s a w){o:Oper}{vc:Vc}{s':ag}(he:SU c.E s o=some (vc,s'))(dY:vc.ok){Q:Exit->Act->World->Prop} :
  o.wp c.P a w (λ a' w'=>∃ G',Inv c G' s' a' w') Q:=by
 unfold SU at he;split at he
 .rename_i bf;exact FB hE h (.inl bf) he dY
 .rename_i bf;exact FB hE h (.inr bf) he dY
 .rename_i T ad x bf;split at he
  .rename_i τ r hT;have hp:=aW h ad;have hx:=aW h x;have fin:∀ w' G1 (s1:ag),(Instr.storeAt T (a.eval ad) (a.eval x)).run c.P w = .ok () w'->Inv c G1 s1 a w'->s'=s1.put o.dst .any->o.wp c.P a w (λ a' w'=>∃ G',Inv c G' s' a' w') Q:=by
    intro w' G1 s1 hr hi hs;unfold Oper.wp;have:(execOp a.eval o).run c.P w = .ok .skip w':=by simp only[execOp,bf,Sem.run_bind,hr,Result.andThen_ok,Sem.run_pure]
    rw[this];refine⟨G1,?_⟩;rw[hs];exact Inv.put hi trivial
   split at he
   .rename_i id off cD;split at he
    .rename_i cs aS;split at he
     .rename_i new oU;split at he
      .rename_i du yM;simp only[a8V,a8Y] at he;obtain⟨rfl,rfl⟩:=he;rw[cD] at hp;obtain⟨w',k1,k2⟩:=h.store hE hT aS hp ⟨_,oU,hx⟩ yM;exact fin w' _ _ k1 k2 rfl
      .cases he
     .cases he
    .cases he
   .rename_i id i cD;split at he
    .rename_i e' aT xs aS;split at he
     .rename_i y ep hy;have ep:=a9y ep;subst ep;simp only[a8V,a8Y] at he;obtain⟨rfl,rfl⟩:=he;rw[cD] at hp;obtain⟨w',k1,k2⟩:=h.ZL hE hT aS hp hx hy;exact fin w' _ _ k1 k2 rfl
     .cases he
    .cases he
   .cases he
  .cases he
 .rename_i cl bf;split at he
  .rename_i fY;split at he
   .rename_i d T T' hd O1;split at he
    .rename_i τ b e OZ hT;have OZ:=a8W OZ;subst OZ;split at he
     .rename_i id y dU;split at he
      .rename_i e' aT xs ys aS hy;split at he
       .rename_i cM yJ iU;have yJ:=a8W yJ;have e1:=TV.aQ iU;cases e1;subst yJ;simp only[a8V,a8Y] at he;obtain⟨rfl,rfl⟩:=he;obtain⟨x,z,m1,m2,m3⟩:=a4O (a:=a) (c:=c) (G:=G) (w:=w) dU (aW h);obtain⟨v',w',G',k1,k2⟩:=h.append hE hT (d:=d) aS m2 m3 hy dY o.type;have II:cl.argTypes = #[T,T]:=by rw[<-a9T (xs:=cl.argTypes),O1]
        have C9:cl.args.map a.eval = #[x,z]:=by rw[<-a9T (xs:=cl.args.map a.eval),b0S,m1]
        unfold Oper.wp;have:(execOp a.eval o).run c.P w = .ok (.value v') w':=by
         simp[execOp,bf,resolve,fY,invoke,builtin,II,C9,k1]
        rw[this];refine⟨G',?_⟩;rw[hd];exact k2
       .cases he
      .cases he
     .cases he
    .cases he
   .cases he
  .cases he
 .cases he
theorem Xk(hE:bn c.P c.E)(h:Inv c G s a w){o0:Oper}{vc:Vc}{v:AV}{ob:Option av}(he:TM c.E s o0=some (vc,v,ob))(dY:vc.ok){Q:Exit->Act->World->Prop} :
  o0.wp c.P a w (vY c G s.sl s.aw.length s.af o0.dst a w v ob) Q:=by
 unfold TM at he;split at he;case h_2=>cases he
 case h_1 cl bf =>
 split at he;case h_2=>cases he
 case h_1 f fY =>
 split at he;case h_2=>cases he
 case h_1 d hd =>
 split at he;case h_2=>cases he
 case h_1 Z9 has =>
 have key:∀ (T:Nat->Prop),(∀ x∈cl.args.toList.map a.eval,∀ q:Addr,x = .pointer (some q)->T q.block)->∀ pre o,c.E.PT f Z9=some (pre,o)->pre.ok->o0.wp c.P a w (λ a' w'=>∃ x S',a'=a.put o0.dst x/\bd c ⟨S',G.η,G.φ⟩ s.sl s.aw.length s.af a w' /\
   (∀ b,G.S b->S' b)/\(∀ b,dk x=some b->w.heap.size<=b/\b<w'.heap.size/\¬ S' b)/\Z3 w' S' T x o) Q:=λ T hT pre o hc dY=>by
  obtain⟨rK,lU⟩:=hE.PT f Z9 pre o hc dY;unfold Oper.wp;rw[iD bf fY rfl rK];simp only[Oper.upon];refine (lU w G.S T _ h.ZC hT (gh hE h (AL (λ _ _ h=>h)) (λ _ h=>h) (λ τ v x y h1 h2=>Co AM xi h1 h2) has (aM.jQ (aW h) _))).mono ?_;rintro e w' ⟨x,S',rfl,hk,WN,Y2,hb,hx⟩;exact⟨x,S',rfl,bd.grow h hk WN Y2,λ b hb=>(WN b (h.dI b hb)).2 hb,hb,hx⟩
 split at he;case h_4=>cases he
 case h_3 pre l hc =>
  split at he;case h_2=>cases he
  case h_1 cd =>
  simp only[a8V,a8Y] at he;obtain⟨rfl,rfl,rfl⟩:=he;refine b0v ?_ (key (St c G.S) (λ x hx q hq=>?_) _ _ hc dY)
  .rintro a' w' ⟨x,S',rfl,hI,hS,hb,ys,rfl,B7⟩;refine⟨_,S',rfl,hI,ys.toArray.toList,rfl,aM.dH _ (B7.imp λ r y _ hy=>?_)⟩;obtain⟨bb,v⟩:=r;cases bb with
   | true =>
    obtain⟨b,o,cs,h1,h2,h3,h4⟩:=hy;exact⟨b,o,cs,h1,h2.elim .inl λ h2=>h2.imp (hS b) id,h3,h4⟩
   | false=>exact hy
  .obtain⟨y,hy,rfl⟩:=a9b.1 hx;have h1:=a9H.1 cd _ (a9b.2 ⟨y,hy,rfl⟩);have h2:=aW h y;generalize s.eval y=v at h1 h2;rw[hq] at h2;cases v with
   | cS u=>obtain⟨b,o,cs,e,h3,_⟩:=h2;cases e;exact h3
   | aN u =>
    obtain⟨τ,z⟩:=u;cases τ with
    | int k=>obtain⟨e,_⟩:=h2;cases e
    | bool=>have e:[Value.pointer (some q)]=[.bool z]:=h2;cases e
    | str=>obtain⟨_,e,_⟩:=h2;cases e
    | slice t=>obtain⟨_,_,e,_⟩:=h2;cases e
    | st s=>obtain⟨_,e,_⟩:=h2;cases e
    | mv t=>cases z with
     | none=>obtain⟨_,_,_,e⟩:=h2;cases e
     | some z=>obtain⟨_,_,e,_⟩:=h2;cases e
    | ptr=>cases h1
   | _=>cases h1
 case h_1 pre cells hc =>
  simp only[a8V,a8Y] at he;obtain⟨rfl,rfl,rfl⟩:=he;refine b0v ?_ (key (λ _=>True) (λ _ _ _ _=>trivial) _ _ hc dY);rintro a' w' ⟨x,S',rfl,hI,_,hb,b,l,t,rfl,hh,iG⟩;exact⟨_,S',rfl,hI,⟨d,hd,rfl⟩,⟨b,l,t,rfl,hh,aM.dH _ (iG.imp λ u y _ hy=>hy)⟩,hb⟩
 case h_2 pre e τ xs hc =>
  simp only[a8V,a8Y] at he;obtain⟨rfl,rfl,rfl⟩:=he;refine b0v ?_ (key (λ _=>True) (λ _ _ _ _=>trivial) _ _ hc dY);rintro a' w' ⟨x,S',rfl,hI,_,hb,l,h1,h2,h3⟩;exact⟨_,S',rfl,hI,⟨d,hd,rfl⟩,⟨l,h1,h2,h3⟩,hb⟩
theorem Jx(hE:bn c.P c.E)(h:Inv c G s a w){o:Oper}{K:ag->Prop}(hr:jC c.E o K s){Q:Exit->Act->World->Prop} :
  o.wp c.P a w (λ a' w'=>∃ G' s',Inv c G' s' a' w'/\K s') Q:=by
 unfold jC at hr;split at hr
 .exact hr.elim
 rename_i GO;obtain⟨G1,h1⟩:=h.CO (ju c.E s o);generalize (ju c.E s o).foldl ag.freeze s=s1 at *
 simp only at hr;split at hr
 .rename_i vc s' he;exact b0v (λ a' w' ⟨G',hg⟩=>⟨G',s',hg,(Vc.iP hr).2⟩) (XA hE h1 he (Vc.iP hr).1)
 split at hr
 .rename_i vc s' he;exact b0v (λ a' w' ⟨G',hg⟩=>⟨G',s',hg,(Vc.iP hr).2⟩) (Ws hE h1 he (Vc.iP hr).1)
 split at hr
 .rename_i vc s' he;exact b0v (λ a' w' ⟨G',hg⟩=>⟨G',s',hg,(Vc.iP hr).2⟩) (Wx hE h1 he (Vc.iP hr).1)
 .split at hr
  .rename_i vc s' he;exact b0v (λ a' w' ⟨G',hg⟩=>⟨G',s',hg,(Vc.iP hr).2⟩) (Xo hE h1 he (Vc.iP hr).1)
  split at hr
  .rename_i vc v ob he;refine b0v ?_ (Xk hE h1 he (Vc.iP hr).1);intro a' w' hd;obtain⟨G',hl⟩:=PC h1 GO hd;exact⟨G',_,hl,(Vc.iP hr).2⟩
  .split at hr
   .rename_i vc v ob hq;obtain⟨dY,hk⟩:=Vc.iP hr;refine b0v ?_ (Hj hE h1 (λ _ _ h=>h) (aW h1) hq dY);intro a' w' hd;obtain⟨G',hl⟩:=PC h1 GO hd;refine⟨G',_,hl,?_⟩;split at hk
    .obtain⟨x,S',_,_,hx⟩:=hd;cases ob with
     | none=>exact Ec hx hk
     | some ob =>
      obtain⟨hL,_⟩:=hx;cases ob with
      | box cs=>obtain⟨i,_,rfl⟩:=hL;exact hk
      | row e τ xs=>obtain⟨i,_,rfl⟩:=hL;exact hk
      | aC τ xs=>exact hL.elim
      | map m=>obtain⟨i,_,rfl⟩:=hL;exact hk
    .exact hk
   .exact hr.elim
theorem WJ{t:Array Value}{i:Nat}{b:Bool}(h:t.getD i undef = .bool b):t[i]?=some (.bool b):=by
 rw[a9G] at h;cases hx:t[i]? with
 | none=>rw[hx] at h;simp[undef] at h
 | some v=>rw[hx] at h;simpa using h
theorem GN{ops:Array Oper}{g t:Nat}{b:Bool}(ht:uE ops g=some t)(hx:VR c G s.af w (.aN ⟨.bool,b⟩) (a.eval (.tmp t))):yielded ops a.tmps g=some b:=by
 have hb:[a.eval (.tmp t)]=[.bool b]:=hx;simp only[List.cons.injEq,and_true] at hb;have:=WJ hb;unfold yielded;rw[show (ops[g]?).bind (·.dst)=some t from ht];simp[this]
theorem CW{ops:Array Oper}{g t:Nat}(ht:uE ops g=some t)(hx:VR c G s.af w .dR (a.eval (.tmp t))):yielded ops a.tmps g=none:=by
 have hb:a.eval (.tmp t)=undef:=hx;have hb:a.tmps.getD t undef=undef:=hb;unfold yielded;rw[show (ops[g]?).bind (·.dst)=some t from ht];rw[Array.getD_eq_getD_getElem?] at hb;cases hx:a.tmps[t]? with
 | none=>simp[hx]
 | some v =>
  rw[hx] at hb;have hv:v=undef:=hb;subst hv;simp[hx,undef]
theorem Inv.slot(h:Inv c G s a w)(t:Nat){b b':Bool}(he:s.eval (.tmp t) = .aN ⟨.bool,b⟩)(hb:b=b'):Inv c G (s.put (some t) (.aN ⟨.bool,b'⟩)) a w:=by
 have:s.put (some t) (.aN ⟨.bool,b'⟩)=s\/(s.put (some t) (.aN ⟨.bool,b'⟩)).sl=s.sl:=by
  right;rw[YB];funext i;unfold iO;split
  .rename_i hi;obtain⟨h1,h2⟩:=hi;simp only[a8V] at h1;subst h1;rw[<-hb,<-he];rfl
  .rfl
 rcases this with e|e
 .rw[e];exact h
 .unfold Inv;rw[e,R3,Md];exact h
theorem zK(hE:bn c.P c.E){ops:Array Oper}{Q:ag->Prop}{o:Oper}{r:List Oper}{kn:List (Nat×Bool)}(h:Inv c G s a w)(hr:eD c.E ops (o::r) kn Q s) :
  if Region.wanted o (yielded ops a.tmps)=true then ∀ Q':Exit->Act->World->Prop,o.wp c.P a w (λ a' w'=>∃ G' s' nc,Inv c G' s' a' w'/\eD c.E ops r nc Q s') Q'
  else ∃ G' s' nc,Inv c G' s' (a.put o.dst undef) w/\eD c.E ops r nc Q s':=by
 have run:∀ (kn:List (Nat×Bool)) (s:ag),Inv c G s a w->jC c.E o (eD c.E ops r kn Q) s->∀ Q':Exit->Act->World->Prop,o.wp c.P a w (λ a' w'=>∃ G' s' nc,Inv c G' s' a' w'/\eD c.E ops r nc Q s') Q':=λ kn s hs cz Q' =>
  b0v (λ a' w' ⟨G',s',h1,h2⟩=>⟨G',s',kn,h1,h2⟩) (Jx hE hs cz)
 have skip:∀ (kn:List (Nat×Bool)) (s:ag),Inv c G s a w->eD c.E ops r kn Q (s.put o.dst .dR)->∃ G' s' nc,Inv c G' s' (a.put o.dst undef) w/\eD c.E ops r nc Q s':=λ kn s hs hk =>
  ⟨G,_,kn,Inv.put (v := .dR) hs rfl,hk⟩
 simp only[eD] at hr;split at hr
 .rename_i hg;have hw:Region.wanted o (yielded ops a.tmps)=true:=by simp[Region.wanted,hg]
  rw[a9l hw];exact run kn s h hr
 .rename_i g want hg;split at hr
  .exact hr.elim
  .rename_i t ht;split at hr
   .rename_i b hb;split at hr
    .rename_i b' cD;have hx:=aW h (.tmp t);rw[cD] at hx;have hy:=GN (s:=s) ht hx;split at hr
     .rename_i gB C0;have gB:=eq_of_beq gB;subst gB;have hw:Region.wanted o (yielded ops a.tmps)=true:=by simp[Region.wanted,hg,hy];simpa using C0
      rw[a9l hw];exact run kn s h hr
     .rename_i gB C0;have gB:=eq_of_beq gB;subst gB;have hw:Region.wanted o (yielded ops a.tmps)=false:=by simp[Region.wanted,hg,hy];simpa using C0
      rw[hw];exact skip kn s h hr
     .exact hr.elim
    .rename_i cD;have hx:=aW h (.tmp t);rw[cD] at hx;have hy:=CW (s:=s) ht hx;have hw:Region.wanted o (yielded ops a.tmps)=false:=by simp[Region.wanted,hg,hy]
     rw[hw];exact skip kn s h hr
    .exact hr.elim
   .split at hr
    .rename_i b cD;have hx:=aW h (.tmp t);rw[cD] at hx;have hy:=GN (s:=s) ht hx;by_cases C0:b=want
     .have hw:Region.wanted o (yielded ops a.tmps)=true:=by simp[Region.wanted,hg,hy,C0]
      rw[a9l hw];exact run _ _ (h.slot t cD C0) (hr.1 C0)
     .have WS:b = !want:=by cases b<;>cases want<;>simp_all
      have hw:Region.wanted o (yielded ops a.tmps)=false:=by simp[Region.wanted,hg,hy,WS]
      rw[hw];exact skip _ _ (h.slot t cD WS) (hr.2 WS)
    .rename_i cD;have hx:=aW h (.tmp t);rw[cD] at hx;have hy:=CW (s:=s) ht hx;have hw:Region.wanted o (yielded ops a.tmps)=false:=by simp[Region.wanted,hg,hy]
     rw[hw];exact skip kn s h hr
    .exact hr.elim
theorem xA(hE:bn c.P c.E){ops:Array Oper}{Q:ag->Prop}{Q':Exit->Act->World->Prop}(hQ:∀ G s a w,Inv c G s a w->Q s->Q' .normal a w) :
  ∀ (r:List Oper) (i:Nat) (kn:List (Nat×Bool)) (G:Gh) (s:ag) (a:Act) (w:World),(∀ j o,r[j]?=some o->ops[i+j]?=some o)->Inv c G s a w->eD c.E ops r kn Q s->wpOps c.P ops Q' (List.range' i r.length) a w
 | [],i,kn,G,s,a,w,_,h,hr=>hQ G s a w h hr
 | o::r,i,kn,G,s,a,w,a4n,h,hr=>by
  have ho:ops[i]?=some o:=a4n 0 o rfl;have uL:∀ j p,r[j]?=some p->ops[i+1+j]?=some p:=λ j p hj=>by
   have:=a4n (j+1) p (by simpa using hj);rwa [show i+(j+1)=i+1+j by omega] at this
  simp only[a9f,List.range'_succ,wpOps,ho];have uO:=zK hE h hr;split at uO
  .rename_i hw;rw[a9l hw];exact .inl (b0v (λ a' w' ⟨G',s',nc,h1,h2⟩=>xA hE hQ r (i+1) nc G' s' a' w' uL h1 h2) (uO Q'))
  .rename_i hw;rw[a9c hw];obtain⟨G',s',nc,h1,h2⟩:=uO;exact xA hE hQ r (i+1) nc G' s' _ w uL h1 h2
end
structure JY where
 E7:Bool
 v:AV
 ob:Option av
def GV(want E7:Bool):AV->Prop
 | .aN ⟨.bool,b⟩=>E7=(b == want)
 | .dR=>E7=false
 | _=>False
def fC(l:List Oper)(bits:Nat)(s:ag)(o:Oper)(E7:Bool):Prop :=
 match o.guard with
 | none=>E7=true
 | some (g,want)=>∃ t v,cf l g=some t/\Nat.testBit bits g=true/\s.eval (.tmp t)=v/\GV want E7 v
def NV(E:Env)(l:List Oper)(m bits:Nat)(s:ag)(o:Oper)(e:JY):Prop :=
 fC l bits s o e.E7/\(e.E7=true->∃ vc:Vc,Hi E (Nn l m bits s) (QN l m bits s) o=some (vc,e.v,e.ob)/\vc.ok)/\(e.E7=false->e.v = .dR/\e.ob=none)
def Trace(E:Env)(l:List Oper)(m:Nat)(bM:List Nat):Nat->List Oper->List JY->ag->ag->Prop
 | _,[],[],s,s'=>s=s'
 | i,o::r,e::es,s,s'=>NV E l m (bM.getD i 0) s o e/\Trace E l m bM (i+1) r es (s.iy o.dst e.v e.ob) s'
 | _,_,_,_,_=>False
def R9{s:ag}{t:Nat}{v:AV}(h:s.eval (.tmp t)=v)(hv:v ≠ .any):s.put (some t) v=s:=by
 have bj:t<s.aw.length:=by
  rcases a9O t s.aw.length with hl|hl
  .exact hl
  .simp only[ag.eval,a9h,b1g hl,Option.getD_none] at h;exact absurd h.symm hv
 simp only[ag.eval,a9h,a9j bj,b1b] at h;simp only[ag.put];congr 1;subst h;exact List.set_getElem_self bj
def KY(s:ag)(d:Option Nat):s.iy d .dR none=s.put d .dR:=by cases d<;>rfl
def qh{E:Env}{l:List Oper}{m:Nat}{bM:List Nat}{Q:List (Nat×Bool)->ag->Prop}:∀ {r:List Oper} {i:Nat} {kn:List (Nat×Bool)} {s:ag},kM E l m bM i r kn Q s ->
  ∃ es nc s',Trace E l m bM i r es s s'/\Q nc s'
 | [],i,kn,s,h=>⟨[],kn,s,rfl,h⟩
 | o::r,i,kn,s,h=>by
  have run:∀ kn,fC l (bM.getD i 0) s o true->Jy E l m (bM.getD i 0) o (kM E l m bM (i+1) r kn Q) s->∃ es nc s',Trace E l m bM i (o::r) es s s'/\Q nc s':=by
   intro kn hg hr;unfold Jy at hr;split at hr
   .split at hr
    .rename_i vc v ob hq;obtain⟨es,nc,s',h1,h2⟩:=qh (Vc.iP hr).2;exact⟨⟨true,v,ob⟩::es,nc,s',⟨⟨hg,λ _=>⟨vc,hq,(Vc.iP hr).1⟩,λ h=>(by cases h)⟩,h1⟩,h2⟩
    .exact hr.elim
   .exact hr.elim
  have skip:∀ kn,fC l (bM.getD i 0) s o false->kM E l m bM (i+1) r kn Q (s.put o.dst .dR)->∃ es nc s',Trace E l m bM i (o::r) es s s'/\Q nc s':=by
   intro kn hg hr;obtain⟨es,nc,s',h1,h2⟩:=qh hr;exact⟨⟨false, .dR,none⟩::es,nc,s',⟨⟨hg,λ h=>(by cases h),λ _=>⟨rfl,rfl⟩⟩,by rw[KY];exact h1⟩,h2⟩
  simp only[kM] at h;split at h
  .rename_i hg;exact run kn (by simp[fC,hg]) h
  .rename_i g want hg;split at h
   .rename_i t ht RV;split at h
    .rename_i b hb;split at h
     .rename_i b' cD;split at h
      .rename_i gB C0;have gB:=eq_of_beq gB;subst gB;exact run kn (by simp only[fC,hg];exact⟨t,_,ht,RV,cD,C0.symm⟩) h
      .rename_i gB C0;have gB:=eq_of_beq gB;subst gB;exact skip kn (by simp only[fC,hg];exact⟨t,_,ht,RV,cD,C0.symm⟩) h
      .exact h.elim
     .rename_i cD;exact skip kn (by simp only[fC,hg];exact⟨t,_,ht,RV,cD,rfl⟩) h
     .exact h.elim
    .split at h
     .rename_i b cD;by_cases C0:b=want
      .have h':=h.1 C0;subst C0;rw[R9 cD (by simp)] at h';exact run _ (by simp only[fC,hg];exact⟨t,_,ht,RV,cD,by simp[GV]⟩) h'
      .have WS:b = !want:=by cases b<;>cases want<;>simp_all
       have h':=h.2 WS;rw[<-WS,R9 cD (by simp)] at h';exact skip _ (by simp only[fC,hg];exact⟨t,_,ht,RV,cD,by simpa [GV] using C0⟩) h'
     .rename_i cD;exact skip kn (by simp only[fC,hg];exact⟨t,_,ht,RV,cD,rfl⟩) h
     .exact h.elim
   .exact h.elim
def dE(l:List Oper)(es:List JY)(s0:ag)(π:List Nat):ag :=
 π.foldl (λ s k=>s.iy (cf l k) (es.getD k ⟨false, .any,none⟩).v (es.getD k ⟨false, .any,none⟩).ob) s0
def KZ(s:ag)(d:Option Nat)(v:AV)(o:Option av):(s.iy d v o).aw.length=s.aw.length:=by cases d<;>simp[ag.iy]
def Ja(l:List Oper)(es:List JY):∀ (π:List Nat) (s0:ag),(dE l es s0 π).aw.length=s0.aw.length
 | [],_=>rfl
 | k::π,s0=>by
  show (dE l es (s0.iy _ _ _) π).aw.length=_;rw[Ja l es π,KZ]
def JC(s:ag)(d:Option Nat)(v:AV)(o:Option av):(s.iy d v o).sl=iO s.aw.length s.sl d v:=by
 cases d with
 | none=>funext i;simp[ag.iy,iO]
 | some d=>exact oI s.aw d v _
def AJ(s:ag)(d:Option Nat)(v:AV)(o:Option av)(j:Nat):(s.iy d v o).af j=if d=some j then (match o with
  | some o=>some o
  | none=>s.af j) else s.af j:=by
 cases d with
 | none=>simp[ag.iy]
 | some d =>
  cases o with
  | none =>
   simp only[ag.iy,ag.af,ite_self]
  | some o =>
   show af ((d,o)::s.aH) j=_;rw[dn];by_cases h:j=d
   .subst h;simp
   .have:¬ (some d=some j):=by simp;exact λ e=>h e.symm
    rw[a9c h,a9c this];rfl
def fI(l:List Oper)(es:List JY)(t:Nat):∀ (π:List Nat) (s0:ag),(∀ k∈π,cf l k≠some t)->(dE l es s0 π).sl t=s0.sl t/\(dE l es s0 π).af t=s0.af t
 | [],_,_=>⟨rfl,rfl⟩
 | k::π,s0,h=>by
  obtain⟨h1,h2⟩:=fI l es t π (s0.iy (cf l k) (es.getD k ⟨false, .any,none⟩).v (es.getD k ⟨false, .any,none⟩).ob) (λ j hj=>h j (by simp[hj]));have hk:=h k (by simp);constructor
  .show (dE l es (s0.iy _ _ _) π).sl t=_;rw[h1,JC,iO,a9c (λ hh=>hk hh.1)]
  .show (dE l es (s0.iy _ _ _) π).af t=_;rw[h2,AJ,a9c hk]
def vJ(l:List Oper)(es:List JY)(t k:Nat)(hk:cf l k=some t):∀ (π:List Nat) (s0:ag),k∈π->π.Nodup->(∀ j∈π,j≠k->cf l j≠some t) ->
  (dE l es s0 π).sl t=(if t<s0.aw.length then (es.getD k ⟨false, .any,none⟩).v else s0.sl t) /\
  (dE l es s0 π).af t=(match (es.getD k ⟨false, .any,none⟩).ob with
   | some o=>some o
   | none=>s0.af t)
 | [],_,h,_,_=>by simp at h
 | j::π,s0,h,hn,ho=>by
  have tf:=a9z.1 hn;by_cases hj:j=k
  .subst hj;obtain⟨h1,h2⟩:=fI l es t π (s0.iy (cf l j) (es.getD j ⟨false, .any,none⟩).v (es.getD j ⟨false, .any,none⟩).ob) (λ i hi=>ho i (by simp[hi]) (λ e=>by subst e;exact tf.1 hi));constructor
   .show (dE l es (s0.iy _ _ _) π).sl t=_;rw[h1,JC,iO];simp[hk]
   .show (dE l es (s0.iy _ _ _) π).af t=_;rw[h2,AJ,a9l hk]
  .have IS:=ho j (by simp) hj;obtain⟨h1,h2⟩:=vJ l es t k hk π (s0.iy (cf l j) (es.getD j ⟨false, .any,none⟩).v (es.getD j ⟨false, .any,none⟩).ob) (by simpa [Ne.symm hj] using h) tf.2 (λ i hi=>ho i (by simp[hi]));constructor
   .show (dE l es (s0.iy _ _ _) π).sl t=_;rw[h1,KZ,JC,iO,a9c (c:=cf l j=some t/\_) (λ hh=>IS hh.1)]
   .show (dE l es (s0.iy _ _ _) π).af t=_;rw[h2];split
    .rfl
    .rw[AJ,a9c IS]
def Qk{l:List Oper}{es:List JY}{m bits:Nat}{s0:ag}{π π':List Nat}(og:∀ j k t,j<m->k<m->cf l j=some t->cf l k=some t->j=k)
  (Xa:∀ k∈π,k<m) (Pl:∀ k∈π',k<m) (hn:π.Nodup) (tf:π'.Nodup) (ha:∀ k,k<m->Nat.testBit bits k=true->k∈π/\k∈π') (t:Nat) (hh:hidden l m bits t=false) :
  (dE l es s0 π).sl t=(dE l es s0 π').sl t/\(dE l es s0 π).af t=(dE l es s0 π').af t:=by
 by_cases hex:∃ k,k<m/\cf l k=some t
 .obtain⟨k,hk,hd⟩:=hex;have hb:Nat.testBit bits k=true:=by
   have:=hh;unfold hidden at this;rw[List.any_eq_false] at this;have:=this k (by simpa using hk);simp only[hd] at this;simp only[Nat.beq_refl] at this;simpa using this
  obtain⟨h1,h2⟩:=ha k hk hb;obtain⟨e1,e2⟩:=vJ l es t k hd π s0 h1 hn (λ j hj dv BY=>dv (og j k t (Xa j hj) hk BY hd));obtain⟨e3,e4⟩:=vJ l es t k hd π' s0 h2 tf (λ j hj dv BY=>dv (og j k t (Pl j hj) hk BY hd));exact⟨e1.trans e3.symm,e2.trans e4.symm⟩
 .have iv:∀ k,k<m->cf l k≠some t:=λ k hk hd=>hex ⟨k,hk,hd⟩;obtain⟨e1,e2⟩:=fI l es t π s0 (λ k hk=>iv k (Xa k hk));obtain⟨e3,e4⟩:=fI l es t π' s0 (λ k hk=>iv k (Pl k hk));exact⟨e1.trans e3.symm,e2.trans e4.symm⟩
def DU(acc:List Nat)(k:Nat):∀ (es:List Edge) (s:Nat),Nat.testBit (es.foldl (tu acc) s) k=true->Nat.testBit s k=true\/∃ e∈es,Region.binds .any e=true/\(k=e.on\/Nat.testBit (acc.getD e.on 0) k=true)
 | [],s,h => .inl h
 | e::es,s,h=>by
  simp only[b0C] at h;rcases DU acc k es _ h with h|⟨e',yJ,h⟩
  .unfold tu at h;split at h
   .rename_i hb;simp only[Nat.testBit_or,b0B] at h;rcases h with h|h|h
    .exact .inl h
    .refine .inr ⟨e,by simp,hb, .inl ?_⟩;rw[Nat.one_shiftLeft,Nat.testBit_two_pow] at h;exact (a9y h).symm
    .exact .inr ⟨e,by simp,hb, .inr h⟩
   .exact .inl h
  .exact .inr ⟨e',by simp[yJ],h⟩
def wb:∀ (l:List Oper) (acc:List Nat),∃ r,bG l acc=acc++r/\r.length=l.length /\
  ∀ i o,l[i]?=some o->∀ k,Nat.testBit ((acc++r).getD (acc.length+i) 0) k=true->∃ e∈o.after.toList,Region.binds .any e=true/\(k=e.on\/(e.on<acc.length+i/\Nat.testBit ((acc++r).getD e.on 0) k=true))
 | [],acc=>⟨[],by simp[bG],rfl,by simp⟩
 | o::l,acc=>by
  simp only[bG];obtain⟨r,h1,h2,h3⟩:=wb l (acc++[o.after.toList.foldl (tu acc) 0]);refine⟨_::r,by rw[h1,a9B];rfl,by simp[h2],λ i p hp k hk=>?_⟩;cases i with
  | zero =>
   simp at hp;subst hp;have eK:Nat.testBit (o.after.toList.foldl (tu acc) 0) k=true:=by
    simpa [List.getD_eq_getElem?_getD] using hk
   rcases DU acc k _ 0 eK with h|⟨e,he,hb,h⟩
   .simp at h
   .refine⟨e,he,hb,h.imp id λ h=>?_⟩;have bj:e.on<acc.length:=by
     rcases a9O e.on acc.length with hl|hl
     .exact hl
     .simp[a9h,b1g hl] at h
    refine⟨by omega,?_⟩;rw[a9h,b0n bj,<-a9h];exact h
  | succ i =>
   have:=h3 i p (by simpa using hp) k (by
    have e1:(acc++[o.after.toList.foldl (tu acc) 0]).length+i=acc.length+(i+1):=by simp;omega
    rw[e1,a9B];exact hk)
   obtain⟨e,he,hb,h⟩:=this;refine⟨e,he,hb,h.imp id λ ⟨h1,h2⟩=>⟨by simp at h1;omega,?_⟩⟩;rw[a9B] at h2;exact h2
def x8:∀ (l:List Nat) (i m0:Nat),m0<=i->mC l i m0<=i+l.length/\m0<=mC l i m0/\∀ j b,l[j]?=some b->mC l i m0<=i+j->b+1=2 ^ (i+j)
 | [],i,m0,h=>by simp[mC];exact h
 | b::l,i,m0,h=>by
  simp only[mC];split
  .rename_i hb;have hb:=a8W hb;obtain⟨h1,h2,h3⟩:=x8 l (i+1) m0 (by omega);refine⟨by simp;omega,h2,λ j b' hj hle=>?_⟩;cases j with
   | zero=>simp at hj;subst hj;exact hb
   | succ j=>rw[show i+(j+1)=i+1+j by omega];exact h3 j b' (by simpa using hj) (by omega)
  .obtain⟨h1,h2,h3⟩:=x8 l (i+1) (i+1) (a9n _);refine⟨by simp;omega,by omega,λ j b' hj hle=>?_⟩;cases j with
   | zero=>omega
   | succ j=>rw[show i+(j+1)=i+1+j by omega];exact h3 j b' (by simpa using hj) (by omega)
theorem tA(l:List Oper)(es:List JY)(s0:ag)(π:List Nat)(i:Nat):dE l es s0 (π++[i])=(dE l es s0 π).iy (cf l i) (es.getD i ⟨false, .any,none⟩).v (es.getD i ⟨false, .any,none⟩).ob:=by
 simp[dE,b1h]
theorem Sj{E:Env}{l:List Oper}{m:Nat}{bM:List Nat}{s0:ag}:∀ (r:List Oper) (i:Nat) (es xG:List JY) (s s':ag),Trace E l m bM i r es s s'->(∀ j o,r[j]?=some o->l[i+j]?=some o)->xG.length=i ->
  s=dE l (xG++es) s0 (List.range i) ->
  (∀ j o,r[j]?=some o->NV E l m (bM.getD (i+j) 0) (dE l (xG++es) s0 (List.range (i+j))) o ((xG++es).getD (i+j) ⟨false, .any,none⟩))/\s'=dE l (xG++es) s0 (List.range (i+r.length))
 | [],i,[],xG,s,s',h,_,_,hs=>by
  have h:s=s':=h;subst h;exact⟨by simp,by simpa using hs⟩
 | o::r,i,e::es,xG,s,s',h,hl,h0,hs=>by
  obtain⟨h1,h2⟩:=h;have ho:l[i]?=some o:=hl 0 o rfl;have L7:(xG++e::es).getD i ⟨false, .any,none⟩=e:=by simp[a9h,<-h0]
  have cd:s.iy o.dst e.v e.ob=dE l ((xG++[e])++es) s0 (List.range (i+1)):=by
   rw[a9B,List.range_succ,tA,b1F,L7,<-hs];simp[cf,ho]
  have ih:=Sj r (i+1) es (xG++[e]) _ s' h2 (λ j p hj=>by
   have:=hl (j+1) p (by simpa using hj);rwa [show i+(j+1)=i+1+j by omega] at this) (by simp[h0]) cd
  rw[a9B,b1F] at ih;refine⟨λ j p hj=>?_,by rw[ih.2];congr 2;simp;omega⟩;cases j with
  | zero =>
   simp at hj;subst hj;rw[b0P,L7,<-hs];exact h1
  | succ j =>
   have:=ih.1 j p (by simpa using hj);rwa [show i+1+j=i+(j+1) by omega] at this
 | [],_,_::_,_,_,_,h,_,_,_=>h.elim
 | _::_,_,[],_,_,_,h,_,_,_=>h.elim
theorem tz:∀ (m:Nat) (π:List Nat),π.Nodup->(∀ k∈π,k<m)->π.length<=m
 | 0,π,_,h=>by
  cases π with
  | nil=>simp
  | cons k r=>exact absurd (h k (by simp)) (by omega)
 | m+1,π,hn,h=>by
  by_cases hm:m∈π
  .have h1:=tz m (π.erase m) (hn.erase m) (λ k hk=>by
    have h2:=(hn.mem_erase_iff).1 hk;have:=h k h2.2;have:=h2.1;omega)
   have h3:=b0V hm;have:0<π.length:=b1d hm;omega
  .have:=tz m π hn (λ k hk=>by
    have:=h k hk;have:k≠m:=λ e=>by subst e;exact hm hk
    omega)
   omega
section
variable {c:Ctx} {G:Gh} {s:ag} {a:Act} {w w':World}
theorem C1.dM{lk:Nat->Option av}{v:AV}{x:Value}(h:C1 c G lk w v x){d:Nat}(hr:v.refs d=true):lk d≠none:=by
 cases v with
 | ptr i o =>
  have:=a8W (show Nat.beq i d=true from hr);subst this;obtain⟨_,_,_,h3⟩:=h;intro e;rw[e] at h3;cases h3
 | row i =>
  have:=a8W (show Nat.beq i d=true from hr);subst this;obtain⟨_,h3,_⟩:=h;intro e;rw[e] at h3;cases h3
 | dX i k o =>
  have:=a8W (show Nat.beq i d=true from hr);subst this;obtain⟨_,_,_,_,_,_,_,h3,_⟩:=h;intro e;rw[e] at h3;cases h3
 | aC i =>
  have:=a8W (show Nat.beq i d=true from hr);subst this;intro e;have h1:=h.1;rw[e] at h1;cases h1
 | sub i k o z =>
  have:=a8W (show Nat.beq i d=true from hr);subst this;intro e;have h1:=h.1;rw[e] at h1;cases h1
 | eo i k o z =>
  have:=a8W (show Nat.beq i d=true from hr);subst this;intro e;have h1:=h.1;rw[e] at h1;cases h1
 | mp i =>
  have:=a8W (show Nat.beq i d=true from hr);subst this;intro e;have h1:=h.2.1;rw[e] at h1;cases h1
 | agg cs=>exact h.elim
 | gb cs=>exact h.elim
 | cN f cs=>exact h.elim
 | _=>cases hr
theorem nE{d:Nat}:∀ {cs:List AV},AV.fB d cs=true->∃ v∈cs,v.refs d=true
 | v::r,h=>by
  simp only[AV.fB] at h;split at h
  .rename_i hv;exact⟨v,by simp,hv⟩
  .obtain⟨u,hu,hr⟩:=nE h;exact⟨u,by simp[hu],hr⟩
theorem aM.mem_left{α β:Type}{R:α->β->Prop}:∀ {Z9:List α} {bs:List β},aM R Z9 bs->∀ x∈Z9,∃ y,R x y
 | _::_,b::_,h,x,hx=>by
  rcases a9k.1 hx with rfl|hx
  .exact⟨b,h.1⟩
  .exact aM.mem_left h.2 x hx
theorem VR.dM{lk:Nat->Option av}{v:AV}{x:Value}(h:VR c G lk w v x){d:Nat}(hr:v.refs d=true):lk d≠none:=by
 cases v with
 | aN u=>cases hr
 | agg cs =>
  obtain⟨l,_,hl⟩:=h;obtain⟨u,hu,C8⟩:=nE (show AV.fB d cs=true from hr);obtain⟨y,hy⟩:=hl.mem_left u hu;exact hy.dM C8
 | gb vs =>
  obtain⟨l,_,hl⟩:=h;obtain⟨u,hu,C8⟩:=nE (show AV.fB d vs=true from hr);obtain⟨y,hy⟩:=hl.mem_left u hu;cases u with
  | aC i=>exact C1.dM (c:=c) (G:=G) (w:=w) (v := .aC i) hy C8
  | agg cs =>
   obtain⟨l,_,hl⟩:=hy;obtain⟨u,hu,C8⟩:=nE (show AV.fB d cs=true from C8);obtain⟨y,hy⟩:=hl.mem_left u hu;exact hy.dM C8
  | _=>first|(cases C8;done)|exact hy.elim
 | cN f vs =>
  obtain⟨l,_,hl⟩:=h;obtain⟨u,hu,C8⟩:=nE (show AV.fB d vs=true from hr);obtain⟨y,hy⟩:=hl.mem_left u hu;rcases hy.inv with ⟨v,rfl,_⟩|⟨cs,l,rfl,_,hl⟩|h1
  .cases C8
  .obtain⟨u,hu,C8⟩:=nE (show AV.fB d cs=true from C8);obtain⟨y,hy⟩:=hl.mem_left u hu;exact hy.dM C8
  .exact h1.dM C8
 | ptr i o=>exact C1.dM (c:=c) (G:=G) (w:=w) (v := .ptr i o) h hr
 | row i=>exact C1.dM (c:=c) (G:=G) (w:=w) (v := .row i) h hr
 | dX i k o=>exact C1.dM (c:=c) (G:=G) (w:=w) (v := .dX i k o) h hr
 | aC i=>exact C1.dM (c:=c) (G:=G) (w:=w) (v := .aC i) h hr
 | sub i k o z=>exact C1.dM (c:=c) (G:=G) (w:=w) (v := .sub i k o z) h hr
 | eo i k o z=>exact C1.dM (c:=c) (G:=G) (w:=w) (v := .eo i k o z) h hr
 | mp i=>exact C1.dM (c:=c) (G:=G) (w:=w) (v := .mp i) h hr
 | _=>cases hr
theorem Inv.PZ(h:Inv c G s a w){d:Nat}(hd:s.af d=none):(∀ i,(s.sl i).refs d=false)/\∀ i o,s.af i=some o->o.refs d=false:=by
 refine⟨λ i=>?_,λ i o ho=>?_⟩
 .cases hr:(s.sl i).refs d with
  | false=>rfl
  | true=>exact absurd hd ((h.aw i).dM hr)
 .cases o with
  | row e τ xs=>rfl
  | aC τ xs=>rfl
  | map m=>rfl
  | box cs =>
   cases hr:av.refs d (.box cs) with
   | false=>rfl
   | true =>
    obtain⟨b,l,t,_,_,k3⟩:=h.aH i _ ho;obtain⟨u,hu,C8⟩:=nE (show AV.fB d cs=true from hr);obtain⟨y,hy⟩:=k3.mem_left u hu;exact absurd hd (hy.dM C8)
theorem Mc(h0:Inv c G s a w){d:Option Nat}{v:AV}{ob:Option av}{a':Act}(GO:rf d=true)(rL:∀ i o,d=some i->ob=some o->s.af i=none)(h:vY c G s.sl s.aw.length s.af d a w v ob a' w') :
  ∃ G',Inv c G' (s.iy d v ob) a' w':=by
 obtain⟨x,S',rfl,hI,hx⟩:=h;cases ob with
 | none =>
  refine⟨⟨S',G.η,G.φ⟩,?_⟩;have:s.iy d v none=s.put d v:=by cases d<;>rfl
  rw[this];exact Inv.put (s:=s) hI hx
 | some o =>
  obtain⟨hL,hN,hb⟩:=hx;have hd:∃ i,d=some i:=by cases o<;>first|exact⟨_,hL.choose_spec.1⟩|exact hL.elim
  obtain⟨i,rfl⟩:=hd;have hi:=rL i o rfl rfl;have vT:Inv c ⟨S',G.η,G.φ⟩ s a w':=hI;obtain⟨MS,O7⟩:=vT.PZ hi;have hor:o.refs i=false:=by
   cases o with
   | row e τ xs=>rfl
   | aC τ xs=>rfl
   | map m=>rfl
   | box cs =>
    cases hr:av.refs i (.box cs) with
    | false=>rfl
    | true =>
     obtain⟨b,l,t,_,_,k3⟩:=hN;obtain⟨u,hu,C8⟩:=nE (show AV.fB i cs=true from hr);obtain⟨y,hy⟩:=k3.mem_left u hu;exact absurd hi (hy.dM C8)
  have oU:OR c ⟨S',λ j=>if j=i then x else G.η j,G.φ⟩ (λ j=>if j=i then some o else s.af j) w' i o:=by
   cases o with
   | box cs =>
    obtain⟨b,l,t,k1,k2,k3⟩:=hN;refine⟨b,l,t,by simp[k1],k2,k3.imp λ u y hu hy=>hy.mono (λ j hj=>?_) (λ _ h=>h) (λ _ _=>rfl)⟩;have dv:j≠i:=λ e=>by
     subst e;have:=kr hu hj;rw[show AV.fB j cs=av.refs j (.box cs) from rfl,hor] at this;cases this
    simp only[a9c dv];exact⟨eb.refl _,U⟩
   | row e τ xs =>
    obtain⟨l,k1,k2,k3⟩:=hN;exact⟨l,by simpa using k1,k2,k3⟩
   | aC τ xs=>exact hN.elim
   | map m =>
    obtain⟨b,es,clock,k1,k2,k3⟩:=hN;exact⟨b,es,clock,by simp[k1],k2,k3⟩
  have U3:cP (some o)=false:=by
   cases o with
   | aC τ xs=>exact hN.elim
   | _=>rfl
  have h4:=bd.newObj vT i o x hi MS O7 hor oU U3 (.inr (a9V GO)) (λ b C2=>by
   obtain⟨q1,q2,q3⟩:=hb b C2;have hle:=h0.aL.size;refine⟨by omega,q3,q2,λ j p Y7 MP=>?_,λ j τ xs hj MP=>?_⟩
   .have:=(h0.place j p b Y7 MP).2.2;omega
   .have:=(h0.aO.pl j τ xs b hj MP).2.2.1;omega)
  refine⟨⟨S',λ j=>if j=i then x else G.η j,G.φ⟩,?_⟩;unfold Inv;have bS:(s.iy (some i) v (some o)).af=λ j=>if j=i then some o else s.af j:=by
   funext j;rw[AJ];by_cases hj:j=i
   .subst hj;simp
   .have:¬ (some i=some j):=by simp;exact λ e=>hj e.symm
    rw[a9c this,a9c hj]
  rw[JC,bS,KZ];refine bd.put h4 ?_;cases o with
  | box cs =>
   obtain⟨j,hj,rfl⟩:=hL;simp only[a8V] at hj;subst hj;obtain⟨b,l,t,k1,k2,k3⟩:=hN;exact⟨b,by simp[k1],k1,by simp[fw]⟩
  | row e τ xs =>
   obtain⟨j,hj,rfl⟩:=hL;simp only[a8V] at hj;subst hj;obtain⟨l,k1,k2,k3⟩:=hN;refine⟨by simp,by simp[isRow],?_⟩;rcases k1.2 with ⟨rfl,_⟩|⟨g,cap,cur,rfl,_⟩
   .exact⟨_,_,_,rfl⟩
   .exact⟨_,_,_,rfl⟩
  | aC τ xs=>exact hN.elim
  | map m =>
   obtain⟨j,hj,rfl⟩:=hL;simp only[a8V] at hj;subst hj;obtain⟨b,es,clock,k1,k2,k3⟩:=hN;exact⟨by simp,by simp[GZ],b,k1⟩
theorem WE(h:Inv c G s a w)(o:Oper):Inv c G (s.fresh o) a w:=by
 unfold ag.fresh;split
 .rename_i d _ _;obtain⟨h1,_,_⟩:=h.clear d;have bS:ag.af { s.bP d with aH:=bB d (s.bP d).aH }=λ i=>if i=d then none else (s.bP d).af i:=by
   funext i;exact dZ d _ i
  unfold Inv;show bd c G (s.bP d).sl (s.bP d).aw.length (ag.af { s.bP d with aH:=bB d (s.bP d).aH }) a w;rw[bS,show (s.bP d).aw.length=s.aw.length from by simp[ag.bP]];exact h1
 .exact h
theorem UL(s:ag)(o:Oper)(j:Nat):(s.af j=none->(s.fresh o).af j=none)/\(ub o.op=true->o.dst=some j->(s.fresh o).af j=none):=by
 unfold ag.fresh;split
 .rename_i d hc hd;have bS:ag.af { s.bP d with aH:=bB d (s.bP d).aH } j=if j=d then none else (s.af j).map (av.kill d):=by
   show af (bB d (s.bP d).aH) j=_;rw[dZ];have:=congrFun (dQ s d) j;show (if j=d then none else (s.bP d).af j)=_;rw[this]
  rw[bS];refine⟨λ h=>by rw[h];simp,λ _ hj=>?_⟩;rw[hd] at hj;simp only[a8V] at hj;rw[a9l hj.symm]
 .rename_i iv;exact⟨λ h=>h,λ hc hd=>(iv j hc hd).elim⟩
theorem Af:∀ (l:List Oper) {s:ag},Inv c G s a w->Inv c G (l.foldl ag.fresh s) a w
 | [],_,h=>h
 | o::r,_,h=>Af r (WE h o)
theorem xM:∀ (l:List Oper) (s:ag) (j:Nat),(s.af j=none->(l.foldl ag.fresh s).af j=none)/\(∀ o∈l,ub o.op=true->o.dst=some j->(l.foldl ag.fresh s).af j=none)
 | [],s,j=>⟨λ h=>h,by simp⟩
 | o::r,s,j=>by
  obtain⟨h1,h2⟩:=xM r (s.fresh o) j;obtain⟨h3,h4⟩:=UL s o j;refine⟨λ h=>h1 (h3 h),λ p hp hc hd=>?_⟩;rcases a9k.1 hp with rfl|hp
  .exact h1 (h4 hc hd)
  .exact h2 p hp hc hd
theorem Oo{E:Env}{lk:Nat->Option av}{f:FuncId}{Ts:List TypeId}{vs:List AV}{vc:Vc}{v:AV}{ob:Option av}(h:D3 E lk f Ts vs=some (vc,v,ob)):ob=none:=by
 unfold D3 at h;repeat' split at h
 all_goals first
  | (simp only[a8V,a8Y] at h;exact h.2.2.symm)
  | cases h
theorem LR{E:Env}{lk:Nat->Option av}{g:AV}{Ts:List TypeId}{vs:List AV}{vc:Vc}{v:AV}{ob:Option av}(h:yx E lk g Ts vs=some (vc,v,ob)):ob=none:=by
 unfold yx at h;split at h
 .rename_i r hr;repeat' split at hr
  all_goals first
   | (simp only[a8V] at hr h;subst hr;simp only[a8Y] at h;exact h.2.2.symm)
   | cases hr
 .repeat' split at h
  all_goals first
   | (simp only[a8V,a8Y] at h;exact h.2.2.symm)
   | cases h
theorem Jt{E:Env}{lk:Nat->Option av}{ev:Operand->AV}{o:Oper}{vc:Vc}{v:AV}{ob:av}(h:Hi E lk ev o=some (vc,v,some ob)):ub o.op=true:=by
 unfold Hi at h;split at h;case h_4 T bf=>rw[bf];rfl
 case h_5 T x bf=>rw[bf];rfl
 case h_7 T n ps bf=>rw[bf];rfl
 case h_21 T bf=>rw[bf];rfl
 case h_19 T x y bf=>rw[bf];rfl
 case h_20 cl bf =>
  split at h
  .repeat' split at h
   all_goals first
    | (simp at h;done)
    | cases h
  .rename_i fY;rw[bf];simp[ub,fY]
  .rename_i fY;repeat' (split at h)
   all_goals first|cases h|skip
  .exact absurd (Oo h) (by simp)
  .split at h
   .exact absurd (Oo h) (by simp)
   .exact absurd (LR h) (by simp)
   .exact absurd (LR h) (by simp)
   .cases h
  .cases h
 all_goals (repeat' split at h)
 all_goals first
  | (simp at h;done)
  | cases h
end
end Go.Proofs.YtofnjfpeimhifaaGreatDoor

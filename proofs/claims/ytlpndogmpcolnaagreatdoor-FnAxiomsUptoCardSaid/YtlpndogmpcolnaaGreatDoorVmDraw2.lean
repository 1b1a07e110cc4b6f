/- VmEff, VmTree, VmMark, VmOwnOps, VmBuild, VmBuild2, VmSt, VmStep, VmDraw, VmDraw2. -/
import Derived.Test.YtlpndogmpcolnaaGreatDoorVmOps
import Derived.Eval
set_option linter.all false
namespace Go.Proofs.YtlpndogmpcolnaaGreatDoor
def b5P:=@List.getD_eq_getElem?_getD
def b7X:=@Array.eq_empty_of_size_eq_zero
def c0g:=@Go.setRow_heap
def b8s:=@List.drop_eq_nil_of_le
def b7s:=@List.length_set
def b9k:=@List.size_toArray
def b7t:=@List.map_append
def b7q:=@Go.Value.tuple.injEq
def b9u:=@List.toArray_inj
def b6U:=@List.mem_cons_of_mem
def b6l:=@List.nodup_append
def b6x:=@List.cons_append
def b7c:=@List.nodup_nil
def b6z:=@List.nodup_cons
def b7l:=@List.take_append_drop
def b9v:=@List.map_set
def b9K:=@List.append_eq_nil_iff
def b9w:=@List.eq_of_mem_replicate
def b7d:=@Bool.or_eq_true
def b8n:=@Nat.lt_irrefl
def b9X:=@Array.toList_append
def b8e:=@List.mem_cons_self
def b7y:=@List.mem_range
def b8I:=@Classical.byContradiction
def b8Q:=@List.nodup_range
def b8p:=@List.Nodup.length_le_of_subset
def b7o:=@Go.Oper.wp_mono
def b8v:=@List.getElem?_eq_none
def b8R:=@Option.getD_some
def b7C:=@List.foldl_cons
def b8t:=@List.foldl_append
def b8w:=@List.singleton_append
def b7Y:=@List.length_erase_of_mem
def b8c:=@List.length_pos_of_mem
theorem Gq(f:av->av):∀ (l:List (Nat×av)) (j:Nat),ai (l.map λ p=>(p.1,f p.2)) j=(ai l j).map f
 | [],_=>rfl
 | (k,o)::r,j=>by
  simp only[b6w,ai];split
  .rfl
  .exact Gq f r j
theorem eB(id:Nat):∀ (l:List (Nat×av)) (j:Nat),ai (bB id l) j=if j=id then none else ai l j
 | [],_=>by simp[bB,ai]
 | (k,o)::r,j=>by
  simp only[bB];split
  .rename_i h;have h:=b5G h;subst h;rw[eB k r j];by_cases hj:j=k
   .simp[hj]
   .rw[b5I hj,b5I hj];simp only[ai];split
    .rename_i h;exact absurd (b5G h).symm hj
    .rfl
  .rename_i h;have hk:k≠id:=λ e=>by subst e;simp at h
   simp only[ai];split
   .rename_i h';have h':=b5G h';subst h';rw[b5I hk]
   .exact eB id r j
theorem dr(k:Nat)(o:av)(l:List (Nat×av))(j:Nat):ai ((k,o)::l) j=if j=k then some o else ai l j:=by
 simp only[ai];split
 .rename_i h;rw[b5Q (b5G h).symm]
 .rename_i h;have:j≠k:=λ e=>by subst e;simp at h
  rw[b5I this]
theorem pJ(l:List AV)(d:Nat)(v:AV)(o:List (Nat×av)):aq.sl ⟨l.set d v,o⟩=jD l.length (aq.sl ⟨l,o⟩) (some d) v:=by
 funext i;simp only[aq.sl,jD,b5P,List.getElem?_set,b5E];by_cases h:d=i
 .subst h;by_cases hl:d<l.length
  .simp[hl]
  .simp[hl]
 .simp[h]
theorem a2n(s:aq)(d:Option Nat)(v:AV):(s.put d v).sl=jD s.aA.length s.sl d v:=by
 cases d with
 | none=>funext i;simp[aq.put,jD]
 | some d=>exact pJ s.aA d v s.aK
theorem Uq(s:aq)(d:Option Nat)(v:AV):(s.put d v).ai=s.ai:=by cases d<;>rfl
theorem N9(s:aq)(d:Option Nat)(v:AV):(s.put d v).aA.length=s.aA.length:=by cases d<;>simp[aq.put]
theorem UL(s:aq)(id:Nat):(s.bQ id).sl=λ i=>(s.sl i).kill id:=by
 funext i;simp only[aq.sl,aq.bQ,b5P,b7m];cases s.aA[i]?<;>simp[AV.kill,AV.refs]
theorem dX(s:aq)(id:Nat):(s.bQ id).ai=λ i=>(s.ai i).map (av.kill id):=by
 funext i;exact Gq _ _ _
section
variable {c:Ctx} {G:Gh} {s:aq} {a:Act} {w w':World}
theorem Inv.put(h:Inv c G s a w){d:Option Nat}{v:AV}{x:Value}(hv:VR c G s.ai w v x):Inv c G (s.put d v) (a.put d x) w:=by
 unfold Inv;rw[a2n,Uq,N9];exact bf.put h hv
theorem Inv.clear(h:Inv c G s a w)(id:Nat):bf c G (s.bQ id).sl s.aA.length (λ i=>if i=id then none else (s.bQ id).ai i) a w /\
  (∀ i,((s.bQ id).sl i).refs id=false)/\∀ i o,(s.bQ id).ai i=some o->o.refs id=false:=by
 have h1:=bf.bQ h id;have hs:∀ i,((s.bQ id).sl i).refs id=false:=λ i=>by rw[UL];exact Cr id _
 have ho:∀ i o,(s.bQ id).ai i=some o->o.refs id=false:=λ i o cq=>by
  rw[dX] at cq;simp only[b6C] at cq;obtain⟨o',_,rfl⟩:=cq;cases o' with
  | box cs=>exact FU id cs
  | row e τ xs=>rfl
  | aC τ xs=>rfl
  | map m=>rfl
 refine⟨?_,hs,ho⟩;rw[UL,dX];exact bf.a7G h1 id (λ i=>Cr id _) (λ i o cq _=>by
  have:=ho i o (by rw[dX];exact cq);exact this)
theorem S4(id:Nat)(o:av):(o.kill id).refs id=false:=by
 cases o with
 | box cs=>exact FU id cs
 | row e τ xs=>rfl
 | aC τ xs=>rfl
 | map m=>rfl
theorem Inv.a1Q(h:Inv c G s a w){id:Nat}{v:AV}{o:av}{x:Value}(bp:id<400000)(hN:a1f c G s.ai w x o)(hL:LV (some id) v o)
  (hblk:∀ b,dD x=some b->(c.w0.heap.size<=b\/c.X b)/\¬ G.S b/\b<w.heap.size/\(∀ i o',i≠id->s.ai i=some o'->dD (G.η i)≠some b)/\∀ j τ xs,s.ai j=some (.aC τ xs)->b∉G.φ j) :
  Inv c ⟨G.S,λ i=>if i=id then x else G.η i,G.φ⟩ (s.lay (some id) v (some o)) (a.put (some id) x) w:=by
 obtain⟨h1,h2,h3⟩:=h.clear id;have bS:(s.lay (some id) v (some o)).ai=λ i=>if i=id then some (o.kill id) else (if i=id then none else (s.bQ id).ai i):=by
  funext i;show ai ((id,o.kill id)::bB id (s.bQ id).aK) i=_;rw[dr,eB];rfl
 have zp:(s.lay (some id) v (some o)).sl=jD s.aA.length (s.bQ id).sl (some id) v:=by
  have:=pJ (s.bQ id).aA id v ((id,o.kill id)::bB id (s.bQ id).aK);rw[show (s.bQ id).aA.length=s.aA.length from by simp[aq.bQ]] at this;exact this
 have hlen:(s.lay (some id) v (some o)).aA.length=s.aA.length:=by simp[aq.lay,aq.bQ]
 have pZ:OR c ⟨G.S,λ i=>if i=id then x else G.η i,G.φ⟩ (λ i=>if i=id then some (o.kill id) else (if i=id then none else (s.bQ id).ai i)) w id (o.kill id):=by
  cases o with
  | box cs =>
   obtain⟨b,l,t,k1,k2,k3⟩:=hN;refine⟨b,l,t,by simp[k1],k2,aM.dA _ (k3.imp λ u y _ hy=>?_)⟩;refine (hy.kill id).mono (λ j hj=>?_) (λ _ h=>h) (λ _ _=>rfl);have eu:j≠id:=λ e=>by subst e;rw[Cr] at hj;cases hj
   simp only[b5I eu];exact⟨by rw[dX];exact Jo id _,af⟩
  | row e τ xs =>
   obtain⟨l,k1,k2,k3⟩:=hN;exact⟨l,by simpa using k1,k2,k3⟩
  | aC τ xs=>exact hN.elim
  | map m =>
   obtain⟨b,es,clock,k1,k2,k3⟩:=hN;exact⟨b,es,clock,by simp[k1],k2,k3⟩
 have XQ:cR (some (o.kill id))=false:=by
  cases o with
  | aC τ xs=>exact hN.elim
  | _=>rfl
 have h4:=bf.newObj h1 id (o.kill id) x (by simp) h2 (λ i p uQ=>by
  by_cases hi:i=id
  .simp[hi] at uQ
  .rw[b5I hi] at uQ;exact h3 i p uQ) (S4 id o) pZ XQ (.inr bp) (λ b hb=>by
  obtain⟨q1,q2,q3,q4,q5⟩:=hblk b hb;refine⟨q1,q2,q3,λ i p uQ=>?_,λ j τ xs hj=>?_⟩
  .by_cases hi:i=id
   .simp[hi] at uQ
   .rw[b5I hi,dX] at uQ;simp only[b6C] at uQ;obtain⟨p',KK,_⟩:=uQ;exact q4 i p' hi KK
  .by_cases hi:j=id
   .simp[hi] at hj
   .rw[b5I hi,dX] at hj;exact q5 j τ xs (jl hj))
 unfold Inv;rw[zp,bS,hlen];refine bf.put h4 ?_;cases o with
 | box cs =>
  obtain⟨i,hi,rfl⟩:=hL;simp only[b5E] at hi;subst hi;obtain⟨b,l,t,k1,k2,k3⟩:=hN;exact⟨b,by simp[k1],k1,by simp[av.kill,fR]⟩
 | row e τ xs =>
  obtain⟨i,hi,rfl⟩:=hL;simp only[b5E] at hi;subst hi;obtain⟨l,k1,k2,k3⟩:=hN;refine⟨by simp,by simp[av.kill,isRow],?_⟩;rcases k1.2 with ⟨rfl,_⟩|⟨g,cap,cur,rfl,_⟩
  .exact⟨_,_,_,rfl⟩
  .exact⟨_,_,_,rfl⟩
 | aC τ xs=>exact hN.elim
 | map m =>
  obtain⟨i,hi,rfl⟩:=hL;simp only[b5E] at hi;subst hi;obtain⟨b,es,clock,k1,k2,k3⟩:=hN;exact⟨by simp,by simp[av.kill,I3],b,k1⟩
theorem Rs(h0:Inv c G s a w){d:Option Nat}(IS:ti d=true){v:AV}{ob:Option av}{a':Act}(h:xL c G s.sl s.aA.length s.ai d a w v ob a' w'):∃ G',Inv c G' (s.lay d v ob) a' w':=by
 obtain⟨x,S',rfl,hI,hx⟩:=h;cases ob with
 | none=>exact⟨_,by cases d<;>exact Inv.put (s:=s) hI hx⟩
 | some o =>
  obtain⟨hL,hN,hb⟩:=hx;have hd:∃ i,d=some i:=by cases o<;>first|exact⟨_,hL.choose_spec.1⟩|exact hL.elim
  obtain⟨i,rfl⟩:=hd;refine⟨_,Inv.a1Q (s:=s) hI (b6R IS) hN hL λ b Ca=>?_⟩;obtain⟨h1,h2,h3⟩:=hb b Ca;have hle:=h0.keep.size;refine⟨by omega,h3,h2,λ j o' _ hj OL=>?_,λ j τ xs hj OL=>?_⟩
  .have:=(h0.place j o' b hj OL).2.2;omega
  .have:=(h0.aP.pl j τ xs b hj OL).2.2.1;omega
theorem Xf{k:IntKind}{n:Int}(h:Qr k n=true):k.min<=n/\n<=k.max:=by
 unfold Qr at h;split at h
 .rename_i m;split at h<;>have h:=b6R h<;>try (simp[IntKind.min,IntKind.max,IntKind.signed,IntKind.bits];omega)
  cases k<;>simp_all [IntKind.min,IntKind.max,IntKind.signed,IntKind.bits]<;>omega
 .rename_i m;split at h
  .have h:=b6R h;simp[IntKind.min,IntKind.max,IntKind.signed,IntKind.bits];omega
  .cases h
theorem Hq(lk:Nat->Option av)(v:Value):C1 c G lk w (J7 v) v:=by
 unfold J7;split
 .split
  .rename_i h;exact⟨rfl,rfl,Xf h⟩
  .trivial
 .exact⟨rfl,rfl⟩
 .split
  .rename_i sv _ h;have h:=b6R h;exact⟨rfl,sv,rfl,rfl,by have:sv.size=sv.data.size:=rfl;omega⟩
  .trivial
 .rfl
 .trivial
theorem aW(h:Inv c G s a w)(x:Operand):VR c G s.ai w (s.eval x) (a.eval x):=by
 cases x with
 | tmp t=>exact h.aA t
 | const v =>
  simp only[aq.eval,Act.eval];unfold Xe;split
  .rename_i cs;refine⟨cs.toList,rfl,aM.dA _ ?_⟩;have:∀ l:List Value,aM (λ u y=>C1 c G s.ai w (J7 u) y) l l:=by
    intro l;induction l with
    | nil=>trivial
    | cons u r ih=>exact⟨Hq _ u,ih⟩
   exact this _
  .rename_i cs;split
   .rename_i hz;have:cs = #[]:=b7X (b5G hz);subst this;exact rfl
   .trivial
  .exact (Hq _ v).fO
 | global g=>trivial
 | func f=>rfl
theorem me{g:Nat}{old cs:Array Value}{t:TypeId}{fr:Nat×Nat}(w:World)(hg:w.heap[g]?=some (.cells old t fr))(k:Nat)(hk:k≠g):(w.setRow g cs).heap[k]?=w.heap[k]?:=setRow_other w g k cs hk
theorem CG(hE:bl c.P c.E){T:TypeId}{τ:Ty}{b e:Nat}(hT:ai c.E.ty T=some (τ,b,e)){g o:Nat}{l:List Value}{t:TypeId}{x:Value}(hg:w.heap[g]?=some (.cells l.toArray t (0,0)))
  (hx:x.cells.toList.length=τ.size) (h1:∀ u∈x.cells.toList,u.oneCell'=true) (EW:o+τ.size<=l.length) :
  (Instr.storeAt T (.pointer (some ⟨g,o,none⟩)) x).run c.P w = .ok () (w.setRow g (l.take o++x.cells.toList++l.drop (o+τ.size)).toArray):=by
 have hn:¬ (x.cells.size≠τ.size):=by simpa using hx
 simp only[Instr.storeAt,Instr.sureAddr,storeVar,Sem.run_bind,Sem.run_pure,Result.andThen_ok,hE.sizeOf hT,if_neg hn];have:=run_storeCells_at c.P g o t x.cells.toList 0 l.toArray w hg (by simp at hx ⊢;omega) h1;simpa [hx] using this
theorem Tg{cs new dw:List AV}{off:Nat}(h:putCells cs off new=some dw):off+new.length<=cs.length/\dw=cs.take off++(new++cs.drop (off+new.length)):=by
 unfold putCells at h;split at h
 .rename_i hb;simp only[b5E] at h;exact⟨b6R hb,h.symm⟩
 .cases h
theorem Inv.store(hE:bl c.P c.E)(h:Inv c G s a w){T:TypeId}{τ:Ty}{bt e:Nat}(hT:ai c.E.ty T=some (τ,bt,e)){id off:Nat}{cs new dw:List AV}{x p:Value}(aS:s.ai id=some (.box cs))(hp:VR c G s.ai w (.ptr id off) p)
  (pZ:∃ v,cellsOf τ v=some new/\VR c G s.ai w v x) (AJ:putCells cs off new=some dw) :
  ∃ w',(Instr.storeAt T p x).run c.P w = .ok () w'/\Inv c G { s with aK:=(id, .box dw)::bB id s.aK } a w':=by
 obtain⟨v,hv,hx⟩:=pZ;obtain⟨h1,h2,h3⟩:=yS hv hx;obtain⟨h4,rfl⟩:=Tg AJ;obtain⟨b,k1,rfl,_⟩:=hp;obtain⟨b',l,t,k2,k3,k4⟩:=h.aK id _ aS;rw[k1] at k2;simp only[b8l,b5E,b7G,b5W] at k2;subst k2;have hlen:=h1.length;have hll:=k4.length;have cJ:=CG (c:=c) hE hT (o:=off) (x:=x) k3 (by omega) h2 (by omega);refine⟨_,cJ,?_⟩;have zp:aq.sl { s with aK:=(id, .box (cs.take off++(new++cs.drop (off+new.length))))::bB id s.aK }=s.sl:=rfl;have bS:aq.ai { s with aK:=(id, .box (cs.take off++(new++cs.drop (off+new.length))))::bB id s.aK }=λ i=>if i=id then some (.box (cs.take off++(new++cs.drop (off+new.length)))) else s.ai i:=by
  funext i;show ai (_::bB id s.aK) i=_;rw[dr,eB];by_cases hi:i=id
  .simp[hi]
  .simp[hi];rfl
 unfold Inv;rw[zp,bS];have cb:∀ k,St c G.S k->(w.setRow b (l.take off++x.cells.toList++l.drop (off+τ.size)).toArray).heap[k]?=w.heap[k]?:=λ k hk=>me w k3 k λ e=>by
  subst e;obtain⟨q1,q2,q3⟩:=h.place id _ k aS (by rw[k1];rfl);rcases hk with hk|hk
  .exact q2 hk
  .exact q1.elim (λ q=>by omega) hk.2.1
 have fG:∀ j,eC (s.ai j) ((λ i=>if i=id then some (av.box (cs.take off++(new++cs.drop (off+new.length)))) else s.ai i) j):=λ j=>by
  by_cases hj:j=id
  .subst hj;simp only[b7D];exact⟨λ _=>rfl,(λ e τ xs hh=>by rw[aS] at hh;cases hh),(λ hh=>by rw[aS] at hh;cases hh),λ hh=>by rw[aS] at hh;cases hh⟩
  .simp only[b5I hj];exact eC.refl _
 refine bf.Wh h id _ _ b aS (by rw[k1];rfl) ⟨λ _=>rfl,(λ e τ xs hh=>by cases hh),(λ hh=>by cases hh),λ hh=>by cases hh⟩ rfl (λ k hk=>me w k3 k hk) rfl rfl rfl (by simp[World.setRow]) ?_;refine⟨b,_,t,k1,c0g w b _ _ t _ k3,?_⟩;have key:aM (C1 c G s.ai w) (cs.take off++(new++cs.drop (off+new.length))) (l.take off++x.cells.toList++l.drop (off+τ.size)):=by
  rw[b6v,<-h3];exact aM.append (k4.take off) (aM.append h1 (k4.drop _))
 exact key.imp λ u y _ hy=>hy.mono (λ j _=>⟨fG j,rfl⟩) (λ _ h=>h) cb
theorem Rv(cur bK:List Value)(o sz N:Nat)(hv:bK.length=sz)(hN:o+sz<=N)(hc:N<=cur.length) :
  (cur.take o++bK++cur.drop (o+sz)).take N=(cur.take N).take o++bK++(cur.take N).drop (o+sz):=by
 have h1:(cur.take o++bK).length=o+sz:=by simp[hv];omega
 rw[b9s,h1,b6J (by omega),List.take_take,Nat.min_eq_left (by omega),List.drop_take]
theorem dP.a9H{S:Nat->Prop}{n:Nat}{d':D}{c':List Value}(hd:Rd w S d' c')(zm:c'.length=n):∀ (ds:List D) {l:List Value} (i:Nat),dP w S ds l->(∀ d∈ds,d.size=n)->i<ds.length->dP w S (ds.set i d') (l.take (i * n)++c'++l.drop (i * n+n))
 | [],l,i,_,_,hi=>by simp at hi
 | e::ds,l,0,h,hn,_=>by
  obtain⟨c1,r,rfl,h2,h3⟩:=h;have hc:c1.length=n:=by rw[Rd.length _ h2];exact hn _ (by simp)
  refine⟨c',r,?_,hd,h3⟩;simp only[b8T,b7K,b6B,b7P];rw[<-hc,b8g]
 | e::ds,l,i+1,h,hn,hi=>by
  obtain⟨c1,r,rfl,h2,h3⟩:=h;have hc:c1.length=n:=by rw[Rd.length _ h2];exact hn _ (by simp)
  refine⟨c1,r.take (i * n)++c'++r.drop (i * n+n),?_,h2,dP.a9H hd zm ds i h3 (λ d hd=>hn d (by simp[hd])) (by simpa using hi)⟩;have e1:(i+1) * n=c1.length+i * n:=by rw[Nat.add_mul,hc];omega
  rw[e1,b9s,b6J (by omega),show c1.length+i * n - c1.length=i * n by omega,b8E,List.drop_append,b8s (by omega),b6B,
   show c1.length+(i * n+n) - c1.length=i * n+n by omega]
  simp
theorem Inv.a3q(hE:bl c.P c.E)(h:Inv c G s a w){T:TypeId}{τ:Ty}{bt e:Nat}(hT:ai c.E.ty T=some (τ,bt,e)){id i:Nat}{e':TypeId}{xs:List τ.den}{v:AV}{y:τ.den}{x p:Value}(aS:s.ai id=some (.row e' τ xs))
  (hp:VR c G s.ai w (.eA id i 0) p) (hx:VR c G s.ai w v x) (hy:uP (λ _=>none) τ v=some y) :
  ∃ w',(Instr.storeAt T p x).run c.P w = .ok () w'/\Inv c G { s with aK:=(id, .row e' τ (xs.set i y))::bB id s.aK } a w':=by
 obtain⟨b,n,cap,e1,Pl,SE,k1,k2,k3,rfl⟩:=hp;rw[aS] at k2;simp only[b5E,av.row.injEq] at k2;obtain⟨rfl,rfl,k2⟩:=k2;have k2:=b8K k2;subst k2;have hr:=(zY hy hx).cells;have sd:x.cells.toList.length=τ.size:=by
  have:=Rd.length _ hr;rwa [show TV.aL ⟨τ,y⟩=τ.aL y from rfl,Ty.cA] at this
 have EZ:∀ u∈x.cells.toList,u.oneCell'=true:=Rd.qV (x:=y) hr;obtain⟨l,m1,m2,m3⟩:=h.aK id _ aS;have cr:∀ d∈xs.map τ.aL,d.size=τ.size:=by
  intro d hd;obtain⟨z,_,rfl⟩:=b5N.1 hd;exact Ty.cA τ z
 have hll:=dP.length _ m2 cr;simp only[b6G] at hll;have EW:i * τ.size+τ.size<=xs.length * τ.size:=by
  have:=b7M τ.size (show i+1<=xs.length by omega);rw[b6V] at this;omega
 rcases m1.2 with ⟨hv,_⟩|⟨g,TH,cur,hv,_,hh,SZ,Z5,jt,htk⟩
 .rw[k1] at hv;cases hv
 .rw[k1] at hv;simp only[b7A,b5E,b7G,b5W] at hv;obtain⟨rfl,rfl,rfl⟩:=hv;have xH:xs.length * τ.size<=cur.toList.length:=by
   rw[b6M (xs:=cur),jt];exact b7M _ SZ
  have cJ:=CG (c:=c) (l:=cur.toList) hE hT (o:=i * τ.size+0) (x:=x) (by simpa using hh) sd EZ (by omega);refine⟨_,cJ,?_⟩;have bS:aq.ai { s with aK:=(id, .row e' τ (xs.set i y))::bB id s.aK }=λ j=>if j=id then some (.row e' τ (xs.set i y)) else s.ai j:=by
   funext j;show ai (_::bB id s.aK) j=_;rw[dr,eB];by_cases hj:j=id
   .simp[hj]
   .simp[hj];rfl
  unfold Inv;rw[bS];refine bf.Wh h id _ _ b aS (by rw[k1];rfl) ⟨λ hh=>(by cases hh),λ e2 j0 mA hh=>?_,(λ hh=>by cases hh),λ hh=>by cases hh⟩ rfl (λ k hk=>me w hh k hk) rfl rfl rfl (by simp[World.setRow]) ?_
  .simp only[b5E,av.row.injEq] at hh;obtain⟨rfl,rfl,hh⟩:=hh;have hh:=b8K hh;subst hh;exact⟨_,_,rfl,by simp⟩
  .refine⟨(l.take (i * τ.size)++x.cells.toList++l.drop (i * τ.size+τ.size)),⟨?_, .inr ⟨b,cap,_,by simpa using k1,Nat.zero_le _,setRow_heap w b cur _ e' _ hh,by simpa using SZ,Z5,?_,?_⟩⟩,?_,by simpa using m3⟩
   .rw[b7s,b5Y,b5Y,b6T,b7e,sd,hll];omega
   .rw[b9k,b5Y,b5Y,b6T,b7e,sd,<-jt,<-b6M (xs:=cur)];omega
   .simp only[b7W,b7s];rw[Rv _ _ _ _ _ sd EW xH,htk]
   .rw[List.map_set];have:=dP.a9H hr (by rw[sd]) _ i m2 cr (by simpa using k3);refine dP.keep (λ _ h=>h) (λ k hk=>me w hh k λ e=>?_) _ this;subst e;exact (h.place id _ k aS (by rw[k1];rfl)).2.1 hk
theorem Inv.Gr(hE:bl c.P c.E)(h:Inv c G s a w){T:TypeId}{κ ε:Ty}(hT:ai c.E.K7 T=some (κ,ε)){id:Nat}{f:κ.den->Option ε.den}{n:Nat}(aS:s.ai id=some (.map ⟨κ,ε,f,n⟩))
  {k:κ.den} {x:ε.den} {p y z:Value} (hp:VR c G s.ai w (.mp id) p) (hy:dE w G.S ⟨κ,k⟩ y) (hz:dE w G.S ⟨ε,x⟩ z) (hn:n<1000000000) :
  ∃ w',(Instr.mapUpdate T p y z).run c.P w = .ok () w'/\Inv c G { s with aK:=(id, .map ⟨κ,ε,fj f k x,gH (f k) n⟩)::bB id s.aK } a w':=by
 obtain⟨kT,eT,u1,u2,u3,u4,_⟩:=hE.map hT w;obtain⟨b,es,clock,k1,k2,k3⟩:=h.aK id _ aS;have sc:∀ {τ:Ty} {q:τ.den} {v:Value},τ.key=true->dE w G.S ⟨τ,q⟩ v->oL τ q v:=λ {τ q v} hs hv=>by
  refine oL.of (w:=w) (S:=G.S) hs ?_;cases τ with
  | int _=>exact hv
  | bool=>exact hv
  | str=>exact hv
  | _=>cases hs
 obtain⟨Xq,Ps,m1,m2⟩:=k3.store (P:=c.P) u1 u2 k2 (Bu.of u3 hy) (sc u4 hz) hn;obtain⟨XR,_⟩:=hp;refine⟨_,by rw[XR,k1];exact m1,?_⟩;have bS:aq.ai { s with aK:=(id, .map ⟨κ,ε,fj f k x,gH (f k) n⟩)::bB id s.aK }=λ i=>if i=id then some (.map ⟨κ,ε,fj f k x,gH (f k) n⟩) else s.ai i:=by
  funext i;show ai ((id,_)::bB id s.aK) i=_;rw[dr,eB];by_cases hi:i=id
  .simp[hi]
  .simp[hi];rfl
 unfold Inv;rw[bS];obtain⟨q1,q2⟩:=MapKept.heap_set (o' := .map Xq Ps) k2;refine bf.Wh h id _ _ b aS (by rw[k1];rfl) ⟨λ hh=>(by cases hh),(λ e τ xs hh=>by cases hh),(λ hh=>by cases hh),λ _=>rfl⟩ rfl q2 rfl rfl rfl (by simp) ?_;exact⟨b,Xq,Ps,k1,q1,m2⟩
theorem Inv.append(hE:bl c.P c.E)(h:Inv c G s a w){T:TypeId}{τ:Ty}{bt e id d:Nat}(hT:ai c.E.ty T=some (.slice τ,bt,e)){xs ys:List τ.den}{y:AV}{v z:Value}(aS:s.ai id=some (.row e τ xs))
  (hv:VR c G s.ai w (.row id) v) (hz:VR c G s.ai w y z) (hy:jv (La s.ai) (.slice τ) y=some ys) (Cd:bn (xs.length+ys.length) bt) (ty:TypeId) :
  ∃ v' w' G',(Builtin.append_ #[T,T] ty #[v,z]).run c.P w = .ok v' w' /\
   Inv c G' { aA:=(s.bQ id).aA.set d (.row id),aK:=(id, .row e τ (xs++ys))::bB id (s.bQ id).aK } (a.put (some d) v') w':=by
 obtain⟨rfl,_,_⟩:=hv;have hzc:C1 c G s.ai w y z:=by
  refine hz.UP ?_;cases y with
  | aO u =>
   have e:=TV.aN hy;subst e;rfl
  | nil=>rfl
  | row i=>rfl
  | aC i=>rfl
  | _=>cases hy
 obtain⟨l,m1,m2,m3⟩:=h.aK id _ aS;obtain⟨v',w',news,k1,k2,k3,k4,k5,k6⟩:=NL (w:=w) (base:=0) hE hT m1 (b6L _) (a1h h.aK (FM λ _ _ h=>h) Yp hy hzc) Cd ty;have OO:=qW m1;have a9w:=qW k2;obtain⟨h1,h2,h3⟩:=h.clear id;have gG:∀ b,dD (G.η id)=some b->(c.w0.heap.size<=b\/c.X b)/\¬ G.S b/\b<w.heap.size:=λ b hb=>h.place id _ b aS hb;have hw:∀ b,b<w.heap.size->dD (G.η id)≠some b->w'.heap[b]?=w.heap[b]?:=λ b hb eu=>k3.block b hb (by rw[OO];exact λ e=>eu e.symm);have cb:∀ b,St c G.S b->w'.heap[b]?=w.heap[b]?:=λ b hb=>by
  refine hw b ?_ λ e=>?_
  .rcases hb with hb|hb
   .exact h.dx b hb
   .exact b6a hb.1 h.keep.size
  .obtain⟨q1,q2,q3⟩:=gG b e;rcases hb with hb|hb
   .exact q2 hb
   .exact q1.elim (λ q=>by omega) hb.2.1
 have b4a:∀ j τ xs b,s.ai j=some (.aC τ xs)->b∈G.φ j->w'.heap[b]?=w.heap[b]?:=λ j τ xs b hj hb =>
  hw b (h.aP.pl j τ xs b hj hb).2.2.1 ((h.aP.pl j τ xs b hj hb).2.2.2 id _ aS)
 have AI:∀ j o b,j≠id->s.ai j=some o->dD (G.η j)=some b->w'.heap[b]?=w.heap[b]?:=λ j o b hj ho hb=>by
  refine hw b (h.place j o b ho hb).2.2 λ e=>?_;exact hj (h.apart j id o _ b ho aS hb e)
 have h4:bf c ⟨G.S,G.η,G.φ⟩ (s.bQ id).sl s.aA.length (λ i=>if i=id then none else (s.bQ id).ai i) a w':=by
  refine h1.world (S':=G.S) ⟨k3.os,k3.tape,k3.output,k3.size,λ b hb hx=>hw b hb λ e=>hx (gG b e).1⟩ (λ _ h=>h) (λ _ _=>b7k) h1.sX (λ b hb=>b6a (h1.dx b hb) k3.size) cb ?_ (λ j τ xs b hj hb=>by
   by_cases tN:j=id
   .simp[tN] at hj
   .rw[b5I tN,dX] at hj;exact b4a j τ xs b (jl hj) hb)
  intro j o b hj hb;by_cases tN:j=id
  .simp[tN] at hj
  .rw[b5I tN,dX] at hj;simp only[b6C] at hj;obtain⟨o',cI,_⟩:=hj;exact AI j o' b tN cI hb
 have b1p:((xs++ys).length)=xs.length+ys.length:=by simp
 have h5:=bf.newObj h4 id (.row e τ (xs++ys)) v' (by simp) h2 (λ i p uQ=>by
  by_cases hi:i=id
  .simp[hi] at uQ
  .rw[if_neg hi] at uQ;exact h3 i p uQ) rfl ⟨l++news,by simpa using k2,by
    rw[b7t];exact dP.append _ _ (dP.keep (λ _ h=>h) (λ b hb=>cb b (.inl hb)) _ m2) (dP.keep (λ _ h=>h) (λ b hb=>cb b (.inl hb)) _ k5),by rw[b1p];exact k6⟩ rfl (.inl rfl) (λ b hb=>by
  have bp:=(k2.lt b (a9w.trans hb)).2;have wy:dD (G.η id)=some b\/b=w.heap.size:=by
   rw[<-a9w,] at hb;rcases k4 with q|q
   .left;rw[<-OO,<-q];exact hb
   .right;rw[q] at hb;exact (b7N hb).symm
  refine⟨?_,?_,bp,λ j p hjp OL=>?_,λ j j0 mA KH OL=>?_⟩
  .rcases wy with q|q
   .exact (gG b q).1
   .have:=h.keep.size;omega
  .rcases wy with q|q
   .exact (gG b q).2.1
   .intro hs;have:=h.dx b hs;omega
  .by_cases tN:j=id
   .simp[tN] at hjp
   .rw[b5I tN,dX] at hjp;simp only[b6C] at hjp;obtain⟨o',cI,_⟩:=hjp;rcases wy with q|q
    .exact tN (h.apart j id o' _ b cI aS OL q)
    .have:=(h.place j o' b cI OL).2.2;omega
  .by_cases tN:j=id
   .simp[tN] at KH
   .rw[b5I tN,dX] at KH;obtain⟨_,_,q3,q4⟩:=h.aP.pl j j0 mA b (jl KH) OL;rcases wy with q|q
    .exact q4 id _ aS q
    .omega)
 refine⟨v',w',⟨G.S,λ i=>if i=id then v' else G.η i,G.φ⟩,k1,?_⟩;unfold Inv;have bS:aq.ai { aA:=(s.bQ id).aA.set d (.row id),aK:=(id, .row e τ (xs++ys))::bB id (s.bQ id).aK }=λ i=>if i=id then some (.row e τ (xs++ys)) else (if i=id then none else (s.bQ id).ai i):=by
  funext i;show ai (_::bB id (s.bQ id).aK) i=_;rw[dr,eB];rfl
 have zp:aq.sl { aA:=(s.bQ id).aA.set d (.row id),aK:=(id, .row e τ (xs++ys))::bB id (s.bQ id).aK }=jD s.aA.length (s.bQ id).sl (some d) (.row id):=by
  have:=pJ (s.bQ id).aA d (.row id) ((id, .row e τ (xs++ys))::bB id (s.bQ id).aK);rw[show (s.bQ id).aA.length=s.aA.length from by simp[aq.bQ]] at this;exact this
 rw[zp,bS,show ({ aA:=(s.bQ id).aA.set d (.row id),aK:=(id, .row e τ (xs++ys))::bB id (s.bQ id).aK }:aq).aA.length=s.aA.length from by simp[aq.bQ]];refine bf.put h5 ⟨by simp,by simp[isRow],?_⟩;rcases k2.2 with ⟨rfl,_⟩|⟨g,cap,cur,rfl,_⟩
 .exact⟨_,_,_,rfl⟩
 .exact⟨_,_,_,rfl⟩
end
section
variable {c:Ctx} {G:Gh} {sl:Nat->AV} {n:Nat} {lk:Nat->Option av} {a:Act} {w w':World}
theorem bf.RL(h:bf c G sl n lk a w)(id:Nat)(τ:Ty)(xs:List τ.den)(η0:Value)(fp:List Nat)(aS:lk id=none)(hs:∀ i,(sl i).refs id=false)(ho:∀ i o,lk i=some o->o.refs id=false)
  (b3A:c.R id=none) (hT:iK w η0 τ xs fp) (c6:fp.Nodup) (Q2:∀ b∈fp,(c.w0.heap.size<=b\/c.X b)/\¬ G.S b/\b<w.heap.size/\(∀ i o,lk i=some o->dD (G.η i)≠some b)/\∀ j τ xs,lk j=some (.aC τ xs)->b∉G.φ j) :
  bf c ⟨G.S,λ i=>if i=id then η0 else G.η i,λ i=>if i=id then fp else G.φ i⟩ sl n (λ i=>if i=id then some (.aC τ xs) else lk i) a w:=by
 have fG:∀ j,j≠id->eC (lk j) ((λ i=>if i=id then some (av.aC τ xs) else lk i) j)/\(if j=id then η0 else G.η j)=G.η j:=λ j hj=>by simp only[b5I hj];exact⟨eC.refl _,af⟩
 have ES:dD η0=none:=by
  obtain⟨v,l,_,_,h1,_⟩:=hT;rw[h1];rfl
 have hblk:∀ i b,dD (if i=id then η0 else G.η i)=some b->i≠id/\dD (G.η i)=some b:=λ i b hb=>by
  by_cases hi:i=id
  .rw[b5Q hi,ES] at hb;cases hb
  .rw[b5I hi] at hb;exact⟨hi,hb⟩
 have hold:∀ j aU cK,(if j=id then some (av.aC τ xs) else lk j)=some (.aC aU cK)->j≠id->lk j=some (.aC aU cK):=λ j aU cK k hj=>by rwa [b5I hj] at k
 exact {
  defers:=h.defers,size:=h.size,keep:=h.keep,ju:=h.ju,eo:=h.eo,sX:=h.sX,dx:=h.dx
  aA:=λ i=>(h.aA i).mono (λ j hj=>fG j (λ e=>by subst e;rw[hs i] at hj;cases hj)) (λ _ h=>h) (λ _ _=>rfl)
  aK:=λ i o' cq=>by
   by_cases hi:i=id
   .subst hi;simp only[b7D,b5E] at cq;subst cq;trivial
   .simp only[b5I hi] at cq;exact (h.aK i o' cq).mono (by simp only[b5I hi]) (λ _ _=>rfl) (λ j hj=>fG j (λ e=>by subst e;rw[ho i o' cq] at hj;cases hj)) (λ _ h=>h) (λ _ _=>rfl)
  place:=λ i o' b cq hb=>by
   obtain⟨hi,hb⟩:=hblk i b hb;simp only[b5I hi] at cq;exact h.place i o' b cq hb
  apart:=λ i j o1 o2 b cq IV hb cw=>by
   obtain⟨hi,hb⟩:=hblk i b hb;obtain⟨hj,cw⟩:=hblk j b cw;simp only[b5I hi] at cq;simp only[b5I hj] at IV;exact h.apart i j o1 o2 b cq IV hb cw
  aP:={
   tr:=λ j aU cK k=>by
    by_cases hj:j=id
    .subst hj;simp only[b7D,b5E,av.aC.injEq] at k ⊢;obtain⟨rfl,k⟩:=k;have k:=b8K k;subst k;exact hT
    .simp only[b5I hj];exact h.aP.tr j aU cK (hold j aU cK k hj)
   nd:=λ j aU cK k=>by
    by_cases hj:j=id
    .simp only[b5Q hj];exact c6
    .simp only[b5I hj];exact h.aP.nd j aU cK (hold j aU cK k hj)
   pl:=λ j aU cK b k hb=>by
    have fin:(∀ i o,lk i=some o->dD (G.η i)≠some b)->∀ i o,(if i=id then some (av.aC τ xs) else lk i)=some o->dD (if i=id then η0 else G.η i)≠some b:=λ hh i o cq e=>by
     obtain⟨hi,e⟩:=hblk i b e;rw[b5I hi] at cq;exact hh i o cq e
    by_cases hj:j=id
    .simp only[b5Q hj] at hb;obtain⟨q1,q2,q3,q4,q5⟩:=Q2 b hb;exact⟨q1,q2,q3,fin q4⟩
    .simp only[b5I hj] at hb;obtain⟨q1,q2,q3,q4⟩:=h.aP.pl j aU cK b (hold j aU cK k hj) hb;exact⟨q1,q2,q3,fin q4⟩
   ap:=λ j j' Pl j0 SE mA b k k' hb cw=>by
    by_cases hj:j=id
    .by_cases EY:j'=id
     .rw[hj,EY]
     .simp only[b5Q hj] at hb;simp only[b5I EY] at cw;exact absurd cw ((Q2 b hb).2.2.2.2 j' j0 mA (hold j' j0 mA k' EY))
    .by_cases EY:j'=id
     .simp only[b5I hj] at hb;simp only[b5Q EY] at cw;exact absurd hb ((Q2 b cw).2.2.2.2 j Pl SE (hold j Pl SE k hj))
     .simp only[b5I hj] at hb;simp only[b5I EY] at cw;exact h.aP.ap j j' Pl j0 SE mA b (hold j Pl SE k hj) (hold j' j0 mA k' EY) hb cw }
  root:=λ j v hr ht=>by
   have eu:j≠id:=λ e=>by subst e;rw[b3A] at hr;cases hr
   simp only[b5I eu] at ht ⊢;exact h.root j v hr ht
  fZ:=h.fZ
  dj:=λ j v hr ht=>by
   by_cases hj:j=id
   .simp only[b5Q hj] at ht;cases ht
   .simp only[b5I hj] at ht ⊢;exact h.dj j v hr ht
  eQ:=h.eQ }
def uM(c:Ctx)(G:Gh)(lk:Nat->Option av)(w:World)(b:Nat):Prop :=
 (c.w0.heap.size<=b\/c.X b)/\¬ G.S b/\b<w.heap.size/\(∀ i o,lk i=some o->dD (G.η i)≠some b)/\∀ j τ xs,lk j=some (.aC τ xs)->b∉G.φ j
structure Hl(c:Ctx)(G:Gh)(lk lk':Nat->Option av)(w w':World)(pQ:Nat->Value)(od:Nat->List Nat)(I:Nat->Prop):Prop where
 same:∀ id,¬ I id->lk' id=lk id/\pQ id=G.η id/\od id=G.φ id
 aC:∀ id,I id->∃ τ xs cK v l l',lk id=some (.aC τ xs)/\lk' id=some (.aC τ cK)/\G.η id = .tuple (v::l).toArray/\pQ id = .tuple (v::l').toArray/\iK w' (pQ id) τ cK (od id)/\(od id).Nodup
 a9j:∀ id b,I id->b∈od id->(∃ dk,I dk/\b∈G.φ dk)\/uM c G lk w' b
 apart:∀ id dk b,I id->I dk->b∈od id->b∈od dk->id=dk
 heap:∀ b,b<w.heap.size->(∀ id,I id->b∉G.φ id)->w'.heap[b]?=w.heap[b]?
 os:w'.os=w.os
 tape:w'.tape=w.tape
 output:w'.output=w.output
 size:w.heap.size<=w'.heap.size
theorem uM.grow{lk:Nat->Option av}{b:Nat}(h:uM c G lk w b)(hs:w.heap.size<=w'.heap.size):uM c G lk w' b :=
 ⟨h.1,h.2.1,b6a h.2.2.1 hs,h.2.2.2⟩
theorem Hl.b1V{pQ:Nat->Value}{od:Nat->List Nat}{I:Nat->Prop}{lk':Nat->Option av}(t:Hl c G lk lk' w w' pQ od I)(id:Nat):eC (lk id) (lk' id):=by
 by_cases hi:I id
 .obtain⟨τ,xs,cK,_,_,_,h1,h2,_⟩:=t.aC id hi;rw[h1,h2];exact⟨λ h=>(by cases h),(λ e τ xs h=>by cases h),(λ _=>rfl),λ hh=>by cases hh⟩
 .rw[(t.same id hi).1];exact eC.refl _
theorem C1.eU{pQ:Nat->Value}{od:Nat->List Nat}{I:Nat->Prop}{lk':Nat->Option av}(t:Hl c G lk lk' w w' pQ od I)(cb:∀ b,St c G.S b->w'.heap[b]?=w.heap[b]?){u:AV}{x:Value}(hu:u.Lx=false)(h:C1 c G lk w u x):C1 c ⟨G.S,pQ,od⟩ lk' w' u x:=by
 have key:(∀ id,u.refs id=true->¬ I id)->C1 c ⟨G.S,pQ,od⟩ lk' w' u x:=λ hk=>h.mono (λ id aS=>⟨t.b1V id,(t.same id (hk id aS)).2.1⟩) (λ _ h=>h) cb;have noT:∀ id,cR (lk id)=false->¬ I id:=λ id hn hi=>by
  obtain⟨τ,xs,_,_,_,_,h1,_⟩:=t.aC id hi;rw[h1] at hn;cases hn
 cases u with
 | aC id =>
  obtain⟨h1,l,h2,h3⟩:=h;by_cases hi:I id
  .obtain⟨τ,xs,cK,v,l0,l',k1,k2,k3,k4,_⟩:=t.aC id hi;rw[k3] at h2;simp only[b7q,b9u,b5J] at h2;obtain⟨rfl,_⟩:=h2;exact⟨by rw[k2];rfl,l',k4,h3⟩
  .exact key λ j hj=>by
    have:=b5G (show Nat.beq id j=true from hj);subst this;exact hi
 | eJ id i off sz =>
  obtain⟨h1,b,n,cap,l,h2,h3⟩:=h;by_cases hi:I id
  .obtain⟨τ,xs,cK,v,l0,l',k1,k2,k3,k4,_⟩:=t.aC id hi;rw[k3] at h2;simp only[b7q,b9u,b5J] at h2;obtain⟨rfl,_⟩:=h2;exact⟨by rw[k2];rfl,b,n,cap,l',k4,h3⟩
  .exact key λ j hj=>by
    have:=b5G (show Nat.beq id j=true from hj);subst this;exact hi
 | sub id i off sz=>cases hu
 | ptr id off =>
  refine key λ j hj=>?_;have:=b5G (show Nat.beq id j=true from hj);subst this;obtain⟨_,_,_,h3⟩:=h;exact noT id (by match hl:lk id,h3 with|some (.box _),_=>rfl)
 | row id =>
  refine key λ j hj=>?_;have:=b5G (show Nat.beq id j=true from hj);subst this;exact noT id (rH h.2.1)
 | eA id i off =>
  refine key λ j hj=>?_;have:=b5G (show Nat.beq id j=true from hj);subst this;obtain⟨_,_,_,_,_,_,_,h3,_⟩:=h;exact noT id (by rw[h3];rfl)
 | mp id =>
  refine key λ j hj=>?_;have:=b5G (show Nat.beq id j=true from hj);subst this;exact noT id (HM h.2.1)
 | agg cs=>exact h.elim
 | hY cs=>exact h.elim
 | cO f cs=>exact h.elim
 | _=>exact key λ j hj=>by cases hj
theorem nZ:∀ {cs:List AV} {v:AV},AV.nY cs=false->v∈cs->v.Lx=false
 | u::r,v,h,hm=>by
  simp only[AV.nY] at h;split at h
  .cases h
  .rename_i hu;rcases b5X.1 hm with rfl|hm
   .exact hu
   .exact nZ h hm
theorem CR.eU{pQ:Nat->Value}{od:Nat->List Nat}{I:Nat->Prop}{lk':Nat->Option av}(t:Hl c G lk lk' w w' pQ od I)(cb:∀ b,St c G.S b->w'.heap[b]?=w.heap[b]?){u:AV}{x:Value}(hu:u.Lx=false)(h:CR c G lk w u x):CR c ⟨G.S,pQ,od⟩ lk' w' u x:=by
 cases u with
 | aO v=>exact dE.mono (G:=G) (G':=⟨G.S,pQ,od⟩) h (λ _ h=>h) (λ b hb=>cb b (.inl hb))
 | agg cs =>
  obtain⟨l,h1,h2⟩:=h;exact⟨l,h1,h2.imp λ u y hm hy=>hy.eU t cb (nZ (show AV.nY cs=false from hu) hm)⟩
 | _=>exact C1.Y4 (C1.eU t cb hu h)
theorem VR.eU{pQ:Nat->Value}{od:Nat->List Nat}{I:Nat->Prop}{lk':Nat->Option av}(t:Hl c G lk lk' w w' pQ od I)(cb:∀ b,St c G.S b->w'.heap[b]?=w.heap[b]?){u:AV}{x:Value}(hu:u.Lx=false)(h:VR c G lk w u x):VR c ⟨G.S,pQ,od⟩ lk' w' u x:=by
 cases u with
 | aO v=>exact dE.mono (G:=G) (G':=⟨G.S,pQ,od⟩) h (λ _ h=>h) (λ b hb=>cb b (.inl hb))
 | agg cs =>
  obtain⟨l,h1,h2⟩:=h;exact⟨l,h1,h2.imp λ u y hm hy=>hy.eU t cb (nZ (show AV.nY cs=false from hu) hm)⟩
 | hY vs =>
  obtain⟨l,h1,h2⟩:=h;refine⟨l,h1,h2.imp λ u y hm hy=>?_⟩;have hu':=nZ (show AV.nY vs=false from hu) hm;cases u with
  | any=>trivial
  | aO v=>exact dE.mono (G:=G) (G':=⟨G.S,pQ,od⟩) hy (λ _ h=>h) (λ b hb=>cb b (.inl hb))
  | aC i=>exact C1.eU (u := .aC i) t cb rfl hy
  | cT v=>exact C1.eU (u := .cT v) t cb rfl hy
  | agg cs =>
   obtain⟨l,h1,h2⟩:=hy;exact⟨l,h1,h2.imp λ u y hm hy=>hy.eU t cb (nZ (show AV.nY cs=false from hu') hm)⟩
  | _=>exact hy.elim
 | any=>trivial
 | dY=>exact h
 | nil=>exact (C1.eU (u := .nil) t cb hu h).fO
 | cT u=>exact (C1.eU (u := .cT u) t cb hu h).fO
 | ptr i o=>exact (C1.eU (u := .ptr i o) t cb hu h).fO
 | row i=>exact (C1.eU (u := .row i) t cb hu h).fO
 | eA i k o=>exact (C1.eU (u := .eA i k o) t cb hu h).fO
 | fn f=>exact (C1.eU (u := .fn f) t cb hu h).fO
 | aC i=>exact (C1.eU (u := .aC i) t cb hu h).fO
 | sub i k o z=>cases hu
 | mp i=>exact (C1.eU (u := .mp i) t cb hu h).fO
 | eJ i k o z=>exact (C1.eU (u := .eJ i k o z) t cb hu h).fO
 | il v=>exact (C1.eU (u := .il v) t cb hu h).fO
 | cO f cs =>
  obtain⟨l,h1,h2⟩:=h;exact⟨l,h1,h2.imp λ u y hm hy=>hy.eU t cb (nZ (show AV.nY cs=false from hu) hm)⟩
theorem bf.eU(h:bf c G sl n lk a w){pQ:Nat->Value}{od:Nat->List Nat}{I:Nat->Prop}{lk':Nat->Option av}(t:Hl c G lk lk' w w' pQ od I)(hs:∀ i,(sl i).Lx=false)(Ca:∀ id cs,lk id=some (.box cs)->AV.nY cs=false) :
  bf c ⟨G.S,pQ,od⟩ sl n lk' a w':=by
 have pl:∀ id b,I id->b∈G.φ id->(c.w0.heap.size<=b\/c.X b)/\¬ G.S b/\b<w.heap.size/\∀ i o,lk i=some o->dD (G.η i)≠some b:=λ id b hi hb=>by
  obtain⟨τ,xs,_,_,_,_,h1,_⟩:=t.aC id hi;exact h.aP.pl id τ xs b h1 hb
 have a1I:∀ b,b<w.heap.size->((c.w0.heap.size<=b\/c.X b)->False)->w'.heap[b]?=w.heap[b]?:=λ b hb hn=>t.heap b hb λ id hi im=>hn (pl id b hi im).1;have cb:∀ b,St c G.S b->w'.heap[b]?=w.heap[b]?:=λ b hb=>by
  rcases hb with hb|hb
  .exact t.heap b (h.dx b hb) λ id hi im=>(pl id b hi im).2.1 hb
  .exact a1I b (b6a hb.1 h.keep.size) λ hn=>hn.elim (λ q=>by omega) hb.2.1
 have hblk:∀ id o b,lk id=some o->dD (G.η id)=some b->w'.heap[b]?=w.heap[b]?:=λ id o b ho hb =>
  t.heap b (h.place id o b ho hb).2.2 λ j hj im=>(pl j b hj im).2.2.2 id o ho hb
 have e9:∀ id b,dD (pQ id)=some b->¬ I id/\dD (G.η id)=some b:=λ id b hb=>by
  by_cases hi:I id
  .obtain⟨_,_,_,_,_,_,_,_,_,h4,_⟩:=t.aC id hi;rw[h4] at hb;cases hb
  .rw[(t.same id hi).2.1] at hb;exact⟨hi,hb⟩
 have mX:∀ id τ xs b,lk' id=some (.aC τ xs)->b∈od id->(∃ dk aU cK,lk dk=some (.aC aU cK)/\b∈G.φ dk/\(¬ I id->dk=id)/\(I id->I dk))\/(I id/\uM c G lk w' b):=λ id τ xs b aS hb=>by
  by_cases hi:I id
  .rcases t.a9j id b hi hb with ⟨dk,kg,cw⟩|VS
   .obtain⟨aU,cK,_,_,_,_,h1,_⟩:=t.aC dk kg;exact .inl ⟨dk,aU,cK,h1,cw,λ hn=>absurd hi hn,λ _=>kg⟩
   .exact .inr ⟨hi,VS⟩
  .obtain⟨h1,h2,h3⟩:=t.same id hi;rw[h1] at aS;rw[h3] at hb;exact .inl ⟨id,τ,xs,aS,hb,λ _=>rfl,λ kg=>absurd kg hi⟩
 exact {
  defers:=h.defers,size:=h.size
  keep:=h.keep.trans (Y:=λ b=>c.w0.heap.size<=b\/c.X b) ⟨t.os,t.tape,t.output,t.size,λ b hb hn=>a1I b hb hn⟩ λ i hi hy=>hy.elim (λ q=>by omega) id
  ju:=h.ju,eo:=h.eo,sX:=h.sX
  dx:=λ b hb=>b6a (h.dx b hb) t.size
  aA:=λ i=>(h.aA i).eU t cb (hs i)
  aK:=λ id o aS=>by
   by_cases hi:I id
   .obtain⟨τ,xs,cK,_,_,_,_,h2,_⟩:=t.aC id hi;rw[h2] at aS;simp only[b5E] at aS;subst aS;trivial
   .obtain⟨h1,h2,h3⟩:=t.same id hi;rw[h1] at aS;have ho:=h.aK id o aS;cases o with
    | box cs =>
     obtain⟨b,l,ty,k1,k2,k3⟩:=ho;refine⟨b,l,ty,h2.trans k1,?_,k3.imp λ u y hm hy=>hy.eU t cb (nZ (Ca id cs aS) hm)⟩;rw[hblk id _ b aS (by rw[k1];rfl)];exact k2
    | row e τ xs =>
     obtain⟨l,k1,k2,k3⟩:=ho;refine⟨l,?_,dP.keep (λ _ h=>h) (λ b hb=>cb b (.inl hb)) _ k2,k3⟩;rw[show (⟨G.S,pQ,od⟩:Gh).η id=G.η id from h2];exact HT k1 λ b hb=>hblk id _ b aS hb
    | aC τ xs=>trivial
    | map m =>
     obtain⟨b,es,clock,k1,k2,k3⟩:=ho;exact⟨b,es,clock,h2.trans k1,(hblk id _ b aS (by rw[k1];rfl)).trans k2,k3⟩
  place:=λ id o b aS hb=>by
   obtain⟨hi,hb⟩:=e9 id b hb;rw[(t.same id hi).1] at aS;obtain⟨q1,q2,q3⟩:=h.place id o b aS hb;exact⟨q1,q2,b6a q3 t.size⟩
  apart:=λ id dk o o' b aS EX hb cw=>by
   obtain⟨hi,hb⟩:=e9 id b hb;obtain⟨kg,cw⟩:=e9 dk b cw;rw[(t.same id hi).1] at aS;rw[(t.same dk kg).1] at EX;exact h.apart id dk o o' b aS EX hb cw
  aP:={
   tr:=λ id τ xs aS=>by
    by_cases hi:I id
    .obtain⟨τ0,xs0,cK,v,l,l',h1,h2,h3,h4,h5,h6⟩:=t.aC id hi;rw[h2] at aS;simp only[b5E,av.aC.injEq] at aS;obtain⟨rfl,aS⟩:=aS;have aS:=b8K aS;subst aS;exact h5
    .obtain⟨h1,h2,h3⟩:=t.same id hi;rw[h1] at aS;rw[show (⟨G.S,pQ,od⟩:Gh).η id=G.η id from h2,show (⟨G.S,pQ,od⟩:Gh).φ id=G.φ id from h3];exact (h.aP.tr id τ xs aS).keep λ b hb=>t.heap b (h.aP.pl id τ xs b aS hb).2.2.1 λ j hj im=>by
      obtain⟨aU,cK,_,_,_,_,k1,_⟩:=t.aC j hj;have:=h.aP.ap id j τ aU xs cK b aS k1 hb im;subst this;exact hi hj
   nd:=λ id τ xs aS=>by
    by_cases hi:I id
    .obtain⟨_,_,_,_,_,_,_,_,_,_,_,h6⟩:=t.aC id hi;exact h6
    .obtain⟨h1,h2,h3⟩:=t.same id hi;rw[h1] at aS;rw[show (⟨G.S,pQ,od⟩:Gh).φ id=G.φ id from h3];exact h.aP.nd id τ xs aS
   pl:=λ id τ xs b aS hb=>by
    have hq:(c.w0.heap.size<=b\/c.X b)/\¬ G.S b/\b<w'.heap.size/\∀ i o,lk i=some o->dD (G.η i)≠some b:=by
     rcases mX id τ xs b aS hb with ⟨dk,aU,cK,k1,k2,_⟩|⟨_,f1,f2,f3,f4,_⟩
     .obtain⟨f1,f2,f3,f4⟩:=h.aP.pl dk aU cK b k1 k2;exact⟨f1,f2,b6a f3 t.size,f4⟩
     .exact⟨f1,f2,f3,f4⟩
    obtain⟨q1,q2,q3,q4⟩:=hq;refine⟨q1,q2,q3,λ i o cq tJ=>?_⟩;obtain⟨hi,tJ⟩:=e9 i b tJ;rw[(t.same i hi).1] at cq;exact q4 i o cq tJ
   ap:=λ id dk τ aU xs cK b aS EX hb cw=>by
    by_cases hi:I id
    .by_cases kg:I dk
     .exact t.apart id dk b hi kg hb cw
     .rcases mX dk aU cK b EX cw with ⟨j',j0,mA,m1,m2,m3,_⟩|⟨q,_⟩
      .rcases mX id τ xs b aS hb with ⟨j,Pl,SE,k1,k2,_,k4⟩|⟨_,VS⟩
       .have:=h.aP.ap j j' _ _ _ _ b k1 m1 k2 m2;have e:=m3 kg;subst e this;exact absurd (k4 hi) kg
       .exact absurd m2 (VS.2.2.2.2 j' j0 mA m1)
      .exact absurd q kg
    .by_cases kg:I dk
     .rcases mX id τ xs b aS hb with ⟨j,Pl,SE,k1,k2,k3,_⟩|⟨q,_⟩
      .rcases mX dk aU cK b EX cw with ⟨j',j0,mA,m1,m2,_,m4⟩|⟨_,VS⟩
       .have:=h.aP.ap j j' _ _ _ _ b k1 m1 k2 m2;have e:=k3 hi;subst e this;exact absurd (m4 kg) hi
       .exact absurd k2 (VS.2.2.2.2 j Pl SE k1)
      .exact absurd q hi
     .rcases mX id τ xs b aS hb with ⟨j,Pl,SE,k1,k2,k3,_⟩|⟨q,_⟩
      .rcases mX dk aU cK b EX cw with ⟨j',j0,mA,m1,m2,m3,_⟩|⟨q,_⟩
       .have:=h.aP.ap j j' _ _ _ _ b k1 m1 k2 m2;exact (k3 hi).symm.trans (this.trans (m3 kg))
       .exact absurd q kg
      .exact absurd q hi }
  root:=λ id v hr ht=>by
   by_cases hi:I id
   .obtain⟨τ,xs,cK,v0,l,l',k1,k2,k3,k4,_⟩:=t.aC id hi;obtain⟨l2,h2⟩:=h.root id v hr (by rw[k1];rfl);rw[k3] at h2;simp only[b7q,b9u,b5J] at h2;obtain⟨rfl,_⟩:=h2;exact⟨l',k4⟩
   .obtain⟨h1,h2,_⟩:=t.same id hi;rw[h1] at ht;rw[show (⟨G.S,pQ,od⟩:Gh).η id=G.η id from h2];exact h.root id v hr ht
  fZ:=h.fZ
  dj:=λ id v hr ht=>by
   by_cases hi:I id
   .obtain⟨τ,xs,cK,v0,l,l',k1,k2,k3,k4,_⟩:=t.aC id hi;rw[k2] at ht;cases ht
   .obtain⟨h1,h2,_⟩:=t.same id hi;rw[h1] at ht;rw[show (⟨G.S,pQ,od⟩:Gh).η id=G.η id from h2];exact h.dj id v hr ht
  eQ:=h.eQ }
theorem bf.RP(h:bf c G sl n lk a w){d:Nat}(hd:lk d=none):(∀ i,(sl i).refs d=false)/\∀ i o,lk i=some o->o.refs d=false:=by
 have c1:∀ (v:AV) (x:Value),C1 c G lk w v x->v.refs d=true->False:=λ v x hv hr=>by
  have hU:∀ i,Nat.beq i d=true->fR (lk i)=false/\isRow (lk i)=false/\cR (lk i)=false/\∀ e τ xs,lk i≠some (.row e τ xs):=λ i hi=>by
   have:=b5G hi;subst this;rw[hd];exact⟨rfl,rfl,rfl,λ _ _ _=>by simp⟩
  cases v with
  | ptr i o=>obtain⟨_,_,_,h3⟩:=hv;rw[(hU i hr).1] at h3;cases h3
  | row i=>obtain⟨_,h3,_⟩:=hv;rw[(hU i hr).2.1] at h3;cases h3
  | eA i k o=>obtain⟨_,_,_,_,_,_,_,h3,_⟩:=hv;exact (hU i hr).2.2.2 _ _ _ h3
  | aC i=>have h3:=hv.1;rw[(hU i hr).2.2.1] at h3;cases h3
  | sub i k o z=>have h3:=hv.1;rw[(hU i hr).2.2.1] at h3;cases h3
  | eJ i k o z=>have h3:=hv.1;rw[(hU i hr).2.2.1] at h3;cases h3
  | mp i =>
   have h3:=hv.2.1;have:=b5G (show Nat.beq i d=true from hr);subst this;rw[hd] at h3;cases h3
  | agg cs=>exact hv
  | hY cs=>exact hv
  | cO f cs=>exact hv
  | _=>cases hr
 have cL:∀ (cs:List AV) (l:List Value),aM (C1 c G lk w) cs l->AV.fT d cs=true->False:=by
  intro cs;induction cs with
  | nil=>intro l _ hr;cases hr
  | cons v r ih =>
   intro l hl hr;match l,hl with
   | x::l,hl =>
    simp only[AV.fT] at hr;split at hr
    .rename_i hv;exact c1 v x hl.1 hv
    .exact ih l hl.2 hr
 refine⟨λ i=>?_,λ i o ho=>?_⟩
 .cases hr:(
        sl i).refs d with
  | false=>rfl
  | true =>
   have hv:=h.aA i;revert hv hr;generalize a.tmps.getD i undef=x;cases sl i with
   | aO u=>intro hr;cases hr
   | agg cs =>
    intro hr hv;obtain⟨l,_,hl⟩:=hv;exact (cL cs l hl hr).elim
   | hY vs =>
    intro hr hv;obtain⟨l,_,hl⟩:=hv;have:∀ (
         vs:List AV) (l:List Value),aM (TR c G lk w) vs l->AV.fT d vs=true->False:=by
     intro vs;induction vs with
     | nil=>intro l _ hr;cases hr
     | cons v r ih =>
      intro l hl hr;match l,hl with
      | x::l,hl =>
       simp only[AV.fT] at hr;split at hr
       .rename_i hv;have h1:=hl.1;cases v with
        | aC i=>exact c1 (.aC i) x h1 hv
        | agg cs =>
         obtain⟨l',_,pd⟩:=h1;exact cL cs l' pd hv
        | aO u=>cases hv
        | cT u=>cases hv
        | any=>cases hv
        | _=>exact h1
       .exact ih l hl.2 hr
    exact (this vs l hl hr).elim
   | cO f vs =>
    intro hr hv;obtain⟨l,_,hl⟩:=hv;have:∀ (vs:List AV) (l:List Value),aM (CR c G lk w) vs l->AV.fT d vs=true->False:=by
     intro vs;induction vs with
     | nil=>intro l _ hr;cases hr
     | cons v r ih =>
      intro l hl hr;match l,hl with
      | x::l,hl =>
       simp only[AV.fT] at hr;split at hr
       .rename_i hv;rcases hl.1.inv with ⟨u,rfl,_⟩|⟨cs,l',rfl,_,pd⟩|h1
        .cases hv
        .exact cL cs l' pd hv
        .exact c1 _ x h1 hv
       .exact ih l hl.2 hr
    exact (this vs l hl hr).elim
   | any=>intro hr;cases hr
   | dY=>intro hr;cases hr
   | nil=>intro hr;cases hr
   | cT u=>intro hr;cases hr
   | fn f=>intro hr;cases hr
   | il v=>intro hr;cases hr
   | ptr i o=>intro hr hv;exact (c1 (.ptr i o) x hv hr).elim
   | row i=>intro hr hv;exact (c1 (.row i) x hv hr).elim
   | eA i k o=>intro hr hv;exact (c1 (.eA i k o) x hv hr).elim
   | aC i=>intro hr hv;exact (c1 (.aC i) x hv hr).elim
   | sub i k o z=>intro hr hv;exact (c1 (.sub i k o z) x hv hr).elim
   | eJ i k o z=>intro hr hv;exact (c1 (.eJ i k o z) x hv hr).elim
   | mp i=>intro hr hv;exact (c1 (.mp i) x hv hr).elim
 .cases hr:o.refs d with
  | false=>rfl
  | true =>
   cases o with
   | row e τ xs=>cases hr
   | aC τ xs=>cases hr
   | map m=>cases hr
   | box cs =>
    obtain⟨b,l,t,_,_,k3⟩:=h.aK i _ ho;exact (cL cs l k3 hr).elim
structure Ext(G:Gh)(lk:Nat->Option av)(G':Gh)(lk':Nat->Option av):Prop where
 S:G'.S=G.S
 old:∀ i o,lk i=some o->lk' i=some o/\G'.η i=G.η i/\G'.φ i=G.φ i
theorem Ext.refl(G:Gh)(lk:Nat->Option av):Ext G lk G lk:=⟨rfl,λ _ _ h=>⟨h,rfl,rfl⟩⟩
theorem Ext.trans{G1 G2 G3:Gh}{l1 l2 l3:Nat->Option av}(h:Ext G1 l1 G2 l2)(k:Ext G2 l2 G3 l3):Ext G1 l1 G3 l3 :=
 ⟨k.S.trans h.S,λ i o ho=>by
  obtain⟨a1,a2,a3⟩:=h.old i o ho;obtain⟨b1,b2,b3⟩:=k.old i o a1;exact⟨b1,b2.trans a2,b3.trans a3⟩⟩
theorem C1.ext{G':Gh}{lk':Nat->Option av}(e:Ext G lk G' lk'){v:AV}{x:Value}(h:C1 c G lk w v x):C1 c G' lk' w v x:=by
 refine h.mono (λ id aS=>?_) (λ b hb=>by rw[e.S];exact hb) (λ _ _=>rfl);have eu:lk id≠none:=λ hn=>by
  cases v with
  | ptr i o=>have:=b5G (show Nat.beq i id=true from aS);subst this;obtain⟨_,_,_,h3⟩:=h;rw[hn] at h3;cases h3
  | row i=>have:=b5G (show Nat.beq i id=true from aS);subst this;obtain⟨_,h3,_⟩:=h;rw[hn] at h3;cases h3
  | eA i k o=>have:=b5G (show Nat.beq i id=true from aS);subst this;obtain⟨_,_,_,_,_,_,_,h3,_⟩:=h;rw[hn] at h3;cases h3
  | aC i=>have:=b5G (show Nat.beq i id=true from aS);subst this;have h3:=h.1;rw[hn] at h3;cases h3
  | sub i k o z=>have:=b5G (show Nat.beq i id=true from aS);subst this;have h3:=h.1;rw[hn] at h3;cases h3
  | eJ i k o z=>have:=b5G (show Nat.beq i id=true from aS);subst this;have h3:=h.1;rw[hn] at h3;cases h3
  | mp i=>have:=b5G (show Nat.beq i id=true from aS);subst this;have h3:=h.2.1;rw[hn] at h3;cases h3
  | agg cs=>exact h
  | hY cs=>exact h
  | cO f cs=>exact h
  | _=>cases aS
 match hl:lk id,eu with
 | some o,_ =>
  obtain⟨h1,h2,_⟩:=e.old id o hl;rw[h1];exact⟨eC.refl _,h2⟩
def Fr(c:Ctx)(G:Gh)(lk:Nat->Option av)(w:World)(fp:List Nat):Prop :=
 ∀ b∈fp,(c.w0.heap.size<=b\/c.X b)/\¬ G.S b/\b<w.heap.size/\(∀ i o,lk i=some o->dD (G.η i)≠some b)/\∀ j τ xs,lk j=some (.aC τ xs)->b∉G.φ j
def gf(news:List (Nat×av))(lk:Nat->Option av)(i:Nat):Option av:=match ai news i with
 | some o=>some o
 | none=>lk i
theorem a5h(lk:Nat->Option av):gf [] lk=lk:=rfl
theorem a2X(id:Nat)(o:av)(r:List (Nat×av))(lk:Nat->Option av)(hr:ai r id=none):gf r (λ i=>if i=id then some o else lk i)=gf ((id,o)::r) lk:=by
 funext i;unfold gf;rw[dr];by_cases hi:i=id
 .subst hi;rw[hr];simp
 .simp[hi]
theorem Oa:∀ (r r':List (Nat×av)) (lk:Nat->Option av),gf (r++r') lk=gf r (gf r' lk)
 | [],r',lk=>rfl
 | (id,o)::r,r',lk=>by
  funext i;have:=congrFun (Oa r r' lk) i;unfold gf at this ⊢;rw[List.cons_append,dr,dr];by_cases hi:i=id
  .simp[hi]
  .simpa [hi] using this
theorem iK.a0r{τ:Ty}{xs:List τ.den}{x:Value}{fp:List Nat}(h:Ow w (.slice τ.size (xs.map τ.aL)) [x] fp):∃ l,iK w (.tuple (x::l).toArray) τ xs fp/\∃ a n m,x = .slice a n m:=by
 obtain⟨a',cap,h1,h2,h3,h4,h5⟩:=h;simp only[b5J,b5W,b6G] at h1 h2 h4;subst h1;rcases h5 with ⟨hx,ha,hf⟩|⟨b,f,l,t,ha,hf,k1,k2⟩
 .refine⟨[],⟨_,[],a',cap,rfl,rfl,h2,h3,h4, .inl ⟨?_,ha,hf⟩⟩,_,_,_,rfl⟩;simpa using hx
 .exact⟨l,⟨_,l,a',cap,rfl,rfl,h2,h3,h4, .inr ⟨b,f,t,ha,hf,k1,k2⟩⟩,_,_,_,rfl⟩
theorem Ow.a0s{η:Value}{τ:Ty}{xs:List τ.den}{fp:List Nat}(h:iK w η τ xs fp){x:Value}{l:List Value}(hx:η = .tuple (x::l).toArray):Ow w (.slice τ.size (xs.map τ.aL)) [x] fp:=by
 obtain⟨v,l',a',cap,h1,h2,h3,h4,h5,h6⟩:=h;rw[hx] at h1;simp only[Value.tuple.injEq,List.toArray_inj,List.cons.injEq] at h1;obtain⟨rfl,rfl⟩:=h1;refine⟨a',cap,by simp[h2],by simpa using h3,h4,by simpa using h5,?_⟩;rcases h6 with ⟨rfl,q1,q2⟩|⟨b,f,t,q1,q2,q3,q4⟩
 .exact .inl ⟨rfl,q1,q2⟩
 .exact .inr ⟨b,f,l,t,q1,q2,q3,q4⟩
theorem fM:∀ {l:List (Nat×av)} {id:Nat} {o:av},ai l id=some o->(id,o)∈l
 | (k,p)::r,id,o,h=>by
  simp only[ai] at h;split at h
  .rename_i hk;have hk:=b5G hk;simp only[b5E] at h;subst hk h;simp
  .exact b6U _ (fM h)
theorem bf.a3D(h:bf c G sl n lk a w){u:TV}(hu:u.τ.agg=false){x:Value}{fp:List Nat}{id:Nat}(hO:Ow w u.aL [x] fp)(c6:fp.Nodup)(hF:Fr c G lk w fp)(aS:∀ p∈fC id u,lk p.1=none)(hR:c.R id=none) :
  ∃ G',bf c G' sl n (gf (fC id u) lk) a w/\Ext G lk G' (gf (fC id u) lk)/\C1 c G' (gf (fC id u) lk) w (kk id u) x /\
   ∀ fq,Fr c G lk w fq->(∀ b∈fq,b∉fp)->Fr c G' (gf (fC id u) lk) w fq:=by
 have sR:(fC id u=[]/\kk id u = .aO u)->∃ G',bf c G' sl n (gf (fC id u) lk) a w/\Ext G lk G' (gf (fC id u) lk)/\C1 c G' (gf (fC id u) lk) w (kk id u) x /\
   ∀ fq,Fr c G lk w fq->(∀ b∈fq,b∉fp)->Fr c G' (gf (fC id u) lk) w fq:=by
  rintro⟨e1,e2⟩;rw[e1,e2];exact⟨G,h,Ext.refl _ _,⟨hu,hO.rd (S:=λ b=>b∈fp) _ (λ _ h=>h) |> λ hr=>by
   obtain⟨τ,y⟩:=u;cases τ with
   | slice t=>simp[fC] at e1
   | mv t=>simp[kk] at e2
   | ptr=>exact hr
   | st s=>cases hu
   | int k=>exact hr
   | bool=>exact hr
   | str=>exact hr⟩,λ fq hq _=>hq⟩
 obtain⟨τ,y⟩:=u;cases τ with
 | mv t=>exact⟨G,h,Ext.refl _ _,af,λ fq hq _=>hq⟩
 | slice t =>
  obtain⟨l,hT,zp⟩:=iK.a0r (τ:=t) (xs:=y) hO;have hn:lk id=none:=aS (id, .aC t y) (by simp[fC]);obtain⟨OP,MB⟩:=h.RP hn;have hI:=h.RL id t y _ fp hn OP MB hR hT c6 hF;have bS:gf (fC id ⟨.slice t,y⟩) lk=λ i=>if i=id then some (.aC t y) else lk i:=by
   rw[<-a5h (λ i=>if i=id then some (av.aC t y) else lk i),a2X id _ [] lk rfl];rfl
  rw[bS];refine⟨_,hI,⟨rfl,λ i o ho=>?_⟩,⟨by simp[cR],l,by simp,zp⟩,λ fq hq ya b hb=>?_⟩
  .have hi:i≠id:=λ e=>by subst e;rw[hn] at ho;cases ho
   simp[hi,ho]
  .obtain⟨q1,q2,q3,q4,q5⟩:=hq b hb;refine⟨q1,q2,q3,λ i o cq e=>?_,λ j τ xs hj=>?_⟩
   .by_cases hi:i=id
    .simp only[b5Q hi] at e;cases e
    .simp only[b5I hi] at cq e;exact q4 i o cq e
   .by_cases hi:j=id
    .simp only[b5Q hi];exact ya b hb
    .simp only[b5I hi] at hj ⊢;exact q5 j τ xs hj
 | st s=>cases hu
 | ptr=>exact sR ⟨rfl,rfl⟩
 | int k=>exact sR ⟨rfl,rfl⟩
 | bool=>exact sR ⟨rfl,rfl⟩
 | str=>exact sR ⟨rfl,rfl⟩
theorem Oc{id:Nat}{u:TV}{p:Nat×av}(h:p∈fC id u):p.1=id:=by
 obtain⟨τ,y⟩:=u;cases τ<;>simp[fC] at h;rw[h]
theorem Rw{r:List (Nat×av)}{i:Nat}(h:∀ p∈r,p.1≠i):ai r i=none:=by
 induction r with
 | nil=>rfl
 | cons p r ih =>
  obtain⟨k,o⟩:=p;rw[dr,b5I (λ e=>h (k,o) (by simp) e.symm)];exact ih λ q hq=>h q (by simp[hq])
theorem bf.zT:∀ {us:List TV} {cs:List Value} {fp:List Nat} {id:Nat} {G:Gh} {lk:Nat->Option av},bf c G sl n lk a w->(∀ u∈us,u.τ.agg=false)->cW w (us.map TV.aL) cs fp->fp.Nodup->Fr c G lk w fp ->
  (∀ p∈bJ id us,lk p.1=none)->((bJ id us).map (·.1)).Nodup->(∀ j,id<=j->c.R j=none) ->
  ∃ G' lk',(∀ i,lk' i=gf (bJ id us) lk i)/\bf c G' sl n lk' a w/\Ext G lk G' lk'/\aM (C1 c G' lk' w) (bW id us) cs/\∀ fq,Fr c G lk w fq->(∀ b∈fq,b∉fp)->Fr c G' lk' w fq
 | [],cs,fp,id,G,lk,h,_,hO,_,_,_,_,_=>by
  obtain⟨rfl,rfl⟩:=hO;exact⟨G,lk,λ _=>rfl,h,Ext.refl _ _,af,λ fq hq _=>hq⟩
 | u::us,cs,fp,id,G,lk,h,hu,hO,c6,hF,aS,pY,hR=>by
  obtain⟨v,r,f1,f2,rfl,rfl,h1,h2⟩:=hO;rw[b6l] at c6;obtain⟨nd1,nd2,nd3⟩:=c6;simp only[bJ,b7t] at pY;rw[b6l] at pY;obtain⟨d1,d2,d3⟩:=pY;obtain⟨G1,i1,e1,c1,ZP⟩:=h.a3D (id:=id) (hu u (by simp)) h1 nd1 (λ b hb=>hF b (by simp[hb])) (λ p hp=>aS p (by simp[bJ,hp])) (hR id (b6k _));have eu:∀ p∈bJ (id+1) us,ai (fC id u) p.1=none:=λ p hp=>Rw λ q hq e=>d3 q.1 (b5N.2 ⟨q,hq,rfl⟩) p.1 (b5N.2 ⟨p,hp,rfl⟩) e;obtain⟨G2,lk2,k1,k2,k3,k4,k5⟩:=bf.zT (us:=us) (cs:=r) (fp:=f2) (id:=id+1) i1 (λ u hu'=>hu u (by simp[hu'])) h2 nd2
   (ZP f2 (λ b hb=>hF b (by simp[hb])) (λ b hb cw=>nd3 b cw b hb rfl)) (λ p hp=>by unfold gf;rw[eu p hp];exact aS p (by simp[bJ,hp])) d2 (λ j hj=>hR j (by omega))
  refine⟨G2,lk2,λ i=>?_,k2,e1.trans k3,⟨c1.ext k3,k4⟩,λ fq hq ya=>k5 fq (ZP fq hq λ b hb cw=>ya b hb (by simp[cw])) λ b hb cw=>ya b hb (by simp[cw])⟩;rw[k1 i];simp only[bJ];unfold gf;have b3D:∀ (r r':List (Nat×av)) (j:Nat),ai (r++r') j=match ai r j with|some o=>some o|none=>ai r' j:=by
   intro r r' j;induction r with
   | nil=>rfl
   | cons p r ih =>
    obtain⟨k,o⟩:=p;rw[b6x,dr,dr];by_cases hj:j=k
    .simp[hj]
    .simpa [hj] using ih
  rw[b3D];cases hx:ai (bJ (id+1) us) i with
  | none=>simp only[];cases ai (fC id u) i<;>rfl
  | some o =>
   simp only[];have hm:=fM hx;rw[eu _ hm]
theorem P3(s:aH)(y:s.den):∀ u∈s.cells y,u.τ.agg=false:=λ u hu=>by
 have:=aH.oA s y u hu;obtain⟨aU,z'⟩:=u;cases aU with
 | st s'=>simp[TV.aL,Ty.aL,aH.bT,D.leaf] at this
 | _=>rfl
theorem TR.ext{G':Gh}{lk':Nat->Option av}(e:Ext G lk G' lk'){v:AV}{x:Value}(h:TR c G lk w v x):TR c G' lk' w v x:=by
 cases v with
 | any=>trivial
 | aO v=>exact dE.mono (G:=G) (G':=G') h (λ b hb=>by rw[e.S];exact hb) (λ _ _=>rfl)
 | aC i=>exact C1.ext (c:=c) (w:=w) (v := .aC i) e h
 | cT v=>exact C1.ext (c:=c) (w:=w) (v := .cT v) e h
 | agg cs =>
  obtain⟨l,h1,h2⟩:=h;exact⟨l,h1,h2.imp λ u y _ hy=>hy.ext e⟩
 | _=>exact h.elim
theorem TR.fO{v:AV}{x:Value}(h:TR c G lk w v x):VR c G lk w v x:=by
 cases v with
 | any=>trivial
 | aO v=>exact h
 | aC i=>exact h
 | cT v=>exact h
 | agg cs=>exact h
 | _=>exact h.elim
theorem C1.b4z{id:Nat}{u:TV}{x:Value}(h:C1 c G lk w (kk id u) x)(hu:u.τ.agg=false):TR c G lk w (kk id u) x:=by
 obtain⟨τ,y⟩:=u;cases τ with
 | slice t=>exact h
 | mv t=>exact h
 | ptr=>exact h.2
 | st s=>cases hu
 | int k=>exact h.2
 | bool=>exact h.2
 | str=>exact h.2
theorem bf.Pn{v:TV}{x:Value}{fp:List Nat}{id:Nat}{G:Gh}{lk:Nat->Option av}(h:bf c G sl n lk a w)(hO:yM w v x fp)(c6:fp.Nodup)(hF:Fr c G lk w fp)
  (aS:∀ p∈bJ id v.cells,lk p.1=none) (pY:((bJ id v.cells).map (·.1)).Nodup) (hR:∀ j,id<=j->c.R j=none) :
  ∃ G' lk',(∀ i,lk' i=gf (bJ id v.cells) lk i)/\bf c G' sl n lk' a w/\Ext G lk G' lk'/\TR c G' lk' w (iV id v) x/\∀ fq,Fr c G lk w fq->(∀ b∈fq,b∉fp)->Fr c G' lk' w fq:=by
 have one:v.τ.agg=false->v.cells=[v]->iV id v=kk id v->Ow w v.aL [x] fp->∃ G' lk',(∀ i,lk' i=gf (bJ id v.cells) lk i)/\bf c G' sl n lk' a w/\Ext G lk G' lk'/\TR c G' lk' w (iV id v) x/\∀ fq,Fr c G lk w fq->(∀ b∈fq,b∉fp)->Fr c G' lk' w fq:=by
  intro hv hc hov hO;rw[hc] at aS pY;obtain⟨G',lk',k1,k2,k3,k4,k5⟩:=h.zT (us:=[v]) (cs:=[x]) (fp:=fp) (by simpa using hv) ⟨x,[],fp,[],rfl,by simp,hO,rfl,rfl⟩ c6 hF aS pY hR;rw[hc,hov];exact⟨G',lk',k1,k2,k3,C1.b4z k4.1 hv,k5⟩
 obtain⟨τ,y⟩:=v;cases τ with
 | st s =>
  obtain⟨cs,rfl,hO⟩:=hO;rw[aH.bT] at hO;obtain⟨G',lk',k1,k2,k3,k4,k5⟩:=h.zT (us:=s.cells y) (cs:=cs) (fp:=fp) (P3 s y) hO c6 hF aS pY hR;exact⟨G',lk',k1,k2,k3,⟨cs,rfl,k4⟩,k5⟩
 | slice t=>exact one rfl rfl rfl hO
 | mv t=>exact one rfl rfl rfl hO
 | ptr=>exact one rfl rfl rfl hO
 | int k=>exact one rfl rfl rfl hO
 | bool=>exact one rfl rfl rfl hO
 | str=>exact one rfl rfl rfl hO
theorem a2W{r r':List (Nat×av)}(hd:∀ p∈r',ai r p.1=none)(lk:Nat->Option av)(i:Nat):gf r' (gf r lk) i=gf (r++r') lk i:=by
 rw[Oa];unfold gf;cases hx:ai r' i with
 | none=>rfl
 | some o =>
  have:=hd _ (fM hx);simp only[] at this ⊢;rw[this]
theorem bf.JJ:∀ {vs:List TV} {xs:List Value} {fp:List Nat} {id:Nat} {G:Gh} {lk:Nat->Option av},bf c G sl n lk a w->JG w vs xs fp->fp.Nodup->Fr c G lk w fp ->
  (∀ p∈bg id vs,lk p.1=none)->((bg id vs).map (·.1)).Nodup->(∀ j,id<=j->c.R j=none) ->
  ∃ G' lk',(∀ i,lk' i=gf (bg id vs) lk i)/\bf c G' sl n lk' a w/\Ext G lk G' lk'/\aM (TR c G' lk' w) (Lf id vs) xs/\∀ fq,Fr c G lk w fq->(∀ b∈fq,b∉fp)->Fr c G' lk' w fq
 | [],[],fp,id,G,lk,h,_,_,_,_,_,_=>⟨G,lk,λ _=>rfl,h,Ext.refl _ _,af,λ fq hq _=>hq⟩
 | v::vs,x::xs,fp,id,G,lk,h,hO,c6,hF,aS,pY,hR=>by
  obtain⟨f1,f2,rfl,h1,h2⟩:=hO;rw[b6l] at c6;obtain⟨nd1,nd2,nd3⟩:=c6;simp only[bg,b7t] at pY;rw[b6l] at pY;obtain⟨d1,d2,d3⟩:=pY;obtain⟨G1,uS,l1,i1,e1,c1,ZP⟩:=h.Pn (id:=id) h1 nd1 (λ b hb=>hF b (by simp[hb])) (λ p hp=>aS p (by simp[bg,hp])) d1 hR;have eu:∀ p∈bg (id+20) vs,ai (bJ id v.cells) p.1=none:=λ p hp=>Rw λ q hq e=>d3 q.1 (b5N.2 ⟨q,hq,rfl⟩) p.1 (b5N.2 ⟨p,hp,rfl⟩) e;obtain⟨G2,lk2,k1,k2,k3,k4,k5⟩:=bf.JJ (vs:=vs) (xs:=xs) (fp:=f2) (id:=id+20) i1 h2 nd2
   (ZP f2 (λ b hb=>hF b (by simp[hb])) (λ b hb cw=>nd3 b cw b hb rfl)) (λ p hp=>by rw[l1 p.1];unfold gf;rw[eu p hp];exact aS p (by simp[bg,hp])) d2 (λ j hj=>hR j (by omega))
  refine⟨G2,lk2,λ i=>?_,k2,e1.trans k3,⟨c1.ext k3,k4⟩,λ fq hq ya=>k5 fq (ZP fq hq λ b hb cw=>ya b hb (by simp[cw])) λ b hb cw=>ya b hb (by simp[cw])⟩;rw[k1 i,show uS=gf (bJ id v.cells) lk from funext l1];exact a2W eu lk i
 | [],_::_,_,_,_,_,_,hO,_,_,_,_,_=>hO.elim
 | _::_,[],_,_,_,_,_,hO,_,_,_,_,_=>hO.elim
theorem oB(r r':List (Nat×av))(i:Nat):ai (r++r') i=gf r (ai r') i:=by
 unfold gf;induction r with
 | nil=>rfl
 | cons p r ih =>
  obtain⟨k,o⟩:=p;rw[b6x,dr,dr];by_cases hj:i=k
  .simp[hj]
  .simpa [hj] using ih
theorem Jj{id:Nat}{res:List TV}{x:Value}{fp:List Nat}(h:H4 w res x fp):∃ xs,JG w res xs fp/\∀ (G:Gh) (lk:Nat->Option av),aM (TR c G lk w) (Lf id res) xs->VR c G lk w (jW id res) x:=by
 match res,h with
 | [v],h=>exact⟨[x],⟨fp,[],by simp,h,rfl⟩,λ G lk ha=>ha.1.fO⟩
 | [],h =>
  obtain⟨l,h1,h2⟩:=h;exact⟨l,h2,λ G lk ha=>⟨l,h1,ha⟩⟩
 | v::u::r,h =>
  obtain⟨l,h1,h2⟩:=h;exact⟨l,h2,λ G lk ha=>⟨l,h1,ha⟩⟩
end
section
variable {c:Ctx} {G:Gh} {s:aq} {a:Act} {w w':World}
theorem cZ:∀ {l:List Nat},nodupB l=true->l.Nodup
 | [],_=>b7c
 | a::r,h=>by
  simp only[nodupB] at h;split at h
  .cases h
  .rename_i hc;exact List.nodup_cons.2 ⟨by simpa using hc,cZ h⟩
theorem RU(hE:bl c.P c.E)(h:Inv c G s a w){o:Oper}{f:FuncId}{Ts:List TypeId}{vs:List AV}{xs:List Value}{Z9:List Arg}{pre:Vc}{res:List TV}{d b:Nat}{Q:Exit->Act->World->Prop}
  (has:lU c.E s.ai Ts vs=some Z9) (kE:aM (VR c G s.ai w) vs xs) (hc:c.E.Lb f Z9=some (pre,res)) (Q4:pre.ok) (hd:o.dst=some d)
  (tK:∀ p∈bg b res,s.ai p.1=none) (pY:((bg b res).map (·.1)).Nodup) (hR:100<=b)
  (cJ:j9 c.P f->(execOp a.eval o).run c.P w = .ok (.enter f xs.toArray) w) :
  o.wp c.P a w (λ a' w'=>∃ G',Inv c G' { aA:=s.aA.set d (jW b res),aK:=bg b res++s.aK } a' w') Q:=by
 obtain⟨qD,kB⟩:=hE.Lb f Z9 pre res hc Q4;unfold Oper.wp;rw[cJ qD];simp only[Oper.upon];refine (kB w (SX G s.ai) xs [] ?_ (.RR (ic hE h (λ _ _ h=>h) (λ _ h => .inl h) (λ τ v x y h1 h2=>xO h.aP h.aK (λ _ _ h=>h) h1 h2) has kE)) (.inl rfl) List.nodup_nil (by simp)).mono ?_
 .exact h.YY
 .rintro e w' ⟨x,fp,rfl,hk,hO,c6,mX⟩;have hk:bX (λ _=>False) w w':=⟨hk.os,hk.tape,hk.output,hk.size,λ b hb _=>hk.block b hb (by simp)⟩;have mX:∀ b∈fp,w.heap.size<=b/\b<w'.heap.size:=λ b hb=>(mX b hb).resolve_left (by simp);have hI:=bf.grow h hk (S':=G.S) (λ _ _=>b7k) (λ b hb=>b6a (h.dx b hb) hk.size);obtain⟨ys,tI,S2⟩:=Jj (c:=c) (id:=b) hO;have hF:Fr c ⟨G.S,G.η,G.φ⟩ s.ai w' fp:=λ b hb=>by
   obtain⟨h1,h2⟩:=mX b hb;have:=h.keep.size;refine⟨.inl (by omega),λ hs=>?_,h2,λ i o' hi tJ=>?_,λ j τ zs hj mV=>?_⟩
   .have:=h.dx b hs;omega
   .have:=(h.place i o' b hi tJ).2.2;omega
   .have:=(h.aP.pl j τ zs b hj mV).2.2.1;omega
  obtain⟨G',lk',k1,k2,k3,k4,_⟩:=hI.JJ (id:=b) tI c6 hF tK pY (λ j hj=>by
   cases hr:c.R j with
   | none=>rfl
   | some v=>have:=h.fZ j v hr;omega)
  refine⟨G',?_⟩;have bS:aq.ai { aA:=s.aA.set d (jW b res),aK:=bg b res++s.aK }=lk':=by
   funext i;rw[k1 i];exact oB _ _ i
  unfold Inv;rw[bS,hd,show aq.sl { aA:=s.aA.set d (jW b res),aK:=bg b res++s.aK }=jD s.aA.length s.sl (some d) (jW b res) from pJ s.aA d _ _,
   show ({ aA:=s.aA.set d (jW b res),aK:=bg b res++s.aK }:aq).aA.length=s.aA.length from by simp]
  exact bf.put k2 (S2 G' lk' k4)
end
theorem fe{α:Type}:∀ {l:List (Nat×α)} {id:Nat} {o:α},ai l id=some o->(id,o)∈l
 | (k,p)::r,id,o,h=>by
  simp only[ai] at h;split at h
  .rename_i hk;have hk:=b5G hk;simp only[b5E] at h;subst hk h;simp
  .exact b6U _ (fe h)
theorem uT{α:Type}:∀ {l:List (Nat×α)} {id:Nat} {o:α},(l.map (·.1)).Nodup->(id,o)∈l->ai l id=some o
 | (k,p)::r,id,o,hd,h=>by
  simp only[b6w,b6z] at hd;simp only[ai];rcases b5X.1 h with e|h
  .simp only[b5H] at e;obtain⟨rfl,rfl⟩:=e;simp
  .split
   .rename_i hk;have hk:=b5G hk;subst hk;exact absurd (b5N.2 ⟨_,h,rfl⟩) hd.1
   .exact uT hd.2 h
section
variable {c:Ctx} {G:Gh} {sl:Nat->AV} {n:Nat} {lk:Nat->Option av} {a:Act} {w w':World}
abbrev TE:=Value×List Nat×av
def F8(A:List (Nat×TE))(G:Gh)(i:Nat):Value:=match ai A i with
 | some e=>e.1
 | none=>G.η i
def yH(A:List (Nat×TE))(G:Gh)(i:Nat):List Nat:=match ai A i with
 | some e=>e.2.1
 | none=>G.φ i
def Y3(A:List (Nat×TE))(lk:Nat->Option av)(i:Nat):Option av:=match ai A i with
 | some e=>some e.2.2
 | none=>lk i
structure a3B(G:Gh)(lk:Nat->Option av)(w':World)(id:Nat)(e:TE):Prop where
 ex:∃ τ xs cK v l l',lk id=some (.aC τ xs)/\e.2.2 = .aC τ cK/\G.η id = .tuple (v::l).toArray/\e.1 = .tuple (v::l').toArray/\iK w' e.1 τ cK e.2.1/\e.2.1.Nodup
theorem Hl.ofList{A:List (Nat×TE)}(hA:∀ p∈A,a3B G lk w' p.1 p.2)(a0b:∀ p∈A,∀ b∈p.2.2.1,(∃ q∈A,b∈G.φ q.1)\/uM c G lk w' b)(VK:∀ p∈A,∀ q∈A,∀ b∈p.2.2.1,b∈q.2.2.1->p.1=q.1)(c6:(A.map (·.1)).Nodup)
  (b1n:∀ b,b<w.heap.size->(∀ p∈A,b∉G.φ p.1)->w'.heap[b]?=w.heap[b]?) (hos:w'.os=w.os) (a0f:w'.tape=w.tape) (Ul:w'.output=w.output) (E2:w.heap.size<=w'.heap.size) :
  Hl c G lk (Y3 A lk) w w' (F8 A G) (yH A G) (λ i=>∃ e,ai A i=some e) where
 same id hi:=by
  have:ai A id=none:=by
   cases hx:ai A id with
   | none=>rfl
   | some e=>exact absurd ⟨e,hx⟩ hi
  simp[Y3,F8,yH,this]
 aC id:=by
  rintro⟨e,he⟩;obtain⟨τ,xs,cK,v,l,l',h1,h2,h3,h4,h5,h6⟩:=(hA _ (fe he)).ex;refine⟨τ,xs,cK,v,l,l',h1,?_,h3,?_,?_,?_⟩
  .simp only[Y3,he];rw[<-h2]
  .simp only[F8,he];exact h4
  .simp only[F8,yH,he];exact h5
  .simp only[yH,he];exact h6
 a9j id b:=by
  rintro⟨e,he⟩ hb;simp only[yH,he] at hb;rcases a0b _ (fe he) b hb with ⟨q,hq,hbq⟩|VS
  .exact .inl ⟨q.1,⟨q.2,uT c6 hq⟩,hbq⟩
  .exact .inr VS
 apart id dk b:=by
  rintro⟨e,he⟩ ⟨e',AG⟩ hb cw;simp only[yH,he] at hb;simp only[yH,AG] at cw;exact VK _ (fe he) _ (fe AG) b hb cw
 heap b hb hn:=b1n b hb λ p hp=>hn p.1 ⟨p.2,uT c6 hp⟩
 os:=hos
 tape:=a0f
 output:=Ul
 size:=E2
def vF(G:Gh)(lk:Nat->Option av)(ids:List Nat)(b:Nat):Prop :=
 ∃ id∈ids,(∃ τ xs,lk id=some (.aC τ xs)/\b∈G.φ id)\/∃ e τ xs,lk id=some (.row e τ xs)/\dD (G.η id)=some b
theorem vF.mono{ids E5:List Nat}{b:Nat}(h:vF G lk ids b)(hs:∀ i∈ids,i∈E5):vF G lk E5 b:=by
 obtain⟨id,hi,h⟩:=h;exact⟨id,hs id hi,h⟩
theorem bf.iD(h:bf c G sl n lk a w){i j:List Nat}{b:Nat}(hi:vF G lk i b)(hj:vF G lk j b)(hd:∀ x∈i,∀ y∈j,x≠y):False:=by
 obtain⟨x,hx,h1⟩:=hi;obtain⟨y,hy,h2⟩:=hj;rcases h1 with ⟨τ,xs,k1,k2⟩|⟨e,τ,xs,k1,k2⟩<;>rcases h2 with ⟨aU,cK,m1,m2⟩|⟨e',aU,cK,m1,m2⟩
 .exact hd x hx y hy (h.aP.ap x y τ aU xs cK b k1 m1 k2 m2)
 .exact (h.aP.pl x τ xs b k1 k2).2.2.2 y _ m1 m2
 .exact (h.aP.pl y aU cK b m1 m2).2.2.2 x _ k1 k2
 .exact hd x hx y hy (h.apart x y _ _ b k1 m1 k2 m2)
theorem sS{τ:Ty}(h:τ.sR=true)(y:τ.den):(τ.aL y).light=true:=by
 cases τ<;>first|rfl|cases h
theorem Ru:∀ {l:List D},(∀ d∈l,d.light=true)->D.Gp l=true
 | [],_=>rfl
 | d::ds,h=>by
  simp only[D.Gp,b5M];exact⟨h d (by simp),Ru λ e he=>h e (b6U _ he)⟩
theorem Wq{τ:Ty}(h:τ.plain=true)(y:τ.den):(τ.aL y).light=true:=by
 cases τ with
 | st s =>
  show (s.aL y).light=true;rw[aH.bT];refine Ru λ d hd=>?_;obtain⟨u,hu,rfl⟩:=b5N.1 hd;have ht:u.τ∈s.oj:=by rw[<-aH.jG s y];exact b5N.2 ⟨u,hu,rfl⟩
  exact sS (b6y.1 h _ ht) u.x
 | slice t=>cases h
 | mv t=>cases h
 | ptr=>rfl
 | int k=>rfl
 | bool=>rfl
 | str=>rfl
theorem yG(h:bf c G sl n lk a w){τ:Ty}{v:AV}{x:Value}{y:τ.den}{ids:List Nat}(ht:eY lk τ v=some (y,ids))(hv:C1 c G lk w v x):∃ fp,Ow w (τ.aL y) [x] fp/\fp.Nodup/\∀ b∈fp,vF G lk ids b:=by
 cases v with
 | aO u =>
  simp only[eY] at ht;split at ht
  .rename_i y' hs hy;simp only[b5E,b5H] at ht;obtain⟨rfl,rfl⟩:=ht;have e:=TV.aN hy;subst e;exact⟨[],Ow.eV _ (sS hs _) hv.2,b7c,by simp⟩
  .cases ht
 | nil =>
  cases τ with
  | slice t =>
   simp only[eY,b5E,b5H] at ht;obtain⟨rfl,rfl⟩:=ht;exact⟨[],⟨none,0,by rw[show x=_ from hv];rfl,by simp,by simp[maxLen],by simp, .inl ⟨rfl,⟨rfl,rfl⟩,rfl⟩⟩,b7c,by simp⟩
  | _=>cases ht
 | aC id =>
  simp only[eY] at ht;split at ht
  .rename_i aU xs hl;split at ht
   .rename_i y' hy;simp only[b5E,b5H] at ht;obtain⟨rfl,rfl⟩:=ht;have e:=TV.aN hy;cases e;obtain⟨_,l,h2,_⟩:=hv;exact⟨G.φ id,Ow.a0s (h.aP.tr id aU xs hl) h2,h.aP.nd id aU xs hl,λ b hb=>⟨id,by simp, .inl ⟨aU,xs,hl,hb⟩⟩⟩
   .cases ht
  .cases ht
 | row id =>
  simp only[eY] at ht;split at ht
  .rename_i e aU xs hl;split at ht
   .rename_i y' hp hy;simp only[b5E,b5H] at ht;obtain⟨rfl,rfl⟩:=ht;have e1:=TV.aN hy;cases e1;obtain⟨hx,_,_⟩:=hv;obtain⟨l,h1,h2,h3⟩:=h.aK id _ hl;have a7Y:∀ d∈xs.map aU.aL,d.light=true:=λ d hd=>by
     obtain⟨z,_,rfl⟩:=b5N.1 hd;exact Wq hp z
    rcases h1.2 with ⟨V0,hn⟩|⟨g,cap,cur,V0,_,hh,SZ,Z5,jt,htk⟩
    .have kE:xs=[]:=b6S hn;subst kE;exact⟨[],⟨none,0,by rw[hx,V0];rfl,by simp,by simp[maxLen],by simp, .inl ⟨rfl,⟨rfl,rfl⟩,rfl⟩⟩,b7c,by simp⟩
    .refine⟨[g],⟨some ⟨g,0,none⟩,cap,by rw[hx,V0];simp,by simpa using SZ,Z5,by simpa using h3, .inr ⟨g,[],cur.toList,e,rfl,rfl,by simpa using hh,?_⟩⟩,by simp,λ b hb=>?_⟩
     .have hr:=bI.eV (w:=w) (S:=G.S) (xs.map aU.aL) (l:=l) (m:=cur.toList.drop (xs.length * aU.size)) a7Y h2;rw[<-htk,b7l] at hr;exact⟨by rw[b6M];exact jt,hr⟩
     .simp only[b5Z] at hb;subst hb;exact⟨id,by simp, .inr ⟨e,aU,xs,hl,by rw[V0];rfl⟩⟩
   .cases ht
  .cases ht
 | _=>cases ht
theorem dS{l1 l2:List Nat}(h1:l1.Nodup)(h2:l2.Nodup)(h3:∀ x∈l1,x∉l2):(l1++l2).Nodup:=by
 rw[b6l];exact⟨h1,h2,λ x hx y hy e=>h3 x hx (e ▸ hy)⟩
theorem LB(h:bf c G sl n lk a w):∀ {cs:List AV} {ts:List Ty} {us:List TV} {ids:List Nat} {l:List Value},LA lk cs ts=some (us,ids)->aM (C1 c G lk w) cs l->ids.Nodup ->
  ∃ fp,cW w (us.map TV.aL) l fp/\fp.Nodup/\(∀ b∈fp,vF G lk ids b)/\us.map TV.τ=ts
 | [],[],us,ids,l,ht,hl,_=>by
  simp only[LA,b5E,b5H] at ht;obtain⟨rfl,rfl⟩:=ht;match l,hl with
  | [],_=>exact⟨[],⟨rfl,rfl⟩,b7c,by simp,rfl⟩
 | cc::cs,t::ts,us,ids,l,ht,hl,c6=>by
  simp only[LA] at ht;split at ht
  .rename_i x i hx;split at ht
   .rename_i r j hr;simp only[b5E,b5H] at ht;obtain⟨rfl,rfl⟩:=ht;match l,hl with
    | v::l,hl =>
     rw[b6l] at c6;obtain⟨n1,n2,n3⟩:=c6;obtain⟨f1,a1,a2,a3⟩:=yG h hx hl.1;obtain⟨f2,b1,b2,b3,b4⟩:=LB h hr hl.2 n2;refine⟨f1++f2,⟨v,l,f1,f2,rfl,rfl,a1,b1⟩,dS a2 b2 λ b hb cw=>h.iD (a3 b hb) (b3 b cw) (λ x hx y hy=>n3 x hx y hy),λ b hb=>?_,by simp[b4]⟩;rcases b5F.1 hb with hb|hb
     .exact (a3 b hb).mono λ k hk=>by simp[hk]
     .exact (b3 b hb).mono λ k hk=>by simp[hk]
   .cases ht
  .cases ht
 | [],_::_,_,_,_,ht,_,_=>by cases ht
 | _::_,[],_,_,_,ht,_,_=>by cases ht
theorem sU(h:bf c G sl n lk a w){τ:Ty}{v:AV}{x:Value}{y:τ.den}{ids:List Nat}(ht:Jz lk τ v=some (y,ids))(hv:VR c G lk w v x)(c6:ids.Nodup):∃ fp,yM w ⟨τ,y⟩ x fp/\fp.Nodup/\∀ b∈fp,vF G lk ids b:=by
 have one:(∀ cs,v ≠ .agg cs)->eY lk τ v=some (y,ids)->∃ fp,yM w ⟨τ,y⟩ x fp/\fp.Nodup/\∀ b∈fp,vF G lk ids b:=by
  intro hna ht;have cb:∀ s,τ ≠ .st s:=λ s e=>by
   subst e;cases v with
   | aO u=>simp[eY,Ty.sR] at ht
   | nil=>simp[eY] at ht
   | aC id =>
    simp only[eY] at ht;split at ht
    .split at ht
     .rename_i hy;have e:=TV.aN hy;cases e
     .cases ht
    .cases ht
   | row id =>
    simp only[eY] at ht;split at ht
    .split at ht
     .rename_i hy;have e:=TV.aN hy;cases e
     .cases ht
    .cases ht
   | _=>cases ht
  have hc:C1 c G lk w v x:=by
   refine hv.UP ?_;cases v with
   | aO u =>
    simp only[eY] at ht;split at ht
    .rename_i hy;have e:=TV.aN hy;subst e;cases τ<;>first|rfl|exact absurd rfl (cb _)
    .cases ht
   | nil=>rfl
   | aC id=>rfl
   | row id=>rfl
   | _=>cases ht
  obtain⟨fp,h1,h2,h3⟩:=yG h ht hc;refine⟨fp,?_,h2,h3⟩;cases τ with
  | st s=>exact absurd rfl (cb s)
  | _=>exact h1
 cases v with
 | agg cs =>
  cases τ with
  | st s =>
   simp only[Jz] at ht;split at ht
   .rename_i us i jt;split at ht
    .rename_i y' hy;simp only[b5E,b5H] at ht;obtain⟨rfl,rfl⟩:=ht;obtain⟨l,rfl,hl⟩:=hv;obtain⟨fp,h1,h2,h3,_⟩:=LB h jt hl c6;refine⟨fp,⟨l,rfl,?_⟩,h2,h3⟩;rw[aH.bT,aH.ni hy];exact h1
    .cases ht
   .cases ht
  | _=>cases ht
 | _=>exact one (by intro cs;simp) ht
theorem cW.split:∀ (ds:List D) {l:List Value} {fp:List Nat} (i:Nat) (d:D),cW w ds l fp->ds[i]?=some d ->
  ∃ v f0 f1 f2,fp=f0++f1++f2/\l[i]?=some v/\Ow w d [v] f1/\∀ (w':World) (d':D) (v':Value) (jc:List Nat),(∀ b∈f0++f2,w'.heap[b]?=w.heap[b]?)->Ow w' d' [v'] jc->cW w' (ds.set i d') (l.set i v') (f0++jc++f2)
 | [],_,_,_,_,_,hi=>by simp at hi
 | e::ds,_,_,0,d,h,hi=>by
  obtain⟨v,r,f1,f2,rfl,rfl,h3,h4⟩:=h;simp at hi;subst hi;exact⟨v,[],f1,f2,by simp,rfl,h3,λ w' d' v' jc hw hd=>⟨v',r,jc,f2,rfl,by simp,hd,cW.keep ds h4 λ b hb=>hw b (by simp[hb])⟩⟩
 | e::ds,_,_,i+1,d,h,hi=>by
  obtain⟨v,r,g1,g2,rfl,rfl,h3,h4⟩:=h;obtain⟨u,f0,f1,f2,rfl,k1,k2,k3⟩:=cW.split ds i d h4 (by simpa using hi);refine⟨u,g1++f0,f1,f2,by simp,by simpa using k1,k2,λ w' d' v' jc hw hd=>?_⟩;exact⟨v,r.set i v',g1,f0++jc++f2,rfl,by simp,Ow.keep e h3 λ b hb=>hw b (by simp[hb]),k3 w' d' v' jc (λ b hb=>hw b (by simp at hb ⊢;rcases hb with hb|hb<;>simp[hb])) hd⟩
theorem N7(v:AV):v.cS=v\/v.cS = .any:=by unfold AV.cS;split<;>simp
theorem HH(v:AV):v.cS.Lx=false:=by
 unfold AV.cS;split
 .rfl
 .assumption
theorem Om:∀ cs:List AV,AV.nY (cs.map AV.cS)=false
 | []=>rfl
 | v::r=>by simp only[b6w,AV.nY,HH];exact Om r
theorem C1.cS{v:AV}{x:Value}(h:C1 c G lk w v x):C1 c G lk w v.cS x:=by
 rcases N7 v with e|e
 .rw[e];exact h
 .rw[e];trivial
theorem HX(o:Option av):eC o (o.map av.cS):=by
 refine⟨λ h=>?_,λ e τ xs h=>⟨e,xs,by rw[h];rfl,b6k _⟩,λ h=>?_,λ h=>?_⟩
 .match o,h with
  | some (.box cs),_=>rfl
 .match o,h with
  | some (.aC τ xs),_=>rfl
 .match o,h with
  | some (.map m),_=>rfl
theorem yA{o:Option av}{τ:Ty}{xs:List τ.den}(h:o.map av.cS=some (.aC τ xs)):o=some (.aC τ xs):=by
 match o,h with
 | some (.aC aU cK),h=>exact h
 | some (.box _),h=>cases h
 | some (.row ..),h=>cases h
theorem bf.cj(h:bf c G sl n lk a w):bf c G (λ i=>(sl i).cS) n (λ i=>(lk i).map av.cS) a w:=by
 have h1:bf c G (λ i=>(sl i).cS) n lk a w:=h.forget λ i=>N7 (sl i);exact {
  defers:=h1.defers,size:=h1.size,keep:=h1.keep,ju:=h1.ju,eo:=h1.eo,sX:=h1.sX,dx:=h1.dx
  aA:=λ i=>(h1.aA i).mono (λ j _=>⟨HX _,rfl⟩) (λ _ h=>h) (λ _ _=>rfl)
  aK:=λ i o ho=>by
   rw[b6C] at ho;obtain⟨o',cI,rfl⟩:=ho;have hk:OR c G lk w i o'.cS:=by
    have:=h1.aK i o' cI;cases o' with
    | box cs =>
     obtain⟨b,l,t,k1,k2,k3⟩:=this;exact⟨b,l,t,k1,k2,aM.dA _ (k3.imp λ u y _ hy=>hy.cS)⟩
    | row e τ xs=>exact this
    | aC τ xs=>exact this
    | map m=>exact this
   exact hk.mono rfl (λ _ _=>rfl) (λ j _=>⟨HX _,rfl⟩) (λ _ h=>h) (λ _ _=>rfl)
  place:=λ i o b ho hb=>by
   rw[b6C] at ho;obtain⟨o',cI,rfl⟩:=ho;exact h1.place i o' b cI hb
  apart:=λ i j o o' b ho cI hb cw=>by
   rw[b6C] at ho cI;obtain⟨p,hp,rfl⟩:=ho;obtain⟨q,hq,rfl⟩:=cI;exact h1.apart i j p q b hp hq hb cw
  aP:=h1.aP.sub (λ i τ xs k=>yA k) (λ i o k=>by
   rw[b6C] at k;obtain⟨p,hp,_⟩:=k;exact⟨p,hp⟩)
  root:=λ i v hr ht=>h1.root i v hr (by
   match hl:lk i,ht with
   | some (.aC ..),_=>rfl
   | some (.box _),ht=>simp[hl,av.cS,cR] at ht
   | some (.row ..),ht=>simp[hl,av.cS,cR] at ht
   | none,ht=>simp[hl,cR] at ht)
  fZ:=h1.fZ
  dj:=λ i v hr ht=>h1.dj i v hr (by
   match hl:lk i,ht with
   | some (.box _),_=>rfl
   | some (.aC ..),ht=>simp[hl,av.cS,fR] at ht
   | some (.row ..),ht=>simp[hl,av.cS,fR] at ht
   | none,ht=>simp[hl,fR] at ht)
  eQ:=h1.eQ }
end
section
variable {c:Ctx} {G:Gh} {s:aq} {a:Act} {w w':World}
theorem Sd(s:aq):s.cj.sl=λ i=>(s.sl i).cS:=by
 funext i;simp only[aq.sl,aq.cj,b5P,b7m];cases s.aA[i]?<;>rfl
theorem jS(s:aq):s.cj.ai=λ i=>(s.ai i).map av.cS:=by
 funext i;exact Gq _ _ _
theorem Inv.cj(h:Inv c G s a w):Inv c G s.cj a w/\(∀ i,(s.cj.sl i).Lx=false)/\∀ id cs,s.cj.ai id=some (.box cs)->AV.nY cs=false:=by
 refine⟨?_,λ i=>by rw[Sd];exact HH _,λ id cs aS=>?_⟩
 .unfold Inv;rw[Sd,jS,show s.cj.aA.length=s.aA.length from by simp[aq.cj]];exact bf.cj h
 .rw[jS] at aS;simp only[b6C] at aS;obtain⟨o,_,ho⟩:=aS;cases o with
  | box dw=>cases ho;exact Om dw
  | row e τ xs=>cases ho
  | aC τ xs=>cases ho
  | map m=>cases ho
theorem Inv.a2y(h:Inv c G s a w){A:List (Nat×TE)}(hA:∀ p∈A,a3B G s.ai w' p.1 p.2)(a0b:∀ p∈A,∀ b∈p.2.2.1,(∃ q∈A,b∈G.φ q.1)\/uM c G s.ai w' b)(VK:∀ p∈A,∀ q∈A,∀ b∈p.2.2.1,b∈q.2.2.1->p.1=q.1)(c6:(A.map (·.1)).Nodup)
  {F:Nat->Prop} (hk:bX F w w') (hF:∀ b,F b->∃ p∈A,b∈G.φ p.1) {t:aq} (hts:t.aA=s.cj.aA) (D0:∀ i,t.ai i=Y3 A s.cj.ai i) {d:Option Nat} {v:AV} {x:Value} (hv:∀ G' lk,VR c G' lk w' v x) :
  ∃ G',Inv c G' (t.put d v) (a.put d x) w':=by
 obtain⟨h1,h2,h3⟩:=h.cj;have hA':∀ p∈A,a3B G s.cj.ai w' p.1 p.2:=λ p hp=>by
  obtain⟨τ,xs,cK,v,l,l',k1,k2⟩:=(hA p hp).ex;exact⟨τ,xs,cK,v,l,l',by rw[jS];simp[k1,av.cS],k2⟩
 have a7V:∀ p∈A,∀ b∈p.2.2.1,(∃ q∈A,b∈G.φ q.1)\/uM c G s.cj.ai w' b:=λ p hp b hb=>(a0b p hp b hb).imp id λ ⟨q1,q2,q3,q4,q5⟩ =>
  ⟨q1,q2,q3,λ i o hi=>by
   rw[jS] at hi;simp only[b6C] at hi;obtain⟨o',cI,_⟩:=hi;exact q4 i o' cI,λ j τ xs hj=>q5 j τ xs (by rw[jS] at hj;exact yA hj)⟩
 have T:=Hl.ofList (c:=c) (w:=w) hA' a7V VK c6 (λ b hb hn=>hk.block b hb λ hf=>by
  obtain⟨p,hp,hbp⟩:=hF b hf;exact hn p hp hbp) hk.os hk.tape hk.output hk.size
 have hI:=bf.eU h1 T h2 h3;refine⟨_,Inv.put (G:=⟨G.S,F8 A G,yH A G⟩) ?_ (hv _ _)⟩;unfold Inv;rw[show t.sl=s.cj.sl from by funext i;simp only[aq.sl,hts],show t.ai=Y3 A s.cj.ai from funext D0,hts];exact hI
theorem Sp(id:Nat)(e:TE)(lk:Nat->Option av)(i:Nat):Y3 [(id,e)] lk i=if i=id then some e.2.2 else lk i:=by
 unfold Y3;simp only[ai];by_cases hi:i=id
 .subst hi;simp
 .have:Nat.beq id i=false:=by
   cases hb:Nat.beq id i with
   | false=>rfl
   | true=>exact absurd (b5G hb).symm hi
  simp[this,hi]
theorem kt(s:aq)(id:Nat)(τ:Ty)(xs:List τ.den)(i:Nat):(s.gb id τ xs).ai i=if i=id then some (.aC τ xs) else s.ai i:=by
 show ai ((id,_)::bB id s.aK) i=_;rw[dr,eB];by_cases hi:i=id
 .simp[hi]
 .simp[hi];rfl
theorem a8A{lk:Nat->Option av}{k:Int}(h:ag k):VR c G lk w (.aO ⟨.int .i64,k⟩) (.int .i64 k):=by
 refine⟨rfl,?_⟩;simp only[IntKind.min,IntKind.max,IntKind.signed,IntKind.bits,b7D];obtain⟨q1,q2⟩:=h;constructor<;>omega
theorem a4z(h:Inv c G s a w){b:Nat}(h1:w.heap.size<=b)(h2:b<w'.heap.size):uM c G s.ai w' b:=by
 have:=h.keep.size;refine⟨.inl (by omega),λ hs=>by have:=h.dx b hs;omega,h2,λ i o hi tJ=>by have:=(h.place i o b hi tJ).2.2;omega,λ j τ xs hj mV=>by have:=(h.aP.pl j τ xs b hj mV).2.2.1;omega⟩
theorem yD{f0 f1 f2 jc:List Nat}(h:(f0++f1++f2).Nodup)(h1:jc.Nodup)(hs:∀ b∈jc,b∈f1\/(b∉f0/\b∉f2)):(f0++jc++f2).Nodup:=by
 rw[b6l,b6l] at h;obtain⟨⟨a1,a2,a3⟩,a4,a5⟩:=h;refine dS (dS a1 h1 λ x hx zt=>(hs x zt).elim (λ q=>a3 x hx x q rfl) λ q=>q.1 hx) a4 λ x hx zt=>?_;rcases b5F.1 hx with hx|hx
 .exact a5 x (by simp[hx]) x zt rfl
 .exact (hs x hx).elim (λ q=>a5 x (by simp[q]) x zt rfl) λ q=>q.2 zt
theorem Og{w:World}{τ τm:Ty}{x:τ.den}{off:Nat}{u:TV}(hu:TV.part ⟨τ,x⟩ off τm=some u)(cb:τm.agg=false){ce:List Value}{fp:List Nat}(hO:Ow w (τ.aL x) ce fp) :
  ∃ v f0 f1 f2,fp=f0++f1++f2/\ce[off]?=some v/\Ow w u.aL [v] f1/\∀ (w':World) (u':TV) (y:τ.den) (v':Value) (jc:List Nat),nj τ x off u'=some y->(∀ b∈f0++f2,w'.heap[b]?=w.heap[b]?)->Ow w' u'.aL [v'] jc->Ow w' (τ.aL y) (ce.set off v') (f0++jc++f2):=by
 cases τ with
 | st s =>
  have mW:(s.cells x)[off]?=some u:=by
   unfold TV.part at hu;split at hu
   .rename_i hb;simp only[b5M] at hb;have:=b6n hb.2;have e:Ty.st s=τm:=this;subst e;cases cb
   .split at hu
    .rename_i z hz;split at hu
     .simp only[b5E] at hu;subst hu;exact hz
     .cases hu
    .cases hu
  rw[show Ty.aL (.st s) x=s.aL x from rfl,aH.bT] at hO;obtain⟨v,f0,f1,f2,h1,h2,h3,h4⟩:=cW.split _ off u.aL hO (by rw[b7m,mW];rfl);refine⟨v,f0,f1,f2,h1,h2,h3,λ w' u' y v' jc hp hw tI=>?_⟩;simp only[nj,mW] at hp;split at hp
  .have hy:=aH.ni hp;rw[show Ty.aL (.st s) y=s.aL y from rfl,aH.bT,hy,b9v];exact h4 w' u'.aL v' jc hw tI
  .cases hp
 | slice t =>
  have pe:off=0/\u=⟨.slice t,x⟩:=by
   unfold TV.part at hu;split at hu
   .rename_i hb;simp only[b5M] at hb;simp only[b5E] at hu;exact⟨b5G hb.1,hu.symm⟩
   .split at hu
    .rename_i z hz;cases off with
     | zero=>simp[TV.cells] at hz;subst hz;split at hu<;>simp_all
     | succ k=>simp[TV.cells] at hz
    .cases hu
  obtain⟨rfl,rfl⟩:=pe;have hl:=Ow.length _ hO;match ce,hl with
  | [v],_ =>
   refine⟨v,[],fp,[],by simp,rfl,hO,λ w' u' y v' jc hp _ tI=>?_⟩;simp only[nj] at hp;have e:=TV.aN hp;subst e;rw[b6B,b6K];exact tI
 | mv t =>
  have pe:off=0/\u=⟨.mv t,x⟩:=by
   unfold TV.part at hu;split at hu
   .rename_i hb;simp only[b5M] at hb;simp only[b5E] at hu;exact⟨b5G hb.1,hu.symm⟩
   .split at hu
    .rename_i z hz;cases off with
     | zero=>simp[TV.cells] at hz;subst hz;split at hu<;>simp_all
     | succ k=>simp[TV.cells] at hz
    .cases hu
  obtain⟨rfl,rfl⟩:=pe;have hl:=Ow.length _ hO;rw[Ty.cA] at hl;match ce,hl with
  | [v],_ =>
   refine⟨v,[],fp,[],by simp,rfl,hO,λ w' u' y v' jc hp _ tI=>?_⟩;simp only[nj] at hp;have e:=TV.aN hp;subst e;rw[b6B,b6K];exact tI
 | ptr =>
  have pe:off=0/\u=⟨.ptr,x⟩:=by
   unfold TV.part at hu;split at hu
   .rename_i hb;simp only[b5M] at hb;simp only[b5E] at hu;exact⟨b5G hb.1,hu.symm⟩
   .split at hu
    .rename_i z hz;cases off with
     | zero=>simp[TV.cells] at hz;subst hz;split at hu<;>simp_all
     | succ k=>simp[TV.cells] at hz
    .cases hu
  obtain⟨rfl,rfl⟩:=pe;have hl:=Ow.length _ hO;rw[Ty.cA] at hl;match ce,hl with
  | [v],_ =>
   refine⟨v,[],fp,[],by simp,rfl,hO,λ w' u' y v' jc hp _ tI=>?_⟩;simp only[nj] at hp;have e:=TV.aN hp;subst e;rw[b6B,b6K];exact tI
 | int k =>
  have pe:off=0/\u=⟨.int k,x⟩:=by
   unfold TV.part at hu;split at hu
   .rename_i hb;simp only[b5M] at hb;simp only[b5E] at hu;exact⟨b5G hb.1,hu.symm⟩
   .split at hu
    .rename_i z hz;cases off with
     | zero=>simp[TV.cells] at hz;subst hz;split at hu<;>simp_all
     | succ k=>simp[TV.cells] at hz
    .cases hu
  obtain⟨rfl,rfl⟩:=pe;have hl:=Ow.length _ hO;match ce,hl with
  | [v],_ =>
   refine⟨v,[],fp,[],by simp,rfl,hO,λ w' u' y v' jc hp _ tI=>?_⟩;simp only[nj] at hp;have e:=TV.aN hp;subst e;rw[b6B,b6K];exact tI
 | bool =>
  have pe:off=0/\u=⟨.bool,x⟩:=by
   unfold TV.part at hu;split at hu
   .rename_i hb;simp only[b5M] at hb;simp only[b5E] at hu;exact⟨b5G hb.1,hu.symm⟩
   .split at hu
    .rename_i z hz;cases off with
     | zero=>simp[TV.cells] at hz;subst hz;split at hu<;>simp_all
     | succ k=>simp[TV.cells] at hz
    .cases hu
  obtain⟨rfl,rfl⟩:=pe;have hl:=Ow.length _ hO;match ce,hl with
  | [v],_ =>
   refine⟨v,[],fp,[],by simp,rfl,hO,λ w' u' y v' jc hp _ tI=>?_⟩;simp only[nj] at hp;have e:=TV.aN hp;subst e;rw[b6B,b6K];exact tI
 | str =>
  have pe:off=0/\u=⟨.str,x⟩:=by
   unfold TV.part at hu;split at hu
   .rename_i hb;simp only[b5M] at hb;simp only[b5E] at hu;exact⟨b5G hb.1,hu.symm⟩
   .split at hu
    .rename_i z hz;cases off with
     | zero=>simp[TV.cells] at hz;subst hz;split at hu<;>simp_all
     | succ k=>simp[TV.cells] at hz
    .cases hu
  obtain⟨rfl,rfl⟩:=pe;have hl:=Ow.length _ hO;match ce,hl with
  | [v],_ =>
   refine⟨v,[],fp,[],by simp,rfl,hO,λ w' u' y v' jc hp _ tI=>?_⟩;simp only[nj] at hp;have e:=TV.aN hp;subst e;rw[b6B,b6K];exact tI
theorem YO(l:List Value)(o n k:Nat)(v:Value)(hk:k<n)(hl:o+n<=l.length):l.take o++((l.drop o).take n).set k v++l.drop (o+n)=l.set (o+k) v:=by
 conv=>rhs;rw[<-b7l o l]
 rw[List.set_append_right _ _ (by simp;omega),b6v];congr 1;have e:o+k - (List.take o l).length=k:=by rw[b6T];omega
 rw[e];conv=>rhs;rw[<-b7l n (l.drop o)]
 rw[List.set_append_left _ _ (by rw[b6T,b7e];omega),b7J]
theorem a0U{w:World}{η:Value}{τ τm:Ty}{xs:List τ.den}{fp:List Nat}(hT:iK w η τ xs fp)(c6:fp.Nodup){a0:Option Addr}{n cap:Nat}{l:List Value}(e9:η = .tuple (.slice a0 n cap::l).toArray){i off:Nat}(hi:i<n){u:TV}
  (hu:TV.part ⟨τ,xs.getD i τ.zero⟩ off τm=some u) (cb:τm.agg=false) (pe:off<τ.size):n=xs.length /\
  ∃ v f1,l[i * τ.size+off]?=some v/\Ow w u.aL [v] f1/\f1.Nodup/\(∀ b∈f1,b∈fp)/\∀ (w':World) (u':TV) (y:τ.den) (v':Value) (jc:List Nat),nj τ (xs.getD i τ.zero) off u'=some y->(∀ b∈fp,b∉f1->(a0=some ⟨b,0,none⟩->∃ t,w'.heap[b]?=some (.cells (l.set (i * τ.size+off) v').toArray t (0,0)))/\(a0≠some ⟨b,0,none⟩->w'.heap[b]?=w.heap[b]?))->Ow w' u'.aL [v'] jc->jc.Nodup->(∀ b∈jc,b∈f1\/b∉fp) ->
   ∃ EL,iK w' (.tuple (.slice a0 n cap::l.set (i * τ.size+off) v').toArray) τ (xs.set i y) EL/\EL.Nodup/\∀ b∈EL,b∈fp\/b∈jc:=by
 obtain⟨v0,l0,a1,TI,h1,h2,h3,h4,h5,h6⟩:=hT;rw[e9] at h1;simp only[b7q] at h1;have h1:(Value.slice a0 n cap::l)=v0::l0:=congrArg Array.toList h1;simp only[b5J] at h1;obtain⟨hq,E1⟩:=h1;subst E1;rw[h2] at hq;simp only[b7A] at hq;obtain⟨rfl,rfl,rfl⟩:=hq;rcases h6 with ⟨rfl,_,_⟩|⟨b,f,t,rfl,rfl,k1,k0,k2⟩
 .simp at hi
 .have cr:∀ d∈xs.map τ.aL,d.size=τ.size:=by
   intro d hd;obtain⟨z,_,rfl⟩:=b5N.1 hd;exact Ty.cA τ z
  obtain⟨g0,g1,g2,rfl,hlen,m1,m2⟩:=bI.split (xs.map τ.aL) i (τ.aL (xs.getD i τ.zero)) k2 cr (by simp[List.getD,hi]);obtain⟨v,p0,p1,p2,rfl,q1,q2,q3⟩:=Og hu cb m1;have hvl:l[i * τ.size+off]?=some v:=by
   rw[b7h,b5Q pe,b8d] at q1;exact q1
  rw[b6z] at c6;obtain⟨hb,c6⟩:=c6;have Uk:(p0++p1++p2).Nodup:=by
   rw[b6l,b6l] at c6;exact c6.1.2.1
  have XR:p1.Nodup:=by
   rw[b6l,b6l] at Uk;exact Uk.1.2.1
  refine⟨rfl,v,p1,hvl,q2,XR,λ b hb=>by simp[hb],λ w' u' y v' jc hp hw tI zm hs'=>?_⟩;have dis:∀ c∈g0++(p0++p1++p2)++g2,c∉p1->w'.heap[c]?=w.heap[c]?:=λ c hc hn=>(hw c (b6U _ hc) hn).2 λ e=>by
   simp only[b5E,b7G,b5W] at e;subst e;exact hb hc
  have fv:∀ c,c∈p1->c∈p0++p1++p2:=λ c hc=>by simp[hc]
  rw[b6l,b6l] at c6;obtain⟨⟨n1,n2,n3⟩,n4,n5⟩:=c6;have h0:∀ c∈g0++g2,c∉p1:=λ c hc SS=>by
   rcases b5F.1 hc with hc|hc
   .exact n3 c hc c (fv c SS) rfl
   .exact n5 c (b5F.2 (.inr (fv c SS))) c hc rfl
  have h00:∀ c∈p0++p2,c∉p1:=λ c hc SS=>by
   rw[b6l,b6l] at Uk;rcases b5F.1 hc with hc|hc
   .exact Uk.1.2.2 c hc c SS rfl
   .exact Uk.2.2 c (by simp[SS]) c hc rfl
  have hy:=q3 w' u' y v' jc hp (λ c hc=>dis c (by simp at hc ⊢;rcases hc with hc|hc<;>simp[hc]) (h00 c hc)) tI;have gG:=m2 w' (τ.aL y) _ (p0++jc++p2) (λ c hc=>dis c (by simp at hc ⊢;rcases hc with hc|hc<;>simp[hc]) (h0 c hc)) (by simp only[List.length_set,List.length_take,List.length_drop];omega) hy;rw[YO l _ _ _ v' pe hlen,<-List.map_set] at gG;obtain⟨t',G7⟩:=(hw b (by simp) λ hc=>hb (by simp[hc])).1 rfl;refine⟨b::(g0++(p0++jc++p2)++g2),⟨_,_,_,cap,rfl,by simp,by simpa using h3,h4,by simpa using h5, .inr ⟨b,_,t',rfl,rfl,G7,by rw[List.length_set];exact k0,gG⟩⟩,?_,?_⟩
  .have VS:∀ c∈jc,c∈p1\/(c∉p0/\c∉p2):=λ c hc=>(hs' c hc).imp id λ q=>⟨λ q'=>q (by simp[q']),λ q'=>q (by simp[q'])⟩;have yb:∀ c∈p0++jc++p2,c∈p0++p1++p2\/(c∉g0/\c∉g2):=λ c hc=>by
    simp only[b5F] at hc;rcases hc with (hc|hc)|hc
    .exact .inl (by simp[hc])
    .rcases hs' c hc with q|q
     .exact .inl (by simp[q])
     .exact .inr ⟨λ q'=>q (by simp[q']),λ q'=>q (by simp[q'])⟩
    .exact .inl (by simp[hc])
   rw[b6z];refine⟨λ hc=>?_,yD (f1:=p0++p1++p2) (dS (dS n1 n2 λ x hx zt=>n3 x hx x zt rfl) n4 λ x hx zt=>n5 x hx x zt rfl) (yD Uk zm VS) yb⟩;simp only[b5F] at hc;rcases hc with (hc|(hc|hc)|hc)|hc
   .exact hb (by simp[hc])
   .exact hb (by simp[hc])
   .rcases hs' b hc with q|q
    .exact hb (by simp[q])
    .exact q (by simp)
   .exact hb (by simp[hc])
   .exact hb (by simp[hc])
  .intro c hc;simp only[b5X,b5F] at hc;rcases hc with hc|(hc|(hc|hc)|hc)|hc
   .exact .inl (by simp[hc])
   .exact .inl (by simp[hc])
   .exact .inl (by simp[hc])
   .exact .inr hc
   .exact .inl (by simp[hc])
   .exact .inl (by simp[hc])
end
section
variable {c:Ctx} {G:Gh} {s:aq} {a:Act} {w w':World}
theorem Bf(h:Inv c G s a w){o:Oper}{v:AV}{x:Value}{Q:Exit->Act->World->Prop}(hr:(execOp a.eval o).run c.P w = .ok (.value x) w)(hv:VR c G s.ai w v x) :
  o.wp c.P a w (λ a' w'=>∃ G',Inv c G' (s.put o.dst v) a' w') Q:=by
 unfold Oper.wp;rw[hr];exact⟨G,Inv.put h hv⟩
theorem vA{η:Value}{τ:Ty}{xs:List τ.den}{fp:List Nat}(hT:iK w η τ xs fp){a0:Option Addr}{n cap:Nat}{l:List Value}(e9:η = .tuple (.slice a0 n cap::l).toArray){i:Nat}(hi:i<n) :
  n=xs.length/\∃ b f t,a0=some ⟨b,0,none⟩/\fp=b::f/\w.heap[b]?=some (.cells l.toArray t (0,0))/\bI w (xs.map τ.aL) l f:=by
 obtain⟨v0,l0,a1,TI,h1,h2,h3,h4,h5,h6⟩:=hT;rw[e9] at h1;simp only[b7q] at h1;have h1:(Value.slice a0 n cap::l)=v0::l0:=congrArg Array.toList h1;simp only[b5J] at h1;obtain⟨hq,E1⟩:=h1;subst E1;rw[h2] at hq;simp only[b7A] at hq;obtain⟨rfl,rfl,rfl⟩:=hq;rcases h6 with ⟨rfl,_,_⟩|⟨b,f,t,q1,q2,q3,q4⟩
 .simp at hi
 .exact⟨rfl,b,f,t,q1,q2,q3,q4.2⟩
theorem LM{t:Ty}{x:Value}(h:C1 c G s.ai w (zeroCell t) x)(ht:t.agg=false):Ow w (t.aL t.zero) [x] []:=by
 cases t with
 | slice t' =>
  have h:x = .slice none 0 0:=h;subst h;exact⟨none,0,rfl,b6k _,by simp[maxLen],b6L _, .inl ⟨rfl,⟨rfl,rfl⟩,rfl⟩⟩
 | st s=>cases ht
 | mv t=>exact Ow.eV (S:=G.S) _ rfl h.2
 | ptr=>exact Ow.eV (S:=G.S) _ rfl h.2
 | int k=>exact Ow.eV (S:=G.S) _ rfl h.2
 | bool=>exact Ow.eV (S:=G.S) _ rfl h.2
 | str=>exact Ow.eV (S:=G.S) _ rfl h.2
theorem a2E(s:aH):∀ t∈s.oj,t.agg=false:=λ t ht=>by
 rw[<-aH.jG s s.zero] at ht;obtain⟨u,hu,rfl⟩:=b5N.1 ht;exact P3 s _ u hu
theorem a6y{c:Ctx}{G:Gh}{s:aq}{τ:Ty}{z:Value}(h:yK τ z=true):Ow w (τ.aL τ.zero) z.cells.toList []:=by
 have h1:=ib (c:=c) (G:=G) (lk:=s.ai) (w:=w) h;cases τ with
 | st st =>
  simp only[zeroCells] at h1;show Ow w (st.aL st.zero) _ [];rw[aH.bT];have hz:(st.cells st.zero).map TV.aL=st.oj.map λ t=>t.aL t.zero:=by cases st<;>rfl
  rw[hz];have h2:=aM.of_map _ h1;have:∀ (ts:List Ty) (vs:List Value),aM (λ t x=>Ow w (t.aL t.zero) [x] []) ts vs->cW w (ts.map λ t=>t.aL t.zero) vs []:=by
   intro ts;induction ts with
   | nil=>intro vs h;cases vs<;>first|exact⟨rfl,rfl⟩|cases h
   | cons t ts ih =>
    intro vs h;cases vs with
    | nil=>cases h
    | cons v vs=>exact⟨v,vs,[],[],rfl,rfl,h.1,ih vs h.2⟩
  exact this _ _ (h2.imp λ t x ht hx=>LM hx (a2E st t ht))
 | _ =>
  simp only[zeroCells] at h1;match hc:z.cells.toList,h1 with
  | [x],h1=>exact LM h1.1 rfl
theorem bI.W3:∀ (ds:List D) {es:List D} {l m:List Value} {n:Nat},bI w ds l []->(∀ d∈ds,d.size=n)->l.length=ds.length * n->bI w es m []->bI w (ds++es) (l++m) []
 | [],es,l,m,n,_,_,hl,h=>by
  have:l=[]:=List.eq_nil_of_length_eq_zero (by simpa using hl);subst this;simpa using h
 | d::ds,es,l,m,n,h,hn,hl,h'=>by
  obtain⟨cc,r,f1,f2,rfl,hf,h3,h4⟩:=h;have hf:=(b9K.1 hf.symm);obtain⟨rfl,rfl⟩:=hf;have hc:cc.length=n:=by rw[Ow.length _ h3];exact hn d (by simp)
  refine⟨cc,r++m,[],[],by simp,rfl,h3,bI.W3 ds h4 (λ d hd=>hn d (by simp[hd])) ?_ h'⟩;simp only[b5Y,b5S,b6V,Nat.one_mul] at hl;omega
theorem bI.more:∀ (ds:List D) {l:List Value} {fp:List Nat} (m:List Value),bI w ds l fp->bI w ds (l++m) fp
 | [],_,_,_,h=>h
 | d::ds,_,_,m,h=>by
  obtain⟨cc,r,f1,f2,rfl,hf,h3,h4⟩:=h;exact⟨cc,r++m,f1,f2,by simp,hf,h3,bI.more ds m h4⟩
theorem HJ{d:D}{z:Array Value}(h:Ow w d z.toList []):∀ k:Nat,bI w (List.replicate k d) (madeCells z (k * z.size)).toList []
 | 0=>rfl
 | k+1=>by
  have hz:d.size=z.size:=by have:=Ow.length _ h;simpa using this.symm
  rw[Dr,b8A];refine bI.W3 (n:=z.size) _ (HJ h k) (λ e he=>by rw[b9w he];exact hz) (by simp[madeCells]) ⟨z.toList,[],[],[],by simp,rfl,h,rfl⟩
theorem Mn(h:Inv c G s a w)(id:Nat):Inv c G (s.gone id) a w:=by
 obtain⟨h1,_,_⟩:=h.clear id;have bS:(s.gone id).ai=λ i=>if i=id then none else (s.bQ id).ai i:=by
  funext i;exact eB id _ i
 unfold Inv;show bf c G (s.bQ id).sl (s.bQ id).aA.length (s.gone id).ai a w;rw[bS,show (s.bQ id).aA.length=s.aA.length from by simp[aq.bQ]];exact h1
theorem Cs(s:aq)(id i:Nat):(s.gone id).ai i=if i=id then none else (s.ai i).map (av.kill id):=by
 show ai (bB id (s.bQ id).aK) i=_;rw[eB,<-congrFun (dX s id) i];rfl
theorem wj:∀ (ids:List Nat) {s:aq},Inv c G s a w->Inv c G (ids.foldl aq.gone s) a w
 | [],_,h=>h
 | id::r,_,h=>wj r (Mn h id)
theorem a0j(id:Nat){τ:Ty}{xs:List τ.den}{o:Option av}(h:o=some (.aC τ xs)):o.map (av.kill id)=some (.aC τ xs):=by subst h;rfl
theorem NZ:∀ (ids:List Nat) {s:aq} {id:Nat} {τ:Ty} {xs:List τ.den},s.ai id=some (.aC τ xs)->id∉ids->(ids.foldl aq.gone s).ai id=some (.aC τ xs)
 | [],_,_,_,_,h,_=>h
 | i::r,s,id,τ,xs,h,hn=>by
  refine NZ r ?_ (λ hh=>hn (by simp[hh]));rw[Cs,b5I (λ e=>hn (by simp[e]))];exact a0j i h
theorem Iz:∀ (ids:List Nat) {s:aq} {i:Nat} {o:av},(ids.foldl aq.gone s).ai i=some o->i∉ids/\∃ o',s.ai i=some o'/\∀ τ xs,o = .aC τ xs->o' = .aC τ xs
 | [],s,i,o,h=>⟨by simp,o,h,λ _ _ e=>e⟩
 | id::r,s,i,o,h=>by
  obtain⟨h1,o',h2,h3⟩:=Iz r h;rw[Cs] at h2;split at h2
  .cases h2
  .rename_i eu;simp only[b6C] at h2;obtain⟨p,hp,hk⟩:=h2;refine⟨by simp[eu,h1],p,hp,λ τ xs e=>?_⟩;have:=h3 τ xs e;subst this;have hm:(some p).map (av.kill id)=some (.aC τ xs):=by rw[<-hk];rfl
   have:=jl hm;simpa using this
theorem FX{o:Oper}{T:TypeId}{ad x:Operand}(bh:o.op = .store T ad x){w':World}{s':aq}{G':Gh}(hr:(Instr.storeAt T (a.eval ad) (a.eval x)).run c.P w = .ok () w')(hI:Inv c G' (s'.put none .any) a w'){Q:Exit->Act->World->Prop} :
  o.wp c.P a w (λ a' w'=>∃ G',Inv c G' (s'.put o.dst .any) a' w') Q:=by
 unfold Oper.wp;have:(execOp a.eval o).run c.P w = .ok .skip w':=by simp only[execOp,bh,Sem.run_bind,hr,Result.andThen_ok,Sem.run_pure]
 rw[this];exact⟨G',Inv.put (s:=s') hI trivial⟩
theorem Sj(hE:bl c.P c.E)(h:Inv c G s a w){T:TypeId}{τ aU:Ty}{bt e:Nat}(hT:ai c.E.ty T=some (τ,bt,e)){id i off:Nat}{xs:List aU.den}(aS:s.ai id=some (.aC aU xs)){p x:Value}(hp:VR c G s.ai w (.eJ id i off aU.size) p)(pe:off+τ.size<=aU.size)
  (sd:x.cells.toList.length=τ.size) (EZ:∀ u∈x.cells.toList,u.oneCell'=true) {y:aU.den}
  (hO:∀ (b:Nat) (f:List Nat) (l:List Value) (w':World),G.φ id=b::f->l.length>=i * aU.size+aU.size->bI w (xs.map aU.aL) l f->(∀ k,k≠b->w'.heap[k]?=w.heap[k]?) ->
   ∃ f',bI w' ((xs.set i y).map aU.aL) (l.take (i * aU.size+off)++x.cells.toList++l.drop (i * aU.size+off+τ.size)) f'/\f'.Nodup/\b∉f'/\∀ k∈f',k∈f\/uM c G s.ai w k) :
  ∃ w' G',(Instr.storeAt T p x).run c.P w = .ok () w'/\Inv c G' (s.cj.gb id aU (xs.set i y)) a w':=by
 obtain⟨_,b,n,cap,l,e9,hi,rfl⟩:=hp;obtain⟨rfl,b',f,t,e1,mX,hh,gG⟩:=vA (h.aP.tr id aU xs aS) e9 hi;simp only[b5E,b7G,b5W] at e1;subst e1;have cr:∀ d∈xs.map aU.aL,d.size=aU.size:=by
  intro d hd;obtain⟨z,_,rfl⟩:=b5N.1 hd;exact Ty.cA aU z
 obtain⟨_,_,_,_,hlen,_,_⟩:=bI.split (xs.map aU.aL) i (aU.aL (xs.getD i aU.zero)) gG cr (by simp[List.getD,hi]);have cJ:=CG (c:=c) (l:=l) hE hT (o:=i * aU.size+off) (x:=x) hh sd EZ (by omega);have AI:∀ k,k≠b->(w.setRow b (l.take (i * aU.size+off)++x.cells.toList++l.drop (i * aU.size+off+τ.size)).toArray).heap[k]?=w.heap[k]?:=λ k hk=>me w hh k hk;obtain⟨f',k1,k2,k3,k4⟩:=hO b f l _ mX hlen gG AI;have pZ:=c0g w b l.toArray (l.take (i * aU.size+off)++x.cells.toList++l.drop (i * aU.size+off+τ.size)).toArray t (0,0) hh;have XD:iK (w.setRow b (l.take (i * aU.size+off)++x.cells.toList++l.drop (i * aU.size+off+τ.size)).toArray) (.tuple (.slice (some ⟨b,0,none⟩) xs.length cap::(l.take (i * aU.size+off)++x.cells.toList++l.drop (i * aU.size+off+τ.size))).toArray) aU (xs.set i y) (b::f'):=by
  obtain⟨v0,l0,a1,TI,h1,h2,h3,h4,h5,h6⟩:=h.aP.tr id aU xs aS;rw[e9] at h1;simp only[b7q] at h1;have h1:(Value.slice (some ⟨b,0,none⟩) xs.length cap::l)=v0::l0:=congrArg Array.toList h1;simp only[b5J] at h1;obtain⟨hq,E1⟩:=h1;rw[h2] at hq;simp only[b7A] at hq;obtain⟨rfl,_,rfl⟩:=hq;have EU:l.length=cap * aU.size:=by
   rw[E1];rcases h6 with ⟨_,h',_⟩|⟨_,_,_,_,_,_,k0,_⟩
   .cases h'.1
   .exact k0
  exact⟨_,_,_,cap,rfl,by simp,by simpa using h3,h4,by simpa using h5, .inr ⟨b,f',t,rfl,rfl,pZ,by rw[<-EU];simp only[List.length_append,List.length_take,List.length_drop,sd];omega,k1⟩⟩
 have Q2:=h.aP.pl id aU xs;have:=h.a2y (w':=w.setRow b (l.take (i * aU.size+off)++x.cells.toList++l.drop (i * aU.size+off+τ.size)).toArray) (t:=s.cj.gb id aU (xs.set i y)) (F:=λ k=>k=b)
  (A:=[(id,(.tuple (.slice (some ⟨b,0,none⟩) xs.length cap::(l.take (i * aU.size+off)++x.cells.toList++l.drop (i * aU.size+off+τ.size))).toArray,b::f', .aC aU (xs.set i y)))]) ?_ ?_ ?_ (by simp)
  ⟨rfl,rfl,rfl,by simp[World.setRow],λ k hk eu=>AI k eu⟩ (λ k hk=>⟨_,b5Z.2 rfl,by rw[mX,hk];simp⟩) rfl (λ j=>?_) (d:=none) (v := .any) (x:=undef) (λ _ _=>trivial)
 .obtain⟨G',hG⟩:=this;exact⟨_,G',cJ,hG⟩
 .intro p hp;simp only[b5Z] at hp;subst hp;exact⟨aU,xs,_,_,l,_,aS,rfl,e9,rfl,XD,b6z.2 ⟨k3,k2⟩⟩
 .intro p hp k hk;simp only[b5Z] at hp;subst hp;rcases b5X.1 hk with rfl|hk
  .exact .inl ⟨_,b5Z.2 rfl,by rw[mX];simp⟩
  .rcases k4 k hk with hk|hk
   .exact .inl ⟨_,b5Z.2 rfl,by rw[mX];simp[hk]⟩
   .exact .inr (hk.grow (by simp[World.setRow]))
 .intro p hp q hq k _ _;simp only[b5Z] at hp hq;rw[hp,hq]
 .rw[Sp,kt]
theorem yM.cells{w:World}{τ:Ty}{y:τ.den}{x:Value}{fp:List Nat}(h:yM w ⟨τ,y⟩ x fp):Ow w (τ.aL y) x.cells.toList fp:=by
 cases τ with
 | st s =>
  obtain⟨cs,rfl,h⟩:=h;exact h
 | slice t =>
  obtain⟨a',cap,h1,_⟩:=id h;simp only[b5J,b5W] at h1;subst h1;exact h
 | mv t =>
  have h1:=Ow.length _ (show Ow w (mvD t.size t.aL y) [x] fp from h);cases hy:(show Option (List t.den) from y) with
  | none =>
   have e:y=(none:Option (List t.den)):=hy;subst e;obtain⟨⟨a',n,m,h1⟩,_⟩:=id h;simp only[b5J,b5W] at h1;subst h1;exact h
  | some l =>
   have e:y=(some l:Option (List t.den)):=hy;subst e;obtain⟨a',cap,h1,_⟩:=id h;simp only[b5J,b5W] at h1;subst h1;exact h
 | ptr=>obtain⟨⟨p,h1⟩,_⟩:=id h;simp only[b5J,b5W] at h1;subst h1;exact h
 | int k=>obtain⟨⟨h1,_⟩,_⟩:=id h;simp only[b5J,b5W] at h1;subst h1;exact h
 | bool=>have h1:=h.1;simp only[b5J,b5W] at h1;subst h1;exact h
 | str=>obtain⟨⟨z,h1,_⟩,_⟩:=id h;simp only[b5J,b5W] at h1;subst h1;exact h
theorem Sa(l:List Value)(k:Nat)(v:Value)(h:k<l.length):l.take k++[v]++l.drop (k+1)=l.set k v:=by
 rw[List.set_eq_take_append_cons_drop,b5Q h,b6v];rfl
theorem Kp(h:Inv c G s a w){ids:List Nat}{b:Nat}(hb:vF G s.ai ids b):uM c G (ids.foldl aq.gone s).ai w b:=by
 obtain⟨id,hi,hq⟩:=hb;have hp:(c.w0.heap.size<=b\/c.X b)/\¬ G.S b/\b<w.heap.size:=by
  rcases hq with ⟨τ,xs,q1,q2⟩|⟨e,τ,xs,q1,q2⟩
  .obtain⟨p1,p2,p3,_⟩:=h.aP.pl id τ xs b q1 q2;exact⟨p1,p2,p3⟩
  .obtain⟨p1,p2,p3⟩:=h.place id _ b q1 q2;exact⟨p1,p2,p3⟩
 refine⟨hp.1,hp.2.1,hp.2.2,λ i o cq tJ=>?_,λ j τ xs hj mV=>?_⟩
 .obtain⟨h1,o',h2,_⟩:=Iz ids cq;rcases hq with ⟨τ,xs,q1,q2⟩|⟨e,τ,xs,q1,q2⟩
  .exact (h.aP.pl id τ xs b q1 q2).2.2.2 i o' h2 tJ
  .have:=h.apart i id o' _ b h2 q1 tJ q2;subst this;exact h1 hi
 .obtain⟨h1,o',h2,h3⟩:=Iz ids hj;have:=h3 τ xs rfl;subst this;rcases hq with ⟨aU,cK,q1,q2⟩|⟨e,aU,cK,q1,q2⟩
  .have:=h.aP.ap j id _ _ _ _ b h2 q1 mV q2;subst this;exact h1 hi
  .exact (h.aP.pl j τ xs b h2 mV).2.2.2 id _ q1 q2
theorem a6C{l:List Operand}{u v:AV}(h:Inv c G s a w)(hl:l.map s.eval=[u,v]):∃ x y,l.map a.eval=[x,y]/\VR c G s.ai w u x/\VR c G s.ai w v y:=by
 have:=aM.jV (aW h) l;rw[hl] at this;match hx:l.map a.eval,this with
 | [x,y],hh=>exact⟨x,y,rfl,hh.1,hh.2.1⟩
theorem ED{lk:Nat->Option av}{id i sz:Nat}(hit:cR (lk id)=true){a0:Option Addr}{n cap:Nat}{l:List Value}(e9:G.η id = .tuple (.slice a0 n cap::l).toArray)(fv:i<n):∀ (us:List TV) (j:Nat) (cs:List Value) (fp:List Nat),(∀ u∈us,ZI u.τ=true) ->
  cW w (us.map TV.aL) cs fp->(∀ k x,cs[k]?=some x->l[i * sz+(j+k)]?=some x)->aM (C1 c G lk w) (Mj id i sz j us) cs
 | [],j,cs,fp,_,h,_=>by
  obtain⟨rfl,_⟩:=h;trivial
 | ⟨τ,y⟩::us,j,cs,fp,hok,h,hl=>by
  obtain⟨v,r,f1,f2,rfl,rfl,h3,h4⟩:=h;have ih:=ED hit e9 fv us (j+1) r f2 (λ u hu=>hok u (List.mem_cons_of_mem _ hu)) h4 (λ k x hk=>by have:=hl (k+1) x (by simpa using hk);rwa [show j+(k+1)=j+1+k by omega] at this);have ho:ZI τ=true:=hok ⟨τ,y⟩ (by simp);have hv:=hl 0 v rfl;refine⟨?_,ih⟩;cases τ with
  | slice t =>
   refine⟨hit,_,_,_,_,e9,fv,hv,?_⟩;obtain⟨a',TH,q,_⟩:=h3;simp only[b5J,b5W] at q;exact⟨_,_,_,q⟩
  | mv t=>cases ho
  | st s=>cases ho
  | int k=>exact⟨rfl,h3.1⟩
  | bool=>exact⟨rfl,h3.1⟩
  | str=>exact⟨rfl,h3.1⟩
  | ptr=>exact⟨rfl,h3.1⟩
theorem a0u(hE:bl c.P c.E)(h:Inv c G s a w){o:Oper}{vc:Vc}{s':aq}(hq:Wn c.E s o=some (vc,s'))(eb:vc.ok){Q:Exit->Act->World->Prop} :
  o.wp c.P a w (λ a' w'=>∃ G',Inv c G' s' a' w') Q:=by
 unfold Wn at hq;split at hq;case h_1 T x ix bh =>
  split at hq;case h_2=>cases hq
  case h_1 τ r hT =>
  split at hq;case h_2=>cases hq
  case h_1 k i id hi hx =>
  split at hq;case h_2=>cases hq
  case h_1 aU xs aS =>
  split at hq;case h_2=>cases hq
  case h_1 eN =>
  have cr:aU.size=τ.size:=by
   simp only[b7d] at eN;rcases eN with eN|eN
   .rw[b6n eN]
   .unfold Ty.a9E at eN;split at eN
    .rename_i p q;have e:=congrArg List.length (b6n eN);rw[b6G] at e;have e1:=congrArg List.length (aH.jG p p.zero);have e2:=congrArg List.length (aH.jG q q.zero);rw[b6G,aH.gm] at e1 e2;simp only[Ty.size];omega
    .cases eN
  simp only[b5E,b5H] at hq;obtain⟨rfl,rfl⟩:=hq;have hJ:=aW h ix;rw[hi] at hJ;obtain⟨hJ,_⟩:=hJ;simp only[b5J,b5W] at hJ;have hv:=aW h x;rw[hx] at hv;obtain⟨hit,l,e9,ad,m,cap,zp⟩:=hv;obtain⟨h0,h1⟩:=eb;have hTr:=h.aP.tr id aU xs aS;rw[zp] at e9;have hm:m=xs.length:=by
   obtain⟨v0,l0,a1,TI,q1,q2,_⟩:=hTr;rw[e9] at q1;simp only[b7q] at q1;have q1:(Value.slice ad m cap::l)=v0::l0:=congrArg Array.toList q1;simp only[b5J] at q1;rw[q2] at q1;simp only[b7A] at q1;exact q1.1.2.1
  subst hm;obtain⟨_,b,f,t,e1,_⟩:=vA hTr e9 (i:=i.toNat) (by omega);subst e1;refine Bf h (x := .pointer (some ⟨b,0+i.toNat * τ.size,none⟩)) ?_ ⟨hit,b,_,cap,l,e9,by omega,by simp⟩;simp only[execOp,bh,zp,hJ,b6p,pG hE hT h0 h1,b6i,b6q]
 case h_2 T x i bh =>
  split at hq;case h_2=>cases hq
  case h_1 st r hT =>
  split at hq;case h_2=>cases hq
  case h_1 id k off sz hx =>
  split at hq;case h_2=>cases hq
  case h_1 bp =>
  simp only[Option.some.injEq,Prod.mk.injEq] at hq;obtain⟨rfl,rfl⟩:=hq;simp only[Bool.and_eq_true,Bool.not_eq_true'] at bp;have ha:=bp.1;have bp:i<st.c9.length:=by simpa [Nat.blt_eq] using bp.2
  have hv:=aW h x;rw[hx] at hv;obtain⟨h1,b,m,cap,l,h2,h3,h4⟩:=hv;refine Bf h (x := .pointer (some ⟨b,k * sz+(off+st.dL i),none⟩)) ?_ ⟨h1,b,m,cap,l,h2,h3,rfl⟩;simp only[execOp,bh,h4,b6p,CF hE hT ha bp,b6i,b6q,b8E]
 case h_3 T ad bh =>
  split at hq;case h_2=>cases hq
  case h_1 τ r hT =>
  split at hq;case h_2=>cases hq
  case h_1 id i off sz hx =>
  split at hq;case h_2=>cases hq
  case h_1 aU xs aS =>
  split at hq;case h_2 =>
   unfold Yc at hq;split at hq;case h_2=>cases hq
   case h_1 q hU =>
   clear hU;split at hq;case h_2=>cases hq
   case h_1 y hb hy =>
   simp only[b5E,b5H] at hq;obtain⟨rfl,rfl⟩:=hq;have hpq:aU = .st q/\HEq (xs.getD i aU.zero) y:=by
    have e:=TV.aN hy;simp only[TV.mk.injEq] at e;exact e
   obtain⟨rfl,e2⟩:=hpq;have e2:=b8K e2;simp only[b5M] at hb;obtain⟨wv,ET,QU⟩:=hb;have wv:=b5G wv;have ET:=b5G ET;subst wv ET;have hv:=aW h ad;rw[hx] at hv;obtain⟨h1,b,m,cap,l,h2,h3,h4⟩:=hv;have XD:=h.aP.tr id _ xs aS;obtain⟨hn,b',f,t,e1,Rf,hh,gG⟩:=vA XD h2 h3;simp only[b5E,b7G,b5W] at e1;subst e1;have Ra:i<xs.length:=by omega
   have EU:l.length=cap * q.size/\xs.length<=cap:=by
    obtain⟨v0,l0,a1,TI,k1,k2,k3,k4,k5,k6⟩:=XD;rw[h2] at k1;simp only[b7q] at k1;have k1:(Value.slice (some ⟨b,0,none⟩) m cap::l)=v0::l0:=congrArg Array.toList k1;simp only[b5J] at k1;obtain⟨k7,rfl⟩:=k1;rw[k2] at k7;simp only[b7A] at k7;obtain⟨_,_,rfl⟩:=k7;rcases k6 with ⟨rfl,_,_⟩|⟨_,_,_,_,_,_,k8,_⟩
    .simp at Ra
    .exact⟨k8,k3⟩
   have cr:∀ d∈xs.map (Ty.aL (.st q)),d.size=q.size:=λ d hd=>by
    obtain⟨z,_,rfl⟩:=b5N.1 hd;exact Ty.cA (.st q) z
   obtain⟨f0,f1,f2,hf,m0,m1,m2⟩:=bI.split (xs.map (Ty.aL (.st q))) i (Ty.aL (.st q) (xs.getD i (Ty.zero (.st q)))) gG cr (by simp[List.getD,Ra]);have uy:((l.drop (i * q.size)).take q.size).length=q.size:=by
    rw[b6T,b7e,EU.1];have:i * q.size+q.size<=cap * q.size:=by rw[<-Nat.succ_mul];exact b7M _ (by omega)
    omega
   have m1:cW w ((q.cells y).map TV.aL) ((l.drop (i * q.size)).take q.size) f1:=by
    have:=m1;rw[show Ty.aL (.st q) (xs.getD i (Ty.zero (.st q)))=q.aL (xs.getD i (Ty.zero (.st q))) from rfl,aH.bT] at this;rw[<-e2];exact this
   have N3:∀ k x,((l.drop (i * q.size)).take q.size)[k]?=some x->l[i * q.size+k]?=some x:=λ k x hk=>by
    rw[b7h] at hk;split at hk
    .rwa [b8d] at hk
    .cases hk
   have mW:bP w b (i * q.size+0) ((l.drop (i * q.size)).take q.size):=λ j z hj=>by
    simp[World.cell?,hh,N3 j z hj]
   refine Bf h (x := .agg ((l.drop (i * q.size)).take q.size).toArray) ?_ ⟨_,rfl,ED h1 h2 h3 (q.cells y) 0 _ f1 (λ u hu=>?_) m1 (λ k x hk=>by rw[b7P];exact N3 k x hk)⟩
   .simp only[execOp,bh,h4,b6p,jB hE hT mW uy,b6i,b6q];rfl
   .have:u.τ∈q.oj:=by rw[<-aH.jG q y];exact b5N.2 ⟨u,hu,rfl⟩
    exact b6y.1 QU _ this
  case h_1 u hu hb =>
  simp only[Bool.and_eq_true,Bool.not_eq_true'] at hb;obtain⟨wv,ET,QU⟩:=hb;have wv:=Nat.eq_of_beq_eq_true wv;subst wv;have QU:off<aU.size:=by simpa [Nat.blt_eq] using QU
  have hv:=aW h ad;rw[hx] at hv;obtain⟨h1,b,m,cap,l,h2,h3,h4⟩:=hv;obtain⟨rfl,v,f1,p1,p2,_⟩:=a0U (h.aP.tr id aU xs aS) (h.aP.nd id aU xs aS) h2 h3 hu ET QU;obtain⟨_,b',f,t,e1,_,hh,_⟩:=vA (h.aP.tr id aU xs aS) h2 h3;simp only[b5E,b7G,b5W] at e1;subst e1;have mW:bP w b (i * aU.size+off) [v]:=λ j z hj=>by
   cases j with
   | zero =>
    simp at hj;subst hj;simp[World.cell?,hh,p1]
   | succ j=>simp at hj
  have hs1:τ.size=1:=Ty.fi ET;have cJ:(execOp a.eval o).run c.P w = .ok (.value (A2 τ [v])) w:=by
   simp only[execOp,bh,h4,b6p,jB hE hT mW (by rw[hs1];rfl),b6i,b6q]
  have hmk:A2 τ [v]=v:=by cases τ<;>first|rfl|cases ET
  rw[hmk] at cJ;have hut:u.τ=τ:=by
   unfold TV.part at hu;split at hu
   .rename_i im;simp only[b5M] at im;simp only[b5E] at hu;rw[<-hu];exact b6n im.2
   .split at hu
    .split at hu
     .rename_i hd;simp only[b5E] at hu;rw[<-hu];exact b6n hd
     .cases hu
    .cases hu
  split at hq;case h_1 AK =>
   simp only[b5E,b5H] at hq;obtain⟨rfl,rfl⟩:=hq;refine Bf h cJ ?_;obtain⟨Zc,yu⟩:=u;have hut:Zc=τ:=hut;subst hut;have hl:(Ty.aL Zc yu).light=true:=sS AK yu;have hr:Rd w G.S (Ty.aL Zc yu) [v]:=by
    cases Zc with
    | int k=>exact p2.1
    | bool=>exact p2.1
    | str=>exact p2.1
    | slice t=>cases AK
    | mv t=>cases AK
    | ptr=>exact p2.1
    | st s=>cases AK
   cases Zc with
   | mv t=>cases AK
   | st s=>cases AK
   | slice t=>cases AK
   | _=>exact hr
  case h_2 AK =>
   simp only[b5E,b5H] at hq;obtain⟨rfl,rfl⟩:=hq;refine Bf h cJ ⟨h1,_,_,cap,l,h2,h3,p1,?_⟩;obtain⟨Zc,yu⟩:=u;have hut:Zc=τ:=hut;subst hut;cases Zc with
   | slice t =>
    obtain⟨a',TH,q,_⟩:=p2;simp only[b5J,b5W] at q;exact⟨_,_,_,q⟩
   | st s=>cases ET
   | mv t =>
    cases hy:(show Option (List t.den) from yu) with
    | none =>
     have e:yu=(none:Option (List t.den)):=hy;subst e;obtain⟨⟨a',n,m,q⟩,_⟩:=p2;simp only[b5J,b5W] at q;exact⟨_,_,_,q⟩
    | some l =>
     have e:yu=(some l:Option (List t.den)):=hy;subst e;obtain⟨a',TH,q,_⟩:=p2;simp only[b5J,b5W] at q;exact⟨_,_,_,q⟩
   | int k=>cases AK
   | bool=>cases AK
   | str=>cases AK
   | ptr=>cases AK
 case h_4 T ad x bh =>
  split at hq;case h_2=>cases hq
  case h_1 τ r hT =>
  split at hq;case h_2=>cases hq
  case h_1 id i off sz hx =>
  split at hq;case h_2=>cases hq
  case h_1 aU xs aS =>
  split at hq;case h_2=>cases hq
  case h_1 hb =>
  simp only[Bool.and_eq_true] at hb;obtain⟨wv,QU⟩:=hb;have wv:=Nat.eq_of_beq_eq_true wv;subst wv;have QU:off<aU.size:=by simpa [Nat.blt_eq] using QU
  have hp:=aW h ad;rw[hx] at hp;have V1:=aW h x;have fv:i<xs.length:=by
   obtain⟨_,b,m,cap,l,h2,h3,_⟩:=hp;obtain⟨h4,_⟩:=vA (h.aP.tr id aU xs aS) h2 h3;omega
  split at hq;case h_1 AK =>
   split at hq;case h_2=>cases hq
   case h_1 u j hu =>
   split at hq;case h_2=>cases hq
   case h_1 u0 y hu0 hy =>
   simp only[b5E,b5H] at hq;obtain⟨rfl,rfl⟩:=hq;have C7:τ.agg=false:=by cases τ<;>first|rfl|cases AK
   have hs1:τ.size=1:=Ty.fi C7;have mW:(a.eval x).cells.toList=[a.eval x]/\(a.eval x).oneCell'=true/\Ow w (τ.aL u) [a.eval x] []:=by
    have hc:C1 c G s.ai w (s.eval x) (a.eval x)/\(s.eval x).cell=true:=by
     have hcc:(s.eval x).cell=true:=by
      revert hu;cases cG:s.eval x with
      | aO v =>
       intro hu;simp only[eY] at hu;split at hu
       .rename_i hy';have e:=TV.aN hy';subst e;cases τ<;>first|rfl|cases C7
       .cases hu
      | nil=>intro hu;cases τ<;>first|(cases AK;done)|(cases hu;done)
      | aC id=>intro hu;simp[eY] at hu
      | row id=>intro hu;simp[eY] at hu
      | _=>intro hu;cases hu
     exact⟨V1.UP hcc,hcc⟩
    obtain⟨q1,q2⟩:=hc.1.leaf hc.2;refine⟨by rw[q2],q1,?_⟩;revert hu;have Mv:=hc.1;revert Mv;cases s.eval x with
    | aO v =>
     intro Mv hu;simp only[eY] at hu;split at hu
     .rename_i b3Y hy';have e:=TV.aN hy';subst e;simp only[b5E,b5H] at hu;rw[<-hu.1];exact Ow.eV (S:=G.S) _ (sS b3Y _) Mv.2
     .cases hu
    | nil=>intro _ hu;cases τ<;>first|(cases AK;done)|(cases hu;done)
    | aC id=>intro _ hu;simp[eY] at hu
    | row id=>intro _ hu;simp[eY] at hu
    | _=>intro _ hu;cases hu
   obtain⟨c1,c2,c3⟩:=mW;obtain⟨w',G',k1,k2⟩:=Sj hE h hT aS hp (y:=y) (x:=a.eval x) (by omega) (by rw[c1,hs1];rfl) (by rw[c1];simpa using c2) (λ b f l w' Rf hlen gG AI=>by
    have cr:∀ d∈xs.map aU.aL,d.size=aU.size:=by
     intro d hd;obtain⟨z,_,rfl⟩:=b5N.1 hd;exact Ty.cA aU z
    have c6:=h.aP.nd id aU xs aS;rw[Rf,b6z] at c6;obtain⟨SR,Q0⟩:=c6;have iC:∀ k∈f,w'.heap[k]?=w.heap[k]?:=λ k hk=>AI k λ e=>SR (e ▸ hk);obtain⟨g0,g1,g2,rfl,_,m1,m2⟩:=bI.split (xs.map aU.aL) i (aU.aL (xs.getD i aU.zero)) gG cr (by simp[List.getD,fv]);obtain⟨v,p0,p1,p2,rfl,q1,q2,q3⟩:=Og hu0 C7 m1;have hy2:=q3 w' ⟨τ,u⟩ y (a.eval x) [] hy (λ k hk=>iC k (by simp at hk ⊢;rcases hk with hk|hk<;>simp[hk])) (c3.keep _ (by simp));have hr:=m2 w' (aU.aL y) _ (p0++[]++p2) (λ k hk=>iC k (by simp at hk ⊢;rcases hk with hk|hk<;>simp[hk])) (by simp only[b7s,b6T,b7e];omega) hy2;rw[YO l _ _ _ _ QU hlen,<-b9v] at hr;refine⟨_,by rw[c1,hs1,Sa _ _ _ (by omega)];exact hr,?_,λ hk=>SR ?_,λ k hk => .inl ?_⟩
    .refine yD (f1:=p0++p1++p2) Q0 (yD (f1:=p1) ?_ b7c (by simp)) (λ k hk => .inl (by simp at hk ⊢;rcases hk with hk|hk<;>simp[hk]));rw[b6l,b6l] at Q0;exact Q0.1.2.1
    .simp at hk ⊢;rcases hk with hk|hk|hk|hk<;>simp[hk]
    .simp at hk ⊢;rcases hk with hk|hk|hk|hk<;>simp[hk])
   exact FX bh k1 k2
  case h_2 AK =>
   split at hq;case h_2=>cases hq
   case h_1 y ids pe ht =>
   split at hq;case h_2=>cases hq
   case h_1 y' c6 hy' =>
   simp only[b5E,b5H] at hq;obtain⟨rfl,rfl⟩:=hq;have pe:=b5G pe;subst pe;have e:=TV.aN hy';have et:τ=aU:=congrArg TV.τ e;subst et;cases e;have c6:=cZ c6;rw[b6z] at c6;obtain⟨a9v,a7X⟩:=c6;obtain⟨fq,o1,o2,o3⟩:=sU h ht V1 a7X;have jt:=yM.cells o1;have hlen:=Ow.length _ jt;rw[Ty.cA] at hlen;have h1:=wj ids h;have Ui:=NZ ids aS a9v;obtain⟨_,b0,m0,b2M,l0,b4c,hi0,hp0⟩:=hp;obtain⟨w',G',k1,k2⟩:=Sj hE h1 hT Ui (i:=i) (off:=0) (p:=a.eval ad) ⟨by rw[Ui];rfl,b0,m0,b2M,l0,b4c,hi0,hp0⟩ (y:=y) (x:=a.eval x) (by omega) hlen
    (Rd.qV (S:=λ b=>b∈fq) (x:=y) (Ow.rd _ jt λ b hb=>hb)) (λ b f l w' Rf b4R gG AI=>by
    have cr:∀ d∈xs.map τ.aL,d.size=τ.size:=by
     intro d hd;obtain⟨z,_,rfl⟩:=b5N.1 hd;exact Ty.cA τ z
    have a1L:=h.aP.nd id τ xs aS;rw[Rf,b6z] at a1L;obtain⟨SR,Q0⟩:=a1L;have iC:∀ k∈f,w'.heap[k]?=w.heap[k]?:=λ k hk=>AI k λ e=>SR (e ▸ hk);have ya:∀ k∈fq,k∉b::f:=λ k hk iP=>by
     refine h.iD (o3 k hk) (j:=[id]) ⟨id,by simp, .inl ⟨τ,xs,aS,by rw[Rf];exact iP⟩⟩ λ x1 Q9 y1 S3 e=>?_;simp only[b5Z] at S3;exact a9v (by rw[<-S3,<-e];exact Q9)
    obtain⟨g0,g1,g2,rfl,_,m1,m2⟩:=bI.split (xs.map τ.aL) i (τ.aL (xs.getD i τ.zero)) gG cr (by simp[List.getD,fv]);have hr:=m2 w' (τ.aL y) (a.eval x).cells.toList fq (λ k hk=>iC k (by simp at hk ⊢;rcases hk with hk|hk<;>simp[hk])) hlen (jt.keep _ λ k hk=>AI k λ e=>ya k hk (by simp[e]));rw[<-b9v] at hr;refine⟨g0++fq++g2,by rw[b7W];exact hr,?_,λ hk=>?_,λ k hk=>?_⟩
    .rw[b6l,b6l] at Q0;obtain⟨⟨n1,n2,n3⟩,n4,n5⟩:=Q0;refine dS (dS n1 o2 λ k hk iP=>ya k iP (by simp[hk])) n4 λ k hk iP=>?_;rcases b5F.1 hk with hk|hk
     .exact n5 k (b5F.2 (.inl hk)) k iP rfl
     .exact ya k hk (by simp[iP])
    .rcases b5F.1 hk with hk|hk
     .rcases b5F.1 hk with hk|hk
      .exact SR (by simp[hk])
      .exact ya b hk (by simp)
     .exact SR (by simp[hk])
    .rcases b5F.1 hk with hk|hk
     .rcases b5F.1 hk with hk|hk
      .exact .inl (by simp[hk])
      .exact .inr (Kp h (o3 k hk))
     .exact .inl (by simp[hk]))
   exact FX bh k1 k2
 case h_5 T l cc bh =>
  split at hq;case h_2=>cases hq
  case h_1 d τ b e hd hT =>
  split at hq;case h_2=>cases hq
  case h_1 kV =>
  have b3M:d<50\/100<=d:=by
   simp only[b5M,b7d] at kV;rcases kV.2 with q|q
   .exact .inl (by simpa [Nat.blt_eq] using q)
   .exact .inr (b6R q)
  split at hq;case h_2=>cases hq
  case h_1 n m hn hm =>
  simp only[b5E,b5H] at hq;obtain⟨rfl,rfl⟩:=hq;have hl:=aW h l;have hc:=aW h cc;rw[hn] at hl;rw[hm] at hc;obtain⟨hl,_⟩:=hl;obtain⟨hc,_⟩:=hc;simp only[b5J,b5W] at hl hc;obtain⟨v1,v2,v3,v4⟩:=Ob eb;obtain⟨h1,_,i,z,h3,h4,h5,h6,h7⟩:=hE.slice hT;have hzo:=a6y (c:=c) (G:=G) (s:=s) (w:=w.alloc (.cells (madeCells z.cells (m.toNat * i.size)) e)) h7;have hzl:=Ow.length _ hzo;rw[Ty.cA,b6M] at hzl;have hr:=run_make (P:=c.P) w T e i z h1 h3 h6 .i64 .i64 n m v1 v2 (by rw[h5];omega) (by omega);have hI:=bf.alloc (Mn h d) (.cells (madeCells z.cells (m.toNat * i.size)) e);have qE:(s.gone d).ai d=none:=by rw[Cs,b5Q rfl]
  obtain⟨r1,r2⟩:=hI.RP qE;have gG:bI (w.alloc (.cells (madeCells z.cells (m.toNat * i.size)) e)) ((List.replicate n.toNat τ.zero).map τ.aL) (madeCells z.cells (m.toNat * i.size)).toList []:=by
   rw[c0c];have hle:n.toNat * z.cells.size<=m.toNat * i.size:=by rw[h4,hzl];exact b7M _ (by omega)
   have:=bI.more _ ((madeCells z.cells (m.toNat * i.size)).toList.drop (n.toNat * z.cells.size)) (HJ hzo n.toNat);rwa [<-Ds _ _ _ hle,b7l] at this
  have XD:iK (w.alloc (.cells (madeCells z.cells (m.toNat * i.size)) e)) (.tuple (.slice (some ⟨w.heap.size,0,none⟩) n.toNat m.toNat::(madeCells z.cells (m.toNat * i.size)).toList).toArray) τ (List.replicate n.toNat τ.zero) [w.heap.size] :=
   ⟨_,_,some ⟨w.heap.size,0,none⟩,m.toNat,rfl,by simp,by simp;omega,by simp only[maxLen];omega,by simp;omega, .inr ⟨w.heap.size,[],e,rfl,rfl,by simpa using heap_alloc_new w (.cells (madeCells z.cells (m.toNat * i.size)) e),by simp[madeCells,h4],gG⟩⟩
  have hN:=hI.RL d τ (List.replicate n.toNat τ.zero) _ [w.heap.size] qE r1 r2 (by
   cases hr:c.R d with
   | none=>rfl
   | some v =>
    have h1:=h.fZ d v hr;rcases b3M with q|q
    .exact absurd h1.1 (Nat.not_le.2 q)
    .exact absurd h1.2 (Nat.not_lt.2 q)) XD (by simp) (λ k hk=>by
   simp only[b5Z] at hk;subst hk;have hg:=Mn h d;refine⟨.inl h.keep.size,λ hs=>b8n _ (h.dx _ hs),by simp,λ i o cq tJ=>?_,λ j j0 mA hj mV=>?_⟩
   .exact b8n _ (hg.place i o _ cq tJ).2.2
   .exact b8n _ (hg.aP.pl j j0 mA _ hj mV).2.2.1)
  unfold Oper.wp;have cJ:(execOp a.eval o).run c.P w = .ok (.value (.slice (some ⟨w.heap.size,0,none⟩) n.toNat m.toNat)) (w.alloc (.cells (madeCells z.cells (m.toNat * i.size)) e)):=by
   simp only[execOp,bh,hl,hc,b6p,hr,b6i,b6q]
  rw[cJ];have key:=bf.put (d:=some d) (v := .aC d) (x := .slice (some ⟨w.heap.size,0,none⟩) n.toNat m.toNat) hN ⟨by simp[cR],_,by simp;rfl,_,_,_,rfl⟩;have bS:aq.ai { aA:=(s.gone d).aA.set d (.aC d),aK:=(d, .aC τ (List.replicate n.toNat τ.zero))::(s.gone d).aK }=λ i=>if i=d then some (.aC τ (List.replicate n.toNat τ.zero)) else (s.gone d).ai i:=by
   funext i;exact dr _ _ _ _
  have conv:∀ G',bf c G' (jD (s.gone d).aA.length (s.gone d).sl (some d) (.aC d)) (s.gone d).aA.length (λ i=>if i=d then some (.aC τ (List.replicate n.toNat τ.zero)) else (s.gone d).ai i) (a.put (some d) (.slice (some ⟨w.heap.size,0,none⟩) n.toNat m.toNat)) (w.alloc (.cells (madeCells z.cells (m.toNat * i.size)) e))->Inv c G' { aA:=(s.gone d).aA.set d (.aC d),aK:=(d, .aC τ (List.replicate n.toNat τ.zero))::(s.gone d).aK } (a.put o.dst (.slice (some ⟨w.heap.size,0,none⟩) n.toNat m.toNat)) (w.alloc (.cells (madeCells z.cells (m.toNat * i.size)) e)):=by
   intro G' hh;unfold Inv;rw[bS,hd,show aq.sl { aA:=(s.gone d).aA.set d (.aC d),aK:=(d, .aC τ (List.replicate n.toNat τ.zero))::(s.gone d).aK }=jD (s.gone d).aA.length (s.gone d).sl (some d) (.aC d) from pJ _ d _ _,
    show ({ aA:=(s.gone d).aA.set d (.aC d),aK:=(d, .aC τ (List.replicate n.toNat τ.zero))::(s.gone d).aK }:aq).aA.length=(s.gone d).aA.length from by simp]
   exact hh
  exact⟨_,conv _ key⟩
 case h_6 cl bh =>
  split at hq;case h_1 fX =>
   split at hq;case h_2=>cases hq
   case h_1 T id QS zq =>
   split at hq;case h_2=>cases hq
   case h_1 t r _ τ xs hT aS =>
   simp only[b5E,b5H] at hq;obtain⟨rfl,rfl⟩:=hq;have dO:=aM.jV (aW h) cl.args.toList;rw[zq] at dO;match kE:cl.args.toList.map a.eval,dO with
   | [x],dO =>
    obtain⟨_,l,e9,ad,m,cap,zp⟩:=dO.1;have hm:m=xs.length/\xs.length<=140737488355328:=by
     obtain⟨v0,l0,a1,TI,q1,q2,_,_,q5,_⟩:=h.aP.tr id τ xs aS;rw[e9,zp] at q1;simp only[b7q] at q1;have q1:(Value.slice ad m cap::l)=v0::l0:=congrArg Array.toList q1;simp only[b5J] at q1;rw[q2] at q1;simp only[b7A] at q1;exact⟨q1.1.2.1,q5⟩
    obtain⟨rfl,hmx⟩:=hm;have KB:cl.argTypes = #[T]:=by rw[<-b6P (xs:=cl.argTypes),QS]
    have E4:cl.args.map a.eval = #[x]:=by rw[<-b6P (xs:=cl.args.map a.eval),b7S,kE]
    have QX:(execOp a.eval o)=(do let d <-resolve a.eval cl o.type;invoke d.target d.args):=by simp[execOp,bh]
    have KG:(execOp a.eval o).run c.P w=((Builtin.len_ #[T] o.type #[x]).run c.P w).andThen λ v w => .ok (.value v) w:=by
     rw[QX];simp[resolve,fX,invoke,builtin,KB,E4]
    obtain⟨k1,_,_⟩:=hE.slice hT;have SU:∃ q,c.P.elem T=q/\c.P.underlying T=some (.slice q):=⟨_,by simp[Program.elem,k1],k1⟩;obtain⟨q,SU,k1⟩:=SU;refine Bf h (x := .int .i64 xs.length) ?_ (a8A ⟨by omega,by omega⟩);rw[KG,zp,run_len_slice w T o.type ad xs.length cap (by rw[SU];exact k1)];rfl
  case h_2 f fX =>
   split at hq;case h_2=>cases hq
   case h_1 d hd =>
   split at hq;case h_2=>cases hq
   split at hq;case h_1 m hm =>
    cases hq
   case h_2 hm =>
    split at hq;case h_2=>cases hq
    case h_1 Z9 has =>
    split at hq;case h_2=>cases hq
    case h_1 pre res hc =>
    split at hq;case h_2=>cases hq
    case h_1 hb =>
    simp only[Option.some.injEq,Prod.mk.injEq] at hq;obtain⟨rfl,rfl⟩:=hq;simp only[Bool.and_eq_true,List.all_eq_true] at hb;exact RU hE h has (aM.jV (aW h) cl.args.toList) hc eb hd (λ p hp=>by simpa using hb.1 p hp) (cZ hb.2) (by omega) (λ qD=>gJ bh fX rfl qD)
  case h_3=>cases hq
 case h_7=>cases hq
end
section
variable {w:World}
theorem bI.join{n:Nat}:∀ (ds:List D) {l:List Value} {fp:List Nat},bI w ds l fp->(∀ d∈ds,d.size=n) ->
  ds.length * n<=l.length/\∀ (es:List D) (m:List Value) (f2:List Nat),bI w es m f2->bI w (ds++es) (l.take (ds.length * n)++m) (fp++f2)
 | [],l,fp,h,_=>by
  have h:fp=[]:=h;subst h;exact⟨by simp,λ es m f2 k=>by simpa using k⟩
 | d::ds,l,fp,h,hn=>by
  obtain⟨c,r,f1,f2,rfl,rfl,h3,h4⟩:=h;have hc:c.length=n:=by rw[Ow.length d h3];exact hn d (by simp)
  obtain⟨k1,k2⟩:=bI.join ds h4 λ d hd=>hn d (by simp[hd]);have e:(d::ds).length * n=c.length+ds.length * n:=by rw[b5S,b6V,hc];omega
  refine⟨by rw[e,b5Y];omega,λ es m f3 k=>?_⟩;refine⟨c,r.take (ds.length * n)++m,f1,f2++f3,?_,by simp,h3,k2 es m f3 k⟩;rw[e,zP,b6v]
theorem bI.rdL{n:Nat}:∀ (ds:List D) {l:List Value} {fp:List Nat},bI w ds l fp->(∀ d∈ds,d.size=n)->dP w (λ _=>True) ds (l.take (ds.length * n))
 | [],l,fp,h,_=>by simp[dP]
 | d::ds,l,fp,h,hn=>by
  obtain⟨c,r,f1,f2,rfl,rfl,h3,h4⟩:=h;have hc:c.length=n:=by rw[Ow.length d h3];exact hn d (by simp)
  have e:(d::ds).length * n=c.length+ds.length * n:=by rw[b5S,b6V,hc];omega
  exact⟨c,r.take (ds.length * n),by rw[e,zP],Ow.rd d h3 λ _ _=>trivial,bI.rdL ds h4 λ d hd=>hn d (by simp[hd])⟩
theorem Jb{τ:Ty}(xs:List τ.den):∀ d∈xs.map τ.aL,d.size=τ.size:=by
 intro d hd;obtain⟨z,_,rfl⟩:=b5N.1 hd;exact Ty.cA τ z
theorem NT{g k:Nat}{l:List Value}{t:TypeId}(h:w.heap[g]?=some (.cells l.toArray t (0,0))):∀ j v,(l.take k)[j]?=some v->w.cell? ((⟨g,0,none⟩:Addr).add j)=some v:=by
 intro j v hj;rw[Addr.add_lit];have:=Eu (w:=w) (b:=g) (p:=[]) (c:=l.take k) (r:=l.drop k) (t:=t) (by simpa using h) j v hj;simpa using this
theorem Lr{P:Program}(t ty e:TypeId)(i:TypeInfo)(ht:P.underlying t=some (.slice e))(hi:P.info? e=some i)
  (g R6 a5M:Nat) (cur:Array Value) (t2:TypeId) (hg:w.heap[g]?=some (.cells cur t2 (0,0)))
  (a:Addr) (m c:Nat) (news:List Value) (hl:news.length=m * i.size) (IX:∀ j u,news[j]?=some u->w.cell? (a.add j)=some u) (h1:∀ u∈news,u.oneCell'=true)
  (Cd:R6+m<=a5M) (EW:R6 * i.size+news.length<=cur.size) :
  (Builtin.append_ #[t,t] ty #[.slice (some ⟨g,0,none⟩) R6 a5M, .slice (some a) m c]).run P w =
   .ok (.slice (some ⟨g,0,none⟩) (R6+m) a5M) (w.setRow g (cur.toList.take (R6 * i.size)++news++cur.toList.drop (R6 * i.size+news.length)).toArray):=by
 have hf:=run_firstCells_some (P:=P) w i.size m a m c news hl IX;have cb:=run_storeCells_at P g (R6 * i.size) t2 news 0 cur w hg (by simpa using EW) h1;simp only[Nat.add_zero] at cb;simp[Builtin.append_,run_underlying ht,sizeOf,typeInfo,hi,Builtin.lenOf,Cd,hf,Addr.add_lit,cb]
theorem Uc{τ:Ty}{zs:List τ.den}{q:List Value}{fp:List Nat}{z:Array Value}{cap:Nat}{e:TypeId}(hq:bI w (zs.map τ.aL) q fp)(hql:q.length=zs.length * τ.size)(Rb:z.size=τ.size)
  (hc:zs.length<=cap) (hm:cap<=maxLen) (h47:zs.length<=140737488355328) (bp:∀ b∈fp,b<w.heap.size) :
  iK (w.drew.alloc (.cells (q.toArray++Builtin.zeroCells z (cap - zs.length)) e)) (.tuple (.slice (some ⟨w.heap.size,0,none⟩) zs.length cap::(q.toArray++Builtin.zeroCells z (cap - zs.length)).toList).toArray) τ zs (w.heap.size::fp):=by
 refine⟨_,_,some ⟨w.heap.size,0,none⟩,cap,rfl,rfl,hc,hm,h47, .inr ⟨w.heap.size,fp,e,rfl,rfl,?_,?_,?_⟩⟩
 .rw[b6P];exact b7L w.drew _
 .simp only[b9X,b5Y,hql,b6M,size_zeroCells,Rb];rw[<-b6V];congr 1;omega
 .rw[b9X];have hk:∀ b∈fp,(w.drew.alloc (.cells (q.toArray++Builtin.zeroCells z (cap - zs.length)) e)).heap[b]?=w.heap[b]?:=λ b hb=>heap_alloc_old w.drew _ b (bp b hb);have:=bI.keep _ hq hk;have more:∀ (ds:List D) {l:List Value} {f:List Nat} (m:List Value),bI (w.drew.alloc (.cells (q.toArray++Builtin.zeroCells z (cap - zs.length)) e)) ds l f->bI (w.drew.alloc (.cells (q.toArray++Builtin.zeroCells z (cap - zs.length)) e)) ds (l++m) f:=by
   intro ds;induction ds with
   | nil=>intro l f m h;exact h
   | cons d ds ih =>
    intro l f m h;obtain⟨cc,r,f1,f2,rfl,hf,h3,h4⟩:=h;exact⟨cc,r++m,f1,f2,by simp,hf,h3,ih m h4⟩
  exact more _ _ this
end
section
variable {c:Ctx} {G:Gh} {sl:Nat->AV} {n:Nat} {lk:Nat->Option av} {a:Act} {w w':World}
theorem U8(hE:bl c.P c.E){T:TypeId}{τ:Ty}{b e:Nat}(hT:ai c.E.ty T=some (.slice τ,b,e)){xs ys:List τ.den}{x y:Value}{fx fy:List Nat}
  (hx:Ow w (.slice τ.size (xs.map τ.aL)) [x] fx) (hy:Ow w (.slice τ.size (ys.map τ.aL)) [y] fy) (SY:∀ k∈fx,k<w.heap.size) (hly:∀ k∈fy,k<w.heap.size) (AH:fx.Nodup) (hny:fy.Nodup) (hd:∀ k∈fx,k∉fy)
  (Cd:bn (xs.length+ys.length) b) (ty:TypeId) :
  ∃ v' w' fp l,(Builtin.append_ #[T,T] ty #[x,y]).run c.P w = .ok v' w'/\iK w' (.tuple (v'::l).toArray) τ (xs++ys) fp/\(∃ a n m,v' = .slice a n m)/\fp.Nodup/\(∀ k∈fp,k∈fx\/k∈fy\/(w.heap.size<=k/\k<w'.heap.size))/\bX (λ k=>k∈fx) w w':=by
 obtain⟨k1,⟨b',e',k2⟩,i,zv,k3,k4,k5,k6,k7⟩:=hE.slice hT;have Rb:zv.cells.size=τ.size:=by
  have:=Rd.length _ (LO (w:=w) (S:=λ _=>True) k7);rwa [Ty.cA,b6M] at this
 have E0:=τ.size_pos;have OP:(xs.length+ys.length) * b<=140737488355328/\xs.length+ys.length<=140737488355328:=by
  unfold bn at Cd;rw[Nat.mul_add,Nat.mul_one] at Cd;omega
 have KJ:xs.length+ys.length<=maxLen:=by simp only[maxLen];omega
 obtain⟨lx,hxT,_⟩:=iK.a0r hx;have hx0:=hx;obtain⟨ax,Hp,x1,x2,x3,x4,x5⟩:=hx;obtain⟨ay,Xc,y1,y2,y3,y4,y5⟩:=hy;simp only[b5J,b5W,b6G] at x1 x2 x4 y1 y2 y4;subst x1 y1;have same:(Builtin.append_ #[T,T] ty #[.slice ax xs.length Hp, .slice ay ys.length Xc]).run c.P w = .ok (.slice ax xs.length Hp) w->ys=[]->∃ v' w' fp l,(Builtin.append_ #[T,T] ty #[.slice ax xs.length Hp, .slice ay ys.length Xc]).run c.P w = .ok v' w'/\iK w' (.tuple (v'::l).toArray) τ (xs++ys) fp/\(∃ a n m,v' = .slice a n m)/\fp.Nodup/\(∀ k∈fp,k∈fx\/k∈fy\/(w.heap.size<=k/\k<w'.heap.size))/\bX (λ k=>k∈fx) w w':=by
  intro hr he;subst he;exact⟨_,w,fx,lx,hr,by simpa using hxT,⟨_,_,_,rfl⟩,AH,λ k hk => .inl hk,bX.refl _ _⟩
 rcases y5 with ⟨q1,⟨q2,q3⟩,q4⟩|⟨gy,f2,l2,t2,q1,q2,q3,q4,q5⟩
 .have MC:ys=[]:=by simpa using q1
  subst MC;refine same ?_ rfl;subst q2;simp[Builtin.append_,b6F k1,sizeOf,typeInfo,k3,Builtin.lenOf,Builtin.firstCells,x2,storeCells];cases ax<;>rfl
 .subst q1 q2;have hsy:=Jb ys;obtain⟨j1,_⟩:=bI.join _ q5 hsy;rw[b6G] at j1;have Cc:(l2.take (ys.length * τ.size)).length=ys.length * τ.size:=by rw[b6T];omega
  have EZ:∀ u∈l2.take (ys.length * τ.size),u.oneCell'=true:=by
   have:=bI.rdL _ q5 hsy;rw[b6G] at this;exact dP.qV this
  have IX:=NT (w:=w) (k:=ys.length * τ.size) q3;have a4Q:bI w (ys.map τ.aL) (l2.take (ys.length * τ.size)) f2:=by
   have:=(bI.join _ q5 hsy).2 [] [] [] rfl;simpa using this
  rcases x5 with ⟨p1,⟨p2,p3⟩,p4⟩|⟨gx,f1,l1,t1,p1,p2,p3,p4,p5⟩
  .have kE:xs=[]:=by simpa using p1
   subst kE p2 p3 p4;by_cases hm:ys=[]
   .refine same ?_ hm;subst hm;simp[Builtin.append_,b6F k1,sizeOf,typeInfo,k3,Builtin.lenOf,Builtin.firstCells,loadCells,loadCellsFrom]
   .have hm0:0<ys.length:=List.length_pos_iff.2 hm;have hr:=run_append_nil (P:=c.P) w T ty e i zv k1 k3 k6 ⟨gy,0,none⟩ ys.length Xc (l2.take (ys.length * τ.size)) (by rw[Cc,k4]) IX hm0 (by omega) (by rw[k5];have:=OP.1;simp only[List.length_nil,Nat.zero_add] at this;omega);have hg:=Uc (w:=w) (e:=e) (zs:=ys) (cap:=grownCap w ys.length 0 e) a4Q Cc Rb (grownCap_ge w ys.length 0 e) (grownCap_le_maxLen w ys.length 0 e (by simpa using KJ)) (by omega) (λ k hk=>hly k (by simp[hk]));refine⟨.slice (some ⟨w.heap.size,0,none⟩) ys.length (grownCap w ys.length 0 e),w.drew.alloc (.cells ((l2.take (ys.length * τ.size)).toArray++Builtin.zeroCells zv.cells (grownCap w ys.length 0 e - ys.length)) e),w.heap.size::f2,_,hr,hg,⟨_,_,_,rfl⟩,?_,?_,⟨rfl,rfl,rfl,by simp,λ k hk _=>heap_alloc_old w.drew _ k hk⟩⟩
    .rw[b6z] at hny ⊢;exact⟨λ hh=>b8n _ (hly _ (by simp[hh])),hny.2⟩
    .intro k hk;rcases b5X.1 hk with rfl|hk
     .exact .inr (.inr ⟨b6k _,by simp⟩)
     .exact .inr (.inl (by simp[hk]))
  .subst p1 p2;have hsx:=Jb xs;obtain⟨i1,i2⟩:=bI.join _ p5 hsx;rw[b6G] at i1 i2;have sd:(l1.take (xs.length * τ.size)).length=xs.length * τ.size:=by rw[b6T];omega
   have Q0:(f1++f2).Nodup/\gx∉f1++f2:=by
    rw[b6z] at AH hny;refine⟨b6l.2 ⟨AH.2,hny.2,λ k hk k' iP e=>?_⟩,λ hh=>?_⟩
    .subst e;exact hd k (by simp[hk]) (by simp[iP])
    .rcases b5F.1 hh with hh|hh
     .exact AH.1 hh
     .exact hd gx (by simp) (by simp[hh])
   have gG:=i2 (ys.map τ.aL) _ f2 a4Q;rw[<-b7t] at gG;by_cases EW:xs.length+ys.length<=Hp
   .have jt:xs.length * i.size+(l2.take (ys.length * τ.size)).length<=l1.toArray.size:=by
     rw[Cc,k4,<-b6V,b9k,p4];exact b7M _ EW
    have hr:=Lr (P:=c.P) (w:=w) T ty e i k1 k3 gx xs.length Hp l1.toArray t1 p3 ⟨gy,0,none⟩ ys.length Xc (l2.take (ys.length * τ.size)) (by rw[Cc,k4]) IX EZ EW jt;have iC:∀ k,k≠gx->(w.setRow gx (l1.toArray.toList.take (xs.length * i.size)++l2.take (ys.length * τ.size)++l1.toArray.toList.drop (xs.length * i.size+(l2.take (ys.length * τ.size)).length)).toArray).heap[k]?=w.heap[k]?:=λ k hk=>me w p3 k hk;refine⟨_,_,gx::(f1++f2),(l1.take (xs.length * τ.size)++l2.take (ys.length * τ.size)++l1.drop (xs.length * τ.size+ys.length * τ.size)),hr,?_,⟨_,_,_,rfl⟩,b6z.2 ⟨Q0.2,Q0.1⟩,?_,⟨rfl,rfl,rfl,by simp[World.setRow],λ k hk eu=>iC k λ e=>eu (by simp[e])⟩⟩
    .refine⟨_,_,some ⟨gx,0,none⟩,Hp,rfl,by simp,by simpa using EW,x3,by simp;omega, .inr ⟨gx,f1++f2,t1,rfl,rfl,?_,?_,?_⟩⟩
     .have:=c0g w gx l1.toArray (l1.toArray.toList.take (xs.length * i.size)++l2.take (ys.length * τ.size)++l1.toArray.toList.drop (xs.length * i.size+(l2.take (ys.length * τ.size)).length)).toArray t1 (0,0) p3;rw[this,Cc,k4]
     .simp only[b5Y,sd,Cc,b7e,p4];have:xs.length * τ.size+ys.length * τ.size<=Hp * τ.size:=by rw[<-b6V];exact b7M _ EW
      omega
     .have hk:∀ k∈f1++f2,(w.setRow gx (l1.toArray.toList.take (xs.length * i.size)++l2.take (ys.length * τ.size)++l1.toArray.toList.drop (xs.length * i.size+(l2.take (ys.length * τ.size)).length)).toArray).heap[k]?=w.heap[k]?:=λ k hk=>iC k λ e=>Q0.2 (e ▸ hk);have h2:=bI.keep _ gG hk;have more:∀ (w2:World) (ds:List D) {l:List Value} {f:List Nat} (m:List Value),bI w2 ds l f->bI w2 ds (l++m) f:=by
       intro w2 ds;induction ds with
       | nil=>intro l f m h;exact h
       | cons d ds ih =>
        intro l f m h;obtain⟨cc,r,f1,f2,rfl,hf,h3,h4⟩:=h;exact⟨cc,r++m,f1,f2,by simp,hf,h3,ih m h4⟩
      exact more _ _ _ h2
    .intro k hk;rcases b5X.1 hk with rfl|hk
     .exact .inl (by simp)
     .rcases b5F.1 hk with hk|hk
      .exact .inl (by simp[hk])
      .exact .inr (.inl (by simp[hk]))
   .have hr:=run_append_grow (P:=c.P) w T ty e i zv k1 k3 k6 ⟨gx,0,none⟩ xs.length Hp (l1.take (xs.length * τ.size)) (by rw[sd,k4]) (NT p3) ⟨gy,0,none⟩ ys.length Xc (l2.take (ys.length * τ.size)) (by rw[Cc,k4]) IX (by omega) (by omega) (by rw[k5];exact growslice_fits (by omega) OP.1);have hql:(l1.take (xs.length * τ.size)++l2.take (ys.length * τ.size)).length=(xs++ys).length * τ.size:=by rw[b5Y,sd,Cc,b5Y,b6V]
    have hle:(xs++ys).length=xs.length+ys.length:=b5Y;have bp:∀ k∈f1++f2,k<w.heap.size:=λ k hk=>by
     rcases b5F.1 hk with hk|hk
     .exact SY k (by simp[hk])
     .exact hly k (by simp[hk])
    have hg:=Uc (w:=w) (e:=e) (zs:=xs++ys) (cap:=grownCap w (xs.length+ys.length) Hp e) gG hql Rb (by rw[hle];exact grownCap_ge w _ _ e) (grownCap_le_maxLen w _ _ e KJ) (by omega) bp;rw[hle] at hg;refine⟨_,w.drew.alloc (.cells ((l1.take (xs.length * τ.size)).toArray++(l2.take (ys.length * τ.size)).toArray++Builtin.zeroCells zv.cells (grownCap w (xs.length+ys.length) Hp e - (xs.length+ys.length))) e),w.heap.size::(f1++f2),_,hr,by simpa [hle] using hg,⟨_,_,_,rfl⟩,?_,?_,⟨rfl,rfl,rfl,by simp,λ k hk _=>heap_alloc_old w.drew _ k hk⟩⟩
    .exact b6z.2 ⟨λ hh=>b8n _ (bp _ hh),Q0.1⟩
    .intro k hk;rcases b5X.1 hk with rfl|hk
     .exact .inr (.inr ⟨b6k _,by simp⟩)
     .rcases b5F.1 hk with hk|hk
      .exact .inl (by simp[hk])
      .exact .inr (.inl (by simp[hk]))
end
section
variable {c:Ctx} {G:Gh} {s:aq} {a:Act} {w w':World}
theorem Inv.built(h:Inv c G s a w){ids:List Nat}{d:Nat}{τ:Ty}{zs:List τ.den}{fp:List Nat}{v':Value}{l:List Value}(hk:bX (λ b=>vF G s.ai ids b) w w')(hT:iK w' (.tuple (v'::l).toArray) τ zs fp)
  (hv:∃ a n m,v' = .slice a n m) (c6:fp.Nodup) (mX:∀ b∈fp,vF G s.ai ids b\/(w.heap.size<=b/\b<w'.heap.size)) (qE:(ids.foldl aq.gone s).ai (bD d)=none) :
  ∃ G',Inv c G' ((ids.foldl aq.gone s).rM d τ zs) (a.put (some d) v') w':=by
 have h1:Inv c G (ids.foldl aq.gone s) a w:=wj ids h;have hF:∀ b,vF G s.ai ids b->uM c G (ids.foldl aq.gone s).ai w b:=λ b hb=>Kp h hb;generalize hs1:ids.foldl aq.gone s=s1 at *
 have hblk:∀ b,b<w.heap.size->¬ vF G s.ai ids b->w'.heap[b]?=w.heap[b]?:=λ b hb hn=>hk.block b hb hn;have h2:bf c G s1.sl s1.aA.length s1.ai a w':=by
  refine bf.world (S':=G.S) h1 ⟨hk.os,hk.tape,hk.output,hk.size,λ b hb hn=>hblk b hb λ hi=>hn (hF b hi).1⟩ (λ _ h=>h) (λ _ _=>b7k) h1.sX (λ b hb=>b6a (h1.dx b hb) hk.size) ?_ ?_ ?_
  .intro b hb;rcases hb with hb|hb
   .exact hblk b (h1.dx b hb) λ hi=>(hF b hi).2.1 hb
   .exact hblk b (b6a hb.1 h1.keep.size) λ hi=>(hF b hi).1.elim (λ q=>by omega) hb.2.1
  .intro id o b ho hb;exact hblk b (h1.place id o b ho hb).2.2 λ hi=>(hF b hi).2.2.2.1 id o ho hb
  .intro id aU cK b ht hb;exact hblk b (h1.aP.pl id aU cK b ht hb).2.2.1 λ hi=>(hF b hi).2.2.2.2 id aU cK ht hb
 obtain⟨r1,r2⟩:=h2.RP qE;have hR:c.R (bD d)=none:=by
  cases hr:c.R (bD d) with
  | none=>rfl
  | some v=>have:=(h.fZ _ v hr).2;unfold bD at this;omega
 have h3:=h2.RL (bD d) τ zs _ fp qE r1 r2 hR hT c6 (λ b hb=>by
  rcases mX b hb with hi|⟨q1,q2⟩
  .obtain⟨f1,f2,f3,f4,f5⟩:=hF b hi;exact⟨f1,f2,b6a f3 hk.size,f4,f5⟩
  .refine⟨.inl (b7g h1.keep.size q1),λ hs=>?_,q2,λ i o cq tJ=>?_,λ j j0 mA hj mV=>?_⟩
   .have:=h1.dx b hs;omega
   .have:=(h1.place i o b cq tJ).2.2;omega
   .have:=(h1.aP.pl j j0 mA b hj mV).2.2.1;omega)
 have key:=bf.put (d:=some d) (v := .aC (bD d)) (x:=v') h3 ⟨by simp[cR],l,by simp,hv⟩;have bS:(s1.rM d τ zs).ai=λ i=>if i=bD d then some (.aC τ zs) else s1.ai i:=by
  funext i;exact dr _ _ _ _
 have conv:∀ G',bf c G' (jD s1.aA.length s1.sl (some d) (.aC (bD d))) s1.aA.length (λ i=>if i=bD d then some (.aC τ zs) else s1.ai i) (a.put (some d) v') w'->Inv c G' (s1.rM d τ zs) (a.put (some d) v') w':=by
  intro G' hh;unfold Inv;rw[bS,show (s1.rM d τ zs).sl=jD s1.aA.length s1.sl (some d) (.aC (bD d)) from pJ _ d _ _,show (s1.rM d τ zs).aA.length=s1.aA.length from by simp[aq.rM]];exact hh
 exact⟨_,conv _ key⟩
theorem Inv.over{s1:aq}{X:Nat->Prop}(h1:Inv c G s1 a w)(hF:∀ b,X b->uM c G s1.ai w b)(hk:bX X w w'):bf c G s1.sl s1.aA.length s1.ai a w':=by
 have hblk:∀ b,b<w.heap.size->¬ X b->w'.heap[b]?=w.heap[b]?:=λ b hb hn=>hk.block b hb hn;refine bf.world (S':=G.S) h1 ⟨hk.os,hk.tape,hk.output,hk.size,λ b hb hn=>hblk b hb λ hi=>hn (hF b hi).1⟩ (λ _ h=>h) (λ _ _=>b7k) h1.sX (λ b hb=>b6a (h1.dx b hb) hk.size) ?_ ?_ ?_
 .intro b hb;rcases hb with hb|hb
  .exact hblk b (h1.dx b hb) λ hi=>(hF b hi).2.1 hb
  .exact hblk b (b6a hb.1 h1.keep.size) λ hi=>(hF b hi).1.elim (λ q=>by omega) hb.2.1
 .intro id o b ho hb;exact hblk b (h1.place id o b ho hb).2.2 λ hi=>(hF b hi).2.2.2.1 id o ho hb
 .intro id aU cK b ht hb;exact hblk b (h1.aP.pl id aU cK b ht hb).2.2.1 λ hi=>(hF b hi).2.2.2.2 id aU cK ht hb
theorem uM.a8o{lk:Nat->Option av}{b:Nat}(h:uM c G lk w b):¬ SX G lk b:=by
 rintro (hb|⟨id,e,τ,ys,aS,hb⟩|⟨id,τ,ys,aS,hb⟩)
 .exact h.2.1 hb
 .exact h.2.2.2.1 id _ aS hb
 .exact h.2.2.2.2 id τ ys aS hb
theorem xk(h:Inv c G s a w):∀ {fl:List Bool} {Ts:List TypeId} {vs:List AV} {xs:List Value} {own:List (Option TV)} {ids:List Nat},gA c.E s.ai fl Ts vs=some (own,ids)->ids.Nodup->aM (VR c G s.ai w) vs xs ->
  ∃ zb:List (List Nat),aM (λ (o:Option TV) (q:Value×List Nat)=>match o with
   | some v=>yM w v q.1 q.2
   | none=>q.2=[]) own (xs.zip zb)/\zb.length=xs.length/\zb.flatten.Nodup/\∀ b∈zb.flatten,vF G s.ai ids b
 | [],[],[],[],own,ids,ht,_,_=>by
  simp only[gA,b5E,b5H] at ht;obtain⟨rfl,rfl⟩:=ht;exact⟨[],af,rfl,by simp,by simp⟩
 | true::fl,T::Ts,v::vs,x::xs,own,ids,ht,hn,hv=>by
  simp only[gA] at ht;split at ht;case h_2=>cases ht
  case h_1 τ q hT =>
  split at ht;case h_2=>cases ht
  case h_1 y i hy =>
  split at ht;case h_2=>cases ht
  case h_1 r j hr =>
  simp only[b5E,b5H] at ht;obtain⟨rfl,rfl⟩:=ht;rw[b6l] at hn;obtain⟨n1,n2,n3⟩:=hn;obtain⟨f1,o1,o2,o3⟩:=sU h hy hv.1 n1;obtain⟨zb,p1,p2,p3,p4⟩:=xk h hr n2 hv.2;refine⟨f1::zb,⟨o1,p1⟩,by simp[p2],?_,?_⟩
  .rw[List.flatten_cons];exact dS o2 p3 λ b hb cw=>h.iD (o3 b hb) (p4 b cw) (λ x hx y hy=>n3 x hx y hy)
  .intro b hb;rw[List.flatten_cons] at hb;rcases b5F.1 hb with hb|hb
   .exact (o3 b hb).mono λ i hi=>by simp[hi]
   .exact (p4 b hb).mono λ i hi=>by simp[hi]
 | false::fl,T::Ts,v::vs,x::xs,own,ids,ht,hn,hv=>by
  simp only[gA] at ht;split at ht;case h_2=>cases ht
  case h_1 r j hr =>
  simp only[Option.some.injEq,Prod.mk.injEq] at ht;obtain⟨rfl,rfl⟩:=ht;obtain⟨zb,p1,p2,p3,p4⟩:=xk h hr hn hv.2;exact⟨[]::zb,⟨rfl,p1⟩,by simp[p2],by simpa using p3,by simpa using p4⟩
 | [],_::_,_,_,_,_,ht,_,_=>by simp[gA] at ht
 | [],[],_::_,_,_,_,ht,_,_=>by simp[gA] at ht
 | [],[],[],_::_,_,_,_,_,hv=>hv.elim
 | true::_,[],_,_,_,_,ht,_,_=>by simp[gA] at ht
 | false::_,[],_,_,_,_,ht,_,_=>by simp[gA] at ht
 | true::_,_::_,[],_,_,_,ht,_,_=>by simp[gA] at ht
 | false::_,_::_,[],_,_,_,ht,_,_=>by simp[gA] at ht
 | _,_,_::_,[],_,_,_,_,hv=>hv.elim
theorem tV(hE:bl c.P c.E)(h:Inv c G s a w):∀ {own:List (Option TV)} {Ts:List TypeId} {vs:List AV} {xs:List Value} {zb:List (List Nat)} {Z9:List Arg},fg c.E s.ai own Ts vs=some Z9 ->
  aM (λ (o:Option TV) (q:Value×List Nat)=>match o with
   | some v=>yM w v q.1 q.2
   | none=>q.2=[]) own (xs.zip zb)->zb.length=xs.length->aM (VR c G s.ai w) vs xs->td c.P w (SX G s.ai) Z9 xs zb.flatten/\∀ a∈Z9,a.Js=true
 | [],[],[],[],zb,Z9,hm,hO,hl,hv=>by
  simp only[fg,Option.some.injEq] at hm;subst hm;have:zb=[]:=List.eq_nil_of_length_eq_zero (by simpa using hl);subst this;exact⟨rfl,by simp⟩
 | some y::own,T::Ts,v::vs,x::xs,f::zb,Z9,hm,hO,hl,hv=>by
  simp only[fg] at hm;split at hm;case h_2=>cases hm
  case h_1 r hr =>
  simp only[Option.some.injEq] at hm;subst hm;obtain⟨q1,q2⟩:=tV hE h hr hO.2 (by simpa using hl) hv.2;refine⟨⟨f,zb.flatten,by simp,hO.1,q1⟩,λ a ha=>?_⟩;rcases List.mem_cons.1 ha with rfl|ha
  .rfl
  .exact q2 a ha
 | none::own,T::Ts,v::vs,x::xs,f::zb,Z9,hm,hO,hl,hv=>by
  simp only[fg] at hm;split at hm;case h_2=>cases hm
  case h_1 y hy =>
  split at hm;case h_2=>cases hm
  case h_1 r N4 hr =>
  simp only[Option.some.injEq] at hm;subst hm;obtain⟨q1,q2⟩:=tV hE h hr hO.2 (by simpa using hl) hv.2;have hf:f=[]:=hO.1;subst hf;have h1:=ic hE h (λ _ _ h=>h) (λ _ h => .inl h) (λ τ v x y h1 h2=>xO h.aP h.aK (λ _ _ h=>h) h1 h2) (Ts:=[T]) (vs:=[v]) (Z9:=[y]) (xs:=[x]) (by simp only[lU,hy]) ⟨hv.1,af⟩;refine⟨⟨[],zb.flatten,by simp,?_,q1⟩,λ a ha=>?_⟩
  .have h1:=h1.1;cases y with
   | own v=>exact h1.elim
   | box k=>exact h1.elim
   | _=>exact⟨rfl,h1⟩
  .rcases b5X.1 ha with rfl|ha
   .exact N4
   .exact q2 a ha
 | [],[],[],_::_,_,_,_,_,_,hv=>hv.elim
 | _,_,_::_,[],_,_,_,_,_,hv=>hv.elim
 | [],_::_,_,_,_,_,hm,_,_,_=>by simp[fg] at hm
 | [],[],_::_,_,_,_,hm,_,_,_=>by simp[fg] at hm
 | some _::_,[],_,_,_,_,hm,_,_,_=>by simp[fg] at hm
 | none::_,[],_,_,_,_,hm,_,_,_=>by simp[fg] at hm
 | some _::_,_::_,[],_,_,_,hm,_,_,_=>by simp[fg] at hm
 | none::_,_::_,[],_,_,_,hm,_,_,_=>by simp[fg] at hm
 | _::_,_::_,_::_,_::_,[],_,_,_,hl,_=>by simp at hl
theorem Sm{lk:Nat->Option av}{τ:Ty}:∀ {ps:List (Nat×AV)} {n:Nat} {xs:List τ.den} {ids:List Nat},F4 lk τ n ps=some (xs,ids)->xs.length=ps.length
 | [],n,xs,ids,h=>by
  simp only[F4,b5E,b5H] at h;obtain⟨rfl,_⟩:=h;rfl
 | (i,v)::ps,n,xs,ids,h=>by
  simp only[F4] at h;split at h
  .split at h
   .split at h
    .rename_i q;simp only[b5E,b5H] at h;obtain⟨rfl,_⟩:=h;simp[Sm q]
    .cases h
   .cases h
  .cases h
theorem On(h:Inv c G s a w){τ:Ty}{place:Nat->Option (Nat×Nat)}(hp:∀ i,place i=some (i * τ.size,τ.size)) :
  ∀ {ps:List (Nat×AV)} {vs:List (Nat×Value)} {n:Nat} {xs:List τ.den} {ids:List Nat} {l:List Value},F4 s.ai τ n ps=some (xs,ids)->aM (λ p q=>p.1=q.1/\VR c G s.ai w p.2 q.2) ps vs->ids.Nodup ->
   (n+ps.length) * τ.size=l.length->∃ r fp,Instr.fill place l.toArray vs=some (l.take (n * τ.size)++r).toArray/\bI w (xs.map τ.aL) r fp/\r.length=xs.length * τ.size/\fp.Nodup/\∀ b∈fp,vF G s.ai ids b
 | [],[],n,xs,ids,l,h1,_,_,hl=>by
  simp only[F4,b5E,b5H] at h1;obtain⟨rfl,rfl⟩:=h1;refine⟨[],[],?_,rfl,by simp,b7c,by simp⟩;simp only[b6d,b7W] at hl;rw[hl,b8P,b6K];rfl
 | (i,v)::ps,(j,x)::vs,n,xs,ids,l,h1,hv,c6,hl=>by
  obtain⟨⟨tM,hx⟩,Q6⟩:=hv;have tM:i=j:=tM;subst tM;simp only[F4] at h1;split at h1
  .rename_i fv;have fv:=b5G fv;subst fv;split at h1
   .rename_i y i1 hy;split at h1
    .rename_i ys js MC;simp only[b5E,b5H] at h1;obtain⟨rfl,rfl⟩:=h1;rw[b6l] at c6;obtain⟨n1,n2,n3⟩:=c6;obtain⟨f1,o1,o2,o3⟩:=sU h hy hx n1;have hr:=yM.cells o1;have cr:x.cells.size=τ.size:=by
      have:=Ow.length _ hr;rw[Ty.cA] at this;simpa using this
     simp only[b5S] at hl;have E0:=τ.size_pos;have e1:(i+(ps.length+1)) * τ.size=i * τ.size+τ.size+ps.length * τ.size:=by
      rw[b6V,b6V];omega
     rw[Ml place i _ _ x vs l (hp i) cr (by omega)];obtain⟨r,f2,q1,q2,q3,q4,q5⟩:=On h hp (l:=l.take (i * τ.size)++x.cells.toList++l.drop (i * τ.size+τ.size)) MC Q6 n2 (by
      simp[cr];rw[show (i+1+ps.length) * τ.size=i * τ.size+τ.size+ps.length * τ.size by rw[b6V,b6V];omega];omega)
     refine⟨x.cells.toList++r,f1++f2,?_,⟨_,_,f1,f2,rfl,rfl,hr,q2⟩,?_,?_,?_⟩
     .rw[q1];congr 2;rw[show (i+1) * τ.size=i * τ.size+τ.size by rw[b6V];omega];have ht:(l.take (i * τ.size)++x.cells.toList).length=i * τ.size+τ.size:=by simp[cr];omega
      rw[<-ht,b8a,b6v]
     .simp only[b5Y,b5S,b6M,cr,q3,b6V];omega
     .exact dS o2 q4 λ b hb cw=>h.iD (o3 b hb) (q5 b cw) (λ x hx y hy=>n3 x hx y hy)
     .intro b hb;rcases b5F.1 hb with hb|hb
      .exact (o3 b hb).mono λ i hi=>by simp[hi]
      .exact (q5 b hb).mono λ i hi=>by simp[hi]
    .cases h1
   .cases h1
  .cases h1
 | [],_::_,_,_,_,_,_,hv,_,_=>hv.elim
 | _::_,[],_,_,_,_,_,hv,_,_=>hv.elim
theorem bX.a5o{X Y:Nat->Prop}{w w':World}(h:bX X w w')(hXY:∀ b,X b->Y b):bX Y w w':=⟨h.os,h.tape,h.output,h.size,λ b hb hn=>h.block b hb λ hx=>hn (hXY b hx)⟩
theorem V3(h:Inv c G s a w){ids:List Nat}{b:Nat}(hb:vF G s.ai ids b):b<w.heap.size:=(Kp h hb).2.2.1
theorem Y1{lk:Nat->Option av}{τ:Ty}{v:AV}{r:τ.den×List Nat}(h:eY lk τ v=some r):v.cell=true\/∃ s x,v = .aO ⟨.st s,x⟩:=by
 cases v with
 | aO u =>
  obtain⟨aU,x⟩:=u;cases aU with
  | st s=>exact .inr ⟨s,x,rfl⟩
  | _=>exact .inl rfl
 | nil=>exact .inl rfl
 | aC id=>exact .inl rfl
 | row id=>exact .inl rfl
 | _=>simp[eY] at h
theorem a6i(h:Inv c G s a w){τ:Ty}{v:AV}{x:Value}{xs:List τ.den}{ids:List Nat}(ht:eY s.ai (.slice τ) v=some (xs,ids))(hv:VR c G s.ai w v x):∃ fp,Ow w (.slice τ.size (xs.map τ.aL)) [x] fp/\fp.Nodup/\∀ b∈fp,vF G s.ai ids b:=by
 rcases Y1 ht with hc|⟨st,y,rfl⟩
 .exact yG h ht (hv.UP hc)
 .simp[eY,Ty.sR] at ht
theorem jx:∀ {us:List TV} {cs:List Value} {fp:List Nat},cW w (us.map TV.aL) cs fp->zU us->cW w ((us.map ZU).map TV.aL) cs fp
 | [],_,_,h,_=>h
 | ⟨τ,x⟩::us,cs,fp,h,hf=>by
  obtain⟨v,r,f1,f2,rfl,rfl,h3,h4⟩:=h;cases τ with
  | mv t =>
   have hf:Option.isSome (α:=List t.den) x=true/\zU us:=hf;refine⟨v,r,f1,f2,rfl,rfl,?_,jx h4 hf.2⟩;match x,hf.1,h3 with
   | some l,_,h3=>exact h3
  | ptr=>exact⟨v,r,f1,f2,rfl,rfl,h3,jx h4 hf⟩
  | int k=>exact⟨v,r,f1,f2,rfl,rfl,h3,jx h4 hf⟩
  | bool=>exact⟨v,r,f1,f2,rfl,rfl,h3,jx h4 hf⟩
  | str=>exact⟨v,r,f1,f2,rfl,rfl,h3,jx h4 hf⟩
  | slice t=>exact⟨v,r,f1,f2,rfl,rfl,h3,jx h4 hf⟩
  | st q=>exact⟨v,r,f1,f2,rfl,rfl,h3,jx h4 hf⟩
theorem Kg:∀ {us:List TV} {cs:List Value} {fp:List Nat},cW w (us.map TV.aL) cs fp->(∀ u∈us,u.τ.PC=true)->cW w ((us.map Vw).map TV.aL) cs []
 | [],_,_,h,_=>⟨h.1,rfl⟩
 | ⟨τ,x⟩::us,cs,fp,h,hf=>by
  obtain⟨v,r,f1,f2,rfl,rfl,h3,h4⟩:=h;have hr:=Kg h4 λ u hu=>hf u (by simp[hu]);have sc:τ.sR=true->Ow w (τ.aL x) [v] []:=λ hs=>Ow.eV (S:=λ _=>True) _ (sS hs x) (Ow.rd _ h3 λ _ _=>trivial);have hm:τ.PC=true:=hf ⟨τ,x⟩ (by simp);cases τ with
  | mv t =>
   refine⟨v,r,[],[],rfl,rfl,?_,hr⟩;match x,h3 with
   | some l,h3=>obtain⟨a',cap,k1,_⟩:=h3;exact⟨⟨_,_,_,k1⟩,rfl⟩
   | none,h3=>exact⟨h3.1,rfl⟩
  | int k=>exact⟨v,r,[],[],rfl,rfl,sc rfl,hr⟩
  | bool=>exact⟨v,r,[],[],rfl,rfl,sc rfl,hr⟩
  | str=>exact⟨v,r,[],[],rfl,rfl,sc rfl,hr⟩
  | slice t=>cases hm
  | ptr=>exact⟨v,r,[],[],rfl,rfl,sc rfl,hr⟩
  | st q=>cases hm
theorem a3k(l:List Value)(k n:Nat):l.take k++(l.drop k).take n++l.drop (k+n)=l:=by
 rw[b6v,<-b7J,b7l,b7l]
theorem Inv.b1y(h:Inv c G s a w){id i:Nat}{p q:aH}{xs:List (Ty.den (.st p))}{y:p.den}{z:q.den}(aS:s.ai id=some (.aC (.st p) xs))
  (hy:p.eF ((p.cells (xs.getD i (Ty.zero (.st p)))).map Vw)=some y) (hz:q.eF ((p.cells (xs.getD i (Ty.zero (.st p)))).map ZU)=some z) (AK:p.oj.all Ty.PC=true)
  (b1m:zU (p.cells (xs.getD i (Ty.zero (.st p))))) {a0:Option Addr} {n cap:Nat} {l:List Value} (e9:G.η id = .tuple (.slice a0 n cap::l).toArray) (hi:i<n) :
  ∃ G' f1 b,a0=some ⟨b,0,none⟩/\bP w b (i * p.size) ((l.drop (i * p.size)).take p.size)/\((l.drop (i * p.size)).take p.size).length=p.size/\Inv c G' (s.cj.gb id (.st p) (xs.set i y)) a w /\
   Ow w (q.aL z) ((l.drop (i * p.size)).take p.size) f1/\f1.Nodup/\Fr c G' (s.cj.gb id (.st p) (xs.set i y)).ai w f1:=by
 have hT:=h.aP.tr id _ xs aS;obtain⟨hn,b,f,t,e1,Rf,hh,gG⟩:=vA hT e9 hi;have Ra:i<xs.length:=by omega
 have EU:l.length=cap * p.size/\xs.length<=cap/\cap<=maxLen/\xs.length<=140737488355328:=by
  obtain⟨v0,l0,a1,TI,k1,k2,k3,k4,k5,k6⟩:=hT;rw[e9] at k1;simp only[b7q] at k1;have k1:(Value.slice a0 n cap::l)=v0::l0:=congrArg Array.toList k1;simp only[b5J] at k1;obtain⟨k7,rfl⟩:=k1;rw[k2] at k7;simp only[b7A] at k7;obtain⟨_,_,rfl⟩:=k7;rcases k6 with ⟨rfl,_,_⟩|⟨_,_,_,_,_,_,k8,_⟩
  .simp at Ra
  .exact⟨k8,k3,k4,k5⟩
 have cr:∀ d∈xs.map (Ty.aL (.st p)),d.size=p.size:=Jb (τ := .st p) xs;obtain⟨f0,f1,f2,hf,m0,m1,m2⟩:=bI.split (xs.map (Ty.aL (.st p))) i (Ty.aL (.st p) (xs.getD i (Ty.zero (.st p)))) gG cr (by simp[List.getD,Ra]);have uy:((l.drop (i * p.size)).take p.size).length=p.size:=by rw[b6T,b7e];omega
 have m1:Ow w (.agg ((p.cells (xs.getD i (Ty.zero (.st p)))).map TV.aL)) ((l.drop (i * p.size)).take p.size) f1:=by
  have:=m1;rwa [show Ty.aL (.st p) (xs.getD i (Ty.zero (.st p)))=p.aL (xs.getD i (Ty.zero (.st p))) from rfl,aH.bT] at this
 have hz':Ow w (q.aL z) ((l.drop (i * p.size)).take p.size) f1:=by
  rw[aH.bT,aH.ni hz];exact jx m1 b1m
 have hy':Ow w (p.aL y) ((l.drop (i * p.size)).take p.size) []:=by
  rw[aH.bT,aH.ni hy];refine Kg m1 λ u hu=>?_;have:u.τ∈p.oj:=by rw[<-aH.jG p (xs.getD i (Ty.zero (.st p)))];exact b5N.2 ⟨u,hu,rfl⟩
  exact b6y.1 AK _ this
 have hr:=m2 w (p.aL y) _ [] (λ _ _=>rfl) uy hy';rw[a3k,b6K] at hr;have c6:=h.aP.nd id _ xs aS;rw[Rf,b6z,hf] at c6;obtain⟨ES,c6⟩:=c6;have b5z:=c6;rw[b6l,b6l] at c6;obtain⟨⟨d0,d1,d01⟩,d2,a9b⟩:=c6;have XD:iK w (G.η id) (.st p) (xs.set i y) (b::(f0++f2)):=by
  refine⟨_,l,a0,cap,e9,by rw[hn,b7s],by rw[b7s];exact EU.2.1,EU.2.2.1,by rw[b7s];exact EU.2.2.2, .inr ⟨b,f0++f2,t,e1,rfl,hh,EU.1,?_⟩⟩;rw[b9v];exact hr
 have yb:∀ k∈b::(f0++f2),k∈G.φ id:=λ k hk=>by
  rw[Rf,hf];simp only[b5X,b5F] at hk ⊢;rcases hk with hk|hk|hk<;>simp[hk]
 have b3W:(b::(f0++f2)).Nodup:=by
  refine b6z.2 ⟨λ hk=>ES ?_,dS d0 d2 λ x hx zt=>a9b x (by simp[hx]) x zt rfl⟩;simp only[b5F] at hk ⊢;rcases hk with hk|hk<;>simp[hk]
 have hf1:∀ k∈f1,k∈G.φ id/\k∉b::(f0++f2):=λ k hk=>by
  refine⟨by rw[Rf,hf];simp[hk],λ hm=>?_⟩;simp only[b5X,b5F] at hm;rcases hm with rfl|hm|hm
  .exact ES (by simp[hk])
  .exact d01 k hm k hk rfl
  .exact a9b k (by simp[hk]) k hm rfl
 obtain⟨g1,g2,g3⟩:=h.cj;have Ui:s.cj.ai id=some (.aC (.st p) xs):=by rw[jS];simp[aS,av.cS]
 let A:List (Nat×TE):=[(id,(G.η id,b::(f0++f2), .aC (.st p) (xs.set i y)))];have T:=Hl.ofList (c:=c) (G:=G) (lk:=s.cj.ai) (w:=w) (w':=w) (A:=A) (λ e he=>by
  simp only[A,b5Z] at he;subst he;exact⟨_,xs,_,_,l,l,Ui,rfl,e9,e9,XD,b3W⟩) (λ e he k hk=>by
  simp only[A,b5Z] at he;subst he;exact .inl ⟨_,b5Z.2 rfl,yb k hk⟩) (λ e he e' AG _ _ _=>by
  simp only[A,b5Z] at he AG;rw[he,AG]) (by simp[A]) (λ _ _ _=>rfl) rfl rfl rfl (b6k _)
 have hI:=bf.eU g1 T g2 g3;have bS:(s.cj.gb id (.st p) (xs.set i y)).ai=Y3 A s.cj.ai:=by
  funext j;rw[kt,Sp]
 refine⟨⟨G.S,F8 A G,yH A G⟩,f1,b,e1,?_,uy,?_,hz',d1,?_⟩
 .have:=(bP.of_heap hh).part (i * p.size) p.size;rwa [b7P] at this
 .unfold Inv;rw[bS];exact hI
 .intro k hk;obtain⟨k1,k2⟩:=hf1 k hk;obtain⟨q1,q2,q3,q4⟩:=g1.aP.pl id _ xs k Ui k1;refine⟨q1,q2,q3,λ j o hj mV=>?_,λ j τ ys hj mV=>?_⟩
  .have mV:dD (F8 A G j)=some k:=mV;rw[kt] at hj;by_cases tN:j=id
   .subst tN;have:F8 A G j=G.η j:=by simp[F8,A,ai]
    rw[this,e9] at mV;cases mV
   .rw[b5I tN] at hj;have:F8 A G j=G.η j:=by
     have eu:Nat.beq id j=false:=by
      cases hb:Nat.beq id j with
      | false=>rfl
      | true=>exact absurd (b5G hb).symm tN
     simp[F8,A,ai,eu]
    rw[this] at mV;exact q4 j o hj mV
  .have mV:k∈yH A G j:=mV;rw[kt] at hj;by_cases tN:j=id
   .subst tN;have:yH A G j=b::(f0++f2):=by simp[yH,A,ai]
    rw[this] at mV;exact k2 mV
   .rw[b5I tN] at hj;have:yH A G j=G.φ j:=by
     have eu:Nat.beq id j=false:=by
      cases hb:Nat.beq id j with
      | false=>rfl
      | true=>exact absurd (b5G hb).symm tN
     simp[yH,A,ai,eu]
    rw[this] at mV;exact tN (g1.aP.ap j id _ _ _ _ k hj Ui mV k1)
theorem ZC(hE:bl c.P c.E)(h:Inv c G s a w){o:Oper}{vc:Vc}{s':aq}(hq:Vi c.E s o=some (vc,s'))(eb:vc.ok){Q:Exit->Act->World->Prop} :
  o.wp c.P a w (λ a' w'=>∃ G',Inv c G' s' a' w') Q:=by
 unfold Vi at hq;split at hq;case h_2=>cases hq
 case h_1 d hd =>
 split at hq;case h_2=>cases hq
 case h_1 kV =>
 split at hq;case h_4=>cases hq
 case h_1 T len parts bh =>
  split at hq;case h_2=>cases hq
  case h_1 τ p hT =>
  obtain⟨b,e⟩:=p;split at hq;case h_2=>cases hq
  case h_1 hlen =>
  split at hq;case h_2=>cases hq
  case h_1 xs ids kE =>
  split at hq;case h_2=>cases hq
  case h_1 hb qE =>
  simp only[b5E,b5H] at hq;obtain⟨rfl,rfl⟩:=hq;simp only[b5M] at hlen;have ON:=b5G hlen.1;have hl2:=b6R hlen.2;subst ON;obtain⟨h1,⟨b',e',h2⟩,i,z,h3,h4,h5,h6,h7⟩:=hE.slice hT;have E0:=τ.size_pos;have KJ:τ.size<=100:=Ty.size_le τ;have b3H:parts.size * τ.size<=16777216:=b7g (Nat.mul_le_mul hl2 KJ) (by decide);obtain⟨r,fp,h8,h9,h10,h11,h12⟩:=On (place:=λ i=>some (i * τ.size,τ.size)) h (λ _=>rfl) (l:=((Array.range (parts.size * τ.size)).map (λ j=>((if parts.size * τ.size=0 then #[] else z.cells:Array Value)[j % (if parts.size * τ.size=0 then #[] else z.cells:Array Value).size]!))).toList) kE (aM.Bc (aW h) _) (cZ hb) (by simp);have sd:=Sm kE;simp only[b6G,b6M] at sd;rw[sd] at h10;simp only[b8T,b7K,b6B,b6P] at h8;have cJ:(execOp a.eval o).run c.P w = .ok (.value (.slice (some ⟨w.heap.size,0,none⟩) parts.size parts.size)) (w.alloc (.cells r.toArray e)):=by
   have e2:(parts.map λ (i,x)=>(i,a.eval x)).toList=parts.toList.map λ p=>(p.1,a.eval p.2):=by simp
   have hU:¬ (parts.size * τ.size>2 ^ 24):=by omega
   simp only[execOp,bh,Instr.buildSlice,b6p,b6F h1,b6i,hE.sizeOf h2,b5I hU,b6q];by_cases h0:parts.size * τ.size=0
   .simp only[h0,b7D,b6p,b6q,b6i,e2] at h8 ⊢;rw[h8];simp[newRow]
   .simp only[h0,b8j,b6p,zeroValue,typeInfo,run_program,b6i,h3,h6,b6q,e2] at h8 ⊢;rw[h8];simp[newRow]
  unfold Oper.wp;rw[cJ];show ∃ G',Inv c G' _ (a.put o.dst _) _;rw[hd];have bp:∀ k∈fp,k<w.heap.size:=λ k hk=>V3 h (h12 k hk);have gG:bI (w.alloc (.cells r.toArray e)) (xs.map τ.aL) r fp:=bI.keep _ h9 λ k hk=>heap_alloc_old w _ k (bp k hk);refine Inv.built h (zs:=xs) (fp:=w.heap.size::fp) (l:=r) ((fw w _).a5o λ _ k=>k.elim) ⟨_,_,some ⟨w.heap.size,0,none⟩,parts.size,rfl,by rw[sd],by rw[sd];omega,by simp only[maxLen];omega,by rw[sd];omega, .inr ⟨w.heap.size,fp,e,rfl,rfl,heap_alloc_new w _,h10,gG⟩⟩ ⟨_,_,_,rfl⟩ (List.nodup_cons.2 ⟨λ hh=>Nat.lt_irrefl _ (bp _ hh),h11⟩) (λ k hk=>?_) qE;rcases List.mem_cons.1 hk with rfl|hk
  .exact .inr ⟨b6k _,by simp⟩
  .exact .inl (h12 k hk)
 case h_2 T ad bh =>
  split at hq;case h_2=>cases hq
  case h_1 q r id i sz hT hx =>
  split at hq;case h_2=>cases hq
  case h_1 p xs aS =>
  split at hq;case h_2=>cases hq
  case h_1 y z hb hy hz =>
  split at hq;case h_2=>cases hq
  case h_1 G6 =>
  simp only[b5E,b5H] at hq;obtain⟨rfl,rfl⟩:=hq;simp only[b5M] at hb G6;have cr:=b5G hb.1;subst cr;have hp:=aW h ad;rw[hx] at hp;obtain⟨_,b,n,cap,l,e9,hi,hp⟩:=hp;obtain⟨G1,f1,b',e1,mW,hlen,hI,hO,c6,hF⟩:=h.b1y aS hy hz hb.2 eb e9 hi;simp only[b5E,b7G,b5W] at e1;subst e1;have hqs:q.size=p.size:=by
   have e:=Ow.length _ hO;rw[show (q.aL z).size=q.size from Ty.cA (.st q) z] at e;omega
  have cJ:(execOp a.eval o).run c.P w = .ok (.value (.agg ((l.drop (i * p.size)).take p.size).toArray)) w:=by
   simp only[execOp,bh,hp,b7W,b6p,jB hE hT mW (by rw[hlen];exact hqs.symm),b6i,b6q];rfl
  unfold Oper.wp;rw[cJ];show ∃ G',Inv c G' _ (a.put o.dst _) _;rw[hd];have tK:∀ e∈bJ (bD d) (TV.cells ⟨.st q,z⟩),(s.cj.gb id (.st p) (xs.set i y)).ai e.1=none:=λ e he=>by
   have h0:(s.ai e.1).isNone=true:=b6y.1 G6.1 e he;have eu:e.1≠id:=λ hh=>by rw[hh,aS] at h0;cases h0
   rw[kt,b5I eu,jS];show Option.map av.cS (s.ai e.1)=none;cases hl:s.ai e.1 with
   | none=>rfl
   | some o=>rw[hl] at h0;cases h0
  obtain⟨G2,lk',k1,k2,k3,k4,_⟩:=bf.Pn (v:=⟨.st q,z⟩) (id:=bD d) hI ⟨_,rfl,hO⟩ c6 hF tK (cZ G6.2) (λ j hj=>by
   cases hr:c.R j with
   | none=>rfl
   | some v=>have:=h.fZ j v hr;unfold bD at hj;omega)
  refine⟨G2,?_⟩;have bS:aq.ai { aA:=s.cj.aA.set d (iV (bD d) ⟨.st q,z⟩),aK:=bJ (bD d) (q.cells z)++(s.cj.gb id (.st p) (xs.set i y)).aK }=lk':=by
   funext j;rw[k1 j];exact oB _ _ j
  unfold Inv;rw[bS,show aq.sl { aA:=s.cj.aA.set d (iV (bD d) ⟨.st q,z⟩),aK:=bJ (bD d) (q.cells z)++(s.cj.gb id (.st p) (xs.set i y)).aK }=jD s.cj.aA.length s.cj.sl (some d) (iV (bD d) ⟨.st q,z⟩) from pJ s.cj.aA d _ _,
   show ({ aA:=s.cj.aA.set d (iV (bD d) ⟨.st q,z⟩),aK:=bJ (bD d) (q.cells z)++(s.cj.gb id (.st p) (xs.set i y)).aK }:aq).aA.length=s.cj.aA.length from by simp]
  exact bf.put k2 k4.fO
 case h_3 cl bh =>
  split at hq;case h_3=>cases hq
  case h_2 f fX =>
   split at hq;case h_1=>cases hq
   case h_2 fl _ _ =>
   split at hq;case h_2=>cases hq
   case h_1 own ids ht =>
   split at hq;case h_2=>cases hq
   case h_1 Z9 hb has =>
   split at hq;case h_2=>cases hq
   case h_1 pre res hc =>
   split at hq;case h_2=>cases hq
   case h_1 G6 =>
   simp only[Option.some.injEq,Prod.mk.injEq] at hq;obtain⟨rfl,rfl⟩:=hq;simp only[Bool.and_eq_true,List.all_eq_true] at G6;have tK:∀ p∈bg (bD d) res,(ids.foldl aq.gone s).ai p.1=none:=λ p hp=>by simpa using G6.1 p hp
   have pY:=cZ G6.2;obtain⟨qD,kB⟩:=hE.Lb f Z9 pre res hc eb;obtain⟨zb,t1,t2,t3,t4⟩:=xk h ht (cZ hb) (aM.jV (aW h) _);have h1:Inv c G (ids.foldl aq.gone s) a w:=wj ids h;have hF:∀ b,b∈zb.flatten->uM c G (ids.foldl aq.gone s).ai w b:=λ b hb=>Kp h (t4 b hb);obtain⟨m1,m2⟩:=tV hE h1 has t1 t2 (aM.jV (aW h1) _);generalize hs1:ids.foldl aq.gone s=s1 at *
   unfold Oper.wp;rw[gJ bh fX rfl qD];simp only[Oper.upon];refine (kB w (SX G s1.ai) _ zb.flatten ?_ m1 (.inr m2) t3 (λ b hb=>⟨(hF b hb).2.2.1,(hF b hb).a8o⟩)).mono ?_
   .exact h1.YY
   .rintro e w' ⟨x,fp,rfl,hk,hO,c6,mX⟩;have hI:=Inv.over h1 hF hk;obtain⟨ys,tI,S2⟩:=Jj (c:=c) (id:=bD d) hO;have hFr:Fr c G s1.ai w' fp:=λ b hb=>by
     rcases mX b hb with hi|⟨q1,q2⟩
     .obtain⟨f1,f2,f3,f4,f5⟩:=hF b hi;exact⟨f1,f2,b6a f3 hk.size,f4,f5⟩
     .refine⟨.inl (b7g h1.keep.size q1),λ hs=>?_,q2,λ i o' hi tJ=>?_,λ j τ zs hj mV=>?_⟩
      .have:=h1.dx b hs;omega
      .have:=(h1.place i o' b hi tJ).2.2;omega
      .have:=(h1.aP.pl j τ zs b hj mV).2.2.1;omega
    obtain⟨G',lk',k1,k2,k3,k4,_⟩:=hI.JJ (id:=bD d) tI c6 hFr tK pY (λ j hj=>by
     cases hr:c.R j with
     | none=>rfl
     | some v=>have:=h.fZ j v hr;unfold bD at hj;omega)
    refine⟨G',?_⟩;have bS:aq.ai { aA:=s1.aA.set d (jW (bD d) res),aK:=bg (bD d) res++s1.aK }=lk':=by
     funext i;rw[k1 i];exact oB _ _ i
    unfold Inv;rw[bS,hd,show aq.sl { aA:=s1.aA.set d (jW (bD d) res),aK:=bg (bD d) res++s1.aK }=jD s1.aA.length s1.sl (some d) (jW (bD d) res) from pJ s1.aA d _ _,
     show ({ aA:=s1.aA.set d (jW (bD d) res),aK:=bg (bD d) res++s1.aK }:aq).aA.length=s1.aA.length from by simp]
    exact bf.put k2 (S2 G' lk' k4)
  case h_1 fX =>
  split at hq;case h_2=>cases hq
  case h_1 T T' QS =>
  split at hq;case h_2=>cases hq
  case h_1 τ b e QR hT =>
  have QR:=b5G QR;subst QR;split at hq;case h_2=>cases hq
  case h_1 x y dO =>
  split at hq;case h_2=>cases hq
  case h_1 xs i ys j hx hy =>
  split at hq;case h_2=>cases hq
  case h_1 hb qE =>
  simp only[b5E,b5H] at hq;obtain⟨rfl,rfl⟩:=hq;obtain⟨v,z,e1,e2,e3⟩:=a6C h dO;have hb:=cZ hb;rw[b6l] at hb;obtain⟨n1,n2,n3⟩:=hb;obtain⟨fx,o1,o2,o3⟩:=a6i h hx e2;obtain⟨fy,p1,p2,p3⟩:=a6i h hy e3;obtain⟨v',w',fp,l,k1,k2,k3,k4,k5,k6⟩:=U8 (c:=c) (w:=w) hE hT o1 p1 (λ k hk=>V3 h (o3 k hk)) (λ k hk=>V3 h (p3 k hk)) o2 p2
   (λ k hk iP=>h.iD (o3 k hk) (p3 k iP) λ x hx y hy=>n3 x hx y hy) eb o.type
  have KB:cl.argTypes = #[T,T]:=by rw[<-b6P (xs:=cl.argTypes),QS]
  have E4:cl.args.map a.eval = #[v,z]:=by rw[<-b6P (xs:=cl.args.map a.eval),b7S,e1]
  have QX:(execOp a.eval o)=(do let d <-resolve a.eval cl o.type;invoke d.target d.args):=by simp[execOp,bh]
  have KG:(execOp a.eval o).run c.P w=((Builtin.append_ #[T,T] o.type #[v,z]).run c.P w).andThen λ v w => .ok (.value v) w:=by
   rw[QX];simp[resolve,fX,invoke,builtin,KB,E4]
  unfold Oper.wp;rw[KG,k1];show ∃ G',Inv c G' _ (a.put o.dst _) _;rw[hd];refine Inv.built h (zs:=xs++ys) (fp:=fp) (l:=l) (k6.a5o λ k hk=>(o3 k hk).mono λ i hi=>by simp[hi]) k2 k3 k4 (λ k hk=>?_) qE;rcases k5 k hk with hk|hk|hk
  .exact .inl ((o3 k hk).mono λ i hi=>by simp[hi])
  .exact .inl ((p3 k hk).mono λ i hi=>by simp[hi])
  .exact .inr hk
end
def b1G:Value->Nat
 | .pointer (some a)=>a.block
 | _=>0
def kc(G:Gh)(m:List (Nat×Nat))(k:Nat):Nat:=match ai m k with
 | some id=>b1G (G.η id)
 | none=>0
def kL(m m':List (Nat×Nat)):Prop:=∀ k id,ai m k=some id->ai m' k=some id
theorem kL.refl(m:List (Nat×Nat)):kL m m:=λ _ _ h=>h
theorem kL.trans{a b c:List (Nat×Nat)}(h:kL a b)(k:kL b c):kL a c:=λ i id q=>k i id (h i id q)
theorem oC{α:Type}(k:Nat)(o:α)(l:List (Nat×α))(j:Nat):ai ((k,o)::l) j=if j=k then some o else ai l j:=by
 have e:ai ((k,o)::l) j=match Nat.beq k j with
  | true=>some o
  | false=>ai l j:=rfl
 rw[e];cases hb:Nat.beq k j with
 | true=>rw[b5Q (b5G hb).symm]
 | false=>rw[b5I (λ e=>by subst e;rw[Nat.beq_refl] at hb;cases hb)]
theorem QB{m:List (Nat×Nat)}{k id:Nat}(h:ai m k=none):kL m ((k,id)::m):=λ i j q=>by
 rw[oC];by_cases hi:i=k
 .subst hi;rw[h] at q;cases q
 .rw[b5I hi];exact q
theorem Rx{m:List (Nat×Nat)}{k id:Nat}:ai ((k,id)::m) k=some id:=by rw[oC,b5Q rfl]
section
variable {c:Ctx} {G:Gh} {s:aq} {a:Act} {w w':World}
theorem a3J{lk:Nat->Option av}{τ:Ty}{v:AV}{x:Value}{y:τ.den}(h:jv (λ _=>none) τ v=some y)(hv:C1 c G lk w v x):Rd w G.S (τ.aL y) [x]:=Pq h hv
theorem nG{sl:Nat->AV}{n:Nat}{lk:Nat->Option av}(h:bf c G sl n lk a w):∀ {ks:List CK} {cs:List AV} {m m':List (Nat×Nat)} {ds:List TV} {ids:List Nat} {l:List Value},cQ lk ks cs m=some (ds,ids,m')->ids.Nodup->aM (C1 c G lk w) cs l ->
  kL m m'/\∃ fp,(∀ mf,kL m' mf->iJ w G.S (kc G mf) ks ds l fp)/\fp.Nodup/\∀ b∈fp,vF G lk ids b
 | [],[],m,m',ds,ids,l,ht,_,hv=>by
  simp only[cQ,b5E,b5H] at ht;obtain⟨rfl,rfl,rfl⟩:=ht;match l,hv with
  | [],_=>exact⟨kL.refl _,[],λ _ _=>rfl,b7c,by simp⟩
 | .d τ::ks,v::cs,m,m',ds,ids,l,ht,hn,hv=>by
  simp only[cQ] at ht;split at ht;case h_2=>cases ht
  case h_1 y hy C7 =>
  split at ht;case h_2=>cases ht
  case h_1 ds1 XV m1 hr =>
  simp only[b5E,b5H] at ht;obtain⟨rfl,rfl,rfl⟩:=ht;match l,hv with
  | x::l,hv =>
   obtain⟨e1,fp,e2,e3,e4⟩:=nG h hr hn hv.2;exact⟨e1,fp,λ mf hm=>⟨⟨rfl,C7,a3J hy hv.1⟩,e2 mf hm⟩,e3,e4⟩
 | .o τ::ks,v::cs,m,m',ds,ids,l,ht,hn,hv=>by
  simp only[cQ] at ht;split at ht;case h_2=>cases ht
  case h_1 y i hy C7 =>
  split at ht;case h_2=>cases ht
  case h_1 ds1 XV m1 hr =>
  simp only[b5E,b5H] at ht;obtain⟨rfl,rfl,rfl⟩:=ht;rw[b6l] at hn;obtain⟨n1,n2,n3⟩:=hn;match l,hv with
  | x::l,hv =>
   obtain⟨e1,fp,e2,e3,e4⟩:=nG h hr n2 hv.2;obtain⟨f1,o1,o2,o3⟩:=yG h hy hv.1;refine⟨e1,f1++fp,λ mf hm=>⟨f1,fp,rfl,⟨rfl,C7,o1⟩,e2 mf hm⟩,dS o2 e3 λ b hb cw=>h.iD (o3 b hb) (e4 b cw) λ x hx y hy=>n3 x hx y hy,λ b hb=>?_⟩;rcases b5F.1 hb with hb|hb
   .exact (o3 b hb).mono λ k hk=>by simp[hk]
   .exact (e4 b hb).mono λ k hk=>by simp[hk]
 | .p j::ks,v::cs,m,m',ds,ids,l,ht,hn,hv=>by
  simp only[cQ] at ht;split at ht;case h_2=>cases ht
  case h_1 id =>
  match l,hv with
  | x::l,hv =>
   have key:∀ m1,cQ lk ks cs m1=some (ds,ids,m')->kL m m1->ai m1 j=some id->kL m m'/\∃ fp,(∀ mf,kL m' mf->iJ w G.S (kc G mf) (.p j::ks) ds (x::l) fp)/\fp.Nodup/\∀ b∈fp,vF G lk ids b:=λ m1 hr hx hj=>by
    obtain⟨e1,fp,e2,e3,e4⟩:=nG h hr hn hv.2;refine⟨hx.trans e1,fp,λ mf hm=>?_,e3,e4⟩;have hv1:C1 c G lk w (.ptr id 0) x:=hv.1;obtain⟨b,h1,h2,_⟩:=hv1;have:kc G mf j=b:=by
     simp only[kc,hm j id (e1 j id hj),h1];rfl
    cases ds with
    | nil=>exact⟨by rw[this];exact h2,e2 mf hm⟩
    | cons d ds=>exact⟨by rw[this];exact h2,e2 mf hm⟩
   split at ht
   .rename_i i hi;split at ht
    .rename_i hb;have hb:=b5G hb;subst hb;exact key m ht (kL.refl _) hi
    .cases ht
   .rename_i hU;exact key _ ht (QB hU) Rx
 | [],_::_,_,_,_,_,_,ht,_,_=>by simp[cQ] at ht
 | .d _::_,[],_,_,_,_,_,ht,_,_=>by simp[cQ] at ht
 | .o _::_,[],_,_,_,_,_,ht,_,_=>by simp[cQ] at ht
 | .p _::_,[],_,_,_,_,_,ht,_,_=>by simp[cQ] at ht
def a9U(lk:Nat->Option av)(m:List (Nat×Nat))(k0 n:Nat):Prop:=∀ k,k0<=k->k<k0+n->∃ id cs,ai m k=some id/\lk id=some (.box cs)
theorem ud{sl:Nat->AV}{n:Nat}{lk:Nat->Option av}(h:bf c G sl n lk a w):∀ {sh:List (List CK)} {k:Nat} {m m':List (Nat×Nat)} {bz:List (List TV)} {ids:List Nat},iH lk sh k m=some (bz,ids,m')->ids.Nodup ->
  kL m m'/\a9U lk m' k sh.length/\∃ fp,(∀ mf,kL m' mf->ft w G.S (kc G mf) k sh bz fp)/\fp.Nodup/\∀ b∈fp,vF G lk ids b
 | [],k,m,m',bz,ids,ht,_=>by
  simp only[iH,b5E,b5H] at ht;obtain⟨rfl,rfl,rfl⟩:=ht;exact⟨kL.refl _,λ j h1 h2=>by simp at h2;omega,[],λ _ _=>rfl,b7c,by simp⟩
 | ks::sh,k,m,m',bz,ids,ht,hn=>by
  simp only[iH] at ht;split at ht;case h_2=>cases ht
  case h_1 id aS =>
  split at ht;case h_2=>cases ht
  case h_1 cs jt =>
  split at ht;case h_2=>cases ht
  case h_1 ds i m1 hr =>
  split at ht;case h_2=>cases ht
  case h_1 b3l XV m2 MB =>
  simp only[b5E,b5H] at ht;obtain⟨rfl,rfl,rfl⟩:=ht;rw[b6l] at hn;obtain⟨n1,n2,n3⟩:=hn;obtain⟨b,l,t,q1,q2,q3⟩:=h.aK id _ jt;obtain⟨e1,f1,e2,e3,e4⟩:=nG h hr n1 q3;obtain⟨g1,g0,f2,g2,g3,g4⟩:=ud h MB n2;refine⟨e1.trans g1,λ j h1 h2=>?_,f1++f2,λ mf hm=>⟨l,t,f1,f2,rfl,?_,e2 mf (g1.trans hm),g2 mf hm⟩,dS e3 g3 λ b hb cw=>h.iD (e4 b hb) (g4 b cw) λ x hx y hy=>n3 x hx y hy,λ b hb=>?_⟩
  .by_cases hj:j=k
   .subst hj;exact⟨id,cs,(e1.trans g1) j id aS,jt⟩
   .exact g0 j (by omega) (by simp at h2;omega)
  .have:kc G mf k=b:=by
    simp only[kc,hm k id ((e1.trans g1) k id aS),q1];rfl
   rw[this];exact q2
  .rcases b5F.1 hb with hb|hb
   .exact (e4 b hb).mono λ k hk=>by simp[hk]
   .exact (g4 b hb).mono λ k hk=>by simp[hk]
theorem vM:∀ {fl:List (Option Nat)} {vs:List AV} {m m':List (Nat×Nat)},ja fl vs m=some m'->kL m m'/\∀ (i k:Nat),fl[i]?=some (some k)->∃ id,vs[i]?=some (AV.ptr id 0)/\ai m' k=some id
 | [],[],m,m',h=>by
  simp only[ja,b5E] at h;subst h;exact⟨kL.refl _,λ i k q=>by simp at q⟩
 | none::fl,v::vs,m,m',h=>by
  obtain⟨h1,h2⟩:=vM (fl:=fl) (vs:=vs) h;refine⟨h1,λ i k q=>?_⟩;cases i with
  | zero=>simp at q
  | succ i=>exact h2 i k (by simpa using q)
 | some k::fl,v::vs,m,m',h=>by
  simp only[ja] at h;split at h;case h_2=>cases h
  case h_1 id =>
  have key:∀ m1,kL m m1->ai m1 k=some id->ja fl vs m1=some m'->kL m m'/\∀ (i k':Nat),(some k::fl)[i]?=some (some k')->∃ dk,(AV.ptr id 0::vs)[i]?=some (AV.ptr dk 0)/\ai m' k'=some dk:=λ m1 e1 e2 e3=>by
   obtain⟨h1,h2⟩:=vM e3;refine⟨e1.trans h1,λ i k' q=>?_⟩;cases i with
   | zero =>
    simp only[b8L,b5E] at q;subst q;exact⟨id,rfl,h1 k id e2⟩
   | succ i=>exact h2 i k' (by simpa using q)
  split at h
  .rename_i i hi;split at h
   .rename_i hb;have hb:=b5G hb;subst hb;exact key m (kL.refl _) hi h
   .cases h
  .rename_i hU;exact key _ (QB hU) Rx h
 | [],_::_,_,_,h=>by simp[ja] at h
 | some _::_,[],_,_,h=>by simp[ja] at h
 | none::_,[],_,_,h=>by simp[ja] at h
theorem vx{lk:Nat->Option av}{ids:List Nat}{id:Nat}{o:av}(h:Wm lk ids id=some o):lk id=some o/\id∉ids/\∃ cs,o = .box cs:=by
 unfold Wm at h;split at h
 .cases h
 .rename_i hc;split at h
  .rename_i cs jt;simp only[Option.some.injEq] at h;subst h;exact⟨jt,by simpa using hc,cs,rfl⟩
  .cases h
theorem a2N{S S':Nat->Prop}{τ:Ty}{y:τ.den}{x:Value}(hf:(match CK.d τ with | .d (.slice _)=>false | .d (.mv _)=>false|_=>true)=true)(ha:τ.agg=false)(h:Rd w S (τ.aL y) [x]):Rd w S' (τ.aL y) [x]:=by
 cases τ with
 | slice t=>cases hf
 | mv t=>cases hf
 | st s=>cases ha
 | _=>exact h
theorem iJ.flat{S S':Nat->Prop}{B:Nat->Nat}:∀ {ks:List CK} {ds:List TV} {l:List Value} {fp:List Nat},(ks.all λ k=>match k with | .d (.slice _)=>false | .d (.mv _)=>false|_=>true)=true->iJ w S B ks ds l fp->iJ w S' B ks ds l fp:=by
 intro ks;induction ks with
 | nil=>intro ds l fp _ h;cases ds<;>cases l<;>exact h
 | cons k0 ks ih =>
  intro ds l fp hf h;rw[List.all_cons,b5M] at hf;cases l with
  | nil=>cases k0<;>cases ds<;>cases h
  | cons x l =>
   cases k0 with
   | d τ =>
    cases ds with
    | nil=>cases h
    | cons v ds =>
     obtain⟨⟨e,h1,h2⟩,h3⟩:=h;refine⟨⟨e,h1,?_⟩,ih hf.2 h3⟩;obtain⟨aU,y⟩:=v;simp only at e;subst e;exact a2N hf.1 h1 h2
   | o τ =>
    cases ds with
    | nil=>cases h
    | cons v ds =>
     obtain⟨f1,f2,e,h1,h2⟩:=h;exact⟨f1,f2,e,h1,ih hf.2 h2⟩
   | p j =>
    have h:x = .pointer (some ⟨B j,0,none⟩)/\iJ w S B ks ds l fp:=by cases ds<;>exact h
    have r:=ih hf.2 h.2;cases ds<;>exact⟨h.1,r⟩
theorem ft.flat{S S':Nat->Prop}{B:Nat->Nat}:∀ {sh:List (List CK)} {k:Nat} {bz:List (List TV)} {fa:List Nat},Kl sh=true->ft w S B k sh bz fa->ft w S' B k sh bz fa
 | [],k,bz,fa,_,h=>by cases bz<;>exact h
 | ks::sh,k,[],fa,_,h=>h.elim
 | ks::sh,k,ds::bz,fa,hf,h=>by
  obtain⟨l,t,f1,f2,e,h1,h2,h3⟩:=h;unfold Kl at hf;rw[List.all_cons,Bool.and_eq_true] at hf;exact⟨l,t,f1,f2,e,h1,h2.flat hf.1,ft.flat hf.2 h3⟩
theorem JF.more{P:Program}{f:FuncId}{sh:List (List CK)}{args:List Arg}{bz:List (List TV)}{res:List TV}{dz:List (List TV)}(h:JF P f sh args bz res dz)(SV:Kl sh=true){S T:Nat->Prop}{B:Nat->Nat}{bK:List Value}{fa:List Nat}(hT:pO w T)(hST:∀ b,S b->T b)
  (hX:∀ b,BX sh.length B fa b->¬ T b) (QP:ft w S B 0 sh bz fa) (N2:fa.Nodup) (Cb:∀ b∈fa,b<w.heap.size/\¬ S b/\∀ k,k<sh.length->B k≠b) (hB:∀ k,k<sh.length->B k<w.heap.size/\¬ S (B k))
  (C9:∀ j k,j<sh.length->k<sh.length->B j=B k->j=k) (ha:aM (NA P w T (BX sh.length B fa) B) args bK):U5 P f sh res dz w S B bK fa:=by
 refine (h w T B bK fa hT (QP.flat SV) N2 (λ b hb=>⟨(Cb b hb).1,hX b (.inl hb),(Cb b hb).2.2⟩) (λ k hk=>⟨(hB k hk).1,hX _ (.inr ⟨k,hk,rfl⟩)⟩) C9 ha).mono ?_;rintro e w' ⟨x,S',fp,Iw,rfl,hk,ZZ,hS2,hS3,hO,hB',c6,mX,hBS⟩;refine⟨x,λ b=>S' b/\(T b->S b),fp,Iw,rfl,hk,λ b hb=>⟨ZZ b (hST b hb),λ _=>hb⟩,λ b hb=>hS2 b hb.1,λ b hb hx=>?_,hO,hB'.flat SV,c6,λ b hb=>⟨(mX b hb).1,λ q=>(mX b hb).2.1 q.1,(mX b hb).2.2⟩,λ k hk q=>hBS k hk q.1⟩;have:=hS3 b hb hx;exact⟨λ q=>q.2 (this.1 q.1),λ q=>⟨this.2 (hST b q),λ _=>q⟩⟩
theorem Ls{sh:List (List CK)}{lk:Nat->Option av}{ids:List Nat}{id:Nat}{o:av}(h:sLk sh lk ids id=some o):lk id=some o/\id∉ids:=by
 unfold sLk at h;split at h
 .split at h
  .cases h
  .rename_i hc;exact⟨h,by simpa using hc⟩
 .obtain⟨h1,h2,_⟩:=vx h;exact⟨h1,h2⟩
theorem RZ(h1:Inv c G s a w){S1 X:Nat->Prop}{lk':Nat->Option av}(bS:∀ id o,lk' id=some o->s.ai id=some o)(gV:∀ (τ:Ty) v x (y:τ.den),uP lk' τ v=some y->VR c G s.ai w v x->dE w S1 ⟨τ,y⟩ x)
  (ux:∀ b,X b->¬ St c G.S b) (lA:∀ id o b,lk' id=some o->dD (G.η id)=some b->¬ X b) {τ:Ty} {v:AV} {x:Value} {y:τ.den} (hy:deref lk' τ v=some y) (hx:VR c G s.ai w v x) :
  ∃ b o cs,x = .pointer (some ⟨b,o,none⟩)/\b<w.heap.size/\¬ X b/\bP w b o cs/\Rd w S1 (τ.aL y) cs:=by
 obtain⟨b,o,cs,k1,k2,k3,k4⟩:=Ey (S:=S1) h1 bS gV hy hx;refine⟨b,o,cs,k1,k2,?_,k3,k4⟩;unfold deref at hy;split at hy;case h_2=>cases hy
 case h_1 u hu =>
 cases v with
 | cT z =>
  obtain⟨b',o',dw,q1,q2,_⟩:=hx;rw[k1] at q1;simp only[b8l,b5E,b7G] at q1;obtain⟨rfl,_⟩:=q1;exact λ hb=>ux _ hb q2
 | ptr id off =>
  obtain⟨b',q1,q2,_⟩:=hx;rw[k1] at q2;simp only[b8l,b5E,b7G] at q2;obtain⟨rfl,_⟩:=q2;simp only[rC] at hu;split at hu
  .rename_i Xg jt;exact lA id _ _ jt (by rw[q1];rfl)
  .cases hu
 | eA id i off =>
  obtain⟨b',n',TH,e',aU,cK,q1,q2,q3,q4⟩:=hx;rw[k1] at q4;simp only[b8l,b5E,b7G] at q4;obtain⟨rfl,_⟩:=q4;simp only[rC] at hu;split at hu
  .rename_i hr;exact lA id _ _ hr (by rw[q1];rfl)
  .cases hu
 | _=>simp[rC] at hu
theorem Et(h1:Inv c G s a w){S1 X:Nat->Prop}{lk':Nat->Option av}(bS:∀ id o,lk' id=some o->s.ai id=some o)(gV:∀ (τ:Ty) v x (y:τ.den),uP lk' τ v=some y->VR c G s.ai w v x->dE w S1 ⟨τ,y⟩ x)
  (ux:∀ b,X b->¬ St c G.S b) (lA:∀ id o b,lk' id=some o->dD (G.η id)=some b->¬ X b):∀ {ks:List (Bool×Ty)} {vs:List AV} {Z9:List Arg} {xs:List Value},oX lk' ks vs=some Z9->aM (CR c G s.ai w) vs xs->aM (a8M w S1 X) Z9 xs
 | [],[],Z9,xs,h,hv=>by
  simp only[oX,b5E] at h;subst h;match xs,hv with
  | [],_=>trivial
 | (true,τ)::ks,v::vs,Z9,xs,h,hv=>by
  simp only[oX] at h;split at h
  .rename_i y hy;split at h
   .rename_i r hr;simp only[b5E] at h;subst h;match xs,hv with
    | x::xs,hv=>exact⟨RZ h1 bS gV ux lA hy hv.1.fO,Et h1 bS gV ux lA hr hv.2⟩
   .cases h
  .cases h
 | (false,τ)::ks,v::vs,Z9,xs,h,hv=>by
  simp only[oX] at h;split at h
  .rename_i y hy;split at h
   .rename_i r hr;simp only[b5E] at h;subst h;match xs,hv with
    | x::xs,hv=>exact⟨gV _ _ _ _ hy hv.1.fO,Et h1 bS gV ux lA hr hv.2⟩
   .cases h
  .cases h
 | [],_::_,_,_,h,_=>by cases h
 | (true,_)::_,[],_,_,h,_=>by cases h
 | (false,_)::_,[],_,_,h,_=>by cases h
theorem ZE(hE:bl c.P c.E)(h1:Inv c G s a w){S1 X:Nat->Prop}(OJ:∀ b,G.S b->S1 b){lk':Nat->Option av}(bS:∀ id o,lk' id=some o->s.ai id=some o)(gV:∀ (τ:Ty) v x (y:τ.den),uP lk' τ v=some y->VR c G s.ai w v x->dE w S1 ⟨τ,y⟩ x)
  (ux:∀ b,X b->¬ St c G.S b) (lA:∀ id o b,lk' id=some o->dD (G.η id)=some b->¬ X b) {g:AV} {x:Value} {q:FV} {B:Nat->Nat} (h:BS c.E lk' g=some q) (hx:VR c G s.ai w g x):NA c.P w S1 X B (.cO q) x:=by
 unfold BS at h;split at h
 .rename_i f cs;split at h
  .rename_i k _;split at h
   .rename_i Z9 has;simp only[b5E] at h;subst h;obtain⟨l,k1,k2⟩:=hx;exact⟨f,Z9,l,k1,vO hE _ _ _,Et h1 bS gV ux lA has k2⟩
   .cases h
  .cases h
 .simp only[b5E] at h;subst h;obtain⟨f,ew,l,k1,k2,k3⟩:=hx;refine⟨f,ew,l,k1,k2,k3.imp λ u y _ hy=>?_⟩;cases u with
  | val v=>exact dE.mono (G:=G) (G':=⟨S1,G.η,G.φ⟩) hy OJ (λ _ _=>rfl)
  | ref v =>
   obtain⟨b,o,cs,k1,k2,k3,k4⟩:=hy;refine⟨b,o,cs,k1,?_,λ hb=>ux b hb k2,k3,Rd.keep OJ (λ _ _=>rfl) _ k4⟩;exact k2.elim (h1.dx b) λ k=>b6a k.1 h1.keep.size
  | fn f=>exact hy
  | _=>exact hy.elim
 .rename_i f;split at h
  .rename_i k _;split at h
   .simp only[b5E] at h;subst h;exact⟨f,[],[],hx,vO hE _ _ _,af⟩
   .cases h
  .cases h
 .cases h
theorem sQ(hE:bl c.P c.E)(h1:Inv c G s a w){mf:List (Nat×Nat)}{S1 X:Nat->Prop}(OJ:∀ b,G.S b->S1 b){lk':Nat->Option av}(bS:∀ id o,lk' id=some o->s.ai id=some o)
  (gV:∀ (τ:Ty) v x (y:τ.den),uP lk' τ v=some y->VR c G s.ai w v x->dE w S1 ⟨τ,y⟩ x) (ux:∀ b,X b->¬ St c G.S b) (lA:∀ id o b,lk' id=some o->dD (G.η id)=some b->¬ X b) {lk0:Nat->Option av} :
  ∀ {fl:List (Option Nat)} {Ts:List TypeId} {vs WS:List AV} {xs:List Value} {Z9:List Arg},pH c.E lk' fl Ts vs=some Z9->aM (VR c G s.ai w) vs xs->aM (VR c G lk0 w) WS xs ->
   (∀ (i k:Nat),fl[i]?=some (some k)->∃ id,WS[i]?=some (AV.ptr id 0)/\ai mf k=some id)->aM (NA c.P w S1 X (kc G mf)) Z9 xs
 | [],[],[],WS,xs,Z9,h,hv,_,_=>by
  simp only[pH,b5E] at h;subst h;match xs,hv with
  | [],_=>trivial
 | some k::fl,T::Ts,v::vs,WS,xs,Z9,h,hv,KO,hb=>by
  simp only[pH] at h;split at h;case h_2=>cases h
  case h_1 r hr =>
  simp only[b5E] at h;subst h;match xs,WS,hv,KO with
  | x::xs,v0::WS,hv,KO =>
   obtain⟨id,q1,q2⟩:=hb 0 k rfl;simp only[List.getElem?_cons_zero,Option.some.injEq] at q1;subst q1;have hp:VR c G lk0 w (.ptr id 0) x:=KO.1;obtain⟨b,k1,k2,_⟩:=hp;refine⟨?_,sQ hE h1 OJ bS gV ux lA hr hv.2 KO.2 λ i k' q=>by simpa using hb (i+1) k' (by simpa using q)⟩;show x = .pointer (some ⟨kc G mf k,0,none⟩);simp only[kc,q2,k1];exact k2
  | x::xs,[],_,KO=>exact KO.elim
 | none::fl,T::Ts,v::vs,WS,xs,Z9,h,hv,KO,hb=>by
  simp only[pH] at h;split at h;case h_2=>cases h
  case h_1 z hz =>
  split at h;case h_2=>cases h
  case h_1 r hr =>
  simp only[b5E] at h;subst h;match xs,WS,hv,KO with
  | x::xs,v0::WS,hv,KO =>
   refine⟨?_,sQ hE h1 OJ bS gV ux lA hr hv.2 KO.2 λ i k' q=>by simpa using hb (i+1) k' (by simpa using q)⟩;unfold P7 at hz;split at hz
   .rename_i τ q hT;split at hz
    .rename_i y hy;simp only[b5E] at hz;subst hz;exact gV _ _ _ _ hy hv.1
    .cases hz
   .split at hz
    .rename_i τ hT;split at hz
     .rename_i y hy;simp only[b5E] at hz;subst hz;exact RZ h1 bS gV ux lA hy hv.1
     .cases hz
    .split at hz
     .rename_i q hq;simp only[b5E] at hz;subst hz;exact ZE hE h1 OJ bS gV ux lA hq hv.1
     .split at hz
      .rename_i f;simp only[b5E] at hz;subst hz;exact hv.1
      .cases hz
  | x::xs,[],_,KO=>exact KO.elim
 | [],_::_,_,_,_,_,h,_,_,_=>by simp[pH] at h
 | [],[],_::_,_,_,_,h,_,_,_=>by simp[pH] at h
 | some _::_,[],_,_,_,_,h,_,_,_=>by simp[pH] at h
 | none::_,[],_,_,_,_,h,_,_,_=>by simp[pH] at h
 | some _::_,_::_,[],_,_,_,h,_,_,_=>by simp[pH] at h
 | none::_,_::_,[],_,_,_,h,_,_,_=>by simp[pH] at h
def du:List CK->List TV->List TV
 | .d _::ks,_::ds=>du ks ds
 | .o _::ks,v::ds=>v::du ks ds
 | .p _::ks,ds=>du ks ds
 | _,_=>[]
def kG:List CK->List Value->List Value
 | .o _::ks,x::xs=>x::kG ks xs
 | _::ks,_::xs=>kG ks xs
 | _,_=>[]
theorem iJ.uL{S:Nat->Prop}{B:Nat->Nat}:∀ {ks:List CK} {ds:List TV} {l:List Value} {fp:List Nat},iJ w S B ks ds l fp->cW w ((du ks ds).map TV.aL) (kG ks l) fp/\(∀ u∈du ks ds,u.τ.agg=false)/\(du ks ds).length=(kG ks l).length
 | [],[],[],fp,h=>⟨⟨rfl,h⟩,by simp[du],rfl⟩
 | .d τ::ks,v::ds,x::xs,fp,h=>by
  obtain⟨_,h2⟩:=h;obtain⟨k1,k2,k3⟩:=iJ.uL h2;exact⟨k1,k2,k3⟩
 | .o τ::ks,v::ds,x::xs,fp,h=>by
  obtain⟨f1,f2,rfl,⟨e,h1,h2⟩,h3⟩:=h;obtain⟨k1,k2,k3⟩:=iJ.uL h3;refine⟨⟨x,kG ks xs,f1,f2,rfl,rfl,h2,k1⟩,λ u hu=>?_,by simp[du,kG,k3]⟩;rcases b5X.1 hu with rfl|hu
  .rw[e];exact h1
  .exact k2 u hu
 | .p j::ks,ds,x::xs,fp,h=>by
  have h:x = .pointer (some ⟨B j,0,none⟩)/\iJ w S B ks ds xs fp:=by cases ds<;>exact h
  obtain⟨k1,k2,k3⟩:=iJ.uL h.2;refine⟨?_,?_,?_⟩<;>cases ds<;>first|exact k1|exact k2|exact k3
 | [],_::_,_,_,h=>h.elim
 | [],[],_::_,_,h=>h.elim
 | .d _::_,[],_,_,h=>by cases h
 | .o _::_,[],_,_,h=>by cases h
 | .d _::_,_::_,[],_,h=>by cases h
 | .o _::_,_::_,[],_,h=>by cases h
 | .p _::_,ds,[],_,h=>by cases ds<;>cases h
theorem DE:∀ (n:Nat) (a b:List TV),bJ n (a++b)=bJ n a++bJ (n+a.length) b
 | n,[],b=>by simp[bJ]
 | n,u::a,b=>by
  have:=DE (n+1) a b;simp only[b6x,bJ,this,b6v,b5S];rw[show n+1+a.length=n+(a.length+1) by omega]
theorem qX:∀ (n:Nat) (a b:List TV),bW n (a++b)=bW n a++bW (n+a.length) b
 | n,[],b=>by simp[bW]
 | n,u::a,b=>by
  have:=qX (n+1) a b;simp only[b6x,bW,this,b5S];rw[show n+1+a.length=n+(a.length+1) by omega]
theorem cW.append:∀ {a b:List D} {x y:List Value} {f g:List Nat},cW w a x f->cW w b y g->cW w (a++b) (x++y) (f++g)
 | [],b,x,y,f,g,h,k=>by
  obtain⟨rfl,rfl⟩:=h;exact k
 | d::a,b,x,y,f,g,h,k=>by
  obtain⟨v,r,f1,f2,rfl,rfl,h3,h4⟩:=h;exact⟨v,r++y,f1,f2++g,rfl,by simp,h3,h4.append k⟩
theorem pB{m:List (Nat×Nat)}{S:Nat->Prop}{B:Nat->Nat}{G':Gh}{lk':Nat->Option av}(hS:∀ b,S b->G'.S b)(hB:∀ j id,ai m j=some id->G'.η id = .pointer (some ⟨B j,0,none⟩)/\fR (lk' id)=true) :
  ∀ {ks:List CK} {cs:List AV} {ds:List TV} {n n':Nat} {r:List AV} {os:List (Nat×av)} {l:List Value} {fp:List Nat},bO m ks cs ds n=some (r,os,n')->iJ w S B ks ds l fp->aM (C1 c G' lk' w) (bW n (du ks ds)) (kG ks l) ->
   aM (C1 c G' lk' w) r l
 | [],[],[],n,n',r,os,l,fp,h,hb,hc=>by
  simp only[bO,b5E,b5H] at h;obtain⟨rfl,rfl,rfl⟩:=h;match l,hb with
  | [],_=>trivial
 | .d τ::ks,c0::cs,v::ds,n,n',r,os,l,fp,h,hb,hc=>by
  simp only[bO] at h;split at h;case h_2=>cases h
  case h_1 hv =>
  split at h;case h_2=>cases h
  case h_1 r1 Yv n1 hr =>
  simp only[b5E,b5H] at h;obtain⟨rfl,rfl,rfl⟩:=h;match l,hb with
  | x::l,hb =>
   obtain⟨⟨e,h1,h2⟩,h3⟩:=hb;exact⟨⟨by rw[e];exact h1,Rd.keep hS (λ _ _=>rfl) _ h2⟩,pB hS hB hr h3 hc⟩
 | .o τ::ks,c0::cs,v::ds,n,n',r,os,l,fp,h,hb,hc=>by
  simp only[bO] at h;split at h;case h_2=>cases h
  case h_1 hv =>
  split at h;case h_2=>cases h
  case h_1 r1 Yv n1 hr =>
  simp only[b5E,b5H] at h;obtain⟨rfl,rfl,rfl⟩:=h;match l,hb with
  | x::l,hb =>
   obtain⟨f1,f2,rfl,⟨e,h1,h2⟩,h3⟩:=hb;exact⟨hc.1,pB hS hB hr h3 hc.2⟩
 | .p j::ks,c0::cs,ds,n,n',r,os,l,fp,h,hb,hc=>by
  simp only[bO] at h;split at h;case h_2=>cases h
  case h_1 id =>
  split at h;case h_2=>cases h
  case h_1 i hi =>
  split at h;case h_2=>cases h
  case h_1 r1 Yv n1 hbe hr =>
  have hbe:=b5G hbe;subst hbe;simp only[b5E,b5H] at h;obtain⟨rfl,rfl,rfl⟩:=h;match l,hb with
  | x::l,hb =>
   have hb:x = .pointer (some ⟨B j,0,none⟩)/\iJ w S B ks ds l fp:=by cases ds<;>exact hb
   have hc:aM (C1 c G' lk' w) (bW n (du ks ds)) (kG ks l):=by cases ds<;>exact hc
   obtain⟨q1,q2⟩:=hB j i hi;exact⟨⟨B j,q1,hb.1,q2⟩,pB hS hB hr hb.2 hc⟩
  | [],hb=>cases ds<;>cases hb
 | [],_::_,_,_,_,_,_,_,_,h,_,_=>by simp[bO] at h
 | [],[],_::_,_,_,_,_,_,_,h,_,_=>by simp[bO] at h
 | .d _::_,[],_,_,_,_,_,_,_,h,_,_=>by simp[bO] at h
 | .o _::_,[],_,_,_,_,_,_,_,h,_,_=>by simp[bO] at h
 | .p _::_,[],ds,_,_,_,_,_,_,h,_,_=>by cases ds<;>simp[bO] at h
 | .d _::_,_::_,[],_,_,_,_,_,_,h,_,_=>by simp[bO] at h
 | .o _::_,_::_,[],_,_,_,_,_,_,h,_,_=>by simp[bO] at h
theorem uW{m:List (Nat×Nat)}:∀ {ks:List CK} {cs:List AV} {ds:List TV} {n n':Nat} {r:List AV} {os:List (Nat×av)},bO m ks cs ds n=some (r,os,n')->os=bJ n (du ks ds)/\n'=n+(du ks ds).length
 | [],[],[],n,n',r,os,h=>by
  simp only[bO,b5E,b5H] at h;obtain⟨rfl,rfl,rfl⟩:=h;exact⟨rfl,rfl⟩
 | .d τ::ks,c0::cs,v::ds,n,n',r,os,h=>by
  simp only[bO] at h;split at h;case h_2=>cases h
  case h_1 hv =>
  split at h;case h_2=>cases h
  case h_1 r1 Yv n1 hr =>
  simp only[b5E,b5H] at h;obtain⟨rfl,rfl,rfl⟩:=h;obtain⟨e1,e2⟩:=uW hr;exact⟨e1,e2⟩
 | .o τ::ks,c0::cs,v::ds,n,n',r,os,h=>by
  simp only[bO] at h;split at h;case h_2=>cases h
  case h_1 hv =>
  split at h;case h_2=>cases h
  case h_1 r1 Yv n1 hr =>
  simp only[b5E,b5H] at h;obtain⟨rfl,rfl,rfl⟩:=h;obtain⟨e1,e2⟩:=uW hr;exact⟨by rw[e1];rfl,by rw[e2];simp[du];omega⟩
 | .p j::ks,c0::cs,ds,n,n',r,os,h=>by
  simp only[bO] at h;split at h;case h_2=>cases h
  case h_1 id =>
  split at h;case h_2=>cases h
  case h_1 i hi =>
  split at h;case h_2=>cases h
  case h_1 r1 Yv n1 hbe hr =>
  simp only[b5E,b5H] at h;obtain⟨rfl,rfl,rfl⟩:=h;obtain⟨e1,e2⟩:=uW hr;cases ds<;>exact⟨e1,e2⟩
 | [],_::_,_,_,_,_,_,h=>by simp[bO] at h
 | [],[],_::_,_,_,_,_,h=>by simp[bO] at h
 | .d _::_,[],_,_,_,_,_,h=>by simp[bO] at h
 | .o _::_,[],_,_,_,_,_,h=>by simp[bO] at h
 | .p _::_,[],ds,_,_,_,_,h=>by cases ds<;>simp[bO] at h
 | .d _::_,_::_,[],_,_,_,_,h=>by simp[bO] at h
 | .o _::_,_::_,[],_,_,_,_,h=>by simp[bO] at h
theorem Inv.a6A{s1:aq}(h1:Inv c G s1 a w){S' X:Nat->Prop}{Fi:Nat->Option av}(hk:bX X w w')(hX:∀ b,X b->c.w0.heap.size<=b\/c.X b)(hXS:∀ b,X b->¬ G.S b)
  (hS:∀ b,G.S b->S' b) (XC:∀ b,S' b->b<w'.heap.size) (Z0:∀ b,b<w.heap.size->¬ X b->(S' b↔G.S b))
  (kh:∀ id,(Fi id=s1.ai id/\∀ o b,s1.ai id=some o->dD (G.η id)=some b->¬ X b) \/
   ∃ cs dw,s1.ai id=some (.box cs)/\Fi id=some (.box dw)/\(∀ b,dD (G.η id)=some b->¬ S' b)/\∃ b l t,G.η id = .pointer (some ⟨b,0,none⟩)/\w'.heap[b]?=some (.cells l.toArray t (0,0))/\∀ (G:Gh) (lk:Nat->Option av),aM (C1 c G lk w') dw l)
  (wC:∀ id τ xs b,s1.ai id=some (.aC τ xs)->b∈G.φ id->¬ X b):bf c ⟨S',G.η,G.φ⟩ s1.sl s1.aA.length Fi a w':=by
 have fG:∀ id,eC (s1.ai id) (Fi id):=λ id=>by
  rcases kh id with ⟨e,_⟩|⟨cs,dw,e1,e2,_⟩
  .rw[e];exact eC.refl _
  .rw[e1,e2];exact⟨λ _=>rfl,(λ e τ xs q=>by cases q),(λ q=>by cases q),λ q=>by cases q⟩
 have cb:∀ b,St c G.S b->w'.heap[b]?=w.heap[b]?:=λ b hb=>by
  rcases hb with hb|hb
  .exact hk.block b (h1.dx b hb) λ q=>hXS b q hb
  .exact hk.block b (b6a hb.1 h1.keep.size) λ q=>(hX b q).elim (λ q=>by omega) hb.2.1
 have hold:∀ id o,Fi id=some o->∃ o',s1.ai id=some o'/\(∀ τ xs,o = .aC τ xs->o' = .aC τ xs):=λ id o ho=>by
  rcases kh id with ⟨e,_⟩|⟨cs,dw,e1,e2,_⟩
  .exact⟨o,by rw[<-e];exact ho,λ τ xs q=>q⟩
  .rw[e2] at ho;simp only[b5E] at ho;exact⟨_,e1,λ τ xs q=>by rw[q] at ho;cases ho⟩
 have D0:∀ id τ xs,Fi id=some (.aC τ xs)->s1.ai id=some (.aC τ xs):=λ id τ xs ht=>by
  obtain⟨o',q1,q2⟩:=hold id _ ht;rw[q1,q2 τ xs rfl]
 exact {
  defers:=h1.defers,size:=h1.size
  keep:=h1.keep.trans hk λ i hi hy=>(hX i hy).elim (λ q=>by omega) id
  ju:=h1.ju
  eo:=λ b hb hx=>(Z0 b (b6a hb h1.keep.size) λ q=>(hX b q).elim (λ q=>by omega) hx).trans (h1.eo b hb hx)
  sX:=λ b hb=>hS b (h1.sX b hb)
  dx:=XC
  aA:=λ i=>(h1.aA i).mono (λ id _=>⟨fG id,rfl⟩) hS cb
  aK:=λ id o ho=>by
   rcases kh id with ⟨e,e'⟩|⟨cs,dw,e1,e2,_,b,l,t,e3,e4,e5⟩
   .rw[e] at ho;exact (h1.aK id o ho).mono rfl (λ b hb=>hk.block b (h1.place id o b ho hb).2.2 (e' o b ho hb)) (λ j _=>⟨fG j,rfl⟩) hS cb
   .rw[e2] at ho;simp only[b5E] at ho;subst ho;exact⟨b,l,t,e3,e4,e5 _ _⟩
  place:=λ id o b ho hb=>by
   obtain⟨o',q1,_⟩:=hold id o ho;obtain⟨p1,p2,p3⟩:=h1.place id o' b q1 hb;refine⟨p1,?_,b6a p3 hk.size⟩;rcases kh id with ⟨e,e'⟩|⟨cs,dw,e1,e2,e3,_⟩
   .exact λ q=>p2 ((Z0 b p3 (e' o' b q1 hb)).1 q)
   .exact e3 b hb
  apart:=λ id dk o o' b ho cI hb cw=>by
   obtain⟨p,q1,_⟩:=hold id o ho;obtain⟨p',q2,_⟩:=hold dk o' cI;exact h1.apart id dk p p' b q1 q2 hb cw
  aP:={
   tr:=λ id τ xs ht=>(h1.aP.tr id τ xs (D0 id τ xs ht)).keep λ b hb=>hk.block b (h1.aP.pl id τ xs b (D0 id τ xs ht) hb).2.2.1 (wC id τ xs b (D0 id τ xs ht) hb)
   nd:=λ id τ xs ht=>h1.aP.nd id τ xs (D0 id τ xs ht)
   pl:=λ id τ xs b ht hb=>by
    obtain⟨p1,p2,p3,p4⟩:=h1.aP.pl id τ xs b (D0 id τ xs ht) hb;refine⟨p1,λ q=>p2 ((Z0 b p3 (wC id τ xs b (D0 id τ xs ht) hb)).1 q),b6a p3 hk.size,λ i o ho=>?_⟩;obtain⟨o',q1,_⟩:=hold i o ho;exact p4 i o' q1
   ap:=λ id dk τ aU xs cK b ht G7=>h1.aP.ap id dk τ aU xs cK b (D0 id τ xs ht) (D0 dk aU cK G7) }
  root:=λ id v hr ht=>h1.root id v hr (by
   match hl:Fi id,ht with
   | some (.aC τ xs),_=>rw[D0 id τ xs hl];rfl)
  fZ:=h1.fZ
  dj:=λ id v hr ht=>h1.dj id v hr (by
   rcases kh id with ⟨e,_⟩|⟨cs,dw,e1,e2,_⟩
   .rw[<-e];exact ht
   .rw[e1];rfl)
  eQ:=h1.eQ }
theorem bf.b4n{sl:Nat->AV}{n:Nat}{lk lk2:Nat->Option av}(h:bf c G sl n lk a w)(kh:∀ id,lk2 id=lk id\/∃ cs dw,lk id=some (.box cs)/\lk2 id=some (.box dw)/\∃ b l t,G.η id = .pointer (some ⟨b,0,none⟩)/\w.heap[b]?=some (.cells l.toArray t (0,0))/\aM (C1 c G lk2 w) dw l) :
  bf c G sl n lk2 a w:=by
 have fG:∀ id,eC (lk id) (lk2 id):=λ id=>by
  rcases kh id with e|⟨cs,dw,e1,e2,_⟩
  .rw[e];exact eC.refl _
  .rw[e1,e2];exact⟨λ _=>rfl,(λ e τ xs q=>by cases q),(λ q=>by cases q),λ q=>by cases q⟩
 have hold:∀ id o,lk2 id=some o->∃ o',lk id=some o'/\(∀ τ xs,o = .aC τ xs->o' = .aC τ xs):=λ id o ho=>by
  rcases kh id with e|⟨cs,dw,e1,e2,_⟩
  .exact⟨o,by rw[<-e];exact ho,λ τ xs q=>q⟩
  .rw[e2] at ho;simp only[b5E] at ho;exact⟨_,e1,λ τ xs q=>by rw[q] at ho;cases ho⟩
 have D0:∀ id τ xs,lk2 id=some (.aC τ xs)->lk id=some (.aC τ xs):=λ id τ xs ht=>by
  obtain⟨o',q1,q2⟩:=hold id _ ht;rw[q1,q2 τ xs rfl]
 exact {
  defers:=h.defers,size:=h.size,keep:=h.keep,ju:=h.ju,eo:=h.eo,sX:=h.sX,dx:=h.dx
  aA:=λ i=>(h.aA i).mono (λ id _=>⟨fG id,rfl⟩) (λ _ q=>q) (λ _ _=>rfl)
  aK:=λ id o ho=>by
   rcases kh id with e|⟨cs,dw,e1,e2,b,l,t,e3,e4,e5⟩
   .rw[e] at ho;exact (h.aK id o ho).mono rfl (λ _ _=>rfl) (λ j _=>⟨fG j,rfl⟩) (λ _ q=>q) (λ _ _=>rfl)
   .rw[e2] at ho;simp only[b5E] at ho;subst ho;exact⟨b,l,t,e3,e4,e5⟩
  place:=λ id o b ho hb=>by
   obtain⟨o',q1,_⟩:=hold id o ho;exact h.place id o' b q1 hb
  apart:=λ id dk o o' b ho cI hb cw=>by
   obtain⟨p,q1,_⟩:=hold id o ho;obtain⟨p',q2,_⟩:=hold dk o' cI;exact h.apart id dk p p' b q1 q2 hb cw
  aP:={
   tr:=λ id τ xs ht=>h.aP.tr id τ xs (D0 id τ xs ht)
   nd:=λ id τ xs ht=>h.aP.nd id τ xs (D0 id τ xs ht)
   pl:=λ id τ xs b ht hb=>by
    obtain⟨p1,p2,p3,p4⟩:=h.aP.pl id τ xs b (D0 id τ xs ht) hb;refine⟨p1,p2,p3,λ i o ho=>?_⟩;obtain⟨o',q1,_⟩:=hold i o ho;exact p4 i o' q1
   ap:=λ id dk τ aU xs cK b ht G7=>h.aP.ap id dk τ aU xs cK b (D0 id τ xs ht) (D0 dk aU cK G7) }
  root:=λ id v hr ht=>h.root id v hr (by
   match hl:lk2 id,ht with
   | some (.aC τ xs),_=>rw[D0 id τ xs hl];rfl)
  fZ:=h.fZ
  dj:=λ id v hr ht=>h.dj id v hr (by
   rcases kh id with e|⟨cs,dw,e1,e2,_⟩
   .rw[<-e];exact ht
   .rw[e1];rfl)
  eQ:=h.eQ }
theorem FK{m:List (Nat×Nat)}{S:Nat->Prop}{B:Nat->Nat}{lk:Nat->Option av}:∀ {sh:List (List CK)} {k:Nat} {bz:List (List TV)} {n:Nat} {bs ts:List (Nat×av)} {fp:List Nat},qS lk m sh k bz n=some (bs,ts)->ft w S B k sh bz fp ->
  ∃ uL xs,ts=bJ n uL/\cW w (uL.map TV.aL) xs fp/\(∀ u∈uL,u.τ.agg=false) /\
   (∀ j,k<=j->j<k+sh.length->∃ (id:Nat) (dw:List AV) (l:List Value) (t:TypeId),ai m j=some id/\(id,av.box dw)∈bs/\w.heap[B j]?=some (.cells l.toArray t (0,0))/\l.length=dw.length) /\
   (∀ p∈bs,∃ (j:Nat) (dw:List AV) (l:List Value) (t:TypeId),k<=j/\j<k+sh.length/\ai m j=some p.1/\p.2 = .box dw/\w.heap[B j]?=some (.cells l.toArray t (0,0))/\l.length=dw.length /\
    ∀ (G':Gh) (lk':Nat->Option av),(∀ b,S b->G'.S b)->(∀ j id,ai m j=some id->G'.η id = .pointer (some ⟨B j,0,none⟩)/\fR (lk' id)=true)->aM (C1 c G' lk' w) (bW n uL) xs->aM (C1 c G' lk' w) dw l)
 | [],k,[],n,bs,ts,fp,h,hb=>by
  simp only[qS,b5E,b5H] at h;obtain⟨rfl,rfl⟩:=h;exact⟨[],[],rfl,⟨rfl,hb⟩,by simp,λ j h1 h2=>by simp at h2;omega,by simp⟩
 | ks::sh,k,ds::bz,n,bs,ts,fp,h,hb=>by
  simp only[qS] at h;split at h;case h_2=>cases h
  case h_1 id aS =>
  split at h;case h_2=>cases h
  case h_1 cs jt =>
  split at h;case h_2=>cases h
  case h_1 r os n1 hr =>
  split at h;case h_2=>cases h
  case h_1 bs1 ts1 MB =>
  simp only[b5E,b5H] at h;obtain⟨rfl,rfl⟩:=h;obtain⟨l,t,f1,f2,rfl,hw,hB,hbs⟩:=hb;obtain⟨e1,e2⟩:=uW hr;obtain⟨uL,xs,q1,q2,q3,q4,q5⟩:=FK MB hbs;obtain⟨o1,o2,o3⟩:=hB.uL;have ru:∀ {G':Gh} {lk':Nat->Option av},aM (C1 c G' lk' w) (bW n (du ks ds++uL)) (kG ks l++xs)->aM (C1 c G' lk' w) (bW n (du ks ds)) (kG ks l)/\aM (C1 c G' lk' w) (bW n1 uL) xs:=λ {G' lk'} q=>by
   rw[qX,<-e2] at q;have hl:(bW n (du ks ds)).length=(kG ks l).length:=by
    rw[<-o3];have:∀ (us:List TV) (n:Nat),(bW n us).length=us.length:=λ us=>by
     induction us with
     | nil=>intro n;rfl
     | cons u us ih=>intro n;simp[bW,ih]
    exact this _ _
   have h1:=q.take (bW n (du ks ds)).length;have h2:=q.drop (bW n (du ks ds)).length;rw[b8a,hl,b8a] at h1;rw[b8g,hl,b8g] at h2;exact⟨h1,h2⟩
  have hrl:l.length=r.length:=by
   have:∀ {ks:List CK} {cs:List AV} {ds:List TV} {n n':Nat} {r:List AV} {os:List (Nat×av)} {l:List Value} {fp:List Nat},bO m ks cs ds n=some (r,os,n')->iJ w S B ks ds l fp->l.length=r.length:=by
    intro ks;induction ks with
    | nil =>
     intro cs ds n n' r os l fp h hb;cases cs<;>cases ds<;>simp[bO] at h;obtain⟨rfl,_⟩:=h;cases l with
     | nil=>rfl
     | cons x l=>cases hb
    | cons k0 ks ih =>
     intro cs ds n n' r os l fp h hb;cases l with
     | nil=>cases k0<;>cases ds<;>cases hb
     | cons x l =>
      cases k0 with
      | d τ =>
       cases cs with
       | nil=>simp[bO] at h
       | cons c0 cs =>
        cases ds with
        | nil=>cases hb
        | cons v ds =>
         simp only[bO] at h;split at h;case h_2=>cases h
         case h_1 hv =>
         split at h;case h_2=>cases h
         case h_1 r1 Yv n1 hr =>
         simp only[b5E,b5H] at h;obtain⟨rfl,rfl,rfl⟩:=h;obtain⟨_,h2⟩:=hb;simp[ih hr h2]
      | o τ =>
       cases cs with
       | nil=>simp[bO] at h
       | cons c0 cs =>
        cases ds with
        | nil=>cases hb
        | cons v ds =>
         simp only[bO] at h;split at h;case h_2=>cases h
         case h_1 hv =>
         split at h;case h_2=>cases h
         case h_1 r1 Yv n1 hr =>
         simp only[b5E,b5H] at h;obtain⟨rfl,rfl,rfl⟩:=h;obtain⟨_,_,_,_,h2⟩:=hb;simp[ih hr h2]
      | p j =>
       cases cs with
       | nil=>cases ds<;>simp[bO] at h
       | cons c0 cs =>
        have hb:x = .pointer (some ⟨B j,0,none⟩)/\iJ w S B ks ds l fp:=by cases ds<;>exact hb
        simp only[bO] at h;split at h;case h_2=>cases h
        case h_1 id =>
        split at h;case h_2=>cases h
        case h_1 i hi =>
        split at h;case h_2=>cases h
        case h_1 r1 Yv n1 hbe hr =>
        simp only[b5E,b5H] at h;obtain⟨rfl,rfl,rfl⟩:=h;simp[ih hr hb.2]
   exact this hr hB
  refine⟨du ks ds++uL,kG ks l++xs,by rw[DE,e1,q1,e2],by rw[b7t];exact o1.append q2,λ u hu=>(b5F.1 hu).elim (o2 u) (q3 u),λ j h1 h2=>?_,λ p hp=>?_⟩
  .by_cases hj:j=k
   .subst hj;exact⟨id,r,l,t,aS,b8e ..,hw,hrl⟩
   .obtain⟨dk,dw,l',t',g1,g2,g3,g4⟩:=q4 j (by omega) (by simp at h2;omega);exact⟨dk,dw,l',t',g1,b6U _ g2,g3,g4⟩
  .rcases b5X.1 hp with rfl|hp
   .exact⟨k,r,l,t,b6k _,by simp,aS,rfl,hw,hrl,λ G' lk' h1 h2 h3=>pB h1 h2 hr hB (ru h3).1⟩
   .obtain⟨j,dw,l',t',g1,g2,g3,g4,g5,g7,g6⟩:=q5 p hp;exact⟨j,dw,l',t',by omega,by simp;omega,g3,g4,g5,g7,λ G' lk' h1 h2 h3=>g6 G' lk' h1 h2 (ru h3).2⟩
 | [],_,_::_,_,_,_,_,h,_=>by simp[qS] at h
 | _::_,_,[],_,_,_,_,h,_=>by simp[qS] at h
theorem sC{α:Type}:∀ {l:List (Nat×α)} {k:Nat},(∀ p∈l,p.1≠k)->ai l k=none
 | [],k,_=>rfl
 | (j,o)::l,k,h=>by
  rw[oC,b5I (λ e=>h (j,o) (by simp) e.symm)];exact sC λ p hp=>h p (by simp[hp])
theorem Fj:∀ (ids:List Nat) (l:List (Nat×av)) (i:Nat),ai (gu ids l) i=if i∈ids then none else ai l i
 | [],l,i=>by simp[gu]
 | id::r,l,i=>by
  rw[gu,Fj r,eB];by_cases h1:i∈r
  .simp[h1]
  .by_cases h2:i=id
   .simp[h1,h2]
   .simp[h1,h2]
theorem Gl{m:List (Nat×Nat)}(h2:(m.map (·.2)).Nodup){j k id:Nat}(hj:ai m j=some id)(hk:ai m k=some id):j=k:=by
 have e1:=fe hj;have e2:=fe hk;have:(j,id)=(k,id):=by
  clear hj hk;induction m with
  | nil=>cases e1
  | cons p m ih =>
   simp only[b6w,b6z] at h2;rcases b5X.1 e1 with q1|e1
   .rcases b5X.1 e2 with q2|e2
    .rw[q1,q2]
    .exact absurd (b5N.2 ⟨(k,id),e2,by rw[<-q1]⟩) h2.1
   .rcases b5X.1 e2 with q2|e2
    .exact absurd (b5N.2 ⟨(j,id),e1,by rw[<-q2]⟩) h2.1
    .exact ih h2.2 e1 e2
 exact congrArg Prod.fst this
theorem zB{m:List (Nat×Nat)}{k id:Nat}(h:ai m k=some id):id∈m.map (·.2):=b5N.2 ⟨_,fe h,rfl⟩
theorem a2Y{m:List (Nat×Nat)}{n:Nat}(h1:(m.map (·.1)).Nodup)(hl:m.length=n)(hk:∀ k,k<n->∃ id,ai m k=some id):∀ p∈m,p.1<n:=by
 have yb:List.range n ⊆ m.map (·.1):=λ k iP=>by
  obtain⟨id,q⟩:=hk k (b7y.1 iP);exact b5N.2 ⟨_,fe q,rfl⟩
 have Mz:(m.map (·.1)) ⊆ List.range n:=by
  intro x hx;refine b8I λ hn=>?_;have h3:(x::List.range n).Nodup:=b6z.2 ⟨hn,b8Q⟩;have h4:(x::List.range n) ⊆ m.map (·.1):=λ y hy=>(b5X.1 hy).elim (λ e=>e ▸ hx) (λ hy=>yb hy);have:=b8p h3 h4;simp at this;omega
 exact λ p hp=>b7y.1 (Mz (b5N.2 ⟨p,hp,rfl⟩))
theorem Y7(hE:bl c.P c.E)(h:Inv c G s a w){o:Oper}{cl:Call}{d:Nat}{f:FuncId}(hd:o.dst=some d)(bh:o.op = .call cl)(fX:cl.callee = .value (.func f)){vc:Vc}{s':aq}(hq:WQ c.E s d f cl.argTypes.toList (cl.args.toList.map s.eval)=some (vc,s'))(eb:vc.ok){Q:Exit->Act->World->Prop} :
  o.wp c.P a w (λ a' w'=>∃ G',Inv c G' s' a' w') Q:=by
 unfold WQ at hq;split at hq;case h_2=>cases hq
 case h_1 id rv hrv =>
 split at hq;case h_2=>cases hq
 case h_1 τ xs aS =>
 split at hq;case h_2=>cases hq
 case h_1 Z9 has =>
 split at hq;case h_2=>cases hq
 case h_1 pre ys hc AK =>
 simp only[b5E,b5H] at hq;obtain⟨rfl,rfl⟩:=hq;obtain⟨qD,kB⟩:=hE.Oo f Z9 τ xs pre ys hc eb;have hl:cl.args.toList.map s.eval=rv.reverse++[.aC id]:=by
  have:=congrArg List.reverse hrv;simpa using this
 have gW:=aM.jV (lk:=s.ai) (aW h) cl.args.toList;rw[hl] at gW;have ru:∀ (us:List AV) (zs:List Value),aM (VR c G s.ai w) (us++[.aC id]) zs->∃ z1 v,zs=z1++[v]/\aM (VR c G s.ai w) us z1/\VR c G s.ai w (.aC id) v:=by
  intro us;induction us with
  | nil =>
   intro zs hz;match zs,hz with
   | [v],hz=>exact⟨[],v,rfl,af,hz.1⟩
  | cons u us ih =>
   intro zs hz;match zs,hz with
   | z::zs,hz =>
    obtain⟨z1,v,e,h1,h2⟩:=ih zs hz.2;exact⟨z::z1,v,by rw[e];rfl,⟨hz.1,h1⟩,h2⟩
 obtain⟨z1,v,hz,hz1,hv⟩:=ru _ _ gW;have Q2:=λ b hb=>h.aP.pl id τ xs b aS hb;have dO:=sQ hE h (mf:=[]) (S1:=G.S) (X:=λ b=>b∈G.φ id) (λ _ q=>q) (λ id o ho=>(vx ho).1) (λ τ v x y q1 q2=>zZ (λ id e τ xs q=>by obtain⟨_,_,cs,e⟩:=vx q;cases e) (λ id τ xs q=>by obtain⟨_,_,cs,e⟩:=vx q;cases e) q1 q2)
  (λ b hb q=>by
   obtain⟨p1,p2,_⟩:=Q2 b hb;rcases q with q|⟨q,q3,_⟩
   .exact p2 q
   .exact p1.elim (λ q=>by omega) q3) (λ i o b ho hb hx=>(Q2 b hx).2.2.2 i o (vx ho).1 hb) (lk0:=s.ai) has hz1 hz1 (λ i k hk=>by simp at hk)
 obtain⟨_,l,e9,zp⟩:=hv;have hO:=Ow.a0s (h.aP.tr id τ xs aS) e9;unfold Oper.wp;rw[gJ bh fX rfl qD];simp only[Oper.upon];rw[hz];have hbo:(λ i=>kc G [] i)=λ _=>0:=rfl;refine (kB w G.S z1 v (G.φ id) h.sOk dO hO (h.aP.nd id τ xs aS) (λ b hb=>⟨(Q2 b hb).2.2.1,(Q2 b hb).2.1⟩)).mono ?_;rintro e w' ⟨r,rfl,hk,EL,tI,a1L,yb⟩;obtain⟨l',hT,_⟩:=iK.a0r (τ:=τ) tI;rw[hd];show ∃ G',Inv c G' ((s.cj.gb id τ ys).put (some d) .any) (a.put (some d) r) w';refine h.a2y (w':=w') (t:=s.cj.gb id τ ys) (A:=[(id,(.tuple (v::l').toArray,EL, .aC τ ys))]) ?_ ?_ ?_ (by simp) hk (λ b hb=>⟨_,List.mem_singleton.2 rfl,hb⟩) rfl (λ i=>?_) (λ G' lk=>trivial)
 .intro p hp;simp only[b5Z] at hp;subst hp;exact⟨τ,xs,_,v,l,l',aS,rfl,e9,rfl,hT,a1L⟩
 .intro p hp b hb;simp only[b5Z] at hp;subst hp;rcases yb b hb with q|q
  .exact .inl ⟨_,b5Z.2 rfl,q⟩
  .exact .inr (a4z h q.1 q.2)
 .intro p hp q hq b _ _;simp only[b5Z] at hp hq;rw[hp,hq]
 .rw[Sp,kt]
theorem a0L(hE:bl c.P c.E)(h:Inv c G s a w){o:Oper}{vc:Vc}{s':aq}(hq:WJ c.E s o=some (vc,s'))(eb:vc.ok){Q:Exit->Act->World->Prop} :
  o.wp c.P a w (λ a' w'=>∃ G',Inv c G' s' a' w') Q:=by
 unfold WJ at hq;split at hq;case h_2=>cases hq
 case h_1 d hd =>
 split at hq;case h_2=>cases hq
 case h_1 cl bh =>
 split at hq;case h_2=>cases hq
 case h_1 f fX =>
 split at hq;case h_2 =>
  split at hq;case h_1 r hr=>exact Y7 hE h hd bh fX (hr.trans hq) eb
  case h_2 =>
   cases hq
 case h_1 sk hsk =>
 split at hq;case h_2=>cases hq
 case h_1 m0 hm0 =>
 split at hq;case h_2=>cases hq
 case h_1 bz ids m hm =>
 split at hq;case h_2=>cases hq
 case h_1 a9r =>
 split at hq;case h_2=>cases hq
 case h_1 Z9 has =>
 split at hq;case h_2=>cases hq
 case h_1 pre res dz hc =>
 split at hq;case h_2=>cases hq
 case h_1 bs ts pZ =>
 split at hq;case h_2=>cases hq
 case h_1 G6 =>
 simp only[Option.some.injEq,Prod.mk.injEq] at hq;obtain⟨rfl,rfl⟩:=hq;simp only[Bool.and_eq_true] at a9r;obtain⟨VW,hn2,hn3,hn4⟩:=a9r;have VW:=cZ VW;have hn2:=cZ hn2;have hn3:=cZ hn3;have hn4:=Nat.eq_of_beq_eq_true hn4;simp only[Bool.and_eq_true,List.all_eq_true] at G6;have tK:∀ p∈bg (bD d) res++ts,(ids.foldl aq.gone s).ai p.1=none:=λ p hp=>by simpa using G6.1 p hp
 have pY:=cZ G6.2;obtain⟨qD,kB⟩:=hE.UJ f sk Z9 bz pre res dz hsk hc eb;obtain⟨_,VM⟩:=vM hm0;obtain⟨hx0,VO,fa,QP,N2,b3O⟩:=ud h hm VW;have QP:=QP m (kL.refl m);have VM:∀ (i k:Nat),sk.ps[i]?=some (some k)->∃ id,(cl.args.toList.map s.eval)[i]?=some (AV.ptr id 0)/\ai m k=some id:=λ i k q=>by
  obtain⟨id,q1,q2⟩:=VM i k q;exact⟨id,q1,hx0 k id q2⟩
 have h1:Inv c G (ids.foldl aq.gone s) a w:=wj ids h;have hF:∀ b,b∈fa->uM c G (ids.foldl aq.gone s).ai w b:=λ b hb=>Kp h (b3O b hb);have B9:∀ k,k<sk.sh.length->∃ (id:Nat) (cs:List AV),ai m k=some id/\(ids.foldl aq.gone s).ai id=some (.box cs):=λ k hk=>by
  obtain⟨id,cs,q1,q2⟩:=VO k (Nat.zero_le _) (by simpa using hk);refine⟨id,?_⟩;have aS:id∉ids:=λ hi=>by
   have:∀ {sh:List (List CK)} {k:Nat} {m m':List (Nat×Nat)} {bz:List (List TV)} {ids:List Nat},iH s.ai sh k m=some (bz,ids,m')->∀ i∈ids,∀ cs,s.ai i≠some (.box cs):=by
    have mW:∀ {ks:List CK} {cs:List AV} {m m':List (Nat×Nat)} {ds:List TV} {ids:List Nat},cQ s.ai ks cs m=some (ds,ids,m')->∀ i∈ids,∀ cs,s.ai i≠some (.box cs):=by
     intro ks;induction ks with
     | nil =>
      intro cs m m' ds ids ht;cases cs<;>simp[cQ] at ht;obtain⟨_,rfl,_⟩:=ht;simp
     | cons k0 ks ih =>
      intro cs m m' ds ids ht;cases cs with
      | nil=>cases k0<;>simp[cQ] at ht
      | cons v cs =>
       cases k0 with
       | d τ =>
        simp only[cQ] at ht;split at ht;case h_2=>cases ht
        case h_1 y hy C7 =>
        split at ht;case h_2=>cases ht
        case h_1 ds1 XV m1 hr =>
        simp only[b5E,b5H] at ht;obtain⟨_,rfl,_⟩:=ht;exact ih hr
       | o τ =>
        simp only[cQ] at ht;split at ht;case h_2=>cases ht
        case h_1 y i hy C7 =>
        split at ht;case h_2=>cases ht
        case h_1 ds1 XV m1 hr =>
        simp only[b5E,b5H] at ht;obtain⟨_,rfl,_⟩:=ht;intro j hj Xg;rcases b5F.1 hj with hj|hj
        .unfold eY at hy;split at hy
         .split at hy
          .simp only[b5E,b5H] at hy;obtain⟨_,rfl⟩:=hy;cases hj
          .cases hy
         .split at hy
          .simp only[b5E,b5H] at hy;obtain⟨_,rfl⟩:=hy;cases hj
          .cases hy
         .split at hy
          .rename_i hl;split at hy
           .simp only[b5E,b5H] at hy;obtain⟨_,rfl⟩:=hy;simp only[b5Z] at hj;subst hj;rw[hl];simp
           .cases hy
          .cases hy
         .split at hy
          .rename_i hl;split at hy
           .simp only[b5E,b5H] at hy;obtain⟨_,rfl⟩:=hy;simp only[b5Z] at hj;subst hj;rw[hl];simp
           .cases hy
          .cases hy
         .cases hy
        .exact ih hr j hj Xg
       | p j =>
        simp only[cQ] at ht;split at ht;case h_2=>cases ht
        case h_1 id =>
        split at ht
        .split at ht
         .exact ih ht
         .cases ht
        .exact ih ht
    intro sh;induction sh with
    | nil =>
     intro k m m' bz ids ht;simp only[iH,b5E,b5H] at ht;obtain⟨_,rfl,_⟩:=ht;simp
    | cons ks sh ih =>
     intro k m m' bz ids ht;simp only[iH] at ht;split at ht;case h_2=>cases ht
     case h_1 id aS =>
     split at ht;case h_2=>cases ht
     case h_1 cs jt =>
     split at ht;case h_2=>cases ht
     case h_1 ds i m1 hr =>
     split at ht;case h_2=>cases ht
     case h_1 b3l XV m2 MB =>
     simp only[b5E,b5H] at ht;obtain⟨_,rfl,_⟩:=ht;intro j hj Xg;rcases b5F.1 hj with hj|hj
     .exact mW hr j hj Xg
     .exact ih MB j hj Xg
   exact this hm id hi cs q2
  have:∀ (ids:List Nat) (s:aq) (cs:List AV),id∉ids->s.ai id=some (.box cs)->∃ dw,(ids.foldl aq.gone s).ai id=some (.box dw):=by
   intro ids;induction ids with
   | nil=>intro s cs _ hs;exact⟨cs,hs⟩
   | cons i ids ih =>
    intro s cs hi hs;have eu:id≠i:=λ e=>hi (by simp[e]);refine ih (s.gone i) (cs.map (AV.kill i)) (λ q=>hi (by simp[q])) ?_;rw[Cs,b5I eu,hs];rfl
  obtain⟨dw,q3⟩:=this ids s cs aS q2;exact⟨dw,q1,q3⟩
 generalize hs1:ids.foldl aq.gone s=s1 at *
 have e9:∀ k id,ai m k=some id->k<sk.sh.length->G.η id = .pointer (some ⟨kc G m k,0,none⟩)/\dD (G.η id)=some (kc G m k):=λ k id hk bp=>by
  obtain⟨dk,cs,q1,q2⟩:=B9 k bp;rw[hk] at q1;simp only[b5E] at q1;subst q1;obtain⟨b,l,t,k1,_⟩:=h1.aK id _ q2;have:kc G m k=b:=by
   simp only[kc,hk,k1];rfl
  rw[this,k1];exact⟨rfl,rfl⟩
 have gW:=a2Y hn2 hn4 (λ k hk=>by obtain⟨id,_,q,_⟩:=B9 k hk;exact⟨id,q⟩);have a1K:∀ id,id∈m.map (·.2)->∃ k cs,k<sk.sh.length/\ai m k=some id/\s1.ai id=some (.box cs):=λ id aS=>by
  obtain⟨⟨k,dk⟩,hp,rfl⟩:=b5N.1 aS;have hk:=gW _ hp;have hl:=uT hn2 hp;obtain⟨id2,cs,q1,q2⟩:=B9 k hk;rw[hl] at q1;simp only[b5E] at q1;subst q1;exact⟨k,cs,hk,hl,q2⟩
 have C9:∀ j k,j<sk.sh.length->k<sk.sh.length->kc G m j=kc G m k->j=k:=λ j k hj hk e=>by
  obtain⟨idj,csj,j1,j2⟩:=B9 j hj;obtain⟨idk,csk,k1,k2⟩:=B9 k hk;have:=h1.apart idj idk _ _ (kc G m j) j2 k2 (e9 j idj j1 hj).2 (by rw[e];exact (e9 k idk k1 hk).2);subst this;exact Gl hn3 j1 k1
 have Ud:∀ k,k<sk.sh.length->(c.w0.heap.size<=kc G m k\/c.X (kc G m k))/\¬ G.S (kc G m k)/\kc G m k<w.heap.size:=λ k hk=>by
  obtain⟨id,cs,k1,k2⟩:=B9 k hk;exact h1.place id _ _ k2 (e9 k id k1 hk).2
 have a9t:∀ b∈fa,∀ k,k<sk.sh.length->kc G m k≠b:=λ b hb k hk e=>by
  obtain⟨id,cs,k1,k2⟩:=B9 k hk;exact (hF b hb).2.2.2.1 id _ k2 (by rw[<-e];exact (e9 k id k1 hk).2)
 have hXo:∀ b,BX sk.sh.length (kc G m) fa b->(c.w0.heap.size<=b\/c.X b)/\¬ G.S b:=λ b hb=>by
  rcases hb with hb|⟨k,hk,rfl⟩
  .exact⟨(hF b hb).1,(hF b hb).2.1⟩
  .exact⟨(Ud k hk).1,(Ud k hk).2.1⟩
 have ux:∀ b,BX sk.sh.length (kc G m) fa b->¬ St c G.S b:=λ b hb q=>by
  obtain⟨q1,q2⟩:=hXo b hb;rcases q with q|⟨q,q3,_⟩
  .exact q2 q
  .exact q1.elim (λ q=>by omega) q3
 have lA:∀ id o b,id∉m.map (·.2)->s1.ai id=some o->dD (G.η id)=some b->¬ BX sk.sh.length (kc G m) fa b:=λ id o b aS ho hb q=>by
  rcases q with q|⟨k,hk,rfl⟩
  .exact (hF b q).2.2.2.1 id _ ho hb
  .obtain⟨dk,cs,k1,k2⟩:=B9 k hk;have:=h1.apart id dk _ _ _ ho k2 hb (e9 k dk k1 hk).2;subst this;exact aS (zB k1)
 have a9n:∀ id τ xs b,s1.ai id=some (.aC τ xs)->b∈G.φ id->¬ BX sk.sh.length (kc G m) fa b:=λ id τ xs b ht hb q=>by
  rcases q with q|⟨k,hk,rfl⟩
  .exact (hF b q).2.2.2.2 id τ xs ht hb
  .obtain⟨dk,cs,k1,k2⟩:=B9 k hk;exact (h1.aP.pl id τ xs _ ht hb).2.2.2 dk _ k2 (e9 k dk k1 hk).2
 have zp:∀ id o b,sLk sk.sh s1.ai (m.map (·.2)) id=some o->dD (G.η id)=some b->¬ BX sk.sh.length (kc G m) fa b:=λ id o b ho hb=>lA id o b (Ls ho).2 (Ls ho).1 hb;have a7S:U5 c.P f sk.sh res dz w G.S (kc G m) (cl.args.toList.map a.eval) fa:=by
  cases SV:Kl sk.sh with
  | false =>
   have hU:∀ id o,sLk sk.sh s1.ai (m.map (·.2)) id=some o->∃ cs,o = .box cs:=λ id o q=>by
    unfold sLk at q;rw[SV] at q;exact (vx q).2.2
   have dO:=sQ hE h1 (mf:=m) (λ _ q=>q) (λ id o ho=>(Ls ho).1) (λ τ v x y q1 q2=>zZ (λ id e τ xs q=>by obtain⟨cs,e⟩:=hU _ _ q;cases e) (λ id τ xs q=>by obtain⟨cs,e⟩:=hU _ _ q;cases e) q1 q2) ux zp (lk0:=s.ai) has (aM.jV (aW h1) cl.args.toList) (aM.jV (aW h) cl.args.toList) VM;exact kB w G.S (kc G m) _ fa h1.sOk QP N2 (λ b hb=>⟨(hF b hb).2.2.1,(hF b hb).2.1,a9t b hb⟩) (λ k hk=>⟨(Ud k hk).2.2,(Ud k hk).2.1⟩) C9 dO
  | true =>
   have dO:=sQ hE h1 (mf:=m) (S1:=SX G s1.ai) (λ _ q => .inl q) (λ id o ho=>(Ls ho).1) (λ τ v x y q1 q2=>xO h1.aP h1.aK (λ id o ho=>(Ls ho).1) q1 q2) ux zp (lk0:=s.ai) has (aM.jV (aW h1) cl.args.toList) (aM.jV (aW h) cl.args.toList) VM;refine kB.more SV h1.YY (λ _ q => .inl q) (λ b hb q=>?_) QP N2 (λ b hb=>⟨(hF b hb).2.2.1,(hF b hb).2.1,a9t b hb⟩) (λ k hk=>⟨(Ud k hk).2.2,(Ud k hk).2.1⟩) C9 dO;rcases q with q|⟨id,e,τ,xs,q1,q2⟩|⟨id,τ,xs,q1,q2⟩
   .exact (hXo b hb).2 q
   .refine lA id _ b (λ aS=>?_) q1 q2 hb;obtain⟨_,cs,_,_,q3⟩:=a1K id aS;rw[q1] at q3;cases q3
   .exact a9n id τ xs b q1 q2 hb
 unfold Oper.wp;rw[gJ bh fX rfl qD];simp only[Oper.upon];refine Calls.mono (show U5 c.P f sk.sh res dz w G.S (kc G m) (cl.args.toList.map a.eval) fa from a7S) ?_;rintro e w' ⟨x,S',fp,Iw,rfl,hk,ZZ,hS2,hS3,hO,hB',c6,mX,hBS⟩;obtain⟨uL,xs,e1,e2,e3,e4,e5⟩:=FK pZ hB';let Fi:Nat->Option av:=λ i=>match ai bs i with
  | some (.box cs)=>some (.box (List.replicate cs.length .any))
  | _=>s1.ai i
 have VP:∀ id,id∈m.map (·.2)->∃ (k:Nat) (dw:List AV),k<sk.sh.length/\ai m k=some id/\ai bs id=some (.box dw)/\∃ (l:List Value) (t:TypeId),w'.heap[kc G m k]?=some (.cells l.toArray t (0,0))/\l.length=dw.length:=λ id aS=>by
  obtain⟨k,cs,k1,k2,k3⟩:=a1K id aS;obtain⟨dk,dw,l,t,g1,g2,g3,g4⟩:=e4 k (Nat.zero_le _) (by simpa using k1);rw[k2] at g1;simp only[Option.some.injEq] at g1;subst g1;have bS:∃ o,ai bs id=some o:=by
   cases hl:ai bs id with
   | some o=>exact⟨o,rfl⟩
   | none =>
    exfalso;have:∀ {l:List (Nat×av)} {k:Nat},ai l k=none->∀ p∈l,p.1≠k:=by
     intro l;induction l with
     | nil=>intro k _ p hp;cases hp
     | cons q l ih =>
      intro k hq p hp;obtain⟨j,o⟩:=q;rw[oC] at hq;split at hq
      .cases hq
      .rename_i eu;rcases b5X.1 hp with rfl|hp
       .exact λ e=>eu e.symm
       .exact ih hq p hp
    exact this hl _ g2 rfl
  obtain⟨o,ho⟩:=bS;obtain⟨j,Xg,l2,t2,_,j2,j3,j4,j5,j6,_⟩:=e5 _ (fe ho);have:j=k:=Gl hn3 j3 k2;subst this;simp only at j4;subst j4;exact⟨j,Xg,k1,k2,ho,l2,t2,j5,j6⟩
 have a9q:∀ id,id∉m.map (·.2)->ai bs id=none:=λ id aS=>sC λ p hp e=>by
  obtain⟨j,_,_,_,_,_,j3,_⟩:=e5 p hp;exact aS (e ▸ zB j3)
 have Uj:∀ id,id∉m.map (·.2)->Fi id=s1.ai id:=λ id aS=>by simp only[Fi,a9q id aS]
 have a4J:∀ id k dw,ai m k=some id->ai bs id=some (.box dw)->Fi id=some (.box (List.replicate dw.length .any)):=λ id k dw _ hb=>by simp only[Fi,hb]
 have hA:bf c ⟨S',G.η,G.φ⟩ s1.sl s1.aA.length Fi a w':=by
  refine Inv.a6A h1 (X:=BX sk.sh.length (kc G m) fa) hk (λ b hb=>(hXo b hb).1) (λ b hb=>(hXo b hb).2) ZZ hS2 hS3 (λ id=>?_) a9n;by_cases aS:id∈m.map (·.2)
  .obtain⟨k,dw,q1,q2,q3,l,t,q4,q5⟩:=VP id aS;obtain⟨_,cs,_,_,q6⟩:=a1K id aS;obtain⟨g1,g2⟩:=e9 k id q2 q1;refine .inr ⟨cs,_,q6,a4J id k dw q2 q3,λ b hb=>?_,kc G m k,l,t,g1,q4,λ G' lk'=>?_⟩
   .rw[g2] at hb;simp only[b5E] at hb;subst hb;exact hBS k q1
   .have:∀ (l:List Value),aM (C1 c G' lk' w') (List.replicate l.length .any) l:=λ l=>by
     induction l with
     | nil=>exact trivial
     | cons x l ih=>exact⟨af,ih⟩
    rw[<-q5];exact this l
  .exact .inl ⟨Uj id aS,λ o b ho hb=>lA id o b aS ho hb⟩
 have a4L:∀ p∈bg (bD d) res++ts,p.1∉m.map (·.2):=λ p hp aS=>by
  obtain⟨_,cs,_,_,q⟩:=a1K p.1 aS;rw[tK p hp] at q;cases q
 rw[b6l] at c6;obtain⟨nd1,nd2,nd3⟩:=c6;rw[b7t,b6l] at pY;obtain⟨dd1,dd2,dd3⟩:=pY;have hFr:Fr c ⟨S',G.η,G.φ⟩ Fi w' (fp++Iw):=λ b hb=>by
  obtain⟨q1,q2,q3⟩:=mX b hb;have tJ:∀ i o,Fi i=some o->dD (G.η i)≠some b:=λ i o cq e=>by
   by_cases aS:i∈m.map (·.2)
   .obtain⟨k,dw,g1,g2,_⟩:=VP i aS;rw[(e9 k i g2 g1).2] at e;simp only[b5E] at e;exact q3 k g1 e
   .rw[Uj i aS] at cq;rcases q1 with q1|⟨q1,_⟩
    .exact (hF b q1).2.2.2.1 i o cq e
    .have:=(h1.place i o b cq e).2.2;omega
  have hbt:∀ j τ zs,Fi j=some (.aC τ zs)->b∉G.φ j:=λ j τ zs hj mV=>by
   by_cases aS:j∈m.map (·.2)
   .obtain⟨k,dw,g1,g2,g3,_⟩:=VP j aS;rw[a4J j k dw g2 g3] at hj;cases hj
   .rw[Uj j aS] at hj;rcases q1 with q1|⟨q1,_⟩
    .exact (hF b q1).2.2.2.2 j τ zs hj mV
    .have:=(h1.aP.pl j τ zs b hj mV).2.2.1;omega
  rcases q1 with q1|⟨q1,q1'⟩
  .exact⟨(hF b q1).1,q2,b6a (hF b q1).2.2.1 hk.size,tJ,hbt⟩
  .exact⟨.inl (b7g h1.keep.size q1),q2,q1',tJ,hbt⟩
 have Mu:∀ j,bD d<=j->c.R j=none:=λ j hj=>by
  cases hr:c.R j with
  | none=>rfl
  | some v=>have:=h.fZ j v hr;unfold bD at hj;omega
 obtain⟨ys,tI,S2⟩:=Jj (c:=c) (id:=bD d) hO;obtain⟨G1,uS,k1,k2,k3,k4,k5⟩:=hA.JJ (id:=bD d) tI nd1 (λ b hb=>hFr b (by simp[hb])) (λ p hp=>by
  rw[Uj p.1 (a4L p (by simp[hp]))];exact tK p (by simp[hp])) dd1 Mu
 rw[e1] at dd2 dd3 tK a4L;obtain⟨G2,lk2,p1,p2,p3,p4,_⟩:=k2.zT (us:=uL) (cs:=xs) (fp:=Iw) (id:=bD d+60) e3 e2 nd2 (k5 Iw (λ b hb=>hFr b (by simp[hb])) λ b hb cw=>nd3 b cw b hb rfl) (λ p hp=>by
  rw[k1 p.1];unfold gf;rw[sC (l:=bg (bD d) res) λ q hq e=>dd3 q.1 (List.mem_map.2 ⟨q,hq,rfl⟩) p.1 (List.mem_map.2 ⟨p,hp,rfl⟩) e];simp only;rw[Uj p.1 (a4L p (by simp[hp]))];exact tK p (by simp[hp])) dd2 (λ j hj=>Mu j (by omega))
 have b4b:VR c G2 lk2 w' (jW (bD d) res) x:=S2 G2 lk2 (k4.imp λ u y _ hy=>hy.ext p3);have AJ:=bf.put (d:=some d) p2 b4b;have a9u:∀ i,aq.ai { aA:=s1.aA.set d (jW (bD d) res),aK:=bs++(bg (bD d) res++ts)++gu (m.map (·.2)) s1.aK } i=gf bs (gf (bg (bD d) res) (gf ts (λ i=>if i∈m.map (·.2) then none else s1.ai i))) i:=λ i=>by
  show ai (bs++(bg (bD d) res++ts)++gu (m.map (·.2)) s1.aK) i=_;rw[b6v,oB,show ai (bg (bD d) res++ts++gu (m.map (·.2)) s1.aK)=gf (bg (bD d) res) (gf ts (λ i=>if i∈m.map (·.2) then none else s1.ai i)) from funext λ j=>by
   rw[b6v,oB,show ai (ts++gu (m.map (·.2)) s1.aK)=gf ts (λ i=>if i∈m.map (·.2) then none else s1.ai i) from funext λ j=>by
    rw[oB,show ai (gu (m.map (·.2)) s1.aK)=(λ i=>if i∈m.map (·.2) then none else s1.ai i) from funext λ j=>Fj _ _ j]]]
 generalize cb:({ aA:=s1.aA.set d (jW (bD d) res),aK:=bs++(bg (bD d) res++ts)++gu (m.map (·.2)) s1.aK }:aq)=s2 at *
 have b3T:∀ i,lk2 i=gf ts (gf (bg (bD d) res) Fi) i:=λ i=>by
  rw[p1 i,e1];unfold gf;rw[k1 i];rfl
 have Ul:∀ i,i∉m.map (·.2)->s2.ai i=lk2 i:=λ i aS=>by
  rw[a9u i,b3T i];unfold gf;rw[a9q i aS,Uj i aS];simp only[if_neg aS];cases hV:ai (bg (bD d) res) i with
  | none=>rfl
  | some o =>
   rw[sC (l:=ts) λ q hq e=>dd3 i (b5N.2 ⟨(i,o),fe hV,rfl⟩) q.1 (b5N.2 ⟨q,by rw[<-e1];exact hq,rfl⟩) e.symm]
 have fv:∀ i,i∈m.map (·.2)->∃ k dw,k<sk.sh.length/\ai m k=some i/\ai bs i=some (.box dw)/\lk2 i=some (.box (List.replicate dw.length .any))/\s2.ai i=some (.box dw)/\G2.η i = .pointer (some ⟨kc G m k,0,none⟩):=λ i aS=>by
  obtain⟨k,dw,q1,q2,q3,_⟩:=VP i aS;have hA':=a4J i k dw q2 q3;obtain⟨r1,r2,_⟩:=(k3.trans p3).old i _ hA';refine⟨k,dw,q1,q2,q3,r1,?_,by rw[r2];exact (e9 k i q2 q1).1⟩;rw[a9u i];unfold gf;rw[q3]
 have fG:∀ i,eC (lk2 i) (s2.ai i):=λ i=>by
  by_cases aS:i∈m.map (·.2)
  .obtain⟨k,dw,_,_,_,q4,q5,_⟩:=fv i aS;rw[q4,q5];exact⟨λ _=>rfl,(λ e τ xs q=>by cases q),(λ q=>by cases q),λ q=>by cases q⟩
  .rw[Ul i aS];exact eC.refl _
 have b1o:=bf.b4n (lk2:=s2.ai) AJ (λ i=>by
  by_cases aS:i∈m.map (·.2)
  .obtain⟨k,dw,q1,q2,q3,q4,q5,q6⟩:=fv i aS;obtain⟨j,Xg,l,t,_,j2,j3,j4,j5,_,j7⟩:=e5 _ (fe q3);have:j=k:=Gl hn3 j3 q2;subst this;simp only[av.box.injEq] at j4;subst j4;refine .inr ⟨_,_,q4,q5,kc G m j,l,t,q6,j5,?_⟩;refine j7 G2 s2.ai (λ b hb=>by rw[p3.S,k3.S];exact hb) (λ j' id EY=>?_) (p4.imp λ u y _ hy=>hy.mono (λ i _=>⟨fG i,rfl⟩) (λ _ q=>q) (λ _ _=>rfl));obtain⟨k',b5q,g1,g2,_,_,g5,g6⟩:=fv id (zB EY);have:j'=k':=Gl hn3 EY g2;subst this;exact⟨g6,by rw[g5];rfl⟩
  .exact .inl (Ul i aS))
 refine⟨G2,?_⟩;unfold Inv;rw[hd,<-cb,show aq.sl { aA:=s1.aA.set d (jW (bD d) res),aK:=bs++(bg (bD d) res++ts)++gu (m.map (·.2)) s1.aK }=jD s1.aA.length s1.sl (some d) (jW (bD d) res) from pJ s1.aA d _ _,
  show ({ aA:=s1.aA.set d (jW (bD d) res),aK:=bs++(bg (bD d) res++ts)++gu (m.map (·.2)) s1.aK }:aq).aA.length=s1.aA.length from by simp,cb]
 exact b1o
end
theorem Az(id:Nat)(u:AV):∀ l:List AV,AV.QM id u l=l.map (AV.GQ id u)
 | []=>rfl
 | v::r=>congrArg _ (Az id u r)
section
variable {c:Ctx} {G:Gh} {s:aq} {a:Act} {w w':World}
theorem a5K{lk:Nat->Option av}{id:Nat}{e:TypeId}{τ:Ty}{xs:List τ.den}(ho:OR c G lk w id (.row e τ xs)){S':Nat->Prop}(hS:∀ b,G.S b->S' b)(hb:∀ b,dD (G.η id)=some b->S' b) :
  Rd w S' (Ty.aL (.slice τ) xs) [G.η id]:=by
 obtain⟨l,h1,h2,h3⟩:=ho;exact Uu h1 h2 h3 hS hb
theorem C1.GQ{lk lk':Nat->Option av}{id:Nat}{e:TypeId}{τ:Ty}{xs:List τ.den}(aS:lk id=some (.row e τ xs))(ho:OR c G lk w id (.row e τ xs)){S':Nat->Prop}(hS:∀ b,G.S b->S' b)(hb:∀ b,dD (G.η id)=some b->S' b)
  (bS:∀ j,j≠id->eC (lk j) (lk' j)) {v:AV} {x:Value} (h:C1 c G lk w v x):C1 c ⟨S',G.η,G.φ⟩ lk' w (AV.GQ id (.aO ⟨.slice τ,xs⟩) v) x:=by
 have keep:(∀ j,v.refs j=true->j≠id)->C1 c ⟨S',G.η,G.φ⟩ lk' w v x:=λ hr=>h.mono (λ j hj=>⟨bS j (hr j hj),rfl⟩) hS (λ _ _=>rfl);cases v with
 | row i =>
  simp only[AV.GQ];split
  .rename_i hi;have hi:=b5G hi;subst hi;refine⟨rfl,?_⟩;rw[h.1];exact a5K ho hS hb
  .rename_i hi;refine keep λ j hj=>?_;simp only[AV.refs] at hj;have:=b5G hj;intro e;subst this e;simp at hi
 | eA i k off =>
  simp only[AV.GQ];split
  .trivial
  .rename_i hi;refine keep λ j hj=>?_;simp only[AV.refs] at hj;have:=b5G hj;intro e;subst this e;simp at hi
 | ptr i off =>
  refine keep λ j hj=>?_;simp only[AV.refs] at hj;have:=b5G hj;intro e;subst this e;obtain⟨b,_,_,h3⟩:=h;rw[aS] at h3;cases h3
 | agg cs=>exact h.elim
 | hY cs=>exact h.elim
 | cO f cs=>exact h.elim
 | il v=>exact keep λ j hj=>by cases hj
 | any=>trivial
 | dY=>exact h
 | aO u=>exact keep λ j hj=>by cases hj
 | nil=>exact keep λ j hj=>by cases hj
 | cT u=>exact keep λ j hj=>by cases hj
 | fn f=>exact keep λ j hj=>by cases hj
 | mp i =>
  refine keep λ j hj=>?_;simp only[AV.refs] at hj;have:=b5G hj;intro e;subst this e;have h3:=h.2.1;rw[aS] at h3;cases h3
 | aC i =>
  refine keep λ j hj=>?_;simp only[AV.refs] at hj;have:=b5G hj;intro e;subst this e;have h1:=h.1;rw[aS] at h1;cases h1
 | sub i k o z =>
  refine keep λ j hj=>?_;simp only[AV.refs] at hj;have:=b5G hj;intro e;subst this e;have h1:=h.1;rw[aS] at h1;cases h1
 | eJ i k o z =>
  refine keep λ j hj=>?_;simp only[AV.refs] at hj;have:=b5G hj;intro e;subst this e;have h1:=h.1;rw[aS] at h1;cases h1
theorem Ay(id:Nat)(u:AV):∀ l:List AV,AV.QL id u l=l.map (AV.DT id u)
 | []=>rfl
 | v::r=>congrArg _ (Ay id u r)
theorem C1.DT{lk lk':Nat->Option av}{id:Nat}{τ:Ty}{xs:List τ.den}(aS:lk id=some (.aC τ xs))(hT:iK w (G.η id) τ xs (G.φ id)){S':Nat->Prop}(hS:∀ b,G.S b->S' b)(hb:∀ b∈G.φ id,S' b)
  (bS:∀ j,j≠id->eC (lk j) (lk' j)) {v:AV} {x:Value} (h:C1 c G lk w v x):C1 c ⟨S',G.η,G.φ⟩ lk' w (AV.DT id (.aO ⟨.slice τ,xs⟩) v) x:=by
 have keep:(∀ j,v.refs j=true->j≠id)->C1 c ⟨S',G.η,G.φ⟩ lk' w v x:=λ hr=>h.mono (λ j hj=>⟨bS j (hr j hj),rfl⟩) hS (λ _ _=>rfl);have other:∀ i:Nat,(Nat.beq i id=false\/cR (lk i)=false)->(∀ j,v.refs j=true->Nat.beq i j=true)->C1 c ⟨S',G.η,G.φ⟩ lk' w v x:=λ i hi hr=>keep λ j hj e=>by
  have q:=b5G (hr j hj);subst q;subst e;rcases hi with hi|hi
  .simp at hi
  .rw[aS] at hi;cases hi
 cases v with
 | aC i =>
  simp only[AV.DT];split
  .rename_i hi;have hi:=b5G hi;subst hi;obtain⟨_,l,h2,_⟩:=h;exact⟨rfl,hT.rd h2 hb⟩
  .rename_i hi;exact other i (.inl hi) λ j hj=>hj
 | sub i k o z =>
  simp only[AV.DT];split
  .trivial
  .rename_i hi;exact other i (.inl hi) λ j hj=>hj
 | eJ i k o z =>
  simp only[AV.DT];split
  .trivial
  .rename_i hi;exact other i (.inl hi) λ j hj=>hj
 | row i=>exact other i (.inr (rH h.2.1)) λ j hj=>hj
 | eA i k off =>
  refine other i (.inr ?_) λ j hj=>hj;obtain⟨b,n,cap,e,aU,cK,_,h3,_⟩:=h;rw[h3];rfl
 | ptr i off =>
  refine other i (.inr ?_) λ j hj=>hj;obtain⟨b,_,_,h3⟩:=h;match hl:lk i,h3 with
  | some (.box _),_=>rfl
 | mp i=>exact other i (.inr (HM h.2.1)) λ j hj=>hj
 | agg cs=>exact h.elim
 | hY cs=>exact h.elim
 | cO f cs=>exact h.elim
 | il v=>exact keep λ j hj=>by cases hj
 | any=>trivial
 | dY=>exact h
 | aO u=>exact keep λ j hj=>by cases hj
 | nil=>exact keep λ j hj=>by cases hj
 | cT u=>exact keep λ j hj=>by cases hj
 | fn f=>exact keep λ j hj=>by cases hj
structure Fx(F:AV->AV):Prop where
 aO:∀ v,F (.aO v) = .aO v
 agg:∀ cs,F (.agg cs) = .agg (cs.map F)
 hY:∀ cs,F (.hY cs) = .hY (cs.map F)
 cO:∀ f cs,F (.cO f cs) = .cO f (cs.map F)
 any:F .any = .any
 aC:∀ i,(∃ u,F (.aC i) = .aO u)\/F (.aC i) = .aC i
 cT:∀ v,F (.cT v) = .cT v
section
variable {F:AV->AV} {G':Gh} {lk lk':Nat->Option av} (hF:Fx F) (hC:∀ v x,C1 c G lk w v x->C1 c G' lk' w (F v) x) (hS:∀ b,G.S b->G'.S b)
include hF hC hS
theorem CR.fx{v:AV}{x:Value}(h:CR c G lk w v x):CR c G' lk' w (F v) x:=by
 rcases h.inv with ⟨u,rfl,h1⟩|⟨cs,l,rfl,rfl,h1⟩|h1
 .rw[hF.aO];exact dE.mono h1 hS (λ _ _=>rfl)
 .rw[hF.agg];exact⟨l,rfl,aM.dA _ (h1.imp λ u y _ hy=>hC u y hy)⟩
 .exact (hC _ _ h1).Y4
theorem VR.fx{v:AV}{x:Value}(h:VR c G lk w v x):VR c G' lk' w (F v) x:=by
 have key:C1 c G lk w v x->VR c G' lk' w (F v) x:=λ q=>(hC v x q).fO;cases v with
 | aO u=>rw[hF.aO];exact dE.mono h hS (λ _ _=>rfl)
 | agg cs =>
  obtain⟨l,rfl,h2⟩:=h;rw[hF.agg];exact⟨l,rfl,aM.dA _ (h2.imp λ u y _ hy=>hC u y hy)⟩
 | hY vs =>
  obtain⟨l,rfl,h2⟩:=h;rw[hF.hY];refine⟨l,rfl,aM.dA _ (h2.imp λ u y _ hy=>?_)⟩;cases u with
  | any=>rw[hF.any];trivial
  | aO v=>rw[hF.aO];exact dE.mono hy hS (λ _ _=>rfl)
  | aC i =>
   have q:=hC (.aC i) y hy;rcases hF.aC i with ⟨u,e⟩|e<;>rw[e] at q ⊢
   .exact q.fO
   .exact q
  | agg cs =>
   obtain⟨l,rfl,h2⟩:=hy;rw[hF.agg];exact⟨l,rfl,aM.dA _ (h2.imp λ u y _ hy=>hC u y hy)⟩
  | cT v =>
   have q:=hC (.cT v) y hy;rw[hF.cT] at q ⊢;exact q
  | _=>exact hy.elim
 | cO f cs =>
  obtain⟨l,rfl,h2⟩:=h;rw[hF.cO];exact⟨l,rfl,aM.dA _ (h2.imp λ u y _ hy=>CR.fx hF hC hS hy)⟩
 | any=>rw[hF.any];trivial
 | _=>exact key h
end
theorem a7Q(id:Nat)(u:TV):Fx (AV.GQ id (.aO u)):=⟨λ _=>rfl,λ cs=>by rw[AV.GQ,Az],λ cs=>by rw[AV.GQ,Az],λ f cs=>by rw[AV.GQ,Az],rfl,λ i => .inr rfl,λ _=>rfl⟩
theorem a7P(id:Nat)(u:TV):Fx (AV.DT id (.aO u)):=⟨λ _=>rfl,λ cs=>by rw[AV.DT,Ay],λ cs=>by rw[AV.DT,Ay],λ f cs=>by rw[AV.DT,Ay],rfl,λ i=>by
 simp only[AV.DT];split
 .exact .inl ⟨u,rfl⟩
 .exact .inr rfl,λ _=>rfl⟩
def av.eU(F:AV->AV):av->av
 | .box cs => .box (cs.map F)
 | o=>o
theorem Inv.fix(h:Inv c G s a w)(id:Nat)(F:AV->AV)(hF:Fx F)(B:Nat->Prop)(hB:∀ b,B b->(c.w0.heap.size<=b\/c.X b)/\b<w.heap.size/\(∀ i o,i≠id->s.ai i=some o->dD (G.η i)≠some b)/\∀ i τ xs,i≠id->s.ai i=some (.aC τ xs)->b∉G.φ i)
  (hC:∀ lk',(∀ j,j≠id->eC (s.ai j) (lk' j))->∀ v x,C1 c G s.ai w v x->C1 c ⟨λ b=>G.S b\/B b,G.η,G.φ⟩ lk' w (F v) x) :
  Inv c ⟨λ b=>G.S b\/B b,G.η,G.φ⟩ { aA:=s.aA.map F,aK:=(bB id s.aK).map λ p=>(p.1,p.2.eU F) } a w:=by
 have hS:∀ b,G.S b->G.S b\/B b:=λ b hb => .inl hb;have bS:∀ i,aq.ai { aA:=s.aA.map F,aK:=(bB id s.aK).map λ p=>(p.1,p.2.eU F) } i=(if i=id then none else s.ai i).map (av.eU F):=by
  intro i;show ai ((bB id s.aK).map _) i=_;rw[Gq,eB];rfl
 have fG:∀ j,j≠id->eC (s.ai j) (aq.ai { aA:=s.aA.map F,aK:=(bB id s.aK).map λ p=>(p.1,p.2.eU F) } j):=by
  intro j hj;rw[bS,b5I hj];refine⟨λ hh=>?_,λ e τ xs hh=>⟨e,xs,by rw[hh];rfl,b6k _⟩,λ hh=>?_,λ hh=>?_⟩
  .match hq:s.ai j,hh with
   | some (.box cs),_=>rfl
  .match hq:s.ai j,hh with
   | some (.aC τ xs),_=>rfl
  .match hq:s.ai j,hh with
   | some (.map m),_=>rfl
 have hC:=hC _ fG;have hinv:∀ i o,aq.ai { aA:=s.aA.map F,aK:=(bB id s.aK).map λ p=>(p.1,p.2.eU F) } i=some o->i≠id/\∃ o',s.ai i=some o'/\o=o'.eU F:=λ i o cq=>by
  rw[bS] at cq;simp only[b6C] at cq;obtain⟨o',cq,rfl⟩:=cq;by_cases hi:i=id
  .simp[hi] at cq
  .rw[b5I hi] at cq;exact⟨hi,o',cq,rfl⟩
 exact {
  defers:=h.defers
  size:=by rw[h.size];simp
  keep:=h.keep
  ju:=h.ju
  eo:=λ b hbl hx=>⟨λ hh=>by
   rcases hh with hh|hh
   .exact (h.eo b hbl hx).1 hh
   .exact (hB b hh).1.elim (λ q=>by omega) (λ q=>absurd q hx),λ hh => .inl ((h.eo b hbl hx).2 hh)⟩
  sX:=λ b hh => .inl (h.sX b hh)
  dx:=λ b hh=>by
   rcases hh with hh|hh
   .exact h.dx b hh
   .exact (hB b hh).2.1
  aA:=λ i=>by
   have he:aq.sl { aA:=s.aA.map F,aK:=(bB id s.aK).map λ p=>(p.1,p.2.eU F) } i=F (s.sl i):=by
    simp only[aq.sl,b5P,b7m];cases s.aA[i]? with
    | none=>exact hF.any.symm
    | some v=>rfl
   rw[he];exact VR.fx hF hC hS (h.aA i)
  aK:=λ i o cq=>by
   obtain⟨hi,o',ez,rfl⟩:=hinv i o cq;have cI:=h.aK i o' ez;cases o' with
   | box cs =>
    obtain⟨b,l,t,k1,k2,k3⟩:=cI;exact⟨b,l,t,k1,k2,aM.dA _ (k3.imp λ u y _ hy=>hC u y hy)⟩
   | row e2 j0 mA =>
    obtain⟨l,k1,k2,k3⟩:=cI;exact⟨l,k1,dP.keep hS (λ _ _=>rfl) _ k2,k3⟩
   | aC j0 mA=>trivial
   | map m=>exact cI
  place:=λ i o b cq im=>by
   obtain⟨hi,o',ez,rfl⟩:=hinv i o cq;obtain⟨q1,q2,q3⟩:=h.place i o' b ez im;exact⟨q1,λ hs=>hs.elim q2 λ hs=>(hB b hs).2.2.1 i o' hi ez im,q3⟩
  apart:=λ i j o o2 b cq IV tJ mV=>by
   obtain⟨_,o',ez,rfl⟩:=hinv i o cq;obtain⟨_,o2',b3R,rfl⟩:=hinv j o2 IV;exact h.apart i j o' o2' b ez b3R tJ mV
  aP:=by
   have hold:∀ j j0 mA,aq.ai { aA:=s.aA.map F,aK:=(bB id s.aK).map λ p=>(p.1,p.2.eU F) } j=some (.aC j0 mA)->j≠id/\s.ai j=some (.aC j0 mA):=λ j j0 mA k=>by
    obtain⟨hj,o',IV,e⟩:=hinv j _ k;refine⟨hj,?_⟩;match o',e with
    | .aC ..,e=>rw[IV,e];rfl
    | .box _,e=>cases e
    | .row ..,e=>cases e
    | .map _,e=>cases e
   exact {
    tr:=λ j j0 mA k=>h.aP.tr j j0 mA (hold j j0 mA k).2
    nd:=λ j j0 mA k=>h.aP.nd j j0 mA (hold j j0 mA k).2
    pl:=λ j j0 mA b k cw=>by
     obtain⟨hj,k⟩:=hold j j0 mA k;obtain⟨q1,q2,q3,q4⟩:=h.aP.pl j j0 mA b k cw;refine⟨q1,λ hs=>hs.elim q2 λ hs=>(hB b hs).2.2.2 j j0 mA hj k cw,q3,λ i o cq=>?_⟩;obtain⟨_,o',ez,rfl⟩:=hinv i o cq;exact q4 i o' ez
    ap:=λ j j' j0 a9T mA a9R b k k'=>h.aP.ap j j' j0 a9T mA a9R b (hold j j0 mA k).2 (hold j' a9T a9R k').2 }
  root:=λ i v hr ht=>h.root i v hr (by
   match hl:aq.ai { aA:=s.aA.map F,aK:=(bB id s.aK).map λ p=>(p.1,p.2.eU F) } i,ht with
   | some (.aC ..),_ =>
    obtain⟨_,o',cq,e⟩:=hinv i _ hl;match o',e with
    | .aC ..,e=>rw[cq];rfl
    | .box _,e=>cases e
    | .row ..,e=>cases e
    | .map _,e=>cases e)
  fZ:=h.fZ
  dj:=λ i v hr ht=>h.dj i v hr (by
   match hl:aq.ai { aA:=s.aA.map F,aK:=(bB id s.aK).map λ p=>(p.1,p.2.eU F) } i,ht with
   | some (.box _),_ =>
    obtain⟨_,o',cq,e⟩:=hinv i _ hl;match o',e with
    | .box _,e=>rw[cq];rfl
    | .aC ..,e=>cases e
    | .row ..,e=>cases e
    | .map _,e=>cases e)
  eQ:=h.eQ }
theorem a2Q(id:Nat)(u:AV)(o:av):o.GQ id u=o.eU (AV.GQ id u):=by
 cases o<;>simp[av.GQ,av.eU,Az]
theorem a2P(id:Nat)(u:AV)(o:av):o.DT id u=o.eU (AV.DT id u):=by
 cases o<;>simp[av.DT,av.eU,Ay]
theorem Inv.freeze(h:Inv c G s a w)(id:Nat):∃ G',Inv c G' (s.freeze id) a w:=by
 unfold aq.freeze;split
 .rename_i e τ xs aS;have ho:=h.aK id _ aS;rw[Az];simp only[a2Q];exact⟨_,h.fix id _ (a7Q id _) (λ b=>dD (G.η id)=some b) (λ b hb=>by
   obtain⟨q1,_,q3⟩:=h.place id _ b aS hb;exact⟨q1,q3,λ i o hi cq tJ=>hi (h.apart i id o _ b cq aS tJ hb),λ i τ xs _ k q=>(h.aP.pl i τ xs b k q).2.2.2 id _ aS hb⟩)
   λ lk' hs v x hv=>C1.GQ aS ho (λ _ hb => .inl hb) (λ _ hb => .inr hb) hs hv⟩
 .rename_i τ xs aS;rw[Ay];simp only[a2P];exact⟨_,h.fix id _ (a7P id _) (λ b=>b∈G.φ id) (λ b hb=>by
   obtain⟨q1,_,q3,q4⟩:=h.aP.pl id _ _ b aS hb;exact⟨q1,q3,λ i o _ cq=>q4 i o cq,λ i τ xs hi k q=>hi (h.aP.ap i id _ _ _ _ b k aS q hb)⟩)
   λ lk' hs v x hv=>C1.DT aS (h.aP.tr id _ _ aS) (λ _ hb => .inl hb) (λ _ hb => .inr hb) hs hv⟩
 .exact⟨G,h⟩
theorem Inv.EM:∀ (l:List Nat) {G:Gh} {s:aq},Inv c G s a w->∃ G',Inv c G' (l.foldl aq.freeze s) a w
 | [],G,s,h=>⟨G,h⟩
 | i::r,G,s,h=>by
  obtain⟨G',h'⟩:=h.freeze i;exact Inv.EM r h'
theorem Gm{lk:Nat->Option av}{v:AV}{x:Value}{K:Prop}(hv:VR c G lk w v x)(h:known v K):K:=by
 unfold known at h;split at h
 .rename_i n;obtain⟨_,h1,h2⟩:=hv;refine h ⟨?_,?_⟩
  .have:=h1;simp only[IntKind.min,IntKind.signed,IntKind.bits,b7D] at this;omega
  .have:=h2;simp only[IntKind.max,IntKind.signed,IntKind.bits,b7D] at this;omega
 .rename_i t xs;obtain⟨_,_,_,_,h1,_⟩:=jC hv;exact h h1
 .rename_i xs;obtain⟨s,_,h2,h3⟩:=hv;subst h2;exact h (by rw[b6M];exact h3)
 .exact h
theorem a9W{l:List Operand}{u v:AV}{ev:Operand->AV}(h:l.map ev=[u,v]){lk:Nat->Option av}(cG:∀ x,VR c G lk w (ev x) (a.eval x)):∃ x y,l.map a.eval=[x,y]/\VR c G lk w u x/\VR c G lk w v y:=by
 have:=aM.jV cG l;rw[h] at this;match hl:l.map a.eval,this with
 | [x,y],hh=>exact⟨x,y,rfl,hh.1,hh.2.1⟩
theorem HL(hE:bl c.P c.E)(h:Inv c G s a w){o:Oper}{T:TypeId}{m k x:Operand}(bh:o.op = .mapUpdate T m k x\/o.op = .insert T m k x){vc:Vc}{s':aq}(he:Gr c.E s o.dst T m k x=some (vc,s'))(eb:vc.ok){Q:Exit->Act->World->Prop} :
  o.wp c.P a w (λ a' w'=>∃ G',Inv c G' s' a' w') Q:=by
 unfold Gr at he;split at he
 .rename_i κ ε hT;split at he
  .rename_i id v hm hx;split at he
   .rename_i m' k' x' aS hku V1;split at he
    .rename_i f n hmm;simp only[Option.some.injEq,Prod.mk.injEq] at he;obtain⟨rfl,rfl⟩:=he;have e1:=MV.aN hmm;subst e1;have e3:=TV.aN V1;subst e3;have q1:=aW h m;rw[hm] at q1;have q2:=zY hku (aW h k);have q3:=aW h x;rw[hx] at q3;obtain⟨w',r1,r2⟩:=h.Gr hE hT aS q1 q2 q3 eb;unfold Oper.wp;have:(execOp a.eval o).run c.P w = .ok .skip w':=by
      rcases bh with bh|bh<;>simp only[execOp,bh,b6p,r1,b6i,b6q]
     rw[this];exact⟨G,Inv.put r2 trivial⟩
    .cases he
   .cases he
  .cases he
 .cases he
theorem ZJ(hE:bl c.P c.E)(h:Inv c G s a w){o:Oper}{vc:Vc}{s':aq}(he:Vx c.E s o=some (vc,s'))(eb:vc.ok){Q:Exit->Act->World->Prop} :
  o.wp c.P a w (λ a' w'=>∃ G',Inv c G' s' a' w') Q:=by
 unfold Vx at he;split at he
 .rename_i bh;exact HL hE h (.inl bh) he eb
 .rename_i bh;exact HL hE h (.inr bh) he eb
 .rename_i T ad x bh;split at he
  .rename_i τ r hT;have hp:=aW h ad;have hx:=aW h x;have fin:∀ w' G1 (s1:aq),(Instr.storeAt T (a.eval ad) (a.eval x)).run c.P w = .ok () w'->Inv c G1 s1 a w'->s'=s1.put o.dst .any->o.wp c.P a w (λ a' w'=>∃ G',Inv c G' s' a' w') Q:=by
    intro w' G1 s1 hr hi hs;unfold Oper.wp;have:(execOp a.eval o).run c.P w = .ok .skip w':=by simp only[execOp,bh,Sem.run_bind,hr,Result.andThen_ok,Sem.run_pure]
    rw[this];refine⟨G1,?_⟩;rw[hs];exact Inv.put hi trivial
   split at he
   .rename_i id off cG;split at he
    .rename_i cs aS;split at he
     .rename_i new pZ;split at he
      .rename_i dw AJ;simp only[b5E,b5H] at he;obtain⟨rfl,rfl⟩:=he;rw[cG] at hp;obtain⟨w',k1,k2⟩:=h.store hE hT aS hp ⟨_,pZ,hx⟩ AJ;exact fin w' _ _ k1 k2 rfl
      .cases he
     .cases he
    .cases he
   .rename_i id i cG;split at he
    .rename_i e' aU xs aS;split at he
     .rename_i y eN hy;have eN:=b6n eN;subst eN;simp only[b5E,b5H] at he;obtain⟨rfl,rfl⟩:=he;rw[cG] at hp;obtain⟨w',k1,k2⟩:=h.a3q hE hT aS hp hx hy;exact fin w' _ _ k1 k2 rfl
     .cases he
    .cases he
   .cases he
  .cases he
 .rename_i cl bh;split at he
  .rename_i fX;split at he
   .rename_i d T T' hd QS;split at he
    .rename_i τ b e QR hT;have QR:=b5G QR;subst QR;split at he
     .rename_i id y dO;split at he
      .rename_i e' aU xs ys aS hy;split at he
       .rename_i cK AG kE;have AG:=b5G AG;have e1:=TV.aN kE;cases e1;subst AG;simp only[b5E,b5H] at he;obtain⟨rfl,rfl⟩:=he;obtain⟨x,z,m1,m2,m3⟩:=a9W (a:=a) (c:=c) (G:=G) (w:=w) dO (aW h);obtain⟨v',w',G',k1,k2⟩:=h.append hE hT (d:=d) aS m2 m3 hy eb o.type;have KB:cl.argTypes = #[T,T]:=by rw[<-b6P (xs:=cl.argTypes),QS]
        have E4:cl.args.map a.eval = #[x,z]:=by rw[<-b6P (xs:=cl.args.map a.eval),b7S,m1]
        unfold Oper.wp;have:(execOp a.eval o).run c.P w = .ok (.value v') w':=by
         simp[execOp,bh,resolve,fX,invoke,builtin,KB,E4,k1]
        rw[this];refine⟨G',?_⟩;rw[hd];exact k2
       .cases he
      .cases he
     .cases he
    .cases he
   .cases he
  .cases he
 .cases he
theorem a0q(hE:bl c.P c.E)(h:Inv c G s a w){o0:Oper}{vc:Vc}{v:AV}{ob:Option av}(he:Wj c.E s o0=some (vc,v,ob))(eb:vc.ok){Q:Exit->Act->World->Prop} :
  o0.wp c.P a w (xL c G s.sl s.aA.length s.ai o0.dst a w v ob) Q:=by
 unfold Wj at he;split at he;case h_2=>cases he
 case h_1 cl bh =>
 split at he;case h_2=>cases he
 case h_1 f fX =>
 split at he;case h_2=>cases he
 case h_1 d hd =>
 split at he;case h_2=>cases he
 case h_1 Z9 has =>
 have key:∀ (T:Nat->Prop),(∀ x∈cl.args.toList.map a.eval,∀ q:Addr,x = .pointer (some q)->T q.block)->∀ pre o,c.E.RG f Z9=some (pre,o)->pre.ok->o0.wp c.P a w (λ a' w'=>∃ x S',a'=a.put o0.dst x/\bf c ⟨S',G.η,G.φ⟩ s.sl s.aA.length s.ai a w' /\
   (∀ b,G.S b->S' b)/\(∀ b,dD x=some b->w.heap.size<=b/\b<w'.heap.size/\¬ S' b)/\a3z w' S' T x o) Q:=λ T hT pre o hc eb=>by
  obtain⟨qD,kB⟩:=hE.RG f Z9 pre o hc eb;unfold Oper.wp;rw[gJ bh fX rfl qD];simp only[Oper.upon];refine (kB w G.S T _ h.sOk hT (ic hE h (Cz (λ _ _ h=>h)) (λ _ h=>h) (λ τ v x y h1 h2=>zZ CA yC h1 h2) has (aM.jV (aW h) _))).mono ?_;rintro e w' ⟨x,S',rfl,hk,ZZ,hS2,hb,hx⟩;exact⟨x,S',rfl,bf.grow h hk ZZ hS2,λ b hb=>(ZZ b (h.dx b hb)).2 hb,hb,hx⟩
 split at he;case h_4=>cases he
 case h_3 pre l hc =>
  split at he;case h_2=>cases he
  case h_1 cb =>
  simp only[b5E,b5H] at he;obtain⟨rfl,rfl,rfl⟩:=he;refine b7o ?_ (key (St c G.S) (λ x hx q hq=>?_) _ _ hc eb)
  .rintro a' w' ⟨x,S',rfl,hI,hS,hb,ys,rfl,MC⟩;refine⟨_,S',rfl,hI,ys.toArray.toList,rfl,aM.dA _ (MC.imp λ r y _ hy=>?_)⟩;obtain⟨bb,v⟩:=r;cases bb with
   | true =>
    obtain⟨b,o,cs,h1,h2,h3,h4⟩:=hy;exact⟨b,o,cs,h1,h2.elim .inl λ h2=>h2.imp (hS b) id,h3,h4⟩
   | false=>exact hy
  .obtain⟨y,hy,rfl⟩:=b5N.1 hx;have h1:=b6y.1 cb _ (b5N.2 ⟨y,hy,rfl⟩);have h2:=aW h y;generalize s.eval y=v at h1 h2;rw[hq] at h2;cases v with
   | cT u=>obtain⟨b,o,cs,e,h3,_⟩:=h2;cases e;exact h3
   | aO u =>
    obtain⟨τ,z⟩:=u;cases τ with
    | int k=>obtain⟨e,_⟩:=h2;cases e
    | bool=>have e:[Value.pointer (some q)]=[.bool z]:=h2;cases e
    | str=>obtain⟨_,e,_⟩:=h2;cases e
    | slice t=>obtain⟨_,_,e,_⟩:=h2;cases e
    | st s=>obtain⟨_,e,_⟩:=h2;cases e
    | mv t=>cases z with
     | none=>obtain⟨_,_,_,e⟩:=h2;cases e
     | some z=>obtain⟨_,_,e,_⟩:=h2;cases e
    | ptr=>cases h1
   | _=>cases h1
 case h_1 pre cells hc =>
  simp only[b5E,b5H] at he;obtain⟨rfl,rfl,rfl⟩:=he;refine b7o ?_ (key (λ _=>True) (λ _ _ _ _=>trivial) _ _ hc eb);rintro a' w' ⟨x,S',rfl,hI,_,hb,b,l,t,rfl,hh,jt⟩;exact⟨_,S',rfl,hI,⟨d,hd,rfl⟩,⟨b,l,t,rfl,hh,aM.dA _ (jt.imp λ u y _ hy=>hy)⟩,hb⟩
 case h_2 pre e τ xs hc =>
  simp only[b5E,b5H] at he;obtain⟨rfl,rfl,rfl⟩:=he;refine b7o ?_ (key (λ _=>True) (λ _ _ _ _=>trivial) _ _ hc eb);rintro a' w' ⟨x,S',rfl,hI,_,hb,l,h1,h2,h3⟩;exact⟨_,S',rfl,hI,⟨d,hd,rfl⟩,⟨l,h1,h2,h3⟩,hb⟩
theorem Lp(hE:bl c.P c.E)(h:Inv c G s a w){o:Oper}{K:aq->Prop}(hr:kH c.E o K s){Q:Exit->Act->World->Prop} :
  o.wp c.P a w (λ a' w'=>∃ G' s',Inv c G' s' a' w'/\K s') Q:=by
 unfold kH at hr;split at hr
 .exact hr.elim
 rename_i IS;obtain⟨G1,h1⟩:=h.EM (ku c.E s o);generalize (ku c.E s o).foldl aq.freeze s=s1 at *
 simp only at hr;split at hr
 .rename_i vc s' he;exact b7o (λ a' w' ⟨G',hg⟩=>⟨G',s',hg,(Vc.jE hr).2⟩) (a0L hE h1 he (Vc.jE hr).1)
 split at hr
 .rename_i vc s' he;exact b7o (λ a' w' ⟨G',hg⟩=>⟨G',s',hg,(Vc.jE hr).2⟩) (ZC hE h1 he (Vc.jE hr).1)
 split at hr
 .rename_i vc s' he;exact b7o (λ a' w' ⟨G',hg⟩=>⟨G',s',hg,(Vc.jE hr).2⟩) (ZJ hE h1 he (Vc.jE hr).1)
 .split at hr
  .rename_i vc s' he;exact b7o (λ a' w' ⟨G',hg⟩=>⟨G',s',hg,(Vc.jE hr).2⟩) (a0u hE h1 he (Vc.jE hr).1)
  split at hr
  .rename_i vc v ob he;refine b7o ?_ (a0q hE h1 he (Vc.jE hr).1);intro a' w' hd;obtain⟨G',hl⟩:=Rs h1 IS hd;exact⟨G',_,hl,(Vc.jE hr).2⟩
  .split at hr
   .rename_i vc v ob hq;obtain⟨eb,hk⟩:=Vc.jE hr;refine b7o ?_ (Jl hE h1 (λ _ _ h=>h) (aW h1) hq eb);intro a' w' hd;obtain⟨G',hl⟩:=Rs h1 IS hd;refine⟨G',_,hl,?_⟩;split at hk
    .obtain⟨x,S',_,_,hx⟩:=hd;cases ob with
     | none=>exact Gm hx hk
     | some ob =>
      obtain⟨hL,_⟩:=hx;cases ob with
      | box cs=>obtain⟨i,_,rfl⟩:=hL;exact hk
      | row e τ xs=>obtain⟨i,_,rfl⟩:=hL;exact hk
      | aC τ xs=>exact hL.elim
      | map m=>obtain⟨i,_,rfl⟩:=hL;exact hk
    .exact hk
   .exact hr.elim
theorem ZW{t:Array Value}{i:Nat}{b:Bool}(h:t.getD i undef = .bool b):t[i]?=some (.bool b):=by
 rw[b6D] at h;cases hx:t[i]? with
 | none=>rw[hx] at h;simp[undef] at h
 | some v=>rw[hx] at h;simpa using h
theorem IN{ops:Array Oper}{g t:Nat}{b:Bool}(ht:wu ops g=some t)(hx:VR c G s.ai w (.aO ⟨.bool,b⟩) (a.eval (.tmp t))):yielded ops a.tmps g=some b:=by
 have hb:[a.eval (.tmp t)]=[.bool b]:=hx;simp only[List.cons.injEq,and_true] at hb;have:=ZW hb;unfold yielded;rw[show (ops[g]?).bind (·.dst)=some t from ht];simp[this]
theorem ER{ops:Array Oper}{g t:Nat}(ht:wu ops g=some t)(hx:VR c G s.ai w .dY (a.eval (.tmp t))):yielded ops a.tmps g=none:=by
 have hb:a.eval (.tmp t)=undef:=hx;have hb:a.tmps.getD t undef=undef:=hb;unfold yielded;rw[show (ops[g]?).bind (·.dst)=some t from ht];rw[Array.getD_eq_getD_getElem?] at hb;cases hx:a.tmps[t]? with
 | none=>simp[hx]
 | some v =>
  rw[hx] at hb;have hv:v=undef:=hb;subst hv;simp[hx,undef]
theorem Inv.slot(h:Inv c G s a w)(t:Nat){b b':Bool}(he:s.eval (.tmp t) = .aO ⟨.bool,b⟩)(hb:b=b'):Inv c G (s.put (some t) (.aO ⟨.bool,b'⟩)) a w:=by
 have:s.put (some t) (.aO ⟨.bool,b'⟩)=s\/(s.put (some t) (.aO ⟨.bool,b'⟩)).sl=s.sl:=by
  right;rw[a2n];funext i;unfold jD;split
  .rename_i hi;obtain⟨h1,h2⟩:=hi;simp only[b5E] at h1;subst h1;rw[<-hb,<-he];rfl
  .rfl
 rcases this with e|e
 .rw[e];exact h
 .unfold Inv;rw[e,Uq,N9];exact h
theorem BA(hE:bl c.P c.E){ops:Array Oper}{Q:aq->Prop}{o:Oper}{r:List Oper}{kn:List (Nat×Bool)}(h:Inv c G s a w)(hr:eZ c.E ops (o::r) kn Q s) :
  if Region.wanted o (yielded ops a.tmps)=true then ∀ Q':Exit->Act->World->Prop,o.wp c.P a w (λ a' w'=>∃ G' s' nV,Inv c G' s' a' w'/\eZ c.E ops r nV Q s') Q'
  else ∃ G' s' nV,Inv c G' s' (a.put o.dst undef) w/\eZ c.E ops r nV Q s':=by
 have run:∀ (kn:List (Nat×Bool)) (s:aq),Inv c G s a w->kH c.E o (eZ c.E ops r kn Q) s->∀ Q':Exit->Act->World->Prop,o.wp c.P a w (λ a' w'=>∃ G' s' nV,Inv c G' s' a' w'/\eZ c.E ops r nV Q s') Q':=λ kn s hs cJ Q' =>
  b7o (λ a' w' ⟨G',s',h1,h2⟩=>⟨G',s',kn,h1,h2⟩) (Lp hE hs cJ)
 have skip:∀ (kn:List (Nat×Bool)) (s:aq),Inv c G s a w->eZ c.E ops r kn Q (s.put o.dst .dY)->∃ G' s' nV,Inv c G' s' (a.put o.dst undef) w/\eZ c.E ops r nV Q s':=λ kn s hs hk =>
  ⟨G,_,kn,Inv.put (v := .dY) hs rfl,hk⟩
 simp only[eZ] at hr;split at hr
 .rename_i hg;have hw:Region.wanted o (yielded ops a.tmps)=true:=by simp[Region.wanted,hg]
  rw[b5Q hw];exact run kn s h hr
 .rename_i g want hg;split at hr
  .exact hr.elim
  .rename_i t ht;split at hr
   .rename_i b hb;split at hr
    .rename_i b' cG;have hx:=aW h (.tmp t);rw[cG] at hx;have hy:=IN (s:=s) ht hx;split at hr
     .rename_i im IQ;have im:=eq_of_beq im;subst im;have hw:Region.wanted o (yielded ops a.tmps)=true:=by simp[Region.wanted,hg,hy];simpa using IQ
      rw[b5Q hw];exact run kn s h hr
     .rename_i im IQ;have im:=eq_of_beq im;subst im;have hw:Region.wanted o (yielded ops a.tmps)=false:=by simp[Region.wanted,hg,hy];simpa using IQ
      rw[hw];exact skip kn s h hr
     .exact hr.elim
    .rename_i cG;have hx:=aW h (.tmp t);rw[cG] at hx;have hy:=ER (s:=s) ht hx;have hw:Region.wanted o (yielded ops a.tmps)=false:=by simp[Region.wanted,hg,hy]
     rw[hw];exact skip kn s h hr
    .exact hr.elim
   .split at hr
    .rename_i b cG;have hx:=aW h (.tmp t);rw[cG] at hx;have hy:=IN (s:=s) ht hx;by_cases IQ:b=want
     .have hw:Region.wanted o (yielded ops a.tmps)=true:=by simp[Region.wanted,hg,hy,IQ]
      rw[b5Q hw];exact run _ _ (h.slot t cG IQ) (hr.1 IQ)
     .have Z3:b = !want:=by cases b<;>cases want<;>simp_all
      have hw:Region.wanted o (yielded ops a.tmps)=false:=by simp[Region.wanted,hg,hy,Z3]
      rw[hw];exact skip _ _ (h.slot t cG Z3) (hr.2 Z3)
    .rename_i cG;have hx:=aW h (.tmp t);rw[cG] at hx;have hy:=ER (s:=s) ht hx;have hw:Region.wanted o (yielded ops a.tmps)=false:=by simp[Region.wanted,hg,hy]
     rw[hw];exact skip kn s h hr
    .exact hr.elim
theorem yO(hE:bl c.P c.E){ops:Array Oper}{Q:aq->Prop}{Q':Exit->Act->World->Prop}(hQ:∀ G s a w,Inv c G s a w->Q s->Q' .normal a w) :
  ∀ (r:List Oper) (i:Nat) (kn:List (Nat×Bool)) (G:Gh) (s:aq) (a:Act) (w:World),(∀ j o,r[j]?=some o->ops[i+j]?=some o)->Inv c G s a w->eZ c.E ops r kn Q s->wpOps c.P ops Q' (List.range' i r.length) a w
 | [],i,kn,G,s,a,w,_,h,hr=>hQ G s a w h hr
 | o::r,i,kn,G,s,a,w,a9x,h,hr=>by
  have ho:ops[i]?=some o:=a9x 0 o rfl;have wA:∀ j p,r[j]?=some p->ops[i+1+j]?=some p:=λ j p hj=>by
   have:=a9x (j+1) p (by simpa using hj);rwa [show i+(j+1)=i+1+j by omega] at this
  simp only[b5S,List.range'_succ,wpOps,ho];have wB:=BA hE h hr;split at wB
  .rename_i hw;rw[b5Q hw];exact .inl (b7o (λ a' w' ⟨G',s',nV,h1,h2⟩=>yO hE hQ r (i+1) nV G' s' a' w' wA h1 h2) (wB Q'))
  .rename_i hw;rw[b5I hw];obtain⟨G',s',nV,h1,h2⟩:=wB;exact yO hE hQ r (i+1) nV G' s' _ w wA h1 h2
end
structure LP where
 Hi:Bool
 v:AV
 ob:Option av
def GV(want Hi:Bool):AV->Prop
 | .aO ⟨.bool,b⟩=>Hi=(b == want)
 | .dY=>Hi=false
 | _=>False
def fU(l:List Oper)(bits:Nat)(s:aq)(o:Oper)(Hi:Bool):Prop :=
 match o.guard with
 | none=>Hi=true
 | some (g,want)=>∃ t v,ck l g=some t/\Nat.testBit bits g=true/\s.eval (.tmp t)=v/\GV want Hi v
def PU(E:Env)(l:List Oper)(m bits:Nat)(s:aq)(o:Oper)(e:LP):Prop :=
 fU l bits s o e.Hi/\(e.Hi=true->∃ vc:Vc,Jk E (O7 l m bits s) (SN l m bits s) o=some (vc,e.v,e.ob)/\vc.ok)/\(e.Hi=false->e.v = .dY/\e.ob=none)
def Trace(E:Env)(l:List Oper)(m:Nat)(bM:List Nat):Nat->List Oper->List LP->aq->aq->Prop
 | _,[],[],s,s'=>s=s'
 | i,o::r,e::es,s,s'=>PU E l m (bM.getD i 0) s o e/\Trace E l m bM (i+1) r es (s.jj o.dst e.v e.ob) s'
 | _,_,_,_,_=>False
def UA{s:aq}{t:Nat}{v:AV}(h:s.eval (.tmp t)=v)(hv:v ≠ .any):s.put (some t) v=s:=by
 have bp:t<s.aA.length:=by
  rcases b6E t s.aA.length with hl|hl
  .exact hl
  .simp only[aq.eval,b5P,b8v hl,Option.getD_none] at h;exact absurd h.symm hv
 simp only[aq.eval,b5P,b6e bp,b8R] at h;simp only[aq.put];congr 1;subst h;exact List.set_getElem_self bp
def MW(s:aq)(d:Option Nat):s.jj d .dY none=s.put d .dY:=by cases d<;>rfl
def rp{E:Env}{l:List Oper}{m:Nat}{bM:List Nat}{Q:List (Nat×Bool)->aq->Prop}:∀ {r:List Oper} {i:Nat} {kn:List (Nat×Bool)} {s:aq},ma E l m bM i r kn Q s ->
  ∃ es nV s',Trace E l m bM i r es s s'/\Q nV s'
 | [],i,kn,s,h=>⟨[],kn,s,rfl,h⟩
 | o::r,i,kn,s,h=>by
  have run:∀ kn,fU l (bM.getD i 0) s o true->Lq E l m (bM.getD i 0) o (ma E l m bM (i+1) r kn Q) s->∃ es nV s',Trace E l m bM i (o::r) es s s'/\Q nV s':=by
   intro kn hg hr;unfold Lq at hr;split at hr
   .split at hr
    .rename_i vc v ob hq;obtain⟨es,nV,s',h1,h2⟩:=rp (Vc.jE hr).2;exact⟨⟨true,v,ob⟩::es,nV,s',⟨⟨hg,λ _=>⟨vc,hq,(Vc.jE hr).1⟩,λ h=>(by cases h)⟩,h1⟩,h2⟩
    .exact hr.elim
   .exact hr.elim
  have skip:∀ kn,fU l (bM.getD i 0) s o false->ma E l m bM (i+1) r kn Q (s.put o.dst .dY)->∃ es nV s',Trace E l m bM i (o::r) es s s'/\Q nV s':=by
   intro kn hg hr;obtain⟨es,nV,s',h1,h2⟩:=rp hr;exact⟨⟨false, .dY,none⟩::es,nV,s',⟨⟨hg,λ h=>(by cases h),λ _=>⟨rfl,rfl⟩⟩,by rw[MW];exact h1⟩,h2⟩
  simp only[ma] at h;split at h
  .rename_i hg;exact run kn (by simp[fU,hg]) h
  .rename_i g want hg;split at h
   .rename_i t ht Ug;split at h
    .rename_i b hb;split at h
     .rename_i b' cG;split at h
      .rename_i im IQ;have im:=eq_of_beq im;subst im;exact run kn (by simp only[fU,hg];exact⟨t,_,ht,Ug,cG,IQ.symm⟩) h
      .rename_i im IQ;have im:=eq_of_beq im;subst im;exact skip kn (by simp only[fU,hg];exact⟨t,_,ht,Ug,cG,IQ.symm⟩) h
      .exact h.elim
     .rename_i cG;exact skip kn (by simp only[fU,hg];exact⟨t,_,ht,Ug,cG,rfl⟩) h
     .exact h.elim
    .split at h
     .rename_i b cG;by_cases IQ:b=want
      .have h':=h.1 IQ;subst IQ;rw[UA cG (by simp)] at h';exact run _ (by simp only[fU,hg];exact⟨t,_,ht,Ug,cG,by simp[GV]⟩) h'
      .have Z3:b = !want:=by cases b<;>cases want<;>simp_all
       have h':=h.2 Z3;rw[<-Z3,UA cG (by simp)] at h';exact skip _ (by simp only[fU,hg];exact⟨t,_,ht,Ug,cG,by simpa [GV] using IQ⟩) h'
     .rename_i cG;exact skip kn (by simp only[fU,hg];exact⟨t,_,ht,Ug,cG,rfl⟩) h
     .exact h.elim
   .exact h.elim
def dK(l:List Oper)(es:List LP)(s0:aq)(π:List Nat):aq :=
 π.foldl (λ s k=>s.jj (ck l k) (es.getD k ⟨false, .any,none⟩).v (es.getD k ⟨false, .any,none⟩).ob) s0
def MX(s:aq)(d:Option Nat)(v:AV)(o:Option av):(s.jj d v o).aA.length=s.aA.length:=by cases d<;>simp[aq.jj]
def KZ(l:List Oper)(es:List LP):∀ (π:List Nat) (s0:aq),(dK l es s0 π).aA.length=s0.aA.length
 | [],_=>rfl
 | k::π,s0=>by
  show (dK l es (s0.jj _ _ _) π).aA.length=_;rw[KZ l es π,MX]
def Lt(s:aq)(d:Option Nat)(v:AV)(o:Option av):(s.jj d v o).sl=jD s.aA.length s.sl d v:=by
 cases d with
 | none=>funext i;simp[aq.jj,jD]
 | some d=>exact pJ s.aA d v _
def Ct(s:aq)(d:Option Nat)(v:AV)(o:Option av)(j:Nat):(s.jj d v o).ai j=if d=some j then (match o with
  | some o=>some o
  | none=>s.ai j) else s.ai j:=by
 cases d with
 | none=>simp[aq.jj]
 | some d =>
  cases o with
  | none =>
   simp only[aq.jj,aq.ai,ite_self]
  | some o =>
   show ai ((d,o)::s.aK) j=_;rw[dr];by_cases h:j=d
   .subst h;simp
   .have:¬ (some d=some j):=by simp;exact λ e=>h e.symm
    rw[b5I h,b5I this];rfl
def gq(l:List Oper)(es:List LP)(t:Nat):∀ (π:List Nat) (s0:aq),(∀ k∈π,ck l k≠some t)->(dK l es s0 π).sl t=s0.sl t/\(dK l es s0 π).ai t=s0.ai t
 | [],_,_=>⟨rfl,rfl⟩
 | k::π,s0,h=>by
  obtain⟨h1,h2⟩:=gq l es t π (s0.jj (ck l k) (es.getD k ⟨false, .any,none⟩).v (es.getD k ⟨false, .any,none⟩).ob) (λ j hj=>h j (by simp[hj]));have hk:=h k (by simp);constructor
  .show (dK l es (s0.jj _ _ _) π).sl t=_;rw[h1,Lt,jD,b5I (λ hh=>hk hh.1)]
  .show (dK l es (s0.jj _ _ _) π).ai t=_;rw[h2,Ct,b5I hk]
def xj(l:List Oper)(es:List LP)(t k:Nat)(hk:ck l k=some t):∀ (π:List Nat) (s0:aq),k∈π->π.Nodup->(∀ j∈π,j≠k->ck l j≠some t) ->
  (dK l es s0 π).sl t=(if t<s0.aA.length then (es.getD k ⟨false, .any,none⟩).v else s0.sl t) /\
  (dK l es s0 π).ai t=(match (es.getD k ⟨false, .any,none⟩).ob with
   | some o=>some o
   | none=>s0.ai t)
 | [],_,h,_,_=>by simp at h
 | j::π,s0,h,hn,ho=>by
  have zm:=b6z.1 hn;by_cases hj:j=k
  .subst hj;obtain⟨h1,h2⟩:=gq l es t π (s0.jj (ck l j) (es.getD j ⟨false, .any,none⟩).v (es.getD j ⟨false, .any,none⟩).ob) (λ i hi=>ho i (by simp[hi]) (λ e=>by subst e;exact zm.1 hi));constructor
   .show (dK l es (s0.jj _ _ _) π).sl t=_;rw[h1,Lt,jD];simp[hk]
   .show (dK l es (s0.jj _ _ _) π).ai t=_;rw[h2,Ct,b5Q hk]
  .have KH:=ho j (by simp) hj;obtain⟨h1,h2⟩:=xj l es t k hk π (s0.jj (ck l j) (es.getD j ⟨false, .any,none⟩).v (es.getD j ⟨false, .any,none⟩).ob) (by simpa [Ne.symm hj] using h) zm.2 (λ i hi=>ho i (by simp[hi]));constructor
   .show (dK l es (s0.jj _ _ _) π).sl t=_;rw[h1,MX,Lt,jD,b5I (c:=ck l j=some t/\_) (λ hh=>KH hh.1)]
   .show (dK l es (s0.jj _ _ _) π).ai t=_;rw[h2];split
    .rfl
    .rw[Ct,b5I KH]
def R9{l:List Oper}{es:List LP}{m bits:Nat}{s0:aq}{π π':List Nat}(pc:∀ j k t,j<m->k<m->ck l j=some t->ck l k=some t->j=k)
  (hπ:∀ k∈π,k<m) (Re:∀ k∈π',k<m) (hn:π.Nodup) (zm:π'.Nodup) (ha:∀ k,k<m->Nat.testBit bits k=true->k∈π/\k∈π') (t:Nat) (hh:hidden l m bits t=false) :
  (dK l es s0 π).sl t=(dK l es s0 π').sl t/\(dK l es s0 π).ai t=(dK l es s0 π').ai t:=by
 by_cases hex:∃ k,k<m/\ck l k=some t
 .obtain⟨k,hk,hd⟩:=hex;have hb:Nat.testBit bits k=true:=by
   have:=hh;unfold hidden at this;rw[List.any_eq_false] at this;have:=this k (by simpa using hk);simp only[hd] at this;simp only[Nat.beq_refl] at this;simpa using this
  obtain⟨h1,h2⟩:=ha k hk hb;obtain⟨e1,e2⟩:=xj l es t k hd π s0 h1 hn (λ j hj eu DX=>eu (pc j k t (hπ j hj) hk DX hd));obtain⟨e3,e4⟩:=xj l es t k hd π' s0 h2 zm (λ j hj eu DX=>eu (pc j k t (Re j hj) hk DX hd));exact⟨e1.trans e3.symm,e2.trans e4.symm⟩
 .have hU:∀ k,k<m->ck l k≠some t:=λ k hk hd=>hex ⟨k,hk,hd⟩;obtain⟨e1,e2⟩:=gq l es t π s0 (λ k hk=>hU k (hπ k hk));obtain⟨e3,e4⟩:=gq l es t π' s0 (λ k hk=>hU k (Re k hk));exact⟨e1.trans e3.symm,e2.trans e4.symm⟩
def F7(acc:List Nat)(k:Nat):∀ (es:List Edge) (s:Nat),Nat.testBit (es.foldl (uZ acc) s) k=true->Nat.testBit s k=true\/∃ e∈es,Region.binds .any e=true/\(k=e.on\/Nat.testBit (acc.getD e.on 0) k=true)
 | [],s,h => .inl h
 | e::es,s,h=>by
  simp only[b7C] at h;rcases F7 acc k es _ h with h|⟨e',AG,h⟩
  .unfold uZ at h;split at h
   .rename_i hb;simp only[Nat.testBit_or,b7d] at h;rcases h with h|h|h
    .exact .inl h
    .refine .inr ⟨e,by simp,hb, .inl ?_⟩;rw[Nat.one_shiftLeft,Nat.testBit_two_pow] at h;exact (b6n h).symm
    .exact .inr ⟨e,by simp,hb, .inr h⟩
   .exact .inl h
  .exact .inr ⟨e',by simp[AG],h⟩
def xN:∀ (l:List Oper) (acc:List Nat),∃ r,bF l acc=acc++r/\r.length=l.length /\
  ∀ i o,l[i]?=some o->∀ k,Nat.testBit ((acc++r).getD (acc.length+i) 0) k=true->∃ e∈o.after.toList,Region.binds .any e=true/\(k=e.on\/(e.on<acc.length+i/\Nat.testBit ((acc++r).getD e.on 0) k=true))
 | [],acc=>⟨[],by simp[bF],rfl,by simp⟩
 | o::l,acc=>by
  simp only[bF];obtain⟨r,h1,h2,h3⟩:=xN l (acc++[o.after.toList.foldl (uZ acc) 0]);refine⟨_::r,by rw[h1,b6v];rfl,by simp[h2],λ i p hp k hk=>?_⟩;cases i with
  | zero =>
   simp at hp;subst hp;have iP:Nat.testBit (o.after.toList.foldl (uZ acc) 0) k=true:=by
    simpa [List.getD_eq_getElem?_getD] using hk
   rcases F7 acc k _ 0 iP with h|⟨e,he,hb,h⟩
   .simp at h
   .refine⟨e,he,hb,h.imp id λ h=>?_⟩;have bp:e.on<acc.length:=by
     rcases b6E e.on acc.length with hl|hl
     .exact hl
     .simp[b5P,b8v hl] at h
    refine⟨by omega,?_⟩;rw[b5P,b6X bp,<-b5P];exact h
  | succ i =>
   have:=h3 i p (by simpa using hp) k (by
    have e1:(acc++[o.after.toList.foldl (uZ acc) 0]).length+i=acc.length+(i+1):=by simp;omega
    rw[e1,b6v];exact hk)
   obtain⟨e,he,hb,h⟩:=this;refine⟨e,he,hb,h.imp id λ ⟨h1,h2⟩=>⟨by simp at h1;omega,?_⟩⟩;rw[b6v] at h2;exact h2
def zM:∀ (l:List Nat) (i m0:Nat),m0<=i->nk l i m0<=i+l.length/\m0<=nk l i m0/\∀ j b,l[j]?=some b->nk l i m0<=i+j->b+1=2 ^ (i+j)
 | [],i,m0,h=>by simp[nk];exact h
 | b::l,i,m0,h=>by
  simp only[nk];split
  .rename_i hb;have hb:=b5G hb;obtain⟨h1,h2,h3⟩:=zM l (i+1) m0 (by omega);refine⟨by simp;omega,h2,λ j b' hj hle=>?_⟩;cases j with
   | zero=>simp at hj;subst hj;exact hb
   | succ j=>rw[show i+(j+1)=i+1+j by omega];exact h3 j b' (by simpa using hj) (by omega)
  .obtain⟨h1,h2,h3⟩:=zM l (i+1) (i+1) (b6k _);refine⟨by simp;omega,by omega,λ j b' hj hle=>?_⟩;cases j with
   | zero=>omega
   | succ j=>rw[show i+(j+1)=i+1+j by omega];exact h3 j b' (by simpa using hj) (by omega)
theorem vy(l:List Oper)(es:List LP)(s0:aq)(π:List Nat)(i:Nat):dK l es s0 (π++[i])=(dK l es s0 π).jj (ck l i) (es.getD i ⟨false, .any,none⟩).v (es.getD i ⟨false, .any,none⟩).ob:=by
 simp[dK,b8t]
theorem UQ{E:Env}{l:List Oper}{m:Nat}{bM:List Nat}{s0:aq}:∀ (r:List Oper) (i:Nat) (es yV:List LP) (s s':aq),Trace E l m bM i r es s s'->(∀ j o,r[j]?=some o->l[i+j]?=some o)->yV.length=i ->
  s=dK l (yV++es) s0 (List.range i) ->
  (∀ j o,r[j]?=some o->PU E l m (bM.getD (i+j) 0) (dK l (yV++es) s0 (List.range (i+j))) o ((yV++es).getD (i+j) ⟨false, .any,none⟩))/\s'=dK l (yV++es) s0 (List.range (i+r.length))
 | [],i,[],yV,s,s',h,_,_,hs=>by
  have h:s=s':=h;subst h;exact⟨by simp,by simpa using hs⟩
 | o::r,i,e::es,yV,s,s',h,hl,h0,hs=>by
  obtain⟨h1,h2⟩:=h;have ho:l[i]?=some o:=hl 0 o rfl;have N3:(yV++e::es).getD i ⟨false, .any,none⟩=e:=by simp[b5P,<-h0]
  have cb:s.jj o.dst e.v e.ob=dK l ((yV++[e])++es) s0 (List.range (i+1)):=by
   rw[b6v,List.range_succ,vy,b8w,N3,<-hs];simp[ck,ho]
  have ih:=UQ r (i+1) es (yV++[e]) _ s' h2 (λ j p hj=>by
   have:=hl (j+1) p (by simpa using hj);rwa [show i+(j+1)=i+1+j by omega] at this) (by simp[h0]) cb
  rw[b6v,b8w] at ih;refine⟨λ j p hj=>?_,by rw[ih.2];congr 2;simp;omega⟩;cases j with
  | zero =>
   simp at hj;subst hj;rw[b7W,N3,<-hs];exact h1
  | succ j =>
   have:=ih.1 j p (by simpa using hj);rwa [show i+1+j=i+(j+1) by omega] at this
 | [],_,_::_,_,_,_,h,_,_,_=>h.elim
 | _::_,_,[],_,_,_,h,_,_,_=>h.elim
theorem u9:∀ (m:Nat) (π:List Nat),π.Nodup->(∀ k∈π,k<m)->π.length<=m
 | 0,π,_,h=>by
  cases π with
  | nil=>simp
  | cons k r=>exact absurd (h k (by simp)) (by omega)
 | m+1,π,hn,h=>by
  by_cases hm:m∈π
  .have h1:=u9 m (π.erase m) (hn.erase m) (λ k hk=>by
    have h2:=(hn.mem_erase_iff).1 hk;have:=h k h2.2;have:=h2.1;omega)
   have h3:=b7Y hm;have:0<π.length:=b8c hm;omega
  .have:=u9 m π hn (λ k hk=>by
    have:=h k hk;have:k≠m:=λ e=>by subst e;exact hm hk
    omega)
   omega
section
variable {c:Ctx} {G:Gh} {s:aq} {a:Act} {w w':World}
theorem C1.dU{lk:Nat->Option av}{v:AV}{x:Value}(h:C1 c G lk w v x){d:Nat}(hr:v.refs d=true):lk d≠none:=by
 cases v with
 | ptr i o =>
  have:=b5G (show Nat.beq i d=true from hr);subst this;obtain⟨_,_,_,h3⟩:=h;intro e;rw[e] at h3;cases h3
 | row i =>
  have:=b5G (show Nat.beq i d=true from hr);subst this;obtain⟨_,h3,_⟩:=h;intro e;rw[e] at h3;cases h3
 | eA i k o =>
  have:=b5G (show Nat.beq i d=true from hr);subst this;obtain⟨_,_,_,_,_,_,_,h3,_⟩:=h;intro e;rw[e] at h3;cases h3
 | aC i =>
  have:=b5G (show Nat.beq i d=true from hr);subst this;intro e;have h1:=h.1;rw[e] at h1;cases h1
 | sub i k o z =>
  have:=b5G (show Nat.beq i d=true from hr);subst this;intro e;have h1:=h.1;rw[e] at h1;cases h1
 | eJ i k o z =>
  have:=b5G (show Nat.beq i d=true from hr);subst this;intro e;have h1:=h.1;rw[e] at h1;cases h1
 | mp i =>
  have:=b5G (show Nat.beq i d=true from hr);subst this;intro e;have h1:=h.2.1;rw[e] at h1;cases h1
 | agg cs=>exact h.elim
 | hY cs=>exact h.elim
 | cO f cs=>exact h.elim
 | _=>cases hr
theorem oG{d:Nat}:∀ {cs:List AV},AV.fT d cs=true->∃ v∈cs,v.refs d=true
 | v::r,h=>by
  simp only[AV.fT] at h;split at h
  .rename_i hv;exact⟨v,by simp,hv⟩
  .obtain⟨u,hu,hr⟩:=oG h;exact⟨u,by simp[hu],hr⟩
theorem aM.mem_left{α β:Type}{R:α->β->Prop}:∀ {Z9:List α} {bs:List β},aM R Z9 bs->∀ x∈Z9,∃ y,R x y
 | _::_,b::_,h,x,hx=>by
  rcases b5X.1 hx with rfl|hx
  .exact⟨b,h.1⟩
  .exact aM.mem_left h.2 x hx
theorem VR.dU{lk:Nat->Option av}{v:AV}{x:Value}(h:VR c G lk w v x){d:Nat}(hr:v.refs d=true):lk d≠none:=by
 cases v with
 | aO u=>cases hr
 | agg cs =>
  obtain⟨l,_,hl⟩:=h;obtain⟨u,hu,E3⟩:=oG (show AV.fT d cs=true from hr);obtain⟨y,hy⟩:=hl.mem_left u hu;exact hy.dU E3
 | hY vs =>
  obtain⟨l,_,hl⟩:=h;obtain⟨u,hu,E3⟩:=oG (show AV.fT d vs=true from hr);obtain⟨y,hy⟩:=hl.mem_left u hu;cases u with
  | aC i=>exact C1.dU (c:=c) (G:=G) (w:=w) (v := .aC i) hy E3
  | agg cs =>
   obtain⟨l,_,hl⟩:=hy;obtain⟨u,hu,E3⟩:=oG (show AV.fT d cs=true from E3);obtain⟨y,hy⟩:=hl.mem_left u hu;exact hy.dU E3
  | _=>first|(cases E3;done)|exact hy.elim
 | cO f vs =>
  obtain⟨l,_,hl⟩:=h;obtain⟨u,hu,E3⟩:=oG (show AV.fT d vs=true from hr);obtain⟨y,hy⟩:=hl.mem_left u hu;rcases hy.inv with ⟨v,rfl,_⟩|⟨cs,l,rfl,_,hl⟩|h1
  .cases E3
  .obtain⟨u,hu,E3⟩:=oG (show AV.fT d cs=true from E3);obtain⟨y,hy⟩:=hl.mem_left u hu;exact hy.dU E3
  .exact h1.dU E3
 | ptr i o=>exact C1.dU (c:=c) (G:=G) (w:=w) (v := .ptr i o) h hr
 | row i=>exact C1.dU (c:=c) (G:=G) (w:=w) (v := .row i) h hr
 | eA i k o=>exact C1.dU (c:=c) (G:=G) (w:=w) (v := .eA i k o) h hr
 | aC i=>exact C1.dU (c:=c) (G:=G) (w:=w) (v := .aC i) h hr
 | sub i k o z=>exact C1.dU (c:=c) (G:=G) (w:=w) (v := .sub i k o z) h hr
 | eJ i k o z=>exact C1.dU (c:=c) (G:=G) (w:=w) (v := .eJ i k o z) h hr
 | mp i=>exact C1.dU (c:=c) (G:=G) (w:=w) (v := .mp i) h hr
 | _=>cases hr
theorem Inv.RP(h:Inv c G s a w){d:Nat}(hd:s.ai d=none):(∀ i,(s.sl i).refs d=false)/\∀ i o,s.ai i=some o->o.refs d=false:=by
 refine⟨λ i=>?_,λ i o ho=>?_⟩
 .cases hr:(s.sl i).refs d with
  | false=>rfl
  | true=>exact absurd hd ((h.aA i).dU hr)
 .cases o with
  | row e τ xs=>rfl
  | aC τ xs=>rfl
  | map m=>rfl
  | box cs =>
   cases hr:av.refs d (.box cs) with
   | false=>rfl
   | true =>
    obtain⟨b,l,t,_,_,k3⟩:=h.aK i _ ho;obtain⟨u,hu,E3⟩:=oG (show AV.fT d cs=true from hr);obtain⟨y,hy⟩:=k3.mem_left u hu;exact absurd hd (hy.dU E3)
theorem N8(h0:Inv c G s a w){d:Option Nat}{v:AV}{ob:Option av}{a':Act}(IS:ti d=true)(tK:∀ i o,d=some i->ob=some o->s.ai i=none)(h:xL c G s.sl s.aA.length s.ai d a w v ob a' w') :
  ∃ G',Inv c G' (s.jj d v ob) a' w':=by
 obtain⟨x,S',rfl,hI,hx⟩:=h;cases ob with
 | none =>
  refine⟨⟨S',G.η,G.φ⟩,?_⟩;have:s.jj d v none=s.put d v:=by cases d<;>rfl
  rw[this];exact Inv.put (s:=s) hI hx
 | some o =>
  obtain⟨hL,hN,hb⟩:=hx;have hd:∃ i,d=some i:=by cases o<;>first|exact⟨_,hL.choose_spec.1⟩|exact hL.elim
  obtain⟨i,rfl⟩:=hd;have hi:=tK i o rfl rfl;have xF:Inv c ⟨S',G.η,G.φ⟩ s a w':=hI;obtain⟨VW,hn2⟩:=xF.RP hi;have hor:o.refs i=false:=by
   cases o with
   | row e τ xs=>rfl
   | aC τ xs=>rfl
   | map m=>rfl
   | box cs =>
    cases hr:av.refs i (.box cs) with
    | false=>rfl
    | true =>
     obtain⟨b,l,t,_,_,k3⟩:=hN;obtain⟨u,hu,E3⟩:=oG (show AV.fT i cs=true from hr);obtain⟨y,hy⟩:=k3.mem_left u hu;exact absurd hi (hy.dU E3)
  have pZ:OR c ⟨S',λ j=>if j=i then x else G.η j,G.φ⟩ (λ j=>if j=i then some o else s.ai j) w' i o:=by
   cases o with
   | box cs =>
    obtain⟨b,l,t,k1,k2,k3⟩:=hN;refine⟨b,l,t,by simp[k1],k2,k3.imp λ u y hu hy=>hy.mono (λ j hj=>?_) (λ _ h=>h) (λ _ _=>rfl)⟩;have eu:j≠i:=λ e=>by
     subst e;have:=lQ hu hj;rw[show AV.fT j cs=av.refs j (.box cs) from rfl,hor] at this;cases this
    simp only[b5I eu];exact⟨eC.refl _,af⟩
   | row e τ xs =>
    obtain⟨l,k1,k2,k3⟩:=hN;exact⟨l,by simpa using k1,k2,k3⟩
   | aC τ xs=>exact hN.elim
   | map m =>
    obtain⟨b,es,clock,k1,k2,k3⟩:=hN;exact⟨b,es,clock,by simp[k1],k2,k3⟩
  have XQ:cR (some o)=false:=by
   cases o with
   | aC τ xs=>exact hN.elim
   | _=>rfl
  have h4:=bf.newObj xF i o x hi VW hn2 hor pZ XQ (.inr (b6R IS)) (λ b Ca=>by
   obtain⟨q1,q2,q3⟩:=hb b Ca;have hle:=h0.keep.size;refine⟨by omega,q3,q2,λ j p hjp OL=>?_,λ j τ xs hj OL=>?_⟩
   .have:=(h0.place j p b hjp OL).2.2;omega
   .have:=(h0.aP.pl j τ xs b hj OL).2.2.1;omega)
  refine⟨⟨S',λ j=>if j=i then x else G.η j,G.φ⟩,?_⟩;unfold Inv;have bS:(s.jj (some i) v (some o)).ai=λ j=>if j=i then some o else s.ai j:=by
   funext j;rw[Ct];by_cases hj:j=i
   .subst hj;simp
   .have:¬ (some i=some j):=by simp;exact λ e=>hj e.symm
    rw[b5I this,b5I hj]
  rw[Lt,bS,MX];refine bf.put h4 ?_;cases o with
  | box cs =>
   obtain⟨j,hj,rfl⟩:=hL;simp only[b5E] at hj;subst hj;obtain⟨b,l,t,k1,k2,k3⟩:=hN;exact⟨b,by simp[k1],k1,by simp[fR]⟩
  | row e τ xs =>
   obtain⟨j,hj,rfl⟩:=hL;simp only[b5E] at hj;subst hj;obtain⟨l,k1,k2,k3⟩:=hN;refine⟨by simp,by simp[isRow],?_⟩;rcases k1.2 with ⟨rfl,_⟩|⟨g,cap,cur,rfl,_⟩
   .exact⟨_,_,_,rfl⟩
   .exact⟨_,_,_,rfl⟩
  | aC τ xs=>exact hN.elim
  | map m =>
   obtain⟨j,hj,rfl⟩:=hL;simp only[b5E] at hj;subst hj;obtain⟨b,es,clock,k1,k2,k3⟩:=hN;exact⟨by simp,by simp[I3],b,k1⟩
theorem ZR(h:Inv c G s a w)(o:Oper):Inv c G (s.fresh o) a w:=by
 unfold aq.fresh;split
 .rename_i d _ _;obtain⟨h1,_,_⟩:=h.clear d;have bS:aq.ai { s.bQ d with aK:=bB d (s.bQ d).aK }=λ i=>if i=d then none else (s.bQ d).ai i:=by
   funext i;exact eB d _ i
  unfold Inv;show bf c G (s.bQ d).sl (s.bQ d).aA.length (aq.ai { s.bQ d with aK:=bB d (s.bQ d).aK }) a w;rw[bS,show (s.bQ d).aA.length=s.aA.length from by simp[aq.bQ]];exact h1
 .exact h
theorem Xz(s:aq)(o:Oper)(j:Nat):(s.ai j=none->(s.fresh o).ai j=none)/\(vP o.op=true->o.dst=some j->(s.fresh o).ai j=none):=by
 unfold aq.fresh;split
 .rename_i d hc hd;have bS:aq.ai { s.bQ d with aK:=bB d (s.bQ d).aK } j=if j=d then none else (s.ai j).map (av.kill d):=by
   show ai (bB d (s.bQ d).aK) j=_;rw[eB];have:=congrFun (dX s d) j;show (if j=d then none else (s.bQ d).ai j)=_;rw[this]
  rw[bS];refine⟨λ h=>by rw[h];simp,λ _ hj=>?_⟩;rw[hd] at hj;simp only[b5E] at hj;rw[b5Q hj.symm]
 .rename_i hU;exact⟨λ h=>h,λ hc hd=>(hU j hc hd).elim⟩
theorem B5:∀ (l:List Oper) {s:aq},Inv c G s a w->Inv c G (l.foldl aq.fresh s) a w
 | [],_,h=>h
 | o::r,_,h=>B5 r (ZR h o)
theorem zd:∀ (l:List Oper) (s:aq) (j:Nat),(s.ai j=none->(l.foldl aq.fresh s).ai j=none)/\(∀ o∈l,vP o.op=true->o.dst=some j->(l.foldl aq.fresh s).ai j=none)
 | [],s,j=>⟨λ h=>h,by simp⟩
 | o::r,s,j=>by
  obtain⟨h1,h2⟩:=zd r (s.fresh o) j;obtain⟨h3,h4⟩:=Xz s o j;refine⟨λ h=>h1 (h3 h),λ p hp hc hd=>?_⟩;rcases b5X.1 hp with rfl|hp
  .exact h1 (h4 hc hd)
  .exact h2 p hp hc hd
theorem Qj{E:Env}{lk:Nat->Option av}{f:FuncId}{Ts:List TypeId}{vs:List AV}{vc:Vc}{v:AV}{ob:Option av}(h:Gc E lk f Ts vs=some (vc,v,ob)):ob=none:=by
 unfold Gc at h;repeat' split at h
 all_goals first
  | (simp only[b5E,b5H] at h;exact h.2.2.symm)
  | cases h
theorem NQ{E:Env}{lk:Nat->Option av}{g:AV}{Ts:List TypeId}{vs:List AV}{vc:Vc}{v:AV}{ob:Option av}(h:Aq E lk g Ts vs=some (vc,v,ob)):ob=none:=by
 unfold Aq at h;split at h
 .rename_i r hr;repeat' split at hr
  all_goals first
   | (simp only[b5E] at hr h;subst hr;simp only[b5H] at h;exact h.2.2.symm)
   | cases hr
 .repeat' split at h
  all_goals first
   | (simp only[b5E,b5H] at h;exact h.2.2.symm)
   | cases h
theorem Li{E:Env}{lk:Nat->Option av}{ev:Operand->AV}{o:Oper}{vc:Vc}{v:AV}{ob:av}(h:Jk E lk ev o=some (vc,v,some ob)):vP o.op=true:=by
 unfold Jk at h;split at h;case h_4 T bh=>rw[bh];rfl
 case h_5 T x bh=>rw[bh];rfl
 case h_7 T n ps bh=>rw[bh];rfl
 case h_21 T bh=>rw[bh];rfl
 case h_19 T x y bh=>rw[bh];rfl
 case h_20 cl bh =>
  split at h
  .repeat' split at h
   all_goals first
    | (simp at h;done)
    | cases h
  .rename_i fX;rw[bh];simp[vP,fX]
  .rename_i fX;repeat' (split at h)
   all_goals first|cases h|skip
  .exact absurd (Qj h) (by simp)
  .split at h
   .exact absurd (Qj h) (by simp)
   .exact absurd (NQ h) (by simp)
   .exact absurd (NQ h) (by simp)
   .cases h
  .cases h
 all_goals (repeat' split at h)
 all_goals first
  | (simp at h;done)
  | cases h
end
end Go.Proofs.YtlpndogmpcolnaaGreatDoor
